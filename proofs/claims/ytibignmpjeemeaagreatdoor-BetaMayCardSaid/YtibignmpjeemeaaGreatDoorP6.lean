/- Contracts of this program's functions and the laws that they need. -/
import Derived.Test.YtibignmpjeemeaaGreatDoorP4
set_option linter.unusedVariables false
set_option linter.unusedSimpArgs false
set_option linter.unusedSectionVars false
namespace Go.Hy
open Go.Proofs Go.Proofs.Tryz
theorem sm_ {p q : Prop} (h : p) (e : p = q := by
 try (conv => lhs; simp only [sC, bne_iff_ne, beq_iff_eq, ne_eq])
 try rfl) : q := e ▸ h
class Da (P : Program) (k : FuncId) (fn : outParam Func) : Prop where
 f : P.funcs[k]? = some fn
structure Ao (p : Prop) : Prop where
 out : p
section
variable {P : Program} {f : FuncId} {R : Ending → World → Prop} {B : C6} {n : Fz} {K : List Item} {σ : Nat → Value} {Γ Γ' : List Fact} {Ms : List B4}
theorem f_ {k : FuncId} {fn : Func} [h : Da P k fn] : P.funcs[k]? = some fn := h.f
theorem Pg {fn : Func} {id : Nat} {ops : Array Oper} [h9 : Da P f fn] (h : Dw P f R B n K ops (List.range ops.size) σ Γ Ms) : Es P f R B n (.code (.region id ops false) :: K) σ Γ Ms := go_region ⟨_, h9.f⟩ rfl h
theorem qi_ {Q : Program} [Tab Q] {g : FuncId} {S : Ending → World → Prop} {C : C6} {m : Fz} {L : List Item} {ops : Array Oper} {i : Nat} {l : List Nat} {τ : Nat → Value} {Δ : List Fact} {Ns : List B4} {dst : Option Tmp} {op : Op} {ty : TypeId} {pos : String} {after : Array Edge} {e d : Nat} {want : Bool} {og : Oper} (ho : ops[i]? = some ⟨dst, op, ty, pos, after, some (e, want)⟩) (t : Bool) {p q : Prop} (kT : t = want → p → Ep Q g S C m L ops l (Cb dst op ty) (Rc τ d (.bool want)) Δ Ns) (kF : t = !want → q → Dw Q g S C m L ops l (Af (Rc τ d (.bool !want)) dst undef) Δ Ns) (hog : ops[e]? = some og := by exact rfl) (hgd : og.dst = some d := by exact rfl) (ht : τ d = .bool t := by exact A9) (e1 : (t = want) = p := by
 try (conv => lhs; simp only [sC, bne_iff_ne, beq_iff_eq, ne_eq])
 try rfl) (e2 : (t = !want) = q := by
 try (conv => lhs; simp only [Bool.not_true, Bool.not_false, sC, bne_iff_ne, beq_iff_eq, ne_eq])
 try rfl) (hd : Aa m dst = true := by rfl) : Dw Q g S C m L ops (i :: l) τ Δ Ns := qI ho hog hgd ht (fun h => kT h (e1 ▸ h)) (fun h => kF h (e2 ▸ h)) hd
theorem C3 {d : Nat} {x y : Code} (t : Bool) {p q : Prop} (kT : t = true → p → Es P f R B n (.code x :: K) (Rc σ d (.bool true)) Γ Ms) (kF : t = false → q → Es P f R B n (.code y :: K) (Rc σ d (.bool false)) Γ Ms) (hc : σ d = .bool t := by exact A9) (e1 : (t = true) = p := by
 try (conv => lhs; simp only [sC, bne_iff_ne, beq_iff_eq, ne_eq])
 try rfl) (e2 : (t = false) = q := by
 try (conv => lhs; simp only [sC, bne_iff_ne, beq_iff_eq, ne_eq])
 try rfl) : Es P f R B n (.code (.cond (.tmp d) x y) :: K) σ Γ Ms := A5 (fun h => kT h (e1 ▸ h)) (fun h => kF h (e2 ▸ h)) hc
theorem Dp {fn : Func} {c : Code} {m : Nat} {args : List Value} {pre : List Fact} {Ms0 : List B4} {X : Type} {val : X → Value} {N : X → List Fact} {Ms1 : X → List B4} [h9 : Da P f fn] (hn : fn.ntmps = m) (h : ∀ B : C6, (∀ b, B.S0 b ↔ B9 Ms0 b) → Es P f (Ends B val N Ms1) B ⟨m, [], .normal⟩ [.code c] (fun t => args.getD t undef) pre Ms0) (hb : fn.body = some c := by exact rfl) (ha : args.length ≤ m := by exact Nat.le_of_ble_eq_true rfl) : Spec P f args.toArray pre Ms0 val N Ms1 := Mk h9.f hn hb ha h
theorem St.l9 {w : World} (hs : St B Γ Ms w) (h : ∀ F, F ∈ Γ' → F ∈ Γ := by simp +contextual) : St B Γ' Ms w := hs.less h
theorem St.l7 {w : World} (hs : St B Γ Ms w) (h : ∀ F, F ∈ ([] : List Fact) → F ∈ Γ := by simp) : St B [] Ms w := hs.less h
theorem St.l8 {w : World} (hs : St B Γ Ms w) (h : ∀ F, F ∈ Γ' → F ∈ Γ := by simp) : St B Γ' Ms w := hs.less h
end
section
variable {p q : Prop}
theorem Ia (k : p) (h : Ao p → q := by intro h; refine D5m ?_; exact h.1) : q := h ⟨k⟩
theorem Ii (k : p) (h : Ao p → q := by intro h; refine D1z ?_; exact h.1) : q := h ⟨k⟩
theorem zq2 (k : p) (h : Ao p → q := by intro h; refine q0 rfl (C4d ?_); exact h.1) : q := h ⟨k⟩
theorem E8 (k : p) (h : Ao p → q := by intro h; refine q0 rfl (Ff ?_); exact h.1) : q := h ⟨k⟩
theorem Ko (k : p) (h : Ao p → q := by intro h; refine go_skip ?_; exact h.1) : q := h ⟨k⟩
theorem Un (k : p) (h : Ao p → q := by intro h; refine qF rfl rfl rfl ?_; exact h.1) : q := h ⟨k⟩
theorem zq6 (k : p) (h : Ao p → q := by intro h; refine q0 rfl (B9q ?_); exact h.1) : q := h ⟨k⟩
theorem zq7 (k : p) (h : Ao p → q := by intro h; refine q0 rfl (E0c ?_); exact h.1) : q := h ⟨k⟩
theorem zq8 (k : p) (h : Ao p → q := by intro h; refine q0 rfl (Of ?_); exact h.1) : q := h ⟨k⟩
theorem zq9 (k : p) (h : Ao p → q := by intro h; refine q0 rfl (D2v ?_); exact h.1) : q := h ⟨k⟩
theorem Hi (k : p) (h : Ao p → q := by intro h; refine C5k ?_; exact h.1) : q := h ⟨k⟩
theorem D1q (k : p) (h : Ao p → q := by intro h; refine q0 rfl (W5 ?_); exact h.1) : q := h ⟨k⟩
theorem Iw (k : p) (h : Ao p → q := by intro h; refine q0 rfl (Ro ?_); exact h.1) : q := h ⟨k⟩
theorem Et (k : p) (h : Ao p → q := by intro h; refine n0 rfl (C1u ?_); exact h.1) : q := h ⟨k⟩
theorem N8 (k : p) (h : Ao p → q := by intro h; refine q0 rfl (D0q ?_); exact h.1) : q := h ⟨k⟩
theorem X5 (k : p) (h : Ao p → q := by intro h; refine B4v ?_; exact h.1) : q := h ⟨k⟩
theorem A0i (k : p) (h : Ao p → q := by intro h; refine nF rfl rfl rfl ?_; exact h.1) : q := h ⟨k⟩
theorem D1p (k : p) (h : Ao p → q := by intro h; refine q0 rfl (B6u ?_); exact h.1) : q := h ⟨k⟩
theorem E9 (k : p) (h : Ao p → q := by intro h; refine C9h rfl ?_; exact h.1) : q := h ⟨k⟩
theorem X4 (k : p) (h : Ao p → q := by intro h; refine n0 rfl (Rb ?_); exact h.1) : q := h ⟨k⟩
theorem Ks (k : p) (h : Ao p → q := by intro h; refine q0 rfl (C3z ?_); exact h.1) : q := h ⟨k⟩
theorem D1o (k : p) (h : Ao p → q := by intro h; refine n0 rfl (D6h ?_); exact h.1) : q := h ⟨k⟩
theorem D1n (k : p) (h : Ao p → q := by intro h; refine q0 rfl (B6v ?_); exact h.1) : q := h ⟨k⟩
theorem Su (k : p) (h : Ao p → q := by intro h; refine q0 rfl (D0o ?_); exact h.1) : q := h ⟨k⟩
theorem Kr (k : p) (h : Ao p → q := by intro h; refine NV.done ?_; exact h.1) : q := h ⟨k⟩
theorem D1m (k : p) (h : Ao p → q := by intro h; refine q0 rfl (B0f ?_); exact h.1) : q := h ⟨k⟩
theorem C1n (k : p) (h : Ao p → q := by intro h; refine C5j ?_; exact h.1) : q := h ⟨k⟩
theorem Hx (k : p) (h : Ao p → q := by intro h; refine qT rfl rfl rfl (Ff ?_); exact h.1) : q := h ⟨k⟩
theorem Mg (k : p) (h : Ao p → q := by intro h; refine n0 rfl (D6f ?_); exact h.1) : q := h ⟨k⟩
theorem Nz (k : p) (h : Ao p → q := by intro h; refine q0 rfl (D7f ?_); exact h.1) : q := h ⟨k⟩
theorem J0 (k : p) (h : Ao p → q := by intro h; refine qT rfl rfl rfl (D2v ?_); exact h.1) : q := h ⟨k⟩
theorem Kq (k : p) (h : Ao p → q := by intro h; refine q0 rfl (D7g ?_); exact h.1) : q := h ⟨k⟩
theorem C1m (k : p) (h : Ao p → q := by intro h; refine nU rfl rfl rfl ?_; exact h.1) : q := h ⟨k⟩
theorem B2y (k : p) (h : Ao p → q := by intro h; refine q0 rfl (D0l ?_); exact h.1) : q := h ⟨k⟩
theorem Ny (k : p) (h : Ao p → q := by intro h; refine n0 rfl (D6j ?_); exact h.1) : q := h ⟨k⟩
theorem D1l (k : p) (h : Ao p → q := by intro h; refine qU rfl rfl rfl ?_; exact h.1) : q := h ⟨k⟩
theorem Pc (k : p) (h : Ao p → q := by intro h; refine q0 rfl (B4f ?_); exact h.1) : q := h ⟨k⟩
theorem Pb (k : p) (h : Ao p → q := by intro h; refine nT rfl rfl rfl (D6h ?_); exact h.1) : q := h ⟨k⟩
theorem A7z (k : p) (h : Ao p → q := by intro h; refine n0 rfl (B5w ?_); exact h.1) : q := h ⟨k⟩
theorem A4r (k : p) (h : Ao p → q := by intro h; refine n0 rfl (D6g ?_); exact h.1) : q := h ⟨k⟩
theorem D1k (k : p) (h : Ao p → q := by intro h; refine q0 rfl (D7a ?_); exact h.1) : q := h ⟨k⟩
theorem Ss (k : p) (h : Ao p → q := by intro h; refine q0 rfl (Cd ?_); exact h.1) : q := h ⟨k⟩
theorem Sr (k : p) (h : Ao p → q := by intro h; refine q0 rfl (C4b ?_); exact h.1) : q := h ⟨k⟩
theorem X3 (k : p) (h : Ao p → q := by intro h; refine n0 rfl (B5v ?_); exact h.1) : q := h ⟨k⟩
theorem X2 (k : p) (h : Ao p → q := by intro h; refine Ff ?_; exact h.1) : q := h ⟨k⟩
theorem A0h (k : p) (h : Ao p → q := by intro h; refine nT rfl rfl rfl (C1u ?_); exact h.1) : q := h ⟨k⟩
theorem A0g (k : p) (h : Ao p → q := by intro h; refine qT rfl rfl rfl (D0l ?_); exact h.1) : q := h ⟨k⟩
theorem A0f (k : p) (h : Ao p → q := by intro h; refine n0 rfl (C1w ?_); exact h.1) : q := h ⟨k⟩
theorem A4q (k : p) (h : Ao p → q := by intro h; refine q0 rfl (D7h ?_); exact h.1) : q := h ⟨k⟩
theorem A7y (k : p) (h : Ao p → q := by intro h; refine q0 rfl (Ym ?_); exact h.1) : q := h ⟨k⟩
theorem A7x (k : p) (h : Ao p → q := by intro h; refine qT rfl rfl rfl (W5 ?_); exact h.1) : q := h ⟨k⟩
theorem A7w (k : p) (h : Ao p → q := by intro h; refine qT rfl rfl rfl (Of ?_); exact h.1) : q := h ⟨k⟩
theorem B2x (k : p) (h : Ao p → q := by intro h; refine q0 rfl (A3c ?_); exact h.1) : q := h ⟨k⟩
theorem B2w (k : p) (h : Ao p → q := by intro h; refine qT rfl rfl rfl (B6u ?_); exact h.1) : q := h ⟨k⟩
theorem B2v (k : p) (h : Ao p → q := by intro h; refine nT rfl rfl rfl (B5v ?_); exact h.1) : q := h ⟨k⟩
theorem B2u (k : p) (h : Ao p → q := by intro h; refine nT rfl rfl rfl (B5w ?_); exact h.1) : q := h ⟨k⟩
theorem B8p (k : p) (h : Ao p → q := by intro h; refine q0 rfl (D6z ?_); exact h.1) : q := h ⟨k⟩
theorem B8o (k : p) (h : Ao p → q := by intro h; refine qT rfl rfl rfl (D7e ?_); exact h.1) : q := h ⟨k⟩
theorem B8n (k : p) (h : Ao p → q := by intro h; refine qT rfl rfl rfl (B6v ?_); exact h.1) : q := h ⟨k⟩
theorem B8m (k : p) (h : Ao p → q := by intro h; refine qT rfl rfl rfl (D0o ?_); exact h.1) : q := h ⟨k⟩
theorem B8l (k : p) (h : Ao p → q := by intro h; refine nT rfl rfl rfl (Rb ?_); exact h.1) : q := h ⟨k⟩
theorem B8k (k : p) (h : Ao p → q := by intro h; refine n0 rfl (B8q ?_); exact h.1) : q := h ⟨k⟩
theorem B8j (k : p) (h : Ao p → q := by intro h; refine q0 rfl (D2r ?_); exact h.1) : q := h ⟨k⟩
theorem B8i (k : p) (h : Ao p → q := by intro h; refine q0 rfl (D2t ?_); exact h.1) : q := h ⟨k⟩
theorem Ar (k : p) (h : Ao p → q := by intro h; refine Ia ?_; refine Pg ?_; exact h.1) : q := h ⟨k⟩
theorem By (k : p) (h : Ao p → q := by intro h; refine zq2 ?_; refine Ii ?_; exact h.1) : q := h ⟨k⟩
theorem Em (k : p) (h : Ao p → q := by intro h; refine Ar ?_; refine E8 ?_; exact h.1) : q := h ⟨k⟩
theorem Jj (k : p) (h : Ao p → q := by intro h; refine zq2 ?_; refine By ?_; exact h.1) : q := h ⟨k⟩
theorem Co (k : p) (h : Ao p → q := by intro h; refine Ar ?_; refine By ?_; exact h.1) : q := h ⟨k⟩
theorem Lk (k : p) (h : Ao p → q := by intro h; refine zq8 ?_; refine zq9 ?_; exact h.1) : q := h ⟨k⟩
theorem D1i (k : p) (h : Ao p → q := by intro h; refine E8 ?_; refine Ii ?_; exact h.1) : q := h ⟨k⟩
theorem Hw (k : p) (h : Ao p → q := by intro h; refine Un ?_; refine Un ?_; exact h.1) : q := h ⟨k⟩
theorem B8h (k : p) (h : Ao p → q := by intro h; refine zq6 ?_; refine zq6 ?_; exact h.1) : q := h ⟨k⟩
theorem Hh (k : p) (h : Ao p → q := by intro h; refine Ia ?_; refine Em ?_; exact h.1) : q := h ⟨k⟩
theorem Dv (k : p) (h : Ao p → q := by intro h; refine zq7 ?_; refine Ii ?_; exact h.1) : q := h ⟨k⟩
theorem Ef (k : p) (h : Ao p → q := by intro h; refine Pg ?_; refine E8 ?_; exact h.1) : q := h ⟨k⟩
theorem Iz (k : p) (h : Ao p → q := by intro h; refine Ko ?_; refine Ia ?_; exact h.1) : q := h ⟨k⟩
theorem A0e (k : p) (h : Ao p → q := by intro h; refine D1q ?_; refine By ?_; exact h.1) : q := h ⟨k⟩
theorem Me (k : p) (h : Ao p → q := by intro h; refine B8h ?_; refine Jj ?_; exact h.1) : q := h ⟨k⟩
theorem Fa (k : p) (h : Ao p → q := by intro h; refine zq7 ?_; refine By ?_; exact h.1) : q := h ⟨k⟩
theorem F0 (k : p) (h : Ao p → q := by intro h; refine Ar ?_; refine A0e ?_; exact h.1) : q := h ⟨k⟩
theorem Gh (k : p) (h : Ao p → q := by intro h; refine X4 ?_; refine D1o ?_; exact h.1) : q := h ⟨k⟩
theorem D6c (k : p) (h : Ao p → q := by intro h; refine Pg ?_; refine N8 ?_; refine D1i ?_; exact h.1) : q := h ⟨k⟩
theorem Rv (k : p) (h : Ao p → q := by intro h; refine X5 ?_; refine D6c ?_; exact h.1) : q := h ⟨k⟩
theorem Wr (k : p) (h : Ao p → q := by intro h; refine Ii ?_; refine Ia ?_; exact h.1) : q := h ⟨k⟩
theorem Wq (k : p) (h : Ao p → q := by intro h; refine D1m ?_; refine Ii ?_; exact h.1) : q := h ⟨k⟩
theorem H2 (k : p) (h : Ao p → q := by intro h; refine Ar ?_; refine Lk ?_; exact h.1) : q := h ⟨k⟩
theorem A4p (k : p) (h : Ao p → q := by intro h; refine Iz ?_; refine Hi ?_; exact h.1) : q := h ⟨k⟩
theorem H4 (k : p) (h : Ao p → q := by intro h; refine Ar ?_; refine Jj ?_; exact h.1) : q := h ⟨k⟩
theorem G0 (k : p) (h : Ao p → q := by intro h; refine Ar ?_; refine Iw ?_; exact h.1) : q := h ⟨k⟩
theorem G1 (k : p) (h : Ao p → q := by intro h; refine Ar ?_; refine Su ?_; refine Wr ?_; exact h.1) : q := h ⟨k⟩
theorem D1h (k : p) (h : Ao p → q := by intro h; refine Ks ?_; refine D1i ?_; exact h.1) : q := h ⟨k⟩
theorem Iv (k : p) (h : Ao p → q := by intro h; refine By ?_; refine Ia ?_; exact h.1) : q := h ⟨k⟩
theorem Up (k : p) (h : Ao p → q := by intro h; refine D1h ?_; refine Hi ?_; exact h.1) : q := h ⟨k⟩
theorem Md (k : p) (h : Ao p → q := by intro h; refine E8 ?_; refine Me ?_; exact h.1) : q := h ⟨k⟩
theorem Hv (k : p) (h : Ao p → q := by intro h; refine Pg ?_; refine Lk ?_; exact h.1) : q := h ⟨k⟩
theorem N7 (k : p) (h : Ao p → q := by intro h; refine Ko ?_; refine Em ?_; exact h.1) : q := h ⟨k⟩
theorem Hu (k : p) (h : Ao p → q := by intro h; refine Em ?_; refine Jj ?_; exact h.1) : q := h ⟨k⟩
theorem A7v (k : p) (h : Ao p → q := by intro h; refine Ko ?_; refine C1n ?_; exact h.1) : q := h ⟨k⟩
theorem Mt (k : p) (h : Ao p → q := by intro h; refine Kr ?_; refine Ii ?_; exact h.1) : q := h ⟨k⟩
theorem Ih (k : p) (h : Ao p → q := by intro h; refine A0i ?_; refine A0i ?_; exact h.1) : q := h ⟨k⟩
theorem Lo (k : p) (h : Ao p → q := by intro h; refine D1q ?_; refine Ii ?_; exact h.1) : q := h ⟨k⟩
theorem Gn (k : p) (h : Ao p → q := by intro h; refine D1n ?_; refine By ?_; exact h.1) : q := h ⟨k⟩
theorem Gm (k : p) (h : Ao p → q := by intro h; refine D1p ?_; refine Ii ?_; exact h.1) : q := h ⟨k⟩
theorem Gz (k : p) (h : Ao p → q := by intro h; refine A7v ?_; refine Co ?_; exact h.1) : q := h ⟨k⟩
theorem Gy (k : p) (h : Ao p → q := by intro h; refine D1p ?_; refine By ?_; exact h.1) : q := h ⟨k⟩
theorem Ln (k : p) (h : Ao p → q := by intro h; refine Hw ?_; refine Hw ?_; exact h.1) : q := h ⟨k⟩
theorem H5 (k : p) (h : Ao p → q := by intro h; refine Ko ?_; refine Rv ?_; exact h.1) : q := h ⟨k⟩
theorem Mi (k : p) (h : Ao p → q := by intro h; refine D1p ?_; refine E8 ?_; exact h.1) : q := h ⟨k⟩
theorem I2 (k : p) (h : Ao p → q := by intro h; refine Ko ?_; refine X5 ?_; exact h.1) : q := h ⟨k⟩
theorem I1 (k : p) (h : Ao p → q := by intro h; refine Co ?_; refine Em ?_; exact h.1) : q := h ⟨k⟩
theorem I0 (k : p) (h : Ao p → q := by intro h; refine A4p ?_; refine Ia ?_; exact h.1) : q := h ⟨k⟩
theorem Hz (k : p) (h : Ao p → q := by intro h; refine Et ?_; refine Et ?_; exact h.1) : q := h ⟨k⟩
theorem A8b (k : p) (h : Ao p → q := by intro h; refine Hh ?_; refine Wq ?_; exact h.1) : q := h ⟨k⟩
theorem T3 (k : p) (h : Ao p → q := by intro h; refine Em ?_; refine Wq ?_; exact h.1) : q := h ⟨k⟩
theorem J1 (k : p) (h : Ao p → q := by intro h; refine A4p ?_; refine Ar ?_; exact h.1) : q := h ⟨k⟩
theorem Vl (k : p) (h : Ao p → q := by intro h; refine Co ?_; refine Hh ?_; exact h.1) : q := h ⟨k⟩
theorem Jp (k : p) (h : Ao p → q := by intro h; refine E8 ?_; refine E8 ?_; exact h.1) : q := h ⟨k⟩
theorem Jo (k : p) (h : Ao p → q := by intro h; refine B2y ?_; refine Ii ?_; exact h.1) : q := h ⟨k⟩
theorem Jn (k : p) (h : Ao p → q := by intro h; refine Em ?_; refine By ?_; exact h.1) : q := h ⟨k⟩
theorem Jm (k : p) (h : Ao p → q := by intro h; refine D1n ?_; refine Ii ?_; exact h.1) : q := h ⟨k⟩
theorem Jl (k : p) (h : Ao p → q := by intro h; refine By ?_; refine Rv ?_; exact h.1) : q := h ⟨k⟩
theorem K8 (k : p) (h : Ao p → q := by intro h; refine Dv ?_; refine Ia ?_; exact h.1) : q := h ⟨k⟩
theorem K7 (k : p) (h : Ao p → q := by intro h; refine Md ?_; refine A8b ?_; exact h.1) : q := h ⟨k⟩
theorem K6 (k : p) (h : Ao p → q := by intro h; refine Ef ?_; refine E8 ?_; exact h.1) : q := h ⟨k⟩
theorem Lm (k : p) (h : Ao p → q := by intro h; refine Ia ?_; refine Ia ?_; exact h.1) : q := h ⟨k⟩
theorem Ll (k : p) (h : Ao p → q := by intro h; refine H2 ?_; refine Up ?_; exact h.1) : q := h ⟨k⟩
theorem Nd (k : p) (h : Ao p → q := by intro h; refine Hh ?_; refine Lo ?_; exact h.1) : q := h ⟨k⟩
theorem Nc (k : p) (h : Ao p → q := by intro h; refine Em ?_; refine Iw ?_; exact h.1) : q := h ⟨k⟩
theorem A8a (k : p) (h : Ao p → q := by intro h; refine D1k ?_; refine Ii ?_; exact h.1) : q := h ⟨k⟩
theorem Nb (k : p) (h : Ao p → q := by intro h; refine D1n ?_; refine E8 ?_; exact h.1) : q := h ⟨k⟩
theorem Na (k : p) (h : Ao p → q := by intro h; refine Hw ?_; refine Un ?_; exact h.1) : q := h ⟨k⟩
theorem N9 (k : p) (h : Ao p → q := by intro h; refine N7 ?_; refine E8 ?_; exact h.1) : q := h ⟨k⟩
theorem P1 (k : p) (h : Ao p → q := by intro h; refine N8 ?_; refine By ?_; exact h.1) : q := h ⟨k⟩
theorem P0 (k : p) (h : Ao p → q := by intro h; refine By ?_; refine T3 ?_; exact h.1) : q := h ⟨k⟩
theorem Oz (k : p) (h : Ao p → q := by intro h; refine Vl ?_; refine Up ?_; exact h.1) : q := h ⟨k⟩
theorem Oy (k : p) (h : Ao p → q := by intro h; refine E8 ?_; refine B8h ?_; exact h.1) : q := h ⟨k⟩
theorem Ox (k : p) (h : Ao p → q := by intro h; refine B8h ?_; refine Fa ?_; exact h.1) : q := h ⟨k⟩
theorem Ow (k : p) (h : Ao p → q := by intro h; refine zq8 ?_; refine Nz ?_; exact h.1) : q := h ⟨k⟩
theorem Po (k : p) (h : Ao p → q := by intro h; refine Lk ?_; refine E8 ?_; exact h.1) : q := h ⟨k⟩
theorem Pn (k : p) (h : Ao p → q := by intro h; refine Co ?_; refine Ia ?_; exact h.1) : q := h ⟨k⟩
theorem Pm (k : p) (h : Ao p → q := by intro h; refine Ar ?_; refine zq9 ?_; exact h.1) : q := h ⟨k⟩
theorem Pl (k : p) (h : Ao p → q := by intro h; refine Ih ?_; refine A0i ?_; exact h.1) : q := h ⟨k⟩
theorem Pk (k : p) (h : Ao p → q := by intro h; refine C1m ?_; refine C1m ?_; exact h.1) : q := h ⟨k⟩
theorem Pj (k : p) (h : Ao p → q := by intro h; refine zq7 ?_; refine Dv ?_; exact h.1) : q := h ⟨k⟩
theorem D0c (k : p) (h : Ao p → q := by intro h; refine Ko ?_; refine E9 ?_; exact h.1) : q := h ⟨k⟩
theorem Rj (k : p) (h : Ao p → q := by intro h; refine Pg ?_; refine A0e ?_; exact h.1) : q := h ⟨k⟩
theorem Ri (k : p) (h : Ao p → q := by intro h; refine Iv ?_; refine Ia ?_; exact h.1) : q := h ⟨k⟩
theorem Rh (k : p) (h : Ao p → q := by intro h; refine A7z ?_; refine Mt ?_; exact h.1) : q := h ⟨k⟩
theorem Rg (k : p) (h : Ao p → q := by intro h; refine Ef ?_; refine Iw ?_; exact h.1) : q := h ⟨k⟩
theorem Rf (k : p) (h : Ao p → q := by intro h; refine Gh ?_; refine Mg ?_; exact h.1) : q := h ⟨k⟩
theorem Re (k : p) (h : Ao p → q := by intro h; refine Mi ?_; refine Ln ?_; exact h.1) : q := h ⟨k⟩
theorem T1 (k : p) (h : Ao p → q := by intro h; refine Ia ?_; refine F0 ?_; exact h.1) : q := h ⟨k⟩
theorem T0 (k : p) (h : Ao p → q := by intro h; refine D0c ?_; refine H4 ?_; exact h.1) : q := h ⟨k⟩
theorem Sz (k : p) (h : Ao p → q := by intro h; refine D1l ?_; refine D1l ?_; exact h.1) : q := h ⟨k⟩
theorem Sy (k : p) (h : Ao p → q := by intro h; refine D1q ?_; refine E8 ?_; exact h.1) : q := h ⟨k⟩
theorem Sx (k : p) (h : Ao p → q := by intro h; refine E9 ?_; refine Ia ?_; exact h.1) : q := h ⟨k⟩
theorem Sw (k : p) (h : Ao p → q := by intro h; refine zq8 ?_; refine A8a ?_; exact h.1) : q := h ⟨k⟩
theorem Sv (k : p) (h : Ao p → q := by intro h; refine A4r ?_; refine Gh ?_; exact h.1) : q := h ⟨k⟩
end
instance : Da prog 12 f12 := ⟨func12⟩
instance : Da prog 20 f20 := ⟨func20⟩
instance : Da prog 22 f22 := ⟨func22⟩
instance : Da prog 24 f24 := ⟨func24⟩
instance : Da prog 31 f31 := ⟨func31⟩
instance : Da prog 35 f35 := ⟨func35⟩
instance : Da prog 36 f36 := ⟨func36⟩
instance : Da prog 37 f37 := ⟨func37⟩
instance : Da prog 39 f39 := ⟨func39⟩
instance : Da prog 40 f40 := ⟨func40⟩
instance : Da prog 41 f41 := ⟨func41⟩
instance : Da prog 44 f44 := ⟨func44⟩
instance : Da prog 45 f45 := ⟨func45⟩
instance : Da prog 58 f58 := ⟨func58⟩
instance : Da prog 59 f59 := ⟨func59⟩
instance : Da prog 60 f60 := ⟨func60⟩
instance : Da prog 61 f61 := ⟨func61⟩
instance : Da prog 62 f62 := ⟨func62⟩
instance : Da prog 63 f63 := ⟨func63⟩
instance : Da prog 64 f64 := ⟨func64⟩
instance : Da prog 75 f75 := ⟨func75⟩
instance : Da prog 76 f76 := ⟨func76⟩
instance : Da prog 77 f77 := ⟨func77⟩
instance : Da prog 80 f80 := ⟨func80⟩
instance : Da prog 81 f81 := ⟨func81⟩
instance : Da prog 82 f82 := ⟨func82⟩
instance : Da prog 83 f83 := ⟨func83⟩
instance : Da prog 84 f84 := ⟨func84⟩
instance : Da prog 85 f85 := ⟨func85⟩
instance : Da prog 86 f86 := ⟨func86⟩
instance : Da prog 87 f87 := ⟨func87⟩
instance : Da prog 89 f89 := ⟨func89⟩
instance : Da prog 90 f90 := ⟨func90⟩
instance : Da prog 103 f103 := ⟨func103⟩
instance : Da prog 104 f104 := ⟨func104⟩
instance : Da prog 105 f105 := ⟨func105⟩
instance : Da prog 106 f106 := ⟨func106⟩
instance : Da prog 107 f107 := ⟨func107⟩
instance : Da prog 108 f108 := ⟨func108⟩
instance : Da prog 109 f109 := ⟨func109⟩
instance : Da prog 110 f110 := ⟨func110⟩
instance : Da prog 111 f111 := ⟨func111⟩
instance : Da prog 112 f112 := ⟨func112⟩
instance : Da prog 114 f114 := ⟨func114⟩
instance : Da prog 118 f118 := ⟨func118⟩
instance : Da prog 124 f124 := ⟨func124⟩
instance : Da prog 132 f132 := ⟨func132⟩
instance : Da prog 133 f133 := ⟨func133⟩
instance : Da prog 134 f134 := ⟨func134⟩
instance : Da prog 135 f135 := ⟨func135⟩
instance : Da prog 136 f136 := ⟨func136⟩
instance : Da prog 137 f137 := ⟨func137⟩
instance : Da prog 138 f138 := ⟨func138⟩
instance : Da prog 139 f139 := ⟨func139⟩
instance : Da prog 140 f140 := ⟨func140⟩
instance : Da prog 141 f141 := ⟨func141⟩
instance : Da prog 142 f142 := ⟨func142⟩
instance : Da prog 151 f151 := ⟨func151⟩
instance : Da prog 152 f152 := ⟨func152⟩
instance : Da prog 153 f153 := ⟨func153⟩
instance : Da prog 154 f154 := ⟨func154⟩
instance : Da prog 155 f155 := ⟨func155⟩
instance : Da prog 156 f156 := ⟨func156⟩
instance : Da prog 157 f157 := ⟨func157⟩
instance : Da prog 158 f158 := ⟨func158⟩
instance : Da prog 159 f159 := ⟨func159⟩
instance : Da prog 160 f160 := ⟨func160⟩
instance : Da prog 161 f161 := ⟨func161⟩
instance : Da prog 162 f162 := ⟨func162⟩
instance : Da prog 163 f163 := ⟨func163⟩
instance : Da prog 164 f164 := ⟨func164⟩
instance : Da prog 165 f165 := ⟨func165⟩
instance : Da prog 166 f166 := ⟨func166⟩
instance : Da prog 167 f167 := ⟨func167⟩
instance : Da prog 168 f168 := ⟨func168⟩
instance : Da prog 169 f169 := ⟨func169⟩
instance : Da prog 170 f170 := ⟨func170⟩
instance : Da prog 171 f171 := ⟨func171⟩
instance : Da prog 173 f173 := ⟨func173⟩
instance : Da prog 174 f174 := ⟨func174⟩
instance : Da prog 186 f186 := ⟨func186⟩
instance : Da prog 187 f187 := ⟨func187⟩
instance : Da prog 188 f188 := ⟨func188⟩
instance : Da prog 189 f189 := ⟨func189⟩
instance : Da prog 190 f190 := ⟨func190⟩
instance : Da prog 191 f191 := ⟨func191⟩
instance : Da prog 192 f192 := ⟨func192⟩
instance : Da prog 193 f193 := ⟨func193⟩
instance : Da prog 194 f194 := ⟨func194⟩
instance : Da prog 195 f195 := ⟨func195⟩
instance : Da prog 196 f196 := ⟨func196⟩
instance : Da prog 197 f197 := ⟨func197⟩
instance : Da prog 198 f198 := ⟨func198⟩
instance : Da prog 199 f199 := ⟨func199⟩
instance : Da prog 200 f200 := ⟨func200⟩
instance : Da prog 203 f203 := ⟨func203⟩
instance : Da prog 204 f204 := ⟨func204⟩
instance : Da prog 205 f205 := ⟨func205⟩
instance : Da prog 219 f219 := ⟨func219⟩
instance : Da prog 220 f220 := ⟨func220⟩
instance : Da prog 221 f221 := ⟨func221⟩
instance : Da prog 222 f222 := ⟨func222⟩
instance : Da prog 223 f223 := ⟨func223⟩
instance : Da prog 231 f231 := ⟨func231⟩
instance : Da prog 232 f232 := ⟨func232⟩
instance : Da prog 233 f233 := ⟨func233⟩
instance : Da prog 234 f234 := ⟨func234⟩
instance : Da prog 235 f235 := ⟨func235⟩
instance : Da prog 236 f236 := ⟨func236⟩
instance : Da prog 237 f237 := ⟨func237⟩
instance : Da prog 238 f238 := ⟨func238⟩
instance : Da prog 239 f239 := ⟨func239⟩
instance : Da prog 240 f240 := ⟨func240⟩
instance : Da prog 241 f241 := ⟨func241⟩
instance : Da prog 248 f248 := ⟨func248⟩
instance : Da prog 249 f249 := ⟨func249⟩
instance : Da prog 250 f250 := ⟨func250⟩
instance : Da prog 251 f251 := ⟨func251⟩
instance : Da prog 255 f255 := ⟨func255⟩
instance : Da prog 256 f256 := ⟨func256⟩
instance : Da prog 264 f264 := ⟨func264⟩
instance : Da prog 265 f265 := ⟨func265⟩
instance : Da prog 270 f270 := ⟨func270⟩
instance : Da prog 271 f271 := ⟨func271⟩
instance : Da prog 272 f272 := ⟨func272⟩
set_option maxRecDepth 100000
theorem K0 (k i : Int) : Spec prog 62 #[iv k, iv i] [] [] (fun _ : Unit => .tuple #[iv (binds k i).1, iv (binds k i).2]) (fun _ => []) (fun _ => []) := by
 refine Dp ntmps62 fun B hB => ?_
 refine H4 ?_; refine Hh ?_; refine Ii ?_; refine Hi ?_; refine Ia ?_; refine Hi ?_; refine Ia ?_; refine Hi ?_; refine Hi ?_; refine Hi ?_; refine Ia ?_; refine Hi ?_; refine Lm ?_; refine T1 ?_; refine A5 (fun h7 => ?_) (fun h7 => ?_)
 ·refine A7v ?_; refine E9 ?_; refine Nd ?_; refine A5 (fun h21 => ?_) (fun h21 => ?_)
  ·refine H4 ?_; refine C0 f_ rfl A9 A9 () (by simp_all [binds]) (fun w hs => hs.none)
  ·refine T0 ?_; refine C0 f_ rfl A9 A9 () (by simp_all [binds]) (fun w hs => hs.none)
 ·refine Rj ?_; refine A5 (fun h7 => ?_) (fun h7 => ?_)
  ·refine E9 ?_; refine Nd ?_; refine A5 (fun h21 => ?_) (fun h21 => ?_)
   ·refine H4 ?_; refine C0 f_ rfl A9 A9 () (by simp_all [binds]) (fun w hs => hs.none)
   ·refine T0 ?_; refine C0 f_ rfl A9 A9 () (by simp_all [binds]) (fun w hs => hs.none)
  ·refine Iz ?_; refine F0 ?_; refine A5 (fun h10 => ?_) (fun h10 => ?_)
   ·refine E9 ?_; refine X5 ?_; refine X5 ?_; refine Nd ?_; refine A5 (fun h23 => ?_) (fun h23 => ?_)
    ·refine H4 ?_; refine C0 f_ rfl A9 A9 () (by simp_all [binds]) (fun w hs => hs.none)
    ·refine T0 ?_; refine C0 f_ rfl A9 A9 () (by simp_all [binds]) (fun w hs => hs.none)
   ·refine Iz ?_; refine F0 ?_; refine A5 (fun h12 => ?_) (fun h12 => ?_)
    ·refine E9 ?_; refine X5 ?_; refine Nd ?_; refine A5 (fun h23 => ?_) (fun h23 => ?_)
     ·refine H4 ?_; refine C0 f_ rfl A9 A9 () (by simp_all [binds]) (fun w hs => hs.none)
     ·refine T0 ?_; refine C0 f_ rfl A9 A9 () (by simp_all [binds]) (fun w hs => hs.none)
    ·refine Iz ?_; refine F0 ?_; refine A5 (fun h14 => ?_) (fun h14 => ?_)
     ·refine E9 ?_; refine Nd ?_; refine A5 (fun h23 => ?_) (fun h23 => ?_)
      ·refine H4 ?_; refine C0 f_ rfl A9 A9 () (by simp_all [binds]) (fun w hs => hs.none)
      ·refine T0 ?_; refine C0 f_ rfl A9 A9 () (by simp_all [binds]) (fun w hs => hs.none)
     ·refine Iz ?_; refine F0 ?_; refine A5 (fun h16 => ?_) (fun h16 => ?_)
      ·refine A7v ?_; refine E9 ?_; refine Nd ?_; refine A5 (fun h25 => ?_) (fun h25 => ?_)
       ·refine H4 ?_; refine C0 f_ rfl A9 A9 () (by simp_all [binds]) (fun w hs => hs.none)
       ·refine T0 ?_; refine C0 f_ rfl A9 A9 () (by simp_all [binds]) (fun w hs => hs.none)
      ·refine F0 ?_; refine A5 (fun h16 => ?_) (fun h16 => ?_)
       ·refine A7v ?_; refine E9 ?_; refine Nd ?_; refine A5 (fun h25 => ?_) (fun h25 => ?_)
        ·refine H4 ?_; refine C0 f_ rfl A9 A9 () (by simp_all [binds]) (fun w hs => hs.none)
        ·refine T0 ?_; refine C0 f_ rfl A9 A9 () (by simp_all [binds]) (fun w hs => hs.none)
       ·refine Rj ?_; refine A5 (fun h16 => ?_) (fun h16 => ?_)
        ·refine E9 ?_; refine Nd ?_; refine A5 (fun h25 => ?_) (fun h25 => ?_)
         ·refine H4 ?_; refine C0 f_ rfl A9 A9 () (by simp_all [binds]) (fun w hs => hs.none)
         ·refine T0 ?_; refine C0 f_ rfl A9 A9 () (by simp_all [binds]) (fun w hs => hs.none)
        ·refine T0 ?_; refine C0 f_ rfl A9 A9 () (by simp_all [binds]) (fun w hs => hs.none)
theorem Vc (t : T) (vr vk vs : SH) (c : FuncId) (cap : List Value) (FΓ : List Fact) (SM SF : Nat → List B4) (β : Nat → Bool)
  (hc : ∀ (args : Array Value) (w : World), (callFunc c args).run prog w = .ok (.enter c args) w)
  (hcl : ∀ m k v d, (parts t)[m]? = some (k, v, d) → (∀ j, j < m → β j = true) → ∀ vr vk vs, Spec prog c (.agg (tc k vr vk vs).toArray :: iv v :: iv d :: cap).toArray (RT k vr vk vs :: FΓ) (SM m) (fun _ : Unit => .bool (β m)) (fun _ => []) (fun _ => if β m then SM (m + 1) else SF m)) :
  Spec prog 106 #[.agg (tc t vr vk vs).toArray, .func (.func c) #[] cap.toArray] (RT t vr vk vs :: FΓ) (SM 0) (fun _ : Unit => .bool (ff β (parts t).length == (parts t).length)) (fun _ => []) (fun _ => if ff β (parts t).length = (parts t).length then SM (parts t).length else SF (ff β (parts t).length)) := by
 refine Dp ntmps106 fun B hB => ?_
 refine go_open (fun hk hn hnm => ?_); refine An (ts := t.kids) (fun VR VK VS hl1 hA1 => ?_); refine C5 (bs := t.sys) (fun VF VK2 hl2 hA2 => ?_); have hpl := A5r t; refine Ar ?_; refine q0 rfl (B0 fun b2 => ?_); refine Iv ?_; refine Ll ?_; refine Fm (X := Nat) (fun i => i ≤ t.kids.length ∧ ∀ j, j < i → β j = true) (fun i => [(1, .func (.func c) #[] cap.toArray), (2, pz b2), (15, sl vk t.kids.length), (16, iv (t.kids.length : Int)), (17, iv (i : Int))]) (fun i => TLx t.kids vk VR VK VS :: BLx t.sys vs VF VK2 :: RT t vr vk vs :: FΓ) (fun i => A8 b2 (tc t vr vk vs) 26 :: SM i) (fun i => t.kids.length - i) (0) (⟨Nat.zero_le _, fun j hj => by omega⟩) (by exact Fi) ?_ ?_
 ·exact fun w hs => hs.l9
 ·intro i base0 ⟨hi, hβ⟩ next0; refine G1 ?_; refine A5 (fun h18 => ?_) (fun h18 => ?_)
  ·have hlt : i < t.kids.length := by have := of_decide_eq_true h18; omega
   obtain ⟨bk, o, hav⟩ := hA1 A1; refine A4p ?_; refine Em ?_; refine Ss ?_; refine Kq ?_; refine q0 rfl (B2 fun b6 => ?_); refine zq2 ?_; refine K8 ?_; refine Bq i hlt ?_; refine Pg ?_; have hpk := Hn t i hlt; refine Po ?_; refine q0 rfl (A0 call62 (K0 t.kind i) (fun x26 => ?_)); refine Md ?_; refine Nc ?_; refine Jp ?_; refine q0 rfl (Eh hc (hcl i _ _ _ hpk hβ _ _ _) (fun x33 => ?_)); refine Jo ?_; refine A5 (fun h34 => ?_) (fun h34 => ?_)
   ·have hβf : β i = false := by simpa using h34
    refine Co ?_; have hff := A6s hβf hβ (n := (parts t).length) A1; refine Ap f_ rfl A9 () (by simp [hff]; omega) (fun w hs => by rw [hff, if_neg A1]; simp only [hβf, Bool.false_eq_true, if_false] at hs; exact (hs.l8).Am)
   ·refine H5 ?_; have hβt : β i = true := by simpa using h34
    refine A3 (fun w hs => ?_) (next0 (i + 1) _ ⟨hlt, fun j hj => (by rcases Nat.lt_succ_iff_lt_or_eq.mp hj with h | h; exact hβ j h; subst h; exact hβt)⟩ A1 Fi); simp only [hβt, if_true] at hs; exact ((hs.l9).perm List.perm_append_comm).drop
  ·have hge : i = t.kids.length := by have := of_decide_eq_false h18; omega
   refine E9 ?_; refine Pn ?_; refine H2 ?_; refine Lo ?_; refine Bu ([(1, .func (.func c) #[] cap.toArray), (2, pz b2), (9, iv (more t.kind))]) (fun hK => ?_) (fun base => ?_)
   ·refine A5 (fun h38 => ?_) (fun h38 => ?_)
    ·refine Pg ?_; refine By ?_; exact hK _ ⟨rfl, rfl, by first | (rw [more, if_pos (of_decide_eq_true h38)]; rfl) | (rw [more, if_neg (of_decide_eq_false h38)]; rfl), trivial⟩
    ·refine Ko ?_; exact hK _ ⟨rfl, rfl, by first | (rw [more, if_pos (of_decide_eq_true h38)]; rfl) | (rw [more, if_neg (of_decide_eq_false h38)]; rfl), trivial⟩
   ·refine Ia ?_; refine Ll ?_; refine Fm (X := Nat) (fun i2 => i2 ≤ t.sys.length ∧ ∀ j, j < t.kids.length + Bl i2 t.sys → β j = true) (fun i2 => [(1, .func (.func c) #[] cap.toArray), (9, iv (more t.kind)), (40, sl vs t.sys.length), (41, iv (t.sys.length : Int)), (42, iv (i2 : Int))]) (fun i2 => BLx t.sys vs VF VK2 :: FΓ) (fun i2 => SM (t.kids.length + Bl i2 t.sys)) (fun i2 => t.sys.length - i2) (0) (⟨Nat.zero_le _, fun j hj => hβ j (by simp [Bl] at hj; omega)⟩) (by exact Fi) ?_ ?_
    ·exact fun w hs => (by simpa [Bl, show i = t.kids.length by omega] using (hs.drop.less (Γ' := BLx t.sys vs VF VK2 :: FΓ) sx_))
    ·intro i2 base1 ⟨hi2, hβ2⟩ next1; refine G1 ?_; refine A5 (fun h43 => ?_) (fun h43 => ?_)
     ·have hlt2 : i2 < t.sys.length := by have := of_decide_eq_true h43; omega
      obtain ⟨bk2, o2, hav2⟩ := hA2 A1; refine J1 ?_; refine Ss ?_; refine A4q ?_; refine q0 rfl (B2 fun b11 => ?_); refine Dv ?_; refine Ll ?_; refine F1 i2 A1 ?_; refine An (ts := (t.sys.getD i2 B1).kids) (fun VR3 VK3 VS3 hl3 hA3 => ?_); refine Fm (X := Nat) (fun j => j ≤ (t.sys.getD i2 B1).kids.length ∧ ∀ m, m < t.kids.length + Bl i2 t.sys + j → β m = true) (fun j => [(1, .func (.func c) #[] cap.toArray), (9, iv (more t.kind)), (40, sl vs t.sys.length), (41, iv (t.sys.length : Int)), (42, iv ((i2 : Nat) : Int)), (47, sl (VK2 i2) (t.sys.getD i2 B1).kids.length), (48, iv ((t.sys.getD i2 B1).kids.length : Int)), (49, iv (j : Int))]) (fun j => TLx (t.sys.getD i2 B1).kids (VK2 i2) VR3 VK3 VS3 :: BLx t.sys vs VF VK2 :: FΓ) (fun j => SM (t.kids.length + Bl i2 t.sys + j)) (fun j => (t.sys.getD i2 B1).kids.length - j) (0) (⟨Nat.zero_le _, hβ2⟩) (by exact Fi) ?_ ?_
      ·exact fun w hs => (hs.l9).drop
      ·intro j base2 ⟨hj, hβ3⟩ next2; refine G1 ?_; refine A5 (fun h50 => ?_) (fun h50 => ?_)
       ·have hlt3 : j < (t.sys.getD i2 B1).kids.length := by have := of_decide_eq_true h50; omega
        obtain ⟨bk3, o3, hav3⟩ := hA3 A1; have hps := Io t i2 j hlt2 hlt3; refine Bq j hlt3 ?_; refine J1 ?_; refine Ss ?_; refine Kq ?_; refine q0 rfl (B2 fun b13 => ?_); refine Dv ?_; refine Nc ?_; refine E8 ?_; refine q0 rfl (Eh hc (hcl _ _ _ _ hps hβ3 _ _ _) (fun x56 => ?_)); refine Jo ?_; refine A5 (fun h57 => ?_) (fun h57 => ?_)
        ·have hβf : β (t.kids.length + Bl i2 t.sys + j) = false := by simpa using h57
         refine Co ?_; have hbd := A4y hlt2 hlt3; have hff := A6s hβf hβ3 (n := (parts t).length) A1; refine Ap f_ rfl A9 () (by simp [hff]; omega) (fun w hs => by rw [hff, if_neg A1]; simp only [hβf, Bool.false_eq_true, if_false] at hs; exact (hs.l8).Am)
        ·refine H5 ?_; have hβt : β (t.kids.length + Bl i2 t.sys + j) = true := by simpa using h57
         refine A3 (fun w hs => ?_) (next2 (j + 1) _ ⟨hlt3, fun j2 hj2 => (by rcases Nat.lt_succ_iff_lt_or_eq.mp hj2 with h | h; exact hβ3 j2 h; subst h; exact hβt)⟩ A1 Fi); simp only [hβt, if_true] at hs; exact (hs.l9).Am
       ·have hge3 : j = (t.sys.getD i2 B1).kids.length := by have := of_decide_eq_false h50; omega
        refine E9 ?_; refine Rv ?_; refine A3 (fun w hs => ?_) (next1 (i2 + 1) _ ⟨hlt2, by rw [Lr i2 t.sys hlt2]; rw [hge3] at hβ3; simpa [Nat.add_assoc] using hβ3⟩ A1 Fi); rw [hge3] at hs; simp only [Lr i2 t.sys hlt2, ← Nat.add_assoc]; exact hs.l9
     ·refine E9 ?_; refine Co ?_; have hie : i2 = t.sys.length := by have := of_decide_eq_false h43; omega
      have hff := Z6 (β := β) (n := (parts t).length) (by rw [hpl, ← hie]; exact hβ2); refine Ap f_ rfl A9 () (by simp [hff]) (fun w hs => by rw [hff, if_pos rfl, hpl, ← hie]; exact hs.l8)
theorem C0c (k : Int) : Spec prog 189 #[iv k] [] [] (fun _ : Unit => iv (D3 k)) (fun _ => []) (fun _ => []) := by
 refine Dp ntmps189 fun B hB => ?_
 refine Vl ?_; refine Ii ?_; refine Hi ?_; refine T1 ?_; refine A5 (fun h4 => ?_) (fun h4 => ?_)
 ·refine Gz ?_; refine Ap f_ rfl A9 () (by simp_all [D3]) (fun w hs => hs.none)
 ·refine F0 ?_; refine A5 (fun h4 => ?_) (fun h4 => ?_)
  ·refine Gz ?_; refine Ap f_ rfl A9 () (by simp_all [D3]) (fun w hs => hs.none)
  ·refine F0 ?_; refine A5 (fun h4 => ?_) (fun h4 => ?_)
   ·refine Gz ?_; refine Ap f_ rfl A9 () (by simp_all [D3]) (fun w hs => hs.none)
   ·refine F0 ?_; refine A5 (fun h4 => ?_) (fun h4 => ?_)
    ·refine Gz ?_; refine Ap f_ rfl A9 () (by simp_all [D3]) (fun w hs => hs.none)
    ·refine F0 ?_; refine A5 (fun h4 => ?_) (fun h4 => ?_)
     ·refine Gz ?_; refine Ap f_ rfl A9 () (by simp_all [D3]) (fun w hs => hs.none)
     ·refine F0 ?_; refine A5 (fun h4 => ?_) (fun h4 => ?_)
      ·refine Gz ?_; refine Ap f_ rfl A9 () (by simp_all [D3]) (fun w hs => hs.none)
      ·refine F0 ?_; refine A5 (fun h4 => ?_) (fun h4 => ?_)
       ·refine Gz ?_; refine Ap f_ rfl A9 () (by simp_all [D3]) (fun w hs => hs.none)
       ·refine Rj ?_; refine A5 (fun h4 => ?_) (fun h4 => ?_)
        ·refine Co ?_; refine Ap f_ rfl A9 () (by simp_all [D3]) (fun w hs => hs.none)
        ·refine T1 ?_; refine A5 (fun h13 => ?_) (fun h13 => ?_)
         ·refine Gz ?_; refine Ap f_ rfl A9 () (by simp_all [D3]) (fun w hs => hs.none)
         ·refine F0 ?_; refine A5 (fun h13 => ?_) (fun h13 => ?_)
          ·refine Gz ?_; refine Ap f_ rfl A9 () (by simp_all [D3]) (fun w hs => hs.none)
          ·refine F0 ?_; refine A5 (fun h13 => ?_) (fun h13 => ?_)
           ·refine Gz ?_; refine Ap f_ rfl A9 () (by simp_all [D3]) (fun w hs => hs.none)
           ·refine F0 ?_; refine A5 (fun h13 => ?_) (fun h13 => ?_)
            ·refine Gz ?_; refine Ap f_ rfl A9 () (by simp_all [D3]) (fun w hs => hs.none)
            ·refine F0 ?_; refine A5 (fun h13 => ?_) (fun h13 => ?_)
             ·refine Gz ?_; refine Ap f_ rfl A9 () (by simp_all [D3]) (fun w hs => hs.none)
             ·refine F0 ?_; refine A5 (fun h13 => ?_) (fun h13 => ?_)
              ·refine Gz ?_; refine Ap f_ rfl A9 () (by simp_all [D3]) (fun w hs => hs.none)
              ·refine F0 ?_; refine A5 (fun h13 => ?_) (fun h13 => ?_)
               ·refine Gz ?_; refine Ap f_ rfl A9 () (by simp_all [D3]) (fun w hs => hs.none)
               ·refine F0 ?_; refine A5 (fun h13 => ?_) (fun h13 => ?_)
                ·refine Gz ?_; refine Ap f_ rfl A9 () (by simp_all [D3]) (fun w hs => hs.none)
                ·refine Rj ?_; refine A5 (fun h13 => ?_) (fun h13 => ?_)
                 ·refine Co ?_; refine Ap f_ rfl A9 () (by simp_all [D3]) (fun w hs => hs.none)
                 ·refine T1 ?_; refine A5 (fun h23 => ?_) (fun h23 => ?_)
                  ·refine Gz ?_; refine Ap f_ rfl A9 () (by simp_all [D3]) (fun w hs => hs.none)
                  ·refine F0 ?_; refine A5 (fun h23 => ?_) (fun h23 => ?_)
                   ·refine Gz ?_; refine Ap f_ rfl A9 () (by simp_all [D3]) (fun w hs => hs.none)
                   ·refine F0 ?_; refine A5 (fun h23 => ?_) (fun h23 => ?_)
                    ·refine Gz ?_; refine Ap f_ rfl A9 () (by simp_all [D3]) (fun w hs => hs.none)
                    ·refine F0 ?_; refine A5 (fun h23 => ?_) (fun h23 => ?_)
                     ·refine Gz ?_; refine Ap f_ rfl A9 () (by simp_all [D3]) (fun w hs => hs.none)
                     ·refine F0 ?_; refine A5 (fun h23 => ?_) (fun h23 => ?_)
                      ·refine Gz ?_; refine Ap f_ rfl A9 () (by simp_all [D3]) (fun w hs => hs.none)
                      ·refine F0 ?_; refine A5 (fun h23 => ?_) (fun h23 => ?_)
                       ·refine Gz ?_; refine Ap f_ rfl A9 () (by simp_all [D3]) (fun w hs => hs.none)
                       ·refine Rj ?_; refine A5 (fun h23 => ?_) (fun h23 => ?_)
                        ·refine Co ?_; refine Ap f_ rfl A9 () (by simp_all [D3]) (fun w hs => hs.none)
                        ·refine T1 ?_; refine A5 (fun h31 => ?_) (fun h31 => ?_)
                         ·refine Gz ?_; refine Ap f_ rfl A9 () (by simp_all [D3]) (fun w hs => hs.none)
                         ·refine Rj ?_; refine A5 (fun h31 => ?_) (fun h31 => ?_)
                          ·refine Co ?_; refine Ap f_ rfl A9 () (by simp_all [D3]) (fun w hs => hs.none)
                          ·refine F0 ?_; refine A5 (fun h34 => ?_) (fun h34 => ?_)
                           ·refine Co ?_; refine Ap f_ rfl A9 () (by simp_all [D3]) (fun w hs => hs.none)
                           ·refine F0 ?_; refine A5 (fun h36 => ?_) (fun h36 => ?_)
                            ·refine Co ?_; refine Ap f_ rfl A9 () (by simp_all [D3]) (fun w hs => hs.none)
                            ·refine I2 ?_; refine Co ?_; refine Ap f_ rfl A9 () (by simp_all [D3]) (fun w hs => hs.none)
theorem Ly (k : Int) : Spec prog 190 #[iv k] [] [] (fun _ : Unit => iv (De k)) (fun _ => []) (fun _ => []) := by
 refine Dp ntmps190 fun B hB => ?_
 refine Vl ?_; refine Ii ?_; refine Hi ?_; refine T1 ?_; refine A5 (fun h4 => ?_) (fun h4 => ?_)
 ·refine Gz ?_; refine Ap f_ rfl A9 () (by simp_all [De]) (fun w hs => hs.none)
 ·refine F0 ?_; refine A5 (fun h4 => ?_) (fun h4 => ?_)
  ·refine Gz ?_; refine Ap f_ rfl A9 () (by simp_all [De]) (fun w hs => hs.none)
  ·refine Rj ?_; refine A5 (fun h4 => ?_) (fun h4 => ?_)
   ·refine Co ?_; refine Ap f_ rfl A9 () (by simp_all [De]) (fun w hs => hs.none)
   ·refine F0 ?_; refine A5 (fun h8 => ?_) (fun h8 => ?_)
    ·refine Co ?_; refine Ap f_ rfl A9 () (by simp_all [De]) (fun w hs => hs.none)
    ·refine I2 ?_; refine Co ?_; refine Ap f_ rfl A9 () (by simp_all [De]) (fun w hs => hs.none)
theorem B1l (t : T) (vr vk vs : SH) (c : FuncId) (cap : List Value) (FΓ : List Fact) (SM : Nat → List B4)
  (hc : ∀ (args : Array Value) (w : World), (callFunc c args).run prog w = .ok (.enter c args) w)
  (hcl : ∀ m k v d, (parts t)[m]? = some (k, v, d) → ∀ vr vk vs, Spec prog c (.agg (tc k vr vk vs).toArray :: iv v :: iv d :: cap).toArray (RT k vr vk vs :: FΓ) (SM m) (fun _ : Unit => .bool true) (fun _ => []) (fun _ => SM (m + 1))) :
  Spec prog 106 #[.agg (tc t vr vk vs).toArray, .func (.func c) #[] cap.toArray] (RT t vr vk vs :: FΓ) (SM 0) (fun _ : Unit => .bool true) (fun _ => []) (fun _ => SM (parts t).length) := by
 have h := Vc t vr vk vs c cap FΓ SM SM (fun _ => true) hc (fun m k v d hm _ vr vk vs => by simpa using hcl m k v d hm vr vk vs); have hf : ∀ n, ff (fun _ => true) n = n := fun n => Z6 (fun _ _ => rfl)
 simpa [hf] using h
theorem Int.ofNat_max' (a b : Nat) : ((max a b : Nat) : Int) = if (b : Int) > (a : Int) then (b : Int) else (a : Int) := by
 split <;> omega
theorem B3i (k : T) (vr vk vs : SH) (b a : Nat) (v d : Int) (ha : a + size k ≤ 1152921504606846976) (ih : ∀ vr vk vs, Spec prog 80 #[.agg (tc k vr vk vs).toArray] [RT k vr vk vs] [] (fun _ : Unit => iv (size k : Int)) (fun _ => []) (fun _ => [])) : Spec prog 151 #[.agg (tc k vr vk vs).toArray, iv v, iv d, pz b] [RT k vr vk vs] [A8 b [iv (a : Int)] 3] (fun _ : Unit => .bool true) (fun _ => []) (fun _ => [A8 b [iv ((a + size k : Nat) : Int)] 3]) := by
 refine Dp ntmps151 fun B hB => ?_
 refine Ar ?_; refine q0 rfl (B0 fun b4 => ?_); refine Iv ?_; refine B6 (pn := 1000000) (tn := false) (A := [0, 0, 2, 7, 15]) (l := [0, 1, 2, 3]) (fin := [4]) Tab.mixed ⟨_, func151⟩ (by rfl) ?_; refine D1o ?_; refine Mg ?_; refine n0 rfl (B8 call80 (ih vr vk vs) (fun x10 => ?_)); refine Ny ?_; refine Kr ?_; refine A8a ?_; refine Co ?_; refine Ap f_ rfl A9 () rfl (fun w hs => (hs.l8).Am (A := [_]))
theorem B8w (t : T) (vr vk vs : SH) (hsz : size t ≤ 1152921504606846976) (ih : ∀ p, p ∈ parts t → size p.1 ≤ 1152921504606846976 → ∀ vr vk vs, Spec prog 80 #[.agg (tc p.1 vr vk vs).toArray] [RT p.1 vr vk vs] [] (fun _ : Unit => iv (size p.1 : Int)) (fun _ => []) (fun _ => [])) : Spec prog 80 #[.agg (tc t vr vk vs).toArray] [RT t vr vk vs] [] (fun _ : Unit => iv (size t : Int)) (fun _ => []) (fun _ => []) := by
 refine Dp ntmps80 fun B hB => ?_
 have hds := Gv t; have hdu := Ho t (parts t).length; refine Ar ?_; refine q0 rfl (B0 fun b1 => ?_); refine By ?_; refine Ar ?_; refine q0 rfl (B2 fun b3 => ?_); refine Dv ?_; refine G0 ?_; refine Pc ?_; have hE := B1l t vr vk vs 151 [pz b3] [] (fun m => [A8 b3 [iv (Bs t m : Int)] 3]) call151 (fun m k v d hm vr vk vs => (by have hx := Qo hm; have hy := Gv k; have hz := Ho t m; have := B3i k vr vk vs b3 (Bs t m) v d (by simp only at hx; omega) (ih _ (Ip hm) A1); simpa only [K2 hm] using this)); simp only [K1, J7] at hE; refine q0 rfl (A0 call106 (hE) (fun x6 => ?_)); refine Ii ?_; refine Pm ?_; refine By ?_; refine Ap f_ rfl A9 () rfl (fun w hs => hs.none)
theorem A2d : ∀ (t : T), size t ≤ 1152921504606846976 → ∀ vr vk vs, Spec prog 80 #[.agg (tc t vr vk vs).toArray] [RT t vr vk vs] [] (fun _ : Unit => iv (size t : Int)) (fun _ => []) (fun _ => []) :=
 T.ind fun t ih hsz vr vk vs => B8w t vr vk vs hsz ih
theorem B1p (k : T) (vr vk vs : SH) (b a : Nat) (v d : Int) (ih : ∀ vr vk vs, Spec prog 84 #[.agg (tc k vr vk vs).toArray] [RT k vr vk vs] [] (fun _ : Unit => iv (depth k : Int)) (fun _ => []) (fun _ => [])) : Spec prog 154 #[.agg (tc k vr vk vs).toArray, iv v, iv d, pz b] [RT k vr vk vs] [A8 b [iv (a : Int)] 3] (fun _ : Unit => .bool true) (fun _ => []) (fun _ => [A8 b [iv ((max a (depth k) : Nat) : Int)] 3]) := by
 refine Dp ntmps154 fun B hB => ?_
 refine Ar ?_; refine q0 rfl (B0 fun b4 => ?_); refine Iv ?_; refine B6 (pn := 1000000) (tn := false) (A := [0, 0, 2, 7, 15]) (l := [0, 1, 2, 3]) (fin := [4]) Tab.mixed ⟨_, func154⟩ (by rfl) ?_; refine D1o ?_; refine Mg ?_; refine n0 rfl (B8 call84 (ih vr vk vs) (fun x10 => ?_)); refine n0 rfl (D6e ?_); refine Kr ?_; refine A8a ?_; refine Co ?_; refine Ap f_ rfl A9 () rfl (fun w hs => by rw [Int.ofNat_max']; exact (hs.l8).Am (A := [_]))
theorem B5c (t : T) (vr vk vs : SH) (hsz : size t ≤ 1152921504606846976) (ih : ∀ p, p ∈ parts t → size p.1 ≤ 1152921504606846976 → ∀ vr vk vs, Spec prog 84 #[.agg (tc p.1 vr vk vs).toArray] [RT p.1 vr vk vs] [] (fun _ : Unit => iv (depth p.1 : Int)) (fun _ => []) (fun _ => [])) : Spec prog 84 #[.agg (tc t vr vk vs).toArray] [RT t vr vk vs] [] (fun _ : Unit => iv (depth t : Int)) (fun _ => []) (fun _ => []) := by
 refine Dp ntmps84 fun B hB => ?_
 have hds := Gv t; have hdu := Ho t (parts t).length; refine Ar ?_; refine q0 rfl (B0 fun b1 => ?_); refine By ?_; refine Ar ?_; refine q0 rfl (B2 fun b3 => ?_); refine Dv ?_; refine G0 ?_; refine Pc ?_; have hE := B1l t vr vk vs 154 [pz b3] [] (fun m => [A8 b3 [iv (Gb t m : Int)] 3]) call154 (fun m k v d hm vr vk vs => (by have hx := Qo hm; have hy := Gv k; have hz := Ho t m; have := B1p k vr vk vs b3 (Gb t m) v d (ih _ (Ip hm) A1); simpa only [Mb hm] using this)); simp only [Zf] at hE; refine q0 rfl (A0 call106 (hE) (fun x6 => ?_)); refine Ii ?_; refine Pm ?_; refine P1 ?_; refine Ap f_ rfl A9 () (by rw [← Rs t]; rfl) (fun w hs => hs.none)
theorem B5d : ∀ (t : T), size t ≤ 1152921504606846976 → ∀ vr vk vs, Spec prog 84 #[.agg (tc t vr vk vs).toArray] [RT t vr vk vs] [] (fun _ : Unit => iv (depth t : Int)) (fun _ => []) (fun _ => []) :=
 T.ind fun t ih hsz vr vk vs => B5c t vr vk vs hsz ih
theorem A3r (t : T) (vr vk vs : SH) (c : FuncId) (cap : List Value) (FΓ : List Fact) (M : List B4) (g : Part → Bool)
  (hc : ∀ (args : Array Value) (w : World), (callFunc c args).run prog w = .ok (.enter c args) w)
  (hcl : ∀ k v d, (k, v, d) ∈ parts t → ∀ vr vk vs, Spec prog c (.agg (tc k vr vk vs).toArray :: iv v :: iv d :: cap).toArray (RT k vr vk vs :: FΓ) M (fun _ : Unit => .bool (g (k, v, d))) (fun _ => []) (fun _ => M)) :
  Spec prog 106 #[.agg (tc t vr vk vs).toArray, .func (.func c) #[] cap.toArray] (RT t vr vk vs :: FΓ) M (fun _ : Unit => .bool ((parts t).all g)) (fun _ => []) (fun _ => M) := by
 have h := Vc t vr vk vs c cap FΓ (fun _ => M) (fun _ => M) (A7m t g) hc (fun m k v d hm _ vr vk vs => by simpa [Qf hm] using hcl k v d (Ip hm) vr vk vs); rw [C5q] at h; simpa using h
abbrev Vk (t : T) : Prop := ∀ (left : Int) vr vk vs, Aj left → Spec prog 103 #[.agg (tc t vr vk vs).toArray, iv left] [RT t vr vk vs] [] (fun _ : Unit => .bool (decide ((depth t : Int) ≤ left))) (fun _ => []) (fun _ => [])
theorem A0m (k : T) (vr vk vs : SH) (b : Nat) (left v d : Int) (h0 : 0 < left) (hl : Aj left) (ih : Vk k) : Spec prog 186 #[.agg (tc k vr vk vs).toArray, iv v, iv d, pz b] [RT k vr vk vs] [A8 b [iv left] 3] (fun _ : Unit => .bool (decide ((depth k : Int) ≤ left - 1))) (fun _ => []) (fun _ => [A8 b [iv left] 3]) := by
 refine Dp ntmps186 fun B hB => ?_
 refine Ar ?_; refine q0 rfl (B0 fun b4 => ?_); refine By ?_; refine G0 ?_; refine zq9 ?_; refine B8p ?_; refine q0 rfl (A0 call103 (ih (left - 1) vr vk vs (by unfold Aj at *; omega)) (fun x11 => ?_)); refine By ?_; refine Ap f_ rfl A9 () rfl (fun w hs => (hs.l8).drop)
theorem A5f (t : T) (ih : ∀ p, p ∈ parts t → Vk p.1) (left : Int) (vr vk vs : SH) (hl : Aj left) : Spec prog 103 #[.agg (tc t vr vk vs).toArray, iv left] [RT t vr vk vs] [] (fun _ : Unit => .bool (decide ((depth t : Int) ≤ left))) (fun _ => []) (fun _ => []) := by
 refine Dp ntmps103 fun B hB => ?_
 refine Ar ?_; refine q0 rfl (B0 fun b2 => ?_); refine q0 rfl (B0 fun b3 => ?_); refine By ?_; refine Pm ?_; refine A7y ?_; refine E8 ?_; refine qI rfl rfl rfl Lp (fun hg7 => Ro ?_) (fun hg7 => ?_)
 ·refine qT rfl rfl rfl (B4f ?_); have h0 : 0 < left := of_decide_eq_true hg7; have hE := A3r t vr vk vs 186 [pz b3] [] [A8 b3 [iv left] 3] (fun p => decide ((depth p.1 : Int) ≤ left - 1)) call186 (fun k v d hm vr vk vs => A0m k vr vk vs b3 left v d h0 hl (ih _ hm)); rw [← C0s t left h0] at hE; refine qT rfl rfl rfl (A0 call106 (hE) (fun x10 => ?_)); refine Gy ?_; refine Ap f_ rfl A9 () rfl (fun w hs => hs.none)
 ·refine Hw ?_; refine Gn ?_; have h0 : ¬ 0 < left := of_decide_eq_false hg7; have hp := A3w t; refine Ap f_ rfl A9 () (by rw [decide_eq_false A1]) (fun w hs => hs.none)
theorem A5g : ∀ t : T, Vk t := T.ind fun t ih left vr vk vs hl => A5f t ih left vr vk vs hl
def leftOf (t : T) (m : Int) : Int := if (size t : Int) ≤ m then m - size t else -1
abbrev A0a (b bc : Nat) : List Value := [pz b, pz bc]
abbrev Ht (b bc : Nat) (m : Int) : List B4 := [A8 b [iv m] 3, A8 bc [.func (.func 187) #[] (A0a b bc).toArray] 30]
abbrev X1 (t : T) : Prop := ∀ (m : Int) b bc vr vk vs, 0 ≤ m → Aj m → Spec prog 187 #[.agg (tc t vr vk vs).toArray, pz b, pz bc] [RT t vr vk vs] (Ht b bc m) (fun _ : Unit => .bool (decide ((size t : Int) ≤ m))) (fun _ => []) (fun _ => Ht b bc (leftOf t m))
theorem A5b (k : T) (vr vk vs : SH) (b bc : Nat) (m v d : Int) (h0 : 0 ≤ m) (hl : Aj m) (ih : X1 k) : Spec prog 188 #[.agg (tc k vr vk vs).toArray, iv v, iv d, pz bc] [RT k vr vk vs] (Ht b bc m) (fun _ : Unit => .bool (decide ((size k : Int) ≤ m))) (fun _ => []) (fun _ => Ht b bc (leftOf k m)) := by
 refine Dp ntmps188 fun B hB => ?_
 refine Ar ?_; refine q0 rfl (B0 fun b4 => ?_); refine By ?_; refine Pm ?_; refine Iw ?_; refine q0 rfl (Eh call187 (ih m b bc vr vk vs h0 hl) (cap := A0a b bc) (fun x10 => ?_)); refine By ?_; refine Ap f_ rfl A9 () rfl (fun w hs => (hs.l8).Am (A := Ht b bc (leftOf k m)))
theorem B5g (t : T) (ih : ∀ p, p ∈ parts t → X1 p.1) (m : Int) (b bc : Nat) (vr vk vs : SH) (h0 : 0 < m) (hl : Aj m) :
  Spec prog 106 #[.agg (tc t vr vk vs).toArray, .func (.func 188) #[] #[pz bc]] [RT t vr vk vs] (Ht b bc (m - 1)) (fun _ : Unit => .bool (decide ((size t : Int) ≤ m))) (fun _ => []) (fun _ => Ht b bc (leftOf t m)) := by
 have h := Vc t vr vk vs 188 [pz bc] [] (fun j => Ht b bc (if (Bs t j : Int) ≤ m then m - Bs t j else -1)) (fun _ => Ht b bc (-1)) (fun j => decide ((Bs t (j + 1) : Int) ≤ m)) call188 ?_
 ·have hall : (ff (fun j => decide ((Bs t (j + 1) : Int) ≤ m)) (parts t).length == (parts t).length) = decide ((size t : Int) ≤ m) := by
   rw [Bool.eq_iff_iff, beq_iff_eq, Vb, decide_eq_true_iff]; constructor
   ·intro h; cases hn : (parts t).length with
    | zero => have := J7 t; rw [hn, K1] at this; omega
    | succ n =>
     have := h n A1; rw [← hn, J7] at this; exact of_decide_eq_true this
   ·intro h j hj; have := Pr t (j + 1); exact decide_eq_true A1
  simp only [hall, K1, J7, beq_iff_eq] at h; rw [if_pos A1] at h; by_cases hs : (size t : Int) ≤ m
  ·have e : ff (fun j => decide ((Bs t (j + 1) : Int) ≤ m)) (parts t).length = (parts t).length := by rw [← beq_iff_eq, hall]; exact decide_eq_true hs
   simp only [e, if_true, if_pos hs] at h; unfold leftOf; rw [if_pos hs]; exact h
  ·have e : ¬ ff (fun j => decide ((Bs t (j + 1) : Int) ≤ m)) (parts t).length = (parts t).length := by rw [← beq_iff_eq, hall]; simpa using hs
   simp only [if_neg e] at h; unfold leftOf; rw [if_neg hs]; exact h
 ·intro j k v d hm hβ vr vk vs; have hs := K2 hm; simp only at hs; have hp := size_pos k
  have hj : (Bs t j : Int) ≤ m := by
   cases j with
   | zero => rw [K1]; omega
   | succ j => exact of_decide_eq_true (hβ j A1)
  have := A5b k vr vk vs b bc (m - Bs t j) v d A1 (by unfold Aj at *; omega) (ih _ (Ip hm)); rw [if_pos hj]; have e1 : decide ((size k : Int) ≤ m - Bs t j) = decide ((Bs t (j + 1) : Int) ≤ m) := by rw [hs]; congr 1; apply propext; omega
  rw [e1] at this
  have e2 : Ht b bc (leftOf k (m - Bs t j)) = if decide ((Bs t (j + 1) : Int) ≤ m) = true then Ht b bc (if (Bs t (j + 1) : Int) ≤ m then m - Bs t (j + 1) else -1) else Ht b bc (-1) := by
   unfold leftOf; by_cases hk : (Bs t (j + 1) : Int) ≤ m
   ·rw [if_pos A1, if_pos (decide_eq_true hk), if_pos hk, hs]; congr 1; omega
   ·rw [if_neg A1, if_neg (by simpa using hk)]
  rw [e2] at this; exact this
theorem A8s (t : T) (ih : ∀ p, p ∈ parts t → X1 p.1) (m : Int) (b bc : Nat) (vr vk vs : SH) (h0 : 0 ≤ m) (hl : Aj m) : Spec prog 187 #[.agg (tc t vr vk vs).toArray, pz b, pz bc] [RT t vr vk vs] (Ht b bc m) (fun _ : Unit => .bool (decide ((size t : Int) ≤ m))) (fun _ => []) (fun _ => Ht b bc (leftOf t m)) := by
 refine Dp ntmps187 fun B hB => ?_
 refine Ar ?_; refine q0 rfl (B0 fun b3 => ?_); refine By ?_; refine Pm ?_; refine B8p ?_; refine A8a ?_; refine Pm ?_; refine B2x ?_; refine E8 ?_; refine qI rfl rfl rfl Lp (fun hg9 => Ro ?_) (fun hg9 => ?_)
 ·refine qT rfl rfl rfl (B4f ?_); have h1 : 0 ≤ m - 1 := of_decide_eq_true hg9; have hE := B5g t ih m b bc vr vk vs A1 hl; refine qT rfl rfl rfl (A0 call106 (hE) (fun x12 => ?_) (hm := (List.Perm.swap _ _ _).cons _)); refine Gy ?_; refine Ap f_ rfl A9 () rfl (fun w hs => (hs.l8).Am (A := Ht b bc (leftOf t m)))
 ·refine Hw ?_; refine Gn ?_; have h1 : ¬ 0 ≤ m - 1 := of_decide_eq_false hg9; have hp := size_pos t; refine Ap f_ rfl A9 () (by rw [decide_eq_false A1]) (fun w hs => by rw [leftOf, if_neg A1, show (-1 : Int) = m - 1 by omega]; exact ((hs.l7).perm ((List.Perm.swap _ _ _).cons _)).Am (A := Ht b bc (m - 1)))
theorem B5f : ∀ t : T, X1 t := T.ind fun t ih m b bc vr vk vs h0 hl => A8s t ih m b bc vr vk vs h0 hl
def C6z : Prop := ∀ (l : List Cl) (a : SH), Spec prog 63 #[sl a l.length] [CL l a] [] (fun _ : Unit => .bool (Aq l)) (fun _ => []) (fun _ => [])
def A4o : Prop := ∀ (l : List Cl) (a : SH), Spec prog 193 #[sl a l.length] [CL l a] [] (fun _ : Unit => .bool (B3 l)) (fun _ => []) (fun _ => [])
def C7a : Prop := ∀ (l : List Cl) (a : SH), Spec prog 64 #[sl a l.length] [CL l a] [] (fun _ : Unit => .int .u32 (G9 l : Int)) (fun _ => []) (fun _ => [])
def B5t : Prop := C6z ∧ A4o ∧ C7a
theorem B3g (t : T) (vr vk vs : SH) (D0 : Int) (h0 : 0 ≤ D0) (hl : Aj D0) : Spec prog 104 #[.agg (tc t vr vk vs).toArray, iv D0] [RT t vr vk vs] [] (fun _ : Unit => .bool (decide ((size t : Int) ≤ D0))) (fun _ => []) (fun _ => []) := by
 refine Dp ntmps104 fun B hB => ?_
 refine Ar ?_; refine q0 rfl (B0 fun b2 => ?_); refine q0 rfl (B0 fun b3 => ?_); refine By ?_; refine Ar ?_; refine q0 rfl (B2 fun b5 => ?_); refine Ii ?_; refine Ar ?_; refine Pc ?_; refine Dv ?_; refine Pm ?_; refine Iw ?_; refine q0 rfl (Eh call187 (B5f t D0 b3 b5 vr vk vs h0 hl) (cap := A0a b3 b5) (fun x9 => ?_)); refine By ?_; refine Ap f_ rfl A9 () rfl (fun w hs => hs.none)
theorem Xo (t : T) (vr vk vs : SH) : Spec prog 59 #[.agg (tc t vr vk vs).toArray] [RT t vr vk vs] [] (fun _ : Unit => iv (sized t)) (fun _ => []) (fun _ => []) := by
 refine Dp ntmps59 fun B hB => ?_
 refine Ar ?_; refine q0 rfl (B0 fun b1 => ?_); refine Iv ?_; refine Hi ?_; refine G0 ?_; refine q0 rfl (A0 call103 (A5g t 200 vr vk vs (by unfold Aj; omega)) (fun x5 => ?_)); refine B2y ?_; refine By ?_; refine A5 (fun h3 => ?_) (fun h3 => ?_)
 ·refine Co ?_; have h : 200 < depth t := by simp at h3; omega
  refine Ap f_ rfl A9 () (by rw [sized, if_pos h]) (fun w hs => hs.none)
 ·refine G0 ?_; refine q0 rfl (A0 call104 (B3g t vr vk vs 20000 A1 (by unfold Aj; omega)) (fun x9 => ?_)); refine B2y ?_; refine By ?_; refine A5 (fun h7 => ?_) (fun h7 => ?_)
  ·refine Co ?_; have h : ¬ 200 < depth t := by simp at h3; omega
   have h2 : 20000 < size t := by simp at h7; omega
   refine Ap f_ rfl A9 () (by rw [sized, if_neg h, if_pos h2]) (fun w hs => hs.none)
  ·refine I2 ?_; refine Co ?_; have h : ¬ 200 < depth t := by simp at h3; omega
   have h2 : ¬ 20000 < size t := by simp at h7; omega
   refine Ap f_ rfl A9 () (by rw [sized, if_neg h, if_neg h2]) (fun w hs => hs.none)
theorem B9r (s : ByteArray) (hs : s.size ≤ Gc) : Spec prog 191 #[.string s] [] [] (fun _ : Unit => .bool (Mz s)) (fun _ => []) (fun _ => []) := by
 refine Dp ntmps191 fun B hB => ?_
 refine Vl ?_; refine q0 rfl (Yk ?_); refine D1i ?_; refine Hi ?_; refine Fm (X := Nat) (fun i => i ≤ s.size ∧ ∀ j, j < i → A0v s j = true) (fun i => [(0, .string s), (7, iv (s.size : Int)), (8, iv (i : Int))]) (fun i => []) (fun i => []) (fun i => s.size - i) (0) (⟨Nat.zero_le _, fun j hj => by omega⟩) (by exact Fi) ?_ ?_
 ·exact fun w hs => hs.none
 ·intro i base0 ⟨hi, hok⟩ next0; refine G1 ?_; refine A5 (fun h9 => ?_) (fun h9 => ?_)
  ·have hlt : i < s.size := by have := of_decide_eq_true h9; omega
   obtain ⟨c, hc, hca⟩ := C9p hlt; refine A4p ?_; refine Jn ?_; refine Em ?_; refine E8 ?_; refine q0 rfl (C8r ?_); refine Iv ?_; refine Bu ([(0, .string s), (3, iv (i : Int)), (4, .int .u8 c.toNat), (5, .bool (Hc c.toNat)), (7, iv (s.size : Int)), (8, iv (i : Int))]) (fun hK => ?_) (fun base => ?_)
   ·refine Ef ?_; refine B2x ?_; refine E8 ?_; refine qI rfl rfl rfl Lp (fun hg16 => Ff ?_) (fun hg16 => ?_)
    ·refine B8o ?_; refine Mi ?_; refine qI rfl rfl rfl Lp (fun hg20 => Ff ?_) (fun hg20 => ?_)
     ·refine qT rfl rfl rfl (A3c ?_); refine Hx ?_; refine qI rfl rfl rfl Lp (fun hg23 => Ff ?_) (fun hg23 => ?_)
      ·refine B8o ?_; refine B2w ?_; refine Nb ?_; refine qI rfl rfl rfl Lp (fun hg28 => Ff ?_) (fun hg28 => ?_)
       ·refine A7x ?_; refine Gn ?_; exact hK _ ⟨rfl, rfl, rfl, (by (conv => lhs; whnf); first | (simp_all [Hc]; done) | (simp_all [Hc]; omega)), rfl, rfl, trivial⟩
       ·refine Un ?_; refine Gy ?_; exact hK _ ⟨rfl, rfl, rfl, (by (conv => lhs; whnf); first | (simp_all [Hc]; done) | (simp_all [Hc]; omega)), rfl, rfl, trivial⟩
      ·refine Un ?_; refine B8n ?_; refine Nb ?_; refine Hx ?_; refine A7x ?_; refine Gn ?_; exact hK _ ⟨rfl, rfl, rfl, (by (conv => lhs; whnf); first | (simp_all [Hc]; done) | (simp_all [Hc]; omega)), rfl, rfl, trivial⟩
     ·refine Hw ?_; refine Sz ?_; refine Un ?_; refine Mi ?_; refine Hw ?_; refine Gy ?_; exact hK _ ⟨rfl, rfl, rfl, (by (conv => lhs; whnf); first | (simp_all [Hc]; done) | (simp_all [Hc]; omega)), rfl, rfl, trivial⟩
    ·refine Un ?_; refine Nb ?_; refine Hx ?_; refine qT rfl rfl rfl (A3c ?_); refine Hx ?_; refine qI rfl rfl rfl Lp (fun hg23 => Ff ?_) (fun hg23 => ?_)
     ·refine B8o ?_; refine B2w ?_; refine Nb ?_; refine qI rfl rfl rfl Lp (fun hg28 => Ff ?_) (fun hg28 => ?_)
      ·refine A7x ?_; refine Gn ?_; exact hK _ ⟨rfl, rfl, rfl, (by (conv => lhs; whnf); first | (simp_all [Hc]; done) | (simp_all [Hc]; omega)), rfl, rfl, trivial⟩
      ·refine Un ?_; refine Gy ?_; exact hK _ ⟨rfl, rfl, rfl, (by (conv => lhs; whnf); first | (simp_all [Hc]; done) | (simp_all [Hc]; omega)), rfl, rfl, trivial⟩
     ·refine Un ?_; refine B8n ?_; refine Nb ?_; refine Hx ?_; refine A7x ?_; refine Gn ?_; exact hK _ ⟨rfl, rfl, rfl, (by (conv => lhs; whnf); first | (simp_all [Hc]; done) | (simp_all [Hc]; omega)), rfl, rfl, trivial⟩
   ·refine Ia ?_; refine Bu ([(0, .string s), (7, iv (s.size : Int)), (8, iv (i : Int)), (45, .bool (!(A0v s i)))]) (fun hK => ?_) (fun base => ?_)
    ·refine Ef ?_; refine B2y ?_; refine E8 ?_; refine qI rfl rfl rfl Lp (fun hg34 => Ff ?_) (fun hg34 => ?_)
     ·refine A7x ?_; refine Hx ?_; refine qI rfl rfl rfl Lp (fun hg37 => Ff ?_) (fun hg37 => ?_)
      ·refine B8m ?_; refine B8n ?_; refine Hx ?_; refine qI rfl rfl rfl Lp (fun hg41 => Ff ?_) (fun hg41 => ?_)
       ·refine qT rfl rfl rfl (Ym ?_); refine B8n ?_; refine Gm ?_; exact hK _ ⟨rfl, rfl, rfl, (by (conv => lhs; whnf); rw [hca]; first | (simp_all [digit]; done) | (simp_all [digit]; omega) | (simp_all [digit]; rw [← decide_not]; congr 1; apply propext; omega)), trivial⟩
       ·refine Un ?_; refine B2w ?_; refine Gm ?_; exact hK _ ⟨rfl, rfl, rfl, (by (conv => lhs; whnf); rw [hca]; first | (simp_all [digit]; done) | (simp_all [digit]; omega) | (simp_all [digit]; rw [← decide_not]; congr 1; apply propext; omega)), trivial⟩
      ·refine Un ?_; refine B2w ?_; refine Hx ?_; refine Hw ?_; refine B2w ?_; refine Gm ?_; exact hK _ ⟨rfl, rfl, rfl, (by (conv => lhs; whnf); rw [hca]; first | (simp_all [digit]; done) | (simp_all [digit]; omega) | (simp_all [digit]; rw [← decide_not]; congr 1; apply propext; omega)), trivial⟩
     ·refine Hw ?_; refine Sz ?_; refine Hw ?_; refine Sz ?_; refine Un ?_; refine Jm ?_; exact hK _ ⟨rfl, rfl, rfl, (by (conv => lhs; whnf); rw [hca]; first | (simp_all [digit]; done) | (simp_all [digit]; omega) | (simp_all [digit]; rw [← decide_not]; congr 1; apply propext; omega)), trivial⟩
    ·refine A5 (fun h45 => ?_) (fun h45 => ?_)
     ·refine Co ?_; refine Ap f_ rfl A9 () (by rw [B4g hlt (by simpa using h45)]) (fun w hs => hs.none)
     ·refine H5 ?_; have hb : A0v s i = true := by simpa using h45
      refine A3 (fun w hs => hs) (next0 (i + 1) _ ⟨hlt, fun j hj => (by rcases Nat.lt_succ_iff_lt_or_eq.mp hj with h | h; exact hok j h; subst h; exact hb)⟩ A1 Fi)
  ·have hge : i = s.size := by have := of_decide_eq_false h9; omega
   refine E9 ?_; refine Em ?_; refine q0 rfl (D0m ?_); refine By ?_; refine Ap f_ rfl A9 () (by rw [B4h (by rw [← hge]; exact hok), empty_eq]; rfl) (fun w hs => hs.none)
theorem K9 (hF : C7a) (l : List Cl) (a : SH) (dims : Int) (h0 : 0 ≤ dims) (hl : Aj dims) : Spec prog 192 #[sl a l.length, iv dims] [CL l a] [] (fun _ : Unit => .bool (within l dims)) (fun _ => []) (fun _ => []) := by
 refine Dp ntmps192 fun B hB => ?_
 refine I1 ?_; refine B2x ?_; refine E8 ?_; refine qI rfl rfl rfl Lp (fun hg7 => Ff ?_) (fun hg7 => ?_)
 ·refine qT rfl rfl rfl (A0 call64 (hF l a) (fun x9 => ?_)); refine Hx ?_; refine qT rfl rfl rfl (D2w ?_); refine qT rfl rfl rfl (Yi ?_ (m := dims.toNat) (hy := congrArg (Value.int .u64) (B8s h0 hl))); refine A7x ?_; refine Gn ?_; refine Ap f_ rfl A9 () (by first | (simp_all [within]; done) | (simp_all [within]; intros; omega)) (fun w hs => hs.none)
 ·refine Ln ?_; refine Un ?_; refine Gy ?_; refine Ap f_ rfl A9 () (by first | (simp_all [within]; done) | (simp_all [within]; intros; omega)) (fun w hs => hs.none)
theorem A9w (t : T) (hf : Pv t = true ∨ B5t) (vr vk vs : SH) (vars dims : Int) (hd : 0 ≤ dims) (hl : Aj dims) : Spec prog 105 #[.agg (tc t vr vk vs).toArray, iv vars, iv dims] [RT t vr vk vs] [] (fun _ : Unit => .bool (I3 t vars dims)) (fun _ => []) (fun _ => []) := by
 refine Dp ntmps105 fun B hB => ?_
 refine go_open (fun hk hn hnm => ?_); refine An (ts := t.kids) (fun VR VK VS hl1 hA1 => ?_); refine C5 (bs := t.sys) (fun VF VK2 hl2 hA2 => ?_); refine Ar ?_; refine q0 rfl (B0 fun b3 => ?_); refine Ri ?_; refine Bu ([(1, iv vars), (2, iv dims), (3, pz b3), (47, .bool (Ix t))]) (fun hK => ?_) (fun base => ?_)
 ·refine B6 (pn := 1000000) (tn := false) (A := [0, 1, 3, 0, 8, 24, 63, 127, 255, 511, 1023, 2047, 4095, 8191, 16383, 32767, 65535, 131071, 262143, 524287, 1048575, 2097151, 4194303, 8388607, 16777215, 33554431, 67108863, 134217727, 268435455, 536870911, 1073741823, 2147483647, 4294967295, 8589934591, 17179869183, 34359738367, 68719476735, 137438953471, 274877906943]) (l := [0, 1, 3, 4, 5, 2, 6, 7, 8, 9, 10, 11, 12, 13, 14, 15, 16, 17, 18, 19, 20, 21, 22, 23, 24, 25, 26, 27, 28, 29, 30, 31, 32, 33, 34, 35, 36, 37, 38]) (fin := []) Tab.mixed ⟨_, func105⟩ (by rfl) ?_; refine Gh ?_; refine Gh ?_; refine n0 rfl (A1l ?_); refine n0 rfl (B8 call189 (C0c t.kind) (fun x11 => ?_)); refine n0 rfl (A1k ?_); refine Et ?_; refine nI rfl rfl rfl Lp (fun hg16 => Rb ?_) (fun hg16 => ?_)
  ·refine Pb ?_; refine nT rfl rfl rfl (A1k ?_); refine A0h ?_; refine nI rfl rfl rfl Lp (fun hg20 => Rb ?_) (fun hg20 => ?_)
   ·refine Pb ?_; refine nT rfl rfl rfl (A1k ?_); refine B2v ?_; refine A7z ?_; refine Et ?_; refine nI rfl rfl rfl Lp (fun hg26 => Rb ?_) (fun hg26 => ?_)
    ·refine Pb ?_; refine nT rfl rfl rfl (A1k ?_); refine A0h ?_; refine nI rfl rfl rfl Lp (fun hg30 => Rb ?_) (fun hg30 => ?_)
     ·refine Pb ?_; refine nT rfl rfl rfl (D0e ?_); refine B2v ?_; refine A7z ?_; refine Et ?_; refine nI rfl rfl rfl Lp (fun hg36 => Rb ?_) (fun hg36 => ?_)
      ·refine Pb ?_; refine nT rfl rfl rfl (B8 call190 (Ly t.kind) (fun x39 => ?_)); refine nT rfl rfl rfl (A8h ?_); refine A0h ?_; refine nI rfl rfl rfl Lp (fun hg41 => Rb ?_) (fun hg41 => ?_)
       ·refine Pb ?_; refine nT rfl rfl rfl (A1l ?_); refine nT rfl rfl rfl (A8g ?_); refine B2v ?_; refine Rh ?_; exact hK _ ⟨rfl, rfl, rfl, (by (conv => lhs; whnf); first | (simp_all [Ix]; done) | (simp_all [Ix]; omega)), trivial⟩
       ·refine Pl ?_; refine B2u ?_; refine Rh ?_; exact hK _ ⟨rfl, rfl, rfl, (by (conv => lhs; whnf); first | (simp_all [Ix]; done) | (simp_all [Ix]; omega)), trivial⟩
      ·refine Ih ?_; refine Ih ?_; refine Pk ?_; refine Pk ?_; refine A0i ?_; refine X3 ?_; refine Mt ?_; exact hK _ ⟨rfl, rfl, rfl, (by (conv => lhs; whnf); first | (simp_all [Ix]; done) | (simp_all [Ix]; omega)), trivial⟩
     ·refine Ih ?_; refine B2u ?_; refine A7z ?_; refine Et ?_; refine B8l ?_; refine Pb ?_; refine nT rfl rfl rfl (B8 call190 (Ly t.kind) (fun x39 => ?_)); refine nT rfl rfl rfl (A8h ?_); refine A0h ?_; refine nI rfl rfl rfl Lp (fun hg41 => Rb ?_) (fun hg41 => ?_)
      ·refine Pb ?_; refine nT rfl rfl rfl (A1l ?_); refine nT rfl rfl rfl (A8g ?_); refine B2v ?_; refine Rh ?_; exact hK _ ⟨rfl, rfl, rfl, (by (conv => lhs; whnf); first | (simp_all [Ix]; done) | (simp_all [Ix]; omega)), trivial⟩
      ·refine Pl ?_; refine B2u ?_; refine Rh ?_; exact hK _ ⟨rfl, rfl, rfl, (by (conv => lhs; whnf); first | (simp_all [Ix]; done) | (simp_all [Ix]; omega)), trivial⟩
    ·refine Pl ?_; refine Pk ?_; refine C1m ?_; refine A0i ?_; refine X3 ?_; refine Et ?_; refine Ih ?_; refine Pl ?_; refine Pk ?_; refine Pk ?_; refine A0i ?_; refine X3 ?_; refine Mt ?_; exact hK _ ⟨rfl, rfl, rfl, (by (conv => lhs; whnf); first | (simp_all [Ix]; done) | (simp_all [Ix]; omega)), trivial⟩
   ·refine Ih ?_; refine B2u ?_; refine A7z ?_; refine Et ?_; refine B8l ?_; refine Pb ?_; refine nT rfl rfl rfl (A1k ?_); refine A0h ?_; refine nI rfl rfl rfl Lp (fun hg30 => Rb ?_) (fun hg30 => ?_)
    ·refine Pb ?_; refine nT rfl rfl rfl (D0e ?_); refine B2v ?_; refine A7z ?_; refine Et ?_; refine nI rfl rfl rfl Lp (fun hg36 => Rb ?_) (fun hg36 => ?_)
     ·refine Pb ?_; refine nT rfl rfl rfl (B8 call190 (Ly t.kind) (fun x39 => ?_)); refine nT rfl rfl rfl (A8h ?_); refine A0h ?_; refine nI rfl rfl rfl Lp (fun hg41 => Rb ?_) (fun hg41 => ?_)
      ·refine Pb ?_; refine nT rfl rfl rfl (A1l ?_); refine nT rfl rfl rfl (A8g ?_); refine B2v ?_; refine Rh ?_; exact hK _ ⟨rfl, rfl, rfl, (by (conv => lhs; whnf); first | (simp_all [Ix]; done) | (simp_all [Ix]; omega)), trivial⟩
      ·refine Pl ?_; refine B2u ?_; refine Rh ?_; exact hK _ ⟨rfl, rfl, rfl, (by (conv => lhs; whnf); first | (simp_all [Ix]; done) | (simp_all [Ix]; omega)), trivial⟩
     ·refine Ih ?_; refine Ih ?_; refine Pk ?_; refine Pk ?_; refine A0i ?_; refine X3 ?_; refine Mt ?_; exact hK _ ⟨rfl, rfl, rfl, (by (conv => lhs; whnf); first | (simp_all [Ix]; done) | (simp_all [Ix]; omega)), trivial⟩
    ·refine Ih ?_; refine B2u ?_; refine A7z ?_; refine Et ?_; refine B8l ?_; refine Pb ?_; refine nT rfl rfl rfl (B8 call190 (Ly t.kind) (fun x39 => ?_)); refine nT rfl rfl rfl (A8h ?_); refine A0h ?_; refine nI rfl rfl rfl Lp (fun hg41 => Rb ?_) (fun hg41 => ?_)
     ·refine Pb ?_; refine nT rfl rfl rfl (A1l ?_); refine nT rfl rfl rfl (A8g ?_); refine B2v ?_; refine Rh ?_; exact hK _ ⟨rfl, rfl, rfl, (by (conv => lhs; whnf); first | (simp_all [Ix]; done) | (simp_all [Ix]; omega)), trivial⟩
     ·refine Pl ?_; refine B2u ?_; refine Rh ?_; exact hK _ ⟨rfl, rfl, rfl, (by (conv => lhs; whnf); first | (simp_all [Ix]; done) | (simp_all [Ix]; omega)), trivial⟩
  ·refine Pl ?_; refine Pk ?_; refine C1m ?_; refine A0i ?_; refine X3 ?_; refine Et ?_; refine Ih ?_; refine Ih ?_; refine Pk ?_; refine C1m ?_; refine A0i ?_; refine X3 ?_; refine Et ?_; refine Ih ?_; refine Pl ?_; refine Pk ?_; refine Pk ?_; refine A0i ?_; refine X3 ?_; refine Mt ?_; exact hK _ ⟨rfl, rfl, rfl, (by (conv => lhs; whnf); first | (simp_all [Ix]; done) | (simp_all [Ix]; omega)), trivial⟩
 ·refine A5 (fun h47 => ?_) (fun h47 => ?_)
  ·refine Co ?_; refine Ap f_ rfl A9 () (by simp [I3, h47]) (fun w hs => hs.none)
  ·refine Iz ?_; refine H2 ?_; refine Ii ?_; refine Hi ?_; refine F0 ?_; refine A5 (fun h50 => ?_) (fun h50 => ?_)
   ·refine Ia ?_; refine Bu ([(6, .bool (decide ((t.r.length : Int) = 0) && decide (0 ≤ t.n) && (decide (vars < 0) || decide (t.n < vars))))]) (fun hK => ?_) (fun base => ?_)
    ·refine Hv ?_; refine Ks ?_; refine Sy ?_; refine qI rfl rfl rfl Lp (fun hg56 => Of ?_) (fun hg56 => ?_)
     ·refine J0 ?_; refine qT rfl rfl rfl (A3c ?_); refine Mi ?_; refine qI rfl rfl rfl Lp (fun hg61 => Ff ?_) (fun hg61 => ?_)
      ·refine B8m ?_; refine Hx ?_; refine qI rfl rfl rfl Lp (fun hg64 => Of ?_) (fun hg64 => ?_)
       ·refine J0 ?_; refine Hx ?_; refine B8m ?_; refine B8n ?_; refine Gy ?_; exact hK _ ⟨(by (conv => lhs; whnf); first | (simp_all [Bool.and_assoc]; done) | (simp_all [Bool.and_assoc]; omega)), trivial⟩
       ·refine Na ?_; refine B2w ?_; refine Gy ?_; exact hK _ ⟨(by (conv => lhs; whnf); first | (simp_all [Bool.and_assoc]; done) | (simp_all [Bool.and_assoc]; omega)), trivial⟩
      ·refine Hw ?_; refine Sz ?_; refine Sz ?_; refine Un ?_; refine Gn ?_; exact hK _ ⟨(by (conv => lhs; whnf); first | (simp_all [Bool.and_assoc]; done) | (simp_all [Bool.and_assoc]; omega)), trivial⟩
     ·refine Hw ?_; refine Nb ?_; refine Na ?_; refine Sz ?_; refine Sz ?_; refine Un ?_; refine Gn ?_; exact hK _ ⟨(by (conv => lhs; whnf); first | (simp_all [Bool.and_assoc]; done) | (simp_all [Bool.and_assoc]; omega)), trivial⟩
    ·refine Ap f_ rfl A9 () (by simp_all [I3, Bool.and_assoc]) (fun w hs => hs.none)
   ·refine F0 ?_; refine A5 (fun h71 => ?_) (fun h71 => ?_)
    ·refine Ia ?_; refine Bu ([(6, .bool (decide ((t.r.length : Int) = 0) && Mz t.name))]) (fun hK => ?_) (fun base => ?_)
     ·refine Hv ?_; refine Ks ?_; refine Sy ?_; refine qI rfl rfl rfl Lp (fun hg77 => Of ?_) (fun hg77 => ?_)
      ·refine J0 ?_; refine qT rfl rfl rfl (A0 call191 (B9r t.name hnm) (fun x80 => ?_)); refine Gy ?_; exact hK _ ⟨(by (conv => lhs; whnf); first | (simp_all [Bool.and_assoc]; done) | (simp_all [Bool.and_assoc]; omega)), trivial⟩
      ·refine Hw ?_; refine Gn ?_; exact hK _ ⟨(by (conv => lhs; whnf); first | (simp_all [Bool.and_assoc]; done) | (simp_all [Bool.and_assoc]; omega)), trivial⟩
     ·refine Ap f_ rfl A9 () (by simp_all [I3, Bool.and_assoc]) (fun w hs => hs.none)
    ·refine T1 ?_; refine A5 (fun h82 => ?_) (fun h82 => ?_)
     ·refine A7v ?_; refine Ia ?_; refine Bu ([(6, .bool (Aq t.r && within t.r dims))]) (fun hK => ?_) (fun base => ?_)
      ·refine Hv ?_; refine q0 rfl (A0 call63 ((It hf (by simp_all)).1 t.r vr) (fun x88 => ?_)); refine E8 ?_; refine qI rfl rfl rfl Lp (fun hg89 => Of ?_) (fun hg89 => ?_)
       ·refine J0 ?_; refine Hx ?_; refine qT rfl rfl rfl (A0 call192 (K9 (It hf (by simp_all)).2.2 t.r vr dims hd hl) (fun x93 => ?_)); refine Gy ?_; exact hK _ ⟨(by (conv => lhs; whnf); first | (simp_all [Bool.and_assoc]; done) | (simp_all [Bool.and_assoc]; omega)), trivial⟩
       ·refine Na ?_; refine Gn ?_; exact hK _ ⟨(by (conv => lhs; whnf); first | (simp_all [Bool.and_assoc]; done) | (simp_all [Bool.and_assoc]; omega)), trivial⟩
      ·refine Ap f_ rfl A9 () (by simp_all [I3, Bool.and_assoc]) (fun w hs => hs.none)
     ·refine F0 ?_; refine A5 (fun h82 => ?_) (fun h82 => ?_)
      ·refine A7v ?_; refine Ia ?_; refine Bu ([(6, .bool (Aq t.r && within t.r dims))]) (fun hK => ?_) (fun base => ?_)
       ·refine Hv ?_; refine q0 rfl (A0 call63 ((It hf (by simp_all)).1 t.r vr) (fun x88 => ?_)); refine E8 ?_; refine qI rfl rfl rfl Lp (fun hg89 => Of ?_) (fun hg89 => ?_)
        ·refine J0 ?_; refine Hx ?_; refine qT rfl rfl rfl (A0 call192 (K9 (It hf (by simp_all)).2.2 t.r vr dims hd hl) (fun x93 => ?_)); refine Gy ?_; exact hK _ ⟨(by (conv => lhs; whnf); first | (simp_all [Bool.and_assoc]; done) | (simp_all [Bool.and_assoc]; omega)), trivial⟩
        ·refine Na ?_; refine Gn ?_; exact hK _ ⟨(by (conv => lhs; whnf); first | (simp_all [Bool.and_assoc]; done) | (simp_all [Bool.and_assoc]; omega)), trivial⟩
       ·refine Ap f_ rfl A9 () (by simp_all [I3, Bool.and_assoc]) (fun w hs => hs.none)
      ·refine Rj ?_; refine A5 (fun h82 => ?_) (fun h82 => ?_)
       ·refine Ia ?_; refine Bu ([(6, .bool (Aq t.r && within t.r dims))]) (fun hK => ?_) (fun base => ?_)
        ·refine Hv ?_; refine q0 rfl (A0 call63 ((It hf (by simp_all)).1 t.r vr) (fun x88 => ?_)); refine E8 ?_; refine qI rfl rfl rfl Lp (fun hg89 => Of ?_) (fun hg89 => ?_)
         ·refine J0 ?_; refine Hx ?_; refine qT rfl rfl rfl (A0 call192 (K9 (It hf (by simp_all)).2.2 t.r vr dims hd hl) (fun x93 => ?_)); refine Gy ?_; exact hK _ ⟨(by (conv => lhs; whnf); first | (simp_all [Bool.and_assoc]; done) | (simp_all [Bool.and_assoc]; omega)), trivial⟩
         ·refine Na ?_; refine Gn ?_; exact hK _ ⟨(by (conv => lhs; whnf); first | (simp_all [Bool.and_assoc]; done) | (simp_all [Bool.and_assoc]; omega)), trivial⟩
        ·refine Ap f_ rfl A9 () (by simp_all [I3, Bool.and_assoc]) (fun w hs => hs.none)
       ·refine F0 ?_; refine A5 (fun h95 => ?_) (fun h95 => ?_)
        ·refine Ia ?_; refine Bu ([(6, .bool (B3 t.r && within t.r dims))]) (fun hK => ?_) (fun base => ?_)
         ·refine Hv ?_; refine q0 rfl (A0 call193 ((It hf (by simp_all)).2.1 t.r vr) (fun x99 => ?_)); refine E8 ?_; refine qI rfl rfl rfl Lp (fun hg100 => Of ?_) (fun hg100 => ?_)
          ·refine J0 ?_; refine Hx ?_; refine qT rfl rfl rfl (A0 call192 (K9 (It hf (by simp_all)).2.2 t.r vr dims hd hl) (fun x104 => ?_)); refine Gy ?_; exact hK _ ⟨(by (conv => lhs; whnf); first | (simp_all [Bool.and_assoc]; done) | (simp_all [Bool.and_assoc]; omega)), trivial⟩
          ·refine Na ?_; refine Gn ?_; exact hK _ ⟨(by (conv => lhs; whnf); first | (simp_all [Bool.and_assoc]; done) | (simp_all [Bool.and_assoc]; omega)), trivial⟩
         ·refine Ap f_ rfl A9 () (by simp_all [I3, Bool.and_assoc]) (fun w hs => hs.none)
        ·refine I2 ?_; refine Ia ?_; refine Ll ?_; refine Fm (X := Nat) (fun i => i ≤ t.sys.length ∧ ∀ j, j < i → Mx t dims (t.sys.getD j B1) = true) (fun i => [(2, iv dims), (3, pz b3), (107, sl vs t.sys.length), (108, iv (t.sys.length : Int)), (109, iv (i : Int))]) (fun i => BLx t.sys vs VF VK2 :: RT t vr vk vs :: []) (fun i => [A8 b3 (tc t vr vk vs) 26]) (fun i => t.sys.length - i) (0) (⟨Nat.zero_le _, fun j hj => by omega⟩) (by exact Fi) ?_ ?_
         ·exact fun w hs => hs.l9
         ·intro i base0 ⟨hi, hok⟩ next0; refine G1 ?_; refine A5 (fun h110 => ?_) (fun h110 => ?_)
          ·have hlt : i < t.sys.length := by have := of_decide_eq_true h110; omega
           obtain ⟨bk, o, hav⟩ := hA2 A1; refine J1 ?_; refine Ss ?_; refine A4q ?_; refine q0 rfl (B2 fun b8 => ?_); refine K8 ?_; refine F1 i hlt ?_; refine Bu ([(2, iv dims), (3, pz b3), (107, sl vs t.sys.length), (108, iv (t.sys.length : Int)), (109, iv (i : Int)), (132, .bool (!(Mx t dims (t.sys.getD i B1))))]) (fun hK => ?_) (fun base => ?_)
           ·refine B6 (pn := 1000000) (tn := false) (A := [0, 1, 3, 0, 8, 24, 63, 127, 255, 511, 1023, 2047, 4095, 8191, 16383, 32767, 16383, 131071, 262143, 524287]) (l := [0, 1, 2, 3, 4, 5, 6, 7, 8, 9, 10, 11, 12, 13, 14, 15, 16, 17, 18, 19]) (fin := []) Tab.mixed ⟨_, func105⟩ (by rfl) ?_; refine Gh ?_; refine n0 rfl (A1l ?_); refine Gh ?_; refine n0 rfl (B8 call190 (Ly t.kind) (fun x118 => ?_)); refine n0 rfl (A1k ?_); refine Et ?_; refine nI rfl rfl rfl Lp (fun hg120 => Rb ?_) (fun hg120 => ?_)
            ·refine Pb ?_; refine nT rfl rfl rfl (B8 call193 ((B1d hf hlt).2.1 _ (VF i)) (fun x123 => ?_)); refine nT rfl rfl rfl (Vo ?_); refine A7z ?_; refine Et ?_; refine nI rfl rfl rfl Lp (fun hg126 => Rb ?_) (fun hg126 => ?_)
             ·refine Pb ?_; refine A0h ?_; refine nT rfl rfl rfl (B8 call192 (K9 (B1d hf hlt).2.2 _ (VF i) dims hd hl) (fun x130 => ?_)); refine nT rfl rfl rfl (Vo ?_); refine Rh ?_; exact hK _ ⟨rfl, rfl, rfl, rfl, rfl, (by (conv => lhs; whnf); first | (simp_all [Mx]; done) | (simp_all [Mx]; omega)), trivial⟩
             ·refine Ih ?_; refine Ih ?_; refine X3 ?_; refine Mt ?_; exact hK _ ⟨rfl, rfl, rfl, rfl, rfl, (by (conv => lhs; whnf); first | (simp_all [Mx]; done) | (simp_all [Mx]; omega)), trivial⟩
            ·refine Pl ?_; refine X3 ?_; refine Et ?_; refine Ih ?_; refine Pl ?_; refine X3 ?_; refine Mt ?_; exact hK _ ⟨rfl, rfl, rfl, rfl, rfl, (by (conv => lhs; whnf); first | (simp_all [Mx]; done) | (simp_all [Mx]; omega)), trivial⟩
           ·refine A5 (fun h132 => ?_) (fun h132 => ?_)
            ·refine Co ?_; have ha := A7p hlt (by simpa using h132); refine Ap f_ rfl A9 () (by rw [I3, ha]; clear hok ha h132; simp_all [Bool.and_assoc]) (fun w hs => hs.none)
            ·refine H5 ?_; have hb : Mx t dims (t.sys.getD i B1) = true := by simpa using h132
             refine A3 (fun w hs => ?_) (next0 (i + 1) _ ⟨hlt, fun j hj => (by rcases Nat.lt_succ_iff_lt_or_eq.mp hj with h | h; exact hok j h; subst h; exact hb)⟩ A1 Fi); exact (hs.l9).drop
          ·have hge : i = t.sys.length := by have := of_decide_eq_false h110; omega
           refine E9 ?_; refine H2 ?_; refine Ks ?_; refine A0e ?_; have ha := C6s (t := t) (g := Mx t dims) (by rw [← hge]; exact hok); refine Ap f_ rfl A9 () (by rw [I3, ha]; clear hok ha; simp_all [Bool.and_assoc]) (fun w hs => hs.none)
abbrev C7d (t : T) : Prop := (Lw t = true ∨ B5t) → ∀ (vars dims : Int) (bound : Bool) vr vk vs, Aj vars → 0 ≤ dims → dims + depth t ≤ 1152921504606846976 → Spec prog 60 #[.agg (tc t vr vk vs).toArray, iv vars, iv dims, .bool bound] [RT t vr vk vs] [] (fun _ : Unit => .bool (Mh t vars dims bound)) (fun _ => []) (fun _ => [])
abbrev D5y (b1 b2 b3 : Nat) : List Value := [pz b1, pz b2, pz b3]
abbrev D5x (b1 b2 b3 : Nat) (vars dims : Int) (bound : Bool) : List B4 := [A8 b1 [iv vars] 3, A8 b2 [iv dims] 3, A8 b3 [.bool bound] 4]
def K5 (v d : Int) : Prop := 0 ≤ v ∧ v ≤ 1 ∧ 0 ≤ d ∧ d ≤ 1
theorem C6n (k i : Int) : K5 (binds k i).1 (binds k i).2 := by
 unfold binds K5; repeat (split; (simp))
 simp
theorem Ya {t : T} {k : T} {v d : Int} (h : (k, v, d) ∈ parts t) : K5 v d := by
 have hk : ∀ (kind : Int) (i : Nat) (ks : List T), (k, v, d) ∈ Dr kind i ks → K5 v d := by
  intro kind i ks
  induction ks generalizing i with
  | nil => intro h; simp [Dr] at h
  | cons a ks ih =>
   intro h; simp only [Dr, List.mem_cons] at h; rcases h with h | h
   ·have e : (v, d) = binds kind i := (Prod.mk.inj h).2; have := C6n kind i; rw [← e] at this; exact this
   ·exact ih _ h
 have hs : ∀ (kind : Int) (bs : List Br), (k, v, d) ∈ Dn kind bs → K5 v d := by
  intro kind bs
  induction bs with
  | nil => intro h; simp [Dn] at h
  | cons b bs ih =>
   intro h; simp only [Dn, List.mem_append, List.mem_map] at h; rcases h with ⟨a, ha, e⟩ | h
   ·have e2 := (Prod.mk.inj e).2; have e3 := (Prod.mk.inj e2); rw [← e3.1, ← e3.2]; unfold K5 more; split <;> simp
   ·exact ih h
 unfold parts at h; rcases List.mem_append.mp h with h | h
 ·exact hk _ _ _ h
 ·exact hs _ _ h
theorem A3x {t : T} {p : Part} (h : p ∈ parts t) : depth p.1 < depth t := by
 obtain ⟨m, hm⟩ := List.mem_iff_getElem?.mp h; exact B5e hm
theorem C2g {t : T} {p : Part} (h : p ∈ parts t) : size p.1 < size t := by
 obtain ⟨m, hm⟩ := List.mem_iff_getElem?.mp h; have := Qo hm; have := Tf t m; omega
theorem C1j (k : T) (vr vk vs : SH) (b1 b2 b3 : Nat) (vars dims v d : Int) (bound : Bool) (hv : Aj vars) (h0 : 0 ≤ dims) (hvd : K5 v d) (hl : dims + 1 + depth k ≤ 1152921504606846976) (hp : Lw k = true ∨ B5t) (ih : C7d k) : Spec prog 107 #[.agg (tc k vr vk vs).toArray, iv v, iv d, pz b1, pz b2, pz b3] [RT k vr vk vs] (D5x b1 b2 b3 vars dims bound) (fun _ : Unit => .bool (Mh k (IntKind.i64.wrap (vars + if vars < 0 then 0 else v)) (dims + d) bound)) (fun _ => []) (fun _ => D5x b1 b2 b3 vars dims bound) := by
 refine Dp ntmps107 fun B hB => ?_
 obtain ⟨hv0, hv1, hd0, hd1⟩ := hvd; refine Ar ?_; refine q0 rfl (B0 fun b6 => ?_); refine Iv ?_; refine Pm ?_; refine Su ?_; refine Ii ?_; refine Bu ([(1, iv (if vars < 0 then 0 else v)), (2, iv d), (3, pz b1), (4, pz b2), (5, pz b3), (6, pz b6)]) (fun hK => ?_) (fun base => ?_)
 ·refine A5 (fun h11 => ?_) (fun h11 => ?_)
  ·refine Pg ?_; refine By ?_; exact hK _ ⟨(by first | (rw [if_pos (of_decide_eq_true h11)]; rfl) | (rw [if_neg (of_decide_eq_false h11)]; rfl)), rfl, rfl, rfl, rfl, rfl, trivial⟩
  ·refine Ko ?_; exact hK _ ⟨(by first | (rw [if_pos (of_decide_eq_true h11)]; rfl) | (rw [if_neg (of_decide_eq_false h11)]; rfl)), rfl, rfl, rfl, rfl, rfl, trivial⟩
 ·refine G0 ?_; refine zq9 ?_; refine E8 ?_; refine q0 rfl (D2x ?_); refine zq9 ?_; refine E8 ?_; refine N8 ?_; refine zq9 ?_; refine q0 rfl (A0 call60 (ih hp (IntKind.i64.wrap (vars + if vars < 0 then 0 else v)) (dims + d) bound vr vk vs (C7h _) A1 A1) (fun x20 => ?_)); refine By ?_; refine Ap f_ rfl A9 () rfl (fun w hs => (hs.l8).drop)
theorem C6r (t : T) (hp : Lw t = true ∨ B5t) (ih : ∀ p, p ∈ parts t → C7d p.1) (vars dims : Int) (bound : Bool) (vr vk vs : SH) (hv : Aj vars) (h0 : 0 ≤ dims) (hl : dims + depth t ≤ 1152921504606846976) : Spec prog 60 #[.agg (tc t vr vk vs).toArray, iv vars, iv dims, .bool bound] [RT t vr vk vs] [] (fun _ : Unit => .bool (Mh t vars dims bound)) (fun _ => []) (fun _ => []) := by
 refine Dp ntmps60 fun B hB => ?_
 refine Ar ?_; refine q0 rfl (B0 fun b4 => ?_); refine q0 rfl (B0 fun b5 => ?_); refine q0 rfl (B0 fun b6 => ?_); refine q0 rfl (B0 fun b7 => ?_); refine Ri ?_; refine Bu ([(4, pz b4), (5, pz b5), (6, pz b6), (7, pz b7), (20, .bool ((bound && decide (24 < dims)) || !(I3 t vars dims)))]) (fun hK => ?_) (fun base => ?_)
 ·refine Pg ?_; refine zq9 ?_; refine E8 ?_; refine qI rfl rfl rfl Lp (fun hg10 => D2v ?_) (fun hg10 => ?_)
  ·refine qT rfl rfl rfl (Ym ?_); refine Mi ?_; refine qI rfl rfl rfl Lp (fun hg14 => Ro ?_) (fun hg14 => ?_)
   ·refine J0 ?_; refine J0 ?_; refine qT rfl rfl rfl (A0 call105 (A9w t (Y5 hp) vr vk vs vars dims h0 (by unfold Aj; omega)) (fun x18 => ?_)); refine A0g ?_; refine Jm ?_; exact hK _ ⟨rfl, rfl, rfl, rfl, (by (conv => lhs; whnf); first | (simp_all [Bool.and_assoc]; done) | (simp_all [Bool.and_assoc]; omega)), trivial⟩
   ·refine Ln ?_; refine Gm ?_; exact hK _ ⟨rfl, rfl, rfl, rfl, (by (conv => lhs; whnf); first | (simp_all [Bool.and_assoc]; done) | (simp_all [Bool.and_assoc]; omega)), trivial⟩
  ·refine Un ?_; refine Nb ?_; refine qT rfl rfl rfl (Ro ?_); refine J0 ?_; refine J0 ?_; refine qT rfl rfl rfl (A0 call105 (A9w t (Y5 hp) vr vk vs vars dims h0 (by unfold Aj; omega)) (fun x18 => ?_)); refine A0g ?_; refine Jm ?_; exact hK _ ⟨rfl, rfl, rfl, rfl, (by (conv => lhs; whnf); first | (simp_all [Bool.and_assoc]; done) | (simp_all [Bool.and_assoc]; omega)), trivial⟩
 ·refine A5 (fun h20 => ?_) (fun h20 => ?_)
  ·refine Co ?_; refine Ap f_ rfl A9 () (by rw [Ra, h20]; rfl) (fun w hs => hs.none)
  ·refine Ko ?_; refine G0 ?_; refine Pc ?_; have hE := A3r t vr vk vs 107 (D5y b5 b6 b7) [] (D5x b5 b6 b7 vars dims bound) (fun p => Mh p.1 (IntKind.i64.wrap (vars + if vars < 0 then 0 else p.2.1)) (dims + p.2.2) bound) call107 (fun k v d hm vr vk vs => C1j k vr vk vs b5 b6 b7 vars dims v d bound hv h0 (Ya hm) (by have := A3x hm; simp only at this; omega) (B3u hp hm) (ih _ hm)); refine q0 rfl (A0 call106 (hE) (fun x23 => ?_)); refine By ?_; refine Ap f_ rfl A9 () (by rw [Ra, h20]; rfl) (fun w hs => hs.none)
theorem B2o : ∀ t : T, C7d t := T.ind fun t ih hp vars dims bound vr vk vs hv h0 hl => C6r t hp ih vars dims bound vr vk vs hv h0 hl
theorem Xx (t : T) (hp : Lw t = true ∨ B5t) (vr vk vs : SH) (vars dims : Int) (hv : Aj vars) (hsz : size t ≤ 1152921504606846) : Spec prog 22 #[.agg (tc t vr vk vs).toArray, iv vars, iv dims] [RT t vr vk vs] [] (fun _ : Unit => iv (Fe t vars dims)) (fun _ => []) (fun _ => []) := by
 refine Dp ntmps22 fun B hB => ?_
 have hds := Gv t; refine Ar ?_; refine q0 rfl (B0 fun b3 => ?_); refine Ri ?_; refine Bu ([(1, iv vars), (2, iv dims), (3, pz b3), (17, .bool (decide (vars < 0) || decide (dims < 0) || decide (24 < dims)))]) (fun hK => ?_) (fun base => ?_)
 ·refine Ef ?_; refine Su ?_; refine E8 ?_; refine qI rfl rfl rfl Lp (fun hg10 => Ff ?_) (fun hg10 => ?_)
  ·refine B8m ?_; refine Nb ?_; refine qI rfl rfl rfl Lp (fun hg14 => Ff ?_) (fun hg14 => ?_)
   ·refine qT rfl rfl rfl (Ym ?_); refine Jm ?_; exact hK _ ⟨rfl, rfl, rfl, (by (conv => lhs; whnf); first | (simp_all [Bool.and_assoc]; done) | (simp_all [Bool.and_assoc]; omega)), trivial⟩
   ·refine Un ?_; refine Gm ?_; exact hK _ ⟨rfl, rfl, rfl, (by (conv => lhs; whnf); first | (simp_all [Bool.and_assoc]; done) | (simp_all [Bool.and_assoc]; omega)), trivial⟩
  ·refine Un ?_; refine Mi ?_; refine Hw ?_; refine Gm ?_; exact hK _ ⟨rfl, rfl, rfl, (by (conv => lhs; whnf); first | (simp_all [Bool.and_assoc]; done) | (simp_all [Bool.and_assoc]; omega)), trivial⟩
 ·refine A5 (fun h17 => ?_) (fun h17 => ?_)
  ·refine Co ?_; refine Ap f_ rfl A9 () (by rw [Fe, if_pos h17]) (fun w hs => hs.none)
  ·have hb : 0 ≤ vars ∧ 0 ≤ dims ∧ dims ≤ 24 := by simp at h17; omega
   refine Iz ?_; refine G0 ?_; refine q0 rfl (A0 call59 (Xo t vr vk vs) (fun x19 => ?_)); refine P0 ?_; refine A5 (fun h21 => ?_) (fun h21 => ?_)
   ·have hs := of_decide_eq_true h21; refine Jn ?_; refine Ap f_ rfl A9 () (by rw [Fe, if_neg (by rw [h17]; simp), if_pos hs]) (fun w hs => hs.none)
   ·have hs := of_decide_eq_false h21; refine Iz ?_; refine G0 ?_; refine Jp ?_; refine q0 rfl (A0 call60 (B2o t hp vars dims true vr vk vs hv A1 A1) (fun x26 => ?_)); refine Jo ?_; refine A5 (fun h27 => ?_) (fun h27 => ?_)
    ·refine Co ?_; refine Ap f_ rfl A9 () (by rw [Fe, if_neg (by rw [h17]; simp), if_neg hs]; simp_all) (fun w hs => hs.none)
    ·refine Ko ?_; refine Co ?_; refine Ap f_ rfl A9 () (by rw [Fe, if_neg (by rw [h17]; simp), if_neg hs]; simp_all) (fun w hs => hs.none)
theorem Ir (t : T) (hp : Lw t = true ∨ B5t) (vr vk vs : SH) (hsz : size t ≤ 1152921504606846) : Spec prog 39 #[.agg (tc t vr vk vs).toArray] [RT t vr vk vs] [] (fun _ : Unit => iv (A7 t)) (fun _ => []) (fun _ => []) := by
 refine Dp ntmps39 fun B hB => ?_
 have hds := Gv t; refine Ar ?_; refine q0 rfl (B0 fun b1 => ?_); refine Iv ?_; refine G0 ?_; refine q0 rfl (A0 call59 (Xo t vr vk vs) (fun x5 => ?_)); refine P0 ?_; refine A5 (fun h7 => ?_) (fun h7 => ?_)
 ·have hs := of_decide_eq_true h7; refine Jn ?_; refine Ap f_ rfl A9 () (by rw [A7, if_pos hs]) (fun w hs => hs.none)
 ·have hs := of_decide_eq_false h7; refine Iz ?_; refine G0 ?_; refine q0 rfl (A0 call60 (B2o t hp (-1) 24 false vr vk vs (by unfold Aj; omega) A1 A1) (fun x10 => ?_)); refine Jo ?_; refine A5 (fun h11 => ?_) (fun h11 => ?_)
  ·refine Co ?_; refine Ap f_ rfl A9 () (by rw [A7, if_neg hs]; simp_all) (fun w hs => hs.none)
  ·refine Ko ?_; refine Co ?_; refine Ap f_ rfl A9 () (by rw [A7, if_neg hs]; simp_all) (fun w hs => hs.none)
theorem B4x (l : List Part) (a : Nat) : l.foldl (fun a p => a + size p.1) a = a + (l.map fun p => size p.1).sum := by
 induction l generalizing a with
 | nil => simp
 | cons b l ih => rw [List.foldl_cons, ih]; simp; omega
theorem C2f (t : T) : size t = 1 + ((parts t).map fun p => size p.1).sum := by rw [size_eq, B4x]
theorem Rm (t : T) : size t = 1 + (t.kids.map size).sum + ((t.sys.map fun b => b.kids.map size).flatten).sum := by
 rw [C2f, Ld, List.sum_append]; omega
theorem A4s {n : Int} (h : Aj n) : IntKind.i64.wrap n = n := by rw [IntKind.wrap_i64]; unfold Aj at h; omega
theorem B3h {t : T} : sized t = 0 ↔ depth t ≤ 200 ∧ size t ≤ 20000 := by
 unfold sized
 split
 ·simp; omega
 ·split
  ·simp; omega
  ·simp; omega
theorem Xw {t : T} {v d : Int} : Fe t v d = 0 ↔ 0 ≤ v ∧ 0 ≤ d ∧ d ≤ 24 ∧ sized t = 0 ∧ Mh t v d true = true := by
 unfold Fe
 split
 ·rename_i h
  simp only [Bool.or_eq_true, decide_eq_true_eq] at h
  constructor
  ·intro h2; cases h2
  ·intro h2; omega
 ·rename_i h
  simp only [Bool.or_eq_true, decide_eq_true_eq] at h
  split
  ·rename_i h2; constructor
   ·intro h3; exact absurd h3 h2
   ·intro h3; exact absurd h3.2.2.2.1 h2
  ·rename_i h2
   have h2 : sized t = 0 := by simpa using h2
   split
   ·rename_i h3; simp only [h2, h3, and_self, and_true, true_iff]; omega
   ·rename_i h3; simp only [h3]; constructor
    ·intro h4; cases h4
    ·intro h4; exact absurd h4.2.2.2.2 F2
theorem Q9 {t : T} : A7 t = 0 ↔ sized t = 0 ∧ Mh t (-1) 24 false = true := by
 unfold A7
 split
 ·rename_i h; constructor
  ·intro h2; exact absurd h2 h
  ·intro h2; exact absurd h2.1 h
 ·rename_i h
  have h : sized t = 0 := by simpa using h
  split
  ·rename_i h3; simp [h, h3]
  ·rename_i h3; simp [h3]
theorem O0 {l : List Cl} {d : Int} (h : 24 ≤ d) : within l d = true := by unfold within; rw [decide_eq_true h]; rfl
theorem C8g {t : T} {v d e : Int} (h : 24 ≤ d) (h2 : 24 ≤ e) : I3 t v d = I3 t v e := by
 unfold I3
 rw [O0 h, O0 h2]
 have : Mx t d = Mx t e := by funext b; unfold Mx; rw [O0 h, O0 h2]
 rw [this]
theorem C9x : ∀ (t : T) (v d e : Int), 24 ≤ d → 24 ≤ e → Mh t v d false = Mh t v e false := T.ind fun t ih v d e hd he => by
 rw [Ra, Ra, C8g hd he]
 simp only [Bool.false_and, Bool.false_or]
 congr 1
 rw [Bool.eq_iff_iff, List.all_eq_true, List.all_eq_true]
 have hx : ∀ p, p ∈ parts t → Mh p.1 (IntKind.i64.wrap (v + if v < 0 then 0 else p.2.1)) (d + p.2.2) false = Mh p.1 (IntKind.i64.wrap (v + if v < 0 then 0 else p.2.1)) (e + p.2.2) false := fun p hp => by
  have := Ya (k := p.1) (v := p.2.1) (d := p.2.2) hp
  exact ih p hp _ _ _ (by unfold K5 at this; omega) (by unfold K5 at this; omega)
 exact ⟨fun h p hp => by rw [← hx p hp]; exact h p hp, fun h p hp => by rw [hx p hp]; exact h p hp⟩
theorem B1c {t : T} {p : Part} (h : A7 t = 0) (hp : p ∈ parts t) : A7 p.1 = 0 := by
 rw [Q9, B3h] at h ⊢
 have h1 := A3x hp
 have h2 := C2g hp
 refine ⟨⟨by omega, by omega⟩, ?_⟩
 have h3 := h.2
 rw [Ra, Bool.and_eq_true] at h3
 have h4 := List.all_eq_true.mp h3.2 p hp
 have h5 := Ya (k := p.1) (v := p.2.1) (d := p.2.2) hp
 unfold K5 at h5
 rw [C9x p.1 _ 24 (24 + p.2.2) A1 A1]
 simpa [show (-1 : Int) < 0 by omega, A4s (show Aj (-1) by unfold Aj; omega)] using h4
theorem B4w {t k : T} (h : A7 t = 0) (hk : k ∈ t.kids) : A7 k = 0 := by obtain ⟨p, hp, e⟩ := Ex hk; exact e ▸ B1c h hp
def Fx (s : Nat) (i : Int) : Nat := if 0 ≤ i ∧ i < 24 then ((s &&& 16777215) &&& (2 ^ i.toNat - 1)) ||| ((s &&& 16777215) / 2 ^ (i.toNat + 1) * 2 ^ i.toNat) else s &&& 16777215
theorem Hg (s : Nat) : s &&& 16777215 < 16777216 := by rw [B2n]; exact Nat.mod_lt _ F2
theorem Ug (s : Nat) (i : Int) : Fx s i < 16777216 := by
 have h := Hg s
 unfold Fx
 split
 ·refine Nat.or_lt_two_pow (n := 24) (Nat.lt_of_le_of_lt Nat.and_le_left h) ?_
  generalize s &&& 16777215 = q at *
  have h1 : q / 2 ^ (i.toNat + 1) * 2 ^ i.toNat ≤ q / 2 ^ i.toNat * 2 ^ i.toNat := Nat.mul_le_mul_right _ (Nat.div_le_div_left (Nat.pow_le_pow_right A1 A1) (Nat.pow_pos A1))
  have h2 := Nat.div_mul_le_self q (2 ^ i.toNat)
  show _ < 16777216
  omega
 ·exact h
theorem Z8 (l : List Cl) : G9 l < 16777216 := by rw [B1k]; exact Hg _
def As (s : Nat) (f b : Int) : Int × Nat :=
 if f < 0 ∨ b < 0 then (2, 0) else
 if Bg (s &&& 16777215) (2 ^ (min f.toNat 24) - 1) = 0 then (0, (s &&& 16777215) &&& (2 ^ (min f.toNat 24) - 1)) else
 if 24 ≤ b ∨ 16777215 < Bg (s &&& 16777215) (2 ^ (min f.toNat 24) - 1) * 2 ^ b.toNat then (10, 0) else
 (0, ((s &&& 16777215) &&& (2 ^ (min f.toNat 24) - 1)) ||| (Bg (s &&& 16777215) (2 ^ (min f.toNat 24) - 1) * 2 ^ b.toNat))
theorem Gl (a b i : Nat) : (Bg a b).testBit i = (decide (i < 32) && a.testBit i && !b.testBit i) := by
 unfold Bg
 rw [BitVec.testBit_toNat]
 by_cases h : i < 32
 ·rw [BitVec.getLsbD_and, BitVec.getLsbD_not, BitVec.getLsbD_ofNat, BitVec.getLsbD_ofNat]
  simp [h]
 ·have : (BitVec.ofNat 32 a &&& ~~~BitVec.ofNat 32 b).getLsbD i = false := BitVec.getLsbD_of_ge _ _ A1
  rw [this]; simp [h]
theorem E4 (s i : Nat) : (s &&& 16777215).testBit i = (decide (i < 24) && s.testBit i) := by
 rw [B2n, Nat.testBit_mod_two_pow]
theorem M5 (m i : Nat) : (2 ^ m - 1).testBit i = decide (i < m) := Nat.testBit_two_pow_sub_one m i
theorem A4j {q m : Nat} (h : q < 16777216) : Bg q m < 16777216 := by
 refine Nat.lt_pow_two_of_testBit (n := 24) _ (fun i hi => ?_)
 rw [Gl, Nat.testBit_lt_two_pow (x := q) (Nat.lt_of_lt_of_le h (Nat.pow_le_pow_right (n := 2) F2 hi))]
 simp
theorem Mo (s : Nat) (f b : Int) : (As s f b).2 < 16777216 := by
 unfold As
 split
 ·decide
 ·split
  ·exact Nat.lt_of_le_of_lt Nat.and_le_left (Hg s)
  ·split
   ·decide
   ·refine Nat.or_lt_two_pow (n := 24) ?_ ?_
    ·exact Nat.lt_of_le_of_lt Nat.and_le_left (Hg s)
    ·rename_i h; simp only [not_or] at h; have := h.2; omega
def Bi (c : Cl) (f b : Int) : Int × Cl :=
 if Bw c = false then (2, B5) else
 if (As c.pos f b).1 ≠ 0 then ((As c.pos f b).1, B5) else
 if (As c.neg f b).1 ≠ 0 then ((As c.neg f b).1, B5) else
 (0, ⟨(As c.pos f b).2, (As c.neg f b).2⟩)
theorem Sk (c : Cl) (f b : Int) : u32 (Bi c f b).2 := by
 have h1 := Mo c.pos f b
 have h2 := Mo c.neg f b
 unfold Bi
 split
 ·exact ⟨(by decide : (0 : Nat) < 4294967296), (by decide : (0 : Nat) < 4294967296)⟩
 ·split
  ·exact ⟨(by decide : (0 : Nat) < 4294967296), (by decide : (0 : Nat) < 4294967296)⟩
  ·split
   ·exact ⟨(by decide : (0 : Nat) < 4294967296), (by decide : (0 : Nat) < 4294967296)⟩
   ·exact ⟨by show (As c.pos f b).2 < _; omega, by show (As c.neg f b).2 < _; omega⟩
def Fw (g : Cl → Int × Cl) (l : List Cl) : Int × List Cl := match l.find? (fun c => (g c).1 ≠ 0) with
 | some c => ((g c).1, [])
 | none => (0, l.map fun c => (g c).2)
theorem C0k {g : Cl → Int × Cl} {l : List Cl} {i : Nat} (hi : i < l.length) (h0 : ∀ j, j < i → (g (l.getD j B5)).1 = 0) (h : (g (l.getD i B5)).1 ≠ 0) : Fw g l = ((g (l.getD i B5)).1, []) := by
 have : l.find? (fun c => (g c).1 ≠ 0) = some (l.getD i B5) := by
  rw [List.find?_eq_some_iff_getElem]
  rw [Gs (d := B5) hi] at h ⊢
  refine ⟨by simpa using h, i, hi, rfl, fun j hj => ?_⟩
  have := h0 j hj
  rw [Gs (d := B5) A1] at this
  simp [this]
 rw [Fw, this]
theorem B1f {g : Cl → Int × Cl} {l : List Cl} (h0 : ∀ j, j < l.length → (g (l.getD j B5)).1 = 0) : Fw g l = (0, l.map fun c => (g c).2) := by
 have : l.find? (fun c => (g c).1 ≠ 0) = none := by
  rw [List.find?_eq_none]
  intro x hx
  obtain ⟨j, hj, e⟩ := List.mem_iff_getElem.mp hx
  have := h0 j hj
  rw [Gs (d := B5) hj, e] at this
  simp [this]
 rw [Fw, this]
theorem A3n {g : Cl → Int × Cl} {l : List Cl} : (Fw g l).1 = 0 ↔ ∀ c, c ∈ l → (g c).1 = 0 := by
 unfold Fw
 cases h : l.find? (fun c => (g c).1 ≠ 0) with
 | none =>
  rw [List.find?_eq_none] at h
  simp only [true_iff]
  intro c hc
  simpa using h c hc
 | some c =>
  have h1 := List.find?_some h
  have h2 := List.mem_of_find?_eq_some h
  simp only
  refine ⟨fun h3 => ?_, fun h3 => h3 c h2⟩
  simp at h1; exact absurd h3 h1
theorem C0i {g : Cl → Int × Cl} {l : List Cl} (h : (Fw g l).1 = 0) : Fw g l = (0, l.map fun c => (g c).2) :=
 B1f fun j hj => A3n.mp h _ (Ad hj)
def Ae (l : List Cl) (f b : Int) : Int × List Cl :=
 if Aq l = false then (2, []) else
 if (Fw (fun c => Bi c f b) l).1 ≠ 0 then ((Fw (fun c => Bi c f b) l).1, []) else Bm (Fw (fun c => Bi c f b) l).2
def Be (by_ : Int) (l : List Cl) (f : Int) : Ac (List Cl) :=
 if by_ = 0 ∨ 24 ≤ f then .ok l else if (Ae l f by_).1 = 0 then .ok (Ae l f by_).2 else .bad (Ae l f by_).1
def B7 (vb db : Int) : Tr (Int × Int) where
 own c k n _ r := (Be db r c.2).bind fun r' => if k = 1 ∧ c.1 ≤ n then (if 1000000000 - vb < n then .bad 100 else .ok (.inr (n + vb, r'))) else .ok (.inr (n, r'))
 Ah c f := (Be db f c.2).bind fun f' => .ok (some f')
 Oq c b := .ok (c.1 + b.1, c.2 + b.2)
section
variable {C : Type} {A : Tr C} {t : T} {c : C} {e : Int}
theorem O1 (h : A.own c t.kind t.n t.name t.r = .bad e) : Bj A t c = .bad e := by rw [F8, h]; rfl
theorem T7 {p : Int × List Cl} {i : Nat} {l : List T} (h : A.own c t.kind t.n t.name t.r = .ok (.inr p)) (hi : i < t.kids.length) (hl : Dh A t.kind 0 (t.kids.take i) c = .ok l) {c' : C} (hc : A.Oq c (binds t.kind i) = .ok c') (hb : Bj A (t.kids.getD i t0) c' = .bad e) : Bj A t c = .bad e := by
 have h1 : Dh A t.kind 0 (t.kids.take (i + 1)) c = .bad e := by
  rw [Ab (d := t0) hi, S1, hl]
  simp only [Ac.bind, List.length_take, Nat.zero_add, Nat.min_eq_left (Nat.le_of_lt hi)]
  rw [hc]; simp only; rw [hb]
 have h2 := A1t (m := t.kids.drop (i + 1)) h1
 rw [List.take_append_drop] at h2
 rw [F8, h]; simp only [Ac.bind]; rw [h2]
theorem Vp {k : Int} {ts : List T} {i : Nat} {l : List T} {u : T} (hi : i < ts.length) (hl : Dh A k 0 (ts.take i) c = .ok l) {c' : C} (hc : A.Oq c (binds k i) = .ok c') (hb : Bj A (ts.getD i t0) c' = .ok u) : Dh A k 0 (ts.take (i + 1)) c = .ok (l ++ [u]) := by
 rw [Ab (d := t0) hi, S1, hl]
 simp only [Ac.bind, List.length_take, Nat.zero_add, Nat.min_eq_left (Nat.le_of_lt hi)]
 rw [hc]; simp only; rw [hb]
theorem T8 {k : Int} {ts : List T} {i : Nat} {l : List T} (hi : i < ts.length) (hl : Ck A k (ts.take i) c = .ok l) {c' : C} (hc : A.Oq c (0, more k) = .ok c') (hb : Bj A (ts.getD i t0) c' = .bad e) : Ck A k ts c = .bad e := by
 have h1 : Ck A k (ts.take (i + 1)) c = .bad e := by
  rw [Ab (d := t0) hi, Rz, hl]
  simp only [Ac.bind]
  rw [hc]; simp only; rw [hb]
 have h2 := A1q (m := ts.drop (i + 1)) h1
 rwa [List.take_append_drop] at h2
theorem Vq {k : Int} {ts : List T} {i : Nat} {l : List T} {u : T} (hi : i < ts.length) (hl : Ck A k (ts.take i) c = .ok l) {c' : C} (hc : A.Oq c (0, more k) = .ok c') (hb : Bj A (ts.getD i t0) c' = .ok u) : Ck A k (ts.take (i + 1)) c = .ok (l ++ [u]) := by
 rw [Ab (d := t0) hi, Rz, hl]
 simp only [Ac.bind]
 rw [hc]; simp only; rw [hb]
theorem J5 {p : Int × List Cl} {s : Nat} {l : List T} {bs : List Br} (h : A.own c t.kind t.n t.name t.r = .ok (.inr p)) (hl : Dh A t.kind 0 t.kids c = .ok l) (hs : s < t.sys.length) (hb : D7 A t.kind (t.sys.take s) c = .ok bs) (hf : A.Ah c (t.sys.getD s B1).Ah = .bad e ∨ ∃ f', A.Ah c (t.sys.getD s B1).Ah = .ok (some f') ∧ Ck A t.kind (t.sys.getD s B1).kids c = .bad e) : Bj A t c = .bad e := by
 have h1 : D7 A t.kind (t.sys.take (s + 1)) c = .bad e := by
  rw [Ab (d := B1) hs, O2, hb]
  simp only [Ac.bind]
  rcases hf with hf | ⟨f', hf, h2⟩
  ·rw [hf]
  ·rw [hf]; simp only; rw [h2]
 have h2 := Uy (m := t.sys.drop (s + 1)) h1
 rw [List.take_append_drop] at h2
 rw [F8, h]; simp only [Ac.bind]; rw [hl]; simp only; rw [h2]
theorem Pq {k : Int} {ss : List Br} {s : Nat} {bs : List Br} {f' : List Cl} {ks : List T} (hs : s < ss.length) (hb : D7 A k (ss.take s) c = .ok bs) (hf : A.Ah c (ss.getD s B1).Ah = .ok (some f')) (hk : Ck A k (ss.getD s B1).kids c = .ok ks) : D7 A k (ss.take (s + 1)) c = .ok (bs ++ [.mk f' ks]) := by
 rw [Ab (d := B1) hs, O2, hb]
 simp only [Ac.bind]
 rw [hf]; simp only; rw [hk]
theorem Ry {p : Int × List Cl} {l : List T} {bs : List Br} (h : A.own c t.kind t.n t.name t.r = .ok (.inr p)) (hl : Dh A t.kind 0 t.kids c = .ok l) (hb : D7 A t.kind t.sys c = .ok bs) : Bj A t c = .ok (.mk t.kind p.1 t.name p.2 l bs) := by
 rw [F8, h]; simp only [Ac.bind]; rw [hl]; simp only; rw [hb]
end
theorem A3m {g : Cl → Int × Cl} {l : List Cl} (h : ∀ c, u32 (g c).2) : ∀ c, c ∈ (Fw g l).2 → u32 c := by
 intro c hc
 unfold Fw at hc
 split at hc
 ·cases hc
 ·obtain ⟨d, _, rfl⟩ := List.mem_map.mp hc; exact h d
theorem C0j {g : Cl → Int × Cl} {l : List Cl} : (Fw g l).2.length ≤ l.length := by
 unfold Fw
 split <;> simp
theorem Tz (k : Int) : 0 ≤ more k ∧ more k ≤ 1 := by unfold more; split <;> omega
theorem Ev {t : T} {i : Nat} (h : i < t.kids.length) : size (t.kids.getD i t0) < size t := by
 obtain ⟨p, hp, e⟩ := Ex (Ad (d := t0) h); exact e ▸ Kz hp
theorem Ik {t : T} {s k : Nat} (h : s < t.sys.length) (h2 : k < (t.sys.getD s B1).kids.length) : size ((t.sys.getD s B1).kids.getD k t0) < size t := by
 obtain ⟨p, hp, e⟩ := Gt (Ad (d := B1) h) (Ad (d := t0) h2); exact e ▸ Kz hp
def Iq (vb : Int) (v : Int) (k n : Int) : Int := if k = 1 ∧ v ≤ n then n + vb else n
theorem C4q {vb db v d : Int} {t : T} {g : List Cl} (hg : Be db t.r d = .ok g) (h : ¬ (t.kind = 1 ∧ v ≤ t.n ∧ 1000000000 - vb < t.n)) : (B7 vb db).own (v, d) t.kind t.n t.name t.r = .ok (.inr (Iq vb v t.kind t.n, g)) := by
 simp only [B7, hg, Ac.bind, Iq]
 split
 ·rename_i h1
  rw [if_neg (fun h2 => h ⟨h1.1, h1.2, h2⟩)]
 ·rfl
theorem A6f {vb db v d : Int} {t : T} {e : Int} (hg : Be db t.r d = .bad e) : (B7 vb db).own (v, d) t.kind t.n t.name t.r = .bad e := by
 simp only [B7, hg, Ac.bind]
theorem A6g {vb db v d : Int} {t : T} {g : List Cl} (hg : Be db t.r d = .ok g) (h : t.kind = 1 ∧ v ≤ t.n ∧ 1000000000 - vb < t.n) : (B7 vb db).own (v, d) t.kind t.n t.name t.r = .bad 100 := by
 simp only [B7, hg, Ac.bind]
 rw [if_pos ⟨h.1, h.2.1⟩, if_pos h.2.2]
theorem U1 {vb db v d : Int} {f g : List Cl} (hg : Be db f d = .ok g) : (B7 vb db).Ah (v, d) f = .ok (some g) := by simp only [B7, hg, Ac.bind]
theorem A0z {vb db v d : Int} {f : List Cl} {e : Int} (hg : Be db f d = .bad e) : (B7 vb db).Ah (v, d) f = .bad e := by simp only [B7, hg, Ac.bind]
theorem U0 {vb db v d : Int} {b : Int × Int} : (B7 vb db).Oq (v, d) b = .ok (v + b.1, d + b.2) := rfl
theorem A1u {vb db : Int} {k : Int} {c : Int × Int} : ∀ {l l' : List Br}, D7 (B7 vb db) k l c = .ok l' → l'.length = l.length
 | [], l', h => by rw [D1] at h; injection h with h; subst h; rfl
 | a :: l, l', h => by
  rw [Cw] at h
  obtain ⟨o, ho, h⟩ := Ac.A2 h
  obtain ⟨g, _, hg⟩ := Ac.A2 (x := Be db a.Ah c.2) ho
  injection hg with hg
  subst hg
  obtain ⟨ks', _, h⟩ := Ac.A2 h
  obtain ⟨bs', h3, h⟩ := Ac.A2 h
  injection h with h
  subst h
  simp [A1u h3]
theorem P5 : h0.er = t0 := by simp [h0, HT.er, HT.erL, HT.erB, t0]
theorem St.h0R {B : C6} {Γ : List Fact} {Ms : List B4} {w : World} (y : Tys) (hs : St B Γ Ms w) : St B Γ (Cn (F3 y h0) :: Ms) w := by
 have h1 := ((((hs.N5).N5).Bp 2 y.b).Bp 6 y.t).Bp 2 y.c
 exact St.B7m (y := y) (k := 0) (n := 0) (nm := ByteArray.mk #[]) (r := []) (v := Bh) (u := Bh) (x := Bh) (ks := []) (ss := []) rfl rfl rfl rfl rfl rfl (by simpa [E1, N3] using h1)
def C4 (t : T) (ns : List Int) (r : Ac T) : Int × T := if A7 t ≠ 0 then (A7 t, t0) else if ns.all (fun n => decide (0 ≤ n)) = false then (2, t0) else match r with
 | .ok u => (0, u)
 | .bad e => (e, t0)
theorem B4t {t : T} {ns : List Int} {r : Ac T} (h : A7 t ≠ 0) : C4 t ns r = (A7 t, t0) := by unfold C4; rw [if_pos h]
theorem C0f {t : T} {ns : List Int} {r : Ac T} (h : A7 t = 0) (h2 : ns.all (fun n => decide (0 ≤ n)) = false) : C4 t ns r = (2, t0) := by unfold C4; rw [if_neg (by simp [h]), if_pos h2]
theorem C5i {t u : T} {ns : List Int} {r : Ac T} (h : A7 t = 0) (h2 : ns.all (fun n => decide (0 ≤ n)) = true) (hr : r = .ok u) : C4 t ns r = (0, u) := by unfold C4; rw [if_neg (by simp [h]), if_neg (by simp [h2]), hr]
theorem C0g {t : T} {e : Int} {ns : List Int} {r : Ac T} (h : A7 t = 0) (h2 : ns.all (fun n => decide (0 ≤ n)) = true) (hr : r = .bad e) : C4 t ns r = (e, t0) := by unfold C4; rw [if_neg (by simp [h]), if_neg (by simp [h2]), hr]
theorem Spec.J8 {P : Program} {k : FuncId} {args : Array Value} {pre : List Fact} (y : Tys) {u : T} (g : Value → Value) (h : Spec P k args pre [] (fun x : {h : HT // h.er = u} => g (.agg (tc u x.1.vr x.1.vk x.1.vs).toArray)) (fun _ => []) (fun x => [Cn (F3 y x.1)])) (hok : ∀ ok w, St ⟨ok, B9 [], w⟩ pre [] w → Kf u) :
  Spec P k args pre [] (fun x : SH × SH × SH => g (.agg (tc u x.1 x.2.1 x.2.2).toArray)) (fun x => [RT u x.1 x.2.1 x.2.2]) (fun _ => []) := fun ok w hk hs => (h ok w hk hs).mono fun e w' hh => by
 obtain ⟨x, he, hs'⟩ := hh
 have h1 : St ⟨ok, B9 [], w⟩ [] (F3 y x.1 ++ []) w' := hs'.unpack
 have h2 := St.J8 y trivial x.1 (by rw [x.2]; exact hok ok w hs) h1
 rw [x.2] at h2
 exact ⟨(x.1.vr, x.1.vk, x.1.vs), he, h2⟩
theorem Kv.J8 {P : Program} {Te : TypeId} {k : FuncId} {args : Array Value} {pre : List Fact} (y : Tys) {r : Ac T} (h : Kv P Te k args pre r (fun (u : T) => fun x : {h : HT // h.er = u} => .agg (tc u x.1.vr x.1.vk x.1.vs).toArray) (fun _ _ => []) (fun (u : T) => fun x : {h : HT // h.er = u} => [Cn (F3 y x.1)])) (hok : ∀ u, r = .ok u → ∀ ok w, St ⟨ok, B9 [], w⟩ pre [] w → Kf u) :
  Kv P Te k args pre r (fun (u : T) => fun x : SH × SH × SH => .agg (tc u x.1 x.2.1 x.2.2).toArray) (fun u x => [RT u x.1 x.2.1 x.2.2]) (fun _ _ => []) := ⟨fun u hu => Spec.J8 y (fun v => v) (h.1 u hu) (hok u hu), h.2⟩
abbrev Ax (l : List Cl) : Prop := (∀ c, c ∈ l → u32 c) ∧ l.length * 8 ≤ reach
section
variable {C : Type} {A : Tr C}
mutual
theorem T6 (ho : ∀ c k n nm r p, Aj k → Aj n → Ax r → A.own c k n nm r = .ok (.inr p) → Aj p.1 ∧ Ax p.2) (hi : ∀ c k n nm r u, A.own c k n nm r = .ok (.inl u) → Kf u) (hf : ∀ c f f', Ax f → A.Ah c f = .ok (some f') → Ax f') : ∀ (t : T) (c : C) (u : T), Kf t → Bj A t c = .ok u → Kf u
 | .mk k n nm r ks ss, c, u, h, hu => by
  simp only [Kf] at h
  obtain ⟨h1, h2, h3, h4, h5, h6, h7, h8⟩ := h
  rw [F8] at hu
  simp only [T.kind, T.n, T.name, T.r, T.kids, T.sys] at hu
  obtain ⟨o, h9, hu⟩ := Ac.A2 hu
  cases o with
  | inl v => injection hu with hu; subst hu; exact hi _ _ _ _ _ _ h9
  | inr p =>
   obtain ⟨ks', h10, hu⟩ := Ac.A2 hu
   obtain ⟨ss', h11, hu⟩ := Ac.A2 hu
   injection hu with hu
   subst hu
   obtain ⟨p1, p2⟩ := ho _ _ _ _ _ _ h1 h2 h4 h9
   simp only [Kf]
   exact ⟨h1, p1, h3, p2, by rw [Ng h10]; exact h5, Nat.le_trans (Nat.mul_le_mul_right _ (Nh h11)) h6, A1s ho hi hf ks 0 c ks' h7 h10, Ux ho hi hf ss c ss' h8 h11⟩
theorem A1s (ho : ∀ c k n nm r p, Aj k → Aj n → Ax r → A.own c k n nm r = .ok (.inr p) → Aj p.1 ∧ Ax p.2) (hi : ∀ c k n nm r u, A.own c k n nm r = .ok (.inl u) → Kf u) (hf : ∀ c f f', Ax f → A.Ah c f = .ok (some f') → Ax f') {kd : Int} : ∀ (ts : List T) (i : Nat) (c : C) (us : List T), okL ts → Dh A kd i ts c = .ok us → okL us
 | [], i, c, us, h, hu => by rw [Dt] at hu; injection hu with hu; subst hu; simp only [okL]
 | t :: ts, i, c, us, h, hu => by
  simp only [okL] at h
  rw [Dc] at hu
  obtain ⟨c', _, hu⟩ := Ac.A2 hu
  obtain ⟨t', h2, hu⟩ := Ac.A2 hu
  obtain ⟨ts', h3, hu⟩ := Ac.A2 hu
  injection hu with hu
  subst hu
  simp only [okL]
  exact ⟨T6 ho hi hf t c' t' h.1 h2, A1s ho hi hf ts (i + 1) c ts' h.2 h3⟩
theorem A1p (ho : ∀ c k n nm r p, Aj k → Aj n → Ax r → A.own c k n nm r = .ok (.inr p) → Aj p.1 ∧ Ax p.2) (hi : ∀ c k n nm r u, A.own c k n nm r = .ok (.inl u) → Kf u) (hf : ∀ c f f', Ax f → A.Ah c f = .ok (some f') → Ax f') {kd : Int} : ∀ (ts : List T) (c : C) (us : List T), okL ts → Ck A kd ts c = .ok us → okL us
 | [], c, us, h, hu => by rw [E3] at hu; injection hu with hu; subst hu; simp only [okL]
 | t :: ts, c, us, h, hu => by
  simp only [okL] at h
  rw [Db] at hu
  obtain ⟨c', _, hu⟩ := Ac.A2 hu
  obtain ⟨t', h2, hu⟩ := Ac.A2 hu
  obtain ⟨ts', h3, hu⟩ := Ac.A2 hu
  injection hu with hu
  subst hu
  simp only [okL]
  exact ⟨T6 ho hi hf t c' t' h.1 h2, A1p ho hi hf ts c ts' h.2 h3⟩
theorem Ux (ho : ∀ c k n nm r p, Aj k → Aj n → Ax r → A.own c k n nm r = .ok (.inr p) → Aj p.1 ∧ Ax p.2) (hi : ∀ c k n nm r u, A.own c k n nm r = .ok (.inl u) → Kf u) (hf : ∀ c f f', Ax f → A.Ah c f = .ok (some f') → Ax f') {kd : Int} : ∀ (bs : List Br) (c : C) (us : List Br), okB bs → D7 A kd bs c = .ok us → okB us
 | [], c, us, h, hu => by rw [D1] at hu; injection hu with hu; subst hu; simp only [okB]
 | .mk f ks :: bs, c, us, h, hu => by
  simp only [okB] at h
  obtain ⟨h1, h2, h3, h4⟩ := h
  rw [Cw] at hu
  simp only [Br.Ah, Br.kids] at hu
  obtain ⟨o, h5, hu⟩ := Ac.A2 hu
  cases o with
  | none => exact Ux ho hi hf bs c us h4 hu
  | some f' =>
   obtain ⟨ks', h6, hu⟩ := Ac.A2 hu
   obtain ⟨bs', h7, hu⟩ := Ac.A2 hu
   injection hu with hu
   subst hu
   simp only [okB]
   exact ⟨hf _ _ _ h1 h5, by rw [Nf h6]; exact h2, A1p ho hi hf ks c ks' h3 h6, Ux ho hi hf bs c bs' h4 h7⟩
end
end
theorem Eg : Ax [] := ⟨fun c hc => (by cases hc), by unfold reach; decide⟩
theorem A3k {l : List Cl} (h : ∀ c, c ∈ l → u32 c) : Ax (Bm l).2 := by
 unfold Bm
 split
 ·exact Eg
 ·split
  ·exact Eg
  ·rename_i h64
   exact ⟨fun c hc => h c (Fk.mp hc).1, by show (G2 l).length * 8 ≤ reach; unfold reach; omega⟩
theorem Kj (l : List Cl) (f b : Int) : Ax (Ae l f b).2 := by
 unfold Ae
 split
 ·exact Eg
 ·split
  ·exact Eg
  ·exact A3k (A3m (fun c => Sk c f b))
theorem Xu {l g : List Cl} {f b : Int} (h : Ax l) (hg : Be b l f = .ok g) : Ax g := by
 unfold Be at hg
 split at hg
 ·injection hg with hg; subst hg; exact h
 ·split at hg
  ·injection hg with hg; subst hg; exact Kj l f b
  ·cases hg
theorem Yr {vb db : Int} (hv : 0 ≤ vb ∧ vb ≤ 1000000) {t u : T} {c : Int × Int} (h : Kf t) (hu : Bj (B7 vb db) t c = .ok u) : Kf u := by
 refine T6 (A := B7 vb db) ?_ ?_ ?_ t c u h hu
 ·intro c k n nm r p _ hn hr ho
  obtain ⟨g, hg, ho⟩ := Ac.A2 (x := Be db r c.2) ho
  have hgo := Xu hr hg
  split at ho
  ·rename_i h1
   split at ho
   ·cases ho
   ·injection ho with ho; injection ho with ho; subst ho
    exact ⟨by unfold Aj at *; dsimp only; omega, hgo⟩
  ·injection ho with ho; injection ho with ho; subst ho
   exact ⟨hn, hgo⟩
 ·intro c k n nm r u ho
  obtain ⟨g, hg, ho⟩ := Ac.A2 (x := Be db r c.2) ho
  split at ho
  ·split at ho
   ·cases ho
   ·injection ho with ho; cases ho
  ·injection ho with ho; cases ho
 ·intro c f f' hr ho
  obtain ⟨g, hg, ho⟩ := Ac.A2 (x := Be db f c.2) ho
  injection ho with ho; injection ho with ho; subst ho
  exact Xu hr hg
theorem Ob : Kf t0 := by simp [t0, Kf, okL, okB, Aj, Gc, reach]; decide
theorem guard_okT' {t : T} {ns : List Int} {r : Ac T} (h : ns.all (fun n => decide (0 ≤ n)) = true → ∀ u, r = .ok u → Kf u) : Kf (C4 t ns r).2 := by
 unfold C4
 split
 ·exact Ob
 ·split
  ·exact Ob
  ·rename_i ha
   cases r with
   | ok u => exact h (by simpa using ha) u rfl
   | bad e => exact Ob
abbrev B2e (t : T) (v d : Int) : Ac T := (Bj (B7 v 0) t (0, 0)).bind fun u => Bj (B7 0 d) u (0, 0)
def D0 (b : Int) : Int := IntKind.i64.wrap (1000000 - b)
theorem C8u (b : Int) : Aj (D0 b) := by
 have h : D0 b = (1000000 - b + 9223372036854775808) % 18446744073709551616 - 9223372036854775808 := by
  unfold D0; rw [IntKind.wrap_i64]
 unfold Aj; rw [h]; omega
theorem B7d {b : Int} (hb : Aj b) (h0 : 0 ≤ b) (h : 0 ≤ D0 b) : b ≤ 1000000 := by
 have h1 : D0 b = (1000000 - b + 9223372036854775808) % 18446744073709551616 - 9223372036854775808 := by
  unfold D0; rw [IntKind.wrap_i64]
 unfold Aj at hb; omega
def C8 (t : T) (v d : Int) : Int × T := C4 t [v, d, D0 v] (B2e t v d)
theorem Ac.C6o {α β : Type} {x : Ac α} {e : Int} {k : α → Ac β} (h : x = .bad e) : x.bind k = .bad e := by rw [h]; rfl
theorem Ac.B7y {α β : Type} {x : Ac α} {a : α} {y : Ac β} {k : α → Ac β} (h : x = .ok a) (h2 : k a = y) : x.bind k = y := by rw [h]; exact h2
theorem L6 {vb db : Int} {c : Int × Int} {k n : Int} {nm : ByteArray} {r : List Cl} {u : T} : (B7 vb db).own c k n nm r ≠ .ok (.inl u) := by
 intro ho
 obtain ⟨g, hg, ho⟩ := Ac.A2 (x := Be db r c.2) ho
 split at ho
 ·split at ho
  ·cases ho
  ·injection ho with ho; cases ho
 ·injection ho with ho; cases ho
mutual
theorem No {vb db : Int} : ∀ {t u : T} {c : Int × Int}, Bj (B7 vb db) t c = .ok u → size u = size t
 | .mk k n nm r ks ss, u, c, hu => by
  rw [F8] at hu
  simp only [T.kind, T.n, T.name, T.r, T.kids, T.sys] at hu
  obtain ⟨o, h9, hu⟩ := Ac.A2 hu
  cases o with
  | inl v => exact absurd h9 L6
  | inr p =>
   obtain ⟨ks', h10, hu⟩ := Ac.A2 hu
   obtain ⟨ss', h11, hu⟩ := Ac.A2 hu
   injection hu with hu
   subst hu
   rw [Rm, Rm]
   simp only [T.kids, T.sys]
   rw [Yw h10, Yy h11]
theorem Yw {vb db k : Int} : ∀ {ts us : List T} {i : Nat} {c : Int × Int}, Dh (B7 vb db) k i ts c = .ok us → us.map size = ts.map size
 | [], us, i, c, hu => by rw [Dt] at hu; injection hu with hu; subst hu; rfl
 | t :: ts, us, i, c, hu => by
  rw [Dc] at hu
  obtain ⟨c', _, hu⟩ := Ac.A2 hu
  obtain ⟨t', h2, hu⟩ := Ac.A2 hu
  obtain ⟨ts', h3, hu⟩ := Ac.A2 hu
  injection hu with hu
  subst hu
  simp only [List.map_cons]
  rw [No h2, Yw h3]
theorem Yv {vb db k : Int} : ∀ {ts us : List T} {c : Int × Int}, Ck (B7 vb db) k ts c = .ok us → us.map size = ts.map size
 | [], us, c, hu => by rw [E3] at hu; injection hu with hu; subst hu; rfl
 | t :: ts, us, c, hu => by
  rw [Db] at hu
  obtain ⟨c', _, hu⟩ := Ac.A2 hu
  obtain ⟨t', h2, hu⟩ := Ac.A2 hu
  obtain ⟨ts', h3, hu⟩ := Ac.A2 hu
  injection hu with hu
  subst hu
  simp only [List.map_cons]
  rw [No h2, Yv h3]
theorem Yy {vb db k : Int} : ∀ {bs us : List Br} {c : Int × Int}, D7 (B7 vb db) k bs c = .ok us → (us.map fun b => b.kids.map size) = bs.map fun b => b.kids.map size
 | [], us, c, hu => by rw [D1] at hu; injection hu with hu; subst hu; rfl
 | .mk f ks :: bs, us, c, hu => by
  rw [Cw] at hu
  simp only [Br.Ah, Br.kids] at hu
  obtain ⟨o, h5, hu⟩ := Ac.A2 hu
  obtain ⟨g, _, h6⟩ := Ac.A2 (x := Be db f c.2) h5
  injection h6 with h6
  subst h6
  obtain ⟨ks', h7, hu⟩ := Ac.A2 hu
  obtain ⟨bs', h8, hu⟩ := Ac.A2 hu
  injection hu with hu
  subst hu
  show (ks'.map size :: (bs'.map fun b => b.kids.map size)) = (ks.map size :: (bs.map fun b => b.kids.map size))
  rw [Yv h7, Yy h8]
end
theorem A7o {t : T} {v d : Int} {b : Bool} : Mh t v d b = true ↔ (¬ (b = true ∧ 24 < d)) ∧ I3 t v d = true ∧ ∀ p, p ∈ parts t → Mh p.1 (IntKind.i64.wrap (v + if v < 0 then 0 else p.2.1)) (d + p.2.2) b = true := by
  rw [Ra, Bool.and_eq_true, List.all_eq_true]
  simp only [Bool.not_eq_true', Bool.or_eq_false_iff, Bool.and_eq_false_iff, decide_eq_false_iff_not, Bool.not_eq_false']
  constructor
  · rintro ⟨⟨h1, h2⟩, h3⟩
    refine ⟨?_, h2, h3⟩
    rintro ⟨h4, h5⟩
    rcases h1 with h1 | h1
    · rw [h1] at h4; cases h4
    · exact h1 h5
  · rintro ⟨h1, h2, h3⟩
    refine ⟨⟨?_, h2⟩, h3⟩
    cases b
    · exact .inl rfl
    · exact .inr (fun h => h1 ⟨rfl, h⟩)
theorem A5s {t : T} {v d : Int} : I3 t v d = true ↔ Ix t = false ∧
    (if t.kind = 1 then t.r.length = 0 ∧ 0 ≤ t.n ∧ (v < 0 ∨ t.n < v)
     else if t.kind = 2 then t.r.length = 0 ∧ Mz t.name = true
     else if t.kind = 13 ∨ t.kind = 21 ∨ t.kind = 26 then Aq t.r = true ∧ within t.r d = true
     else if t.kind = 14 then B3 t.r = true ∧ within t.r d = true
     else (∀ x, x ∈ t.sys → Mx t d x = true) ∧ t.r.length = 0) := by
  unfold I3
  rw [Bool.and_eq_true, Bool.not_eq_true']
  apply and_congr Iff.rfl
  split
  · simp only [Bool.and_eq_true, decide_eq_true_eq, Bool.or_eq_true, and_assoc]; constructor <;> (rintro ⟨h1, h2⟩; exact ⟨by omega, h2⟩)
  · split
    · simp only [Bool.and_eq_true, decide_eq_true_eq]; constructor <;> (rintro ⟨h1, h2⟩; exact ⟨by omega, h2⟩)
    · split
      · simp only [Bool.and_eq_true]
      · split
        · simp only [Bool.and_eq_true]
        · simp only [Bool.and_eq_true, decide_eq_true_eq, List.all_eq_true]; constructor <;> (rintro ⟨h1, h2⟩; exact ⟨h1, by omega⟩)
theorem within_iff {l : List Cl} {d : Int} (h0 : 0 ≤ d) : within l d = true ↔ ∀ i : Nat, d ≤ (i : Int) → (G9 l).testBit i = false := by
  have hlt := Z8 l
  unfold within
  rw [Bool.or_eq_true, decide_eq_true_eq, decide_eq_true_eq]
  by_cases h24 : 24 ≤ d
  · constructor
    · intro _ i hi
      exact Nat.testBit_lt_two_pow (Nat.lt_of_lt_of_le hlt (Nat.pow_le_pow_right (n := 2) A1 (show 24 ≤ i by omega)))
    · intro _; exact .inl h24
  · have hm : min d.toNat 32 = d.toNat := by omega
    rw [hm]
    constructor
    · rintro (h | h) i hi
      · exact absurd h h24
      · have h1 : G9 l / 2 ^ d.toNat = 0 := by omega
        have h2 : G9 l < 2 ^ d.toNat := by
          have := Nat.div_eq_zero_iff.mp h1
          have hp : 0 < 2 ^ d.toNat := Nat.pow_pos A1
          omega
        exact Nat.testBit_lt_two_pow (Nat.lt_of_lt_of_le h2 (Nat.pow_le_pow_right (n := 2) A1 A1))
    · intro h
      right
      have h2 : G9 l < 2 ^ d.toNat := Nat.lt_pow_two_of_testBit _ (fun i hi => h i A1)
      rw [Nat.div_eq_of_lt h2]; rfl
theorem Lz {t : T} {p : Part} (hp : p ∈ parts t) : (∃ i, i < t.kids.length ∧ p = (t.kids.getD i t0, binds t.kind (i : Int))) ∨ ∃ s k, s < t.sys.length ∧ k < (t.sys.getD s B1).kids.length ∧ p = ((t.sys.getD s B1).kids.getD k t0, 0, more t.kind) := by
 unfold parts at hp
 rcases List.mem_append.mp hp with hp | hp
 ·left
  have key : ∀ (ks : List T) (s : Nat), p ∈ Dr t.kind s ks → ∃ i, i < ks.length ∧ p = (ks.getD i t0, binds t.kind ((s + i : Nat) : Int)) := by
   intro ks
   induction ks with
   | nil => intro s h; simp [Dr] at h
   | cons k ks ih =>
    intro s h
    simp only [Dr, List.mem_cons] at h
    rcases h with h | h
    ·exact ⟨0, by simp, by simpa using h⟩
    ·obtain ⟨i, hi, e⟩ := ih (s + 1) h
     exact ⟨i + 1, by simpa using hi, by rw [e]; simp only [List.getD_cons_succ]; rw [show s + 1 + i = s + (i + 1) by omega]⟩
  obtain ⟨i, hi, e⟩ := key t.kids 0 hp
  exact ⟨i, hi, by rw [e]; simp⟩
 ·right
  have key : ∀ (bs : List Br), p ∈ Dn t.kind bs → ∃ s k, s < bs.length ∧ k < (bs.getD s B1).kids.length ∧ p = ((bs.getD s B1).kids.getD k t0, 0, more t.kind) := by
   intro bs
   induction bs with
   | nil => intro h; simp [Dn] at h
   | cons b bs ih =>
    intro h
    simp only [Dn, List.mem_append, List.mem_map] at h
    rcases h with ⟨k, hk, e⟩ | h
    ·obtain ⟨j, hj, e2⟩ := List.mem_iff_getElem.mp hk
     exact ⟨0, j, by simp, by simpa using hj, by rw [← e]; simp only [List.getD_cons_zero]; rw [Gs (d := t0) hj, e2]⟩
    ·obtain ⟨s, k, h1, h2, e⟩ := ih h
     exact ⟨s + 1, k, by simpa using h1, by simpa using h2, by rw [e]; simp⟩
  exact key t.sys hp
theorem B1e {α : Type} (f : α → Nat) (i : Nat) : ∀ (l : List α) (a : Nat), (l.foldl (fun a x => a ||| f x) a).testBit i = true ↔ a.testBit i = true ∨ ∃ x, x ∈ l ∧ (f x).testBit i = true
 | [], a => by simp
 | x :: l, a => by
  rw [List.foldl_cons, B1e f i l, Nat.testBit_or]
  simp only [Bool.or_eq_true, List.mem_cons, exists_eq_or_imp, or_assoc]
def Q7 (k n : Int) (nm : ByteArray) (r : List Cl) : Prop :=
 (k ≠ 1 → n = 0) ∧ (k ≠ 2 → nm.toList = (ByteArray.mk #[]).toList) ∧ (k = 1 → r = [] ∧ 0 ≤ n) ∧ (k = 2 → r = [] ∧ Mz nm = true) ∧ (k = 13 ∨ k = 21 ∨ k = 26 → Aq r = true) ∧ (k = 14 → B3 r = true) ∧ (k ≠ 13 ∧ k ≠ 21 ∧ k ≠ 26 ∧ k ≠ 14 → r = [])
mutual
def F5 : T → Prop
 | .mk k n nm r ks ss => Q7 k n nm r ∧ D3 k = (ks.length : Int) ∧ (De k = 0 → ss = []) ∧ Iu ks ∧ P6 k ss
def Iu : List T → Prop
 | [] => True
 | t :: ts => F5 t ∧ Iu ts
def P6 (k : Int) : List Br → Prop
 | [] => True
 | .mk f ks :: bs => (ks.length : Int) = De k ∧ B3 f = true ∧ Iu ks ∧ P6 k bs
end
theorem Ge {k : Int} (h : k = 1 ∨ k = 2 ∨ k = 13 ∨ k = 21 ∨ k = 26 ∨ k = 14) : De k = 0 := by
 unfold De
 rcases h with h | h | h | h | h | h <;> subst h <;> decide
theorem Ql (l : List Cl) {d : Int} (h : 24 ≤ d) : within l d = true := by unfold within; rw [decide_eq_true h]; rfl
theorem len_nil {α : Type} {l : List α} : ((l.length : Int) = 0) ↔ l = [] := by
 constructor
 ·intro h; exact List.eq_nil_of_length_eq_zero A1
 ·rintro rfl; rfl
theorem Nk {k n : Int} {nm : ByteArray} {r : List Cl} {ks : List T} {ss : List Br} {d : Int} (hd : 24 ≤ d) : I3 (.mk k n nm r ks ss) (-1) d = true ↔ Q7 k n nm r ∧ D3 k = (ks.length : Int) ∧ (De k = 0 → ss = []) ∧ ∀ b, b ∈ ss → (b.kids.length : Int) = De k ∧ B3 b.Ah = true := by
 have hB : ∀ b : Br, Mx (.mk k n nm r ks ss) d b = (decide ((b.kids.length : Int) = De k) && B3 b.Ah) := fun b => by
  unfold Mx; rw [Ql _ hd, Bool.and_true]; rfl
 have hL : (0 : Int) < (ss.length : Int) ↔ ss ≠ [] := by
  constructor
  ·intro h e; subst e; simp at h
  ·intro h; have := List.length_pos_iff.mpr h; omega
 have hs : ∀ p : Bool, (ss.all (Mx (.mk k n nm r ks ss) d) = true) ↔ ∀ b, b ∈ ss → (b.kids.length : Int) = De k ∧ B3 b.Ah = true := fun _ => by
  rw [List.all_eq_true]
  exact forall_congr' fun b => forall_congr' fun _ => by rw [hB]; simp
 unfold I3 Ix Q7
 simp only [T.kind, T.n, T.name, T.r, T.kids, T.sys, Ql _ hd, Bool.and_true, Bool.and_eq_true, Bool.not_eq_true', Bool.or_eq_false_iff, Bool.and_eq_false_iff, decide_eq_false_iff_not, Decidable.not_not, ne_eq, Int.not_lt, Bool.not_eq_false', beq_iff_eq]
 constructor
 ·rintro ⟨⟨⟨⟨h1, h2⟩, h3⟩, h4⟩, h5⟩
  replace h1 : D3 k = (ks.length : Int) := Decidable.not_not.mp (of_decide_eq_false h1)
  replace h2 : k = 1 ∨ n = 0 := h2.imp (fun h => Decidable.not_not.mp (of_decide_eq_false h)) (fun h => Decidable.not_not.mp (of_decide_eq_false h))
  replace h3 : k = 2 ∨ nm.toList = (ByteArray.mk #[]).toList := h3.imp (fun h => Decidable.not_not.mp (of_decide_eq_false h)) id
  replace h4 : ¬ De k = 0 ∨ ¬ (0 : Int) < (ss.length : Int) := h4.imp (fun h => of_decide_eq_false h) (fun h => of_decide_eq_false h)
  have hss : De k = 0 → ss = [] := by
   intro h
   rcases h4 with h4 | h4
   ·exact absurd h h4
   ·exact List.eq_nil_of_length_eq_zero A1
  split at h5
  ·rename_i hk
   have he := hss (Ge A1)
   subst he
   simp only [Bool.and_eq_true, decide_eq_true_eq] at h5
   exact ⟨⟨by omega, fun _ => h3.resolve_left A1, fun _ => ⟨len_nil.mp (of_decide_eq_true h5.1.1), of_decide_eq_true h5.1.2⟩, by omega, by omega, by omega, fun _ => len_nil.mp (of_decide_eq_true h5.1.1)⟩, h1, hss, fun b hb => by cases hb⟩
  ·split at h5
   ·rename_i hk1 hk
    have he := hss (Ge A1)
    subst he
    simp only [Bool.and_eq_true, decide_eq_true_eq] at h5
    exact ⟨⟨by omega, fun h => absurd hk h, by omega, fun _ => ⟨len_nil.mp (of_decide_eq_true h5.1), h5.2⟩, by omega, by omega, fun _ => len_nil.mp (of_decide_eq_true h5.1)⟩, h1, hss, fun b hb => by cases hb⟩
   ·split at h5
    ·rename_i hk1 hk2 hk
     have he := hss (Ge A1)
     subst he
     exact ⟨⟨by omega, fun _ => h3.resolve_left A1, by omega, by omega, fun _ => h5, by omega, by omega⟩, h1, hss, fun b hb => by cases hb⟩
    ·split at h5
     ·rename_i hk1 hk2 hk3 hk
      have he := hss (Ge A1)
      subst he
      exact ⟨⟨by omega, fun _ => h3.resolve_left A1, by omega, by omega, by omega, fun _ => h5, by omega⟩, h1, hss, fun b hb => by cases hb⟩
     ·rename_i hk1 hk2 hk3 hk4
      simp only [Bool.and_eq_true, decide_eq_true_eq] at h5
      exact ⟨⟨by omega, fun _ => h3.resolve_left A1, by omega, by omega, by omega, by omega, fun _ => len_nil.mp (of_decide_eq_true h5.2)⟩, h1, hss, (hs true).mp h5.1⟩
 ·rintro ⟨⟨a1, a2, a3, a4, a5, a6, a7⟩, b1, b2, b3⟩
  refine ⟨⟨⟨⟨decide_eq_false (Decidable.not_not.mpr b1), ?_⟩, ?_⟩, ?_⟩, ?_⟩
  ·by_cases h : k = 1
   ·exact .inl (decide_eq_false (Decidable.not_not.mpr h))
   ·exact .inr (decide_eq_false (Decidable.not_not.mpr (a1 h)))
  ·by_cases h : k = 2
   ·exact .inl (decide_eq_false (Decidable.not_not.mpr h))
   ·exact .inr (a2 h)
  ·by_cases h : De k = 0
   ·exact .inr (decide_eq_false (by rw [b2 h]; decide))
   ·exact .inl (decide_eq_false h)
  ·split
   ·rename_i h; simp [(a3 h).1, (a3 h).2]
   ·split
    ·rename_i h; simp [(a4 h).1, (a4 h).2]
    ·split
     ·rename_i h; exact a5 h
     ·split
      ·rename_i h; exact a6 h
      ·rename_i h1 h2 h3 h4
       rw [Bool.and_eq_true, (hs true)]
       exact ⟨b3, by simp [a7 A1]⟩
theorem R2 : ∀ {ts : List T}, Iu ts ↔ ∀ t, t ∈ ts → F5 t
 | [] => by simp [Iu]
 | t :: ts => by simp [Iu, R2 (ts := ts)]
theorem Nt {k : Int} : ∀ {bs : List Br}, P6 k bs ↔ ∀ b, b ∈ bs → (b.kids.length : Int) = De k ∧ B3 b.Ah = true ∧ Iu b.kids
 | [] => by simp [P6]
 | .mk f ks :: bs => by
  simp only [P6, Nt (bs := bs), List.forall_mem_cons, Br.kids, Br.Ah]
  constructor
  ·rintro ⟨h1, h2, h3, h4⟩; exact ⟨⟨h1, h2, h3⟩, h4⟩
  ·rintro ⟨⟨h1, h2, h3⟩, h4⟩; exact ⟨h1, h2, h3, h4⟩
theorem G8 {t : T} : F5 t ↔ Q7 t.kind t.n t.name t.r ∧ D3 t.kind = (t.kids.length : Int) ∧ (De t.kind = 0 → t.sys = []) ∧ Iu t.kids ∧ P6 t.kind t.sys := by
 obtain ⟨k, n, nm, r, ks, ss⟩ := t
 simp only [F5, T.kind, T.n, T.name, T.r, T.kids, T.sys]
theorem Sf {t : T} : F5 t ↔ (∀ d : Int, 24 ≤ d → I3 t (-1) d = true) ∧ ∀ p, p ∈ parts t → F5 p.1 := by
 rw [G8, R2, Nt]
 have ho : ∀ d : Int, 24 ≤ d → (I3 t (-1) d = true ↔ Q7 t.kind t.n t.name t.r ∧ D3 t.kind = (t.kids.length : Int) ∧ (De t.kind = 0 → t.sys = []) ∧ ∀ b, b ∈ t.sys → (b.kids.length : Int) = De t.kind ∧ B3 b.Ah = true) := by
  intro d hd
  obtain ⟨k, n, nm, r, ks, ss⟩ := t
  exact Nk hd
 constructor
 ·rintro ⟨h1, h2, h3, h4, h5⟩
  refine ⟨fun d hd => (ho d hd).mpr ⟨h1, h2, h3, fun b hb => ⟨(h5 b hb).1, (h5 b hb).2.1⟩⟩, fun p hp => ?_⟩
  rcases Lz hp with ⟨i, hi, rfl⟩ | ⟨s, k, hs, hk, rfl⟩
  ·exact h4 _ (Ad hi)
  ·exact R2.mp (h5 _ (Ad hs)).2.2 _ (Ad hk)
 ·rintro ⟨h1, h2⟩
  obtain ⟨a1, a2, a3, a4⟩ := (ho 24 A1).mp (h1 24 A1)
  refine ⟨a1, a2, a3, fun k hk => ?_, fun b hb => ⟨(a4 b hb).1, (a4 b hb).2, R2.mpr fun k hk => ?_⟩⟩
  ·obtain ⟨p, hp, e⟩ := Ex hk; exact e ▸ h2 p hp
  ·obtain ⟨p, hp, e⟩ := Gt hb hk; exact e ▸ h2 p hp
theorem C6t : ∀ (t : T) (d : Int), 24 ≤ d → (Mh t (-1) d false = true ↔ F5 t) := T.ind fun t ih d hd => by
 rw [A7o, Sf]
 have hw : ∀ p : Part, IntKind.i64.wrap (-1 + if (-1 : Int) < 0 then 0 else p.2.1) = -1 := fun p => by rw [if_pos F2]; decide
 constructor
 ·rintro ⟨_, h2, h3⟩
  refine ⟨fun d' hd' => ?_, fun p hp => ?_⟩
  ·obtain ⟨k, n, nm, r, ks, ss⟩ := t
   exact (Nk hd').mpr ((Nk hd).mp h2)
  ·have h4 := h3 p hp
   rw [hw] at h4
   have h5 := Kd hp
   exact (ih p hp (d + p.2.2) A1).mp h4
 ·rintro ⟨h1, h2⟩
  refine ⟨by simp, h1 d hd, fun p hp => ?_⟩
  rw [hw]
  have h5 := Kd hp
  exact (ih p hp (d + p.2.2) A1).mpr (h2 p hp)
theorem Cj {t : T} : A7 t = 0 ↔ sized t = 0 ∧ F5 t := by rw [Q9, C6t t 24 A1]
section
variable {C : Type} {A : Tr C}
end
section
variable {CA CB CC : Type} {A : Tr CA} {B : Tr CB} {D : Tr CC} (R : CA → CB → CC → Prop)
variable {R}
end
section
variable {CA CC : Type} {A : Tr CA} {D : Tr CC} (R : CA → CC → Prop)
variable {R}
end
theorem Oi {s : Nat} {f b : Int} (h : (As s f b).1 = 0) (i : Nat) : 0 ≤ f ∧ 0 ≤ b ∧ (As s f b).2.testBit i = ((decide (i < min f.toNat 24) && (s &&& 16777215).testBit i) || (decide (min f.toNat 24 + b.toNat ≤ i) && (s &&& 16777215).testBit (i - b.toNat))) := by
 by_cases h0 : f < 0 ∨ b < 0
 ·rw [As, if_pos h0] at h; cases h
 ·have hq : ∀ j, (s &&& 16777215).testBit j = true → j < 24 := fun j hj => by rw [E4, Bool.and_eq_true, decide_eq_true_eq] at hj; exact hj.1
  refine ⟨by omega, by omega, ?_⟩
  generalize hF : min f.toNat 24 = F at *
  by_cases h1 : Bg (s &&& 16777215) (2 ^ (min f.toNat 24) - 1) = 0
  ·rw [As, if_neg h0, if_pos h1]
   show ((s &&& 16777215) &&& (2 ^ (min f.toNat 24) - 1)).testBit i = _
   rw [hF] at h1 ⊢
   rw [Nat.testBit_and, M5]
   have h2 : (decide (F + b.toNat ≤ i) && (s &&& 16777215).testBit (i - b.toNat)) = false := by
    cases h3 : (s &&& 16777215).testBit (i - b.toNat) with
    | false => rw [Bool.and_false]
    | true =>
     rw [Bool.and_true]
     refine decide_eq_false (fun h4 => ?_)
     have h5 : (Bg (s &&& 16777215) (2 ^ F - 1)).testBit (i - b.toNat) = true := by
      rw [Gl, M5, h3, decide_eq_true (by have := hq _ h3; omega), decide_eq_false A1]; rfl
     rw [h1, Nat.zero_testBit] at h5
     cases h5
   rw [h2, Bool.or_false, Bool.and_comm]
  ·by_cases h2 : 24 ≤ b ∨ 16777215 < Bg (s &&& 16777215) (2 ^ (min f.toNat 24) - 1) * 2 ^ b.toNat
   ·rw [As, if_neg h0, if_neg h1, if_pos h2] at h; cases h
   ·rw [As, if_neg h0, if_neg h1, if_neg h2]
    show (((s &&& 16777215) &&& (2 ^ (min f.toNat 24) - 1)) ||| (Bg (s &&& 16777215) (2 ^ (min f.toNat 24) - 1) * 2 ^ b.toNat)).testBit i = _
    rw [hF, Nat.testBit_or, Nat.testBit_and, M5, Nat.testBit_mul_two_pow, Gl, M5]
    cases h3 : (s &&& 16777215).testBit (i - b.toNat) with
    | false => simp [Bool.and_comm]
    | true =>
     have h4 := hq _ h3
     rw [decide_eq_true (show i - b.toNat < 32 by omega)]
     simp only [Bool.and_true, Bool.true_and]
     rw [Bool.and_comm]
     congr 1
     by_cases h5 : F + b.toNat ≤ i
     ·rw [decide_eq_true (show b.toNat ≤ i by omega), decide_eq_false (show ¬ i - b.toNat < F by omega), decide_eq_true h5]; rfl
     ·rw [decide_eq_false h5]
      by_cases h6 : b.toNat ≤ i
      ·rw [decide_eq_true h6, decide_eq_true (show i - b.toNat < F by omega)]; rfl
      ·rw [decide_eq_false h6]; rfl
theorem A4c {c : Cl} {f b : Int} (h : (Bi c f b).1 = 0) : Bw c = true ∧ (As c.pos f b).1 = 0 ∧ (As c.neg f b).1 = 0 ∧ (Bi c f b).2 = ⟨(As c.pos f b).2, (As c.neg f b).2⟩ := by
 unfold Bi at h ⊢
 split at h
 ·cases h
 ·rename_i h1
  split at h
  ·rename_i h2; exact absurd h h2
  ·rename_i h2
   split at h
   ·rename_i h3; exact absurd h h3
   ·rename_i h3
    rw [if_neg h1, if_neg h2, if_neg h3]
    exact ⟨by simpa using h1, Decidable.not_not.mp h2, Decidable.not_not.mp h3, rfl⟩
theorem L8 (l : List Cl) : ((Bm l).1 = 0 ∧ l.all Bw = true ∧ (Bm l).2 = G2 l ∧ (G2 l).length ≤ 64) ∨ (Bm l).1 = 2 ∨ (Bm l).1 = 3 := by
 unfold Bm
 split
 ·exact .inr (.inl rfl)
 ·rename_i h1
  split
  ·exact .inr (.inr rfl)
  ·rename_i h2
   exact .inl ⟨rfl, by simpa using h1, rfl, by omega⟩
theorem Qz {l : List Cl} (h : (Bm l).1 = 0) : Aq (Bm l).2 = true := by
 rcases L8 l with ⟨_, h1, h2, h3⟩ | h1 | h1
 ·rw [h2]
  unfold Aq
  rw [Bool.and_eq_true, Bool.and_eq_true, Bool.and_eq_true]
  refine ⟨⟨⟨List.all_eq_true.mpr fun c hc => List.all_eq_true.mp h1 c (Fk.mp hc).1, Ml.mpr (P3 l)⟩, Vj.mpr fun a ha b hb => Oh.mp (Fk.mp ha).2 b (Fk.mp hb).1⟩, decide_eq_true h3⟩
 ·rw [h1] at h; cases h
 ·rw [h1] at h; cases h
theorem On {l : List Cl} (h : (Bm l).1 = 0) {c : Cl} (hc : c ∈ (Bm l).2) : c ∈ l := by
 rcases L8 l with ⟨_, h1, h2, h3⟩ | h1 | h1
 ·rw [h2] at hc; exact (Fk.mp hc).1
 ·rw [h1] at h; cases h
 ·rw [h1] at h; cases h
theorem M8 {l : List Cl} {f b : Int} (h : (Ae l f b).1 = 0) : Aq l = true ∧ (∀ c, c ∈ l → (Bi c f b).1 = 0) ∧ Ae l f b = Bm (l.map fun c => (Bi c f b).2) := by
 unfold Ae at h ⊢
 split at h
 ·cases h
 ·rename_i h1
  split at h
  ·rename_i h2; exact absurd h h2
  ·rename_i h2
   have h3 : (Fw (fun c => Bi c f b) l).1 = 0 := Decidable.not_not.mp h2
   rw [if_neg h1, if_neg h2]
   exact ⟨by simpa using h1, A3n.mp h3, by rw [C0i h3]⟩
theorem Wg {l : List Cl} {f b : Int} (h : (Ae l f b).1 = 0) : Aq (Ae l f b).2 = true := by
 obtain ⟨_, _, h3⟩ := M8 h
 rw [h3] at h ⊢
 exact Qz h
section
variable {C : Type} {A : Tr C}
end
theorem Tk (l : List Cl) (f : Int) : Be 0 l f = .ok l := by unfold Be; rw [if_pos (.inl rfl)]
theorem W8 {vb db : Int} {c : Int × Int} {k n : Int} {nm : ByteArray} {r : List Cl} : (B7 vb db).own c k n nm r = (Be db r c.2).bind fun r' => if k = 1 ∧ c.1 ≤ n ∧ 1000000000 - vb < n then .bad 100 else .ok (.inr (Iq vb c.1 k n, r')) := by
 simp only [B7, Iq]
 congr 1
 funext g
 by_cases h1 : k = 1 ∧ c.1 ≤ n
 ·rw [if_pos h1, if_pos h1]
  by_cases h2 : 1000000000 - vb < n
  ·rw [if_pos h2, if_pos ⟨h1.1, h1.2, h2⟩]
  ·rw [if_neg h2, if_neg (fun h => h2 h.2.2)]
 ·rw [if_neg h1, if_neg h1, if_neg (fun h => h1 ⟨h.1, h.2.1⟩)]
theorem W7 {vb db : Int} {c : Int × Int} {k n : Int} {nm : ByteArray} {r : List Cl} {p : Int × List Cl} (h : (B7 vb db).own c k n nm r = .ok (.inr p)) : Be db r c.2 = .ok p.2 ∧ ¬ (k = 1 ∧ c.1 ≤ n ∧ 1000000000 - vb < n) ∧ p.1 = Iq vb c.1 k n := by
 rw [W8] at h
 obtain ⟨g, hg, h⟩ := Ac.A2 h
 split at h
 ·cases h
 ·rename_i h1
  injection h with h; injection h with h; subst h
  exact ⟨hg, h1, rfl⟩
theorem A6h {vb db : Int} {c : Int × Int} {f f' : List Cl} (h : (B7 vb db).Ah c f = .ok (some f')) : Be db f c.2 = .ok f' := by
 obtain ⟨g, hg, h⟩ := Ac.A2 (x := Be db f c.2) h
 injection h with h; injection h with h; subst h; exact hg
theorem B4m {v k n : Int} : Iq 0 v k n = n := by unfold Iq; split <;> omega
theorem Rq {vb db : Int} {c : Int × Int} {f : List Cl} : (B7 vb db).Ah c f = (Be db f c.2).bind fun f' => .ok (some f') := rfl
def Qg (r : Ac T) : Int × T := match r with
 | .ok u => (0, u)
 | .bad e => (e, t0)
theorem Vt {l : List Cl} {f b e : Int} (h : Be b l f = .bad e) : e ≠ 0 := by
 unfold Be at h
 split at h
 ·cases h
 ·split at h
  ·cases h
  ·rename_i h2; injection h with h; exact h ▸ h2
mutual
theorem lift_bad_ne' {vb db : Int} : ∀ {t : T} {c : Int × Int} {e : Int}, Bj (B7 vb db) t c = .bad e → e ≠ 0
 | .mk k n nm r ks ss, c, e, h => by
  rw [F8] at h
  simp only [T.kind, T.n, T.name, T.r, T.kids, T.sys] at h
  rw [W8] at h
  cases h0 : Be db r c.2 with
  | bad e' => rw [h0] at h; injection h with h; exact h ▸ Vt h0
  | ok g =>
   rw [h0] at h
   simp only [Ac.bind] at h
   by_cases h6 : k = 1 ∧ c.1 ≤ n ∧ 1000000000 - vb < n
   ·rw [if_pos h6] at h; injection h with h; subst h; decide
   ·rw [if_neg h6] at h
    simp only at h
    cases h1 : Dh (B7 vb db) k 0 ks c with
    | bad e' => rw [h1] at h; injection h with h; exact h ▸ U3 h1
    | ok x =>
     rw [h1] at h
     simp only at h
     cases h2 : D7 (B7 vb db) k ss c with
     | bad e' => rw [h2] at h; injection h with h; exact h ▸ U4 h2
     | ok y => rw [h2] at h; cases h
theorem U3 {vb db k : Int} : ∀ {ts : List T} {i : Nat} {c : Int × Int} {e : Int}, Dh (B7 vb db) k i ts c = .bad e → e ≠ 0
 | [], i, c, e, h => by rw [Dt] at h; cases h
 | t :: ts, i, c, e, h => by
  rw [Dc, U0] at h
  simp only [Ac.bind] at h
  cases h1 : Bj (B7 vb db) t (c.1 + (binds k i).1, c.2 + (binds k i).2) with
  | bad e' => rw [h1] at h; injection h with h; exact h ▸ lift_bad_ne' h1
  | ok x =>
   rw [h1] at h
   simp only at h
   cases h2 : Dh (B7 vb db) k (i + 1) ts c with
   | bad e' => rw [h2] at h; injection h with h; exact h ▸ U3 h2
   | ok y => rw [h2] at h; cases h
theorem U2 {vb db k : Int} : ∀ {ts : List T} {c : Int × Int} {e : Int}, Ck (B7 vb db) k ts c = .bad e → e ≠ 0
 | [], c, e, h => by rw [E3] at h; cases h
 | t :: ts, c, e, h => by
  rw [Db, U0] at h
  simp only [Ac.bind] at h
  cases h1 : Bj (B7 vb db) t (c.1 + 0, c.2 + more k) with
  | bad e' => rw [h1] at h; injection h with h; exact h ▸ lift_bad_ne' h1
  | ok x =>
   rw [h1] at h
   simp only at h
   cases h2 : Ck (B7 vb db) k ts c with
   | bad e' => rw [h2] at h; injection h with h; exact h ▸ U2 h2
   | ok y => rw [h2] at h; cases h
theorem U4 {vb db k : Int} : ∀ {bs : List Br} {c : Int × Int} {e : Int}, D7 (B7 vb db) k bs c = .bad e → e ≠ 0
 | [], c, e, h => by rw [D1] at h; cases h
 | .mk f ks :: bs, c, e, h => by
  rw [Cw, Rq] at h
  simp only [Br.Ah, Br.kids] at h
  cases h0 : Be db f c.2 with
  | bad e' => rw [h0] at h; injection h with h; exact h ▸ Vt h0
  | ok g =>
   rw [h0] at h
   simp only [Ac.bind] at h
   cases h1 : Ck (B7 vb db) k ks c with
   | bad e' => rw [h1] at h; injection h with h; exact h ▸ U2 h1
   | ok x =>
    rw [h1] at h
    simp only at h
    cases h2 : D7 (B7 vb db) k bs c with
    | bad e' => rw [h2] at h; injection h with h; exact h ▸ U4 h2
    | ok y => rw [h2] at h; cases h
end
end Go.Hy
