/- Contracts of this program's functions and the laws that they need. -/
import Derived.Test.YtibignmpjeemeaaGreatDoorP4
set_option linter.unusedVariables false
set_option linter.unusedSimpArgs false
set_option linter.unusedSectionVars false
namespace Go.Hy
open Go.Proofs Go.Proofs.Tryz
theorem sm_ {p q : Prop} (h : p) (e : p = q := by
 try (conv => lhs; simp only [sC, bne_iff_ne, beq_iff_eq, ne_eq])
 try rfl) : q := e ▸ h
class D0 (P : Program) (k : FuncId) (fn : outParam Func) : Prop where
 f : P.funcs[k]? = some fn
structure Al (p : Prop) : Prop where
 out : p
section
variable {P : Program} {f : FuncId} {R : Ending → World → Prop} {B : Bx} {n : Fz} {K : List Item} {σ : Nat → Value} {Γ Γ' : List Fact} {Ms : List Aw}
theorem f_ {k : FuncId} {fn : Func} [h : D0 P k fn] : P.funcs[k]? = some fn := h.f
theorem Ih {fn : Func} {id : Nat} {ops : Array Oper} [h9 : D0 P f fn] (h : D8 P f R B n K ops (List.range ops.size) σ Γ Ms) : Dn P f R B n (.code (.region id ops false) :: K) σ Γ Ms := go_region ⟨_, h9.f⟩ rfl h
theorem Wn {Q : Program} [Tab Q] {g : FuncId} {S : Ending → World → Prop} {C : Bx} {m : Fz} {L : List Item} {ops : Array Oper} {i : Nat} {l : List Nat} {τ : Nat → Value} {Δ : List Fact} {Ns : List Aw} {dst : Option Tmp} {op : Op} {ty : TypeId} {pos : String} {after : Array Edge} {e d : Nat} {want : Bool} {og : Oper} (ho : ops[i]? = some ⟨dst, op, ty, pos, after, some (e, want)⟩) (t : Bool) {p q : Prop} (kT : t = want → p → Dq Q g S C m L ops l (C2 dst op ty) (Ow τ d (.bool want)) Δ Ns) (kF : t = !want → q → D8 Q g S C m L ops l (Ah (Ow τ d (.bool !want)) dst undef) Δ Ns) (hog : ops[e]? = some og := by exact rfl) (hgd : og.dst = some d := by exact rfl) (ht : τ d = .bool t := by exact A7) (e1 : (t = want) = p := by
 try (conv => lhs; simp only [sC, bne_iff_ne, beq_iff_eq, ne_eq])
 try rfl) (e2 : (t = !want) = q := by
 try (conv => lhs; simp only [Bool.not_true, Bool.not_false, sC, bne_iff_ne, beq_iff_eq, ne_eq])
 try rfl) (hd : A9 m dst = true := by rfl) : D8 Q g S C m L ops (i :: l) τ Δ Ns := qI ho hog hgd ht (fun h => kT h (e1 ▸ h)) (fun h => kF h (e2 ▸ h)) hd
theorem Cz {d : Nat} {x y : Code} (t : Bool) {p q : Prop} (kT : t = true → p → Dn P f R B n (.code x :: K) (Ow σ d (.bool true)) Γ Ms) (kF : t = false → q → Dn P f R B n (.code y :: K) (Ow σ d (.bool false)) Γ Ms) (hc : σ d = .bool t := by exact A7) (e1 : (t = true) = p := by
 try (conv => lhs; simp only [sC, bne_iff_ne, beq_iff_eq, ne_eq])
 try rfl) (e2 : (t = false) = q := by
 try (conv => lhs; simp only [sC, bne_iff_ne, beq_iff_eq, ne_eq])
 try rfl) : Dn P f R B n (.code (.cond (.tmp d) x y) :: K) σ Γ Ms := A1 (fun h => kT h (e1 ▸ h)) (fun h => kF h (e2 ▸ h)) hc
theorem D7 {fn : Func} {c : Code} {m : Nat} {args : List Value} {pre : List Fact} {Ms0 : List Aw} {X : Type} {val : X → Value} {N : X → List Fact} {Ms1 : X → List Aw} [h9 : D0 P f fn] (hn : fn.ntmps = m) (h : ∀ B : Bx, (∀ b, B.S0 b ↔ B0 Ms0 b) → Dn P f (Ends B val N Ms1) B ⟨m, [], .normal⟩ [.code c] (fun t => args.getD t undef) pre Ms0) (hb : fn.body = some c := by exact rfl) (ha : args.length ≤ m := by exact Nat.le_of_ble_eq_true rfl) : Spec P f args.toArray pre Ms0 val N Ms1 := F3 h9.f hn hb ha h
theorem St.l9 {w : World} (hs : St B Γ Ms w) (h : ∀ F, F ∈ Γ' → F ∈ Γ := by simp +contextual) : St B Γ' Ms w := hs.less h
theorem St.l7 {w : World} (hs : St B Γ Ms w) (h : ∀ F, F ∈ ([] : List Fact) → F ∈ Γ := by simp) : St B [] Ms w := hs.less h
theorem St.l8 {w : World} (hs : St B Γ Ms w) (h : ∀ F, F ∈ Γ' → F ∈ Γ := by simp) : St B Γ' Ms w := hs.less h
end
section
variable {p q : Prop}
theorem Ft (k : p) (h : Al p → q := by intro h; refine C9w ?_; exact h.1) : q := h ⟨k⟩
theorem Jv (k : p) (h : Al p → q := by intro h; refine C6e ?_; exact h.1) : q := h ⟨k⟩
theorem zq2 (k : p) (h : Al p → q := by intro h; refine q0 rfl (B8h ?_); exact h.1) : q := h ⟨k⟩
theorem Dd (k : p) (h : Al p → q := by intro h; refine q0 rfl (E1 ?_); exact h.1) : q := h ⟨k⟩
theorem Wp (k : p) (h : Al p → q := by intro h; refine qF rfl rfl rfl ?_; exact h.1) : q := h ⟨k⟩
theorem H4 (k : p) (h : Al p → q := by intro h; refine go_skip ?_; exact h.1) : q := h ⟨k⟩
theorem zq6 (k : p) (h : Al p → q := by intro h; refine q0 rfl (B3v ?_); exact h.1) : q := h ⟨k⟩
theorem Wl (k : p) (h : Al p → q := by intro h; refine B9p ?_; exact h.1) : q := h ⟨k⟩
theorem zq8 (k : p) (h : Al p → q := by intro h; refine q0 rfl (Oz ?_); exact h.1) : q := h ⟨k⟩
theorem zq9 (k : p) (h : Al p → q := by intro h; refine q0 rfl (D4r ?_); exact h.1) : q := h ⟨k⟩
theorem Pk (k : p) (h : Al p → q := by intro h; refine q0 rfl (C7b ?_); exact h.1) : q := h ⟨k⟩
theorem Fl (k : p) (h : Al p → q := by intro h; refine q0 rfl (Mm ?_); exact h.1) : q := h ⟨k⟩
theorem Na (k : p) (h : Al p → q := by intro h; refine q0 rfl (B1b ?_); exact h.1) : q := h ⟨k⟩
theorem Wq (k : p) (h : Al p → q := by intro h; refine nF rfl rfl rfl ?_; exact h.1) : q := h ⟨k⟩
theorem Hf (k : p) (h : Al p → q := by intro h; refine q0 rfl (A3v ?_); exact h.1) : q := h ⟨k⟩
theorem U0 (k : p) (h : Al p → q := by intro h; refine q0 rfl (D1q ?_); exact h.1) : q := h ⟨k⟩
theorem Ef (k : p) (h : Al p → q := by intro h; refine C3l rfl ?_; exact h.1) : q := h ⟨k⟩
theorem Fg (k : p) (h : Al p → q := by intro h; refine n0 rfl (B6b ?_); exact h.1) : q := h ⟨k⟩
theorem A7a (k : p) (h : Al p → q := by intro h; refine q0 rfl (A3w ?_); exact h.1) : q := h ⟨k⟩
theorem Pj (k : p) (h : Al p → q := by intro h; refine A8x ?_; exact h.1) : q := h ⟨k⟩
theorem Tm (k : p) (h : Al p → q := by intro h; refine q0 rfl (C4x ?_); exact h.1) : q := h ⟨k⟩
theorem C5u (k : p) (h : Al p → q := by intro h; refine q0 rfl (Of ?_); exact h.1) : q := h ⟨k⟩
theorem C1l (k : p) (h : Al p → q := by intro h; refine q0 rfl (A3t ?_); exact h.1) : q := h ⟨k⟩
theorem A2g (k : p) (h : Al p → q := by intro h; refine n0 rfl (Ov ?_); exact h.1) : q := h ⟨k⟩
theorem B2n (k : p) (h : Al p → q := by intro h; refine NV.done ?_; exact h.1) : q := h ⟨k⟩
theorem Ou (k : p) (h : Al p → q := by intro h; refine q0 rfl (D1l ?_); exact h.1) : q := h ⟨k⟩
theorem C5t (k : p) (h : Al p → q := by intro h; refine B9o ?_; exact h.1) : q := h ⟨k⟩
theorem Le (k : p) (h : Al p → q := by intro h; refine qT rfl rfl rfl (C7b ?_); exact h.1) : q := h ⟨k⟩
theorem He (k : p) (h : Al p → q := by intro h; refine qT rfl rfl rfl (E1 ?_); exact h.1) : q := h ⟨k⟩
theorem B5v (k : p) (h : Al p → q := by intro h; refine nU rfl rfl rfl ?_; exact h.1) : q := h ⟨k⟩
theorem A2f (k : p) (h : Al p → q := by intro h; refine q0 rfl (C4v ?_); exact h.1) : q := h ⟨k⟩
theorem D0s (k : p) (h : Al p → q := by intro h; refine n0 rfl (B6f ?_); exact h.1) : q := h ⟨k⟩
theorem Mr (k : p) (h : Al p → q := by intro h; refine nT rfl rfl rfl (D0t ?_); exact h.1) : q := h ⟨k⟩
theorem D0r (k : p) (h : Al p → q := by intro h; refine n0 rfl (B2q ?_); exact h.1) : q := h ⟨k⟩
theorem N1 (k : p) (h : Al p → q := by intro h; refine q0 rfl (A8e ?_); exact h.1) : q := h ⟨k⟩
theorem A2e (k : p) (h : Al p → q := by intro h; refine n0 rfl (B0b ?_); exact h.1) : q := h ⟨k⟩
theorem Ot (k : p) (h : Al p → q := by intro h; refine q0 rfl (D5 ?_); exact h.1) : q := h ⟨k⟩
theorem Oq (k : p) (h : Al p → q := by intro h; refine q0 rfl (D1m ?_); exact h.1) : q := h ⟨k⟩
theorem Ph (k : p) (h : Al p → q := by intro h; refine n0 rfl (B6c ?_); exact h.1) : q := h ⟨k⟩
theorem Q9 (k : p) (h : Al p → q := by intro h; refine qU rfl rfl rfl ?_; exact h.1) : q := h ⟨k⟩
theorem Q8 (k : p) (h : Al p → q := by intro h; refine n0 rfl (B0a ?_); exact h.1) : q := h ⟨k⟩
theorem Rs (k : p) (h : Al p → q := by intro h; refine q0 rfl (D1o ?_); exact h.1) : q := h ⟨k⟩
theorem Tz (k : p) (h : Al p → q := by intro h; refine nT rfl rfl rfl (B6b ?_); exact h.1) : q := h ⟨k⟩
theorem Ty (k : p) (h : Al p → q := by intro h; refine q0 rfl (C6z ?_); exact h.1) : q := h ⟨k⟩
theorem D0q (k : p) (h : Al p → q := by intro h; refine q0 rfl (D1h ?_); exact h.1) : q := h ⟨k⟩
theorem Zf (k : p) (h : Al p → q := by intro h; refine q0 rfl (B8f ?_); exact h.1) : q := h ⟨k⟩
theorem Ze (k : p) (h : Al p → q := by intro h; refine qT rfl rfl rfl (B8f ?_); exact h.1) : q := h ⟨k⟩
theorem A2d (k : p) (h : Al p → q := by intro h; refine q0 rfl (Yd ?_); exact h.1) : q := h ⟨k⟩
theorem A6z (k : p) (h : Al p → q := by intro h; refine qT rfl rfl rfl (C4y ?_); exact h.1) : q := h ⟨k⟩
theorem A6y (k : p) (h : Al p → q := by intro h; refine qT rfl rfl rfl (A3w ?_); exact h.1) : q := h ⟨k⟩
theorem A6x (k : p) (h : Al p → q := by intro h; refine qT rfl rfl rfl (C4x ?_); exact h.1) : q := h ⟨k⟩
theorem A6w (k : p) (h : Al p → q := by intro h; refine nT rfl rfl rfl (B0a ?_); exact h.1) : q := h ⟨k⟩
theorem A6v (k : p) (h : Al p → q := by intro h; refine nT rfl rfl rfl (B0b ?_); exact h.1) : q := h ⟨k⟩
theorem A6u (k : p) (h : Al p → q := by intro h; refine E1 ?_; exact h.1) : q := h ⟨k⟩
theorem A6t (k : p) (h : Al p → q := by intro h; refine q0 rfl (D1n ?_); exact h.1) : q := h ⟨k⟩
theorem B2m (k : p) (h : Al p → q := by intro h; refine q0 rfl (D1p ?_); exact h.1) : q := h ⟨k⟩
theorem B2l (k : p) (h : Al p → q := by intro h; refine qT rfl rfl rfl (B1b ?_); exact h.1) : q := h ⟨k⟩
theorem B2k (k : p) (h : Al p → q := by intro h; refine nT rfl rfl rfl (Ov ?_); exact h.1) : q := h ⟨k⟩
theorem B2j (k : p) (h : Al p → q := by intro h; refine qT rfl rfl rfl (C4v ?_); exact h.1) : q := h ⟨k⟩
theorem B2i (k : p) (h : Al p → q := by intro h; refine q0 rfl (C7a ?_); exact h.1) : q := h ⟨k⟩
theorem B2h (k : p) (h : Al p → q := by intro h; refine n0 rfl (D0v ?_); exact h.1) : q := h ⟨k⟩
theorem B1 (k : p) (h : Al p → q := by intro h; refine Ft ?_; refine Ih ?_; exact h.1) : q := h ⟨k⟩
theorem Cg (k : p) (h : Al p → q := by intro h; refine zq2 ?_; refine Jv ?_; exact h.1) : q := h ⟨k⟩
theorem Ee (k : p) (h : Al p → q := by intro h; refine B1 ?_; refine Dd ?_; exact h.1) : q := h ⟨k⟩
theorem Kk (k : p) (h : Al p → q := by intro h; refine zq2 ?_; refine Cg ?_; exact h.1) : q := h ⟨k⟩
theorem Ca (k : p) (h : Al p → q := by intro h; refine B1 ?_; refine Cg ?_; exact h.1) : q := h ⟨k⟩
theorem Es (k : p) (h : Al p → q := by intro h; refine Wp ?_; refine Wp ?_; exact h.1) : q := h ⟨k⟩
theorem C5s (k : p) (h : Al p → q := by intro h; refine Dd ?_; refine Jv ?_; exact h.1) : q := h ⟨k⟩
theorem Hd (k : p) (h : Al p → q := by intro h; refine Ft ?_; refine Ee ?_; exact h.1) : q := h ⟨k⟩
theorem Hx (k : p) (h : Al p → q := by intro h; refine zq8 ?_; refine Pk ?_; exact h.1) : q := h ⟨k⟩
theorem J5 (k : p) (h : Al p → q := by intro h; refine H4 ?_; refine Ft ?_; exact h.1) : q := h ⟨k⟩
theorem Zd (k : p) (h : Al p → q := by intro h; refine zq6 ?_; refine zq6 ?_; exact h.1) : q := h ⟨k⟩
theorem A2c (k : p) (h : Al p → q := by intro h; refine Jv ?_; refine Ft ?_; exact h.1) : q := h ⟨k⟩
theorem D9 (k : p) (h : Al p → q := by intro h; refine Ih ?_; refine Dd ?_; exact h.1) : q := h ⟨k⟩
theorem F8 (k : p) (h : Al p → q := by intro h; refine B1 ?_; refine Kk ?_; exact h.1) : q := h ⟨k⟩
theorem Wo (k : p) (h : Al p → q := by intro h; refine J5 ?_; refine Wl ?_; exact h.1) : q := h ⟨k⟩
theorem D0p (k : p) (h : Al p → q := by intro h; refine Ih ?_; refine U0 ?_; refine C5s ?_; exact h.1) : q := h ⟨k⟩
theorem Ik (k : p) (h : Al p → q := by intro h; refine Zd ?_; refine Kk ?_; exact h.1) : q := h ⟨k⟩
theorem Rr (k : p) (h : Al p → q := by intro h; refine Pj ?_; refine D0p ?_; exact h.1) : q := h ⟨k⟩
theorem Tl (k : p) (h : Al p → q := by intro h; refine A7a ?_; refine Cg ?_; exact h.1) : q := h ⟨k⟩
theorem Ds (k : p) (h : Al p → q := by intro h; refine B1 ?_; refine Tm ?_; refine A2c ?_; exact h.1) : q := h ⟨k⟩
theorem A6r (k : p) (h : Al p → q := by intro h; refine C1l ?_; refine Jv ?_; exact h.1) : q := h ⟨k⟩
theorem C5r (k : p) (h : Al p → q := by intro h; refine Hf ?_; refine C5s ?_; exact h.1) : q := h ⟨k⟩
theorem B2g (k : p) (h : Al p → q := by intro h; refine C5r ?_; refine Wl ?_; exact h.1) : q := h ⟨k⟩
theorem Gs (k : p) (h : Al p → q := by intro h; refine zq9 ?_; refine Cg ?_; exact h.1) : q := h ⟨k⟩
theorem Er (k : p) (h : Al p → q := by intro h; refine zq9 ?_; refine Jv ?_; exact h.1) : q := h ⟨k⟩
theorem F7 (k : p) (h : Al p → q := by intro h; refine B1 ?_; refine Tl ?_; exact h.1) : q := h ⟨k⟩
theorem H5 (k : p) (h : Al p → q := by intro h; refine Cg ?_; refine Ft ?_; exact h.1) : q := h ⟨k⟩
theorem Ju (k : p) (h : Al p → q := by intro h; refine B1 ?_; refine Hx ?_; exact h.1) : q := h ⟨k⟩
theorem Fu (k : p) (h : Al p → q := by intro h; refine B1 ?_; refine Fl ?_; exact h.1) : q := h ⟨k⟩
theorem Rq (k : p) (h : Al p → q := by intro h; refine Ee ?_; refine Dd ?_; exact h.1) : q := h ⟨k⟩
theorem Tk (k : p) (h : Al p → q := by intro h; refine B2n ?_; refine Jv ?_; exact h.1) : q := h ⟨k⟩
theorem Mq (k : p) (h : Al p → q := by intro h; refine Wp ?_; refine Na ?_; exact h.1) : q := h ⟨k⟩
theorem Gb (k : p) (h : Al p → q := by intro h; refine A2g ?_; refine n0 rfl (D0t ?_); exact h.1) : q := h ⟨k⟩
theorem Q7 (k : p) (h : Al p → q := by intro h; refine Es ?_; refine Es ?_; exact h.1) : q := h ⟨k⟩
theorem Kj (k : p) (h : Al p → q := by intro h; refine Wq ?_; refine Wq ?_; exact h.1) : q := h ⟨k⟩
theorem Ki (k : p) (h : Al p → q := by intro h; refine Ee ?_; refine Kk ?_; exact h.1) : q := h ⟨k⟩
theorem Rp (k : p) (h : Al p → q := by intro h; refine Hd ?_; refine A6r ?_; exact h.1) : q := h ⟨k⟩
theorem B2f (k : p) (h : Al p → q := by intro h; refine H4 ?_; refine C5t ?_; exact h.1) : q := h ⟨k⟩
theorem Tx (k : p) (h : Al p → q := by intro h; refine Dd ?_; refine Ik ?_; exact h.1) : q := h ⟨k⟩
theorem A2j (k : p) (h : Al p → q := by intro h; refine Hd ?_; refine B2g ?_; exact h.1) : q := h ⟨k⟩
theorem Fk (k : p) (h : Al p → q := by intro h; refine Wo ?_; refine B1 ?_; exact h.1) : q := h ⟨k⟩
theorem Fj (k : p) (h : Al p → q := by intro h; refine B2f ?_; refine Ca ?_; exact h.1) : q := h ⟨k⟩
theorem Mj (k : p) (h : Al p → q := by intro h; refine Cg ?_; refine Rr ?_; exact h.1) : q := h ⟨k⟩
theorem G5 (k : p) (h : Al p → q := by intro h; refine Dd ?_; refine Dd ?_; exact h.1) : q := h ⟨k⟩
theorem G4 (k : p) (h : Al p → q := by intro h; refine C5u ?_; refine Cg ?_; exact h.1) : q := h ⟨k⟩
theorem G3 (k : p) (h : Al p → q := by intro h; refine Wo ?_; refine Ft ?_; exact h.1) : q := h ⟨k⟩
theorem H9 (k : p) (h : Al p → q := by intro h; refine H4 ?_; refine Rr ?_; exact h.1) : q := h ⟨k⟩
theorem H8 (k : p) (h : Al p → q := by intro h; refine C5u ?_; refine Dd ?_; exact h.1) : q := h ⟨k⟩
theorem H7 (k : p) (h : Al p → q := by intro h; refine C5u ?_; refine Jv ?_; exact h.1) : q := h ⟨k⟩
theorem H6 (k : p) (h : Al p → q := by intro h; refine Tx ?_; refine Rp ?_; exact h.1) : q := h ⟨k⟩
theorem U2 (k : p) (h : Al p → q := by intro h; refine zq8 ?_; refine Ou ?_; exact h.1) : q := h ⟨k⟩
theorem I0 (k : p) (h : Al p → q := by intro h; refine Na ?_; refine Cg ?_; exact h.1) : q := h ⟨k⟩
theorem Hz (k : p) (h : Al p → q := by intro h; refine Ih ?_; refine Hx ?_; exact h.1) : q := h ⟨k⟩
theorem Qh (k : p) (h : Al p → q := by intro h; refine Dd ?_; refine Q7 ?_; exact h.1) : q := h ⟨k⟩
theorem Ic (k : p) (h : Al p → q := by intro h; refine Ee ?_; refine Cg ?_; exact h.1) : q := h ⟨k⟩
theorem A2i (k : p) (h : Al p → q := by intro h; refine Cg ?_; refine Ee ?_; exact h.1) : q := h ⟨k⟩
theorem U1 (k : p) (h : Al p → q := by intro h; refine A7a ?_; refine Jv ?_; exact h.1) : q := h ⟨k⟩
theorem J9 (k : p) (h : Al p → q := by intro h; refine Ju ?_; refine B2g ?_; exact h.1) : q := h ⟨k⟩
theorem J8 (k : p) (h : Al p → q := by intro h; refine A2f ?_; refine Jv ?_; exact h.1) : q := h ⟨k⟩
theorem J7 (k : p) (h : Al p → q := by intro h; refine Na ?_; refine Jv ?_; exact h.1) : q := h ⟨k⟩
theorem J6 (k : p) (h : Al p → q := by intro h; refine Mq ?_; refine Jv ?_; exact h.1) : q := h ⟨k⟩
theorem Jy (k : p) (h : Al p → q := by intro h; refine Fg ?_; refine Fg ?_; exact h.1) : q := h ⟨k⟩
theorem A9x (k : p) (h : Al p → q := by intro h; refine Ca ?_; refine Rq ?_; exact h.1) : q := h ⟨k⟩
theorem Ko (k : p) (h : Al p → q := by intro h; refine zq9 ?_; refine A2c ?_; exact h.1) : q := h ⟨k⟩
theorem Kn (k : p) (h : Al p → q := by intro h; refine Ef ?_; refine Ca ?_; exact h.1) : q := h ⟨k⟩
theorem A2h (k : p) (h : Al p → q := by intro h; refine D0s ?_; refine Tk ?_; exact h.1) : q := h ⟨k⟩
theorem Km (k : p) (h : Al p → q := by intro h; refine Dd ?_; refine Gs ?_; exact h.1) : q := h ⟨k⟩
theorem Kl (k : p) (h : Al p → q := by intro h; refine Dd ?_; refine Zd ?_; exact h.1) : q := h ⟨k⟩
theorem Mi (k : p) (h : Al p → q := by intro h; refine Cg ?_; refine B1 ?_; exact h.1) : q := h ⟨k⟩
theorem Mh (k : p) (h : Al p → q := by intro h; refine A2i ?_; refine A6r ?_; exact h.1) : q := h ⟨k⟩
theorem Mg (k : p) (h : Al p → q := by intro h; refine B1 ?_; refine U2 ?_; exact h.1) : q := h ⟨k⟩
theorem N9 (k : p) (h : Al p → q := by intro h; refine Kj ?_; refine Wq ?_; exact h.1) : q := h ⟨k⟩
theorem N8 (k : p) (h : Al p → q := by intro h; refine B5v ?_; refine B5v ?_; exact h.1) : q := h ⟨k⟩
theorem N7 (k : p) (h : Al p → q := by intro h; refine U0 ?_; refine Cg ?_; exact h.1) : q := h ⟨k⟩
theorem N6 (k : p) (h : Al p → q := by intro h; refine Ca ?_; refine A2j ?_; exact h.1) : q := h ⟨k⟩
theorem N5 (k : p) (h : Al p → q := by intro h; refine F8 ?_; refine A2j ?_; exact h.1) : q := h ⟨k⟩
theorem N4 (k : p) (h : Al p → q := by intro h; refine A9x ?_; refine Kk ?_; exact h.1) : q := h ⟨k⟩
theorem N3 (k : p) (h : Al p → q := by intro h; refine H4 ?_; refine D9 ?_; refine Mj ?_; exact h.1) : q := h ⟨k⟩
theorem N2 (k : p) (h : Al p → q := by intro h; refine Ef ?_; refine Ki ?_; exact h.1) : q := h ⟨k⟩
theorem P3 (k : p) (h : Al p → q := by intro h; refine Ee ?_; refine Fl ?_; exact h.1) : q := h ⟨k⟩
theorem P2 (k : p) (h : Al p → q := by intro h; refine Ca ?_; refine Ee ?_; exact h.1) : q := h ⟨k⟩
theorem P1 (k : p) (h : Al p → q := by intro h; refine A2e ?_; refine Tk ?_; exact h.1) : q := h ⟨k⟩
theorem P0 (k : p) (h : Al p → q := by intro h; refine Oz ?_; refine Le ?_; exact h.1) : q := h ⟨k⟩
theorem Qg (k : p) (h : Al p → q := by intro h; refine Hd ?_; refine U1 ?_; exact h.1) : q := h ⟨k⟩
theorem Qf (k : p) (h : Al p → q := by intro h; refine H4 ?_; refine Ef ?_; refine F8 ?_; exact h.1) : q := h ⟨k⟩
theorem Qe (k : p) (h : Al p → q := by intro h; refine D0q ?_; refine Jv ?_; exact h.1) : q := h ⟨k⟩
theorem Qd (k : p) (h : Al p → q := by intro h; refine H5 ?_; refine Ft ?_; exact h.1) : q := h ⟨k⟩
theorem Qc (k : p) (h : Al p → q := by intro h; refine H4 ?_; refine Rq ?_; exact h.1) : q := h ⟨k⟩
theorem Qb (k : p) (h : Al p → q := by intro h; refine Fg ?_; refine D0r ?_; refine D0r ?_; refine D0s ?_; refine A2h ?_; exact h.1) : q := h ⟨k⟩
theorem Qa (k : p) (h : Al p → q := by intro h; refine Qh ?_; refine Es ?_; exact h.1) : q := h ⟨k⟩
end
instance : D0 prog 5 f5 := ⟨func5⟩
instance : D0 prog 15 f15 := ⟨func15⟩
instance : D0 prog 16 f16 := ⟨func16⟩
instance : D0 prog 18 f18 := ⟨func18⟩
instance : D0 prog 20 f20 := ⟨func20⟩
instance : D0 prog 22 f22 := ⟨func22⟩
instance : D0 prog 24 f24 := ⟨func24⟩
instance : D0 prog 25 f25 := ⟨func25⟩
instance : D0 prog 26 f26 := ⟨func26⟩
instance : D0 prog 31 f31 := ⟨func31⟩
instance : D0 prog 39 f39 := ⟨func39⟩
instance : D0 prog 46 f46 := ⟨func46⟩
instance : D0 prog 47 f47 := ⟨func47⟩
instance : D0 prog 48 f48 := ⟨func48⟩
instance : D0 prog 49 f49 := ⟨func49⟩
instance : D0 prog 50 f50 := ⟨func50⟩
instance : D0 prog 51 f51 := ⟨func51⟩
instance : D0 prog 52 f52 := ⟨func52⟩
instance : D0 prog 58 f58 := ⟨func58⟩
instance : D0 prog 59 f59 := ⟨func59⟩
instance : D0 prog 60 f60 := ⟨func60⟩
instance : D0 prog 61 f61 := ⟨func61⟩
instance : D0 prog 62 f62 := ⟨func62⟩
instance : D0 prog 63 f63 := ⟨func63⟩
instance : D0 prog 64 f64 := ⟨func64⟩
instance : D0 prog 65 f65 := ⟨func65⟩
instance : D0 prog 66 f66 := ⟨func66⟩
instance : D0 prog 70 f70 := ⟨func70⟩
instance : D0 prog 72 f72 := ⟨func72⟩
instance : D0 prog 76 f76 := ⟨func76⟩
instance : D0 prog 89 f89 := ⟨func89⟩
instance : D0 prog 91 f91 := ⟨func91⟩
instance : D0 prog 92 f92 := ⟨func92⟩
instance : D0 prog 93 f93 := ⟨func93⟩
instance : D0 prog 94 f94 := ⟨func94⟩
instance : D0 prog 95 f95 := ⟨func95⟩
instance : D0 prog 96 f96 := ⟨func96⟩
instance : D0 prog 103 f103 := ⟨func103⟩
instance : D0 prog 104 f104 := ⟨func104⟩
instance : D0 prog 105 f105 := ⟨func105⟩
instance : D0 prog 106 f106 := ⟨func106⟩
instance : D0 prog 107 f107 := ⟨func107⟩
instance : D0 prog 108 f108 := ⟨func108⟩
instance : D0 prog 109 f109 := ⟨func109⟩
instance : D0 prog 110 f110 := ⟨func110⟩
instance : D0 prog 111 f111 := ⟨func111⟩
instance : D0 prog 112 f112 := ⟨func112⟩
instance : D0 prog 113 f113 := ⟨func113⟩
instance : D0 prog 114 f114 := ⟨func114⟩
instance : D0 prog 115 f115 := ⟨func115⟩
instance : D0 prog 116 f116 := ⟨func116⟩
instance : D0 prog 117 f117 := ⟨func117⟩
instance : D0 prog 118 f118 := ⟨func118⟩
instance : D0 prog 119 f119 := ⟨func119⟩
instance : D0 prog 120 f120 := ⟨func120⟩
instance : D0 prog 121 f121 := ⟨func121⟩
instance : D0 prog 122 f122 := ⟨func122⟩
instance : D0 prog 124 f124 := ⟨func124⟩
instance : D0 prog 139 f139 := ⟨func139⟩
instance : D0 prog 140 f140 := ⟨func140⟩
instance : D0 prog 166 f166 := ⟨func166⟩
instance : D0 prog 167 f167 := ⟨func167⟩
instance : D0 prog 168 f168 := ⟨func168⟩
instance : D0 prog 169 f169 := ⟨func169⟩
instance : D0 prog 172 f172 := ⟨func172⟩
instance : D0 prog 173 f173 := ⟨func173⟩
instance : D0 prog 174 f174 := ⟨func174⟩
instance : D0 prog 175 f175 := ⟨func175⟩
instance : D0 prog 176 f176 := ⟨func176⟩
instance : D0 prog 177 f177 := ⟨func177⟩
instance : D0 prog 186 f186 := ⟨func186⟩
instance : D0 prog 187 f187 := ⟨func187⟩
instance : D0 prog 188 f188 := ⟨func188⟩
instance : D0 prog 189 f189 := ⟨func189⟩
instance : D0 prog 190 f190 := ⟨func190⟩
instance : D0 prog 191 f191 := ⟨func191⟩
instance : D0 prog 192 f192 := ⟨func192⟩
instance : D0 prog 193 f193 := ⟨func193⟩
instance : D0 prog 194 f194 := ⟨func194⟩
instance : D0 prog 195 f195 := ⟨func195⟩
instance : D0 prog 196 f196 := ⟨func196⟩
instance : D0 prog 197 f197 := ⟨func197⟩
instance : D0 prog 198 f198 := ⟨func198⟩
instance : D0 prog 199 f199 := ⟨func199⟩
instance : D0 prog 200 f200 := ⟨func200⟩
instance : D0 prog 203 f203 := ⟨func203⟩
instance : D0 prog 204 f204 := ⟨func204⟩
instance : D0 prog 205 f205 := ⟨func205⟩
instance : D0 prog 231 f231 := ⟨func231⟩
instance : D0 prog 233 f233 := ⟨func233⟩
instance : D0 prog 236 f236 := ⟨func236⟩
instance : D0 prog 237 f237 := ⟨func237⟩
instance : D0 prog 238 f238 := ⟨func238⟩
instance : D0 prog 239 f239 := ⟨func239⟩
instance : D0 prog 240 f240 := ⟨func240⟩
instance : D0 prog 241 f241 := ⟨func241⟩
instance : D0 prog 242 f242 := ⟨func242⟩
instance : D0 prog 243 f243 := ⟨func243⟩
instance : D0 prog 244 f244 := ⟨func244⟩
instance : D0 prog 248 f248 := ⟨func248⟩
instance : D0 prog 249 f249 := ⟨func249⟩
instance : D0 prog 250 f250 := ⟨func250⟩
instance : D0 prog 251 f251 := ⟨func251⟩
instance : D0 prog 255 f255 := ⟨func255⟩
instance : D0 prog 256 f256 := ⟨func256⟩
instance : D0 prog 270 f270 := ⟨func270⟩
instance : D0 prog 271 f271 := ⟨func271⟩
instance : D0 prog 272 f272 := ⟨func272⟩
instance : D0 prog 273 f273 := ⟨func273⟩
instance : D0 prog 274 f274 := ⟨func274⟩
instance : D0 prog 275 f275 := ⟨func275⟩
instance : D0 prog 276 f276 := ⟨func276⟩
instance : D0 prog 277 f277 := ⟨func277⟩
instance : D0 prog 297 f297 := ⟨func297⟩
instance : D0 prog 298 f298 := ⟨func298⟩
set_option maxRecDepth 100000
theorem Ma (k i : Int) : Spec prog 62 #[iv k, iv i] [] [] (fun _ : Unit => .tuple #[iv (binds k i).1, iv (binds k i).2]) (fun _ => []) (fun _ => []) := by
 refine D7 ntmps62 fun B hB => ?_
 refine F8 ?_; refine Hd ?_; refine Jv ?_; refine Wl ?_; refine Ft ?_; refine Wl ?_; refine Ft ?_; refine Wl ?_; refine Wl ?_; refine Wl ?_; refine Ft ?_; refine Wl ?_; refine Ft ?_; refine Ft ?_; refine Ft ?_; refine F7 ?_; refine A1 (fun h7 => ?_) (fun h7 => ?_)
 ·refine B2f ?_; refine Ef ?_; refine Qg ?_; refine A1 (fun h21 => ?_) (fun h21 => ?_)
  ·refine F8 ?_; refine Bg f_ rfl A7 A7 () (by simp_all [binds]) (fun w hs => hs.none)
  ·refine Qf ?_; refine Bg f_ rfl A7 A7 () (by simp_all [binds]) (fun w hs => hs.none)
 ·refine Ih ?_; refine Tl ?_; refine A1 (fun h7 => ?_) (fun h7 => ?_)
  ·refine Ef ?_; refine Qg ?_; refine A1 (fun h21 => ?_) (fun h21 => ?_)
   ·refine F8 ?_; refine Bg f_ rfl A7 A7 () (by simp_all [binds]) (fun w hs => hs.none)
   ·refine Qf ?_; refine Bg f_ rfl A7 A7 () (by simp_all [binds]) (fun w hs => hs.none)
  ·refine J5 ?_; refine F7 ?_; refine A1 (fun h10 => ?_) (fun h10 => ?_)
   ·refine Ef ?_; refine Pj ?_; refine Pj ?_; refine Qg ?_; refine A1 (fun h23 => ?_) (fun h23 => ?_)
    ·refine F8 ?_; refine Bg f_ rfl A7 A7 () (by simp_all [binds]) (fun w hs => hs.none)
    ·refine Qf ?_; refine Bg f_ rfl A7 A7 () (by simp_all [binds]) (fun w hs => hs.none)
   ·refine J5 ?_; refine F7 ?_; refine A1 (fun h12 => ?_) (fun h12 => ?_)
    ·refine Ef ?_; refine Pj ?_; refine Qg ?_; refine A1 (fun h23 => ?_) (fun h23 => ?_)
     ·refine F8 ?_; refine Bg f_ rfl A7 A7 () (by simp_all [binds]) (fun w hs => hs.none)
     ·refine Qf ?_; refine Bg f_ rfl A7 A7 () (by simp_all [binds]) (fun w hs => hs.none)
    ·refine J5 ?_; refine F7 ?_; refine A1 (fun h14 => ?_) (fun h14 => ?_)
     ·refine Ef ?_; refine Qg ?_; refine A1 (fun h23 => ?_) (fun h23 => ?_)
      ·refine F8 ?_; refine Bg f_ rfl A7 A7 () (by simp_all [binds]) (fun w hs => hs.none)
      ·refine Qf ?_; refine Bg f_ rfl A7 A7 () (by simp_all [binds]) (fun w hs => hs.none)
     ·refine J5 ?_; refine F7 ?_; refine A1 (fun h16 => ?_) (fun h16 => ?_)
      ·refine B2f ?_; refine Ef ?_; refine Qg ?_; refine A1 (fun h25 => ?_) (fun h25 => ?_)
       ·refine F8 ?_; refine Bg f_ rfl A7 A7 () (by simp_all [binds]) (fun w hs => hs.none)
       ·refine Qf ?_; refine Bg f_ rfl A7 A7 () (by simp_all [binds]) (fun w hs => hs.none)
      ·refine F7 ?_; refine A1 (fun h16 => ?_) (fun h16 => ?_)
       ·refine B2f ?_; refine Ef ?_; refine Qg ?_; refine A1 (fun h25 => ?_) (fun h25 => ?_)
        ·refine F8 ?_; refine Bg f_ rfl A7 A7 () (by simp_all [binds]) (fun w hs => hs.none)
        ·refine Qf ?_; refine Bg f_ rfl A7 A7 () (by simp_all [binds]) (fun w hs => hs.none)
       ·refine Ih ?_; refine Tl ?_; refine A1 (fun h16 => ?_) (fun h16 => ?_)
        ·refine Ef ?_; refine Qg ?_; refine A1 (fun h25 => ?_) (fun h25 => ?_)
         ·refine F8 ?_; refine Bg f_ rfl A7 A7 () (by simp_all [binds]) (fun w hs => hs.none)
         ·refine Qf ?_; refine Bg f_ rfl A7 A7 () (by simp_all [binds]) (fun w hs => hs.none)
        ·refine Qf ?_; refine Bg f_ rfl A7 A7 () (by simp_all [binds]) (fun w hs => hs.none)
theorem Yy (t : T) (vr vk vs : SH) (c : FuncId) (cap : List Value) (FΓ : List Fact) (SM SF : Nat → List Aw) (β : Nat → Bool)
  (hc : ∀ (args : Array Value) (w : World), (callFunc c args).run prog w = .ok (.enter c args) w)
  (hcl : ∀ m k v d, (parts t)[m]? = some (k, v, d) → (∀ j, j < m → β j = true) → ∀ vr vk vs, Spec prog c (.agg (tc k vr vk vs).toArray :: iv v :: iv d :: cap).toArray (RT k vr vk vs :: FΓ) (SM m) (fun _ : Unit => .bool (β m)) (fun _ => []) (fun _ => if β m then SM (m + 1) else SF m)) :
  Spec prog 106 #[.agg (tc t vr vk vs).toArray, .func (.func c) #[] cap.toArray] (RT t vr vk vs :: FΓ) (SM 0) (fun _ : Unit => .bool (ff β (parts t).length == (parts t).length)) (fun _ => []) (fun _ => if ff β (parts t).length = (parts t).length then SM (parts t).length else SF (ff β (parts t).length)) := by
 refine D7 ntmps106 fun B hB => ?_
 refine go_open (fun hk hn hnm => ?_); refine Av (ts := t.kids) (fun VR VK VS hl1 hA1 => ?_); refine En (bs := t.sys) (fun VF VK2 hl2 hA2 => ?_); have hpl := A0e t; refine B1 ?_; refine q0 rfl (Ax fun b2 => ?_); refine H5 ?_; refine J9 ?_; refine Dl (X := Nat) (fun i => i ≤ t.kids.length ∧ ∀ j, j < i → β j = true) (fun i => [(1, .func (.func c) #[] cap.toArray), (2, pz b2), (15, sl vk t.kids.length), (16, iv (t.kids.length : Int)), (17, iv (i : Int))]) (fun i => TLx t.kids vk VR VK VS :: BLx t.sys vs VF VK2 :: RT t vr vk vs :: FΓ) (fun i => Af b2 (tc t vr vk vs) 26 :: SM i) (fun i => t.kids.length - i) (0) (⟨Nat.zero_le _, fun j hj => by omega⟩) (by exact Dr) ?_ ?_
 ·exact fun w hs => hs.l9
 ·intro i base0 ⟨hi, hβ⟩ next0; refine Ds ?_; refine A1 (fun h18 => ?_) (fun h18 => ?_)
  ·have hlt : i < t.kids.length := by have := of_decide_eq_true h18; omega
   obtain ⟨bk, o, hav⟩ := hA1 A4; refine Wo ?_; refine Ee ?_; refine Ot ?_; refine Oq ?_; refine q0 rfl (B3 fun b6 => ?_); refine zq2 ?_; refine Ko ?_; refine Fi i hlt ?_; refine Ih ?_; have hpk := Hm t i hlt; refine Hx ?_; refine Dd ?_; refine q0 rfl (A0 call62 (Ma t.kind i) (fun x26 => ?_)); refine Tx ?_; refine P3 ?_; refine G5 ?_; refine q0 rfl (C9 hc (hcl i _ _ _ hpk hβ _ _ _) (fun x33 => ?_)); refine J8 ?_; refine A1 (fun h34 => ?_) (fun h34 => ?_)
   ·have hβf : β i = false := by simpa using h34
    refine Ca ?_; have hff := A1a hβf hβ (n := (parts t).length) A4; refine An f_ rfl A7 () (by simp [hff]; omega) (fun w hs => by rw [hff, if_neg A4]; simp only [hβf, Bool.false_eq_true, if_false] at hs; exact (hs.l8).Bv)
   ·refine H9 ?_; have hβt : β i = true := by simpa using h34
    refine A2 (fun w hs => ?_) (next0 (i + 1) _ ⟨hlt, fun j hj => (by rcases Nat.lt_succ_iff_lt_or_eq.mp hj with h | h; exact hβ j h; subst h; exact hβt)⟩ A4 Dr); simp only [hβt, if_true] at hs; exact ((hs.l9).perm List.perm_append_comm).drop
  ·have hge : i = t.kids.length := by have := of_decide_eq_false h18; omega
   refine Kn ?_; refine Ft ?_; refine Ju ?_; refine U1 ?_; refine Bn ([(1, .func (.func c) #[] cap.toArray), (2, pz b2), (9, iv (more t.kind))]) (fun hK => ?_) (fun base => ?_)
   ·refine A1 (fun h38 => ?_) (fun h38 => ?_)
    ·refine Ih ?_; refine Cg ?_; exact hK _ ⟨rfl, rfl, by first | (rw [more, if_pos (of_decide_eq_true h38)]; rfl) | (rw [more, if_neg (of_decide_eq_false h38)]; rfl), trivial⟩
    ·refine H4 ?_; exact hK _ ⟨rfl, rfl, by first | (rw [more, if_pos (of_decide_eq_true h38)]; rfl) | (rw [more, if_neg (of_decide_eq_false h38)]; rfl), trivial⟩
   ·refine Ft ?_; refine J9 ?_; refine Dl (X := Nat) (fun i2 => i2 ≤ t.sys.length ∧ ∀ j, j < t.kids.length + Ba i2 t.sys → β j = true) (fun i2 => [(1, .func (.func c) #[] cap.toArray), (9, iv (more t.kind)), (40, sl vs t.sys.length), (41, iv (t.sys.length : Int)), (42, iv (i2 : Int))]) (fun i2 => BLx t.sys vs VF VK2 :: FΓ) (fun i2 => SM (t.kids.length + Ba i2 t.sys)) (fun i2 => t.sys.length - i2) (0) (⟨Nat.zero_le _, fun j hj => hβ j (by simp [Ba] at hj; omega)⟩) (by exact Dr) ?_ ?_
    ·exact fun w hs => (by simpa [Ba, show i = t.kids.length by omega] using (hs.drop.less (Γ' := BLx t.sys vs VF VK2 :: FΓ) sx_))
    ·intro i2 base1 ⟨hi2, hβ2⟩ next1; refine Ds ?_; refine A1 (fun h43 => ?_) (fun h43 => ?_)
     ·have hlt2 : i2 < t.sys.length := by have := of_decide_eq_true h43; omega
      obtain ⟨bk2, o2, hav2⟩ := hA2 A4; refine Fk ?_; refine Ot ?_; refine B2m ?_; refine q0 rfl (B3 fun b11 => ?_); refine Er ?_; refine J9 ?_; refine Fx i2 A4 ?_; refine Av (ts := (t.sys.getD i2 Bd).kids) (fun VR3 VK3 VS3 hl3 hA3 => ?_); refine Dl (X := Nat) (fun j => j ≤ (t.sys.getD i2 Bd).kids.length ∧ ∀ m, m < t.kids.length + Ba i2 t.sys + j → β m = true) (fun j => [(1, .func (.func c) #[] cap.toArray), (9, iv (more t.kind)), (40, sl vs t.sys.length), (41, iv (t.sys.length : Int)), (42, iv ((i2 : Nat) : Int)), (47, sl (VK2 i2) (t.sys.getD i2 Bd).kids.length), (48, iv ((t.sys.getD i2 Bd).kids.length : Int)), (49, iv (j : Int))]) (fun j => TLx (t.sys.getD i2 Bd).kids (VK2 i2) VR3 VK3 VS3 :: BLx t.sys vs VF VK2 :: FΓ) (fun j => SM (t.kids.length + Ba i2 t.sys + j)) (fun j => (t.sys.getD i2 Bd).kids.length - j) (0) (⟨Nat.zero_le _, hβ2⟩) (by exact Dr) ?_ ?_
      ·exact fun w hs => (hs.l9).drop
      ·intro j base2 ⟨hj, hβ3⟩ next2; refine Ds ?_; refine A1 (fun h50 => ?_) (fun h50 => ?_)
       ·have hlt3 : j < (t.sys.getD i2 Bd).kids.length := by have := of_decide_eq_true h50; omega
        obtain ⟨bk3, o3, hav3⟩ := hA3 A4; have hps := Hl t i2 j hlt2 hlt3; refine Fi j hlt3 ?_; refine Fk ?_; refine Ot ?_; refine Oq ?_; refine q0 rfl (B3 fun b13 => ?_); refine Er ?_; refine P3 ?_; refine Dd ?_; refine q0 rfl (C9 hc (hcl _ _ _ _ hps hβ3 _ _ _) (fun x56 => ?_)); refine J8 ?_; refine A1 (fun h57 => ?_) (fun h57 => ?_)
        ·have hβf : β (t.kids.length + Ba i2 t.sys + j) = false := by simpa using h57
         refine Ca ?_; have hbd := Zm hlt2 hlt3; have hff := A1a hβf hβ3 (n := (parts t).length) A4; refine An f_ rfl A7 () (by simp [hff]; omega) (fun w hs => by rw [hff, if_neg A4]; simp only [hβf, Bool.false_eq_true, if_false] at hs; exact (hs.l8).Bv)
        ·refine H9 ?_; have hβt : β (t.kids.length + Ba i2 t.sys + j) = true := by simpa using h57
         refine A2 (fun w hs => ?_) (next2 (j + 1) _ ⟨hlt3, fun j2 hj2 => (by rcases Nat.lt_succ_iff_lt_or_eq.mp hj2 with h | h; exact hβ3 j2 h; subst h; exact hβt)⟩ A4 Dr); simp only [hβt, if_true] at hs; exact (hs.l9).Bv
       ·have hge3 : j = (t.sys.getD i2 Bd).kids.length := by have := of_decide_eq_false h50; omega
        refine Ef ?_; refine Rr ?_; refine A2 (fun w hs => ?_) (next1 (i2 + 1) _ ⟨hlt2, by rw [Je i2 t.sys hlt2]; rw [hge3] at hβ3; simpa [Nat.add_assoc] using hβ3⟩ A4 Dr); rw [hge3] at hs; simp only [Je i2 t.sys hlt2, ← Nat.add_assoc]; exact hs.l9
     ·refine Kn ?_; have hie : i2 = t.sys.length := by have := of_decide_eq_false h43; omega
      have hff := A1b (β := β) (n := (parts t).length) (by rw [hpl, ← hie]; exact hβ2); refine An f_ rfl A7 () (by simp [hff]) (fun w hs => by rw [hff, if_pos rfl, hpl, ← hie]; exact hs.l8)
theorem B4g (k : Int) : Spec prog 189 #[iv k] [] [] (fun _ : Unit => iv (D6 k)) (fun _ => []) (fun _ => []) := by
 refine D7 ntmps189 fun B hB => ?_
 refine Ca ?_; refine Hd ?_; refine Jv ?_; refine Wl ?_; refine Ft ?_; refine F7 ?_; refine A1 (fun h4 => ?_) (fun h4 => ?_)
 ·refine Fj ?_; refine An f_ rfl A7 () (by simp_all [D6]) (fun w hs => hs.none)
 ·refine F7 ?_; refine A1 (fun h4 => ?_) (fun h4 => ?_)
  ·refine Fj ?_; refine An f_ rfl A7 () (by simp_all [D6]) (fun w hs => hs.none)
  ·refine F7 ?_; refine A1 (fun h4 => ?_) (fun h4 => ?_)
   ·refine Fj ?_; refine An f_ rfl A7 () (by simp_all [D6]) (fun w hs => hs.none)
   ·refine F7 ?_; refine A1 (fun h4 => ?_) (fun h4 => ?_)
    ·refine Fj ?_; refine An f_ rfl A7 () (by simp_all [D6]) (fun w hs => hs.none)
    ·refine F7 ?_; refine A1 (fun h4 => ?_) (fun h4 => ?_)
     ·refine Fj ?_; refine An f_ rfl A7 () (by simp_all [D6]) (fun w hs => hs.none)
     ·refine F7 ?_; refine A1 (fun h4 => ?_) (fun h4 => ?_)
      ·refine Fj ?_; refine An f_ rfl A7 () (by simp_all [D6]) (fun w hs => hs.none)
      ·refine F7 ?_; refine A1 (fun h4 => ?_) (fun h4 => ?_)
       ·refine Fj ?_; refine An f_ rfl A7 () (by simp_all [D6]) (fun w hs => hs.none)
       ·refine Ih ?_; refine Tl ?_; refine A1 (fun h4 => ?_) (fun h4 => ?_)
        ·refine Ca ?_; refine An f_ rfl A7 () (by simp_all [D6]) (fun w hs => hs.none)
        ·refine Ft ?_; refine F7 ?_; refine A1 (fun h13 => ?_) (fun h13 => ?_)
         ·refine Fj ?_; refine An f_ rfl A7 () (by simp_all [D6]) (fun w hs => hs.none)
         ·refine F7 ?_; refine A1 (fun h13 => ?_) (fun h13 => ?_)
          ·refine Fj ?_; refine An f_ rfl A7 () (by simp_all [D6]) (fun w hs => hs.none)
          ·refine F7 ?_; refine A1 (fun h13 => ?_) (fun h13 => ?_)
           ·refine Fj ?_; refine An f_ rfl A7 () (by simp_all [D6]) (fun w hs => hs.none)
           ·refine F7 ?_; refine A1 (fun h13 => ?_) (fun h13 => ?_)
            ·refine Fj ?_; refine An f_ rfl A7 () (by simp_all [D6]) (fun w hs => hs.none)
            ·refine F7 ?_; refine A1 (fun h13 => ?_) (fun h13 => ?_)
             ·refine Fj ?_; refine An f_ rfl A7 () (by simp_all [D6]) (fun w hs => hs.none)
             ·refine F7 ?_; refine A1 (fun h13 => ?_) (fun h13 => ?_)
              ·refine Fj ?_; refine An f_ rfl A7 () (by simp_all [D6]) (fun w hs => hs.none)
              ·refine F7 ?_; refine A1 (fun h13 => ?_) (fun h13 => ?_)
               ·refine Fj ?_; refine An f_ rfl A7 () (by simp_all [D6]) (fun w hs => hs.none)
               ·refine F7 ?_; refine A1 (fun h13 => ?_) (fun h13 => ?_)
                ·refine Fj ?_; refine An f_ rfl A7 () (by simp_all [D6]) (fun w hs => hs.none)
                ·refine Ih ?_; refine Tl ?_; refine A1 (fun h13 => ?_) (fun h13 => ?_)
                 ·refine Ca ?_; refine An f_ rfl A7 () (by simp_all [D6]) (fun w hs => hs.none)
                 ·refine Ft ?_; refine F7 ?_; refine A1 (fun h23 => ?_) (fun h23 => ?_)
                  ·refine Fj ?_; refine An f_ rfl A7 () (by simp_all [D6]) (fun w hs => hs.none)
                  ·refine F7 ?_; refine A1 (fun h23 => ?_) (fun h23 => ?_)
                   ·refine Fj ?_; refine An f_ rfl A7 () (by simp_all [D6]) (fun w hs => hs.none)
                   ·refine F7 ?_; refine A1 (fun h23 => ?_) (fun h23 => ?_)
                    ·refine Fj ?_; refine An f_ rfl A7 () (by simp_all [D6]) (fun w hs => hs.none)
                    ·refine F7 ?_; refine A1 (fun h23 => ?_) (fun h23 => ?_)
                     ·refine Fj ?_; refine An f_ rfl A7 () (by simp_all [D6]) (fun w hs => hs.none)
                     ·refine F7 ?_; refine A1 (fun h23 => ?_) (fun h23 => ?_)
                      ·refine Fj ?_; refine An f_ rfl A7 () (by simp_all [D6]) (fun w hs => hs.none)
                      ·refine F7 ?_; refine A1 (fun h23 => ?_) (fun h23 => ?_)
                       ·refine Fj ?_; refine An f_ rfl A7 () (by simp_all [D6]) (fun w hs => hs.none)
                       ·refine Ih ?_; refine Tl ?_; refine A1 (fun h23 => ?_) (fun h23 => ?_)
                        ·refine Ca ?_; refine An f_ rfl A7 () (by simp_all [D6]) (fun w hs => hs.none)
                        ·refine Ft ?_; refine F7 ?_; refine A1 (fun h31 => ?_) (fun h31 => ?_)
                         ·refine Fj ?_; refine An f_ rfl A7 () (by simp_all [D6]) (fun w hs => hs.none)
                         ·refine Ih ?_; refine Tl ?_; refine A1 (fun h31 => ?_) (fun h31 => ?_)
                          ·refine Ca ?_; refine An f_ rfl A7 () (by simp_all [D6]) (fun w hs => hs.none)
                          ·refine F7 ?_; refine A1 (fun h34 => ?_) (fun h34 => ?_)
                           ·refine Ca ?_; refine An f_ rfl A7 () (by simp_all [D6]) (fun w hs => hs.none)
                           ·refine F7 ?_; refine A1 (fun h36 => ?_) (fun h36 => ?_)
                            ·refine Ca ?_; refine An f_ rfl A7 () (by simp_all [D6]) (fun w hs => hs.none)
                            ·refine H4 ?_; refine Pj ?_; refine Ca ?_; refine An f_ rfl A7 () (by simp_all [D6]) (fun w hs => hs.none)
theorem Jh (k : Int) : Spec prog 190 #[iv k] [] [] (fun _ : Unit => iv (Dj k)) (fun _ => []) (fun _ => []) := by
 refine D7 ntmps190 fun B hB => ?_
 refine Ca ?_; refine Hd ?_; refine Jv ?_; refine Wl ?_; refine Ft ?_; refine F7 ?_; refine A1 (fun h4 => ?_) (fun h4 => ?_)
 ·refine Fj ?_; refine An f_ rfl A7 () (by simp_all [Dj]) (fun w hs => hs.none)
 ·refine F7 ?_; refine A1 (fun h4 => ?_) (fun h4 => ?_)
  ·refine Fj ?_; refine An f_ rfl A7 () (by simp_all [Dj]) (fun w hs => hs.none)
  ·refine Ih ?_; refine Tl ?_; refine A1 (fun h4 => ?_) (fun h4 => ?_)
   ·refine Ca ?_; refine An f_ rfl A7 () (by simp_all [Dj]) (fun w hs => hs.none)
   ·refine F7 ?_; refine A1 (fun h8 => ?_) (fun h8 => ?_)
    ·refine Ca ?_; refine An f_ rfl A7 () (by simp_all [Dj]) (fun w hs => hs.none)
    ·refine H4 ?_; refine Pj ?_; refine Ca ?_; refine An f_ rfl A7 () (by simp_all [Dj]) (fun w hs => hs.none)
theorem Yz (t : T) (vr vk vs : SH) (c : FuncId) (cap : List Value) (FΓ : List Fact) (M : List Aw) (g : Part → Bool)
  (hc : ∀ (args : Array Value) (w : World), (callFunc c args).run prog w = .ok (.enter c args) w)
  (hcl : ∀ k v d, (k, v, d) ∈ parts t → ∀ vr vk vs, Spec prog c (.agg (tc k vr vk vs).toArray :: iv v :: iv d :: cap).toArray (RT k vr vk vs :: FΓ) M (fun _ : Unit => .bool (g (k, v, d))) (fun _ => []) (fun _ => M)) :
  Spec prog 106 #[.agg (tc t vr vk vs).toArray, .func (.func c) #[] cap.toArray] (RT t vr vk vs :: FΓ) M (fun _ : Unit => .bool ((parts t).all g)) (fun _ => []) (fun _ => M) := by
 have h := Yy t vr vk vs c cap FΓ (fun _ => M) (fun _ => M) (A1o t g) hc (fun m k v d hm _ vr vk vs => by simpa [O0 hm] using hcl k v d (Iu hm) vr vk vs); rw [B9v] at h; simpa using h
abbrev Ss (t : T) : Prop := ∀ (left : Int) vr vk vs, Ap left → Spec prog 103 #[.agg (tc t vr vk vs).toArray, iv left] [RT t vr vk vs] [] (fun _ : Unit => .bool (decide ((depth t : Int) ≤ left))) (fun _ => []) (fun _ => [])
theorem Wt (k : T) (vr vk vs : SH) (b : Nat) (left v d : Int) (h0 : 0 < left) (hl : Ap left) (ih : Ss k) : Spec prog 186 #[.agg (tc k vr vk vs).toArray, iv v, iv d, pz b] [RT k vr vk vs] [Af b [iv left] 3] (fun _ : Unit => .bool (decide ((depth k : Int) ≤ left - 1))) (fun _ => []) (fun _ => [Af b [iv left] 3]) := by
 refine D7 ntmps186 fun B hB => ?_
 refine B1 ?_; refine q0 rfl (Ax fun b4 => ?_); refine Cg ?_; refine Fu ?_; refine Pk ?_; refine q0 rfl (A3r ?_); refine q0 rfl (A0 call103 (ih (left - 1) vr vk vs (by unfold Ap at *; omega)) (fun x11 => ?_)); refine Cg ?_; refine An f_ rfl A7 () rfl (fun w hs => (hs.l8).drop)
theorem Zs (t : T) (ih : ∀ p, p ∈ parts t → Ss p.1) (left : Int) (vr vk vs : SH) (hl : Ap left) : Spec prog 103 #[.agg (tc t vr vk vs).toArray, iv left] [RT t vr vk vs] [] (fun _ : Unit => .bool (decide ((depth t : Int) ≤ left))) (fun _ => []) (fun _ => []) := by
 refine D7 ntmps103 fun B hB => ?_
 refine B1 ?_; refine q0 rfl (Ax fun b2 => ?_); refine q0 rfl (Ax fun b3 => ?_); refine Mi ?_; refine Pk ?_; refine Zf ?_; refine Dd ?_; refine qI rfl rfl rfl Jb (fun hg7 => Mm ?_) (fun hg7 => ?_)
 ·refine qT rfl rfl rfl (A8e ?_); have h0 : 0 < left := of_decide_eq_true hg7; have hE := Yz t vr vk vs 186 [pz b3] [] [Af b3 [iv left] 3] (fun p => decide ((depth p.1 : Int) ≤ left - 1)) call186 (fun k v d hm vr vk vs => Wt k vr vk vs b3 left v d h0 hl (ih _ hm)); rw [← B5f t left h0] at hE; refine qT rfl rfl rfl (A0 call106 (hE) (fun x10 => ?_)); refine I0 ?_; refine An f_ rfl A7 () rfl (fun w hs => hs.none)
 ·refine Es ?_; refine G4 ?_; have h0 : ¬ 0 < left := of_decide_eq_false hg7; have hp := Z1 t; refine An f_ rfl A7 () (by rw [decide_eq_false A4]) (fun w hs => hs.none)
theorem Zt : ∀ t : T, Ss t := T.ind fun t ih left vr vk vs hl => Zs t ih left vr vk vs hl
def leftOf (t : T) (m : Int) : Int := if (size t : Int) ≤ m then m - size t else -1
abbrev Wk (b bc : Nat) : List Value := [pz b, pz bc]
abbrev G2 (b bc : Nat) (m : Int) : List Aw := [Af b [iv m] 3, Af bc [.func (.func 187) #[] (Wk b bc).toArray] 30]
abbrev Tw (t : T) : Prop := ∀ (m : Int) b bc vr vk vs, 0 ≤ m → Ap m → Spec prog 187 #[.agg (tc t vr vk vs).toArray, pz b, pz bc] [RT t vr vk vs] (G2 b bc m) (fun _ : Unit => .bool (decide ((size t : Int) ≤ m))) (fun _ => []) (fun _ => G2 b bc (leftOf t m))
theorem Zp (k : T) (vr vk vs : SH) (b bc : Nat) (m v d : Int) (h0 : 0 ≤ m) (hl : Ap m) (ih : Tw k) : Spec prog 188 #[.agg (tc k vr vk vs).toArray, iv v, iv d, pz bc] [RT k vr vk vs] (G2 b bc m) (fun _ : Unit => .bool (decide ((size k : Int) ≤ m))) (fun _ => []) (fun _ => G2 b bc (leftOf k m)) := by
 refine D7 ntmps188 fun B hB => ?_
 refine B1 ?_; refine q0 rfl (Ax fun b4 => ?_); refine Mi ?_; refine Pk ?_; refine Fl ?_; refine q0 rfl (C9 call187 (ih m b bc vr vk vs h0 hl) (cap := Wk b bc) (fun x10 => ?_)); refine Cg ?_; refine An f_ rfl A7 () rfl (fun w hs => (hs.l8).Bv (A := G2 b bc (leftOf k m)))
theorem A9i (t : T) (ih : ∀ p, p ∈ parts t → Tw p.1) (m : Int) (b bc : Nat) (vr vk vs : SH) (h0 : 0 < m) (hl : Ap m) :
  Spec prog 106 #[.agg (tc t vr vk vs).toArray, .func (.func 188) #[] #[pz bc]] [RT t vr vk vs] (G2 b bc (m - 1)) (fun _ : Unit => .bool (decide ((size t : Int) ≤ m))) (fun _ => []) (fun _ => G2 b bc (leftOf t m)) := by
 have h := Yy t vr vk vs 188 [pz bc] [] (fun j => G2 b bc (if (Bp t j : Int) ≤ m then m - Bp t j else -1)) (fun _ => G2 b bc (-1)) (fun j => decide ((Bp t (j + 1) : Int) ≤ m)) call188 ?_
 ·have hall : (ff (fun j => decide ((Bp t (j + 1) : Int) ≤ m)) (parts t).length == (parts t).length) = decide ((size t : Int) ≤ m) := by
   rw [Bool.eq_iff_iff, beq_iff_eq, Si, decide_eq_true_iff]; constructor
   ·intro h; cases hn : (parts t).length with
    | zero => have := Il t; rw [hn, Kb] at this; omega
    | succ n =>
     have := h n A4; rw [← hn, Il] at this; exact of_decide_eq_true this
   ·intro h j hj; have := Nd t (j + 1); exact decide_eq_true A4
  simp only [hall, Kb, Il, beq_iff_eq] at h; rw [if_pos A4] at h; by_cases hs : (size t : Int) ≤ m
  ·have e : ff (fun j => decide ((Bp t (j + 1) : Int) ≤ m)) (parts t).length = (parts t).length := by rw [← beq_iff_eq, hall]; exact decide_eq_true hs
   simp only [e, if_true, if_pos hs] at h; unfold leftOf; rw [if_pos hs]; exact h
  ·have e : ¬ ff (fun j => decide ((Bp t (j + 1) : Int) ≤ m)) (parts t).length = (parts t).length := by rw [← beq_iff_eq, hall]; simpa using hs
   simp only [if_neg e] at h; unfold leftOf; rw [if_neg hs]; exact h
 ·intro j k v d hm hβ vr vk vs; have hs := Kc hm; simp only at hs; have hp := size_pos k
  have hj : (Bp t j : Int) ≤ m := by
   cases j with
   | zero => rw [Kb]; omega
   | succ j => exact of_decide_eq_true (hβ j A4)
  have := Zp k vr vk vs b bc (m - Bp t j) v d A4 (by unfold Ap at *; omega) (ih _ (Iu hm)); rw [if_pos hj]; have e1 : decide ((size k : Int) ≤ m - Bp t j) = decide ((Bp t (j + 1) : Int) ≤ m) := by rw [hs]; congr 1; apply propext; omega
  rw [e1] at this
  have e2 : G2 b bc (leftOf k (m - Bp t j)) = if decide ((Bp t (j + 1) : Int) ≤ m) = true then G2 b bc (if (Bp t (j + 1) : Int) ≤ m then m - Bp t (j + 1) else -1) else G2 b bc (-1) := by
   unfold leftOf; by_cases hk : (Bp t (j + 1) : Int) ≤ m
   ·rw [if_pos A4, if_pos (decide_eq_true hk), if_pos hk, hs]; congr 1; omega
   ·rw [if_neg A4, if_neg (by simpa using hk)]
  rw [e2] at this; exact this
theorem A2q (t : T) (ih : ∀ p, p ∈ parts t → Tw p.1) (m : Int) (b bc : Nat) (vr vk vs : SH) (h0 : 0 ≤ m) (hl : Ap m) : Spec prog 187 #[.agg (tc t vr vk vs).toArray, pz b, pz bc] [RT t vr vk vs] (G2 b bc m) (fun _ : Unit => .bool (decide ((size t : Int) ≤ m))) (fun _ => []) (fun _ => G2 b bc (leftOf t m)) := by
 refine D7 ntmps187 fun B hB => ?_
 refine B1 ?_; refine q0 rfl (Ax fun b3 => ?_); refine Mi ?_; refine Pk ?_; refine q0 rfl (A3r ?_); refine Qe ?_; refine B1 ?_; refine Pk ?_; refine A2d ?_; refine Dd ?_; refine qI rfl rfl rfl Jb (fun hg9 => Mm ?_) (fun hg9 => ?_)
 ·refine qT rfl rfl rfl (A8e ?_); have h1 : 0 ≤ m - 1 := of_decide_eq_true hg9; have hE := A9i t ih m b bc vr vk vs A4 hl; refine qT rfl rfl rfl (A0 call106 (hE) (fun x12 => ?_) (hm := (List.Perm.swap _ _ _).cons _)); refine I0 ?_; refine An f_ rfl A7 () rfl (fun w hs => (hs.l8).Bv (A := G2 b bc (leftOf t m)))
 ·refine Es ?_; refine G4 ?_; have h1 : ¬ 0 ≤ m - 1 := of_decide_eq_false hg9; have hp := size_pos t; refine An f_ rfl A7 () (by rw [decide_eq_false A4]) (fun w hs => by rw [leftOf, if_neg A4, show (-1 : Int) = m - 1 by omega]; exact ((hs.l7).perm ((List.Perm.swap _ _ _).cons _)).Bv (A := G2 b bc (m - 1)))
theorem A9h : ∀ t : T, Tw t := T.ind fun t ih m b bc vr vk vs h0 hl => A2q t ih m b bc vr vk vs h0 hl
def C1e : Prop := ∀ (l : List Cl) (a : SH), Spec prog 63 #[sl a l.length] [CL l a] [] (fun _ : Unit => .bool (Ab l)) (fun _ => []) (fun _ => [])
def Zb : Prop := ∀ (l : List Cl) (a : SH), Spec prog 193 #[sl a l.length] [CL l a] [] (fun _ : Unit => .bool (A8 l)) (fun _ => []) (fun _ => [])
def C1f : Prop := ∀ (l : List Cl) (a : SH), Spec prog 64 #[sl a l.length] [CL l a] [] (fun _ : Unit => .int .u32 (F1 l : Int)) (fun _ => []) (fun _ => [])
def A9v : Prop := C1e ∧ Zb ∧ C1f
theorem A7f (t : T) (vr vk vs : SH) (Ch : Int) (h0 : 0 ≤ Ch) (hl : Ap Ch) : Spec prog 104 #[.agg (tc t vr vk vs).toArray, iv Ch] [RT t vr vk vs] [] (fun _ : Unit => .bool (decide ((size t : Int) ≤ Ch))) (fun _ => []) (fun _ => []) := by
 refine D7 ntmps104 fun B hB => ?_
 refine B1 ?_; refine q0 rfl (Ax fun b2 => ?_); refine q0 rfl (Ax fun b3 => ?_); refine Mi ?_; refine q0 rfl (B3 fun b5 => ?_); refine Jv ?_; refine B1 ?_; refine N1 ?_; refine Er ?_; refine B1 ?_; refine Pk ?_; refine Fl ?_; refine q0 rfl (C9 call187 (A9h t Ch b3 b5 vr vk vs h0 hl) (cap := Wk b3 b5) (fun x9 => ?_)); refine Cg ?_; refine An f_ rfl A7 () rfl (fun w hs => hs.none)
theorem Uh (t : T) (vr vk vs : SH) : Spec prog 59 #[.agg (tc t vr vk vs).toArray] [RT t vr vk vs] [] (fun _ : Unit => iv (sized t)) (fun _ => []) (fun _ => []) := by
 refine D7 ntmps59 fun B hB => ?_
 refine B1 ?_; refine q0 rfl (Ax fun b1 => ?_); refine H5 ?_; refine Wl ?_; refine Fu ?_; refine q0 rfl (A0 call103 (Zt t 200 vr vk vs (by unfold Ap; omega)) (fun x5 => ?_)); refine A2f ?_; refine Cg ?_; refine A1 (fun h3 => ?_) (fun h3 => ?_)
 ·refine Ca ?_; have h : 200 < depth t := by simp at h3; omega
  refine An f_ rfl A7 () (by rw [sized, if_pos h]) (fun w hs => hs.none)
 ·refine Fu ?_; refine q0 rfl (A0 call104 (A7f t vr vk vs 20000 A4 (by unfold Ap; omega)) (fun x9 => ?_)); refine A2f ?_; refine Cg ?_; refine A1 (fun h7 => ?_) (fun h7 => ?_)
  ·refine Ca ?_; have h : ¬ 200 < depth t := by simp at h3; omega
   have h2 : 20000 < size t := by simp at h7; omega
   refine An f_ rfl A7 () (by rw [sized, if_neg h, if_pos h2]) (fun w hs => hs.none)
  ·refine H4 ?_; refine Pj ?_; refine Ca ?_; have h : ¬ 200 < depth t := by simp at h3; omega
   have h2 : ¬ 20000 < size t := by simp at h7; omega
   refine An f_ rfl A7 () (by rw [sized, if_neg h, if_neg h2]) (fun w hs => hs.none)
theorem B3w (s : ByteArray) (hs : s.size ≤ G9) : Spec prog 191 #[.string s] [] [] (fun _ : Unit => .bool (Kd s)) (fun _ => []) (fun _ => []) := by
 refine D7 ntmps191 fun B hB => ?_
 refine Ca ?_; refine Hd ?_; refine q0 rfl (Uz ?_); refine C5s ?_; refine Wl ?_; refine Dl (X := Nat) (fun i => i ≤ s.size ∧ ∀ j, j < i → Wy s j = true) (fun i => [(0, .string s), (7, iv (s.size : Int)), (8, iv (i : Int))]) (fun i => []) (fun i => []) (fun i => s.size - i) (0) (⟨Nat.zero_le _, fun j hj => by omega⟩) (by exact Dr) ?_ ?_
 ·exact fun w hs => hs.none
 ·intro i base0 ⟨hi, hok⟩ next0; refine Ds ?_; refine A1 (fun h9 => ?_) (fun h9 => ?_)
  ·have hlt : i < s.size := by have := of_decide_eq_true h9; omega
   obtain ⟨c, hc, hca⟩ := C4a hlt; refine Wo ?_; refine Ic ?_; refine Rq ?_; refine q0 rfl (C2s ?_); refine H5 ?_; refine Bn ([(0, .string s), (3, iv (i : Int)), (4, .int .u8 c.toNat), (5, .bool (Fq c.toNat)), (7, iv (s.size : Int)), (8, iv (i : Int))]) (fun hK => ?_) (fun base => ?_)
   ·refine D9 ?_; refine A2d ?_; refine Dd ?_; refine qI rfl rfl rfl Jb (fun hg16 => E1 ?_) (fun hg16 => ?_)
    ·refine A6z ?_; refine Na ?_; refine Dd ?_; refine qI rfl rfl rfl Jb (fun hg20 => E1 ?_) (fun hg20 => ?_)
     ·refine qT rfl rfl rfl (Yd ?_); refine He ?_; refine qI rfl rfl rfl Jb (fun hg23 => E1 ?_) (fun hg23 => ?_)
      ·refine A6z ?_; refine B2l ?_; refine H8 ?_; refine qI rfl rfl rfl Jb (fun hg28 => E1 ?_) (fun hg28 => ?_)
       ·refine A6y ?_; refine G4 ?_; exact hK _ ⟨rfl, rfl, rfl, (by (conv => lhs; whnf); first | (simp_all [Fq]; done) | (simp_all [Fq]; omega)), rfl, rfl, trivial⟩
       ·refine Mq ?_; refine Cg ?_; exact hK _ ⟨rfl, rfl, rfl, (by (conv => lhs; whnf); first | (simp_all [Fq]; done) | (simp_all [Fq]; omega)), rfl, rfl, trivial⟩
      ·refine Wp ?_; refine qT rfl rfl rfl (Of ?_); refine H8 ?_; refine He ?_; refine A6y ?_; refine G4 ?_; exact hK _ ⟨rfl, rfl, rfl, (by (conv => lhs; whnf); first | (simp_all [Fq]; done) | (simp_all [Fq]; omega)), rfl, rfl, trivial⟩
     ·refine Es ?_; refine Q9 ?_; refine Q9 ?_; refine Mq ?_; refine Dd ?_; refine Es ?_; refine I0 ?_; exact hK _ ⟨rfl, rfl, rfl, (by (conv => lhs; whnf); first | (simp_all [Fq]; done) | (simp_all [Fq]; omega)), rfl, rfl, trivial⟩
    ·refine Wp ?_; refine H8 ?_; refine He ?_; refine qT rfl rfl rfl (Yd ?_); refine He ?_; refine qI rfl rfl rfl Jb (fun hg23 => E1 ?_) (fun hg23 => ?_)
     ·refine A6z ?_; refine B2l ?_; refine H8 ?_; refine qI rfl rfl rfl Jb (fun hg28 => E1 ?_) (fun hg28 => ?_)
      ·refine A6y ?_; refine G4 ?_; exact hK _ ⟨rfl, rfl, rfl, (by (conv => lhs; whnf); first | (simp_all [Fq]; done) | (simp_all [Fq]; omega)), rfl, rfl, trivial⟩
      ·refine Mq ?_; refine Cg ?_; exact hK _ ⟨rfl, rfl, rfl, (by (conv => lhs; whnf); first | (simp_all [Fq]; done) | (simp_all [Fq]; omega)), rfl, rfl, trivial⟩
     ·refine Wp ?_; refine qT rfl rfl rfl (Of ?_); refine H8 ?_; refine He ?_; refine A6y ?_; refine G4 ?_; exact hK _ ⟨rfl, rfl, rfl, (by (conv => lhs; whnf); first | (simp_all [Fq]; done) | (simp_all [Fq]; omega)), rfl, rfl, trivial⟩
   ·refine Ft ?_; refine Bn ([(0, .string s), (7, iv (s.size : Int)), (8, iv (i : Int)), (45, .bool (!(Wy s i)))]) (fun hK => ?_) (fun base => ?_)
    ·refine D9 ?_; refine A2f ?_; refine Dd ?_; refine qI rfl rfl rfl Jb (fun hg34 => E1 ?_) (fun hg34 => ?_)
     ·refine A6y ?_; refine He ?_; refine qI rfl rfl rfl Jb (fun hg37 => E1 ?_) (fun hg37 => ?_)
      ·refine A6x ?_; refine qT rfl rfl rfl (Of ?_); refine He ?_; refine qI rfl rfl rfl Jb (fun hg41 => E1 ?_) (fun hg41 => ?_)
       ·refine Ze ?_; refine qT rfl rfl rfl (Of ?_); refine J7 ?_; exact hK _ ⟨rfl, rfl, rfl, (by (conv => lhs; whnf); rw [hca]; first | (simp_all [digit]; done) | (simp_all [digit]; omega) | (simp_all [digit]; rw [← decide_not]; congr 1; apply propext; omega)), trivial⟩
       ·refine Wp ?_; refine B2l ?_; refine J7 ?_; exact hK _ ⟨rfl, rfl, rfl, (by (conv => lhs; whnf); rw [hca]; first | (simp_all [digit]; done) | (simp_all [digit]; omega) | (simp_all [digit]; rw [← decide_not]; congr 1; apply propext; omega)), trivial⟩
      ·refine Wp ?_; refine B2l ?_; refine He ?_; refine Es ?_; refine B2l ?_; refine J7 ?_; exact hK _ ⟨rfl, rfl, rfl, (by (conv => lhs; whnf); rw [hca]; first | (simp_all [digit]; done) | (simp_all [digit]; omega) | (simp_all [digit]; rw [← decide_not]; congr 1; apply propext; omega)), trivial⟩
     ·refine Es ?_; refine Q9 ?_; refine Q9 ?_; refine Es ?_; refine Q9 ?_; refine Q9 ?_; refine Wp ?_; refine H7 ?_; exact hK _ ⟨rfl, rfl, rfl, (by (conv => lhs; whnf); rw [hca]; first | (simp_all [digit]; done) | (simp_all [digit]; omega) | (simp_all [digit]; rw [← decide_not]; congr 1; apply propext; omega)), trivial⟩
    ·refine A1 (fun h45 => ?_) (fun h45 => ?_)
     ·refine Ca ?_; refine An f_ rfl A7 () (by rw [A8h hlt (by simpa using h45)]) (fun w hs => hs.none)
     ·refine H9 ?_; have hb : Wy s i = true := by simpa using h45
      refine A2 (fun w hs => hs) (next0 (i + 1) _ ⟨hlt, fun j hj => (by rcases Nat.lt_succ_iff_lt_or_eq.mp hj with h | h; exact hok j h; subst h; exact hb)⟩ A4 Dr)
  ·have hge : i = s.size := by have := of_decide_eq_false h9; omega
   refine Ef ?_; refine Ee ?_; refine q0 rfl (C4w ?_); refine Cg ?_; refine An f_ rfl A7 () (by rw [A8i (by rw [← hge]; exact hok), empty_eq]; rfl) (fun w hs => hs.none)
theorem I1 (hF : C1f) (l : List Cl) (a : SH) (dims : Int) (h0 : 0 ≤ dims) (hl : Ap dims) : Spec prog 192 #[sl a l.length, iv dims] [CL l a] [] (fun _ : Unit => .bool (within l dims)) (fun _ => []) (fun _ => []) := by
 refine D7 ntmps192 fun B hB => ?_
 refine P2 ?_; refine A2d ?_; refine Dd ?_; refine qI rfl rfl rfl Jb (fun hg7 => E1 ?_) (fun hg7 => ?_)
 ·refine qT rfl rfl rfl (A0 call64 (hF l a) (fun x9 => ?_)); refine He ?_; refine qT rfl rfl rfl (C7c ?_); refine qT rfl rfl rfl (A3s ?_ (m := dims.toNat) (hy := congrArg (Value.int .u64) (B2s h0 hl))); refine A6y ?_; refine G4 ?_; refine An f_ rfl A7 () (by first | (simp_all [within]; done) | (simp_all [within]; intros; omega)) (fun w hs => hs.none)
 ·refine Q7 ?_; refine Mq ?_; refine Cg ?_; refine An f_ rfl A7 () (by first | (simp_all [within]; done) | (simp_all [within]; intros; omega)) (fun w hs => hs.none)
theorem A3f (t : T) (hf : Ng t = true ∨ A9v) (vr vk vs : SH) (vars dims : Int) (hd : 0 ≤ dims) (hl : Ap dims) : Spec prog 105 #[.agg (tc t vr vk vs).toArray, iv vars, iv dims] [RT t vr vk vs] [] (fun _ : Unit => .bool (Gx t vars dims)) (fun _ => []) (fun _ => []) := by
 refine D7 ntmps105 fun B hB => ?_
 refine go_open (fun hk hn hnm => ?_); refine Av (ts := t.kids) (fun VR VK VS hl1 hA1 => ?_); refine En (bs := t.sys) (fun VF VK2 hl2 hA2 => ?_); refine B1 ?_; refine q0 rfl (Ax fun b3 => ?_); refine Qd ?_; refine Bn ([(1, iv vars), (2, iv dims), (3, pz b3), (47, .bool (Gq t))]) (fun hK => ?_) (fun base => ?_)
 ·refine Cc (pn := 1000000) (tn := false) (A := [0, 1, 3, 0, 8, 24, 63, 127, 255, 511, 1023, 2047, 4095, 8191, 16383, 32767, 65535, 131071, 262143, 524287, 1048575, 2097151, 4194303, 8388607, 16777215, 33554431, 67108863, 134217727, 268435455, 536870911, 1073741823, 2147483647, 4294967295, 8589934591, 17179869183, 34359738367, 68719476735, 137438953471, 274877906943]) (l := [0, 1, 3, 4, 5, 2, 6, 7, 8, 9, 10, 11, 12, 13, 14, 15, 16, 17, 18, 19, 20, 21, 22, 23, 24, 25, 26, 27, 28, 29, 30, 31, 32, 33, 34, 35, 36, 37, 38]) (fin := []) Tab.mixed ⟨_, func105⟩ (by rfl) ?_; refine Gb ?_; refine Gb ?_; refine n0 rfl (Xj ?_); refine n0 rfl (Bo call189 (B4g t.kind) (fun x11 => ?_)); refine n0 rfl (Xi ?_); refine Fg ?_; refine nI rfl rfl rfl Jb (fun hg16 => Ov ?_) (fun hg16 => ?_)
  ·refine Mr ?_; refine nT rfl rfl rfl (Xi ?_); refine Tz ?_; refine nI rfl rfl rfl Jb (fun hg20 => Ov ?_) (fun hg20 => ?_)
   ·refine Mr ?_; refine nT rfl rfl rfl (Xi ?_); refine A6w ?_; refine A2e ?_; refine Fg ?_; refine nI rfl rfl rfl Jb (fun hg26 => Ov ?_) (fun hg26 => ?_)
    ·refine Mr ?_; refine nT rfl rfl rfl (Xi ?_); refine Tz ?_; refine nI rfl rfl rfl Jb (fun hg30 => Ov ?_) (fun hg30 => ?_)
     ·refine Mr ?_; refine nT rfl rfl rfl (C4k ?_); refine A6w ?_; refine A2e ?_; refine Fg ?_; refine nI rfl rfl rfl Jb (fun hg36 => Ov ?_) (fun hg36 => ?_)
      ·refine Mr ?_; refine nT rfl rfl rfl (Bo call190 (Jh t.kind) (fun x39 => ?_)); refine nT rfl rfl rfl (B0e ?_); refine Tz ?_; refine nI rfl rfl rfl Jb (fun hg41 => Ov ?_) (fun hg41 => ?_)
       ·refine Mr ?_; refine nT rfl rfl rfl (Xj ?_); refine nT rfl rfl rfl (B0d ?_); refine A6w ?_; refine P1 ?_; exact hK _ ⟨rfl, rfl, rfl, (by (conv => lhs; whnf); first | (simp_all [Gq]; done) | (simp_all [Gq]; omega)), trivial⟩
       ·refine N9 ?_; refine A6v ?_; refine P1 ?_; exact hK _ ⟨rfl, rfl, rfl, (by (conv => lhs; whnf); first | (simp_all [Gq]; done) | (simp_all [Gq]; omega)), trivial⟩
      ·refine Kj ?_; refine Kj ?_; refine N8 ?_; refine N8 ?_; refine Wq ?_; refine Q8 ?_; refine Tk ?_; exact hK _ ⟨rfl, rfl, rfl, (by (conv => lhs; whnf); first | (simp_all [Gq]; done) | (simp_all [Gq]; omega)), trivial⟩
     ·refine Kj ?_; refine A6v ?_; refine A2e ?_; refine Fg ?_; refine B2k ?_; refine Mr ?_; refine nT rfl rfl rfl (Bo call190 (Jh t.kind) (fun x39 => ?_)); refine nT rfl rfl rfl (B0e ?_); refine Tz ?_; refine nI rfl rfl rfl Jb (fun hg41 => Ov ?_) (fun hg41 => ?_)
      ·refine Mr ?_; refine nT rfl rfl rfl (Xj ?_); refine nT rfl rfl rfl (B0d ?_); refine A6w ?_; refine P1 ?_; exact hK _ ⟨rfl, rfl, rfl, (by (conv => lhs; whnf); first | (simp_all [Gq]; done) | (simp_all [Gq]; omega)), trivial⟩
      ·refine N9 ?_; refine A6v ?_; refine P1 ?_; exact hK _ ⟨rfl, rfl, rfl, (by (conv => lhs; whnf); first | (simp_all [Gq]; done) | (simp_all [Gq]; omega)), trivial⟩
    ·refine N9 ?_; refine N8 ?_; refine B5v ?_; refine Wq ?_; refine Q8 ?_; refine Fg ?_; refine Kj ?_; refine N9 ?_; refine N8 ?_; refine N8 ?_; refine Wq ?_; refine Q8 ?_; refine Tk ?_; exact hK _ ⟨rfl, rfl, rfl, (by (conv => lhs; whnf); first | (simp_all [Gq]; done) | (simp_all [Gq]; omega)), trivial⟩
   ·refine Kj ?_; refine A6v ?_; refine A2e ?_; refine Fg ?_; refine B2k ?_; refine Mr ?_; refine nT rfl rfl rfl (Xi ?_); refine Tz ?_; refine nI rfl rfl rfl Jb (fun hg30 => Ov ?_) (fun hg30 => ?_)
    ·refine Mr ?_; refine nT rfl rfl rfl (C4k ?_); refine A6w ?_; refine A2e ?_; refine Fg ?_; refine nI rfl rfl rfl Jb (fun hg36 => Ov ?_) (fun hg36 => ?_)
     ·refine Mr ?_; refine nT rfl rfl rfl (Bo call190 (Jh t.kind) (fun x39 => ?_)); refine nT rfl rfl rfl (B0e ?_); refine Tz ?_; refine nI rfl rfl rfl Jb (fun hg41 => Ov ?_) (fun hg41 => ?_)
      ·refine Mr ?_; refine nT rfl rfl rfl (Xj ?_); refine nT rfl rfl rfl (B0d ?_); refine A6w ?_; refine P1 ?_; exact hK _ ⟨rfl, rfl, rfl, (by (conv => lhs; whnf); first | (simp_all [Gq]; done) | (simp_all [Gq]; omega)), trivial⟩
      ·refine N9 ?_; refine A6v ?_; refine P1 ?_; exact hK _ ⟨rfl, rfl, rfl, (by (conv => lhs; whnf); first | (simp_all [Gq]; done) | (simp_all [Gq]; omega)), trivial⟩
     ·refine Kj ?_; refine Kj ?_; refine N8 ?_; refine N8 ?_; refine Wq ?_; refine Q8 ?_; refine Tk ?_; exact hK _ ⟨rfl, rfl, rfl, (by (conv => lhs; whnf); first | (simp_all [Gq]; done) | (simp_all [Gq]; omega)), trivial⟩
    ·refine Kj ?_; refine A6v ?_; refine A2e ?_; refine Fg ?_; refine B2k ?_; refine Mr ?_; refine nT rfl rfl rfl (Bo call190 (Jh t.kind) (fun x39 => ?_)); refine nT rfl rfl rfl (B0e ?_); refine Tz ?_; refine nI rfl rfl rfl Jb (fun hg41 => Ov ?_) (fun hg41 => ?_)
     ·refine Mr ?_; refine nT rfl rfl rfl (Xj ?_); refine nT rfl rfl rfl (B0d ?_); refine A6w ?_; refine P1 ?_; exact hK _ ⟨rfl, rfl, rfl, (by (conv => lhs; whnf); first | (simp_all [Gq]; done) | (simp_all [Gq]; omega)), trivial⟩
     ·refine N9 ?_; refine A6v ?_; refine P1 ?_; exact hK _ ⟨rfl, rfl, rfl, (by (conv => lhs; whnf); first | (simp_all [Gq]; done) | (simp_all [Gq]; omega)), trivial⟩
  ·refine N9 ?_; refine N8 ?_; refine B5v ?_; refine Wq ?_; refine Q8 ?_; refine Fg ?_; refine Kj ?_; refine Kj ?_; refine N8 ?_; refine B5v ?_; refine Wq ?_; refine Q8 ?_; refine Fg ?_; refine Kj ?_; refine N9 ?_; refine N8 ?_; refine N8 ?_; refine Wq ?_; refine Q8 ?_; refine Tk ?_; exact hK _ ⟨rfl, rfl, rfl, (by (conv => lhs; whnf); first | (simp_all [Gq]; done) | (simp_all [Gq]; omega)), trivial⟩
 ·refine A1 (fun h47 => ?_) (fun h47 => ?_)
  ·refine Ca ?_; refine An f_ rfl A7 () (by simp [Gx, h47]) (fun w hs => hs.none)
  ·refine J5 ?_; refine Ju ?_; refine Jv ?_; refine Wl ?_; refine F7 ?_; refine A1 (fun h50 => ?_) (fun h50 => ?_)
   ·refine Ft ?_; refine Bn ([(6, .bool (decide ((t.r.length : Int) = 0) && decide (0 ≤ t.n) && (decide (vars < 0) || decide (t.n < vars))))]) (fun hK => ?_) (fun base => ?_)
    ·refine Hz ?_; refine Hf ?_; refine A7a ?_; refine Dd ?_; refine qI rfl rfl rfl Jb (fun hg56 => Oz ?_) (fun hg56 => ?_)
     ·refine Le ?_; refine qT rfl rfl rfl (Yd ?_); refine Na ?_; refine Dd ?_; refine qI rfl rfl rfl Jb (fun hg61 => E1 ?_) (fun hg61 => ?_)
      ·refine A6x ?_; refine He ?_; refine qI rfl rfl rfl Jb (fun hg64 => Oz ?_) (fun hg64 => ?_)
       ·refine Le ?_; refine He ?_; refine A6x ?_; refine qT rfl rfl rfl (Of ?_); refine I0 ?_; exact hK _ ⟨(by (conv => lhs; whnf); first | (simp_all [Bool.and_assoc]; done) | (simp_all [Bool.and_assoc]; omega)), trivial⟩
       ·refine Es ?_; refine Wp ?_; refine B2l ?_; refine I0 ?_; exact hK _ ⟨(by (conv => lhs; whnf); first | (simp_all [Bool.and_assoc]; done) | (simp_all [Bool.and_assoc]; omega)), trivial⟩
      ·refine Es ?_; refine Q9 ?_; refine Q9 ?_; refine Q9 ?_; refine Q9 ?_; refine Wp ?_; refine G4 ?_; exact hK _ ⟨(by (conv => lhs; whnf); first | (simp_all [Bool.and_assoc]; done) | (simp_all [Bool.and_assoc]; omega)), trivial⟩
     ·refine Es ?_; refine H8 ?_; refine Es ?_; refine Wp ?_; refine Q9 ?_; refine Q9 ?_; refine Q9 ?_; refine Q9 ?_; refine Wp ?_; refine G4 ?_; exact hK _ ⟨(by (conv => lhs; whnf); first | (simp_all [Bool.and_assoc]; done) | (simp_all [Bool.and_assoc]; omega)), trivial⟩
    ·refine An f_ rfl A7 () (by simp_all [Gx, Bool.and_assoc]) (fun w hs => hs.none)
   ·refine F7 ?_; refine A1 (fun h71 => ?_) (fun h71 => ?_)
    ·refine Ft ?_; refine Bn ([(6, .bool (decide ((t.r.length : Int) = 0) && Kd t.name))]) (fun hK => ?_) (fun base => ?_)
     ·refine Hz ?_; refine Hf ?_; refine A7a ?_; refine Dd ?_; refine qI rfl rfl rfl Jb (fun hg77 => Oz ?_) (fun hg77 => ?_)
      ·refine Le ?_; refine qT rfl rfl rfl (A0 call191 (B3w t.name hnm) (fun x80 => ?_)); refine I0 ?_; exact hK _ ⟨(by (conv => lhs; whnf); first | (simp_all [Bool.and_assoc]; done) | (simp_all [Bool.and_assoc]; omega)), trivial⟩
      ·refine Es ?_; refine G4 ?_; exact hK _ ⟨(by (conv => lhs; whnf); first | (simp_all [Bool.and_assoc]; done) | (simp_all [Bool.and_assoc]; omega)), trivial⟩
     ·refine An f_ rfl A7 () (by simp_all [Gx, Bool.and_assoc]) (fun w hs => hs.none)
    ·refine Ft ?_; refine F7 ?_; refine A1 (fun h82 => ?_) (fun h82 => ?_)
     ·refine B2f ?_; refine Ft ?_; refine Bn ([(6, .bool (Ab t.r && within t.r dims))]) (fun hK => ?_) (fun base => ?_)
      ·refine Hz ?_; refine q0 rfl (A0 call63 ((Gm hf (by simp_all)).1 t.r vr) (fun x88 => ?_)); refine Dd ?_; refine qI rfl rfl rfl Jb (fun hg89 => Oz ?_) (fun hg89 => ?_)
       ·refine Le ?_; refine He ?_; refine qT rfl rfl rfl (A0 call192 (I1 (Gm hf (by simp_all)).2.2 t.r vr dims hd hl) (fun x93 => ?_)); refine I0 ?_; exact hK _ ⟨(by (conv => lhs; whnf); first | (simp_all [Bool.and_assoc]; done) | (simp_all [Bool.and_assoc]; omega)), trivial⟩
       ·refine Es ?_; refine Wp ?_; refine G4 ?_; exact hK _ ⟨(by (conv => lhs; whnf); first | (simp_all [Bool.and_assoc]; done) | (simp_all [Bool.and_assoc]; omega)), trivial⟩
      ·refine An f_ rfl A7 () (by simp_all [Gx, Bool.and_assoc]) (fun w hs => hs.none)
     ·refine F7 ?_; refine A1 (fun h82 => ?_) (fun h82 => ?_)
      ·refine B2f ?_; refine Ft ?_; refine Bn ([(6, .bool (Ab t.r && within t.r dims))]) (fun hK => ?_) (fun base => ?_)
       ·refine Hz ?_; refine q0 rfl (A0 call63 ((Gm hf (by simp_all)).1 t.r vr) (fun x88 => ?_)); refine Dd ?_; refine qI rfl rfl rfl Jb (fun hg89 => Oz ?_) (fun hg89 => ?_)
        ·refine Le ?_; refine He ?_; refine qT rfl rfl rfl (A0 call192 (I1 (Gm hf (by simp_all)).2.2 t.r vr dims hd hl) (fun x93 => ?_)); refine I0 ?_; exact hK _ ⟨(by (conv => lhs; whnf); first | (simp_all [Bool.and_assoc]; done) | (simp_all [Bool.and_assoc]; omega)), trivial⟩
        ·refine Es ?_; refine Wp ?_; refine G4 ?_; exact hK _ ⟨(by (conv => lhs; whnf); first | (simp_all [Bool.and_assoc]; done) | (simp_all [Bool.and_assoc]; omega)), trivial⟩
       ·refine An f_ rfl A7 () (by simp_all [Gx, Bool.and_assoc]) (fun w hs => hs.none)
      ·refine Ih ?_; refine Tl ?_; refine A1 (fun h82 => ?_) (fun h82 => ?_)
       ·refine Ft ?_; refine Bn ([(6, .bool (Ab t.r && within t.r dims))]) (fun hK => ?_) (fun base => ?_)
        ·refine Hz ?_; refine q0 rfl (A0 call63 ((Gm hf (by simp_all)).1 t.r vr) (fun x88 => ?_)); refine Dd ?_; refine qI rfl rfl rfl Jb (fun hg89 => Oz ?_) (fun hg89 => ?_)
         ·refine Le ?_; refine He ?_; refine qT rfl rfl rfl (A0 call192 (I1 (Gm hf (by simp_all)).2.2 t.r vr dims hd hl) (fun x93 => ?_)); refine I0 ?_; exact hK _ ⟨(by (conv => lhs; whnf); first | (simp_all [Bool.and_assoc]; done) | (simp_all [Bool.and_assoc]; omega)), trivial⟩
         ·refine Es ?_; refine Wp ?_; refine G4 ?_; exact hK _ ⟨(by (conv => lhs; whnf); first | (simp_all [Bool.and_assoc]; done) | (simp_all [Bool.and_assoc]; omega)), trivial⟩
        ·refine An f_ rfl A7 () (by simp_all [Gx, Bool.and_assoc]) (fun w hs => hs.none)
       ·refine F7 ?_; refine A1 (fun h95 => ?_) (fun h95 => ?_)
        ·refine Ft ?_; refine Bn ([(6, .bool (A8 t.r && within t.r dims))]) (fun hK => ?_) (fun base => ?_)
         ·refine Hz ?_; refine q0 rfl (A0 call193 ((Gm hf (by simp_all)).2.1 t.r vr) (fun x99 => ?_)); refine Dd ?_; refine qI rfl rfl rfl Jb (fun hg100 => Oz ?_) (fun hg100 => ?_)
          ·refine Le ?_; refine He ?_; refine qT rfl rfl rfl (A0 call192 (I1 (Gm hf (by simp_all)).2.2 t.r vr dims hd hl) (fun x104 => ?_)); refine I0 ?_; exact hK _ ⟨(by (conv => lhs; whnf); first | (simp_all [Bool.and_assoc]; done) | (simp_all [Bool.and_assoc]; omega)), trivial⟩
          ·refine Es ?_; refine Wp ?_; refine G4 ?_; exact hK _ ⟨(by (conv => lhs; whnf); first | (simp_all [Bool.and_assoc]; done) | (simp_all [Bool.and_assoc]; omega)), trivial⟩
         ·refine An f_ rfl A7 () (by simp_all [Gx, Bool.and_assoc]) (fun w hs => hs.none)
        ·refine H4 ?_; refine Pj ?_; refine Ft ?_; refine J9 ?_; refine Dl (X := Nat) (fun i => i ≤ t.sys.length ∧ ∀ j, j < i → Mu t dims (t.sys.getD j Bd) = true) (fun i => [(2, iv dims), (3, pz b3), (107, sl vs t.sys.length), (108, iv (t.sys.length : Int)), (109, iv (i : Int))]) (fun i => BLx t.sys vs VF VK2 :: RT t vr vk vs :: []) (fun i => [Af b3 (tc t vr vk vs) 26]) (fun i => t.sys.length - i) (0) (⟨Nat.zero_le _, fun j hj => by omega⟩) (by exact Dr) ?_ ?_
         ·exact fun w hs => hs.l9
         ·intro i base0 ⟨hi, hok⟩ next0; refine Ds ?_; refine A1 (fun h110 => ?_) (fun h110 => ?_)
          ·have hlt : i < t.sys.length := by have := of_decide_eq_true h110; omega
           obtain ⟨bk, o, hav⟩ := hA2 A4; refine Fk ?_; refine Ot ?_; refine B2m ?_; refine q0 rfl (B3 fun b8 => ?_); refine Ko ?_; refine Fx i hlt ?_; refine Bn ([(2, iv dims), (3, pz b3), (107, sl vs t.sys.length), (108, iv (t.sys.length : Int)), (109, iv (i : Int)), (132, .bool (!(Mu t dims (t.sys.getD i Bd))))]) (fun hK => ?_) (fun base => ?_)
           ·refine Cc (pn := 1000000) (tn := false) (A := [0, 1, 3, 0, 8, 24, 63, 127, 255, 511, 1023, 2047, 4095, 8191, 16383, 32767, 16383, 131071, 262143, 524287]) (l := [0, 1, 2, 3, 4, 5, 6, 7, 8, 9, 10, 11, 12, 13, 14, 15, 16, 17, 18, 19]) (fin := []) Tab.mixed ⟨_, func105⟩ (by rfl) ?_; refine Gb ?_; refine n0 rfl (Xj ?_); refine Gb ?_; refine n0 rfl (Bo call190 (Jh t.kind) (fun x118 => ?_)); refine n0 rfl (Xi ?_); refine Fg ?_; refine nI rfl rfl rfl Jb (fun hg120 => Ov ?_) (fun hg120 => ?_)
            ·refine Mr ?_; refine nT rfl rfl rfl (Bo call193 ((A5e hf hlt).2.1 _ (VF i)) (fun x123 => ?_)); refine nT rfl rfl rfl (Xh ?_); refine A2e ?_; refine Fg ?_; refine nI rfl rfl rfl Jb (fun hg126 => Ov ?_) (fun hg126 => ?_)
             ·refine Mr ?_; refine Tz ?_; refine nT rfl rfl rfl (Bo call192 (I1 (A5e hf hlt).2.2 _ (VF i) dims hd hl) (fun x130 => ?_)); refine nT rfl rfl rfl (Xh ?_); refine P1 ?_; exact hK _ ⟨rfl, rfl, rfl, rfl, rfl, (by (conv => lhs; whnf); first | (simp_all [Mu]; done) | (simp_all [Mu]; omega)), trivial⟩
             ·refine Kj ?_; refine Kj ?_; refine Q8 ?_; refine Tk ?_; exact hK _ ⟨rfl, rfl, rfl, rfl, rfl, (by (conv => lhs; whnf); first | (simp_all [Mu]; done) | (simp_all [Mu]; omega)), trivial⟩
            ·refine N9 ?_; refine Q8 ?_; refine Fg ?_; refine Kj ?_; refine N9 ?_; refine Q8 ?_; refine Tk ?_; exact hK _ ⟨rfl, rfl, rfl, rfl, rfl, (by (conv => lhs; whnf); first | (simp_all [Mu]; done) | (simp_all [Mu]; omega)), trivial⟩
           ·refine A1 (fun h132 => ?_) (fun h132 => ?_)
            ·refine Ca ?_; have ha := A1r hlt (by simpa using h132); refine An f_ rfl A7 () (by rw [Gx, ha]; clear hok ha h132; simp_all [Bool.and_assoc]) (fun w hs => hs.none)
            ·refine H9 ?_; have hb : Mu t dims (t.sys.getD i Bd) = true := by simpa using h132
             refine A2 (fun w hs => ?_) (next0 (i + 1) _ ⟨hlt, fun j hj => (by rcases Nat.lt_succ_iff_lt_or_eq.mp hj with h | h; exact hok j h; subst h; exact hb)⟩ A4 Dr); exact (hs.l9).drop
          ·have hge : i = t.sys.length := by have := of_decide_eq_false h110; omega
           refine Ef ?_; refine Ju ?_; refine Hf ?_; refine Tl ?_; have ha := C0x (t := t) (g := Mu t dims) (by rw [← hge]; exact hok); refine An f_ rfl A7 () (by rw [Gx, ha]; clear hok ha; simp_all [Bool.and_assoc]) (fun w hs => hs.none)
abbrev C1j (t : T) : Prop := (Jf t = true ∨ A9v) → ∀ (vars dims : Int) (bound : Bool) vr vk vs, Ap vars → 0 ≤ dims → dims + depth t ≤ 1152921504606846976 → Spec prog 60 #[.agg (tc t vr vk vs).toArray, iv vars, iv dims, .bool bound] [RT t vr vk vs] [] (fun _ : Unit => .bool (Mx t vars dims bound)) (fun _ => []) (fun _ => [])
abbrev D0k (b1 b2 b3 : Nat) : List Value := [pz b1, pz b2, pz b3]
abbrev D0j (b1 b2 b3 : Nat) (vars dims : Int) (bound : Bool) : List Aw := [Af b1 [iv vars] 3, Af b2 [iv dims] 3, Af b3 [.bool bound] 4]
def Mb (v d : Int) : Prop := 0 ≤ v ∧ v ≤ 1 ∧ 0 ≤ d ∧ d ≤ 1
theorem C0s (k i : Int) : Mb (binds k i).1 (binds k i).2 := by
 unfold binds Mb; repeat (split; (simp))
 simp
theorem B7t {t : T} {k : T} {v d : Int} (h : (k, v, d) ∈ parts t) : Mb v d := by
 have hk : ∀ (kind : Int) (i : Nat) (ks : List T), (k, v, d) ∈ Cx kind i ks → Mb v d := by
  intro kind i ks
  induction ks generalizing i with
  | nil => intro h; simp [Cx] at h
  | cons a ks ih =>
   intro h; simp only [Cx, List.mem_cons] at h; rcases h with h | h
   ·have e : (v, d) = binds kind i := (Prod.mk.inj h).2; have := C0s kind i; rw [← e] at this; exact this
   ·exact ih _ h
 have hs : ∀ (kind : Int) (bs : List Br), (k, v, d) ∈ Ct kind bs → Mb v d := by
  intro kind bs
  induction bs with
  | nil => intro h; simp [Ct] at h
  | cons b bs ih =>
   intro h; simp only [Ct, List.mem_append, List.mem_map] at h; rcases h with ⟨a, ha, e⟩ | h
   ·have e2 := (Prod.mk.inj e).2; have e3 := (Prod.mk.inj e2); rw [← e3.1, ← e3.2]; unfold Mb more; split <;> simp
   ·exact ih h
 unfold parts at h; rcases List.mem_append.mp h with h | h
 ·exact hk _ _ _ h
 ·exact hs _ _ h
theorem B5e {t : T} {p : Part} (h : p ∈ parts t) : depth p.1 < depth t := by
 obtain ⟨m, hm⟩ := List.mem_iff_getElem?.mp h; exact A9g hm
theorem B5t (k : T) (vr vk vs : SH) (b1 b2 b3 : Nat) (vars dims v d : Int) (bound : Bool) (hv : Ap vars) (h0 : 0 ≤ dims) (hvd : Mb v d) (hl : dims + 1 + depth k ≤ 1152921504606846976) (hp : Jf k = true ∨ A9v) (ih : C1j k) : Spec prog 107 #[.agg (tc k vr vk vs).toArray, iv v, iv d, pz b1, pz b2, pz b3] [RT k vr vk vs] (D0j b1 b2 b3 vars dims bound) (fun _ : Unit => .bool (Mx k (IntKind.i64.wrap (vars + if vars < 0 then 0 else v)) (dims + d) bound)) (fun _ => []) (fun _ => D0j b1 b2 b3 vars dims bound) := by
 refine D7 ntmps107 fun B hB => ?_
 obtain ⟨hv0, hv1, hd0, hd1⟩ := hvd; refine B1 ?_; refine q0 rfl (Ax fun b6 => ?_); refine H5 ?_; refine B1 ?_; refine Pk ?_; refine Tm ?_; refine Jv ?_; refine Bn ([(1, iv (if vars < 0 then 0 else v)), (2, iv d), (3, pz b1), (4, pz b2), (5, pz b3), (6, pz b6)]) (fun hK => ?_) (fun base => ?_)
 ·refine A1 (fun h11 => ?_) (fun h11 => ?_)
  ·refine Ih ?_; refine Cg ?_; exact hK _ ⟨(by first | (rw [if_pos (of_decide_eq_true h11)]; rfl) | (rw [if_neg (of_decide_eq_false h11)]; rfl)), rfl, rfl, rfl, rfl, rfl, trivial⟩
  ·refine H4 ?_; exact hK _ ⟨(by first | (rw [if_pos (of_decide_eq_true h11)]; rfl) | (rw [if_neg (of_decide_eq_false h11)]; rfl)), rfl, rfl, rfl, rfl, rfl, trivial⟩
 ·refine Fu ?_; refine Pk ?_; refine Dd ?_; refine q0 rfl (C7d ?_); refine Pk ?_; refine Dd ?_; refine U0 ?_; refine Pk ?_; refine q0 rfl (A0 call60 (ih hp (IntKind.i64.wrap (vars + if vars < 0 then 0 else v)) (dims + d) bound vr vk vs (C1m _) A4 A4) (fun x20 => ?_)); refine Cg ?_; refine An f_ rfl A7 () rfl (fun w hs => (hs.l8).drop)
theorem C0w (t : T) (hp : Jf t = true ∨ A9v) (ih : ∀ p, p ∈ parts t → C1j p.1) (vars dims : Int) (bound : Bool) (vr vk vs : SH) (hv : Ap vars) (h0 : 0 ≤ dims) (hl : dims + depth t ≤ 1152921504606846976) : Spec prog 60 #[.agg (tc t vr vk vs).toArray, iv vars, iv dims, .bool bound] [RT t vr vk vs] [] (fun _ : Unit => .bool (Mx t vars dims bound)) (fun _ => []) (fun _ => []) := by
 refine D7 ntmps60 fun B hB => ?_
 refine B1 ?_; refine q0 rfl (Ax fun b4 => ?_); refine q0 rfl (Ax fun b5 => ?_); refine q0 rfl (Ax fun b6 => ?_); refine q0 rfl (Ax fun b7 => ?_); refine Qd ?_; refine Bn ([(4, pz b4), (5, pz b5), (6, pz b6), (7, pz b7), (20, .bool ((bound && decide (24 < dims)) || !(Gx t vars dims)))]) (fun hK => ?_) (fun base => ?_)
 ·refine Ih ?_; refine Pk ?_; refine Dd ?_; refine qI rfl rfl rfl Jb (fun hg10 => C7b ?_) (fun hg10 => ?_)
  ·refine Ze ?_; refine Na ?_; refine Dd ?_; refine qI rfl rfl rfl Jb (fun hg14 => Mm ?_) (fun hg14 => ?_)
   ·refine Le ?_; refine Le ?_; refine qT rfl rfl rfl (A0 call105 (A3f t (Uq hp) vr vk vs vars dims h0 (by unfold Ap; omega)) (fun x18 => ?_)); refine B2j ?_; refine H7 ?_; exact hK _ ⟨rfl, rfl, rfl, rfl, (by (conv => lhs; whnf); first | (simp_all [Bool.and_assoc]; done) | (simp_all [Bool.and_assoc]; omega)), trivial⟩
   ·refine Q7 ?_; refine J7 ?_; exact hK _ ⟨rfl, rfl, rfl, rfl, (by (conv => lhs; whnf); first | (simp_all [Bool.and_assoc]; done) | (simp_all [Bool.and_assoc]; omega)), trivial⟩
  ·refine Wp ?_; refine H8 ?_; refine qT rfl rfl rfl (Mm ?_); refine Le ?_; refine Le ?_; refine qT rfl rfl rfl (A0 call105 (A3f t (Uq hp) vr vk vs vars dims h0 (by unfold Ap; omega)) (fun x18 => ?_)); refine B2j ?_; refine H7 ?_; exact hK _ ⟨rfl, rfl, rfl, rfl, (by (conv => lhs; whnf); first | (simp_all [Bool.and_assoc]; done) | (simp_all [Bool.and_assoc]; omega)), trivial⟩
 ·refine A1 (fun h20 => ?_) (fun h20 => ?_)
  ·refine Ca ?_; refine An f_ rfl A7 () (by rw [A1t, h20]; rfl) (fun w hs => hs.none)
  ·refine H4 ?_; refine Fu ?_; refine N1 ?_; have hE := Yz t vr vk vs 107 (D0k b5 b6 b7) [] (D0j b5 b6 b7 vars dims bound) (fun p => Mx p.1 (IntKind.i64.wrap (vars + if vars < 0 then 0 else p.2.1)) (dims + p.2.2) bound) call107 (fun k v d hm vr vk vs => B5t k vr vk vs b5 b6 b7 vars dims v d bound hv h0 (B7t hm) (by have := B5e hm; simp only at this; omega) (A7s hp hm) (ih _ hm)); refine q0 rfl (A0 call106 (hE) (fun x23 => ?_)); refine Cg ?_; refine An f_ rfl A7 () (by rw [A1t, h20]; rfl) (fun w hs => hs.none)
theorem A6m : ∀ t : T, C1j t := T.ind fun t ih hp vars dims bound vr vk vs hv h0 hl => C0w t hp ih vars dims bound vr vk vs hv h0 hl
theorem Pq (t : T) (hp : Jf t = true ∨ A9v) (vr vk vs : SH) (vars dims : Int) (hv : Ap vars) (hsz : size t ≤ 1152921504606846) : Spec prog 22 #[.agg (tc t vr vk vs).toArray, iv vars, iv dims] [RT t vr vk vs] [] (fun _ : Unit => iv (Bk t vars dims)) (fun _ => []) (fun _ => []) := by
 refine D7 ntmps22 fun B hB => ?_
 have hds := Pd t; refine B1 ?_; refine q0 rfl (Ax fun b3 => ?_); refine Qd ?_; refine Bn ([(1, iv vars), (2, iv dims), (3, pz b3), (17, .bool (decide (vars < 0) || decide (dims < 0) || decide (24 < dims)))]) (fun hK => ?_) (fun base => ?_)
 ·refine D9 ?_; refine Tm ?_; refine Dd ?_; refine qI rfl rfl rfl Jb (fun hg10 => E1 ?_) (fun hg10 => ?_)
  ·refine A6x ?_; refine H8 ?_; refine qI rfl rfl rfl Jb (fun hg14 => E1 ?_) (fun hg14 => ?_)
   ·refine Ze ?_; refine H7 ?_; exact hK _ ⟨rfl, rfl, rfl, (by (conv => lhs; whnf); first | (simp_all [Bool.and_assoc]; done) | (simp_all [Bool.and_assoc]; omega)), trivial⟩
   ·refine J6 ?_; exact hK _ ⟨rfl, rfl, rfl, (by (conv => lhs; whnf); first | (simp_all [Bool.and_assoc]; done) | (simp_all [Bool.and_assoc]; omega)), trivial⟩
  ·refine Mq ?_; refine Dd ?_; refine Es ?_; refine J7 ?_; exact hK _ ⟨rfl, rfl, rfl, (by (conv => lhs; whnf); first | (simp_all [Bool.and_assoc]; done) | (simp_all [Bool.and_assoc]; omega)), trivial⟩
 ·refine A1 (fun h17 => ?_) (fun h17 => ?_)
  ·refine Ca ?_; refine An f_ rfl A7 () (by rw [Bk, if_pos h17]) (fun w hs => hs.none)
  ·have hb : 0 ≤ vars ∧ 0 ≤ dims ∧ dims ≤ 24 := by simp at h17; omega
   refine J5 ?_; refine Fu ?_; refine q0 rfl (A0 call59 (Uh t vr vk vs) (fun x19 => ?_)); refine Mh ?_; refine A1 (fun h21 => ?_) (fun h21 => ?_)
   ·have hs := of_decide_eq_true h21; refine Ic ?_; refine An f_ rfl A7 () (by rw [Bk, if_neg (by rw [h17]; simp), if_pos hs]) (fun w hs => hs.none)
   ·have hs := of_decide_eq_false h21; refine J5 ?_; refine Fu ?_; refine G5 ?_; refine q0 rfl (A0 call60 (A6m t hp vars dims true vr vk vs hv A4 A4) (fun x26 => ?_)); refine J8 ?_; refine A1 (fun h27 => ?_) (fun h27 => ?_)
    ·refine Ca ?_; refine An f_ rfl A7 () (by rw [Bk, if_neg (by rw [h17]; simp), if_neg hs]; simp_all) (fun w hs => hs.none)
    ·refine H4 ?_; refine Ca ?_; refine An f_ rfl A7 () (by rw [Bk, if_neg (by rw [h17]; simp), if_neg hs]; simp_all) (fun w hs => hs.none)
theorem Nr (t : T) (hp : Jf t = true ∨ A9v) (vr vk vs : SH) (hsz : size t ≤ 1152921504606846) : Spec prog 39 #[.agg (tc t vr vk vs).toArray] [RT t vr vk vs] [] (fun _ : Unit => iv (As t)) (fun _ => []) (fun _ => []) := by
 refine D7 ntmps39 fun B hB => ?_
 have hds := Pd t; refine B1 ?_; refine q0 rfl (Ax fun b1 => ?_); refine H5 ?_; refine Fu ?_; refine q0 rfl (A0 call59 (Uh t vr vk vs) (fun x5 => ?_)); refine Mh ?_; refine A1 (fun h7 => ?_) (fun h7 => ?_)
 ·have hs := of_decide_eq_true h7; refine Ic ?_; refine An f_ rfl A7 () (by rw [As, if_pos hs]) (fun w hs => hs.none)
 ·have hs := of_decide_eq_false h7; refine J5 ?_; refine Fu ?_; refine q0 rfl (A0 call60 (A6m t hp (-1) 24 false vr vk vs (by unfold Ap; omega) A4 A4) (fun x10 => ?_)); refine J8 ?_; refine A1 (fun h11 => ?_) (fun h11 => ?_)
  ·refine Ca ?_; refine An f_ rfl A7 () (by rw [As, if_neg hs]; simp_all) (fun w hs => hs.none)
  ·refine H4 ?_; refine Ca ?_; refine An f_ rfl A7 () (by rw [As, if_neg hs]; simp_all) (fun w hs => hs.none)
theorem A8y (l : List Part) (a : Nat) : l.foldl (fun a p => a + size p.1) a = a + (l.map fun p => size p.1).sum := by
 induction l generalizing a with
 | nil => simp
 | cons b l ih => rw [List.foldl_cons, ih]; simp; omega
theorem B6p (t : T) : size t = 1 + ((parts t).map fun p => size p.1).sum := by rw [size_eq, A8y]
theorem P5 (t : T) : size t = 1 + (t.kids.map size).sum + ((t.sys.map fun b => b.kids.map size).flatten).sum := by
 rw [B6p, Iv, List.sum_append]; omega
theorem Zg {n : Int} (h : Ap n) : IntKind.i64.wrap n = n := by rw [IntKind.wrap_i64]; unfold Ap at h; omega
theorem Pm {t : T} : sized t = 0 ↔ depth t ≤ 200 ∧ size t ≤ 20000 := by
 unfold sized
 split
 ·simp; omega
 ·split
  ·simp; omega
  ·simp; omega
theorem Uo {t : T} {v d : Int} : Bk t v d = 0 ↔ 0 ≤ v ∧ 0 ≤ d ∧ d ≤ 24 ∧ sized t = 0 ∧ Mx t v d true = true := by
 unfold Bk
 split
 ·rename_i h
  simp only [Bool.or_eq_true, decide_eq_true_eq] at h
  constructor
  ·intro h2; cases h2
  ·intro h2; omega
 ·rename_i h
  simp only [Bool.or_eq_true, decide_eq_true_eq] at h
  split
  ·rename_i h2; constructor
   ·intro h3; exact absurd h3 h2
   ·intro h3; exact absurd h3.2.2.2.1 h2
  ·rename_i h2
   have h2 : sized t = 0 := by simpa using h2
   split
   ·rename_i h3; simp only [h2, h3, and_self, and_true, true_iff]; omega
   ·rename_i h3; simp only [h3]; constructor
    ·intro h4; cases h4
    ·intro h4; exact absurd h4.2.2.2.2 Ii
theorem A5c {t : T} : As t = 0 ↔ sized t = 0 ∧ Mx t (-1) 24 false = true := by
 unfold As
 split
 ·rename_i h; constructor
  ·intro h2; exact absurd h2 h
  ·intro h2; exact absurd h2.1 h
 ·rename_i h
  have h : sized t = 0 := by simpa using h
  split
  ·rename_i h3; simp [h, h3]
  ·rename_i h3; simp [h3]
theorem Js (s : Nat) : s &&& 16777215 < 16777216 := by rw [A6l]; exact Nat.mod_lt _ Ii
theorem B9y (l : List Cl) : F1 l < 16777216 := by rw [A5m]; exact Js _
def Ak (s : Nat) (f b : Int) : Int × Nat :=
 if f < 0 ∨ b < 0 then (2, 0) else
 if B9 (s &&& 16777215) (2 ^ (min f.toNat 24) - 1) = 0 then (0, (s &&& 16777215) &&& (2 ^ (min f.toNat 24) - 1)) else
 if 24 ≤ b ∨ 16777215 < B9 (s &&& 16777215) (2 ^ (min f.toNat 24) - 1) * 2 ^ b.toNat then (10, 0) else
 (0, ((s &&& 16777215) &&& (2 ^ (min f.toNat 24) - 1)) ||| (B9 (s &&& 16777215) (2 ^ (min f.toNat 24) - 1) * 2 ^ b.toNat))
theorem H2 (a b i : Nat) : (B9 a b).testBit i = (decide (i < 32) && a.testBit i && !b.testBit i) := by
 unfold B9
 rw [BitVec.testBit_toNat]
 by_cases h : i < 32
 ·rw [BitVec.getLsbD_and, BitVec.getLsbD_not, BitVec.getLsbD_ofNat, BitVec.getLsbD_ofNat]
  simp [h]
 ·have : (BitVec.ofNat 32 a &&& ~~~BitVec.ofNat 32 b).getLsbD i = false := BitVec.getLsbD_of_ge _ _ A4
  rw [this]; simp [h]
theorem G0 (s i : Nat) : (s &&& 16777215).testBit i = (decide (i < 24) && s.testBit i) := by
 rw [A6l, Nat.testBit_mod_two_pow]
theorem L3 (m i : Nat) : (2 ^ m - 1).testBit i = decide (i < m) := Nat.testBit_two_pow_sub_one m i
theorem Z8 {q m : Nat} (h : q < 16777216) : B9 q m < 16777216 := by
 refine Nat.lt_pow_two_of_testBit (n := 24) _ (fun i hi => ?_)
 rw [H2, Nat.testBit_lt_two_pow (x := q) (Nat.lt_of_lt_of_le h (Nat.pow_le_pow_right (n := 2) Ii hi))]
 simp
theorem K5 (s : Nat) (f b : Int) : (Ak s f b).2 < 16777216 := by
 unfold Ak
 split
 ·decide
 ·split
  ·exact Nat.lt_of_le_of_lt Nat.and_le_left (Js s)
  ·split
   ·decide
   ·refine Nat.or_lt_two_pow (n := 24) ?_ ?_
    ·exact Nat.lt_of_le_of_lt Nat.and_le_left (Js s)
    ·rename_i h; simp only [not_or] at h; have := h.2; omega
def B4 (c : Cl) (f b : Int) : Int × Cl :=
 if B8 c = false then (2, Bw) else
 if (Ak c.pos f b).1 ≠ 0 then ((Ak c.pos f b).1, Bw) else
 if (Ak c.neg f b).1 ≠ 0 then ((Ak c.neg f b).1, Bw) else
 (0, ⟨(Ak c.pos f b).2, (Ak c.neg f b).2⟩)
theorem Q1 (c : Cl) (f b : Int) : u32 (B4 c f b).2 := by
 have h1 := K5 c.pos f b
 have h2 := K5 c.neg f b
 unfold B4
 split
 ·exact ⟨(by decide : (0 : Nat) < 4294967296), (by decide : (0 : Nat) < 4294967296)⟩
 ·split
  ·exact ⟨(by decide : (0 : Nat) < 4294967296), (by decide : (0 : Nat) < 4294967296)⟩
  ·split
   ·exact ⟨(by decide : (0 : Nat) < 4294967296), (by decide : (0 : Nat) < 4294967296)⟩
   ·exact ⟨by show (Ak c.pos f b).2 < _; omega, by show (Ak c.neg f b).2 < _; omega⟩
def E7 (g : Cl → Int × Cl) (l : List Cl) : Int × List Cl := match l.find? (fun c => (g c).1 ≠ 0) with
 | some c => ((g c).1, [])
 | none => (0, l.map fun c => (g c).2)
theorem B4t {g : Cl → Int × Cl} {l : List Cl} {i : Nat} (hi : i < l.length) (h0 : ∀ j, j < i → (g (l.getD j Bw)).1 = 0) (h : (g (l.getD i Bw)).1 ≠ 0) : E7 g l = ((g (l.getD i Bw)).1, []) := by
 have : l.find? (fun c => (g c).1 ≠ 0) = some (l.getD i Bw) := by
  rw [List.find?_eq_some_iff_getElem]
  rw [Cy (d := Bw) hi] at h ⊢
  refine ⟨by simpa using h, i, hi, rfl, fun j hj => ?_⟩
  have := h0 j hj
  rw [Cy (d := Bw) A4] at this
  simp [this]
 rw [E7, this]
theorem A5h {g : Cl → Int × Cl} {l : List Cl} (h0 : ∀ j, j < l.length → (g (l.getD j Bw)).1 = 0) : E7 g l = (0, l.map fun c => (g c).2) := by
 have : l.find? (fun c => (g c).1 ≠ 0) = none := by
  rw [List.find?_eq_none]
  intro x hx
  obtain ⟨j, hj, e⟩ := List.mem_iff_getElem.mp hx
  have := h0 j hj
  rw [Cy (d := Bw) hj, e] at this
  simp [this]
 rw [E7, this]
theorem Ys {g : Cl → Int × Cl} {l : List Cl} : (E7 g l).1 = 0 ↔ ∀ c, c ∈ l → (g c).1 = 0 := by
 unfold E7
 cases h : l.find? (fun c => (g c).1 ≠ 0) with
 | none =>
  rw [List.find?_eq_none] at h
  simp only [true_iff]
  intro c hc
  simpa using h c hc
 | some c =>
  have h1 := List.find?_some h
  have h2 := List.mem_of_find?_eq_some h
  simp only
  refine ⟨fun h3 => ?_, fun h3 => h3 c h2⟩
  simp at h1; exact absurd h3 h1
theorem B4r {g : Cl → Int × Cl} {l : List Cl} (h : (E7 g l).1 = 0) : E7 g l = (0, l.map fun c => (g c).2) :=
 A5h fun j hj => Ys.mp h _ (Ad hj)
def Aa (l : List Cl) (f b : Int) : Int × List Cl :=
 if Ab l = false then (2, []) else
 if (E7 (fun c => B4 c f b) l).1 ≠ 0 then ((E7 (fun c => B4 c f b) l).1, []) else Bc (E7 (fun c => B4 c f b) l).2
def B7 (by_ : Int) (l : List Cl) (f : Int) : Ai (List Cl) :=
 if by_ = 0 ∨ 24 ≤ f then .ok l else if (Aa l f by_).1 = 0 then .ok (Aa l f by_).2 else .bad (Aa l f by_).1
def Bh (vb db : Int) : Tr (Int × Int) where
 own c k n _ r := (B7 db r c.2).bind fun r' => if k = 1 ∧ c.1 ≤ n then (if 1000000000 - vb < n then .bad 100 else .ok (.inr (n + vb, r'))) else .ok (.inr (n, r'))
 Ay c f := (B7 db f c.2).bind fun f' => .ok (some f')
 M0 c b := .ok (c.1 + b.1, c.2 + b.2)
section
variable {C : Type} {A : Tr C} {t : T} {c : C} {e : Int}
theorem Li (h : A.own c t.kind t.n t.name t.r = .bad e) : Ce A t c = .bad e := by rw [Fv, h]; rfl
theorem Qk {p : Int × List Cl} {i : Nat} {l : List T} (h : A.own c t.kind t.n t.name t.r = .ok (.inr p)) (hi : i < t.kids.length) (hl : D3 A t.kind 0 (t.kids.take i) c = .ok l) {c' : C} (hc : A.M0 c (binds t.kind i) = .ok c') (hb : Ce A (t.kids.getD i t0) c' = .bad e) : Ce A t c = .bad e := by
 have h1 : D3 A t.kind 0 (t.kids.take (i + 1)) c = .bad e := by
  rw [Ac (d := t0) hi, Lk, hl]
  simp only [Ai.bind, List.length_take, Nat.zero_add, Nat.min_eq_left (Nat.le_of_lt hi)]
  rw [hc]; simp only; rw [hb]
 have h2 := Rx (m := t.kids.drop (i + 1)) h1
 rw [List.take_append_drop] at h2
 rw [Fv, h]; simp only [Ai.bind]; rw [h2]
theorem Su {k : Int} {ts : List T} {i : Nat} {l : List T} {u : T} (hi : i < ts.length) (hl : D3 A k 0 (ts.take i) c = .ok l) {c' : C} (hc : A.M0 c (binds k i) = .ok c') (hb : Ce A (ts.getD i t0) c' = .ok u) : D3 A k 0 (ts.take (i + 1)) c = .ok (l ++ [u]) := by
 rw [Ac (d := t0) hi, Lk, hl]
 simp only [Ai.bind, List.length_take, Nat.zero_add, Nat.min_eq_left (Nat.le_of_lt hi)]
 rw [hc]; simp only; rw [hb]
theorem Ql {k : Int} {ts : List T} {i : Nat} {l : List T} (hi : i < ts.length) (hl : Cd A k (ts.take i) c = .ok l) {c' : C} (hc : A.M0 c (0, more k) = .ok c') (hb : Ce A (ts.getD i t0) c' = .bad e) : Cd A k ts c = .bad e := by
 have h1 : Cd A k (ts.take (i + 1)) c = .bad e := by
  rw [Ac (d := t0) hi, Lj, hl]
  simp only [Ai.bind]
  rw [hc]; simp only; rw [hb]
 have h2 := Rw (m := ts.drop (i + 1)) h1
 rwa [List.take_append_drop] at h2
theorem Sv {k : Int} {ts : List T} {i : Nat} {l : List T} {u : T} (hi : i < ts.length) (hl : Cd A k (ts.take i) c = .ok l) {c' : C} (hc : A.M0 c (0, more k) = .ok c') (hb : Ce A (ts.getD i t0) c' = .ok u) : Cd A k (ts.take (i + 1)) c = .ok (l ++ [u]) := by
 rw [Ac (d := t0) hi, Lj, hl]
 simp only [Ai.bind]
 rw [hc]; simp only; rw [hb]
theorem Qj {p : Int × List Cl} {s : Nat} {l : List T} {bs : List Br} (h : A.own c t.kind t.n t.name t.r = .ok (.inr p)) (hl : D3 A t.kind 0 t.kids c = .ok l) (hs : s < t.sys.length) (hb : Cn A t.kind (t.sys.take s) c = .ok bs) (hf : A.Ay c (t.sys.getD s Bd).Ay = .bad e ∨ ∃ f', A.Ay c (t.sys.getD s Bd).Ay = .ok (some f') ∧ Cd A t.kind (t.sys.getD s Bd).kids c = .bad e) : Ce A t c = .bad e := by
 have h1 : Cn A t.kind (t.sys.take (s + 1)) c = .bad e := by
  rw [Ac (d := Bd) hs, Jd, hb]
  simp only [Ai.bind]
  rcases hf with hf | ⟨f', hf, h2⟩
  ·rw [hf]
  ·rw [hf]; simp only; rw [h2]
 have h2 := Ob (m := t.sys.drop (s + 1)) h1
 rw [List.take_append_drop] at h2
 rw [Fv, h]; simp only [Ai.bind]; rw [hl]; simp only; rw [h2]
theorem Sw {k : Int} {ss : List Br} {s : Nat} {bs : List Br} {f' : List Cl} {ks : List T} (hs : s < ss.length) (hb : Cn A k (ss.take s) c = .ok bs) (hf : A.Ay c (ss.getD s Bd).Ay = .ok (some f')) (hk : Cd A k (ss.getD s Bd).kids c = .ok ks) : Cn A k (ss.take (s + 1)) c = .ok (bs ++ [.mk f' ks]) := by
 rw [Ac (d := Bd) hs, Jd, hb]
 simp only [Ai.bind]
 rw [hf]; simp only; rw [hk]
theorem A7c {p : Int × List Cl} {l : List T} {bs : List Br} (h : A.own c t.kind t.n t.name t.r = .ok (.inr p)) (hl : D3 A t.kind 0 t.kids c = .ok l) (hb : Cn A t.kind t.sys c = .ok bs) : Ce A t c = .ok (.mk t.kind p.1 t.name p.2 l bs) := by
 rw [Fv, h]; simp only [Ai.bind]; rw [hl]; simp only; rw [hb]
end
theorem Yr {g : Cl → Int × Cl} {l : List Cl} (h : ∀ c, u32 (g c).2) : ∀ c, c ∈ (E7 g l).2 → u32 c := by
 intro c hc
 unfold E7 at hc
 split at hc
 ·cases hc
 ·obtain ⟨d, _, rfl⟩ := List.mem_map.mp hc; exact h d
theorem B4s {g : Cl → Int × Cl} {l : List Cl} : (E7 g l).2.length ≤ l.length := by
 unfold E7
 split <;> simp
theorem R3 (k : Int) : 0 ≤ more k ∧ more k ≤ 1 := by unfold more; split <;> omega
theorem Nc {t : T} {i : Nat} (h : i < t.kids.length) : size (t.kids.getD i t0) < size t := by
 obtain ⟨p, hp, e⟩ := G8 (Ad (d := t0) h); exact e ▸ Lm hp
theorem Nb {t : T} {s k : Nat} (h : s < t.sys.length) (h2 : k < (t.sys.getD s Bd).kids.length) : size ((t.sys.getD s Bd).kids.getD k t0) < size t := by
 obtain ⟨p, hp, e⟩ := G6 (Ad (d := Bd) h) (Ad (d := t0) h2); exact e ▸ Lm hp
def Gl (vb : Int) (v : Int) (k n : Int) : Int := if k = 1 ∧ v ≤ n then n + vb else n
theorem B8u {vb db v d : Int} {t : T} {g : List Cl} (hg : B7 db t.r d = .ok g) (h : ¬ (t.kind = 1 ∧ v ≤ t.n ∧ 1000000000 - vb < t.n)) : (Bh vb db).own (v, d) t.kind t.n t.name t.r = .ok (.inr (Gl vb v t.kind t.n, g)) := by
 simp only [Bh, hg, Ai.bind, Gl]
 split
 ·rename_i h1
  rw [if_neg (fun h2 => h ⟨h1.1, h1.2, h2⟩)]
 ·rfl
theorem A0q {vb db v d : Int} {t : T} {e : Int} (hg : B7 db t.r d = .bad e) : (Bh vb db).own (v, d) t.kind t.n t.name t.r = .bad e := by
 simp only [Bh, hg, Ai.bind]
theorem A0r {vb db v d : Int} {t : T} {g : List Cl} (hg : B7 db t.r d = .ok g) (h : t.kind = 1 ∧ v ≤ t.n ∧ 1000000000 - vb < t.n) : (Bh vb db).own (v, d) t.kind t.n t.name t.r = .bad 100 := by
 simp only [Bh, hg, Ai.bind]
 rw [if_pos ⟨h.1, h.2.1⟩, if_pos h.2.2]
theorem R6 {vb db v d : Int} {f g : List Cl} (hg : B7 db f d = .ok g) : (Bh vb db).Ay (v, d) f = .ok (some g) := by simp only [Bh, hg, Ai.bind]
theorem X4 {vb db v d : Int} {f : List Cl} {e : Int} (hg : B7 db f d = .bad e) : (Bh vb db).Ay (v, d) f = .bad e := by simp only [Bh, hg, Ai.bind]
theorem A4p {vb db v d : Int} {b : Int × Int} : (Bh vb db).M0 (v, d) b = .ok (v + b.1, d + b.2) := rfl
theorem Xq {vb db : Int} {k : Int} {c : Int × Int} : ∀ {l l' : List Br}, Cn (Bh vb db) k l c = .ok l' → l'.length = l.length
 | [], l', h => by rw [E2] at h; injection h with h; subst h; rfl
 | a :: l, l', h => by
  rw [Dh] at h
  obtain ⟨o, ho, h⟩ := Ai.A3 h
  obtain ⟨g, _, hg⟩ := Ai.A3 (x := B7 db a.Ay c.2) ho
  injection hg with hg
  subst hg
  obtain ⟨ks', _, h⟩ := Ai.A3 h
  obtain ⟨bs', h3, h⟩ := Ai.A3 h
  injection h with h
  subst h
  simp [Xq h3]
theorem B9m : h0.er = t0 := by simp [h0, HT.er, HT.erL, HT.erB, t0]
theorem St.h0R {B : Bx} {Γ : List Fact} {Ms : List Aw} {w : World} (y : Tys) (hs : St B Γ Ms w) : St B Γ (Dk (Gf y h0) :: Ms) w := by
 have h1 := ((((hs.W9).W9).C7 2 y.b).C7 6 y.t).C7 2 y.c
 exact St.C5e (y := y) (k := 0) (n := 0) (nm := ByteArray.mk #[]) (r := []) (v := Bs) (u := Bs) (x := Bs) (ks := []) (ss := []) rfl rfl rfl rfl rfl rfl (by simpa [Ex, M8] using h1)
def Bi (t : T) (ns : List Int) (r : Ai T) : Int × T := if As t ≠ 0 then (As t, t0) else if ns.all (fun n => decide (0 ≤ n)) = false then (2, t0) else match r with
 | .ok u => (0, u)
 | .bad e => (e, t0)
theorem A8t {t : T} {ns : List Int} {r : Ai T} (h : As t ≠ 0) : Bi t ns r = (As t, t0) := by unfold Bi; rw [if_pos h]
theorem B4k {t : T} {ns : List Int} {r : Ai T} (h : As t = 0) (h2 : ns.all (fun n => decide (0 ≤ n)) = false) : Bi t ns r = (2, t0) := by unfold Bi; rw [if_neg (by simp [h]), if_pos h2]
theorem B9n {t u : T} {ns : List Int} {r : Ai T} (h : As t = 0) (h2 : ns.all (fun n => decide (0 ≤ n)) = true) (hr : r = .ok u) : Bi t ns r = (0, u) := by unfold Bi; rw [if_neg (by simp [h]), if_neg (by simp [h2]), hr]
theorem B4l {t : T} {e : Int} {ns : List Int} {r : Ai T} (h : As t = 0) (h2 : ns.all (fun n => decide (0 ≤ n)) = true) (hr : r = .bad e) : Bi t ns r = (e, t0) := by unfold Bi; rw [if_neg (by simp [h]), if_neg (by simp [h2]), hr]
theorem Spec.Lo {P : Program} {k : FuncId} {args : Array Value} {pre : List Fact} (y : Tys) {u : T} (g : Value → Value) (h : Spec P k args pre [] (fun x : {h : HT // h.er = u} => g (.agg (tc u x.1.vr x.1.vk x.1.vs).toArray)) (fun _ => []) (fun x => [Dk (Gf y x.1)])) (hok : ∀ ok w, St ⟨ok, B0 [], w⟩ pre [] w → Lr u) :
  Spec P k args pre [] (fun x : SH × SH × SH => g (.agg (tc u x.1 x.2.1 x.2.2).toArray)) (fun x => [RT u x.1 x.2.1 x.2.2]) (fun _ => []) := fun ok w hk hs => (h ok w hk hs).mono fun e w' hh => by
 obtain ⟨x, he, hs'⟩ := hh
 have h1 : St ⟨ok, B0 [], w⟩ [] (Gf y x.1 ++ []) w' := hs'.unpack
 have h2 := St.Lo y trivial x.1 (by rw [x.2]; exact hok ok w hs) h1
 rw [x.2] at h2
 exact ⟨(x.1.vr, x.1.vk, x.1.vs), he, h2⟩
theorem Ld.Lo {P : Program} {Te : TypeId} {k : FuncId} {args : Array Value} {pre : List Fact} (y : Tys) {r : Ai T} (h : Ld P Te k args pre r (fun (u : T) => fun x : {h : HT // h.er = u} => .agg (tc u x.1.vr x.1.vk x.1.vs).toArray) (fun _ _ => []) (fun (u : T) => fun x : {h : HT // h.er = u} => [Dk (Gf y x.1)])) (hok : ∀ u, r = .ok u → ∀ ok w, St ⟨ok, B0 [], w⟩ pre [] w → Lr u) :
  Ld P Te k args pre r (fun (u : T) => fun x : SH × SH × SH => .agg (tc u x.1 x.2.1 x.2.2).toArray) (fun u x => [RT u x.1 x.2.1 x.2.2]) (fun _ _ => []) := ⟨fun u hu => Spec.Lo y (fun v => v) (h.1 u hu) (hok u hu), h.2⟩
abbrev Ag (l : List Cl) : Prop := (∀ c, c ∈ l → u32 c) ∧ l.length * 8 ≤ reach
section
variable {C : Type} {A : Tr C}
mutual
theorem U9 (ho : ∀ c k n nm r p, Ap k → Ap n → Ag r → A.own c k n nm r = .ok (.inr p) → Ap p.1 ∧ Ag p.2) (hi : ∀ c k n nm r u, A.own c k n nm r = .ok (.inl u) → Lr u) (hf : ∀ c f f', Ag f → A.Ay c f = .ok (some f') → Ag f') : ∀ (t : T) (c : C) (u : T), Lr t → Ce A t c = .ok u → Lr u
 | .mk k n nm r ks ss, c, u, h, hu => by
  simp only [Lr] at h
  obtain ⟨h1, h2, h3, h4, h5, h6, h7, h8⟩ := h
  rw [Fv] at hu
  simp only [T.kind, T.n, T.name, T.r, T.kids, T.sys] at hu
  obtain ⟨o, h9, hu⟩ := Ai.A3 hu
  cases o with
  | inl v => injection hu with hu; subst hu; exact hi _ _ _ _ _ _ h9
  | inr p =>
   obtain ⟨ks', h10, hu⟩ := Ai.A3 hu
   obtain ⟨ss', h11, hu⟩ := Ai.A3 hu
   injection hu with hu
   subst hu
   obtain ⟨p1, p2⟩ := ho _ _ _ _ _ _ h1 h2 h4 h9
   simp only [Lr]
   exact ⟨h1, p1, h3, p2, by rw [Oa h10]; exact h5, Nat.le_trans (Nat.mul_le_mul_right _ (Kq h11)) h6, Xp ho hi hf ks 0 c ks' h7 h10, Rz ho hi hf ss c ss' h8 h11⟩
theorem Xp (ho : ∀ c k n nm r p, Ap k → Ap n → Ag r → A.own c k n nm r = .ok (.inr p) → Ap p.1 ∧ Ag p.2) (hi : ∀ c k n nm r u, A.own c k n nm r = .ok (.inl u) → Lr u) (hf : ∀ c f f', Ag f → A.Ay c f = .ok (some f') → Ag f') {kd : Int} : ∀ (ts : List T) (i : Nat) (c : C) (us : List T), To ts → D3 A kd i ts c = .ok us → To us
 | [], i, c, us, h, hu => by rw [Eh] at hu; injection hu with hu; subst hu; simp only [To]
 | t :: ts, i, c, us, h, hu => by
  simp only [To] at h
  rw [Du] at hu
  obtain ⟨c', _, hu⟩ := Ai.A3 hu
  obtain ⟨t', h2, hu⟩ := Ai.A3 hu
  obtain ⟨ts', h3, hu⟩ := Ai.A3 hu
  injection hu with hu
  subst hu
  simp only [To]
  exact ⟨U9 ho hi hf t c' t' h.1 h2, Xp ho hi hf ts (i + 1) c ts' h.2 h3⟩
theorem Xn (ho : ∀ c k n nm r p, Ap k → Ap n → Ag r → A.own c k n nm r = .ok (.inr p) → Ap p.1 ∧ Ag p.2) (hi : ∀ c k n nm r u, A.own c k n nm r = .ok (.inl u) → Lr u) (hf : ∀ c f f', Ag f → A.Ay c f = .ok (some f') → Ag f') {kd : Int} : ∀ (ts : List T) (c : C) (us : List T), To ts → Cd A kd ts c = .ok us → To us
 | [], c, us, h, hu => by rw [Eg] at hu; injection hu with hu; subst hu; simp only [To]
 | t :: ts, c, us, h, hu => by
  simp only [To] at h
  rw [Dt] at hu
  obtain ⟨c', _, hu⟩ := Ai.A3 hu
  obtain ⟨t', h2, hu⟩ := Ai.A3 hu
  obtain ⟨ts', h3, hu⟩ := Ai.A3 hu
  injection hu with hu
  subst hu
  simp only [To]
  exact ⟨U9 ho hi hf t c' t' h.1 h2, Xn ho hi hf ts c ts' h.2 h3⟩
theorem Rz (ho : ∀ c k n nm r p, Ap k → Ap n → Ag r → A.own c k n nm r = .ok (.inr p) → Ap p.1 ∧ Ag p.2) (hi : ∀ c k n nm r u, A.own c k n nm r = .ok (.inl u) → Lr u) (hf : ∀ c f f', Ag f → A.Ay c f = .ok (some f') → Ag f') {kd : Int} : ∀ (bs : List Br) (c : C) (us : List Br), okB bs → Cn A kd bs c = .ok us → okB us
 | [], c, us, h, hu => by rw [E2] at hu; injection hu with hu; subst hu; simp only [okB]
 | .mk f ks :: bs, c, us, h, hu => by
  simp only [okB] at h
  obtain ⟨h1, h2, h3, h4⟩ := h
  rw [Dh] at hu
  simp only [Br.Ay, Br.kids] at hu
  obtain ⟨o, h5, hu⟩ := Ai.A3 hu
  cases o with
  | none => exact Rz ho hi hf bs c us h4 hu
  | some f' =>
   obtain ⟨ks', h6, hu⟩ := Ai.A3 hu
   obtain ⟨bs', h7, hu⟩ := Ai.A3 hu
   injection hu with hu
   subst hu
   simp only [okB]
   exact ⟨hf _ _ _ h1 h5, by rw [O9 h6]; exact h2, Xn ho hi hf ks c ks' h3 h6, Rz ho hi hf bs c bs' h4 h7⟩
end
end
theorem Ci : Ag [] := ⟨fun c hc => (by cases hc), by unfold reach; decide⟩
theorem Yn {l : List Cl} (h : ∀ c, c ∈ l → u32 c) : Ag (Bc l).2 := by
 unfold Bc
 split
 ·exact Ci
 ·split
  ·exact Ci
  ·rename_i h64
   exact ⟨fun c hc => h c (E5.mp hc).1, by show (Ei l).length * 8 ≤ reach; unfold reach; omega⟩
theorem Tb (l : List Cl) (f b : Int) : Ag (Aa l f b).2 := by
 unfold Aa
 split
 ·exact Ci
 ·split
  ·exact Ci
  ·exact Yn (Yr (fun c => Q1 c f b))
theorem Um {l g : List Cl} {f b : Int} (h : Ag l) (hg : B7 b l f = .ok g) : Ag g := by
 unfold B7 at hg
 split at hg
 ·injection hg with hg; subst hg; exact h
 ·split at hg
  ·injection hg with hg; subst hg; exact Tb l f b
  ·cases hg
theorem A4n {vb db : Int} (hv : 0 ≤ vb ∧ vb ≤ 1000000) {t u : T} {c : Int × Int} (h : Lr t) (hu : Ce (Bh vb db) t c = .ok u) : Lr u := by
 refine U9 (A := Bh vb db) ?_ ?_ ?_ t c u h hu
 ·intro c k n nm r p _ hn hr ho
  obtain ⟨g, hg, ho⟩ := Ai.A3 (x := B7 db r c.2) ho
  have hgo := Um hr hg
  split at ho
  ·rename_i h1
   split at ho
   ·cases ho
   ·injection ho with ho; injection ho with ho; subst ho
    exact ⟨by unfold Ap at *; dsimp only; omega, hgo⟩
  ·injection ho with ho; injection ho with ho; subst ho
   exact ⟨hn, hgo⟩
 ·intro c k n nm r u ho
  obtain ⟨g, hg, ho⟩ := Ai.A3 (x := B7 db r c.2) ho
  split at ho
  ·split at ho
   ·cases ho
   ·injection ho with ho; cases ho
  ·injection ho with ho; cases ho
 ·intro c f f' hr ho
  obtain ⟨g, hg, ho⟩ := Ai.A3 (x := B7 db f c.2) ho
  injection ho with ho; injection ho with ho; subst ho
  exact Um hr hg
theorem A8a : Lr t0 := by simp [t0, Lr, To, okB, Ap, G9, reach]; decide
theorem guard_okT' {t : T} {ns : List Int} {r : Ai T} (h : ns.all (fun n => decide (0 ≤ n)) = true → ∀ u, r = .ok u → Lr u) : Lr (Bi t ns r).2 := by
 unfold Bi
 split
 ·exact A8a
 ·split
  ·exact A8a
  ·rename_i ha
   cases r with
   | ok u => exact h (by simpa using ha) u rfl
   | bad e => exact A8a
abbrev A9z (t : T) (f b : Int) : Ai T := Ce (Bh b 0) t (if 2000000000 < f then 2000000000 else f, 0)
abbrev B1u (t : T) (f b : Int) : Ai T := Ce (Bh 0 b) t (0, if 24 < f then 24 else f)
def Ch (b : Int) : Int := IntKind.i64.wrap (1000000 - b)
theorem B1h (b : Int) : Ap (Ch b) := by
 have h : Ch b = (1000000 - b + 9223372036854775808) % 18446744073709551616 - 9223372036854775808 := by
  unfold Ch; rw [IntKind.wrap_i64]
 unfold Ap; rw [h]; omega
theorem B1g {b : Int} (hb : Ap b) (h0 : 0 ≤ b) (h : 0 ≤ Ch b) : b ≤ 1000000 := by
 have h1 : Ch b = (1000000 - b + 9223372036854775808) % 18446744073709551616 - 9223372036854775808 := by
  unfold Ch; rw [IntKind.wrap_i64]
 unfold Ap at hb; omega
def Be (t : T) (f b : Int) : Int × T := Bi t [f, b, Ch b] (A9z t f b)
def Bf (t : T) (f b : Int) : Int × T := Bi t [f, b] (B1u t f b)
theorem Ip {vb db : Int} {c : Int × Int} {k n : Int} {nm : ByteArray} {r : List Cl} {u : T} : (Bh vb db).own c k n nm r ≠ .ok (.inl u) := by
 intro ho
 obtain ⟨g, hg, ho⟩ := Ai.A3 (x := B7 db r c.2) ho
 split at ho
 ·split at ho
  ·cases ho
  ·injection ho with ho; cases ho
 ·injection ho with ho; cases ho
mutual
theorem Oh {vb db : Int} : ∀ {t u : T} {c : Int × Int}, Ce (Bh vb db) t c = .ok u → size u = size t
 | .mk k n nm r ks ss, u, c, hu => by
  rw [Fv] at hu
  simp only [T.kind, T.n, T.name, T.r, T.kids, T.sys] at hu
  obtain ⟨o, h9, hu⟩ := Ai.A3 hu
  cases o with
  | inl v => exact absurd h9 Ip
  | inr p =>
   obtain ⟨ks', h10, hu⟩ := Ai.A3 hu
   obtain ⟨ss', h11, hu⟩ := Ai.A3 hu
   injection hu with hu
   subst hu
   rw [P5, P5]
   simp only [T.kids, T.sys]
   rw [Vd h10, Vf h11]
theorem Vd {vb db k : Int} : ∀ {ts us : List T} {i : Nat} {c : Int × Int}, D3 (Bh vb db) k i ts c = .ok us → us.map size = ts.map size
 | [], us, i, c, hu => by rw [Eh] at hu; injection hu with hu; subst hu; rfl
 | t :: ts, us, i, c, hu => by
  rw [Du] at hu
  obtain ⟨c', _, hu⟩ := Ai.A3 hu
  obtain ⟨t', h2, hu⟩ := Ai.A3 hu
  obtain ⟨ts', h3, hu⟩ := Ai.A3 hu
  injection hu with hu
  subst hu
  simp only [List.map_cons]
  rw [Oh h2, Vd h3]
theorem Vc {vb db k : Int} : ∀ {ts us : List T} {c : Int × Int}, Cd (Bh vb db) k ts c = .ok us → us.map size = ts.map size
 | [], us, c, hu => by rw [Eg] at hu; injection hu with hu; subst hu; rfl
 | t :: ts, us, c, hu => by
  rw [Dt] at hu
  obtain ⟨c', _, hu⟩ := Ai.A3 hu
  obtain ⟨t', h2, hu⟩ := Ai.A3 hu
  obtain ⟨ts', h3, hu⟩ := Ai.A3 hu
  injection hu with hu
  subst hu
  simp only [List.map_cons]
  rw [Oh h2, Vc h3]
theorem Vf {vb db k : Int} : ∀ {bs us : List Br} {c : Int × Int}, Cn (Bh vb db) k bs c = .ok us → (us.map fun b => b.kids.map size) = bs.map fun b => b.kids.map size
 | [], us, c, hu => by rw [E2] at hu; injection hu with hu; subst hu; rfl
 | .mk f ks :: bs, us, c, hu => by
  rw [Dh] at hu
  simp only [Br.Ay, Br.kids] at hu
  obtain ⟨o, h5, hu⟩ := Ai.A3 hu
  obtain ⟨g, _, h6⟩ := Ai.A3 (x := B7 db f c.2) h5
  injection h6 with h6
  subst h6
  obtain ⟨ks', h7, hu⟩ := Ai.A3 hu
  obtain ⟨bs', h8, hu⟩ := Ai.A3 hu
  injection hu with hu
  subst hu
  show (ks'.map size :: (bs'.map fun b => b.kids.map size)) = (ks.map size :: (bs.map fun b => b.kids.map size))
  rw [Vc h7, Vf h8]
end
theorem A1q {t : T} {v d : Int} {b : Bool} : Mx t v d b = true ↔ (¬ (b = true ∧ 24 < d)) ∧ Gx t v d = true ∧ ∀ p, p ∈ parts t → Mx p.1 (IntKind.i64.wrap (v + if v < 0 then 0 else p.2.1)) (d + p.2.2) b = true := by
  rw [A1t, Bool.and_eq_true, List.all_eq_true]
  simp only [Bool.not_eq_true', Bool.or_eq_false_iff, Bool.and_eq_false_iff, decide_eq_false_iff_not, Bool.not_eq_false']
  constructor
  · rintro ⟨⟨h1, h2⟩, h3⟩
    refine ⟨?_, h2, h3⟩
    rintro ⟨h4, h5⟩
    rcases h1 with h1 | h1
    · rw [h1] at h4; cases h4
    · exact h1 h5
  · rintro ⟨h1, h2, h3⟩
    refine ⟨⟨?_, h2⟩, h3⟩
    cases b
    · exact .inl rfl
    · exact .inr (fun h => h1 ⟨rfl, h⟩)
theorem B0u {t : T} {v d : Int} : Gx t v d = true ↔ Gq t = false ∧
    (if t.kind = 1 then t.r.length = 0 ∧ 0 ≤ t.n ∧ (v < 0 ∨ t.n < v)
     else if t.kind = 2 then t.r.length = 0 ∧ Kd t.name = true
     else if t.kind = 13 ∨ t.kind = 21 ∨ t.kind = 26 then Ab t.r = true ∧ within t.r d = true
     else if t.kind = 14 then A8 t.r = true ∧ within t.r d = true
     else (∀ x, x ∈ t.sys → Mu t d x = true) ∧ t.r.length = 0) := by
  unfold Gx
  rw [Bool.and_eq_true, Bool.not_eq_true']
  apply and_congr Iff.rfl
  split
  · simp only [Bool.and_eq_true, decide_eq_true_eq, Bool.or_eq_true, and_assoc]; constructor <;> (rintro ⟨h1, h2⟩; exact ⟨by omega, h2⟩)
  · split
    · simp only [Bool.and_eq_true, decide_eq_true_eq]; constructor <;> (rintro ⟨h1, h2⟩; exact ⟨by omega, h2⟩)
    · split
      · simp only [Bool.and_eq_true]
      · split
        · simp only [Bool.and_eq_true]
        · simp only [Bool.and_eq_true, decide_eq_true_eq, List.all_eq_true]; constructor <;> (rintro ⟨h1, h2⟩; exact ⟨h1, by omega⟩)
theorem within_iff {l : List Cl} {d : Int} (h0 : 0 ≤ d) : within l d = true ↔ ∀ i : Nat, d ≤ (i : Int) → (F1 l).testBit i = false := by
  have hlt := B9y l
  unfold within
  rw [Bool.or_eq_true, decide_eq_true_eq, decide_eq_true_eq]
  by_cases h24 : 24 ≤ d
  · constructor
    · intro _ i hi
      exact Nat.testBit_lt_two_pow (Nat.lt_of_lt_of_le hlt (Nat.pow_le_pow_right (n := 2) A4 (show 24 ≤ i by omega)))
    · intro _; exact .inl h24
  · have hm : min d.toNat 32 = d.toNat := by omega
    rw [hm]
    constructor
    · rintro (h | h) i hi
      · exact absurd h h24
      · have h1 : F1 l / 2 ^ d.toNat = 0 := by omega
        have h2 : F1 l < 2 ^ d.toNat := by
          have := Nat.div_eq_zero_iff.mp h1
          have hp : 0 < 2 ^ d.toNat := Nat.pow_pos A4
          omega
        exact Nat.testBit_lt_two_pow (Nat.lt_of_lt_of_le h2 (Nat.pow_le_pow_right (n := 2) A4 A4))
    · intro h
      right
      have h2 : F1 l < 2 ^ d.toNat := Nat.lt_pow_two_of_testBit _ (fun i hi => h i A4)
      rw [Nat.div_eq_of_lt h2]; rfl
theorem Hn {t : T} {p : Part} (hp : p ∈ parts t) : (∃ i, i < t.kids.length ∧ p = (t.kids.getD i t0, binds t.kind (i : Int))) ∨ ∃ s k, s < t.sys.length ∧ k < (t.sys.getD s Bd).kids.length ∧ p = ((t.sys.getD s Bd).kids.getD k t0, 0, more t.kind) := by
 unfold parts at hp
 rcases List.mem_append.mp hp with hp | hp
 ·left
  have key : ∀ (ks : List T) (s : Nat), p ∈ Cx t.kind s ks → ∃ i, i < ks.length ∧ p = (ks.getD i t0, binds t.kind ((s + i : Nat) : Int)) := by
   intro ks
   induction ks with
   | nil => intro s h; simp [Cx] at h
   | cons k ks ih =>
    intro s h
    simp only [Cx, List.mem_cons] at h
    rcases h with h | h
    ·exact ⟨0, by simp, by simpa using h⟩
    ·obtain ⟨i, hi, e⟩ := ih (s + 1) h
     exact ⟨i + 1, by simpa using hi, by rw [e]; simp only [List.getD_cons_succ]; rw [show s + 1 + i = s + (i + 1) by omega]⟩
  obtain ⟨i, hi, e⟩ := key t.kids 0 hp
  exact ⟨i, hi, by rw [e]; simp⟩
 ·right
  have key : ∀ (bs : List Br), p ∈ Ct t.kind bs → ∃ s k, s < bs.length ∧ k < (bs.getD s Bd).kids.length ∧ p = ((bs.getD s Bd).kids.getD k t0, 0, more t.kind) := by
   intro bs
   induction bs with
   | nil => intro h; simp [Ct] at h
   | cons b bs ih =>
    intro h
    simp only [Ct, List.mem_append, List.mem_map] at h
    rcases h with ⟨k, hk, e⟩ | h
    ·obtain ⟨j, hj, e2⟩ := List.mem_iff_getElem.mp hk
     exact ⟨0, j, by simp, by simpa using hj, by rw [← e]; simp only [List.getD_cons_zero]; rw [Cy (d := t0) hj, e2]⟩
    ·obtain ⟨s, k, h1, h2, e⟩ := ih h
     exact ⟨s + 1, k, by simpa using h1, by simpa using h2, by rw [e]; simp⟩
  exact key t.sys hp
theorem A5g {α : Type} (f : α → Nat) (i : Nat) : ∀ (l : List α) (a : Nat), (l.foldl (fun a x => a ||| f x) a).testBit i = true ↔ a.testBit i = true ∨ ∃ x, x ∈ l ∧ (f x).testBit i = true
 | [], a => by simp
 | x :: l, a => by
  rw [List.foldl_cons, A5g f i l, Nat.testBit_or]
  simp only [Bool.or_eq_true, List.mem_cons, exists_eq_or_imp, or_assoc]
def Se (k n : Int) (nm : ByteArray) (r : List Cl) : Prop :=
 (k ≠ 1 → n = 0) ∧ (k ≠ 2 → nm.toList = (ByteArray.mk #[]).toList) ∧ (k = 1 → r = [] ∧ 0 ≤ n) ∧ (k = 2 → r = [] ∧ Kd nm = true) ∧ (k = 13 ∨ k = 21 ∨ k = 26 → Ab r = true) ∧ (k = 14 → A8 r = true) ∧ (k ≠ 13 ∧ k ≠ 21 ∧ k ≠ 26 ∧ k ≠ 14 → r = [])
mutual
def F0 : T → Prop
 | .mk k n nm r ks ss => Se k n nm r ∧ D6 k = (ks.length : Int) ∧ (Dj k = 0 → ss = []) ∧ Tc ks ∧ Yt k ss
def Tc : List T → Prop
 | [] => True
 | t :: ts => F0 t ∧ Tc ts
def Yt (k : Int) : List Br → Prop
 | [] => True
 | .mk f ks :: bs => (ks.length : Int) = Dj k ∧ A8 f = true ∧ Tc ks ∧ Yt k bs
end
theorem Ew {k : Int} (h : k = 1 ∨ k = 2 ∨ k = 13 ∨ k = 21 ∨ k = 26 ∨ k = 14) : Dj k = 0 := by
 unfold Dj
 rcases h with h | h | h | h | h | h <;> subst h <;> decide
theorem Ru (l : List Cl) {d : Int} (h : 24 ≤ d) : within l d = true := by unfold within; rw [decide_eq_true h]; rfl
theorem len_nil {α : Type} {l : List α} : ((l.length : Int) = 0) ↔ l = [] := by
 constructor
 ·intro h; exact List.eq_nil_of_length_eq_zero A4
 ·rintro rfl; rfl
theorem Ho {k n : Int} {nm : ByteArray} {r : List Cl} {ks : List T} {ss : List Br} {d : Int} (hd : 24 ≤ d) : Gx (.mk k n nm r ks ss) (-1) d = true ↔ Se k n nm r ∧ D6 k = (ks.length : Int) ∧ (Dj k = 0 → ss = []) ∧ ∀ b, b ∈ ss → (b.kids.length : Int) = Dj k ∧ A8 b.Ay = true := by
 have hB : ∀ b : Br, Mu (.mk k n nm r ks ss) d b = (decide ((b.kids.length : Int) = Dj k) && A8 b.Ay) := fun b => by
  unfold Mu; rw [Ru _ hd, Bool.and_true]; rfl
 have hL : (0 : Int) < (ss.length : Int) ↔ ss ≠ [] := by
  constructor
  ·intro h e; subst e; simp at h
  ·intro h; have := List.length_pos_iff.mpr h; omega
 have hs : ∀ p : Bool, (ss.all (Mu (.mk k n nm r ks ss) d) = true) ↔ ∀ b, b ∈ ss → (b.kids.length : Int) = Dj k ∧ A8 b.Ay = true := fun _ => by
  rw [List.all_eq_true]
  exact forall_congr' fun b => forall_congr' fun _ => by rw [hB]; simp
 unfold Gx Gq Se
 simp only [T.kind, T.n, T.name, T.r, T.kids, T.sys, Ru _ hd, Bool.and_true, Bool.and_eq_true, Bool.not_eq_true', Bool.or_eq_false_iff, Bool.and_eq_false_iff, decide_eq_false_iff_not, Decidable.not_not, ne_eq, Int.not_lt, Bool.not_eq_false', beq_iff_eq]
 constructor
 ·rintro ⟨⟨⟨⟨h1, h2⟩, h3⟩, h4⟩, h5⟩
  replace h1 : D6 k = (ks.length : Int) := Decidable.not_not.mp (of_decide_eq_false h1)
  replace h2 : k = 1 ∨ n = 0 := h2.imp (fun h => Decidable.not_not.mp (of_decide_eq_false h)) (fun h => Decidable.not_not.mp (of_decide_eq_false h))
  replace h3 : k = 2 ∨ nm.toList = (ByteArray.mk #[]).toList := h3.imp (fun h => Decidable.not_not.mp (of_decide_eq_false h)) id
  replace h4 : ¬ Dj k = 0 ∨ ¬ (0 : Int) < (ss.length : Int) := h4.imp (fun h => of_decide_eq_false h) (fun h => of_decide_eq_false h)
  have hss : Dj k = 0 → ss = [] := by
   intro h
   rcases h4 with h4 | h4
   ·exact absurd h h4
   ·exact List.eq_nil_of_length_eq_zero A4
  split at h5
  ·rename_i hk
   have he := hss (Ew A4)
   subst he
   simp only [Bool.and_eq_true, decide_eq_true_eq] at h5
   exact ⟨⟨by omega, fun _ => h3.resolve_left A4, fun _ => ⟨len_nil.mp (of_decide_eq_true h5.1.1), of_decide_eq_true h5.1.2⟩, by omega, by omega, by omega, fun _ => len_nil.mp (of_decide_eq_true h5.1.1)⟩, h1, hss, fun b hb => by cases hb⟩
  ·split at h5
   ·rename_i hk1 hk
    have he := hss (Ew A4)
    subst he
    simp only [Bool.and_eq_true, decide_eq_true_eq] at h5
    exact ⟨⟨by omega, fun h => absurd hk h, by omega, fun _ => ⟨len_nil.mp (of_decide_eq_true h5.1), h5.2⟩, by omega, by omega, fun _ => len_nil.mp (of_decide_eq_true h5.1)⟩, h1, hss, fun b hb => by cases hb⟩
   ·split at h5
    ·rename_i hk1 hk2 hk
     have he := hss (Ew A4)
     subst he
     exact ⟨⟨by omega, fun _ => h3.resolve_left A4, by omega, by omega, fun _ => h5, by omega, by omega⟩, h1, hss, fun b hb => by cases hb⟩
    ·split at h5
     ·rename_i hk1 hk2 hk3 hk
      have he := hss (Ew A4)
      subst he
      exact ⟨⟨by omega, fun _ => h3.resolve_left A4, by omega, by omega, by omega, fun _ => h5, by omega⟩, h1, hss, fun b hb => by cases hb⟩
     ·rename_i hk1 hk2 hk3 hk4
      simp only [Bool.and_eq_true, decide_eq_true_eq] at h5
      exact ⟨⟨by omega, fun _ => h3.resolve_left A4, by omega, by omega, by omega, by omega, fun _ => len_nil.mp (of_decide_eq_true h5.2)⟩, h1, hss, (hs true).mp h5.1⟩
 ·rintro ⟨⟨a1, a2, a3, a4, a5, a6, a7⟩, b1, b2, b3⟩
  refine ⟨⟨⟨⟨decide_eq_false (Decidable.not_not.mpr b1), ?_⟩, ?_⟩, ?_⟩, ?_⟩
  ·by_cases h : k = 1
   ·exact .inl (decide_eq_false (Decidable.not_not.mpr h))
   ·exact .inr (decide_eq_false (Decidable.not_not.mpr (a1 h)))
  ·by_cases h : k = 2
   ·exact .inl (decide_eq_false (Decidable.not_not.mpr h))
   ·exact .inr (a2 h)
  ·by_cases h : Dj k = 0
   ·exact .inr (decide_eq_false (by rw [b2 h]; decide))
   ·exact .inl (decide_eq_false h)
  ·split
   ·rename_i h; simp [(a3 h).1, (a3 h).2]
   ·split
    ·rename_i h; simp [(a4 h).1, (a4 h).2]
    ·split
     ·rename_i h; exact a5 h
     ·split
      ·rename_i h; exact a6 h
      ·rename_i h1 h2 h3 h4
       rw [Bool.and_eq_true, (hs true)]
       exact ⟨b3, by simp [a7 A4]⟩
theorem Om : ∀ {ts : List T}, Tc ts ↔ ∀ t, t ∈ ts → F0 t
 | [] => by simp [Tc]
 | t :: ts => by simp [Tc, Om (ts := ts)]
theorem On {k : Int} : ∀ {bs : List Br}, Yt k bs ↔ ∀ b, b ∈ bs → (b.kids.length : Int) = Dj k ∧ A8 b.Ay = true ∧ Tc b.kids
 | [] => by simp [Yt]
 | .mk f ks :: bs => by
  simp only [Yt, On (bs := bs), List.forall_mem_cons, Br.kids, Br.Ay]
  constructor
  ·rintro ⟨h1, h2, h3, h4⟩; exact ⟨⟨h1, h2, h3⟩, h4⟩
  ·rintro ⟨⟨h1, h2, h3⟩, h4⟩; exact ⟨h1, h2, h3, h4⟩
theorem L6 {t : T} : F0 t ↔ Se t.kind t.n t.name t.r ∧ D6 t.kind = (t.kids.length : Int) ∧ (Dj t.kind = 0 → t.sys = []) ∧ Tc t.kids ∧ Yt t.kind t.sys := by
 obtain ⟨k, n, nm, r, ks, ss⟩ := t
 simp only [F0, T.kind, T.n, T.name, T.r, T.kids, T.sys]
theorem M4 {t : T} : F0 t ↔ (∀ d : Int, 24 ≤ d → Gx t (-1) d = true) ∧ ∀ p, p ∈ parts t → F0 p.1 := by
 rw [L6, Om, On]
 have ho : ∀ d : Int, 24 ≤ d → (Gx t (-1) d = true ↔ Se t.kind t.n t.name t.r ∧ D6 t.kind = (t.kids.length : Int) ∧ (Dj t.kind = 0 → t.sys = []) ∧ ∀ b, b ∈ t.sys → (b.kids.length : Int) = Dj t.kind ∧ A8 b.Ay = true) := by
  intro d hd
  obtain ⟨k, n, nm, r, ks, ss⟩ := t
  exact Ho hd
 constructor
 ·rintro ⟨h1, h2, h3, h4, h5⟩
  refine ⟨fun d hd => (ho d hd).mpr ⟨h1, h2, h3, fun b hb => ⟨(h5 b hb).1, (h5 b hb).2.1⟩⟩, fun p hp => ?_⟩
  rcases Hn hp with ⟨i, hi, rfl⟩ | ⟨s, k, hs, hk, rfl⟩
  ·exact h4 _ (Ad hi)
  ·exact Om.mp (h5 _ (Ad hs)).2.2 _ (Ad hk)
 ·rintro ⟨h1, h2⟩
  obtain ⟨a1, a2, a3, a4⟩ := (ho 24 A4).mp (h1 24 A4)
  refine ⟨a1, a2, a3, fun k hk => ?_, fun b hb => ⟨(a4 b hb).1, (a4 b hb).2, Om.mpr fun k hk => ?_⟩⟩
  ·obtain ⟨p, hp, e⟩ := G8 hk; exact e ▸ h2 p hp
  ·obtain ⟨p, hp, e⟩ := G6 hb hk; exact e ▸ h2 p hp
theorem C0y : ∀ (t : T) (d : Int), 24 ≤ d → (Mx t (-1) d false = true ↔ F0 t) := T.ind fun t ih d hd => by
 rw [A1q, M4]
 have hw : ∀ p : Part, IntKind.i64.wrap (-1 + if (-1 : Int) < 0 then 0 else p.2.1) = -1 := fun p => by rw [if_pos Ii]; decide
 constructor
 ·rintro ⟨_, h2, h3⟩
  refine ⟨fun d' hd' => ?_, fun p hp => ?_⟩
  ·obtain ⟨k, n, nm, r, ks, ss⟩ := t
   exact (Ho hd').mpr ((Ho hd).mp h2)
  ·have h4 := h3 p hp
   rw [hw] at h4
   have h5 := Kv hp
   exact (ih p hp (d + p.2.2) A4).mp h4
 ·rintro ⟨h1, h2⟩
  refine ⟨by simp, h1 d hd, fun p hp => ?_⟩
  rw [hw]
  have h5 := Kv hp
  exact (ih p hp (d + p.2.2) A4).mpr (h2 p hp)
theorem A5d {t : T} : As t = 0 ↔ sized t = 0 ∧ F0 t := by rw [A5c, C0y t 24 A4]
section
variable {C : Type} {A : Tr C}
end
section
variable {CA CB CC : Type} {A : Tr CA} {B : Tr CB} {D : Tr CC} (R : CA → CB → CC → Prop)
variable {R}
end
section
variable {CA CC : Type} {A : Tr CA} {D : Tr CC} (R : CA → CC → Prop)
variable {R}
end
theorem R4 {s : Nat} {f b : Int} (h : (Ak s f b).1 = 0) (i : Nat) : 0 ≤ f ∧ 0 ≤ b ∧ (Ak s f b).2.testBit i = ((decide (i < min f.toNat 24) && (s &&& 16777215).testBit i) || (decide (min f.toNat 24 + b.toNat ≤ i) && (s &&& 16777215).testBit (i - b.toNat))) := by
 by_cases h0 : f < 0 ∨ b < 0
 ·rw [Ak, if_pos h0] at h; cases h
 ·have hq : ∀ j, (s &&& 16777215).testBit j = true → j < 24 := fun j hj => by rw [G0, Bool.and_eq_true, decide_eq_true_eq] at hj; exact hj.1
  refine ⟨by omega, by omega, ?_⟩
  generalize hF : min f.toNat 24 = F at *
  by_cases h1 : B9 (s &&& 16777215) (2 ^ (min f.toNat 24) - 1) = 0
  ·rw [Ak, if_neg h0, if_pos h1]
   show ((s &&& 16777215) &&& (2 ^ (min f.toNat 24) - 1)).testBit i = _
   rw [hF] at h1 ⊢
   rw [Nat.testBit_and, L3]
   have h2 : (decide (F + b.toNat ≤ i) && (s &&& 16777215).testBit (i - b.toNat)) = false := by
    cases h3 : (s &&& 16777215).testBit (i - b.toNat) with
    | false => rw [Bool.and_false]
    | true =>
     rw [Bool.and_true]
     refine decide_eq_false (fun h4 => ?_)
     have h5 : (B9 (s &&& 16777215) (2 ^ F - 1)).testBit (i - b.toNat) = true := by
      rw [H2, L3, h3, decide_eq_true (by have := hq _ h3; omega), decide_eq_false A4]; rfl
     rw [h1, Nat.zero_testBit] at h5
     cases h5
   rw [h2, Bool.or_false, Bool.and_comm]
  ·by_cases h2 : 24 ≤ b ∨ 16777215 < B9 (s &&& 16777215) (2 ^ (min f.toNat 24) - 1) * 2 ^ b.toNat
   ·rw [Ak, if_neg h0, if_neg h1, if_pos h2] at h; cases h
   ·rw [Ak, if_neg h0, if_neg h1, if_neg h2]
    show (((s &&& 16777215) &&& (2 ^ (min f.toNat 24) - 1)) ||| (B9 (s &&& 16777215) (2 ^ (min f.toNat 24) - 1) * 2 ^ b.toNat)).testBit i = _
    rw [hF, Nat.testBit_or, Nat.testBit_and, L3, Nat.testBit_mul_two_pow, H2, L3]
    cases h3 : (s &&& 16777215).testBit (i - b.toNat) with
    | false => simp [Bool.and_comm]
    | true =>
     have h4 := hq _ h3
     rw [decide_eq_true (show i - b.toNat < 32 by omega)]
     simp only [Bool.and_true, Bool.true_and]
     rw [Bool.and_comm]
     congr 1
     by_cases h5 : F + b.toNat ≤ i
     ·rw [decide_eq_true (show b.toNat ≤ i by omega), decide_eq_false (show ¬ i - b.toNat < F by omega), decide_eq_true h5]; rfl
     ·rw [decide_eq_false h5]
      by_cases h6 : b.toNat ≤ i
      ·rw [decide_eq_true h6, decide_eq_true (show i - b.toNat < F by omega)]; rfl
      ·rw [decide_eq_false h6]; rfl
theorem B5l {c : Cl} {f b : Int} (h : (B4 c f b).1 = 0) : B8 c = true ∧ (Ak c.pos f b).1 = 0 ∧ (Ak c.neg f b).1 = 0 ∧ (B4 c f b).2 = ⟨(Ak c.pos f b).2, (Ak c.neg f b).2⟩ := by
 unfold B4 at h ⊢
 split at h
 ·cases h
 ·rename_i h1
  split at h
  ·rename_i h2; exact absurd h h2
  ·rename_i h2
   split at h
   ·rename_i h3; exact absurd h h3
   ·rename_i h3
    rw [if_neg h1, if_neg h2, if_neg h3]
    exact ⟨by simpa using h1, Decidable.not_not.mp h2, Decidable.not_not.mp h3, rfl⟩
theorem Gy (l : List Cl) : ((Bc l).1 = 0 ∧ l.all B8 = true ∧ (Bc l).2 = Ei l ∧ (Ei l).length ≤ 64) ∨ (Bc l).1 = 2 ∨ (Bc l).1 = 3 := by
 unfold Bc
 split
 ·exact .inr (.inl rfl)
 ·rename_i h1
  split
  ·exact .inr (.inr rfl)
  ·rename_i h2
   exact .inl ⟨rfl, by simpa using h1, rfl, by omega⟩
theorem Hs {l : List Cl} (h : (Bc l).1 = 0) : Ab (Bc l).2 = true := by
 rcases Gy l with ⟨_, h1, h2, h3⟩ | h1 | h1
 ·rw [h2]
  unfold Ab
  rw [Bool.and_eq_true, Bool.and_eq_true, Bool.and_eq_true]
  refine ⟨⟨⟨List.all_eq_true.mpr fun c hc => List.all_eq_true.mp h1 c (E5.mp hc).1, K2.mpr (Ml l)⟩, Sr.mpr fun a ha b hb => Lv.mp (E5.mp ha).2 b (E5.mp hb).1⟩, decide_eq_true h3⟩
 ·rw [h1] at h; cases h
 ·rw [h1] at h; cases h
theorem Jn {l : List Cl} (h : (Bc l).1 = 0) {c : Cl} (hc : c ∈ (Bc l).2) : c ∈ l := by
 rcases Gy l with ⟨_, h1, h2, h3⟩ | h1 | h1
 ·rw [h2] at hc; exact (E5.mp hc).1
 ·rw [h1] at h; cases h
 ·rw [h1] at h; cases h
theorem Jo {l : List Cl} {f b : Int} (h : (Aa l f b).1 = 0) : Ab l = true ∧ (∀ c, c ∈ l → (B4 c f b).1 = 0) ∧ Aa l f b = Bc (l.map fun c => (B4 c f b).2) := by
 unfold Aa at h ⊢
 split at h
 ·cases h
 ·rename_i h1
  split at h
  ·rename_i h2; exact absurd h h2
  ·rename_i h2
   have h3 : (E7 (fun c => B4 c f b) l).1 = 0 := Decidable.not_not.mp h2
   rw [if_neg h1, if_neg h2]
   exact ⟨by simpa using h1, Ys.mp h3, by rw [B4r h3]⟩
theorem A5f {l : List Cl} {f b : Int} (h : (Aa l f b).1 = 0) : Ab (Aa l f b).2 = true := by
 obtain ⟨_, _, h3⟩ := Jo h
 rw [h3] at h ⊢
 exact Hs h
section
variable {C : Type} {A : Tr C}
end
theorem Qr (l : List Cl) (f : Int) : B7 0 l f = .ok l := by unfold B7; rw [if_pos (.inl rfl)]
theorem T6 {vb db : Int} {c : Int × Int} {k n : Int} {nm : ByteArray} {r : List Cl} : (Bh vb db).own c k n nm r = (B7 db r c.2).bind fun r' => if k = 1 ∧ c.1 ≤ n ∧ 1000000000 - vb < n then .bad 100 else .ok (.inr (Gl vb c.1 k n, r')) := by
 simp only [Bh, Gl]
 congr 1
 funext g
 by_cases h1 : k = 1 ∧ c.1 ≤ n
 ·rw [if_pos h1, if_pos h1]
  by_cases h2 : 1000000000 - vb < n
  ·rw [if_pos h2, if_pos ⟨h1.1, h1.2, h2⟩]
  ·rw [if_neg h2, if_neg (fun h => h2 h.2.2)]
 ·rw [if_neg h1, if_neg h1, if_neg (fun h => h1 ⟨h.1, h.2.1⟩)]
theorem T5 {vb db : Int} {c : Int × Int} {k n : Int} {nm : ByteArray} {r : List Cl} {p : Int × List Cl} (h : (Bh vb db).own c k n nm r = .ok (.inr p)) : B7 db r c.2 = .ok p.2 ∧ ¬ (k = 1 ∧ c.1 ≤ n ∧ 1000000000 - vb < n) ∧ p.1 = Gl vb c.1 k n := by
 rw [T6] at h
 obtain ⟨g, hg, h⟩ := Ai.A3 h
 split at h
 ·cases h
 ·rename_i h1
  injection h with h; injection h with h; subst h
  exact ⟨hg, h1, rfl⟩
theorem A0s {vb db : Int} {c : Int × Int} {f f' : List Cl} (h : (Bh vb db).Ay c f = .ok (some f')) : B7 db f c.2 = .ok f' := by
 obtain ⟨g, hg, h⟩ := Ai.A3 (x := B7 db f c.2) h
 injection h with h; injection h with h; subst h; exact hg
theorem A8n {v k n : Int} : Gl 0 v k n = n := by unfold Gl; split <;> omega
theorem P9 {vb db : Int} {c : Int × Int} {f : List Cl} : (Bh vb db).Ay c f = (B7 db f c.2).bind fun f' => .ok (some f') := rfl
theorem A9j (c : Cl) (f b : Int) : (B4 c f b).1 = 0 ∨ (B4 c f b).1 = 2 ∨ (B4 c f b).1 = 10 := by
 have hm : ∀ s, (Ak s f b).1 = 0 ∨ (Ak s f b).1 = 2 ∨ (Ak s f b).1 = 10 := fun s => by
  unfold Ak
  split
  ·exact .inr (.inl rfl)
  ·split
   ·exact .inl rfl
   ·split
    ·exact .inr (.inr rfl)
    ·exact .inl rfl
 unfold B4
 split
 ·exact .inr (.inl rfl)
 ·split
  ·exact hm _
  ·split
   ·exact hm _
   ·exact .inl rfl
def Lb (r : Ai T) : Int × T := match r with
 | .ok u => (0, u)
 | .bad e => (e, t0)
def A4y (v d : Int) (k n : Int) (r : List Cl) : Prop := d ≤ 24 ∧ (k = 1 → n < v) ∧ within r d = true
mutual
def Fb : T → Int → Int → Prop
 | .mk k n nm r ks ss, v, d => A4y v d k n r ∧ V2 k 0 ks v d ∧ V3 k ss v d
def V2 (k : Int) : Nat → List T → Int → Int → Prop
 | _, [], _, _ => True
 | i, t :: ts, v, d => Fb t (v + (binds k i).1) (d + (binds k i).2) ∧ V2 k (i + 1) ts v d
def X3 (k : Int) : List T → Int → Int → Prop
 | [], _, _ => True
 | t :: ts, v, d => Fb t v (d + more k) ∧ X3 k ts v d
def V3 (k : Int) : List Br → Int → Int → Prop
 | [], _, _ => True
 | .mk f ks :: bs, v, d => within f d = true ∧ X3 k ks v d ∧ V3 k bs v d
end
theorem Lf (d : Int) : within [] d = true := by
 unfold within
 rw [show F1 [] = 0 from rfl, Nat.zero_div]
 simp
theorem Nh {t : T} {d : Int} {b : Br} : Mu t d b = true ↔ ((b.kids.length : Int) = Dj t.kind ∧ A8 b.Ay = true) ∧ within b.Ay d = true := by
 unfold Mu
 rw [Bool.and_eq_true, Bool.and_eq_true, decide_eq_true_iff]
theorem A3g {t : T} {v d : Int} (hv : 0 ≤ v) : Gx t v d = true ↔ Gx t (-1) 24 = true ∧ (t.kind = 1 → t.n < v) ∧ within t.r d = true ∧ ∀ b, b ∈ t.sys → within b.Ay d = true := by
 rw [B0u, B0u]
 have hsys : ∀ (h : Gq t = false), Dj t.kind = 0 → t.sys = [] := fun h h0 => by
  unfold Gq at h
  rw [Bool.or_eq_false_iff, Bool.and_eq_false_iff] at h
  rcases h.2 with h2 | h2
  ·exact absurd h0 (of_decide_eq_false h2)
  ·exact List.eq_nil_of_length_eq_zero (by have := of_decide_eq_false h2; omega)
 have hw24 : ∀ l : List Cl, within l 24 = true := fun l => Ru l A4
 constructor
 ·rintro ⟨h1, h2⟩
  refine (fun (h : (if t.kind = 1 then t.r.length = 0 ∧ 0 ≤ t.n ∧ ((-1 : Int) < 0 ∨ t.n < -1) else if t.kind = 2 then t.r.length = 0 ∧ Kd t.name = true else if t.kind = 13 ∨ t.kind = 21 ∨ t.kind = 26 then Ab t.r = true ∧ within t.r 24 = true else if t.kind = 14 then A8 t.r = true ∧ within t.r 24 = true else (∀ x, x ∈ t.sys → Mu t 24 x = true) ∧ t.r.length = 0) ∧ (t.kind = 1 → t.n < v) ∧ within t.r d = true ∧ ∀ b, b ∈ t.sys → within b.Ay d = true) => ⟨⟨h1, h.1⟩, h.2⟩) ?_
  split at h2
  ·rename_i hk
   have hs := hsys h1 (Ew A4)
   rw [hs, List.eq_nil_of_length_eq_zero h2.1]
   exact ⟨by rw [if_pos hk]; exact ⟨rfl, h2.2.1, .inl Ii⟩, fun _ => by omega, Lf d, fun b hb => (by cases hb)⟩
  ·rename_i hk1
   rw [if_neg hk1]
   split at h2
   ·rename_i hk
    have hs := hsys h1 (Ew A4)
    rw [hs, List.eq_nil_of_length_eq_zero h2.1]
    exact ⟨by rw [if_pos hk]; exact ⟨rfl, h2.2⟩, fun h => absurd h hk1, Lf d, fun b hb => (by cases hb)⟩
   ·rename_i hk2
    rw [if_neg hk2]
    split at h2
    ·rename_i hk
     have hs := hsys h1 (Ew A4)
     rw [hs]
     exact ⟨by rw [if_pos hk]; exact ⟨h2.1, hw24 _⟩, fun h => absurd h hk1, h2.2, fun b hb => (by cases hb)⟩
    ·rename_i hk3
     rw [if_neg hk3]
     split at h2
     ·rename_i hk
      have hs := hsys h1 (Ew A4)
      rw [hs]
      exact ⟨by rw [if_pos hk]; exact ⟨h2.1, hw24 _⟩, fun h => absurd h hk1, h2.2, fun b hb => (by cases hb)⟩
     ·rename_i hk4
      rw [if_neg hk4, List.eq_nil_of_length_eq_zero h2.2]
      exact ⟨⟨fun x hx => Nh.mpr ⟨(Nh.mp (h2.1 x hx)).1, hw24 _⟩, rfl⟩, fun h => absurd h hk1, Lf d, fun b hb => (Nh.mp (h2.1 b hb)).2⟩
 ·rintro ⟨⟨h1, h2⟩, h3, h4, h5⟩
  refine ⟨h1, ?_⟩
  split at h2
  ·rename_i hk; rw [if_pos hk]; exact ⟨h2.1, h2.2.1, .inr (h3 hk)⟩
  ·rename_i hk1
   rw [if_neg hk1]
   split at h2
   ·rename_i hk; rw [if_pos hk]; exact h2
   ·rename_i hk2
    rw [if_neg hk2]
    split at h2
    ·rename_i hk; rw [if_pos hk]; exact ⟨h2.1, h4⟩
    ·rename_i hk3
     rw [if_neg hk3]
     split at h2
     ·rename_i hk; rw [if_pos hk]; exact ⟨h2.1, h4⟩
     ·rename_i hk4
      rw [if_neg hk4]
      exact ⟨fun x hx => Nh.mpr ⟨(Nh.mp (h2.1 x hx)).1, h5 x hx⟩, h2.2⟩
theorem A4f {k v d : Int} : ∀ {ts : List T} {i : Nat}, V2 k i ts v d ↔ ∀ j, j < ts.length → Fb (ts.getD j t0) (v + (binds k ((i + j : Nat) : Int)).1) (d + (binds k ((i + j : Nat) : Int)).2)
 | [], i => by simp [V2]
 | t :: ts, i => by
  simp only [V2, A4f (ts := ts) (i := i + 1)]
  constructor
  ·rintro ⟨h1, h2⟩ j hj
   cases j with
   | zero => simpa using h1
   | succ j => rw [List.getD_cons_succ, show i + (j + 1) = i + 1 + j by omega]; exact h2 j (by simpa using hj)
  ·intro h
   refine ⟨by simpa using h 0 Cq, fun j hj => ?_⟩
   have := h (j + 1) (by simpa using hj)
   rw [List.getD_cons_succ, show i + (j + 1) = i + 1 + j by omega] at this
   exact this
theorem V1 {k v d : Int} : ∀ {ts : List T}, X3 k ts v d ↔ ∀ j, j < ts.length → Fb (ts.getD j t0) v (d + more k)
 | [] => by simp [X3]
 | t :: ts => by
  simp only [X3, V1 (ts := ts)]
  constructor
  ·rintro ⟨h1, h2⟩ j hj
   cases j with
   | zero => simpa using h1
   | succ j => rw [List.getD_cons_succ]; exact h2 j (by simpa using hj)
  ·intro h
   exact ⟨by simpa using h 0 Cq, fun j hj => by have := h (j + 1) (by simpa using hj); rwa [List.getD_cons_succ] at this⟩
theorem A4g {k v d : Int} : ∀ {bs : List Br}, V3 k bs v d ↔ ∀ b, b ∈ bs → within b.Ay d = true ∧ X3 k b.kids v d
 | [] => by simp [V3]
 | .mk f ks :: bs => by
  simp only [V3, A4g (bs := bs), List.forall_mem_cons, Br.Ay, Br.kids, and_assoc]
theorem Fp {t : T} {v d : Int} : Fb t v d ↔ A4y v d t.kind t.n t.r ∧ (∀ b, b ∈ t.sys → within b.Ay d = true) ∧ ∀ p, p ∈ parts t → Fb p.1 (v + p.2.1) (d + p.2.2) := by
 have h : Fb t v d ↔ A4y v d t.kind t.n t.r ∧ V2 t.kind 0 t.kids v d ∧ V3 t.kind t.sys v d := by
  obtain ⟨k, n, nm, r, ks, ss⟩ := t
  simp only [Fb, T.kind, T.n, T.r, T.kids, T.sys]
 rw [h, A4f, A4g]
 constructor
 ·rintro ⟨h1, h2, h3⟩
  refine ⟨h1, fun b hb => (h3 b hb).1, fun p hp => ?_⟩
  rcases Hn hp with ⟨i, hi, rfl⟩ | ⟨s, k, hs, hk, rfl⟩
  ·have := h2 i hi; rw [Nat.zero_add] at this; exact this
  ·have := V1.mp (h3 _ (Ad (d := Bd) hs)).2 k hk; simpa using this
 ·rintro ⟨h1, h2, h3⟩
  refine ⟨h1, fun j hj => ?_, fun b hb => ⟨h2 b hb, V1.mpr fun k hk => ?_⟩⟩
  ·have := h3 _ (List.mem_of_getElem? (Hm t j hj)); rw [Nat.zero_add]; exact this
  ·obtain ⟨s, hs, e⟩ := List.mem_iff_getElem.mp hb
   have e2 : t.sys.getD s Bd = b := by rw [Cy (d := Bd) hs]; exact e
   have := h3 _ (List.mem_of_getElem? (Hl t s k hs (by rw [e2]; exact hk)))
   rw [e2] at this
   simpa using this
theorem A4e : ∀ (t : T) (v d : Int), 0 ≤ v → v + size t ≤ 9000000000000000000 → (Mx t v d true = true ↔ F0 t ∧ Fb t v d) := T.ind fun t ih v d h0 hb => by
 rw [A1q, A3g h0, Fp, M4]
 have hown : Gx t (-1) 24 = true ↔ ∀ d' : Int, 24 ≤ d' → Gx t (-1) d' = true := by
  constructor
  ·intro h d' hd'
   obtain ⟨k, n, nm, r, ks, ss⟩ := t
   exact (Ho hd').mpr ((Ho A4).mp h)
  ·intro h; exact h 24 A4
 have key : ∀ p, p ∈ parts t → (Mx p.1 (IntKind.i64.wrap (v + if v < 0 then 0 else p.2.1)) (d + p.2.2) true = true ↔ F0 p.1 ∧ Fb p.1 (v + p.2.1) (d + p.2.2)) := fun p hp => by
  have h1 := Kv hp
  have h2 := Lm hp
  rw [if_neg A4, Zg (by unfold Ap; omega)]
  exact ih p hp _ _ A4 A4
 rw [hown]
 unfold A4y
 constructor
 ·rintro ⟨h1, ⟨h2, h3, h4, h5⟩, h6⟩
  exact ⟨⟨h2, fun p hp => ((key p hp).mp (h6 p hp)).1⟩, ⟨by simp at h1; omega, h3, h4⟩, h5, fun p hp => ((key p hp).mp (h6 p hp)).2⟩
 ·rintro ⟨⟨h2, h6⟩, ⟨h1, h3, h4⟩, h5, h7⟩
  exact ⟨by simp; omega, ⟨h2, h3, h4, h5⟩, fun p hp => (key p hp).mpr ⟨h6 p hp, h7 p hp⟩⟩
theorem S4 {t : T} {v d : Int} (hv : 0 ≤ v) (hb : v ≤ 1000000000000) : Bk t v d = 0 ↔ 0 ≤ d ∧ d ≤ 24 ∧ sized t = 0 ∧ F0 t ∧ Fb t v d := by
 rw [Uo]
 constructor
 ·rintro ⟨_, h2, h3, h4, h5⟩
  have := (Pm.mp h4).2
  exact ⟨h2, h3, h4, (A4e t v d hv A4).mp h5⟩
 ·rintro ⟨h2, h3, h4, h5⟩
  have := (Pm.mp h4).2
  exact ⟨hv, h2, h3, h4, (A4e t v d hv A4).mpr h5⟩
section
variable {C : Type} {A : Tr C}
end
mutual
theorem Sd {a : Int} (ha : 0 ≤ a) : ∀ {t u : T} {c : Int × Int} {v d : Int}, Ce (Bh a 0) t c = .ok u → Fb t v d → Fb u (v + a) d
 | .mk k n nm r ks ss, u, c, v, d, hu, hm => by
  rw [Fv] at hu
  simp only [T.kind, T.n, T.name, T.r, T.kids, T.sys] at hu
  obtain ⟨o, h9, hu⟩ := Ai.A3 hu
  cases o with
  | inl w => exact absurd h9 Ip
  | inr p =>
   obtain ⟨ks', h10, hu⟩ := Ai.A3 hu
   obtain ⟨ss', h11, hu⟩ := Ai.A3 hu
   injection hu with hu
   subst hu
   obtain ⟨h1, h2, h3⟩ := T5 h9
   rw [Qr] at h1
   injection h1 with h1
   simp only [Fb] at hm ⊢
   obtain ⟨⟨m1, m2, m3⟩, m4, m5⟩ := hm
   refine ⟨⟨m1, fun hk => ?_, by rw [← h1]; exact m3⟩, V9 ha h10 m4, Va ha h11 m5⟩
   have := m2 hk
   rw [h3]
   unfold Gl
   split <;> omega
termination_by structural t => t
theorem V9 {a k : Int} (ha : 0 ≤ a) : ∀ {ts us : List T} {i : Nat} {c : Int × Int} {v d : Int}, D3 (Bh a 0) k i ts c = .ok us → V2 k i ts v d → V2 k i us (v + a) d
 | [], us, i, c, v, d, hu, hm => by rw [Eh] at hu; injection hu with hu; subst hu; simp only [V2]
 | t :: ts, us, i, c, v, d, hu, hm => by
  rw [Du, A4p] at hu
  obtain ⟨c', h1, hu⟩ := Ai.A3 hu
  obtain ⟨t', h2, hu⟩ := Ai.A3 hu
  obtain ⟨ts', h3, hu⟩ := Ai.A3 hu
  injection hu with hu
  subst hu
  simp only [V2] at hm ⊢
  refine ⟨?_, V9 ha h3 hm.2⟩
  have := Sd ha h2 hm.1
  rwa [show v + (binds k (i : Int)).1 + a = v + a + (binds k (i : Int)).1 by omega] at this
termination_by structural ts => ts
theorem V8 {a k : Int} (ha : 0 ≤ a) : ∀ {ts us : List T} {c : Int × Int} {v d : Int}, Cd (Bh a 0) k ts c = .ok us → X3 k ts v d → X3 k us (v + a) d
 | [], us, c, v, d, hu, hm => by rw [Eg] at hu; injection hu with hu; subst hu; simp only [X3]
 | t :: ts, us, c, v, d, hu, hm => by
  rw [Dt, A4p] at hu
  obtain ⟨c', h1, hu⟩ := Ai.A3 hu
  obtain ⟨t', h2, hu⟩ := Ai.A3 hu
  obtain ⟨ts', h3, hu⟩ := Ai.A3 hu
  injection hu with hu
  subst hu
  simp only [X3] at hm ⊢
  exact ⟨Sd ha h2 hm.1, V8 ha h3 hm.2⟩
termination_by structural ts => ts
theorem Va {a k : Int} (ha : 0 ≤ a) : ∀ {bs us : List Br} {c : Int × Int} {v d : Int}, Cn (Bh a 0) k bs c = .ok us → V3 k bs v d → V3 k us (v + a) d
 | [], us, c, v, d, hu, hm => by rw [E2] at hu; injection hu with hu; subst hu; simp only [V3]
 | .mk f ks :: bs, us, c, v, d, hu, hm => by
  rw [Dh, P9] at hu
  simp only [Br.Ay, Br.kids] at hu
  rw [Qr] at hu
  simp only [Ai.bind] at hu
  obtain ⟨ks', h7, hu⟩ := Ai.A3 (x := Cd (Bh a 0) k ks c) hu
  obtain ⟨bs', h8, hu⟩ := Ai.A3 hu
  injection hu with hu
  subst hu
  simp only [V3] at hm ⊢
  exact ⟨hm.1, V8 ha h7 hm.2.1, Va ha h8 hm.2.2⟩
termination_by structural bs => bs
end
end Go.Hy
