/- Contracts of this program's functions and the laws that they need. -/
import Derived.Test.YtibignmpjeemeaaGreatDoorP4
set_option linter.unusedVariables false
set_option linter.unusedSimpArgs false
set_option linter.unusedSectionVars false
namespace Go.Hy
open Go.Proofs Go.Proofs.Tryz
theorem sm_ {p q : Prop} (h : p) (e : p = q := by
 try (conv => lhs; simp only [sC, bne_iff_ne, beq_iff_eq, ne_eq])
 try rfl) : q := e ▸ h
class Cy (P : Program) (k : FuncId) (fn : outParam Func) : Prop where
 f : P.funcs[k]? = some fn
structure Am (p : Prop) : Prop where
 out : p
section
variable {P : Program} {f : FuncId} {R : Ending → World → Prop} {B : Bv} {n : Fz} {K : List Item} {σ : Nat → Value} {Γ Γ' : List Fact} {Ms : List Aw}
theorem f_ {k : FuncId} {fn : Func} [h : Cy P k fn] : P.funcs[k]? = some fn := h.f
theorem Iy {fn : Func} {id : Nat} {ops : Array Oper} [h9 : Cy P f fn] (h : Db P f R B n K ops (List.range ops.size) σ Γ Ms) : Dq P f R B n (.code (.region id ops false) :: K) σ Γ Ms := go_region ⟨_, h9.f⟩ rfl h
theorem Xa {Q : Program} [Tab Q] {g : FuncId} {S : Ending → World → Prop} {C : Bv} {m : Fz} {L : List Item} {ops : Array Oper} {i : Nat} {l : List Nat} {τ : Nat → Value} {Δ : List Fact} {Ns : List Aw} {dst : Option Tmp} {op : Op} {ty : TypeId} {pos : String} {after : Array Edge} {e d : Nat} {want : Bool} {og : Oper} (ho : ops[i]? = some ⟨dst, op, ty, pos, after, some (e, want)⟩) (t : Bool) {p q : Prop} (kT : t = want → p → Dr Q g S C m L ops l (C2 dst op ty) (Oh τ d (.bool want)) Δ Ns) (kF : t = !want → q → Db Q g S C m L ops l (Ag (Oh τ d (.bool !want)) dst undef) Δ Ns) (hog : ops[e]? = some og := by exact rfl) (hgd : og.dst = some d := by exact rfl) (ht : τ d = .bool t := by exact A7) (e1 : (t = want) = p := by
 try (conv => lhs; simp only [sC, bne_iff_ne, beq_iff_eq, ne_eq])
 try rfl) (e2 : (t = !want) = q := by
 try (conv => lhs; simp only [Bool.not_true, Bool.not_false, sC, bne_iff_ne, beq_iff_eq, ne_eq])
 try rfl) (hd : A9 m dst = true := by rfl) : Db Q g S C m L ops (i :: l) τ Δ Ns := qI ho hog hgd ht (fun h => kT h (e1 ▸ h)) (fun h => kF h (e2 ▸ h)) hd
theorem D2 {d : Nat} {x y : Code} (t : Bool) {p q : Prop} (kT : t = true → p → Dq P f R B n (.code x :: K) (Oh σ d (.bool true)) Γ Ms) (kF : t = false → q → Dq P f R B n (.code y :: K) (Oh σ d (.bool false)) Γ Ms) (hc : σ d = .bool t := by exact A7) (e1 : (t = true) = p := by
 try (conv => lhs; simp only [sC, bne_iff_ne, beq_iff_eq, ne_eq])
 try rfl) (e2 : (t = false) = q := by
 try (conv => lhs; simp only [sC, bne_iff_ne, beq_iff_eq, ne_eq])
 try rfl) : Dq P f R B n (.code (.cond (.tmp d) x y) :: K) σ Γ Ms := A1 (fun h => kT h (e1 ▸ h)) (fun h => kF h (e2 ▸ h)) hc
theorem D8 {fn : Func} {c : Code} {m : Nat} {args : List Value} {pre : List Fact} {Ms0 : List Aw} {X : Type} {val : X → Value} {N : X → List Fact} {Ms1 : X → List Aw} [h9 : Cy P f fn] (hn : fn.ntmps = m) (h : ∀ B : Bv, (∀ b, B.S0 b ↔ B4 Ms0 b) → Dq P f (Ends B val N Ms1) B ⟨m, [], .normal⟩ [.code c] (fun t => args.getD t undef) pre Ms0) (hb : fn.body = some c := by exact rfl) (ha : args.length ≤ m := by exact Nat.le_of_ble_eq_true rfl) : Spec P f args.toArray pre Ms0 val N Ms1 := Et h9.f hn hb ha h
theorem St.l9 {w : World} (hs : St B Γ Ms w) (h : ∀ F, F ∈ Γ' → F ∈ Γ := by simp +contextual) : St B Γ' Ms w := hs.less h
theorem St.l7 {w : World} (hs : St B Γ Ms w) (h : ∀ F, F ∈ ([] : List Fact) → F ∈ Γ := by simp) : St B [] Ms w := hs.less h
theorem St.l8 {w : World} (hs : St B Γ Ms w) (h : ∀ F, F ∈ Γ' → F ∈ Γ := by simp) : St B Γ' Ms w := hs.less h
end
section
variable {p q : Prop}
theorem F9 (k : p) (h : Am p → q := by intro h; refine C8e ?_; exact h.1) : q := h ⟨k⟩
theorem Jj (k : p) (h : Am p → q := by intro h; refine C4j ?_; exact h.1) : q := h ⟨k⟩
theorem zq2 (k : p) (h : Am p → q := by intro h; refine q0 rfl (B6o ?_); exact h.1) : q := h ⟨k⟩
theorem E1 (k : p) (h : Am p → q := by intro h; refine q0 rfl (E2 ?_); exact h.1) : q := h ⟨k⟩
theorem Od (k : p) (h : Am p → q := by intro h; refine qF rfl rfl rfl ?_; exact h.1) : q := h ⟨k⟩
theorem Gu (k : p) (h : Am p → q := by intro h; refine go_skip ?_; exact h.1) : q := h ⟨k⟩
theorem zq6 (k : p) (h : Am p → q := by intro h; refine q0 rfl (B1x ?_); exact h.1) : q := h ⟨k⟩
theorem W0 (k : p) (h : Am p → q := by intro h; refine B8b ?_; exact h.1) : q := h ⟨k⟩
theorem zq8 (k : p) (h : Am p → q := by intro h; refine q0 rfl (Jb ?_); exact h.1) : q := h ⟨k⟩
theorem zq9 (k : p) (h : Am p → q := by intro h; refine q0 rfl (D3b ?_); exact h.1) : q := h ⟨k⟩
theorem P9 (k : p) (h : Am p → q := by intro h; refine q0 rfl (C5g ?_); exact h.1) : q := h ⟨k⟩
theorem Fs (k : p) (h : Am p → q := by intro h; refine q0 rfl (Na ?_); exact h.1) : q := h ⟨k⟩
theorem W4 (k : p) (h : Am p → q := by intro h; refine nF rfl rfl rfl ?_; exact h.1) : q := h ⟨k⟩
theorem A0x (k : p) (h : Am p → q := by intro h; refine q0 rfl (A2h ?_); exact h.1) : q := h ⟨k⟩
theorem F8 (k : p) (h : Am p → q := by intro h; refine n0 rfl (B4c ?_); exact h.1) : q := h ⟨k⟩
theorem En (k : p) (h : Am p → q := by intro h; refine C1s rfl ?_; exact h.1) : q := h ⟨k⟩
theorem C4b (k : p) (h : Am p → q := by intro h; refine q0 rfl (A9b ?_); exact h.1) : q := h ⟨k⟩
theorem H6 (k : p) (h : Am p → q := by intro h; refine q0 rfl (A9f ?_); exact h.1) : q := h ⟨k⟩
theorem A4y (k : p) (h : Am p → q := by intro h; refine q0 rfl (C9x ?_); exact h.1) : q := h ⟨k⟩
theorem P8 (k : p) (h : Am p → q := by intro h; refine A6p ?_; exact h.1) : q := h ⟨k⟩
theorem Ta (k : p) (h : Am p → q := by intro h; refine q0 rfl (C3e ?_); exact h.1) : q := h ⟨k⟩
theorem C4a (k : p) (h : Am p → q := by intro h; refine q0 rfl (A9c ?_); exact h.1) : q := h ⟨k⟩
theorem C3z (k : p) (h : Am p → q := by intro h; refine q0 rfl (A2f ?_); exact h.1) : q := h ⟨k⟩
theorem A0w (k : p) (h : Am p → q := by intro h; refine n0 rfl (Og ?_); exact h.1) : q := h ⟨k⟩
theorem B0r (k : p) (h : Am p → q := by intro h; refine NV.done ?_; exact h.1) : q := h ⟨k⟩
theorem Of (k : p) (h : Am p → q := by intro h; refine q0 rfl (C9s ?_); exact h.1) : q := h ⟨k⟩
theorem C3y (k : p) (h : Am p → q := by intro h; refine B8a ?_; exact h.1) : q := h ⟨k⟩
theorem Hq (k : p) (h : Am p → q := by intro h; refine qT rfl rfl rfl (E2 ?_); exact h.1) : q := h ⟨k⟩
theorem Hp (k : p) (h : Am p → q := by intro h; refine qT rfl rfl rfl (C5g ?_); exact h.1) : q := h ⟨k⟩
theorem B3u (k : p) (h : Am p → q := by intro h; refine nU rfl rfl rfl ?_; exact h.1) : q := h ⟨k⟩
theorem B9r (k : p) (h : Am p → q := by intro h; refine qU rfl rfl rfl ?_; exact h.1) : q := h ⟨k⟩
theorem C8z (k : p) (h : Am p → q := by intro h; refine n0 rfl (B4g ?_); exact h.1) : q := h ⟨k⟩
theorem A4x (k : p) (h : Am p → q := by intro h; refine q0 rfl (Xj ?_); exact h.1) : q := h ⟨k⟩
theorem Mi (k : p) (h : Am p → q := by intro h; refine nT rfl rfl rfl (C9b ?_); exact h.1) : q := h ⟨k⟩
theorem C8y (k : p) (h : Am p → q := by intro h; refine n0 rfl (B0w ?_); exact h.1) : q := h ⟨k⟩
theorem Mo (k : p) (h : Am p → q := by intro h; refine q0 rfl (A6b ?_); exact h.1) : q := h ⟨k⟩
theorem A0v (k : p) (h : Am p → q := by intro h; refine n0 rfl (A7y ?_); exact h.1) : q := h ⟨k⟩
theorem Oe (k : p) (h : Am p → q := by intro h; refine q0 rfl (Dg ?_); exact h.1) : q := h ⟨k⟩
theorem P7 (k : p) (h : Am p → q := by intro h; refine q0 rfl (C9t ?_); exact h.1) : q := h ⟨k⟩
theorem P6 (k : p) (h : Am p → q := by intro h; refine n0 rfl (B4d ?_); exact h.1) : q := h ⟨k⟩
theorem Pw (k : p) (h : Am p → q := by intro h; refine n0 rfl (A7x ?_); exact h.1) : q := h ⟨k⟩
theorem R6 (k : p) (h : Am p → q := by intro h; refine q0 rfl (C9v ?_); exact h.1) : q := h ⟨k⟩
theorem C8x (k : p) (h : Am p → q := by intro h; refine q0 rfl (C9p ?_); exact h.1) : q := h ⟨k⟩
theorem Tn (k : p) (h : Am p → q := by intro h; refine nT rfl rfl rfl (B4c ?_); exact h.1) : q := h ⟨k⟩
theorem Tm (k : p) (h : Am p → q := by intro h; refine q0 rfl (C5f ?_); exact h.1) : q := h ⟨k⟩
theorem Yi (k : p) (h : Am p → q := by intro h; refine E2 ?_; exact h.1) : q := h ⟨k⟩
theorem A0u (k : p) (h : Am p → q := by intro h; refine q0 rfl (Xk ?_); exact h.1) : q := h ⟨k⟩
theorem A0t (k : p) (h : Am p → q := by intro h; refine qT rfl rfl rfl (A9b ?_); exact h.1) : q := h ⟨k⟩
theorem A0s (k : p) (h : Am p → q := by intro h; refine qT rfl rfl rfl (A2h ?_); exact h.1) : q := h ⟨k⟩
theorem A0r (k : p) (h : Am p → q := by intro h; refine qT rfl rfl rfl (A9c ?_); exact h.1) : q := h ⟨k⟩
theorem A4w (k : p) (h : Am p → q := by intro h; refine qT rfl rfl rfl (C3f ?_); exact h.1) : q := h ⟨k⟩
theorem A4v (k : p) (h : Am p → q := by intro h; refine qT rfl rfl rfl (C3e ?_); exact h.1) : q := h ⟨k⟩
theorem A4u (k : p) (h : Am p → q := by intro h; refine qT rfl rfl rfl (B6m ?_); exact h.1) : q := h ⟨k⟩
theorem A4t (k : p) (h : Am p → q := by intro h; refine nT rfl rfl rfl (A7x ?_); exact h.1) : q := h ⟨k⟩
theorem A4s (k : p) (h : Am p → q := by intro h; refine nT rfl rfl rfl (A7y ?_); exact h.1) : q := h ⟨k⟩
theorem A4r (k : p) (h : Am p → q := by intro h; refine q0 rfl (C9u ?_); exact h.1) : q := h ⟨k⟩
theorem B0q (k : p) (h : Am p → q := by intro h; refine q0 rfl (C9w ?_); exact h.1) : q := h ⟨k⟩
theorem B0p (k : p) (h : Am p → q := by intro h; refine q0 rfl (B6m ?_); exact h.1) : q := h ⟨k⟩
theorem B0o (k : p) (h : Am p → q := by intro h; refine nT rfl rfl rfl (Og ?_); exact h.1) : q := h ⟨k⟩
theorem B0n (k : p) (h : Am p → q := by intro h; refine n0 rfl (C9d ?_); exact h.1) : q := h ⟨k⟩
theorem B2 (k : p) (h : Am p → q := by intro h; refine F9 ?_; refine Iy ?_; exact h.1) : q := h ⟨k⟩
theorem Ci (k : p) (h : Am p → q := by intro h; refine zq2 ?_; refine Jj ?_; exact h.1) : q := h ⟨k⟩
theorem Ef (k : p) (h : Am p → q := by intro h; refine B2 ?_; refine E1 ?_; exact h.1) : q := h ⟨k⟩
theorem Kk (k : p) (h : Am p → q := by intro h; refine zq2 ?_; refine Ci ?_; exact h.1) : q := h ⟨k⟩
theorem C9 (k : p) (h : Am p → q := by intro h; refine B2 ?_; refine Ci ?_; exact h.1) : q := h ⟨k⟩
theorem B9q (k : p) (h : Am p → q := by intro h; refine E1 ?_; refine Jj ?_; exact h.1) : q := h ⟨k⟩
theorem Gt (k : p) (h : Am p → q := by intro h; refine F9 ?_; refine Ef ?_; exact h.1) : q := h ⟨k⟩
theorem Fg (k : p) (h : Am p → q := by intro h; refine Od ?_; refine Od ?_; exact h.1) : q := h ⟨k⟩
theorem Ho (k : p) (h : Am p → q := by intro h; refine zq8 ?_; refine P9 ?_; exact h.1) : q := h ⟨k⟩
theorem K4 (k : p) (h : Am p → q := by intro h; refine Gu ?_; refine F9 ?_; exact h.1) : q := h ⟨k⟩
theorem Yh (k : p) (h : Am p → q := by intro h; refine zq6 ?_; refine zq6 ?_; exact h.1) : q := h ⟨k⟩
theorem A0q (k : p) (h : Am p → q := by intro h; refine Jj ?_; refine F9 ?_; exact h.1) : q := h ⟨k⟩
theorem Dj (k : p) (h : Am p → q := by intro h; refine Iy ?_; refine E1 ?_; exact h.1) : q := h ⟨k⟩
theorem F0 (k : p) (h : Am p → q := by intro h; refine B2 ?_; refine Kk ?_; exact h.1) : q := h ⟨k⟩
theorem T9 (k : p) (h : Am p → q := by intro h; refine K4 ?_; refine W0 ?_; exact h.1) : q := h ⟨k⟩
theorem Ie (k : p) (h : Am p → q := by intro h; refine Yh ?_; refine Kk ?_; exact h.1) : q := h ⟨k⟩
theorem C8w (k : p) (h : Am p → q := by intro h; refine Iy ?_; refine A4y ?_; refine B9q ?_; exact h.1) : q := h ⟨k⟩
theorem P5 (k : p) (h : Am p → q := by intro h; refine P8 ?_; refine C8w ?_; exact h.1) : q := h ⟨k⟩
theorem T8 (k : p) (h : Am p → q := by intro h; refine A0x ?_; refine Ci ?_; exact h.1) : q := h ⟨k⟩
theorem E0 (k : p) (h : Am p → q := by intro h; refine B2 ?_; refine Ta ?_; refine A0q ?_; exact h.1) : q := h ⟨k⟩
theorem A4q (k : p) (h : Am p → q := by intro h; refine C3z ?_; refine Jj ?_; exact h.1) : q := h ⟨k⟩
theorem B9o (k : p) (h : Am p → q := by intro h; refine B9q ?_; refine W0 ?_; exact h.1) : q := h ⟨k⟩
theorem G5 (k : p) (h : Am p → q := by intro h; refine zq9 ?_; refine Ci ?_; exact h.1) : q := h ⟨k⟩
theorem B0m (k : p) (h : Am p → q := by intro h; refine H6 ?_; refine B9o ?_; exact h.1) : q := h ⟨k⟩
theorem Ez (k : p) (h : Am p → q := by intro h; refine B2 ?_; refine T8 ?_; exact h.1) : q := h ⟨k⟩
theorem Ey (k : p) (h : Am p → q := by intro h; refine zq9 ?_; refine Jj ?_; exact h.1) : q := h ⟨k⟩
theorem F7 (k : p) (h : Am p → q := by intro h; refine B2 ?_; refine Fs ?_; exact h.1) : q := h ⟨k⟩
theorem Ff (k : p) (h : Am p → q := by intro h; refine Ci ?_; refine F9 ?_; exact h.1) : q := h ⟨k⟩
theorem R5 (k : p) (h : Am p → q := by intro h; refine Ef ?_; refine E1 ?_; exact h.1) : q := h ⟨k⟩
theorem T7 (k : p) (h : Am p → q := by intro h; refine B0r ?_; refine Jj ?_; exact h.1) : q := h ⟨k⟩
theorem K3 (k : p) (h : Am p → q := by intro h; refine B2 ?_; refine Ho ?_; exact h.1) : q := h ⟨k⟩
theorem Gd (k : p) (h : Am p → q := by intro h; refine A0w ?_; refine n0 rfl (C9b ?_); exact h.1) : q := h ⟨k⟩
theorem Kj (k : p) (h : Am p → q := by intro h; refine W4 ?_; refine W4 ?_; exact h.1) : q := h ⟨k⟩
theorem Ki (k : p) (h : Am p → q := by intro h; refine Ef ?_; refine Kk ?_; exact h.1) : q := h ⟨k⟩
theorem R4 (k : p) (h : Am p → q := by intro h; refine Gt ?_; refine A4q ?_; exact h.1) : q := h ⟨k⟩
theorem B0l (k : p) (h : Am p → q := by intro h; refine Gu ?_; refine C3y ?_; exact h.1) : q := h ⟨k⟩
theorem Tl (k : p) (h : Am p → q := by intro h; refine E1 ?_; refine Ie ?_; exact h.1) : q := h ⟨k⟩
theorem Hn (k : p) (h : Am p → q := by intro h; refine C4b ?_; refine Jj ?_; exact h.1) : q := h ⟨k⟩
theorem B3t (k : p) (h : Am p → q := by intro h; refine Gt ?_; refine B0m ?_; exact h.1) : q := h ⟨k⟩
theorem Ic (k : p) (h : Am p → q := by intro h; refine T9 ?_; refine B2 ?_; exact h.1) : q := h ⟨k⟩
theorem Fe (k : p) (h : Am p → q := by intro h; refine B0l ?_; refine C9 ?_; exact h.1) : q := h ⟨k⟩
theorem G1 (k : p) (h : Am p → q := by intro h; refine C4b ?_; refine Ci ?_; exact h.1) : q := h ⟨k⟩
theorem N0 (k : p) (h : Am p → q := by intro h; refine Fg ?_; refine Fg ?_; exact h.1) : q := h ⟨k⟩
theorem G6 (k : p) (h : Am p → q := by intro h; refine C4a ?_; refine Ci ?_; exact h.1) : q := h ⟨k⟩
theorem Ou (k : p) (h : Am p → q := by intro h; refine C4b ?_; refine E1 ?_; exact h.1) : q := h ⟨k⟩
theorem Gf (k : p) (h : Am p → q := by intro h; refine E1 ?_; refine E1 ?_; exact h.1) : q := h ⟨k⟩
theorem Ot (k : p) (h : Am p → q := by intro h; refine Ci ?_; refine P5 ?_; exact h.1) : q := h ⟨k⟩
theorem Ha (k : p) (h : Am p → q := by intro h; refine Iy ?_; refine Ho ?_; exact h.1) : q := h ⟨k⟩
theorem H9 (k : p) (h : Am p → q := by intro h; refine T9 ?_; refine F9 ?_; exact h.1) : q := h ⟨k⟩
theorem H8 (k : p) (h : Am p → q := by intro h; refine Tl ?_; refine R4 ?_; exact h.1) : q := h ⟨k⟩
theorem To (k : p) (h : Am p → q := by intro h; refine zq8 ?_; refine Of ?_; exact h.1) : q := h ⟨k⟩
theorem Hr (k : p) (h : Am p → q := by intro h; refine Gu ?_; refine P5 ?_; exact h.1) : q := h ⟨k⟩
theorem Sa (k : p) (h : Am p → q := by intro h; refine A0x ?_; refine Jj ?_; exact h.1) : q := h ⟨k⟩
theorem I8 (k : p) (h : Am p → q := by intro h; refine Ef ?_; refine Ci ?_; exact h.1) : q := h ⟨k⟩
theorem I7 (k : p) (h : Am p → q := by intro h; refine C4a ?_; refine E1 ?_; exact h.1) : q := h ⟨k⟩
theorem I6 (k : p) (h : Am p → q := by intro h; refine C4a ?_; refine Jj ?_; exact h.1) : q := h ⟨k⟩
theorem Iz (k : p) (h : Am p → q := by intro h; refine A4x ?_; refine Jj ?_; exact h.1) : q := h ⟨k⟩
theorem Jq (k : p) (h : Am p → q := by intro h; refine zq9 ?_; refine A0q ?_; exact h.1) : q := h ⟨k⟩
theorem A7t (k : p) (h : Am p → q := by intro h; refine Ci ?_; refine Ef ?_; exact h.1) : q := h ⟨k⟩
theorem Jp (k : p) (h : Am p → q := by intro h; refine F8 ?_; refine F8 ?_; exact h.1) : q := h ⟨k⟩
theorem A7s (k : p) (h : Am p → q := by intro h; refine C9 ?_; refine R5 ?_; exact h.1) : q := h ⟨k⟩
theorem Jo (k : p) (h : Am p → q := by intro h; refine E1 ?_; refine Yh ?_; exact h.1) : q := h ⟨k⟩
theorem Km (k : p) (h : Am p → q := by intro h; refine En ?_; refine C9 ?_; exact h.1) : q := h ⟨k⟩
theorem A0y (k : p) (h : Am p → q := by intro h; refine C8z ?_; refine T7 ?_; exact h.1) : q := h ⟨k⟩
theorem Kl (k : p) (h : Am p → q := by intro h; refine E1 ?_; refine G5 ?_; exact h.1) : q := h ⟨k⟩
theorem Mc (k : p) (h : Am p → q := by intro h; refine K3 ?_; refine B0m ?_; exact h.1) : q := h ⟨k⟩
theorem Mb (k : p) (h : Am p → q := by intro h; refine Ci ?_; refine B2 ?_; exact h.1) : q := h ⟨k⟩
theorem Ma (k : p) (h : Am p → q := by intro h; refine Fg ?_; refine Od ?_; exact h.1) : q := h ⟨k⟩
theorem M9 (k : p) (h : Am p → q := by intro h; refine B2 ?_; refine To ?_; exact h.1) : q := h ⟨k⟩
theorem M8 (k : p) (h : Am p → q := by intro h; refine Ou ?_; refine N0 ?_; exact h.1) : q := h ⟨k⟩
theorem B3v (k : p) (h : Am p → q := by intro h; refine C8x ?_; refine Jj ?_; exact h.1) : q := h ⟨k⟩
theorem Mz (k : p) (h : Am p → q := by intro h; refine B9r ?_; refine B9r ?_; exact h.1) : q := h ⟨k⟩
theorem My (k : p) (h : Am p → q := by intro h; refine Kj ?_; refine W4 ?_; exact h.1) : q := h ⟨k⟩
theorem Mx (k : p) (h : Am p → q := by intro h; refine B3u ?_; refine B3u ?_; exact h.1) : q := h ⟨k⟩
theorem Mw (k : p) (h : Am p → q := by intro h; refine A7t ?_; refine A4q ?_; exact h.1) : q := h ⟨k⟩
theorem Mv (k : p) (h : Am p → q := by intro h; refine A4y ?_; refine Ci ?_; exact h.1) : q := h ⟨k⟩
theorem Mu (k : p) (h : Am p → q := by intro h; refine C9 ?_; refine B3t ?_; exact h.1) : q := h ⟨k⟩
theorem Mt (k : p) (h : Am p → q := by intro h; refine F0 ?_; refine B3t ?_; exact h.1) : q := h ⟨k⟩
theorem Mr (k : p) (h : Am p → q := by intro h; refine A7s ?_; refine Kk ?_; exact h.1) : q := h ⟨k⟩
theorem Mq (k : p) (h : Am p → q := by intro h; refine Gu ?_; refine Dj ?_; refine Ot ?_; exact h.1) : q := h ⟨k⟩
theorem Mp (k : p) (h : Am p → q := by intro h; refine En ?_; refine Ki ?_; exact h.1) : q := h ⟨k⟩
theorem Oq (k : p) (h : Am p → q := by intro h; refine Ef ?_; refine Fs ?_; exact h.1) : q := h ⟨k⟩
theorem Oo (k : p) (h : Am p → q := by intro h; refine C9 ?_; refine Ef ?_; exact h.1) : q := h ⟨k⟩
theorem On (k : p) (h : Am p → q := by intro h; refine A0v ?_; refine T7 ?_; exact h.1) : q := h ⟨k⟩
theorem Om (k : p) (h : Am p → q := by intro h; refine Gu ?_; refine R5 ?_; exact h.1) : q := h ⟨k⟩
theorem Q1 (k : p) (h : Am p → q := by intro h; refine Gt ?_; refine Sa ?_; exact h.1) : q := h ⟨k⟩
theorem Q0 (k : p) (h : Am p → q := by intro h; refine Gu ?_; refine En ?_; refine F0 ?_; exact h.1) : q := h ⟨k⟩
theorem Pz (k : p) (h : Am p → q := by intro h; refine zq8 ?_; refine B3v ?_; exact h.1) : q := h ⟨k⟩
theorem Py (k : p) (h : Am p → q := by intro h; refine F8 ?_; refine C8y ?_; refine C8y ?_; refine C8z ?_; refine A0y ?_; exact h.1) : q := h ⟨k⟩
end
instance : Cy prog 4 f4 := ⟨func4⟩
instance : Cy prog 14 f14 := ⟨func14⟩
instance : Cy prog 16 f16 := ⟨func16⟩
instance : Cy prog 18 f18 := ⟨func18⟩
instance : Cy prog 20 f20 := ⟨func20⟩
instance : Cy prog 21 f21 := ⟨func21⟩
instance : Cy prog 22 f22 := ⟨func22⟩
instance : Cy prog 23 f23 := ⟨func23⟩
instance : Cy prog 24 f24 := ⟨func24⟩
instance : Cy prog 31 f31 := ⟨func31⟩
instance : Cy prog 39 f39 := ⟨func39⟩
instance : Cy prog 46 f46 := ⟨func46⟩
instance : Cy prog 47 f47 := ⟨func47⟩
instance : Cy prog 48 f48 := ⟨func48⟩
instance : Cy prog 49 f49 := ⟨func49⟩
instance : Cy prog 50 f50 := ⟨func50⟩
instance : Cy prog 51 f51 := ⟨func51⟩
instance : Cy prog 52 f52 := ⟨func52⟩
instance : Cy prog 58 f58 := ⟨func58⟩
instance : Cy prog 59 f59 := ⟨func59⟩
instance : Cy prog 60 f60 := ⟨func60⟩
instance : Cy prog 61 f61 := ⟨func61⟩
instance : Cy prog 62 f62 := ⟨func62⟩
instance : Cy prog 63 f63 := ⟨func63⟩
instance : Cy prog 64 f64 := ⟨func64⟩
instance : Cy prog 65 f65 := ⟨func65⟩
instance : Cy prog 66 f66 := ⟨func66⟩
instance : Cy prog 70 f70 := ⟨func70⟩
instance : Cy prog 72 f72 := ⟨func72⟩
instance : Cy prog 76 f76 := ⟨func76⟩
instance : Cy prog 89 f89 := ⟨func89⟩
instance : Cy prog 91 f91 := ⟨func91⟩
instance : Cy prog 92 f92 := ⟨func92⟩
instance : Cy prog 93 f93 := ⟨func93⟩
instance : Cy prog 94 f94 := ⟨func94⟩
instance : Cy prog 95 f95 := ⟨func95⟩
instance : Cy prog 96 f96 := ⟨func96⟩
instance : Cy prog 103 f103 := ⟨func103⟩
instance : Cy prog 104 f104 := ⟨func104⟩
instance : Cy prog 105 f105 := ⟨func105⟩
instance : Cy prog 106 f106 := ⟨func106⟩
instance : Cy prog 107 f107 := ⟨func107⟩
instance : Cy prog 108 f108 := ⟨func108⟩
instance : Cy prog 109 f109 := ⟨func109⟩
instance : Cy prog 110 f110 := ⟨func110⟩
instance : Cy prog 111 f111 := ⟨func111⟩
instance : Cy prog 112 f112 := ⟨func112⟩
instance : Cy prog 113 f113 := ⟨func113⟩
instance : Cy prog 114 f114 := ⟨func114⟩
instance : Cy prog 115 f115 := ⟨func115⟩
instance : Cy prog 116 f116 := ⟨func116⟩
instance : Cy prog 117 f117 := ⟨func117⟩
instance : Cy prog 118 f118 := ⟨func118⟩
instance : Cy prog 119 f119 := ⟨func119⟩
instance : Cy prog 120 f120 := ⟨func120⟩
instance : Cy prog 121 f121 := ⟨func121⟩
instance : Cy prog 122 f122 := ⟨func122⟩
instance : Cy prog 124 f124 := ⟨func124⟩
instance : Cy prog 139 f139 := ⟨func139⟩
instance : Cy prog 140 f140 := ⟨func140⟩
instance : Cy prog 166 f166 := ⟨func166⟩
instance : Cy prog 167 f167 := ⟨func167⟩
instance : Cy prog 168 f168 := ⟨func168⟩
instance : Cy prog 169 f169 := ⟨func169⟩
instance : Cy prog 172 f172 := ⟨func172⟩
instance : Cy prog 173 f173 := ⟨func173⟩
instance : Cy prog 174 f174 := ⟨func174⟩
instance : Cy prog 175 f175 := ⟨func175⟩
instance : Cy prog 176 f176 := ⟨func176⟩
instance : Cy prog 177 f177 := ⟨func177⟩
instance : Cy prog 186 f186 := ⟨func186⟩
instance : Cy prog 187 f187 := ⟨func187⟩
instance : Cy prog 188 f188 := ⟨func188⟩
instance : Cy prog 189 f189 := ⟨func189⟩
instance : Cy prog 190 f190 := ⟨func190⟩
instance : Cy prog 191 f191 := ⟨func191⟩
instance : Cy prog 192 f192 := ⟨func192⟩
instance : Cy prog 193 f193 := ⟨func193⟩
instance : Cy prog 194 f194 := ⟨func194⟩
instance : Cy prog 195 f195 := ⟨func195⟩
instance : Cy prog 196 f196 := ⟨func196⟩
instance : Cy prog 197 f197 := ⟨func197⟩
instance : Cy prog 198 f198 := ⟨func198⟩
instance : Cy prog 199 f199 := ⟨func199⟩
instance : Cy prog 200 f200 := ⟨func200⟩
instance : Cy prog 203 f203 := ⟨func203⟩
instance : Cy prog 204 f204 := ⟨func204⟩
instance : Cy prog 205 f205 := ⟨func205⟩
instance : Cy prog 231 f231 := ⟨func231⟩
instance : Cy prog 233 f233 := ⟨func233⟩
instance : Cy prog 236 f236 := ⟨func236⟩
instance : Cy prog 237 f237 := ⟨func237⟩
instance : Cy prog 238 f238 := ⟨func238⟩
instance : Cy prog 239 f239 := ⟨func239⟩
instance : Cy prog 240 f240 := ⟨func240⟩
instance : Cy prog 241 f241 := ⟨func241⟩
instance : Cy prog 242 f242 := ⟨func242⟩
instance : Cy prog 243 f243 := ⟨func243⟩
instance : Cy prog 244 f244 := ⟨func244⟩
instance : Cy prog 248 f248 := ⟨func248⟩
instance : Cy prog 249 f249 := ⟨func249⟩
instance : Cy prog 250 f250 := ⟨func250⟩
instance : Cy prog 251 f251 := ⟨func251⟩
instance : Cy prog 255 f255 := ⟨func255⟩
instance : Cy prog 256 f256 := ⟨func256⟩
instance : Cy prog 270 f270 := ⟨func270⟩
instance : Cy prog 271 f271 := ⟨func271⟩
instance : Cy prog 272 f272 := ⟨func272⟩
instance : Cy prog 273 f273 := ⟨func273⟩
instance : Cy prog 274 f274 := ⟨func274⟩
instance : Cy prog 275 f275 := ⟨func275⟩
instance : Cy prog 276 f276 := ⟨func276⟩
instance : Cy prog 277 f277 := ⟨func277⟩
instance : Cy prog 297 f297 := ⟨func297⟩
instance : Cy prog 298 f298 := ⟨func298⟩
set_option maxRecDepth 100000
theorem Pq (k i : Int) : Spec prog 62 #[iv k, iv i] [] [] (fun _ : Unit => .tuple #[iv (binds k i).1, iv (binds k i).2]) (fun _ => []) (fun _ => []) := by
 refine D8 ntmps62 fun B hB => ?_
 refine F0 ?_; refine Gt ?_; refine Jj ?_; refine W0 ?_; refine F9 ?_; refine W0 ?_; refine F9 ?_; refine W0 ?_; refine W0 ?_; refine W0 ?_; refine F9 ?_; refine W0 ?_; refine F9 ?_; refine F9 ?_; refine F9 ?_; refine Ez ?_; refine A1 (fun h7 => ?_) (fun h7 => ?_)
 ·refine B0l ?_; refine En ?_; refine Q1 ?_; refine A1 (fun h21 => ?_) (fun h21 => ?_)
  ·refine F0 ?_; refine Bh f_ rfl A7 A7 () (by simp_all [binds]) (fun w hs => hs.none)
  ·refine Q0 ?_; refine Bh f_ rfl A7 A7 () (by simp_all [binds]) (fun w hs => hs.none)
 ·refine Iy ?_; refine T8 ?_; refine A1 (fun h7 => ?_) (fun h7 => ?_)
  ·refine En ?_; refine Q1 ?_; refine A1 (fun h21 => ?_) (fun h21 => ?_)
   ·refine F0 ?_; refine Bh f_ rfl A7 A7 () (by simp_all [binds]) (fun w hs => hs.none)
   ·refine Q0 ?_; refine Bh f_ rfl A7 A7 () (by simp_all [binds]) (fun w hs => hs.none)
  ·refine K4 ?_; refine Ez ?_; refine A1 (fun h10 => ?_) (fun h10 => ?_)
   ·refine En ?_; refine P8 ?_; refine P8 ?_; refine Q1 ?_; refine A1 (fun h23 => ?_) (fun h23 => ?_)
    ·refine F0 ?_; refine Bh f_ rfl A7 A7 () (by simp_all [binds]) (fun w hs => hs.none)
    ·refine Q0 ?_; refine Bh f_ rfl A7 A7 () (by simp_all [binds]) (fun w hs => hs.none)
   ·refine K4 ?_; refine Ez ?_; refine A1 (fun h12 => ?_) (fun h12 => ?_)
    ·refine En ?_; refine P8 ?_; refine Q1 ?_; refine A1 (fun h23 => ?_) (fun h23 => ?_)
     ·refine F0 ?_; refine Bh f_ rfl A7 A7 () (by simp_all [binds]) (fun w hs => hs.none)
     ·refine Q0 ?_; refine Bh f_ rfl A7 A7 () (by simp_all [binds]) (fun w hs => hs.none)
    ·refine K4 ?_; refine Ez ?_; refine A1 (fun h14 => ?_) (fun h14 => ?_)
     ·refine En ?_; refine Q1 ?_; refine A1 (fun h23 => ?_) (fun h23 => ?_)
      ·refine F0 ?_; refine Bh f_ rfl A7 A7 () (by simp_all [binds]) (fun w hs => hs.none)
      ·refine Q0 ?_; refine Bh f_ rfl A7 A7 () (by simp_all [binds]) (fun w hs => hs.none)
     ·refine K4 ?_; refine Ez ?_; refine A1 (fun h16 => ?_) (fun h16 => ?_)
      ·refine B0l ?_; refine En ?_; refine Q1 ?_; refine A1 (fun h25 => ?_) (fun h25 => ?_)
       ·refine F0 ?_; refine Bh f_ rfl A7 A7 () (by simp_all [binds]) (fun w hs => hs.none)
       ·refine Q0 ?_; refine Bh f_ rfl A7 A7 () (by simp_all [binds]) (fun w hs => hs.none)
      ·refine Ez ?_; refine A1 (fun h16 => ?_) (fun h16 => ?_)
       ·refine B0l ?_; refine En ?_; refine Q1 ?_; refine A1 (fun h25 => ?_) (fun h25 => ?_)
        ·refine F0 ?_; refine Bh f_ rfl A7 A7 () (by simp_all [binds]) (fun w hs => hs.none)
        ·refine Q0 ?_; refine Bh f_ rfl A7 A7 () (by simp_all [binds]) (fun w hs => hs.none)
       ·refine Iy ?_; refine T8 ?_; refine A1 (fun h16 => ?_) (fun h16 => ?_)
        ·refine En ?_; refine Q1 ?_; refine A1 (fun h25 => ?_) (fun h25 => ?_)
         ·refine F0 ?_; refine Bh f_ rfl A7 A7 () (by simp_all [binds]) (fun w hs => hs.none)
         ·refine Q0 ?_; refine Bh f_ rfl A7 A7 () (by simp_all [binds]) (fun w hs => hs.none)
        ·refine Q0 ?_; refine Bh f_ rfl A7 A7 () (by simp_all [binds]) (fun w hs => hs.none)
theorem Y6 (t : T) (vr vk vs : SH) (c : FuncId) (cap : List Value) (FΓ : List Fact) (SM SF : Nat → List Aw) (β : Nat → Bool)
  (hc : ∀ (args : Array Value) (w : World), (callFunc c args).run prog w = .ok (.enter c args) w)
  (hcl : ∀ m k v d, (parts t)[m]? = some (k, v, d) → (∀ j, j < m → β j = true) → ∀ vr vk vs, Spec prog c (.agg (tc k vr vk vs).toArray :: iv v :: iv d :: cap).toArray (RT k vr vk vs :: FΓ) (SM m) (fun _ : Unit => .bool (β m)) (fun _ => []) (fun _ => if β m then SM (m + 1) else SF m)) :
  Spec prog 106 #[.agg (tc t vr vk vs).toArray, .func (.func c) #[] cap.toArray] (RT t vr vk vs :: FΓ) (SM 0) (fun _ : Unit => .bool (ff β (parts t).length == (parts t).length)) (fun _ => []) (fun _ => if ff β (parts t).length = (parts t).length then SM (parts t).length else SF (ff β (parts t).length)) := by
 refine D8 ntmps106 fun B hB => ?_
 refine go_open (fun hk hn hnm => ?_); refine B1 (ts := t.kids) (fun VR VK VS hl1 hA1 => ?_); refine E6 (bs := t.sys) (fun VF VK2 hl2 hA2 => ?_); have hpl := Z6 t; refine B2 ?_; refine q0 rfl (Az fun b2 => ?_); refine Ff ?_; refine Mc ?_; refine Dm (X := Nat) (fun i => i ≤ t.kids.length ∧ ∀ j, j < i → β j = true) (fun i => [(1, .func (.func c) #[] cap.toArray), (2, pz b2), (15, sl vk t.kids.length), (16, iv (t.kids.length : Int)), (17, iv (i : Int))]) (fun i => TLx t.kids vk VR VK VS :: BLx t.sys vs VF VK2 :: RT t vr vk vs :: FΓ) (fun i => Ac b2 (tc t vr vk vs) 26 :: SM i) (fun i => t.kids.length - i) (0) (⟨Nat.zero_le _, fun j hj => by omega⟩) (by exact Dk) ?_ ?_
 ·exact fun w hs => hs.l9
 ·intro i base0 ⟨hi, hβ⟩ next0; refine E0 ?_; refine A1 (fun h18 => ?_) (fun h18 => ?_)
  ·have hlt : i < t.kids.length := by have := of_decide_eq_true h18; omega
   obtain ⟨bk, o, hav⟩ := hA1 A3; refine T9 ?_; refine Ef ?_; refine Oe ?_; refine P7 ?_; refine q0 rfl (B5 fun b6 => ?_); refine zq2 ?_; refine Jq ?_; refine Fo i hlt ?_; refine Iy ?_; have hpk := It t i hlt; refine Ho ?_; refine E1 ?_; refine q0 rfl (A0 call62 (Pq t.kind i) (fun x26 => ?_)); refine Tl ?_; refine Oq ?_; refine Gf ?_; refine q0 rfl (C7 hc (hcl i _ _ _ hpk hβ _ _ _) (fun x33 => ?_)); refine Iz ?_; refine A1 (fun h34 => ?_) (fun h34 => ?_)
   ·have hβf : β i = false := by simpa using h34
    refine C9 ?_; have hff := Zv hβf hβ (n := (parts t).length) A3; refine Ao f_ rfl A7 () (by simp [hff]; omega) (fun w hs => by rw [hff, if_neg A3]; simp only [hβf, Bool.false_eq_true, if_false] at hs; exact (hs.l8).Bw)
   ·refine Hr ?_; have hβt : β i = true := by simpa using h34
    refine A2 (fun w hs => ?_) (next0 (i + 1) _ ⟨hlt, fun j hj => (by rcases Nat.lt_succ_iff_lt_or_eq.mp hj with h | h; exact hβ j h; subst h; exact hβt)⟩ A3 Dk); simp only [hβt, if_true] at hs; exact ((hs.l9).perm List.perm_append_comm).drop
  ·have hge : i = t.kids.length := by have := of_decide_eq_false h18; omega
   refine Km ?_; refine F9 ?_; refine K3 ?_; refine Sa ?_; refine By ([(1, .func (.func c) #[] cap.toArray), (2, pz b2), (9, iv (more t.kind))]) (fun hK => ?_) (fun base => ?_)
   ·refine A1 (fun h38 => ?_) (fun h38 => ?_)
    ·refine Iy ?_; refine Ci ?_; exact hK _ ⟨rfl, rfl, by first | (rw [more, if_pos (of_decide_eq_true h38)]; rfl) | (rw [more, if_neg (of_decide_eq_false h38)]; rfl), trivial⟩
    ·refine Gu ?_; exact hK _ ⟨rfl, rfl, by first | (rw [more, if_pos (of_decide_eq_true h38)]; rfl) | (rw [more, if_neg (of_decide_eq_false h38)]; rfl), trivial⟩
   ·refine F9 ?_; refine Mc ?_; refine Dm (X := Nat) (fun i2 => i2 ≤ t.sys.length ∧ ∀ j, j < t.kids.length + Bd i2 t.sys → β j = true) (fun i2 => [(1, .func (.func c) #[] cap.toArray), (9, iv (more t.kind)), (40, sl vs t.sys.length), (41, iv (t.sys.length : Int)), (42, iv (i2 : Int))]) (fun i2 => BLx t.sys vs VF VK2 :: FΓ) (fun i2 => SM (t.kids.length + Bd i2 t.sys)) (fun i2 => t.sys.length - i2) (0) (⟨Nat.zero_le _, fun j hj => hβ j (by simp [Bd] at hj; omega)⟩) (by exact Dk) ?_ ?_
    ·exact fun w hs => (by simpa [Bd, show i = t.kids.length by omega] using (hs.drop.less (Γ' := BLx t.sys vs VF VK2 :: FΓ) sx_))
    ·intro i2 base1 ⟨hi2, hβ2⟩ next1; refine E0 ?_; refine A1 (fun h43 => ?_) (fun h43 => ?_)
     ·have hlt2 : i2 < t.sys.length := by have := of_decide_eq_true h43; omega
      obtain ⟨bk2, o2, hav2⟩ := hA2 A3; refine Ic ?_; refine Oe ?_; refine B0q ?_; refine q0 rfl (B5 fun b11 => ?_); refine Ey ?_; refine Mc ?_; refine Fx i2 A3 ?_; refine B1 (ts := (t.sys.getD i2 Bi).kids) (fun VR3 VK3 VS3 hl3 hA3 => ?_); refine Dm (X := Nat) (fun j => j ≤ (t.sys.getD i2 Bi).kids.length ∧ ∀ m, m < t.kids.length + Bd i2 t.sys + j → β m = true) (fun j => [(1, .func (.func c) #[] cap.toArray), (9, iv (more t.kind)), (40, sl vs t.sys.length), (41, iv (t.sys.length : Int)), (42, iv ((i2 : Nat) : Int)), (47, sl (VK2 i2) (t.sys.getD i2 Bi).kids.length), (48, iv ((t.sys.getD i2 Bi).kids.length : Int)), (49, iv (j : Int))]) (fun j => TLx (t.sys.getD i2 Bi).kids (VK2 i2) VR3 VK3 VS3 :: BLx t.sys vs VF VK2 :: FΓ) (fun j => SM (t.kids.length + Bd i2 t.sys + j)) (fun j => (t.sys.getD i2 Bi).kids.length - j) (0) (⟨Nat.zero_le _, hβ2⟩) (by exact Dk) ?_ ?_
      ·exact fun w hs => (hs.l9).drop
      ·intro j base2 ⟨hj, hβ3⟩ next2; refine E0 ?_; refine A1 (fun h50 => ?_) (fun h50 => ?_)
       ·have hlt3 : j < (t.sys.getD i2 Bi).kids.length := by have := of_decide_eq_true h50; omega
        obtain ⟨bk3, o3, hav3⟩ := hA3 A3; have hps := Iq t i2 j hlt2 hlt3; refine Fo j hlt3 ?_; refine Ic ?_; refine Oe ?_; refine P7 ?_; refine q0 rfl (B5 fun b13 => ?_); refine Ey ?_; refine Oq ?_; refine E1 ?_; refine q0 rfl (C7 hc (hcl _ _ _ _ hps hβ3 _ _ _) (fun x56 => ?_)); refine Iz ?_; refine A1 (fun h57 => ?_) (fun h57 => ?_)
        ·have hβf : β (t.kids.length + Bd i2 t.sys + j) = false := by simpa using h57
         refine C9 ?_; have hbd := Yp hlt2 hlt3; have hff := Zv hβf hβ3 (n := (parts t).length) A3; refine Ao f_ rfl A7 () (by simp [hff]; omega) (fun w hs => by rw [hff, if_neg A3]; simp only [hβf, Bool.false_eq_true, if_false] at hs; exact (hs.l8).Bw)
        ·refine Hr ?_; have hβt : β (t.kids.length + Bd i2 t.sys + j) = true := by simpa using h57
         refine A2 (fun w hs => ?_) (next2 (j + 1) _ ⟨hlt3, fun j2 hj2 => (by rcases Nat.lt_succ_iff_lt_or_eq.mp hj2 with h | h; exact hβ3 j2 h; subst h; exact hβt)⟩ A3 Dk); simp only [hβt, if_true] at hs; exact (hs.l9).Bw
       ·have hge3 : j = (t.sys.getD i2 Bi).kids.length := by have := of_decide_eq_false h50; omega
        refine En ?_; refine P5 ?_; refine A2 (fun w hs => ?_) (next1 (i2 + 1) _ ⟨hlt2, by rw [J4 i2 t.sys hlt2]; rw [hge3] at hβ3; simpa [Nat.add_assoc] using hβ3⟩ A3 Dk); rw [hge3] at hs; simp only [J4 i2 t.sys hlt2, ← Nat.add_assoc]; exact hs.l9
     ·refine Km ?_; have hie : i2 = t.sys.length := by have := of_decide_eq_false h43; omega
      have hff := Zw (β := β) (n := (parts t).length) (by rw [hpl, ← hie]; exact hβ2); refine Ao f_ rfl A7 () (by simp [hff]) (fun w hs => by rw [hff, if_pos rfl, hpl, ← hie]; exact hs.l8)
theorem B2l (k : Int) : Spec prog 189 #[iv k] [] [] (fun _ : Unit => iv (D1 k)) (fun _ => []) (fun _ => []) := by
 refine D8 ntmps189 fun B hB => ?_
 refine C9 ?_; refine Gt ?_; refine Jj ?_; refine W0 ?_; refine F9 ?_; refine Ez ?_; refine A1 (fun h4 => ?_) (fun h4 => ?_)
 ·refine Fe ?_; refine Ao f_ rfl A7 () (by simp_all [D1]) (fun w hs => hs.none)
 ·refine Ez ?_; refine A1 (fun h4 => ?_) (fun h4 => ?_)
  ·refine Fe ?_; refine Ao f_ rfl A7 () (by simp_all [D1]) (fun w hs => hs.none)
  ·refine Ez ?_; refine A1 (fun h4 => ?_) (fun h4 => ?_)
   ·refine Fe ?_; refine Ao f_ rfl A7 () (by simp_all [D1]) (fun w hs => hs.none)
   ·refine Ez ?_; refine A1 (fun h4 => ?_) (fun h4 => ?_)
    ·refine Fe ?_; refine Ao f_ rfl A7 () (by simp_all [D1]) (fun w hs => hs.none)
    ·refine Ez ?_; refine A1 (fun h4 => ?_) (fun h4 => ?_)
     ·refine Fe ?_; refine Ao f_ rfl A7 () (by simp_all [D1]) (fun w hs => hs.none)
     ·refine Ez ?_; refine A1 (fun h4 => ?_) (fun h4 => ?_)
      ·refine Fe ?_; refine Ao f_ rfl A7 () (by simp_all [D1]) (fun w hs => hs.none)
      ·refine Ez ?_; refine A1 (fun h4 => ?_) (fun h4 => ?_)
       ·refine Fe ?_; refine Ao f_ rfl A7 () (by simp_all [D1]) (fun w hs => hs.none)
       ·refine Iy ?_; refine T8 ?_; refine A1 (fun h4 => ?_) (fun h4 => ?_)
        ·refine C9 ?_; refine Ao f_ rfl A7 () (by simp_all [D1]) (fun w hs => hs.none)
        ·refine F9 ?_; refine Ez ?_; refine A1 (fun h13 => ?_) (fun h13 => ?_)
         ·refine Fe ?_; refine Ao f_ rfl A7 () (by simp_all [D1]) (fun w hs => hs.none)
         ·refine Ez ?_; refine A1 (fun h13 => ?_) (fun h13 => ?_)
          ·refine Fe ?_; refine Ao f_ rfl A7 () (by simp_all [D1]) (fun w hs => hs.none)
          ·refine Ez ?_; refine A1 (fun h13 => ?_) (fun h13 => ?_)
           ·refine Fe ?_; refine Ao f_ rfl A7 () (by simp_all [D1]) (fun w hs => hs.none)
           ·refine Ez ?_; refine A1 (fun h13 => ?_) (fun h13 => ?_)
            ·refine Fe ?_; refine Ao f_ rfl A7 () (by simp_all [D1]) (fun w hs => hs.none)
            ·refine Ez ?_; refine A1 (fun h13 => ?_) (fun h13 => ?_)
             ·refine Fe ?_; refine Ao f_ rfl A7 () (by simp_all [D1]) (fun w hs => hs.none)
             ·refine Ez ?_; refine A1 (fun h13 => ?_) (fun h13 => ?_)
              ·refine Fe ?_; refine Ao f_ rfl A7 () (by simp_all [D1]) (fun w hs => hs.none)
              ·refine Ez ?_; refine A1 (fun h13 => ?_) (fun h13 => ?_)
               ·refine Fe ?_; refine Ao f_ rfl A7 () (by simp_all [D1]) (fun w hs => hs.none)
               ·refine Ez ?_; refine A1 (fun h13 => ?_) (fun h13 => ?_)
                ·refine Fe ?_; refine Ao f_ rfl A7 () (by simp_all [D1]) (fun w hs => hs.none)
                ·refine Iy ?_; refine T8 ?_; refine A1 (fun h13 => ?_) (fun h13 => ?_)
                 ·refine C9 ?_; refine Ao f_ rfl A7 () (by simp_all [D1]) (fun w hs => hs.none)
                 ·refine F9 ?_; refine Ez ?_; refine A1 (fun h23 => ?_) (fun h23 => ?_)
                  ·refine Fe ?_; refine Ao f_ rfl A7 () (by simp_all [D1]) (fun w hs => hs.none)
                  ·refine Ez ?_; refine A1 (fun h23 => ?_) (fun h23 => ?_)
                   ·refine Fe ?_; refine Ao f_ rfl A7 () (by simp_all [D1]) (fun w hs => hs.none)
                   ·refine Ez ?_; refine A1 (fun h23 => ?_) (fun h23 => ?_)
                    ·refine Fe ?_; refine Ao f_ rfl A7 () (by simp_all [D1]) (fun w hs => hs.none)
                    ·refine Ez ?_; refine A1 (fun h23 => ?_) (fun h23 => ?_)
                     ·refine Fe ?_; refine Ao f_ rfl A7 () (by simp_all [D1]) (fun w hs => hs.none)
                     ·refine Ez ?_; refine A1 (fun h23 => ?_) (fun h23 => ?_)
                      ·refine Fe ?_; refine Ao f_ rfl A7 () (by simp_all [D1]) (fun w hs => hs.none)
                      ·refine Ez ?_; refine A1 (fun h23 => ?_) (fun h23 => ?_)
                       ·refine Fe ?_; refine Ao f_ rfl A7 () (by simp_all [D1]) (fun w hs => hs.none)
                       ·refine Iy ?_; refine T8 ?_; refine A1 (fun h23 => ?_) (fun h23 => ?_)
                        ·refine C9 ?_; refine Ao f_ rfl A7 () (by simp_all [D1]) (fun w hs => hs.none)
                        ·refine F9 ?_; refine Ez ?_; refine A1 (fun h31 => ?_) (fun h31 => ?_)
                         ·refine Fe ?_; refine Ao f_ rfl A7 () (by simp_all [D1]) (fun w hs => hs.none)
                         ·refine Iy ?_; refine T8 ?_; refine A1 (fun h31 => ?_) (fun h31 => ?_)
                          ·refine C9 ?_; refine Ao f_ rfl A7 () (by simp_all [D1]) (fun w hs => hs.none)
                          ·refine Ez ?_; refine A1 (fun h34 => ?_) (fun h34 => ?_)
                           ·refine C9 ?_; refine Ao f_ rfl A7 () (by simp_all [D1]) (fun w hs => hs.none)
                           ·refine Ez ?_; refine A1 (fun h36 => ?_) (fun h36 => ?_)
                            ·refine C9 ?_; refine Ao f_ rfl A7 () (by simp_all [D1]) (fun w hs => hs.none)
                            ·refine Gu ?_; refine P8 ?_; refine C9 ?_; refine Ao f_ rfl A7 () (by simp_all [D1]) (fun w hs => hs.none)
theorem J9 (k : Int) : Spec prog 190 #[iv k] [] [] (fun _ : Unit => iv (Dh k)) (fun _ => []) (fun _ => []) := by
 refine D8 ntmps190 fun B hB => ?_
 refine C9 ?_; refine Gt ?_; refine Jj ?_; refine W0 ?_; refine F9 ?_; refine Ez ?_; refine A1 (fun h4 => ?_) (fun h4 => ?_)
 ·refine Fe ?_; refine Ao f_ rfl A7 () (by simp_all [Dh]) (fun w hs => hs.none)
 ·refine Ez ?_; refine A1 (fun h4 => ?_) (fun h4 => ?_)
  ·refine Fe ?_; refine Ao f_ rfl A7 () (by simp_all [Dh]) (fun w hs => hs.none)
  ·refine Iy ?_; refine T8 ?_; refine A1 (fun h4 => ?_) (fun h4 => ?_)
   ·refine C9 ?_; refine Ao f_ rfl A7 () (by simp_all [Dh]) (fun w hs => hs.none)
   ·refine Ez ?_; refine A1 (fun h8 => ?_) (fun h8 => ?_)
    ·refine C9 ?_; refine Ao f_ rfl A7 () (by simp_all [Dh]) (fun w hs => hs.none)
    ·refine Gu ?_; refine P8 ?_; refine C9 ?_; refine Ao f_ rfl A7 () (by simp_all [Dh]) (fun w hs => hs.none)
theorem Y7 (t : T) (vr vk vs : SH) (c : FuncId) (cap : List Value) (FΓ : List Fact) (M : List Aw) (g : Part → Bool)
  (hc : ∀ (args : Array Value) (w : World), (callFunc c args).run prog w = .ok (.enter c args) w)
  (hcl : ∀ k v d, (k, v, d) ∈ parts t → ∀ vr vk vs, Spec prog c (.agg (tc k vr vk vs).toArray :: iv v :: iv d :: cap).toArray (RT k vr vk vs :: FΓ) M (fun _ : Unit => .bool (g (k, v, d))) (fun _ => []) (fun _ => M)) :
  Spec prog 106 #[.agg (tc t vr vk vs).toArray, .func (.func c) #[] cap.toArray] (RT t vr vk vs :: FΓ) M (fun _ : Unit => .bool ((parts t).all g)) (fun _ => []) (fun _ => M) := by
 have h := Y6 t vr vk vs c cap FΓ (fun _ => M) (fun _ => M) (A0h t g) hc (fun m k v d hm _ vr vk vs => by simpa [Nq hm] using hcl k v d (Ir hm) vr vk vs); rw [B8i] at h; simpa using h
abbrev S8 (t : T) : Prop := ∀ (left : Int) vr vk vs, Aq left → Spec prog 103 #[.agg (tc t vr vk vs).toArray, iv left] [RT t vr vk vs] [] (fun _ : Unit => .bool (decide ((depth t : Int) ≤ left))) (fun _ => []) (fun _ => [])
theorem W7 (k : T) (vr vk vs : SH) (b : Nat) (left v d : Int) (h0 : 0 < left) (hl : Aq left) (ih : S8 k) : Spec prog 186 #[.agg (tc k vr vk vs).toArray, iv v, iv d, pz b] [RT k vr vk vs] [Ac b [iv left] 3] (fun _ : Unit => .bool (decide ((depth k : Int) ≤ left - 1))) (fun _ => []) (fun _ => [Ac b [iv left] 3]) := by
 refine D8 ntmps186 fun B hB => ?_
 refine B2 ?_; refine q0 rfl (Az fun b4 => ?_); refine Ci ?_; refine F7 ?_; refine P9 ?_; refine q0 rfl (A2e ?_); refine q0 rfl (A0 call103 (ih (left - 1) vr vk vs (by unfold Aq at *; omega)) (fun x11 => ?_)); refine Ci ?_; refine Ao f_ rfl A7 () rfl (fun w hs => (hs.l8).drop)
theorem Yv (t : T) (ih : ∀ p, p ∈ parts t → S8 p.1) (left : Int) (vr vk vs : SH) (hl : Aq left) : Spec prog 103 #[.agg (tc t vr vk vs).toArray, iv left] [RT t vr vk vs] [] (fun _ : Unit => .bool (decide ((depth t : Int) ≤ left))) (fun _ => []) (fun _ => []) := by
 refine D8 ntmps103 fun B hB => ?_
 refine B2 ?_; refine q0 rfl (Az fun b2 => ?_); refine q0 rfl (Az fun b3 => ?_); refine Mb ?_; refine P9 ?_; refine B0p ?_; refine E1 ?_; refine qI rfl rfl rfl J1 (fun hg7 => Na ?_) (fun hg7 => ?_)
 ·refine qT rfl rfl rfl (A6b ?_); have h0 : 0 < left := of_decide_eq_true hg7; have hE := Y7 t vr vk vs 186 [pz b3] [] [Ac b3 [iv left] 3] (fun p => decide ((depth p.1 : Int) ≤ left - 1)) call186 (fun k v d hm vr vk vs => W7 k vr vk vs b3 left v d h0 hl (ih _ hm)); rw [← B3i t left h0] at hE; refine qT rfl rfl rfl (A0 call106 (hE) (fun x10 => ?_)); refine G1 ?_; refine Ao f_ rfl A7 () rfl (fun w hs => hs.none)
 ·refine Fg ?_; refine G6 ?_; have h0 : ¬ 0 < left := of_decide_eq_false hg7; have hp := Y8 t; refine Ao f_ rfl A7 () (by rw [decide_eq_false A3]) (fun w hs => hs.none)
theorem Yw : ∀ t : T, S8 t := T.ind fun t ih left vr vk vs hl => Yv t ih left vr vk vs hl
def leftOf (t : T) (m : Int) : Int := if (size t : Int) ≤ m then m - size t else -1
abbrev Vy (b bc : Nat) : List Value := [pz b, pz bc]
abbrev G4 (b bc : Nat) (m : Int) : List Aw := [Ac b [iv m] 3, Ac bc [.func (.func 187) #[] (Vy b bc).toArray] 30]
abbrev Tk (t : T) : Prop := ∀ (m : Int) b bc vr vk vs, 0 ≤ m → Aq m → Spec prog 187 #[.agg (tc t vr vk vs).toArray, pz b, pz bc] [RT t vr vk vs] (G4 b bc m) (fun _ : Unit => .bool (decide ((size t : Int) ≤ m))) (fun _ => []) (fun _ => G4 b bc (leftOf t m))
theorem Ys (k : T) (vr vk vs : SH) (b bc : Nat) (m v d : Int) (h0 : 0 ≤ m) (hl : Aq m) (ih : Tk k) : Spec prog 188 #[.agg (tc k vr vk vs).toArray, iv v, iv d, pz bc] [RT k vr vk vs] (G4 b bc m) (fun _ : Unit => .bool (decide ((size k : Int) ≤ m))) (fun _ => []) (fun _ => G4 b bc (leftOf k m)) := by
 refine D8 ntmps188 fun B hB => ?_
 refine B2 ?_; refine q0 rfl (Az fun b4 => ?_); refine Mb ?_; refine P9 ?_; refine Fs ?_; refine q0 rfl (C7 call187 (ih m b bc vr vk vs h0 hl) (cap := Vy b bc) (fun x10 => ?_)); refine Ci ?_; refine Ao f_ rfl A7 () rfl (fun w hs => (hs.l8).Bw (A := G4 b bc (leftOf k m)))
theorem A7b (t : T) (ih : ∀ p, p ∈ parts t → Tk p.1) (m : Int) (b bc : Nat) (vr vk vs : SH) (h0 : 0 < m) (hl : Aq m) :
  Spec prog 106 #[.agg (tc t vr vk vs).toArray, .func (.func 188) #[] #[pz bc]] [RT t vr vk vs] (G4 b bc (m - 1)) (fun _ : Unit => .bool (decide ((size t : Int) ≤ m))) (fun _ => []) (fun _ => G4 b bc (leftOf t m)) := by
 have h := Y6 t vr vk vs 188 [pz bc] [] (fun j => G4 b bc (if (Bq t j : Int) ≤ m then m - Bq t j else -1)) (fun _ => G4 b bc (-1)) (fun j => decide ((Bq t (j + 1) : Int) ≤ m)) call188 ?_
 ·have hall : (ff (fun j => decide ((Bq t (j + 1) : Int) ≤ m)) (parts t).length == (parts t).length) = decide ((size t : Int) ≤ m) := by
   rw [Bool.eq_iff_iff, beq_iff_eq, Rx, decide_eq_true_iff]; constructor
   ·intro h; cases hn : (parts t).length with
    | zero => have := Ig t; rw [hn, K8] at this; omega
    | succ n =>
     have := h n A3; rw [← hn, Ig] at this; exact of_decide_eq_true this
   ·intro h j hj; have := N2 t (j + 1); exact decide_eq_true A3
  simp only [hall, K8, Ig, beq_iff_eq] at h; rw [if_pos A3] at h; by_cases hs : (size t : Int) ≤ m
  ·have e : ff (fun j => decide ((Bq t (j + 1) : Int) ≤ m)) (parts t).length = (parts t).length := by rw [← beq_iff_eq, hall]; exact decide_eq_true hs
   simp only [e, if_true, if_pos hs] at h; unfold leftOf; rw [if_pos hs]; exact h
  ·have e : ¬ ff (fun j => decide ((Bq t (j + 1) : Int) ≤ m)) (parts t).length = (parts t).length := by rw [← beq_iff_eq, hall]; simpa using hs
   simp only [if_neg e] at h; unfold leftOf; rw [if_neg hs]; exact h
 ·intro j k v d hm hβ vr vk vs; have hs := K9 hm; simp only at hs; have hp := size_pos k
  have hj : (Bq t j : Int) ≤ m := by
   cases j with
   | zero => rw [K8]; omega
   | succ j => exact of_decide_eq_true (hβ j A3)
  have := Ys k vr vk vs b bc (m - Bq t j) v d A3 (by unfold Aq at *; omega) (ih _ (Ir hm)); rw [if_pos hj]; have e1 : decide ((size k : Int) ≤ m - Bq t j) = decide ((Bq t (j + 1) : Int) ≤ m) := by rw [hs]; congr 1; apply propext; omega
  rw [e1] at this
  have e2 : G4 b bc (leftOf k (m - Bq t j)) = if decide ((Bq t (j + 1) : Int) ≤ m) = true then G4 b bc (if (Bq t (j + 1) : Int) ≤ m then m - Bq t (j + 1) else -1) else G4 b bc (-1) := by
   unfold leftOf; by_cases hk : (Bq t (j + 1) : Int) ≤ m
   ·rw [if_pos A3, if_pos (decide_eq_true hk), if_pos hk, hs]; congr 1; omega
   ·rw [if_neg A3, if_neg (by simpa using hk)]
  rw [e2] at this; exact this
theorem A1c (t : T) (ih : ∀ p, p ∈ parts t → Tk p.1) (m : Int) (b bc : Nat) (vr vk vs : SH) (h0 : 0 ≤ m) (hl : Aq m) : Spec prog 187 #[.agg (tc t vr vk vs).toArray, pz b, pz bc] [RT t vr vk vs] (G4 b bc m) (fun _ : Unit => .bool (decide ((size t : Int) ≤ m))) (fun _ => []) (fun _ => G4 b bc (leftOf t m)) := by
 refine D8 ntmps187 fun B hB => ?_
 refine B2 ?_; refine q0 rfl (Az fun b3 => ?_); refine Mb ?_; refine P9 ?_; refine q0 rfl (A2e ?_); refine B3v ?_; refine B2 ?_; refine P9 ?_; refine A0u ?_; refine E1 ?_; refine qI rfl rfl rfl J1 (fun hg9 => Na ?_) (fun hg9 => ?_)
 ·refine qT rfl rfl rfl (A6b ?_); have h1 : 0 ≤ m - 1 := of_decide_eq_true hg9; have hE := A7b t ih m b bc vr vk vs A3 hl; refine qT rfl rfl rfl (A0 call106 (hE) (fun x12 => ?_) (hm := (List.Perm.swap _ _ _).cons _)); refine G1 ?_; refine Ao f_ rfl A7 () rfl (fun w hs => (hs.l8).Bw (A := G4 b bc (leftOf t m)))
 ·refine Fg ?_; refine G6 ?_; have h1 : ¬ 0 ≤ m - 1 := of_decide_eq_false hg9; have hp := size_pos t; refine Ao f_ rfl A7 () (by rw [decide_eq_false A3]) (fun w hs => by rw [leftOf, if_neg A3, show (-1 : Int) = m - 1 by omega]; exact ((hs.l7).perm ((List.Perm.swap _ _ _).cons _)).Bw (A := G4 b bc (m - 1)))
theorem A7a : ∀ t : T, Tk t := T.ind fun t ih m b bc vr vk vs h0 hl => A1c t ih m b bc vr vk vs h0 hl
def B9h : Prop := ∀ (l : List Cl) (a : SH), Spec prog 63 #[sl a l.length] [CL l a] [] (fun _ : Unit => .bool (Ab l)) (fun _ => []) (fun _ => [])
def Yf : Prop := ∀ (l : List Cl) (a : SH), Spec prog 193 #[sl a l.length] [CL l a] [] (fun _ : Unit => .bool (A4 l)) (fun _ => []) (fun _ => [])
def B9i : Prop := ∀ (l : List Cl) (a : SH), Spec prog 64 #[sl a l.length] [CL l a] [] (fun _ : Unit => .int .u32 (L7 l : Int)) (fun _ => []) (fun _ => [])
def A7q : Prop := B9h ∧ Yf ∧ B9i
theorem A5e (t : T) (vr vk vs : SH) (C8 : Int) (h0 : 0 ≤ C8) (hl : Aq C8) : Spec prog 104 #[.agg (tc t vr vk vs).toArray, iv C8] [RT t vr vk vs] [] (fun _ : Unit => .bool (decide ((size t : Int) ≤ C8))) (fun _ => []) (fun _ => []) := by
 refine D8 ntmps104 fun B hB => ?_
 refine B2 ?_; refine q0 rfl (Az fun b2 => ?_); refine q0 rfl (Az fun b3 => ?_); refine Mb ?_; refine q0 rfl (B5 fun b5 => ?_); refine Jj ?_; refine B2 ?_; refine Mo ?_; refine Ey ?_; refine B2 ?_; refine P9 ?_; refine Fs ?_; refine q0 rfl (C7 call187 (A7a t C8 b3 b5 vr vk vs h0 hl) (cap := Vy b3 b5) (fun x9 => ?_)); refine Ci ?_; refine Ao f_ rfl A7 () rfl (fun w hs => hs.none)
theorem U1 (t : T) (vr vk vs : SH) : Spec prog 59 #[.agg (tc t vr vk vs).toArray] [RT t vr vk vs] [] (fun _ : Unit => iv (sized t)) (fun _ => []) (fun _ => []) := by
 refine D8 ntmps59 fun B hB => ?_
 refine B2 ?_; refine q0 rfl (Az fun b1 => ?_); refine Ff ?_; refine W0 ?_; refine F7 ?_; refine q0 rfl (A0 call103 (Yw t 200 vr vk vs (by unfold Aq; omega)) (fun x5 => ?_)); refine A4x ?_; refine Ci ?_; refine A1 (fun h3 => ?_) (fun h3 => ?_)
 ·refine C9 ?_; have h : 200 < depth t := by simp at h3; omega
  refine Ao f_ rfl A7 () (by rw [sized, if_pos h]) (fun w hs => hs.none)
 ·refine F7 ?_; refine q0 rfl (A0 call104 (A5e t vr vk vs 20000 A3 (by unfold Aq; omega)) (fun x9 => ?_)); refine A4x ?_; refine Ci ?_; refine A1 (fun h7 => ?_) (fun h7 => ?_)
  ·refine C9 ?_; have h : ¬ 200 < depth t := by simp at h3; omega
   have h2 : 20000 < size t := by simp at h7; omega
   refine Ao f_ rfl A7 () (by rw [sized, if_neg h, if_pos h2]) (fun w hs => hs.none)
  ·refine Gu ?_; refine P8 ?_; refine C9 ?_; have h : ¬ 200 < depth t := by simp at h3; omega
   have h2 : ¬ 20000 < size t := by simp at h7; omega
   refine Ao f_ rfl A7 () (by rw [sized, if_neg h, if_neg h2]) (fun w hs => hs.none)
theorem B2a (s : ByteArray) (hs : s.size ≤ Ga) : Spec prog 191 #[.string s] [] [] (fun _ : Unit => .bool (Kc s)) (fun _ => []) (fun _ => []) := by
 refine D8 ntmps191 fun B hB => ?_
 refine C9 ?_; refine Gt ?_; refine q0 rfl (Un ?_); refine B9o ?_; refine Dm (X := Nat) (fun i => i ≤ s.size ∧ ∀ j, j < i → Wa s j = true) (fun i => [(0, .string s), (7, iv (s.size : Int)), (8, iv (i : Int))]) (fun i => []) (fun i => []) (fun i => s.size - i) (0) (⟨Nat.zero_le _, fun j hj => by omega⟩) (by exact Dk) ?_ ?_
 ·exact fun w hs => hs.none
 ·intro i base0 ⟨hi, hok⟩ next0; refine E0 ?_; refine A1 (fun h9 => ?_) (fun h9 => ?_)
  ·have hlt : i < s.size := by have := of_decide_eq_true h9; omega
   obtain ⟨c, hc, hca⟩ := C2h hlt; refine T9 ?_; refine I8 ?_; refine R5 ?_; refine q0 rfl (C0x ?_); refine Ff ?_; refine By ([(0, .string s), (3, iv (i : Int)), (4, .int .u8 c.toNat), (5, .bool (Fl c.toNat)), (7, iv (s.size : Int)), (8, iv (i : Int))]) (fun hK => ?_) (fun base => ?_)
   ·refine Dj ?_; refine A0u ?_; refine E1 ?_; refine qI rfl rfl rfl J1 (fun hg16 => E2 ?_) (fun hg16 => ?_)
    ·refine A4w ?_; refine Ou ?_; refine qI rfl rfl rfl J1 (fun hg20 => E2 ?_) (fun hg20 => ?_)
     ·refine qT rfl rfl rfl (Xk ?_); refine Hq ?_; refine qI rfl rfl rfl J1 (fun hg23 => E2 ?_) (fun hg23 => ?_)
      ·refine A4w ?_; refine A0t ?_; refine I7 ?_; refine qI rfl rfl rfl J1 (fun hg28 => E2 ?_) (fun hg28 => ?_)
       ·refine A0s ?_; refine G6 ?_; exact hK _ ⟨rfl, rfl, rfl, (by (conv => lhs; whnf); first | (simp_all [Fl]; done) | (simp_all [Fl]; omega)), rfl, rfl, trivial⟩
       ·refine Od ?_; refine G1 ?_; exact hK _ ⟨rfl, rfl, rfl, (by (conv => lhs; whnf); first | (simp_all [Fl]; done) | (simp_all [Fl]; omega)), rfl, rfl, trivial⟩
      ·refine Od ?_; refine A0r ?_; refine I7 ?_; refine Hq ?_; refine A0s ?_; refine G6 ?_; exact hK _ ⟨rfl, rfl, rfl, (by (conv => lhs; whnf); first | (simp_all [Fl]; done) | (simp_all [Fl]; omega)), rfl, rfl, trivial⟩
     ·refine Fg ?_; refine Mz ?_; refine Od ?_; refine Ou ?_; refine Fg ?_; refine G1 ?_; exact hK _ ⟨rfl, rfl, rfl, (by (conv => lhs; whnf); first | (simp_all [Fl]; done) | (simp_all [Fl]; omega)), rfl, rfl, trivial⟩
    ·refine Od ?_; refine I7 ?_; refine Hq ?_; refine qT rfl rfl rfl (Xk ?_); refine Hq ?_; refine qI rfl rfl rfl J1 (fun hg23 => E2 ?_) (fun hg23 => ?_)
     ·refine A4w ?_; refine A0t ?_; refine I7 ?_; refine qI rfl rfl rfl J1 (fun hg28 => E2 ?_) (fun hg28 => ?_)
      ·refine A0s ?_; refine G6 ?_; exact hK _ ⟨rfl, rfl, rfl, (by (conv => lhs; whnf); first | (simp_all [Fl]; done) | (simp_all [Fl]; omega)), rfl, rfl, trivial⟩
      ·refine Od ?_; refine G1 ?_; exact hK _ ⟨rfl, rfl, rfl, (by (conv => lhs; whnf); first | (simp_all [Fl]; done) | (simp_all [Fl]; omega)), rfl, rfl, trivial⟩
     ·refine Od ?_; refine A0r ?_; refine I7 ?_; refine Hq ?_; refine A0s ?_; refine G6 ?_; exact hK _ ⟨rfl, rfl, rfl, (by (conv => lhs; whnf); first | (simp_all [Fl]; done) | (simp_all [Fl]; omega)), rfl, rfl, trivial⟩
   ·refine F9 ?_; refine By ([(0, .string s), (7, iv (s.size : Int)), (8, iv (i : Int)), (45, .bool (!(Wa s i)))]) (fun hK => ?_) (fun base => ?_)
    ·refine Dj ?_; refine A4x ?_; refine E1 ?_; refine qI rfl rfl rfl J1 (fun hg34 => E2 ?_) (fun hg34 => ?_)
     ·refine A0s ?_; refine Hq ?_; refine qI rfl rfl rfl J1 (fun hg37 => E2 ?_) (fun hg37 => ?_)
      ·refine A4v ?_; refine A0r ?_; refine Hq ?_; refine qI rfl rfl rfl J1 (fun hg41 => E2 ?_) (fun hg41 => ?_)
       ·refine A4u ?_; refine A0r ?_; refine Hn ?_; exact hK _ ⟨rfl, rfl, rfl, (by (conv => lhs; whnf); rw [hca]; first | (simp_all [digit]; done) | (simp_all [digit]; omega) | (simp_all [digit]; rw [← decide_not]; congr 1; apply propext; omega)), trivial⟩
       ·refine Od ?_; refine A0t ?_; refine Hn ?_; exact hK _ ⟨rfl, rfl, rfl, (by (conv => lhs; whnf); rw [hca]; first | (simp_all [digit]; done) | (simp_all [digit]; omega) | (simp_all [digit]; rw [← decide_not]; congr 1; apply propext; omega)), trivial⟩
      ·refine Od ?_; refine A0t ?_; refine Hq ?_; refine Fg ?_; refine A0t ?_; refine Hn ?_; exact hK _ ⟨rfl, rfl, rfl, (by (conv => lhs; whnf); rw [hca]; first | (simp_all [digit]; done) | (simp_all [digit]; omega) | (simp_all [digit]; rw [← decide_not]; congr 1; apply propext; omega)), trivial⟩
     ·refine Fg ?_; refine Mz ?_; refine Fg ?_; refine Mz ?_; refine Od ?_; refine I6 ?_; exact hK _ ⟨rfl, rfl, rfl, (by (conv => lhs; whnf); rw [hca]; first | (simp_all [digit]; done) | (simp_all [digit]; omega) | (simp_all [digit]; rw [← decide_not]; congr 1; apply propext; omega)), trivial⟩
    ·refine A1 (fun h45 => ?_) (fun h45 => ?_)
     ·refine C9 ?_; refine Ao f_ rfl A7 () (by rw [A6e hlt (by simpa using h45)]) (fun w hs => hs.none)
     ·refine Hr ?_; have hb : Wa s i = true := by simpa using h45
      refine A2 (fun w hs => hs) (next0 (i + 1) _ ⟨hlt, fun j hj => (by rcases Nat.lt_succ_iff_lt_or_eq.mp hj with h | h; exact hok j h; subst h; exact hb)⟩ A3 Dk)
  ·have hge : i = s.size := by have := of_decide_eq_false h9; omega
   refine En ?_; refine Ef ?_; refine q0 rfl (C3d ?_); refine Ci ?_; refine Ao f_ rfl A7 () (by rw [A6f (by rw [← hge]; exact hok), empty_eq]; rfl) (fun w hs => hs.none)
theorem Hs (hF : B9i) (l : List Cl) (a : SH) (dims : Int) (h0 : 0 ≤ dims) (hl : Aq dims) : Spec prog 192 #[sl a l.length, iv dims] [CL l a] [] (fun _ : Unit => .bool (within l dims)) (fun _ => []) (fun _ => []) := by
 refine D8 ntmps192 fun B hB => ?_
 refine Oo ?_; refine A0u ?_; refine E1 ?_; refine qI rfl rfl rfl J1 (fun hg7 => E2 ?_) (fun hg7 => ?_)
 ·refine qT rfl rfl rfl (A0 call64 (hF l a) (fun x9 => ?_)); refine Hq ?_; refine qT rfl rfl rfl (C5h ?_); refine qT rfl rfl rfl (B6i ?_ (m := dims.toNat) (hy := congrArg (Value.int .u64) (B0y h0 hl))); refine A0s ?_; refine G6 ?_; refine Ao f_ rfl A7 () (by first | (simp_all [within]; done) | (simp_all [within]; intros; omega)) (fun w hs => hs.none)
 ·refine N0 ?_; refine Od ?_; refine G1 ?_; refine Ao f_ rfl A7 () (by first | (simp_all [within]; done) | (simp_all [within]; intros; omega)) (fun w hs => hs.none)
theorem A1s (t : T) (hf : N5 t = true ∨ A7q) (vr vk vs : SH) (vars dims : Int) (hd : 0 ≤ dims) (hl : Aq dims) : Spec prog 105 #[.agg (tc t vr vk vs).toArray, iv vars, iv dims] [RT t vr vk vs] [] (fun _ : Unit => .bool (Ii t vars dims)) (fun _ => []) (fun _ => []) := by
 refine D8 ntmps105 fun B hB => ?_
 refine go_open (fun hk hn hnm => ?_); refine B1 (ts := t.kids) (fun VR VK VS hl1 hA1 => ?_); refine E6 (bs := t.sys) (fun VF VK2 hl2 hA2 => ?_); refine B2 ?_; refine q0 rfl (Az fun b3 => ?_); refine Ff ?_; refine F9 ?_; refine By ([(1, iv vars), (2, iv dims), (3, pz b3), (47, .bool (Gr t))]) (fun hK => ?_) (fun base => ?_)
 ·refine Ca (pn := 1000000) (tn := false) (A := [0, 1, 3, 0, 8, 24, 63, 127, 255, 511, 1023, 2047, 4095, 8191, 16383, 32767, 65535, 131071, 262143, 524287, 1048575, 2097151, 4194303, 8388607, 16777215, 33554431, 67108863, 134217727, 268435455, 536870911, 1073741823, 2147483647, 4294967295, 8589934591, 17179869183, 34359738367, 68719476735, 137438953471, 274877906943]) (l := [0, 1, 3, 4, 5, 2, 6, 7, 8, 9, 10, 11, 12, 13, 14, 15, 16, 17, 18, 19, 20, 21, 22, 23, 24, 25, 26, 27, 28, 29, 30, 31, 32, 33, 34, 35, 36, 37, 38]) (fin := []) Tab.mixed ⟨_, func105⟩ (by rfl) ?_; refine Gd ?_; refine Gd ?_; refine n0 rfl (Ws ?_); refine n0 rfl (Bo call189 (B2l t.kind) (fun x11 => ?_)); refine n0 rfl (Wr ?_); refine F8 ?_; refine nI rfl rfl rfl J1 (fun hg16 => Og ?_) (fun hg16 => ?_)
  ·refine Mi ?_; refine nT rfl rfl rfl (Wr ?_); refine Tn ?_; refine nI rfl rfl rfl J1 (fun hg20 => Og ?_) (fun hg20 => ?_)
   ·refine Mi ?_; refine nT rfl rfl rfl (Wr ?_); refine A4t ?_; refine A0v ?_; refine F8 ?_; refine nI rfl rfl rfl J1 (fun hg26 => Og ?_) (fun hg26 => ?_)
    ·refine Mi ?_; refine nT rfl rfl rfl (Wr ?_); refine Tn ?_; refine nI rfl rfl rfl J1 (fun hg30 => Og ?_) (fun hg30 => ?_)
     ·refine Mi ?_; refine nT rfl rfl rfl (C2r ?_); refine A4t ?_; refine A0v ?_; refine F8 ?_; refine nI rfl rfl rfl J1 (fun hg36 => Og ?_) (fun hg36 => ?_)
      ·refine Mi ?_; refine nT rfl rfl rfl (Bo call190 (J9 t.kind) (fun x39 => ?_)); refine nT rfl rfl rfl (A8b ?_); refine Tn ?_; refine nI rfl rfl rfl J1 (fun hg41 => Og ?_) (fun hg41 => ?_)
       ·refine Mi ?_; refine nT rfl rfl rfl (Ws ?_); refine nT rfl rfl rfl (A8a ?_); refine A4t ?_; refine On ?_; exact hK _ ⟨rfl, rfl, rfl, (by (conv => lhs; whnf); first | (simp_all [Gr]; done) | (simp_all [Gr]; omega)), trivial⟩
       ·refine My ?_; refine A4s ?_; refine On ?_; exact hK _ ⟨rfl, rfl, rfl, (by (conv => lhs; whnf); first | (simp_all [Gr]; done) | (simp_all [Gr]; omega)), trivial⟩
      ·refine Kj ?_; refine Kj ?_; refine Mx ?_; refine Mx ?_; refine W4 ?_; refine Pw ?_; refine T7 ?_; exact hK _ ⟨rfl, rfl, rfl, (by (conv => lhs; whnf); first | (simp_all [Gr]; done) | (simp_all [Gr]; omega)), trivial⟩
     ·refine Kj ?_; refine A4s ?_; refine A0v ?_; refine F8 ?_; refine B0o ?_; refine Mi ?_; refine nT rfl rfl rfl (Bo call190 (J9 t.kind) (fun x39 => ?_)); refine nT rfl rfl rfl (A8b ?_); refine Tn ?_; refine nI rfl rfl rfl J1 (fun hg41 => Og ?_) (fun hg41 => ?_)
      ·refine Mi ?_; refine nT rfl rfl rfl (Ws ?_); refine nT rfl rfl rfl (A8a ?_); refine A4t ?_; refine On ?_; exact hK _ ⟨rfl, rfl, rfl, (by (conv => lhs; whnf); first | (simp_all [Gr]; done) | (simp_all [Gr]; omega)), trivial⟩
      ·refine My ?_; refine A4s ?_; refine On ?_; exact hK _ ⟨rfl, rfl, rfl, (by (conv => lhs; whnf); first | (simp_all [Gr]; done) | (simp_all [Gr]; omega)), trivial⟩
    ·refine My ?_; refine Mx ?_; refine B3u ?_; refine W4 ?_; refine Pw ?_; refine F8 ?_; refine Kj ?_; refine My ?_; refine Mx ?_; refine Mx ?_; refine W4 ?_; refine Pw ?_; refine T7 ?_; exact hK _ ⟨rfl, rfl, rfl, (by (conv => lhs; whnf); first | (simp_all [Gr]; done) | (simp_all [Gr]; omega)), trivial⟩
   ·refine Kj ?_; refine A4s ?_; refine A0v ?_; refine F8 ?_; refine B0o ?_; refine Mi ?_; refine nT rfl rfl rfl (Wr ?_); refine Tn ?_; refine nI rfl rfl rfl J1 (fun hg30 => Og ?_) (fun hg30 => ?_)
    ·refine Mi ?_; refine nT rfl rfl rfl (C2r ?_); refine A4t ?_; refine A0v ?_; refine F8 ?_; refine nI rfl rfl rfl J1 (fun hg36 => Og ?_) (fun hg36 => ?_)
     ·refine Mi ?_; refine nT rfl rfl rfl (Bo call190 (J9 t.kind) (fun x39 => ?_)); refine nT rfl rfl rfl (A8b ?_); refine Tn ?_; refine nI rfl rfl rfl J1 (fun hg41 => Og ?_) (fun hg41 => ?_)
      ·refine Mi ?_; refine nT rfl rfl rfl (Ws ?_); refine nT rfl rfl rfl (A8a ?_); refine A4t ?_; refine On ?_; exact hK _ ⟨rfl, rfl, rfl, (by (conv => lhs; whnf); first | (simp_all [Gr]; done) | (simp_all [Gr]; omega)), trivial⟩
      ·refine My ?_; refine A4s ?_; refine On ?_; exact hK _ ⟨rfl, rfl, rfl, (by (conv => lhs; whnf); first | (simp_all [Gr]; done) | (simp_all [Gr]; omega)), trivial⟩
     ·refine Kj ?_; refine Kj ?_; refine Mx ?_; refine Mx ?_; refine W4 ?_; refine Pw ?_; refine T7 ?_; exact hK _ ⟨rfl, rfl, rfl, (by (conv => lhs; whnf); first | (simp_all [Gr]; done) | (simp_all [Gr]; omega)), trivial⟩
    ·refine Kj ?_; refine A4s ?_; refine A0v ?_; refine F8 ?_; refine B0o ?_; refine Mi ?_; refine nT rfl rfl rfl (Bo call190 (J9 t.kind) (fun x39 => ?_)); refine nT rfl rfl rfl (A8b ?_); refine Tn ?_; refine nI rfl rfl rfl J1 (fun hg41 => Og ?_) (fun hg41 => ?_)
     ·refine Mi ?_; refine nT rfl rfl rfl (Ws ?_); refine nT rfl rfl rfl (A8a ?_); refine A4t ?_; refine On ?_; exact hK _ ⟨rfl, rfl, rfl, (by (conv => lhs; whnf); first | (simp_all [Gr]; done) | (simp_all [Gr]; omega)), trivial⟩
     ·refine My ?_; refine A4s ?_; refine On ?_; exact hK _ ⟨rfl, rfl, rfl, (by (conv => lhs; whnf); first | (simp_all [Gr]; done) | (simp_all [Gr]; omega)), trivial⟩
  ·refine My ?_; refine Mx ?_; refine B3u ?_; refine W4 ?_; refine Pw ?_; refine F8 ?_; refine Kj ?_; refine Kj ?_; refine Mx ?_; refine B3u ?_; refine W4 ?_; refine Pw ?_; refine F8 ?_; refine Kj ?_; refine My ?_; refine Mx ?_; refine Mx ?_; refine W4 ?_; refine Pw ?_; refine T7 ?_; exact hK _ ⟨rfl, rfl, rfl, (by (conv => lhs; whnf); first | (simp_all [Gr]; done) | (simp_all [Gr]; omega)), trivial⟩
 ·refine A1 (fun h47 => ?_) (fun h47 => ?_)
  ·refine C9 ?_; refine Ao f_ rfl A7 () (by simp [Ii, h47]) (fun w hs => hs.none)
  ·refine K4 ?_; refine K3 ?_; refine Jj ?_; refine W0 ?_; refine Ez ?_; refine A1 (fun h50 => ?_) (fun h50 => ?_)
   ·refine F9 ?_; refine By ([(6, .bool (decide ((t.r.length : Int) = 0) && decide (0 ≤ t.n) && (decide (vars < 0) || decide (t.n < vars))))]) (fun hK => ?_) (fun base => ?_)
    ·refine Ha ?_; refine H6 ?_; refine A0x ?_; refine E1 ?_; refine qI rfl rfl rfl J1 (fun hg56 => Jb ?_) (fun hg56 => ?_)
     ·refine Hp ?_; refine qT rfl rfl rfl (Xk ?_); refine Ou ?_; refine qI rfl rfl rfl J1 (fun hg61 => E2 ?_) (fun hg61 => ?_)
      ·refine A4v ?_; refine Hq ?_; refine qI rfl rfl rfl J1 (fun hg64 => Jb ?_) (fun hg64 => ?_)
       ·refine Hp ?_; refine Hq ?_; refine A4v ?_; refine A0r ?_; refine G1 ?_; exact hK _ ⟨(by (conv => lhs; whnf); first | (simp_all [Bool.and_assoc]; done) | (simp_all [Bool.and_assoc]; omega)), trivial⟩
       ·refine Ma ?_; refine A0t ?_; refine G1 ?_; exact hK _ ⟨(by (conv => lhs; whnf); first | (simp_all [Bool.and_assoc]; done) | (simp_all [Bool.and_assoc]; omega)), trivial⟩
      ·refine Fg ?_; refine Mz ?_; refine Mz ?_; refine Od ?_; refine G6 ?_; exact hK _ ⟨(by (conv => lhs; whnf); first | (simp_all [Bool.and_assoc]; done) | (simp_all [Bool.and_assoc]; omega)), trivial⟩
     ·refine Fg ?_; refine I7 ?_; refine Ma ?_; refine Mz ?_; refine Mz ?_; refine Od ?_; refine G6 ?_; exact hK _ ⟨(by (conv => lhs; whnf); first | (simp_all [Bool.and_assoc]; done) | (simp_all [Bool.and_assoc]; omega)), trivial⟩
    ·refine Ao f_ rfl A7 () (by simp_all [Ii, Bool.and_assoc]) (fun w hs => hs.none)
   ·refine Ez ?_; refine A1 (fun h71 => ?_) (fun h71 => ?_)
    ·refine F9 ?_; refine By ([(6, .bool (decide ((t.r.length : Int) = 0) && Kc t.name))]) (fun hK => ?_) (fun base => ?_)
     ·refine Ha ?_; refine H6 ?_; refine A0x ?_; refine E1 ?_; refine qI rfl rfl rfl J1 (fun hg77 => Jb ?_) (fun hg77 => ?_)
      ·refine Hp ?_; refine qT rfl rfl rfl (A0 call191 (B2a t.name hnm) (fun x80 => ?_)); refine G1 ?_; exact hK _ ⟨(by (conv => lhs; whnf); first | (simp_all [Bool.and_assoc]; done) | (simp_all [Bool.and_assoc]; omega)), trivial⟩
      ·refine Fg ?_; refine G6 ?_; exact hK _ ⟨(by (conv => lhs; whnf); first | (simp_all [Bool.and_assoc]; done) | (simp_all [Bool.and_assoc]; omega)), trivial⟩
     ·refine Ao f_ rfl A7 () (by simp_all [Ii, Bool.and_assoc]) (fun w hs => hs.none)
    ·refine F9 ?_; refine Ez ?_; refine A1 (fun h82 => ?_) (fun h82 => ?_)
     ·refine B0l ?_; refine F9 ?_; refine By ([(6, .bool (Ab t.r && within t.r dims))]) (fun hK => ?_) (fun base => ?_)
      ·refine Ha ?_; refine q0 rfl (A0 call63 ((Gm hf (by simp_all)).1 t.r vr) (fun x88 => ?_)); refine E1 ?_; refine qI rfl rfl rfl J1 (fun hg89 => Jb ?_) (fun hg89 => ?_)
       ·refine Hp ?_; refine Hq ?_; refine qT rfl rfl rfl (A0 call192 (Hs (Gm hf (by simp_all)).2.2 t.r vr dims hd hl) (fun x93 => ?_)); refine G1 ?_; exact hK _ ⟨(by (conv => lhs; whnf); first | (simp_all [Bool.and_assoc]; done) | (simp_all [Bool.and_assoc]; omega)), trivial⟩
       ·refine Ma ?_; refine G6 ?_; exact hK _ ⟨(by (conv => lhs; whnf); first | (simp_all [Bool.and_assoc]; done) | (simp_all [Bool.and_assoc]; omega)), trivial⟩
      ·refine Ao f_ rfl A7 () (by simp_all [Ii, Bool.and_assoc]) (fun w hs => hs.none)
     ·refine Ez ?_; refine A1 (fun h82 => ?_) (fun h82 => ?_)
      ·refine B0l ?_; refine F9 ?_; refine By ([(6, .bool (Ab t.r && within t.r dims))]) (fun hK => ?_) (fun base => ?_)
       ·refine Ha ?_; refine q0 rfl (A0 call63 ((Gm hf (by simp_all)).1 t.r vr) (fun x88 => ?_)); refine E1 ?_; refine qI rfl rfl rfl J1 (fun hg89 => Jb ?_) (fun hg89 => ?_)
        ·refine Hp ?_; refine Hq ?_; refine qT rfl rfl rfl (A0 call192 (Hs (Gm hf (by simp_all)).2.2 t.r vr dims hd hl) (fun x93 => ?_)); refine G1 ?_; exact hK _ ⟨(by (conv => lhs; whnf); first | (simp_all [Bool.and_assoc]; done) | (simp_all [Bool.and_assoc]; omega)), trivial⟩
        ·refine Ma ?_; refine G6 ?_; exact hK _ ⟨(by (conv => lhs; whnf); first | (simp_all [Bool.and_assoc]; done) | (simp_all [Bool.and_assoc]; omega)), trivial⟩
       ·refine Ao f_ rfl A7 () (by simp_all [Ii, Bool.and_assoc]) (fun w hs => hs.none)
      ·refine Iy ?_; refine T8 ?_; refine A1 (fun h82 => ?_) (fun h82 => ?_)
       ·refine F9 ?_; refine By ([(6, .bool (Ab t.r && within t.r dims))]) (fun hK => ?_) (fun base => ?_)
        ·refine Ha ?_; refine q0 rfl (A0 call63 ((Gm hf (by simp_all)).1 t.r vr) (fun x88 => ?_)); refine E1 ?_; refine qI rfl rfl rfl J1 (fun hg89 => Jb ?_) (fun hg89 => ?_)
         ·refine Hp ?_; refine Hq ?_; refine qT rfl rfl rfl (A0 call192 (Hs (Gm hf (by simp_all)).2.2 t.r vr dims hd hl) (fun x93 => ?_)); refine G1 ?_; exact hK _ ⟨(by (conv => lhs; whnf); first | (simp_all [Bool.and_assoc]; done) | (simp_all [Bool.and_assoc]; omega)), trivial⟩
         ·refine Ma ?_; refine G6 ?_; exact hK _ ⟨(by (conv => lhs; whnf); first | (simp_all [Bool.and_assoc]; done) | (simp_all [Bool.and_assoc]; omega)), trivial⟩
        ·refine Ao f_ rfl A7 () (by simp_all [Ii, Bool.and_assoc]) (fun w hs => hs.none)
       ·refine Ez ?_; refine A1 (fun h95 => ?_) (fun h95 => ?_)
        ·refine F9 ?_; refine By ([(6, .bool (A4 t.r && within t.r dims))]) (fun hK => ?_) (fun base => ?_)
         ·refine Ha ?_; refine q0 rfl (A0 call193 ((Gm hf (by simp_all)).2.1 t.r vr) (fun x99 => ?_)); refine E1 ?_; refine qI rfl rfl rfl J1 (fun hg100 => Jb ?_) (fun hg100 => ?_)
          ·refine Hp ?_; refine Hq ?_; refine qT rfl rfl rfl (A0 call192 (Hs (Gm hf (by simp_all)).2.2 t.r vr dims hd hl) (fun x104 => ?_)); refine G1 ?_; exact hK _ ⟨(by (conv => lhs; whnf); first | (simp_all [Bool.and_assoc]; done) | (simp_all [Bool.and_assoc]; omega)), trivial⟩
          ·refine Ma ?_; refine G6 ?_; exact hK _ ⟨(by (conv => lhs; whnf); first | (simp_all [Bool.and_assoc]; done) | (simp_all [Bool.and_assoc]; omega)), trivial⟩
         ·refine Ao f_ rfl A7 () (by simp_all [Ii, Bool.and_assoc]) (fun w hs => hs.none)
        ·refine Gu ?_; refine P8 ?_; refine F9 ?_; refine Mc ?_; refine Dm (X := Nat) (fun i => i ≤ t.sys.length ∧ ∀ j, j < i → Mj t dims (t.sys.getD j Bi) = true) (fun i => [(2, iv dims), (3, pz b3), (107, sl vs t.sys.length), (108, iv (t.sys.length : Int)), (109, iv (i : Int))]) (fun i => BLx t.sys vs VF VK2 :: RT t vr vk vs :: []) (fun i => [Ac b3 (tc t vr vk vs) 26]) (fun i => t.sys.length - i) (0) (⟨Nat.zero_le _, fun j hj => by omega⟩) (by exact Dk) ?_ ?_
         ·exact fun w hs => hs.l9
         ·intro i base0 ⟨hi, hok⟩ next0; refine E0 ?_; refine A1 (fun h110 => ?_) (fun h110 => ?_)
          ·have hlt : i < t.sys.length := by have := of_decide_eq_true h110; omega
           obtain ⟨bk, o, hav⟩ := hA2 A3; refine Ic ?_; refine Oe ?_; refine B0q ?_; refine q0 rfl (B5 fun b8 => ?_); refine Jq ?_; refine Fx i hlt ?_; refine By ([(2, iv dims), (3, pz b3), (107, sl vs t.sys.length), (108, iv (t.sys.length : Int)), (109, iv (i : Int)), (132, .bool (!(Mj t dims (t.sys.getD i Bi))))]) (fun hK => ?_) (fun base => ?_)
           ·refine Ca (pn := 1000000) (tn := false) (A := [0, 1, 3, 0, 8, 24, 63, 127, 255, 511, 1023, 2047, 4095, 8191, 16383, 32767, 16383, 131071, 262143, 524287]) (l := [0, 1, 2, 3, 4, 5, 6, 7, 8, 9, 10, 11, 12, 13, 14, 15, 16, 17, 18, 19]) (fin := []) Tab.mixed ⟨_, func105⟩ (by rfl) ?_; refine Gd ?_; refine n0 rfl (Ws ?_); refine Gd ?_; refine n0 rfl (Bo call190 (J9 t.kind) (fun x118 => ?_)); refine n0 rfl (Wr ?_); refine F8 ?_; refine nI rfl rfl rfl J1 (fun hg120 => Og ?_) (fun hg120 => ?_)
            ·refine Mi ?_; refine nT rfl rfl rfl (Bo call193 ((A3p hf hlt).2.1 _ (VF i)) (fun x123 => ?_)); refine nT rfl rfl rfl (Wq ?_); refine A0v ?_; refine F8 ?_; refine nI rfl rfl rfl J1 (fun hg126 => Og ?_) (fun hg126 => ?_)
             ·refine Mi ?_; refine Tn ?_; refine nT rfl rfl rfl (Bo call192 (Hs (A3p hf hlt).2.2 _ (VF i) dims hd hl) (fun x130 => ?_)); refine nT rfl rfl rfl (Wq ?_); refine On ?_; exact hK _ ⟨rfl, rfl, rfl, rfl, rfl, (by (conv => lhs; whnf); first | (simp_all [Mj]; done) | (simp_all [Mj]; omega)), trivial⟩
             ·refine Kj ?_; refine Kj ?_; refine Pw ?_; refine T7 ?_; exact hK _ ⟨rfl, rfl, rfl, rfl, rfl, (by (conv => lhs; whnf); first | (simp_all [Mj]; done) | (simp_all [Mj]; omega)), trivial⟩
            ·refine My ?_; refine Pw ?_; refine F8 ?_; refine Kj ?_; refine My ?_; refine Pw ?_; refine T7 ?_; exact hK _ ⟨rfl, rfl, rfl, rfl, rfl, (by (conv => lhs; whnf); first | (simp_all [Mj]; done) | (simp_all [Mj]; omega)), trivial⟩
           ·refine A1 (fun h132 => ?_) (fun h132 => ?_)
            ·refine C9 ?_; have ha := A0j hlt (by simpa using h132); refine Ao f_ rfl A7 () (by rw [Ii, ha]; clear hok ha h132; simp_all [Bool.and_assoc]) (fun w hs => hs.none)
            ·refine Hr ?_; have hb : Mj t dims (t.sys.getD i Bi) = true := by simpa using h132
             refine A2 (fun w hs => ?_) (next0 (i + 1) _ ⟨hlt, fun j hj => (by rcases Nat.lt_succ_iff_lt_or_eq.mp hj with h | h; exact hok j h; subst h; exact hb)⟩ A3 Dk); exact (hs.l9).drop
          ·have hge : i = t.sys.length := by have := of_decide_eq_false h110; omega
           refine En ?_; refine K3 ?_; refine H6 ?_; refine T8 ?_; have ha := B9c (t := t) (g := Mj t dims) (by rw [← hge]; exact hok); refine Ao f_ rfl A7 () (by rw [Ii, ha]; clear hok ha; simp_all [Bool.and_assoc]) (fun w hs => hs.none)
abbrev B9m (t : T) : Prop := (J7 t = true ∨ A7q) → ∀ (vars dims : Int) (bound : Bool) vr vk vs, Aq vars → 0 ≤ dims → dims + depth t ≤ 1152921504606846976 → Spec prog 60 #[.agg (tc t vr vk vs).toArray, iv vars, iv dims, .bool bound] [RT t vr vk vs] [] (fun _ : Unit => .bool (Ol t vars dims bound)) (fun _ => []) (fun _ => [])
abbrev C8s (b1 b2 b3 : Nat) : List Value := [pz b1, pz b2, pz b3]
abbrev C8r (b1 b2 b3 : Nat) (vars dims : Int) (bound : Bool) : List Aw := [Ac b1 [iv vars] 3, Ac b2 [iv dims] 3, Ac b3 [.bool bound] 4]
def M4 (v d : Int) : Prop := 0 ≤ v ∧ v ≤ 1 ∧ 0 ≤ d ∧ d ≤ 1
theorem B8y (k i : Int) : M4 (binds k i).1 (binds k i).2 := by
 unfold binds M4; repeat (split; (simp))
 simp
theorem B5x {t : T} {k : T} {v d : Int} (h : (k, v, d) ∈ parts t) : M4 v d := by
 have hk : ∀ (kind : Int) (i : Nat) (ks : List T), (k, v, d) ∈ Cv kind i ks → M4 v d := by
  intro kind i ks
  induction ks generalizing i with
  | nil => intro h; simp [Cv] at h
  | cons a ks ih =>
   intro h; simp only [Cv, List.mem_cons] at h; rcases h with h | h
   ·have e : (v, d) = binds kind i := (Prod.mk.inj h).2; have := B8y kind i; rw [← e] at this; exact this
   ·exact ih _ h
 have hs : ∀ (kind : Int) (bs : List Br), (k, v, d) ∈ Cq kind bs → M4 v d := by
  intro kind bs
  induction bs with
  | nil => intro h; simp [Cq] at h
  | cons b bs ih =>
   intro h; simp only [Cq, List.mem_append, List.mem_map] at h; rcases h with ⟨a, ha, e⟩ | h
   ·have e2 := (Prod.mk.inj e).2; have e3 := (Prod.mk.inj e2); rw [← e3.1, ← e3.2]; unfold M4 more; split <;> simp
   ·exact ih h
 unfold parts at h; rcases List.mem_append.mp h with h | h
 ·exact hk _ _ _ h
 ·exact hs _ _ h
theorem B3h {t : T} {p : Part} (h : p ∈ parts t) : depth p.1 < depth t := by
 obtain ⟨m, hm⟩ := List.mem_iff_getElem?.mp h; exact A6z hm
theorem B3r (k : T) (vr vk vs : SH) (b1 b2 b3 : Nat) (vars dims v d : Int) (bound : Bool) (hv : Aq vars) (h0 : 0 ≤ dims) (hvd : M4 v d) (hl : dims + 1 + depth k ≤ 1152921504606846976) (hp : J7 k = true ∨ A7q) (ih : B9m k) : Spec prog 107 #[.agg (tc k vr vk vs).toArray, iv v, iv d, pz b1, pz b2, pz b3] [RT k vr vk vs] (C8r b1 b2 b3 vars dims bound) (fun _ : Unit => .bool (Ol k (IntKind.i64.wrap (vars + if vars < 0 then 0 else v)) (dims + d) bound)) (fun _ => []) (fun _ => C8r b1 b2 b3 vars dims bound) := by
 refine D8 ntmps107 fun B hB => ?_
 obtain ⟨hv0, hv1, hd0, hd1⟩ := hvd; refine B2 ?_; refine q0 rfl (Az fun b6 => ?_); refine Ff ?_; refine B2 ?_; refine P9 ?_; refine Ta ?_; refine Jj ?_; refine By ([(1, iv (if vars < 0 then 0 else v)), (2, iv d), (3, pz b1), (4, pz b2), (5, pz b3), (6, pz b6)]) (fun hK => ?_) (fun base => ?_)
 ·refine A1 (fun h11 => ?_) (fun h11 => ?_)
  ·refine Iy ?_; refine Ci ?_; exact hK _ ⟨(by first | (rw [if_pos (of_decide_eq_true h11)]; rfl) | (rw [if_neg (of_decide_eq_false h11)]; rfl)), rfl, rfl, rfl, rfl, rfl, trivial⟩
  ·refine Gu ?_; exact hK _ ⟨(by first | (rw [if_pos (of_decide_eq_true h11)]; rfl) | (rw [if_neg (of_decide_eq_false h11)]; rfl)), rfl, rfl, rfl, rfl, rfl, trivial⟩
 ·refine F7 ?_; refine P9 ?_; refine E1 ?_; refine q0 rfl (C5i ?_); refine P9 ?_; refine E1 ?_; refine A4y ?_; refine P9 ?_; refine q0 rfl (A0 call60 (ih hp (IntKind.i64.wrap (vars + if vars < 0 then 0 else v)) (dims + d) bound vr vk vs (B9s _) A3 A3) (fun x20 => ?_)); refine Ci ?_; refine Ao f_ rfl A7 () rfl (fun w hs => (hs.l8).drop)
theorem B9b (t : T) (hp : J7 t = true ∨ A7q) (ih : ∀ p, p ∈ parts t → B9m p.1) (vars dims : Int) (bound : Bool) (vr vk vs : SH) (hv : Aq vars) (h0 : 0 ≤ dims) (hl : dims + depth t ≤ 1152921504606846976) : Spec prog 60 #[.agg (tc t vr vk vs).toArray, iv vars, iv dims, .bool bound] [RT t vr vk vs] [] (fun _ : Unit => .bool (Ol t vars dims bound)) (fun _ => []) (fun _ => []) := by
 refine D8 ntmps60 fun B hB => ?_
 refine B2 ?_; refine q0 rfl (Az fun b4 => ?_); refine q0 rfl (Az fun b5 => ?_); refine q0 rfl (Az fun b6 => ?_); refine q0 rfl (Az fun b7 => ?_); refine Ff ?_; refine F9 ?_; refine By ([(4, pz b4), (5, pz b5), (6, pz b6), (7, pz b7), (20, .bool ((bound && decide (24 < dims)) || !(Ii t vars dims)))]) (fun hK => ?_) (fun base => ?_)
 ·refine Iy ?_; refine P9 ?_; refine E1 ?_; refine qI rfl rfl rfl J1 (fun hg10 => C5g ?_) (fun hg10 => ?_)
  ·refine A4u ?_; refine Ou ?_; refine qI rfl rfl rfl J1 (fun hg14 => Na ?_) (fun hg14 => ?_)
   ·refine Hp ?_; refine Hp ?_; refine qT rfl rfl rfl (A0 call105 (A1s t (Ua hp) vr vk vs vars dims h0 (by unfold Aq; omega)) (fun x18 => ?_)); refine qT rfl rfl rfl (Xj ?_); refine I6 ?_; exact hK _ ⟨rfl, rfl, rfl, rfl, (by (conv => lhs; whnf); first | (simp_all [Bool.and_assoc]; done) | (simp_all [Bool.and_assoc]; omega)), trivial⟩
   ·refine N0 ?_; refine Hn ?_; exact hK _ ⟨rfl, rfl, rfl, rfl, (by (conv => lhs; whnf); first | (simp_all [Bool.and_assoc]; done) | (simp_all [Bool.and_assoc]; omega)), trivial⟩
  ·refine Od ?_; refine I7 ?_; refine qT rfl rfl rfl (Na ?_); refine Hp ?_; refine Hp ?_; refine qT rfl rfl rfl (A0 call105 (A1s t (Ua hp) vr vk vs vars dims h0 (by unfold Aq; omega)) (fun x18 => ?_)); refine qT rfl rfl rfl (Xj ?_); refine I6 ?_; exact hK _ ⟨rfl, rfl, rfl, rfl, (by (conv => lhs; whnf); first | (simp_all [Bool.and_assoc]; done) | (simp_all [Bool.and_assoc]; omega)), trivial⟩
 ·refine A1 (fun h20 => ?_) (fun h20 => ?_)
  ·refine C9 ?_; refine Ao f_ rfl A7 () (by rw [A0k, h20]; rfl) (fun w hs => hs.none)
  ·refine Gu ?_; refine F7 ?_; refine Mo ?_; have hE := Y7 t vr vk vs 107 (C8s b5 b6 b7) [] (C8r b5 b6 b7 vars dims bound) (fun p => Ol p.1 (IntKind.i64.wrap (vars + if vars < 0 then 0 else p.2.1)) (dims + p.2.2) bound) call107 (fun k v d hm vr vk vs => B3r k vr vk vs b5 b6 b7 vars dims v d bound hv h0 (B5x hm) (by have := B3h hm; simp only at this; omega) (A5q hp hm) (ih _ hm)); refine q0 rfl (A0 call106 (hE) (fun x23 => ?_)); refine Ci ?_; refine Ao f_ rfl A7 () (by rw [A0k, h20]; rfl) (fun w hs => hs.none)
theorem A4k : ∀ t : T, B9m t := T.ind fun t ih hp vars dims bound vr vk vs hv h0 hl => B9b t hp ih vars dims bound vr vk vs hv h0 hl
theorem U7 (t : T) (hp : J7 t = true ∨ A7q) (vr vk vs : SH) (vars dims : Int) (hv : Aq vars) (hsz : size t ≤ 1152921504606846) : Spec prog 22 #[.agg (tc t vr vk vs).toArray, iv vars, iv dims] [RT t vr vk vs] [] (fun _ : Unit => iv (Cg t vars dims)) (fun _ => []) (fun _ => []) := by
 refine D8 ntmps22 fun B hB => ?_
 have hds := P1 t; refine B2 ?_; refine q0 rfl (Az fun b3 => ?_); refine Ff ?_; refine F9 ?_; refine By ([(1, iv vars), (2, iv dims), (3, pz b3), (17, .bool (decide (vars < 0) || decide (dims < 0) || decide (24 < dims)))]) (fun hK => ?_) (fun base => ?_)
 ·refine Dj ?_; refine Ta ?_; refine E1 ?_; refine qI rfl rfl rfl J1 (fun hg10 => E2 ?_) (fun hg10 => ?_)
  ·refine A4v ?_; refine I7 ?_; refine qI rfl rfl rfl J1 (fun hg14 => E2 ?_) (fun hg14 => ?_)
   ·refine A4u ?_; refine I6 ?_; exact hK _ ⟨rfl, rfl, rfl, (by (conv => lhs; whnf); first | (simp_all [Bool.and_assoc]; done) | (simp_all [Bool.and_assoc]; omega)), trivial⟩
   ·refine Od ?_; refine Hn ?_; exact hK _ ⟨rfl, rfl, rfl, (by (conv => lhs; whnf); first | (simp_all [Bool.and_assoc]; done) | (simp_all [Bool.and_assoc]; omega)), trivial⟩
  ·refine Od ?_; refine Ou ?_; refine Fg ?_; refine Hn ?_; exact hK _ ⟨rfl, rfl, rfl, (by (conv => lhs; whnf); first | (simp_all [Bool.and_assoc]; done) | (simp_all [Bool.and_assoc]; omega)), trivial⟩
 ·refine A1 (fun h17 => ?_) (fun h17 => ?_)
  ·refine C9 ?_; refine Ao f_ rfl A7 () (by rw [Cg, if_pos h17]) (fun w hs => hs.none)
  ·have hb : 0 ≤ vars ∧ 0 ≤ dims ∧ dims ≤ 24 := by simp at h17; omega
   refine K4 ?_; refine F7 ?_; refine q0 rfl (A0 call59 (U1 t vr vk vs) (fun x19 => ?_)); refine Mw ?_; refine A1 (fun h21 => ?_) (fun h21 => ?_)
   ·have hs := of_decide_eq_true h21; refine I8 ?_; refine Ao f_ rfl A7 () (by rw [Cg, if_neg (by rw [h17]; simp), if_pos hs]) (fun w hs => hs.none)
   ·have hs := of_decide_eq_false h21; refine K4 ?_; refine F7 ?_; refine Gf ?_; refine q0 rfl (A0 call60 (A4k t hp vars dims true vr vk vs hv A3 A3) (fun x26 => ?_)); refine Iz ?_; refine A1 (fun h27 => ?_) (fun h27 => ?_)
    ·refine C9 ?_; refine Ao f_ rfl A7 () (by rw [Cg, if_neg (by rw [h17]; simp), if_neg hs]; simp_all) (fun w hs => hs.none)
    ·refine Gu ?_; refine C9 ?_; refine Ao f_ rfl A7 () (by rw [Cg, if_neg (by rw [h17]; simp), if_neg hs]; simp_all) (fun w hs => hs.none)
theorem Nj (t : T) (hp : J7 t = true ∨ A7q) (vr vk vs : SH) (hsz : size t ≤ 1152921504606846) : Spec prog 39 #[.agg (tc t vr vk vs).toArray] [RT t vr vk vs] [] (fun _ : Unit => iv (As t)) (fun _ => []) (fun _ => []) := by
 refine D8 ntmps39 fun B hB => ?_
 have hds := P1 t; refine B2 ?_; refine q0 rfl (Az fun b1 => ?_); refine Ff ?_; refine F7 ?_; refine q0 rfl (A0 call59 (U1 t vr vk vs) (fun x5 => ?_)); refine Mw ?_; refine A1 (fun h7 => ?_) (fun h7 => ?_)
 ·have hs := of_decide_eq_true h7; refine I8 ?_; refine Ao f_ rfl A7 () (by rw [As, if_pos hs]) (fun w hs => hs.none)
 ·have hs := of_decide_eq_false h7; refine K4 ?_; refine F7 ?_; refine q0 rfl (A0 call60 (A4k t hp (-1) 24 false vr vk vs (by unfold Aq; omega) A3 A3) (fun x10 => ?_)); refine Iz ?_; refine A1 (fun h11 => ?_) (fun h11 => ?_)
  ·refine C9 ?_; refine Ao f_ rfl A7 () (by rw [As, if_neg hs]; simp_all) (fun w hs => hs.none)
  ·refine Gu ?_; refine C9 ?_; refine Ao f_ rfl A7 () (by rw [As, if_neg hs]; simp_all) (fun w hs => hs.none)
theorem A6q (l : List Part) (a : Nat) : l.foldl (fun a p => a + size p.1) a = a + (l.map fun p => size p.1).sum := by
 induction l generalizing a with
 | nil => simp
 | cons b l ih => rw [List.foldl_cons, ih]; simp; omega
theorem B4s (t : T) : size t = 1 + ((parts t).map fun p => size p.1).sum := by rw [size_eq, A6q]
theorem Ow (t : T) : size t = 1 + (t.kids.map size).sum + ((t.sys.map fun b => b.kids.map size).flatten).sum := by
 rw [B4s, Is, List.sum_append]; omega
theorem B9t {n : Int} (h : Aq n) : IntKind.i64.wrap n = n := by rw [IntKind.wrap_i64]; unfold Aq at h; omega
theorem Li {t : T} : sized t = 0 ↔ depth t ≤ 200 ∧ size t ≤ 20000 := by
 unfold sized
 split
 ·simp; omega
 ·split
  ·simp; omega
  ·simp; omega
theorem A5j {t : T} {v d : Int} : Cg t v d = 0 ↔ 0 ≤ v ∧ 0 ≤ d ∧ d ≤ 24 ∧ sized t = 0 ∧ Ol t v d true = true := by
 unfold Cg
 split
 ·rename_i h
  simp only [Bool.or_eq_true, decide_eq_true_eq] at h
  constructor
  ·intro h2; cases h2
  ·intro h2; omega
 ·rename_i h
  simp only [Bool.or_eq_true, decide_eq_true_eq] at h
  split
  ·rename_i h2; constructor
   ·intro h3; exact absurd h3 h2
   ·intro h3; exact absurd h3.2.2.2.1 h2
  ·rename_i h2
   have h2 : sized t = 0 := by simpa using h2
   split
   ·rename_i h3; simp only [h2, h3, and_self, and_true, true_iff]; omega
   ·rename_i h3; simp only [h3]; constructor
    ·intro h4; cases h4
    ·intro h4; exact absurd h4.2.2.2.2 I4
theorem A3o {t : T} : As t = 0 ↔ sized t = 0 ∧ Ol t (-1) 24 false = true := by
 unfold As
 split
 ·rename_i h; constructor
  ·intro h2; exact absurd h2 h
  ·intro h2; exact absurd h2.1 h
 ·rename_i h
  have h : sized t = 0 := by simpa using h
  split
  ·rename_i h3; simp [h, h3]
  ·rename_i h3; simp [h3]
theorem Jh (s : Nat) : s &&& 16777215 < 16777216 := by rw [Vs]; exact Nat.mod_lt _ I4
theorem B8n (l : List Cl) : L7 l < 16777216 := by rw [A3v]; exact Jh _
def Ah (s : Nat) (f b : Int) : Int × Nat :=
 if f < 0 ∨ b < 0 then (2, 0) else
 if Ax (s &&& 16777215) (2 ^ (min f.toNat 24) - 1) = 0 then (0, (s &&& 16777215) &&& (2 ^ (min f.toNat 24) - 1)) else
 if 24 ≤ b ∨ 16777215 < Ax (s &&& 16777215) (2 ^ (min f.toNat 24) - 1) * 2 ^ b.toNat then (10, 0) else
 (0, ((s &&& 16777215) &&& (2 ^ (min f.toNat 24) - 1)) ||| (Ax (s &&& 16777215) (2 ^ (min f.toNat 24) - 1) * 2 ^ b.toNat))
theorem G0 (a b i : Nat) : (Ax a b).testBit i = (decide (i < 32) && a.testBit i && !b.testBit i) := by
 unfold Ax
 rw [BitVec.testBit_toNat]
 by_cases h : i < 32
 ·rw [BitVec.getLsbD_and, BitVec.getLsbD_not, BitVec.getLsbD_ofNat, BitVec.getLsbD_ofNat]
  simp [h]
 ·have : (BitVec.ofNat 32 a &&& ~~~BitVec.ofNat 32 b).getLsbD i = false := BitVec.getLsbD_of_ge _ _ A3
  rw [this]; simp [h]
theorem F6 (s i : Nat) : (s &&& 16777215).testBit i = (decide (i < 24) && s.testBit i) := by
 rw [Vs, Nat.testBit_mod_two_pow]
theorem Jd (m i : Nat) : (2 ^ m - 1).testBit i = decide (i < m) := Nat.testBit_two_pow_sub_one m i
theorem Yd {q m : Nat} (h : q < 16777216) : Ax q m < 16777216 := by
 refine Nat.lt_pow_two_of_testBit (n := 24) _ (fun i hi => ?_)
 rw [G0, Nat.testBit_lt_two_pow (x := q) (Nat.lt_of_lt_of_le h (Nat.pow_le_pow_right (n := 2) I4 hi))]
 simp
theorem Hw (s : Nat) (f b : Int) : (Ah s f b).2 < 16777216 := by
 unfold Ah
 split
 ·decide
 ·split
  ·exact Nat.lt_of_le_of_lt Nat.and_le_left (Jh s)
  ·split
   ·decide
   ·refine Nat.or_lt_two_pow (n := 24) ?_ ?_
    ·exact Nat.lt_of_le_of_lt Nat.and_le_left (Jh s)
    ·rename_i h; simp only [not_or] at h; have := h.2; omega
def B6 (c : Cl) (f b : Int) : Int × Cl :=
 if Ap c = false then (2, Bm) else
 if (Ah c.pos f b).1 ≠ 0 then ((Ah c.pos f b).1, Bm) else
 if (Ah c.neg f b).1 ≠ 0 then ((Ah c.neg f b).1, Bm) else
 (0, ⟨(Ah c.pos f b).2, (Ah c.neg f b).2⟩)
theorem Pp (c : Cl) (f b : Int) : u32 (B6 c f b).2 := by
 have h1 := Hw c.pos f b
 have h2 := Hw c.neg f b
 unfold B6
 split
 ·exact ⟨(by decide : (0 : Nat) < 4294967296), (by decide : (0 : Nat) < 4294967296)⟩
 ·split
  ·exact ⟨(by decide : (0 : Nat) < 4294967296), (by decide : (0 : Nat) < 4294967296)⟩
  ·split
   ·exact ⟨(by decide : (0 : Nat) < 4294967296), (by decide : (0 : Nat) < 4294967296)⟩
   ·exact ⟨by show (Ah c.pos f b).2 < _; omega, by show (Ah c.neg f b).2 < _; omega⟩
def Dy (g : Cl → Int × Cl) (l : List Cl) : Int × List Cl := match l.find? (fun c => (g c).1 ≠ 0) with
 | some c => ((g c).1, [])
 | none => (0, l.map fun c => (g c).2)
theorem B2w {g : Cl → Int × Cl} {l : List Cl} {i : Nat} (hi : i < l.length) (h0 : ∀ j, j < i → (g (l.getD j Bm)).1 = 0) (h : (g (l.getD i Bm)).1 ≠ 0) : Dy g l = ((g (l.getD i Bm)).1, []) := by
 have : l.find? (fun c => (g c).1 ≠ 0) = some (l.getD i Bm) := by
  rw [List.find?_eq_some_iff_getElem]
  rw [Cd (d := Bm) hi] at h ⊢
  refine ⟨by simpa using h, i, hi, rfl, fun j hj => ?_⟩
  have := h0 j hj
  rw [Cd (d := Bm) A3] at this
  simp [this]
 rw [Dy, this]
theorem V8 {g : Cl → Int × Cl} {l : List Cl} (h0 : ∀ j, j < l.length → (g (l.getD j Bm)).1 = 0) : Dy g l = (0, l.map fun c => (g c).2) := by
 have : l.find? (fun c => (g c).1 ≠ 0) = none := by
  rw [List.find?_eq_none]
  intro x hx
  obtain ⟨j, hj, e⟩ := List.mem_iff_getElem.mp hx
  have := h0 j hj
  rw [Cd (d := Bm) hj, e] at this
  simp [this]
 rw [Dy, this]
theorem Y0 {g : Cl → Int × Cl} {l : List Cl} : (Dy g l).1 = 0 ↔ ∀ c, c ∈ l → (g c).1 = 0 := by
 unfold Dy
 cases h : l.find? (fun c => (g c).1 ≠ 0) with
 | none =>
  rw [List.find?_eq_none] at h
  simp only [true_iff]
  intro c hc
  simpa using h c hc
 | some c =>
  have h1 := List.find?_some h
  have h2 := List.mem_of_find?_eq_some h
  simp only
  refine ⟨fun h3 => ?_, fun h3 => h3 c h2⟩
  simp at h1; exact absurd h3 h1
theorem B2u {g : Cl → Int × Cl} {l : List Cl} (h : (Dy g l).1 = 0) : Dy g l = (0, l.map fun c => (g c).2) :=
 V8 fun j hj => Y0.mp h _ (Ae hj)
theorem Hm {l : List Cl} : Ab l = true ↔ Ay l = (0, l) := by
 rw [← Qo, Bool.and_eq_true, decide_eq_true_eq, decide_eq_true_eq]
 constructor
 ·rintro ⟨h1, h2⟩; exact Prod.ext h1 h2
 ·intro h; rw [h]; exact ⟨rfl, rfl⟩
def A8 (l : List Cl) (f b : Int) : Int × List Cl :=
 if Ab l = false then (2, []) else
 if (Dy (fun c => B6 c f b) l).1 ≠ 0 then ((Dy (fun c => B6 c f b) l).1, []) else Ay (Dy (fun c => B6 c f b) l).2
def Bl (by_ : Int) (l : List Cl) (f : Int) : Ak (List Cl) :=
 if by_ = 0 ∨ 24 ≤ f then .ok l else if (A8 l f by_).1 = 0 then .ok (A8 l f by_).2 else .bad (A8 l f by_).1
def Bu (vb db : Int) : Tr (Int × Int) where
 own c k n _ r := (Bl db r c.2).bind fun r' => if k = 1 ∧ c.1 ≤ n then (if 1000000000 - vb < n then .bad 100 else .ok (.inr (n + vb, r'))) else .ok (.inr (n, r'))
 B0 c f := (Bl db f c.2).bind fun f' => .ok (some f')
 Mm c b := .ok (c.1 + b.1, c.2 + b.2)
section
variable {C : Type} {A : Tr C} {t : T} {c : C} {e : Int}
theorem Le (h : A.own c t.kind t.n t.name t.r = .bad e) : Cj A t c = .bad e := by rw [Ft, h]; rfl
theorem Q4 {p : Int × List Cl} {i : Nat} {l : List T} (h : A.own c t.kind t.n t.name t.r = .ok (.inr p)) (hi : i < t.kids.length) (hl : D6 A t.kind 0 (t.kids.take i) c = .ok l) {c' : C} (hc : A.Mm c (binds t.kind i) = .ok c') (hb : Cj A (t.kids.getD i t0) c' = .bad e) : Cj A t c = .bad e := by
 have h1 : D6 A t.kind 0 (t.kids.take (i + 1)) c = .bad e := by
  rw [Ad (d := t0) hi, Lg, hl]
  simp only [Ak.bind, List.length_take, Nat.zero_add, Nat.min_eq_left (Nat.le_of_lt hi)]
  rw [hc]; simp only; rw [hb]
 have h2 := Rb (m := t.kids.drop (i + 1)) h1
 rw [List.take_append_drop] at h2
 rw [Ft, h]; simp only [Ak.bind]; rw [h2]
theorem Sb {k : Int} {ts : List T} {i : Nat} {l : List T} {u : T} (hi : i < ts.length) (hl : D6 A k 0 (ts.take i) c = .ok l) {c' : C} (hc : A.Mm c (binds k i) = .ok c') (hb : Cj A (ts.getD i t0) c' = .ok u) : D6 A k 0 (ts.take (i + 1)) c = .ok (l ++ [u]) := by
 rw [Ad (d := t0) hi, Lg, hl]
 simp only [Ak.bind, List.length_take, Nat.zero_add, Nat.min_eq_left (Nat.le_of_lt hi)]
 rw [hc]; simp only; rw [hb]
theorem Q5 {k : Int} {ts : List T} {i : Nat} {l : List T} (hi : i < ts.length) (hl : Ck A k (ts.take i) c = .ok l) {c' : C} (hc : A.Mm c (0, more k) = .ok c') (hb : Cj A (ts.getD i t0) c' = .bad e) : Ck A k ts c = .bad e := by
 have h1 : Ck A k (ts.take (i + 1)) c = .bad e := by
  rw [Ad (d := t0) hi, Lf, hl]
  simp only [Ak.bind]
  rw [hc]; simp only; rw [hb]
 have h2 := Ra (m := ts.drop (i + 1)) h1
 rwa [List.take_append_drop] at h2
theorem Sc {k : Int} {ts : List T} {i : Nat} {l : List T} {u : T} (hi : i < ts.length) (hl : Ck A k (ts.take i) c = .ok l) {c' : C} (hc : A.Mm c (0, more k) = .ok c') (hb : Cj A (ts.getD i t0) c' = .ok u) : Ck A k (ts.take (i + 1)) c = .ok (l ++ [u]) := by
 rw [Ad (d := t0) hi, Lf, hl]
 simp only [Ak.bind]
 rw [hc]; simp only; rw [hb]
theorem Q3 {p : Int × List Cl} {s : Nat} {l : List T} {bs : List Br} (h : A.own c t.kind t.n t.name t.r = .ok (.inr p)) (hl : D6 A t.kind 0 t.kids c = .ok l) (hs : s < t.sys.length) (hb : Cn A t.kind (t.sys.take s) c = .ok bs) (hf : A.B0 c (t.sys.getD s Bi).B0 = .bad e ∨ ∃ f', A.B0 c (t.sys.getD s Bi).B0 = .ok (some f') ∧ Ck A t.kind (t.sys.getD s Bi).kids c = .bad e) : Cj A t c = .bad e := by
 have h1 : Cn A t.kind (t.sys.take (s + 1)) c = .bad e := by
  rw [Ad (d := Bi) hs, J3, hb]
  simp only [Ak.bind]
  rcases hf with hf | ⟨f', hf, h2⟩
  ·rw [hf]
  ·rw [hf]; simp only; rw [h2]
 have h2 := O1 (m := t.sys.drop (s + 1)) h1
 rw [List.take_append_drop] at h2
 rw [Ft, h]; simp only [Ak.bind]; rw [hl]; simp only; rw [h2]
theorem Sd {k : Int} {ss : List Br} {s : Nat} {bs : List Br} {f' : List Cl} {ks : List T} (hs : s < ss.length) (hb : Cn A k (ss.take s) c = .ok bs) (hf : A.B0 c (ss.getD s Bi).B0 = .ok (some f')) (hk : Ck A k (ss.getD s Bi).kids c = .ok ks) : Cn A k (ss.take (s + 1)) c = .ok (bs ++ [.mk f' ks]) := by
 rw [Ad (d := Bi) hs, J3, hb]
 simp only [Ak.bind]
 rw [hf]; simp only; rw [hk]
theorem A5a {p : Int × List Cl} {l : List T} {bs : List Br} (h : A.own c t.kind t.n t.name t.r = .ok (.inr p)) (hl : D6 A t.kind 0 t.kids c = .ok l) (hb : Cn A t.kind t.sys c = .ok bs) : Cj A t c = .ok (.mk t.kind p.1 t.name p.2 l bs) := by
 rw [Ft, h]; simp only [Ak.bind]; rw [hl]; simp only; rw [hb]
end
theorem Xz {g : Cl → Int × Cl} {l : List Cl} (h : ∀ c, u32 (g c).2) : ∀ c, c ∈ (Dy g l).2 → u32 c := by
 intro c hc
 unfold Dy at hc
 split at hc
 ·cases hc
 ·obtain ⟨d, _, rfl⟩ := List.mem_map.mp hc; exact h d
theorem B2v {g : Cl → Int × Cl} {l : List Cl} : (Dy g l).2.length ≤ l.length := by
 unfold Dy
 split <;> simp
theorem Tg (k : Int) : 0 ≤ more k ∧ more k ≤ 1 := by unfold more; split <;> omega
theorem Sg {t : T} {i : Nat} (h : i < t.kids.length) : size (t.kids.getD i t0) < size t := by
 obtain ⟨p, hp, e⟩ := G9 (Ae (d := t0) h); exact e ▸ Lj hp
theorem Sf {t : T} {s k : Nat} (h : s < t.sys.length) (h2 : k < (t.sys.getD s Bi).kids.length) : size ((t.sys.getD s Bi).kids.getD k t0) < size t := by
 obtain ⟨p, hp, e⟩ := G7 (Ae (d := Bi) h) (Ae (d := t0) h2); exact e ▸ Lj hp
def Hc (vb : Int) (v : Int) (k n : Int) : Int := if k = 1 ∧ v ≤ n then n + vb else n
theorem B7a {vb db v d : Int} {t : T} {g : List Cl} (hg : Bl db t.r d = .ok g) (h : ¬ (t.kind = 1 ∧ v ≤ t.n ∧ 1000000000 - vb < t.n)) : (Bu vb db).own (v, d) t.kind t.n t.name t.r = .ok (.inr (Hc vb v t.kind t.n, g)) := by
 simp only [Bu, hg, Ak.bind, Hc]
 split
 ·rename_i h1
  rw [if_neg (fun h2 => h ⟨h1.1, h1.2, h2⟩)]
 ·rfl
theorem Zj {vb db v d : Int} {t : T} {e : Int} (hg : Bl db t.r d = .bad e) : (Bu vb db).own (v, d) t.kind t.n t.name t.r = .bad e := by
 simp only [Bu, hg, Ak.bind]
theorem Zl {vb db v d : Int} {t : T} {g : List Cl} (hg : Bl db t.r d = .ok g) (h : t.kind = 1 ∧ v ≤ t.n ∧ 1000000000 - vb < t.n) : (Bu vb db).own (v, d) t.kind t.n t.name t.r = .bad 100 := by
 simp only [Bu, hg, Ak.bind]
 rw [if_pos ⟨h.1, h.2.1⟩, if_pos h.2.2]
theorem Qm {vb db v d : Int} {f g : List Cl} (hg : Bl db f d = .ok g) : (Bu vb db).B0 (v, d) f = .ok (some g) := by simp only [Bu, hg, Ak.bind]
theorem Wh {vb db v d : Int} {f : List Cl} {e : Int} (hg : Bl db f d = .bad e) : (Bu vb db).B0 (v, d) f = .bad e := by simp only [Bu, hg, Ak.bind]
theorem X0 {vb db : Int} {k : Int} {c : Int × Int} : ∀ {l l' : List Br}, Cn (Bu vb db) k l c = .ok l' → l'.length = l.length
 | [], l', h => by rw [E4] at h; injection h with h; subst h; rfl
 | a :: l, l', h => by
  rw [Dt] at h
  obtain ⟨o, ho, h⟩ := Ak.Aa h
  obtain ⟨g, _, hg⟩ := Ak.Aa (x := Bl db a.B0 c.2) ho
  injection hg with hg
  subst hg
  obtain ⟨ks', _, h⟩ := Ak.Aa h
  obtain ⟨bs', h3, h⟩ := Ak.Aa h
  injection h with h
  subst h
  simp [X0 h3]
theorem B7z : h0.er = t0 := by simp [h0, HT.er, HT.erL, HT.erB, t0]
theorem St.h0R {B : Bv} {Γ : List Fact} {Ms : List Aw} {w : World} (y : Tys) (hs : St B Γ Ms w) : St B Γ (Di (Gg y h0) :: Ms) w := by
 have h1 := ((((hs.Vn).Vn).C3 2 y.b).C3 6 y.t).C3 2 y.c
 exact St.C3k (y := y) (k := 0) (n := 0) (nm := ByteArray.mk #[]) (r := []) (v := Bn) (u := Bn) (x := Bn) (ks := []) (ss := []) rfl rfl rfl rfl rfl rfl (by simpa [Ep, M3] using h1)
def Bg (t : T) (ns : List Int) (r : Ak T) : Int × T := if As t ≠ 0 then (As t, t0) else if ns.all (fun n => decide (0 ≤ n)) = false then (2, t0) else match r with
 | .ok u => (0, u)
 | .bad e => (e, t0)
theorem A6o {t : T} {ns : List Int} {r : Ak T} (h : As t ≠ 0) : Bg t ns r = (As t, t0) := by unfold Bg; rw [if_pos h]
theorem B2p {t : T} {ns : List Int} {r : Ak T} (h : As t = 0) (h2 : ns.all (fun n => decide (0 ≤ n)) = false) : Bg t ns r = (2, t0) := by unfold Bg; rw [if_neg (by simp [h]), if_pos h2]
theorem A3l {t u : T} {ns : List Int} {r : Ak T} (h : As t = 0) (h2 : ns.all (fun n => decide (0 ≤ n)) = true) (hr : r = .ok u) : Bg t ns r = (0, u) := by unfold Bg; rw [if_neg (by simp [h]), if_neg (by simp [h2]), hr]
theorem Xy {t : T} {e : Int} {ns : List Int} {r : Ak T} (h : As t = 0) (h2 : ns.all (fun n => decide (0 ≤ n)) = true) (hr : r = .bad e) : Bg t ns r = (e, t0) := by unfold Bg; rw [if_neg (by simp [h]), if_neg (by simp [h2]), hr]
theorem Spec.Lk {P : Program} {k : FuncId} {args : Array Value} {pre : List Fact} (y : Tys) {u : T} (g : Value → Value) (h : Spec P k args pre [] (fun x : {h : HT // h.er = u} => g (.agg (tc u x.1.vr x.1.vk x.1.vs).toArray)) (fun _ => []) (fun x => [Di (Gg y x.1)])) (hok : ∀ ok w, St ⟨ok, B4 [], w⟩ pre [] w → Tc u) :
  Spec P k args pre [] (fun x : SH × SH × SH => g (.agg (tc u x.1 x.2.1 x.2.2).toArray)) (fun x => [RT u x.1 x.2.1 x.2.2]) (fun _ => []) := fun ok w hk hs => (h ok w hk hs).mono fun e w' hh => by
 obtain ⟨x, he, hs'⟩ := hh
 have h1 : St ⟨ok, B4 [], w⟩ [] (Gg y x.1 ++ []) w' := hs'.unpack
 have h2 := St.Lk y trivial x.1 (by rw [x.2]; exact hok ok w hs) h1
 rw [x.2] at h2
 exact ⟨(x.1.vr, x.1.vk, x.1.vs), he, h2⟩
theorem Lb.Lk {P : Program} {Te : TypeId} {k : FuncId} {args : Array Value} {pre : List Fact} (y : Tys) {r : Ak T} (h : Lb P Te k args pre r (fun (u : T) => fun x : {h : HT // h.er = u} => .agg (tc u x.1.vr x.1.vk x.1.vs).toArray) (fun _ _ => []) (fun (u : T) => fun x : {h : HT // h.er = u} => [Di (Gg y x.1)])) (hok : ∀ u, r = .ok u → ∀ ok w, St ⟨ok, B4 [], w⟩ pre [] w → Tc u) :
  Lb P Te k args pre r (fun (u : T) => fun x : SH × SH × SH => .agg (tc u x.1 x.2.1 x.2.2).toArray) (fun u x => [RT u x.1 x.2.1 x.2.2]) (fun _ _ => []) := ⟨fun u hu => Spec.Lk y (fun v => v) (h.1 u hu) (hok u hu), h.2⟩
abbrev Af (l : List Cl) : Prop := (∀ c, c ∈ l → u32 c) ∧ l.length * 8 ≤ reach
section
variable {C : Type} {A : Tr C}
mutual
theorem Tu (ho : ∀ c k n nm r p, Aq k → Aq n → Af r → A.own c k n nm r = .ok (.inr p) → Aq p.1 ∧ Af p.2) (hi : ∀ c k n nm r u, A.own c k n nm r = .ok (.inl u) → Tc u) (hf : ∀ c f f', Af f → A.B0 c f = .ok (some f') → Af f') : ∀ (t : T) (c : C) (u : T), Tc t → Cj A t c = .ok u → Tc u
 | .mk k n nm r ks ss, c, u, h, hu => by
  simp only [Tc] at h
  obtain ⟨h1, h2, h3, h4, h5, h6, h7, h8⟩ := h
  rw [Ft] at hu
  simp only [T.kind, T.n, T.name, T.r, T.kids, T.sys] at hu
  obtain ⟨o, h9, hu⟩ := Ak.Aa hu
  cases o with
  | inl v => injection hu with hu; subst hu; exact hi _ _ _ _ _ _ h9
  | inr p =>
   obtain ⟨ks', h10, hu⟩ := Ak.Aa hu
   obtain ⟨ss', h11, hu⟩ := Ak.Aa hu
   injection hu with hu
   subst hu
   obtain ⟨p1, p2⟩ := ho _ _ _ _ _ _ h1 h2 h4 h9
   simp only [Tc]
   exact ⟨h1, p1, h3, p2, by rw [O0 h10]; exact h5, Nat.le_trans (Nat.mul_le_mul_right _ (Kn h11)) h6, Wz ho hi hf ks 0 c ks' h7 h10, Re ho hi hf ss c ss' h8 h11⟩
theorem Wz (ho : ∀ c k n nm r p, Aq k → Aq n → Af r → A.own c k n nm r = .ok (.inr p) → Aq p.1 ∧ Af p.2) (hi : ∀ c k n nm r u, A.own c k n nm r = .ok (.inl u) → Tc u) (hf : ∀ c f f', Af f → A.B0 c f = .ok (some f') → Af f') {kd : Int} : ∀ (ts : List T) (i : Nat) (c : C) (us : List T), Za ts → D6 A kd i ts c = .ok us → Za us
 | [], i, c, us, h, hu => by rw [Eh] at hu; injection hu with hu; subst hu; simp only [Za]
 | t :: ts, i, c, us, h, hu => by
  simp only [Za] at h
  rw [Ec] at hu
  obtain ⟨c', _, hu⟩ := Ak.Aa hu
  obtain ⟨t', h2, hu⟩ := Ak.Aa hu
  obtain ⟨ts', h3, hu⟩ := Ak.Aa hu
  injection hu with hu
  subst hu
  simp only [Za]
  exact ⟨Tu ho hi hf t c' t' h.1 h2, Wz ho hi hf ts (i + 1) c ts' h.2 h3⟩
theorem Wx (ho : ∀ c k n nm r p, Aq k → Aq n → Af r → A.own c k n nm r = .ok (.inr p) → Aq p.1 ∧ Af p.2) (hi : ∀ c k n nm r u, A.own c k n nm r = .ok (.inl u) → Tc u) (hf : ∀ c f f', Af f → A.B0 c f = .ok (some f') → Af f') {kd : Int} : ∀ (ts : List T) (c : C) (us : List T), Za ts → Ck A kd ts c = .ok us → Za us
 | [], c, us, h, hu => by rw [F5] at hu; injection hu with hu; subst hu; simp only [Za]
 | t :: ts, c, us, h, hu => by
  simp only [Za] at h
  rw [Eb] at hu
  obtain ⟨c', _, hu⟩ := Ak.Aa hu
  obtain ⟨t', h2, hu⟩ := Ak.Aa hu
  obtain ⟨ts', h3, hu⟩ := Ak.Aa hu
  injection hu with hu
  subst hu
  simp only [Za]
  exact ⟨Tu ho hi hf t c' t' h.1 h2, Wx ho hi hf ts c ts' h.2 h3⟩
theorem Re (ho : ∀ c k n nm r p, Aq k → Aq n → Af r → A.own c k n nm r = .ok (.inr p) → Aq p.1 ∧ Af p.2) (hi : ∀ c k n nm r u, A.own c k n nm r = .ok (.inl u) → Tc u) (hf : ∀ c f f', Af f → A.B0 c f = .ok (some f') → Af f') {kd : Int} : ∀ (bs : List Br) (c : C) (us : List Br), okB bs → Cn A kd bs c = .ok us → okB us
 | [], c, us, h, hu => by rw [E4] at hu; injection hu with hu; subst hu; simp only [okB]
 | .mk f ks :: bs, c, us, h, hu => by
  simp only [okB] at h
  obtain ⟨h1, h2, h3, h4⟩ := h
  rw [Dt] at hu
  simp only [Br.B0, Br.kids] at hu
  obtain ⟨o, h5, hu⟩ := Ak.Aa hu
  cases o with
  | none => exact Re ho hi hf bs c us h4 hu
  | some f' =>
   obtain ⟨ks', h6, hu⟩ := Ak.Aa hu
   obtain ⟨bs', h7, hu⟩ := Ak.Aa hu
   injection hu with hu
   subst hu
   simp only [okB]
   exact ⟨hf _ _ _ h1 h5, by rw [Nz h6]; exact h2, Wx ho hi hf ks c ks' h3 h6, Re ho hi hf bs c bs' h4 h7⟩
end
end
theorem Cf : Af [] := ⟨fun c hc => (by cases hc), by unfold reach; decide⟩
theorem Xv {l : List Cl} (h : ∀ c, c ∈ l → u32 c) : Af (Ay l).2 := by
 unfold Ay
 split
 ·exact Cf
 ·split
  ·exact Cf
  ·rename_i h64
   exact ⟨fun c hc => h c (Cs.mp hc).1, by show (Ct l).length * 8 ≤ reach; unfold reach; omega⟩
theorem Sy (l : List Cl) (f b : Int) : Af (A8 l f b).2 := by
 unfold A8
 split
 ·exact Cf
 ·split
  ·exact Cf
  ·exact Xv (Xz (fun c => Pp c f b))
theorem U6 {l g : List Cl} {f b : Int} (h : Af l) (hg : Bl b l f = .ok g) : Af g := by
 unfold Bl at hg
 split at hg
 ·injection hg with hg; subst hg; exact h
 ·split at hg
  ·injection hg with hg; subst hg; exact Sy l f b
  ·cases hg
theorem A2z {vb db : Int} (hv : 0 ≤ vb ∧ vb ≤ 1000000) {t u : T} {c : Int × Int} (h : Tc t) (hu : Cj (Bu vb db) t c = .ok u) : Tc u := by
 refine Tu (A := Bu vb db) ?_ ?_ ?_ t c u h hu
 ·intro c k n nm r p _ hn hr ho
  obtain ⟨g, hg, ho⟩ := Ak.Aa (x := Bl db r c.2) ho
  have hgo := U6 hr hg
  split at ho
  ·rename_i h1
   split at ho
   ·cases ho
   ·injection ho with ho; injection ho with ho; subst ho
    exact ⟨by unfold Aq at *; dsimp only; omega, hgo⟩
  ·injection ho with ho; injection ho with ho; subst ho
   exact ⟨hn, hgo⟩
 ·intro c k n nm r u ho
  obtain ⟨g, hg, ho⟩ := Ak.Aa (x := Bl db r c.2) ho
  split at ho
  ·split at ho
   ·cases ho
   ·injection ho with ho; cases ho
  ·injection ho with ho; cases ho
 ·intro c f f' hr ho
  obtain ⟨g, hg, ho⟩ := Ak.Aa (x := Bl db f c.2) ho
  injection ho with ho; injection ho with ho; subst ho
  exact U6 hr hg
theorem A5w : Tc t0 := by simp [t0, Tc, Za, okB, Aq, Ga, reach]; decide
theorem guard_okT' {t : T} {ns : List Int} {r : Ak T} (h : ns.all (fun n => decide (0 ≤ n)) = true → ∀ u, r = .ok u → Tc u) : Tc (Bg t ns r).2 := by
 unfold Bg
 split
 ·exact A5w
 ·split
  ·exact A5w
  ·rename_i ha
   cases r with
   | ok u => exact h (by simpa using ha) u rfl
   | bad e => exact A5w
abbrev A7v (t : T) (f b : Int) : Ak T := Cj (Bu b 0) t (if 2000000000 < f then 2000000000 else f, 0)
abbrev A9z (t : T) (f b : Int) : Ak T := Cj (Bu 0 b) t (0, if 24 < f then 24 else f)
def C8 (b : Int) : Int := IntKind.i64.wrap (1000000 - b)
theorem A9k (b : Int) : Aq (C8 b) := by
 have h : C8 b = (1000000 - b + 9223372036854775808) % 18446744073709551616 - 9223372036854775808 := by
  unfold C8; rw [IntKind.wrap_i64]
 unfold Aq; rw [h]; omega
theorem A9j {b : Int} (hb : Aq b) (h0 : 0 ≤ b) (h : 0 ≤ C8 b) : b ≤ 1000000 := by
 have h1 : C8 b = (1000000 - b + 9223372036854775808) % 18446744073709551616 - 9223372036854775808 := by
  unfold C8; rw [IntKind.wrap_i64]
 unfold Aq at hb; omega
theorem C1a {b : Int} (hb : Aq b) (h0 : 0 ≤ b) : C8 b = 1000000 - b := by
 have h1 : C8 b = (1000000 - b + 9223372036854775808) % 18446744073709551616 - 9223372036854775808 := by
  unfold C8; rw [IntKind.wrap_i64]
 unfold Aq at hb; omega
def Bc (t : T) (f b : Int) : Int × T := Bg t [f, b, C8 b] (A7v t f b)
def B9 (t : T) (f b : Int) : Int × T := Bg t [f, b] (A9z t f b)
theorem Zk {vb db : Int} {c : Int × Int} {k n : Int} {nm : ByteArray} {r : List Cl} {u : T} : (Bu vb db).own c k n nm r ≠ .ok (.inl u) := by
 intro ho
 obtain ⟨g, hg, ho⟩ := Ak.Aa (x := Bl db r c.2) ho
 split at ho
 ·split at ho
  ·cases ho
  ·injection ho with ho; cases ho
 ·injection ho with ho; cases ho
mutual
theorem O8 {vb db : Int} : ∀ {t u : T} {c : Int × Int}, Cj (Bu vb db) t c = .ok u → size u = size t
 | .mk k n nm r ks ss, u, c, hu => by
  rw [Ft] at hu
  simp only [T.kind, T.n, T.name, T.r, T.kids, T.sys] at hu
  obtain ⟨o, h9, hu⟩ := Ak.Aa hu
  cases o with
  | inl v => exact absurd h9 Zk
  | inr p =>
   obtain ⟨ks', h10, hu⟩ := Ak.Aa hu
   obtain ⟨ss', h11, hu⟩ := Ak.Aa hu
   injection hu with hu
   subst hu
   rw [Ow, Ow]
   simp only [T.kids, T.sys]
   rw [Uw h10, Uy h11]
theorem Uw {vb db k : Int} : ∀ {ts us : List T} {i : Nat} {c : Int × Int}, D6 (Bu vb db) k i ts c = .ok us → us.map size = ts.map size
 | [], us, i, c, hu => by rw [Eh] at hu; injection hu with hu; subst hu; rfl
 | t :: ts, us, i, c, hu => by
  rw [Ec] at hu
  obtain ⟨c', _, hu⟩ := Ak.Aa hu
  obtain ⟨t', h2, hu⟩ := Ak.Aa hu
  obtain ⟨ts', h3, hu⟩ := Ak.Aa hu
  injection hu with hu
  subst hu
  simp only [List.map_cons]
  rw [O8 h2, Uw h3]
theorem Uv {vb db k : Int} : ∀ {ts us : List T} {c : Int × Int}, Ck (Bu vb db) k ts c = .ok us → us.map size = ts.map size
 | [], us, c, hu => by rw [F5] at hu; injection hu with hu; subst hu; rfl
 | t :: ts, us, c, hu => by
  rw [Eb] at hu
  obtain ⟨c', _, hu⟩ := Ak.Aa hu
  obtain ⟨t', h2, hu⟩ := Ak.Aa hu
  obtain ⟨ts', h3, hu⟩ := Ak.Aa hu
  injection hu with hu
  subst hu
  simp only [List.map_cons]
  rw [O8 h2, Uv h3]
theorem Uy {vb db k : Int} : ∀ {bs us : List Br} {c : Int × Int}, Cn (Bu vb db) k bs c = .ok us → (us.map fun b => b.kids.map size) = bs.map fun b => b.kids.map size
 | [], us, c, hu => by rw [E4] at hu; injection hu with hu; subst hu; rfl
 | .mk f ks :: bs, us, c, hu => by
  rw [Dt] at hu
  simp only [Br.B0, Br.kids] at hu
  obtain ⟨o, h5, hu⟩ := Ak.Aa hu
  obtain ⟨g, _, h6⟩ := Ak.Aa (x := Bl db f c.2) h5
  injection h6 with h6
  subst h6
  obtain ⟨ks', h7, hu⟩ := Ak.Aa hu
  obtain ⟨bs', h8, hu⟩ := Ak.Aa hu
  injection hu with hu
  subst hu
  show (ks'.map size :: (bs'.map fun b => b.kids.map size)) = (ks.map size :: (bs.map fun b => b.kids.map size))
  rw [Uv h7, Uy h8]
end
theorem B0g {t : T} {v d : Int} {b : Bool} : Ol t v d b = true ↔ (¬ (b = true ∧ 24 < d)) ∧ Ii t v d = true ∧ ∀ p, p ∈ parts t → Ol p.1 (IntKind.i64.wrap (v + if v < 0 then 0 else p.2.1)) (d + p.2.2) b = true := by
  rw [A0k, Bool.and_eq_true, List.all_eq_true]
  simp only [Bool.not_eq_true', Bool.or_eq_false_iff, Bool.and_eq_false_iff, decide_eq_false_iff_not, Bool.not_eq_false']
  constructor
  · rintro ⟨⟨h1, h2⟩, h3⟩
    refine ⟨?_, h2, h3⟩
    rintro ⟨h4, h5⟩
    rcases h1 with h1 | h1
    · rw [h1] at h4; cases h4
    · exact h1 h5
  · rintro ⟨h1, h2, h3⟩
    refine ⟨⟨?_, h2⟩, h3⟩
    cases b
    · exact .inl rfl
    · exact .inr (fun h => h1 ⟨rfl, h⟩)
theorem A8t {t : T} {v d : Int} : Ii t v d = true ↔ Gr t = false ∧
    (if t.kind = 1 then t.r.length = 0 ∧ 0 ≤ t.n ∧ (v < 0 ∨ t.n < v)
     else if t.kind = 2 then t.r.length = 0 ∧ Kc t.name = true
     else if t.kind = 13 ∨ t.kind = 21 ∨ t.kind = 26 then Ab t.r = true ∧ within t.r d = true
     else if t.kind = 14 then A4 t.r = true ∧ within t.r d = true
     else (∀ x, x ∈ t.sys → Mj t d x = true) ∧ t.r.length = 0) := by
  unfold Ii
  rw [Bool.and_eq_true, Bool.not_eq_true']
  apply and_congr Iff.rfl
  split
  · simp only [Bool.and_eq_true, decide_eq_true_eq, Bool.or_eq_true, and_assoc]; constructor <;> (rintro ⟨h1, h2⟩; exact ⟨by omega, h2⟩)
  · split
    · simp only [Bool.and_eq_true, decide_eq_true_eq]; constructor <;> (rintro ⟨h1, h2⟩; exact ⟨by omega, h2⟩)
    · split
      · simp only [Bool.and_eq_true]
      · split
        · simp only [Bool.and_eq_true]
        · simp only [Bool.and_eq_true, decide_eq_true_eq, List.all_eq_true]; constructor <;> (rintro ⟨h1, h2⟩; exact ⟨h1, by omega⟩)
theorem within_iff {l : List Cl} {d : Int} (h0 : 0 ≤ d) : within l d = true ↔ ∀ i : Nat, d ≤ (i : Int) → (L7 l).testBit i = false := by
  have hlt := B8n l
  unfold within
  rw [Bool.or_eq_true, decide_eq_true_eq, decide_eq_true_eq]
  by_cases h24 : 24 ≤ d
  · constructor
    · intro _ i hi
      exact Nat.testBit_lt_two_pow (Nat.lt_of_lt_of_le hlt (Nat.pow_le_pow_right (n := 2) A3 (show 24 ≤ i by omega)))
    · intro _; exact .inl h24
  · have hm : min d.toNat 32 = d.toNat := by omega
    rw [hm]
    constructor
    · rintro (h | h) i hi
      · exact absurd h h24
      · have h1 : L7 l / 2 ^ d.toNat = 0 := by omega
        have h2 : L7 l < 2 ^ d.toNat := by
          have := Nat.div_eq_zero_iff.mp h1
          have hp : 0 < 2 ^ d.toNat := Nat.pow_pos A3
          omega
        exact Nat.testBit_lt_two_pow (Nat.lt_of_lt_of_le h2 (Nat.pow_le_pow_right (n := 2) A3 A3))
    · intro h
      right
      have h2 : L7 l < 2 ^ d.toNat := Nat.lt_pow_two_of_testBit _ (fun i hi => h i A3)
      rw [Nat.div_eq_of_lt h2]; rfl
theorem Ke (s n : Nat) : (Eu s n).Pairwise fun a b => a < b := by
 unfold Eu
 rw [List.pairwise_map]
 refine (List.Pairwise.filter _ List.pairwise_lt_range).imp (fun h => by omega)
theorem Ug {t : T} {p : Part} (hp : p ∈ parts t) : (∃ i, i < t.kids.length ∧ p = (t.kids.getD i t0, binds t.kind (i : Int))) ∨ ∃ s k, s < t.sys.length ∧ k < (t.sys.getD s Bi).kids.length ∧ p = ((t.sys.getD s Bi).kids.getD k t0, 0, more t.kind) := by
 unfold parts at hp
 rcases List.mem_append.mp hp with hp | hp
 ·left
  have key : ∀ (ks : List T) (s : Nat), p ∈ Cv t.kind s ks → ∃ i, i < ks.length ∧ p = (ks.getD i t0, binds t.kind ((s + i : Nat) : Int)) := by
   intro ks
   induction ks with
   | nil => intro s h; simp [Cv] at h
   | cons k ks ih =>
    intro s h
    simp only [Cv, List.mem_cons] at h
    rcases h with h | h
    ·exact ⟨0, by simp, by simpa using h⟩
    ·obtain ⟨i, hi, e⟩ := ih (s + 1) h
     exact ⟨i + 1, by simpa using hi, by rw [e]; simp only [List.getD_cons_succ]; rw [show s + 1 + i = s + (i + 1) by omega]⟩
  obtain ⟨i, hi, e⟩ := key t.kids 0 hp
  exact ⟨i, hi, by rw [e]; simp⟩
 ·right
  have key : ∀ (bs : List Br), p ∈ Cq t.kind bs → ∃ s k, s < bs.length ∧ k < (bs.getD s Bi).kids.length ∧ p = ((bs.getD s Bi).kids.getD k t0, 0, more t.kind) := by
   intro bs
   induction bs with
   | nil => intro h; simp [Cq] at h
   | cons b bs ih =>
    intro h
    simp only [Cq, List.mem_append, List.mem_map] at h
    rcases h with ⟨k, hk, e⟩ | h
    ·obtain ⟨j, hj, e2⟩ := List.mem_iff_getElem.mp hk
     exact ⟨0, j, by simp, by simpa using hj, by rw [← e]; simp only [List.getD_cons_zero]; rw [Cd (d := t0) hj, e2]⟩
    ·obtain ⟨s, k, h1, h2, e⟩ := ih h
     exact ⟨s + 1, k, by simpa using h1, by simpa using h2, by rw [e]; simp⟩
  exact key t.sys hp
theorem A3q {α : Type} (f : α → Nat) (i : Nat) : ∀ (l : List α) (a : Nat), (l.foldl (fun a x => a ||| f x) a).testBit i = true ↔ a.testBit i = true ∨ ∃ x, x ∈ l ∧ (f x).testBit i = true
 | [], a => by simp
 | x :: l, a => by
  rw [List.foldl_cons, A3q f i l, Nat.testBit_or]
  simp only [Bool.or_eq_true, List.mem_cons, exists_eq_or_imp, or_assoc]
def Rt (k n : Int) (nm : ByteArray) (r : List Cl) : Prop :=
 (k ≠ 1 → n = 0) ∧ (k ≠ 2 → nm.toList = (ByteArray.mk #[]).toList) ∧ (k = 1 → r = [] ∧ 0 ≤ n) ∧ (k = 2 → r = [] ∧ Kc nm = true) ∧ (k = 13 ∨ k = 21 ∨ k = 26 → Ab r = true) ∧ (k = 14 → A4 r = true) ∧ (k ≠ 13 ∧ k ≠ 21 ∧ k ≠ 26 ∧ k ≠ 14 → r = [])
mutual
def Ee : T → Prop
 | .mk k n nm r ks ss => Rt k n nm r ∧ D1 k = (ks.length : Int) ∧ (Dh k = 0 → ss = []) ∧ L5 ks ∧ Qx k ss
def L5 : List T → Prop
 | [] => True
 | t :: ts => Ee t ∧ L5 ts
def Qx (k : Int) : List Br → Prop
 | [] => True
 | .mk f ks :: bs => (ks.length : Int) = Dh k ∧ A4 f = true ∧ L5 ks ∧ Qx k bs
end
theorem Eo {k : Int} (h : k = 1 ∨ k = 2 ∨ k = 13 ∨ k = 21 ∨ k = 26 ∨ k = 14) : Dh k = 0 := by
 unfold Dh
 rcases h with h | h | h | h | h | h <;> subst h <;> decide
theorem R8 (l : List Cl) {d : Int} (h : 24 ≤ d) : within l d = true := by unfold within; rw [decide_eq_true h]; rfl
theorem len_nil {α : Type} {l : List α} : ((l.length : Int) = 0) ↔ l = [] := by
 constructor
 ·intro h; exact List.eq_nil_of_length_eq_zero A3
 ·rintro rfl; rfl
theorem Ku {k n : Int} {nm : ByteArray} {r : List Cl} {ks : List T} {ss : List Br} {d : Int} (hd : 24 ≤ d) : Ii (.mk k n nm r ks ss) (-1) d = true ↔ Rt k n nm r ∧ D1 k = (ks.length : Int) ∧ (Dh k = 0 → ss = []) ∧ ∀ b, b ∈ ss → (b.kids.length : Int) = Dh k ∧ A4 b.B0 = true := by
 have hB : ∀ b : Br, Mj (.mk k n nm r ks ss) d b = (decide ((b.kids.length : Int) = Dh k) && A4 b.B0) := fun b => by
  unfold Mj; rw [R8 _ hd, Bool.and_true]; rfl
 have hL : (0 : Int) < (ss.length : Int) ↔ ss ≠ [] := by
  constructor
  ·intro h e; subst e; simp at h
  ·intro h; have := List.length_pos_iff.mpr h; omega
 have hs : ∀ p : Bool, (ss.all (Mj (.mk k n nm r ks ss) d) = true) ↔ ∀ b, b ∈ ss → (b.kids.length : Int) = Dh k ∧ A4 b.B0 = true := fun _ => by
  rw [List.all_eq_true]
  exact forall_congr' fun b => forall_congr' fun _ => by rw [hB]; simp
 unfold Ii Gr Rt
 simp only [T.kind, T.n, T.name, T.r, T.kids, T.sys, R8 _ hd, Bool.and_true, Bool.and_eq_true, Bool.not_eq_true', Bool.or_eq_false_iff, Bool.and_eq_false_iff, decide_eq_false_iff_not, Decidable.not_not, ne_eq, Int.not_lt, Bool.not_eq_false', beq_iff_eq]
 constructor
 ·rintro ⟨⟨⟨⟨h1, h2⟩, h3⟩, h4⟩, h5⟩
  replace h1 : D1 k = (ks.length : Int) := Decidable.not_not.mp (of_decide_eq_false h1)
  replace h2 : k = 1 ∨ n = 0 := h2.imp (fun h => Decidable.not_not.mp (of_decide_eq_false h)) (fun h => Decidable.not_not.mp (of_decide_eq_false h))
  replace h3 : k = 2 ∨ nm.toList = (ByteArray.mk #[]).toList := h3.imp (fun h => Decidable.not_not.mp (of_decide_eq_false h)) id
  replace h4 : ¬ Dh k = 0 ∨ ¬ (0 : Int) < (ss.length : Int) := h4.imp (fun h => of_decide_eq_false h) (fun h => of_decide_eq_false h)
  have hss : Dh k = 0 → ss = [] := by
   intro h
   rcases h4 with h4 | h4
   ·exact absurd h h4
   ·exact List.eq_nil_of_length_eq_zero A3
  split at h5
  ·rename_i hk
   have he := hss (Eo A3)
   subst he
   simp only [Bool.and_eq_true, decide_eq_true_eq] at h5
   exact ⟨⟨by omega, fun _ => h3.resolve_left A3, fun _ => ⟨len_nil.mp (of_decide_eq_true h5.1.1), of_decide_eq_true h5.1.2⟩, by omega, by omega, by omega, fun _ => len_nil.mp (of_decide_eq_true h5.1.1)⟩, h1, hss, fun b hb => by cases hb⟩
  ·split at h5
   ·rename_i hk1 hk
    have he := hss (Eo A3)
    subst he
    simp only [Bool.and_eq_true, decide_eq_true_eq] at h5
    exact ⟨⟨by omega, fun h => absurd hk h, by omega, fun _ => ⟨len_nil.mp (of_decide_eq_true h5.1), h5.2⟩, by omega, by omega, fun _ => len_nil.mp (of_decide_eq_true h5.1)⟩, h1, hss, fun b hb => by cases hb⟩
   ·split at h5
    ·rename_i hk1 hk2 hk
     have he := hss (Eo A3)
     subst he
     exact ⟨⟨by omega, fun _ => h3.resolve_left A3, by omega, by omega, fun _ => h5, by omega, by omega⟩, h1, hss, fun b hb => by cases hb⟩
    ·split at h5
     ·rename_i hk1 hk2 hk3 hk
      have he := hss (Eo A3)
      subst he
      exact ⟨⟨by omega, fun _ => h3.resolve_left A3, by omega, by omega, by omega, fun _ => h5, by omega⟩, h1, hss, fun b hb => by cases hb⟩
     ·rename_i hk1 hk2 hk3 hk4
      simp only [Bool.and_eq_true, decide_eq_true_eq] at h5
      exact ⟨⟨by omega, fun _ => h3.resolve_left A3, by omega, by omega, by omega, by omega, fun _ => len_nil.mp (of_decide_eq_true h5.2)⟩, h1, hss, (hs true).mp h5.1⟩
 ·rintro ⟨⟨a1, a2, a3, a4, a5, a6, a7⟩, b1, b2, b3⟩
  refine ⟨⟨⟨⟨decide_eq_false (Decidable.not_not.mpr b1), ?_⟩, ?_⟩, ?_⟩, ?_⟩
  ·by_cases h : k = 1
   ·exact .inl (decide_eq_false (Decidable.not_not.mpr h))
   ·exact .inr (decide_eq_false (Decidable.not_not.mpr (a1 h)))
  ·by_cases h : k = 2
   ·exact .inl (decide_eq_false (Decidable.not_not.mpr h))
   ·exact .inr (a2 h)
  ·by_cases h : Dh k = 0
   ·exact .inr (decide_eq_false (by rw [b2 h]; decide))
   ·exact .inl (decide_eq_false h)
  ·split
   ·rename_i h; simp [(a3 h).1, (a3 h).2]
   ·split
    ·rename_i h; simp [(a4 h).1, (a4 h).2]
    ·split
     ·rename_i h; exact a5 h
     ·split
      ·rename_i h; exact a6 h
      ·rename_i h1 h2 h3 h4
       rw [Bool.and_eq_true, (hs true)]
       exact ⟨b3, by simp [a7 A3]⟩
theorem Oc : ∀ {ts : List T}, L5 ts ↔ ∀ t, t ∈ ts → Ee t
 | [] => by simp [L5]
 | t :: ts => by simp [L5, Oc (ts := ts)]
theorem Rw {k : Int} : ∀ {bs : List Br}, Qx k bs ↔ ∀ b, b ∈ bs → (b.kids.length : Int) = Dh k ∧ A4 b.B0 = true ∧ L5 b.kids
 | [] => by simp [Qx]
 | .mk f ks :: bs => by
  simp only [Qx, Rw (bs := bs), List.forall_mem_cons, Br.kids, Br.B0]
  constructor
  ·rintro ⟨h1, h2, h3, h4⟩; exact ⟨⟨h1, h2, h3⟩, h4⟩
  ·rintro ⟨⟨h1, h2, h3⟩, h4⟩; exact ⟨h1, h2, h3, h4⟩
theorem L4 {t : T} : Ee t ↔ Rt t.kind t.n t.name t.r ∧ D1 t.kind = (t.kids.length : Int) ∧ (Dh t.kind = 0 → t.sys = []) ∧ L5 t.kids ∧ Qx t.kind t.sys := by
 obtain ⟨k, n, nm, r, ks, ss⟩ := t
 simp only [Ee, T.kind, T.n, T.name, T.r, T.kids, T.sys]
theorem Pl {t : T} : Ee t ↔ (∀ d : Int, 24 ≤ d → Ii t (-1) d = true) ∧ ∀ p, p ∈ parts t → Ee p.1 := by
 rw [L4, Oc, Rw]
 have ho : ∀ d : Int, 24 ≤ d → (Ii t (-1) d = true ↔ Rt t.kind t.n t.name t.r ∧ D1 t.kind = (t.kids.length : Int) ∧ (Dh t.kind = 0 → t.sys = []) ∧ ∀ b, b ∈ t.sys → (b.kids.length : Int) = Dh t.kind ∧ A4 b.B0 = true) := by
  intro d hd
  obtain ⟨k, n, nm, r, ks, ss⟩ := t
  exact Ku hd
 constructor
 ·rintro ⟨h1, h2, h3, h4, h5⟩
  refine ⟨fun d hd => (ho d hd).mpr ⟨h1, h2, h3, fun b hb => ⟨(h5 b hb).1, (h5 b hb).2.1⟩⟩, fun p hp => ?_⟩
  rcases Ug hp with ⟨i, hi, rfl⟩ | ⟨s, k, hs, hk, rfl⟩
  ·exact h4 _ (Ae hi)
  ·exact Oc.mp (h5 _ (Ae hs)).2.2 _ (Ae hk)
 ·rintro ⟨h1, h2⟩
  obtain ⟨a1, a2, a3, a4⟩ := (ho 24 A3).mp (h1 24 A3)
  refine ⟨a1, a2, a3, fun k hk => ?_, fun b hb => ⟨(a4 b hb).1, (a4 b hb).2, Oc.mpr fun k hk => ?_⟩⟩
  ·obtain ⟨p, hp, e⟩ := G9 hk; exact e ▸ h2 p hp
  ·obtain ⟨p, hp, e⟩ := G7 hb hk; exact e ▸ h2 p hp
theorem B9d : ∀ (t : T) (d : Int), 24 ≤ d → (Ol t (-1) d false = true ↔ Ee t) := T.ind fun t ih d hd => by
 rw [B0g, Pl]
 have hw : ∀ p : Part, IntKind.i64.wrap (-1 + if (-1 : Int) < 0 then 0 else p.2.1) = -1 := fun p => by rw [if_pos I4]; decide
 constructor
 ·rintro ⟨_, h2, h3⟩
  refine ⟨fun d' hd' => ?_, fun p hp => ?_⟩
  ·obtain ⟨k, n, nm, r, ks, ss⟩ := t
   exact (Ku hd').mpr ((Ku hd).mp h2)
  ·have h4 := h3 p hp
   rw [hw] at h4
   have h5 := Ue hp
   exact (ih p hp (d + p.2.2) A3).mp h4
 ·rintro ⟨h1, h2⟩
  refine ⟨by simp, h1 d hd, fun p hp => ?_⟩
  rw [hw]
  have h5 := Ue hp
  exact (ih p hp (d + p.2.2) A3).mpr (h2 p hp)
theorem Sx {t : T} : As t = 0 ↔ sized t = 0 ∧ Ee t := by rw [A3o, B9d t 24 A3]
section
variable {C : Type} {A : Tr C}
end
section
variable {CA CB CC : Type} {A : Tr CA} {B : Tr CB} {D : Tr CC} (R : CA → CB → CC → Prop)
variable {R}
end
section
variable {CA CC : Type} {A : Tr CA} {D : Tr CC} (R : CA → CC → Prop)
variable {R}
end
theorem Qj {s : Nat} {f b : Int} (h : (Ah s f b).1 = 0) (i : Nat) : 0 ≤ f ∧ 0 ≤ b ∧ (Ah s f b).2.testBit i = ((decide (i < min f.toNat 24) && (s &&& 16777215).testBit i) || (decide (min f.toNat 24 + b.toNat ≤ i) && (s &&& 16777215).testBit (i - b.toNat))) := by
 by_cases h0 : f < 0 ∨ b < 0
 ·rw [Ah, if_pos h0] at h; cases h
 ·have hq : ∀ j, (s &&& 16777215).testBit j = true → j < 24 := fun j hj => by rw [F6, Bool.and_eq_true, decide_eq_true_eq] at hj; exact hj.1
  refine ⟨by omega, by omega, ?_⟩
  generalize hF : min f.toNat 24 = F at *
  by_cases h1 : Ax (s &&& 16777215) (2 ^ (min f.toNat 24) - 1) = 0
  ·rw [Ah, if_neg h0, if_pos h1]
   show ((s &&& 16777215) &&& (2 ^ (min f.toNat 24) - 1)).testBit i = _
   rw [hF] at h1 ⊢
   rw [Nat.testBit_and, Jd]
   have h2 : (decide (F + b.toNat ≤ i) && (s &&& 16777215).testBit (i - b.toNat)) = false := by
    cases h3 : (s &&& 16777215).testBit (i - b.toNat) with
    | false => rw [Bool.and_false]
    | true =>
     rw [Bool.and_true]
     refine decide_eq_false (fun h4 => ?_)
     have h5 : (Ax (s &&& 16777215) (2 ^ F - 1)).testBit (i - b.toNat) = true := by
      rw [G0, Jd, h3, decide_eq_true (by have := hq _ h3; omega), decide_eq_false A3]; rfl
     rw [h1, Nat.zero_testBit] at h5
     cases h5
   rw [h2, Bool.or_false, Bool.and_comm]
  ·by_cases h2 : 24 ≤ b ∨ 16777215 < Ax (s &&& 16777215) (2 ^ (min f.toNat 24) - 1) * 2 ^ b.toNat
   ·rw [Ah, if_neg h0, if_neg h1, if_pos h2] at h; cases h
   ·rw [Ah, if_neg h0, if_neg h1, if_neg h2]
    show (((s &&& 16777215) &&& (2 ^ (min f.toNat 24) - 1)) ||| (Ax (s &&& 16777215) (2 ^ (min f.toNat 24) - 1) * 2 ^ b.toNat)).testBit i = _
    rw [hF, Nat.testBit_or, Nat.testBit_and, Jd, Nat.testBit_mul_two_pow, G0, Jd]
    cases h3 : (s &&& 16777215).testBit (i - b.toNat) with
    | false => simp [Bool.and_comm]
    | true =>
     have h4 := hq _ h3
     rw [decide_eq_true (show i - b.toNat < 32 by omega)]
     simp only [Bool.and_true, Bool.true_and]
     rw [Bool.and_comm]
     congr 1
     by_cases h5 : F + b.toNat ≤ i
     ·rw [decide_eq_true (show b.toNat ≤ i by omega), decide_eq_false (show ¬ i - b.toNat < F by omega), decide_eq_true h5]; rfl
     ·rw [decide_eq_false h5]
      by_cases h6 : b.toNat ≤ i
      ·rw [decide_eq_true h6, decide_eq_true (show i - b.toNat < F by omega)]; rfl
      ·rw [decide_eq_false h6]; rfl
theorem Fw (l : List Cl) : ((Ay l).1 = 0 ∧ l.all Ap = true ∧ (Ay l).2 = Ct l ∧ (Ct l).length ≤ 64) ∨ (Ay l).1 = 2 ∨ (Ay l).1 = 3 := by
 unfold Ay
 split
 ·exact .inr (.inl rfl)
 ·rename_i h1
  split
  ·exact .inr (.inr rfl)
  ·rename_i h2
   exact .inl ⟨rfl, by simpa using h1, rfl, by omega⟩
theorem Ix {l : List Cl} (h : (Ay l).1 = 0) : Ab (Ay l).2 = true := by
 rcases Fw l with ⟨_, h1, h2, h3⟩ | h1 | h1
 ·rw [h2]
  unfold Ab
  rw [Bool.and_eq_true, Bool.and_eq_true, Bool.and_eq_true]
  refine ⟨⟨⟨List.all_eq_true.mpr fun c hc => List.all_eq_true.mp h1 c (Cs.mp hc).1, Ju.mpr (Gb l)⟩, S6.mpr fun a ha b hb => Gy.mp (Cs.mp ha).2 b (Cs.mp hb).1⟩, decide_eq_true h3⟩
 ·rw [h1] at h; cases h
 ·rw [h1] at h; cases h
theorem Pj {l : List Cl} (h : (Ay l).1 = 0) {c : Cl} (hc : c ∈ (Ay l).2) : c ∈ l := by
 rcases Fw l with ⟨_, h1, h2, h3⟩ | h1 | h1
 ·rw [h2] at hc; exact (Cs.mp hc).1
 ·rw [h1] at h; cases h
 ·rw [h1] at h; cases h
theorem V4 {l : List Cl} {f b : Int} (h : (A8 l f b).1 = 0) : Ab l = true ∧ (∀ c, c ∈ l → (B6 c f b).1 = 0) ∧ A8 l f b = Ay (l.map fun c => (B6 c f b).2) := by
 unfold A8 at h ⊢
 split at h
 ·cases h
 ·rename_i h1
  split at h
  ·rename_i h2; exact absurd h h2
  ·rename_i h2
   have h3 : (Dy (fun c => B6 c f b) l).1 = 0 := Decidable.not_not.mp h2
   rw [if_neg h1, if_neg h2]
   exact ⟨by simpa using h1, Y0.mp h3, by rw [B2u h3]⟩
theorem Vc : Ab [] = true := by decide
theorem Zt (f b : Int) : A8 [] f b = (0, []) := by
 unfold A8
 rw [if_neg (by rw [Vc]; decide)]
 have h : Dy (fun c => B6 c f b) [] = (0, []) := rfl
 rw [h, if_neg I4]
 exact Hm.mp Vc
theorem Sj (f b : Int) : Bl b [] f = .ok [] := by
 unfold Bl
 rw [Zt]
 simp
section
variable {C : Type} {A : Tr C}
end
theorem Nf {vb db : Int} {c : Int × Int} {k n : Int} {nm : ByteArray} {r : List Cl} : (Bu vb db).own c k n nm r = (Bl db r c.2).bind fun r' => if k = 1 ∧ c.1 ≤ n ∧ 1000000000 - vb < n then .bad 100 else .ok (.inr (Hc vb c.1 k n, r')) := by
 simp only [Bu, Hc]
 congr 1
 funext g
 by_cases h1 : k = 1 ∧ c.1 ≤ n
 ·rw [if_pos h1, if_pos h1]
  by_cases h2 : 1000000000 - vb < n
  ·rw [if_pos h2, if_pos ⟨h1.1, h1.2, h2⟩]
  ·rw [if_neg h2, if_neg (fun h => h2 h.2.2)]
 ·rw [if_neg h1, if_neg h1, if_neg (fun h => h1 ⟨h.1, h.2.1⟩)]
abbrev Vl (a : Int) (t : T) : Ak T := Cj (Bu a 0) t (0, 0)
abbrev Dl (b : Int) (t : T) : Ak T := Cj (Bu 0 b) t (0, 0)
theorem Wg {vb db : Int} {c : Int × Int} {f : List Cl} : (Bu vb db).B0 c f = (Bl db f c.2).bind fun f' => .ok (some f') := rfl
theorem A7c (c : Cl) (f b : Int) : (B6 c f b).1 = 0 ∨ (B6 c f b).1 = 2 ∨ (B6 c f b).1 = 10 := by
 have hm : ∀ s, (Ah s f b).1 = 0 ∨ (Ah s f b).1 = 2 ∨ (Ah s f b).1 = 10 := fun s => by
  unfold Ah
  split
  ·exact .inr (.inl rfl)
  ·split
   ·exact .inl rfl
   ·split
    ·exact .inr (.inr rfl)
    ·exact .inl rfl
 unfold B6
 split
 ·exact .inr (.inl rfl)
 ·split
  ·exact hm _
  ·split
   ·exact hm _
   ·exact .inl rfl
def Hd (r : Ak T) : Int × T := match r with
 | .ok u => (0, u)
 | .bad e => (e, t0)
theorem A3m {t : T} {ns : List Int} {r : Ak T} (h : As t = 0) (h2 : ns.all (fun n => decide (0 ≤ n)) = true) : Bg t ns r = Hd r := by
 cases r with
 | ok u => exact A3l h h2 rfl
 | bad e => exact Xy h h2 rfl
theorem B2b {b : Int} (h0 : 0 ≤ b) (h1 : b ≤ 1000000) : 0 ≤ C8 b := by rw [C1a (by unfold Aq; omega) h0]; omega
theorem B9u {t : T} {b : Int} (h : As t = 0) (hv : 0 ≤ b ∧ b ≤ 1000000) : Bc t 0 b = Hd (Vl b t) := by
 have := B2b hv.1 hv.2
 exact A3m h (by simp [hv.1, this])
theorem C2d {t : T} {b : Int} (h : As t = 0) (hv : 0 ≤ b) : B9 t 0 b = Hd (Dl b t) := A3m h (by simp [hv])
def A9s (v d : Int) (k n : Int) (r : List Cl) : Prop := d ≤ 24 ∧ (k = 1 → n < v) ∧ within r d = true
mutual
def H0 : T → Int → Int → Prop
 | .mk k n nm r ks ss, v, d => A9s v d k n r ∧ A2q k 0 ks v d ∧ A2s k ss v d
def A2q (k : Int) : Nat → List T → Int → Int → Prop
 | _, [], _, _ => True
 | i, t :: ts, v, d => H0 t (v + (binds k i).1) (d + (binds k i).2) ∧ A2q k (i + 1) ts v d
def A2o (k : Int) : List T → Int → Int → Prop
 | [], _, _ => True
 | t :: ts, v, d => H0 t v (d + more k) ∧ A2o k ts v d
def A2s (k : Int) : List Br → Int → Int → Prop
 | [], _, _ => True
 | .mk f ks :: bs, v, d => within f d = true ∧ A2o k ks v d ∧ A2s k bs v d
end
theorem Pa (d : Int) : within [] d = true := by
 unfold within
 rw [show L7 [] = 0 from rfl, Nat.zero_div]
 simp
theorem N6 {t : T} {d : Int} {b : Br} : Mj t d b = true ↔ ((b.kids.length : Int) = Dh t.kind ∧ A4 b.B0 = true) ∧ within b.B0 d = true := by
 unfold Mj
 rw [Bool.and_eq_true, Bool.and_eq_true, decide_eq_true_iff]
theorem B5y {t : T} {v d : Int} (hv : 0 ≤ v) : Ii t v d = true ↔ Ii t (-1) 24 = true ∧ (t.kind = 1 → t.n < v) ∧ within t.r d = true ∧ ∀ b, b ∈ t.sys → within b.B0 d = true := by
 rw [A8t, A8t]
 have hsys : ∀ (h : Gr t = false), Dh t.kind = 0 → t.sys = [] := fun h h0 => by
  unfold Gr at h
  rw [Bool.or_eq_false_iff, Bool.and_eq_false_iff] at h
  rcases h.2 with h2 | h2
  ·exact absurd h0 (of_decide_eq_false h2)
  ·exact List.eq_nil_of_length_eq_zero (by have := of_decide_eq_false h2; omega)
 have hw24 : ∀ l : List Cl, within l 24 = true := fun l => R8 l A3
 constructor
 ·rintro ⟨h1, h2⟩
  refine (fun (h : (if t.kind = 1 then t.r.length = 0 ∧ 0 ≤ t.n ∧ ((-1 : Int) < 0 ∨ t.n < -1) else if t.kind = 2 then t.r.length = 0 ∧ Kc t.name = true else if t.kind = 13 ∨ t.kind = 21 ∨ t.kind = 26 then Ab t.r = true ∧ within t.r 24 = true else if t.kind = 14 then A4 t.r = true ∧ within t.r 24 = true else (∀ x, x ∈ t.sys → Mj t 24 x = true) ∧ t.r.length = 0) ∧ (t.kind = 1 → t.n < v) ∧ within t.r d = true ∧ ∀ b, b ∈ t.sys → within b.B0 d = true) => ⟨⟨h1, h.1⟩, h.2⟩) ?_
  split at h2
  ·rename_i hk
   have hs := hsys h1 (Eo A3)
   rw [hs, List.eq_nil_of_length_eq_zero h2.1]
   exact ⟨by rw [if_pos hk]; exact ⟨rfl, h2.2.1, .inl I4⟩, fun _ => by omega, Pa d, fun b hb => (by cases hb)⟩
  ·rename_i hk1
   rw [if_neg hk1]
   split at h2
   ·rename_i hk
    have hs := hsys h1 (Eo A3)
    rw [hs, List.eq_nil_of_length_eq_zero h2.1]
    exact ⟨by rw [if_pos hk]; exact ⟨rfl, h2.2⟩, fun h => absurd h hk1, Pa d, fun b hb => (by cases hb)⟩
   ·rename_i hk2
    rw [if_neg hk2]
    split at h2
    ·rename_i hk
     have hs := hsys h1 (Eo A3)
     rw [hs]
     exact ⟨by rw [if_pos hk]; exact ⟨h2.1, hw24 _⟩, fun h => absurd h hk1, h2.2, fun b hb => (by cases hb)⟩
    ·rename_i hk3
     rw [if_neg hk3]
     split at h2
     ·rename_i hk
      have hs := hsys h1 (Eo A3)
      rw [hs]
      exact ⟨by rw [if_pos hk]; exact ⟨h2.1, hw24 _⟩, fun h => absurd h hk1, h2.2, fun b hb => (by cases hb)⟩
     ·rename_i hk4
      rw [if_neg hk4, List.eq_nil_of_length_eq_zero h2.2]
      exact ⟨⟨fun x hx => N6.mpr ⟨(N6.mp (h2.1 x hx)).1, hw24 _⟩, rfl⟩, fun h => absurd h hk1, Pa d, fun b hb => (N6.mp (h2.1 b hb)).2⟩
 ·rintro ⟨⟨h1, h2⟩, h3, h4, h5⟩
  refine ⟨h1, ?_⟩
  split at h2
  ·rename_i hk; rw [if_pos hk]; exact ⟨h2.1, h2.2.1, .inr (h3 hk)⟩
  ·rename_i hk1
   rw [if_neg hk1]
   split at h2
   ·rename_i hk; rw [if_pos hk]; exact h2
   ·rename_i hk2
    rw [if_neg hk2]
    split at h2
    ·rename_i hk; rw [if_pos hk]; exact ⟨h2.1, h4⟩
    ·rename_i hk3
     rw [if_neg hk3]
     split at h2
     ·rename_i hk; rw [if_pos hk]; exact ⟨h2.1, h4⟩
     ·rename_i hk4
      rw [if_neg hk4]
      exact ⟨fun x hx => N6.mpr ⟨(N6.mp (h2.1 x hx)).1, h5 x hx⟩, h2.2⟩
theorem A2p {k v d : Int} : ∀ {ts : List T} {i : Nat}, A2q k i ts v d ↔ ∀ j, j < ts.length → H0 (ts.getD j t0) (v + (binds k ((i + j : Nat) : Int)).1) (d + (binds k ((i + j : Nat) : Int)).2)
 | [], i => by simp [A2q]
 | t :: ts, i => by
  simp only [A2q, A2p (ts := ts) (i := i + 1)]
  constructor
  ·rintro ⟨h1, h2⟩ j hj
   cases j with
   | zero => simpa using h1
   | succ j => rw [List.getD_cons_succ, show i + (j + 1) = i + 1 + j by omega]; exact h2 j (by simpa using hj)
  ·intro h
   refine ⟨by simpa using h 0 D4, fun j hj => ?_⟩
   have := h (j + 1) (by simpa using hj)
   rw [List.getD_cons_succ, show i + (j + 1) = i + 1 + j by omega] at this
   exact this
theorem Uq {k v d : Int} : ∀ {ts : List T}, A2o k ts v d ↔ ∀ j, j < ts.length → H0 (ts.getD j t0) v (d + more k)
 | [] => by simp [A2o]
 | t :: ts => by
  simp only [A2o, Uq (ts := ts)]
  constructor
  ·rintro ⟨h1, h2⟩ j hj
   cases j with
   | zero => simpa using h1
   | succ j => rw [List.getD_cons_succ]; exact h2 j (by simpa using hj)
  ·intro h
   exact ⟨by simpa using h 0 D4, fun j hj => by have := h (j + 1) (by simpa using hj); rwa [List.getD_cons_succ] at this⟩
theorem A2r {k v d : Int} : ∀ {bs : List Br}, A2s k bs v d ↔ ∀ b, b ∈ bs → within b.B0 d = true ∧ A2o k b.kids v d
 | [] => by simp [A2s]
 | .mk f ks :: bs => by
  simp only [A2s, A2r (bs := bs), List.forall_mem_cons, Br.B0, Br.kids, and_assoc]
theorem Hv {t : T} {v d : Int} : H0 t v d ↔ A9s v d t.kind t.n t.r ∧ (∀ b, b ∈ t.sys → within b.B0 d = true) ∧ ∀ p, p ∈ parts t → H0 p.1 (v + p.2.1) (d + p.2.2) := by
 have h : H0 t v d ↔ A9s v d t.kind t.n t.r ∧ A2q t.kind 0 t.kids v d ∧ A2s t.kind t.sys v d := by
  obtain ⟨k, n, nm, r, ks, ss⟩ := t
  simp only [H0, T.kind, T.n, T.r, T.kids, T.sys]
 rw [h, A2p, A2r]
 constructor
 ·rintro ⟨h1, h2, h3⟩
  refine ⟨h1, fun b hb => (h3 b hb).1, fun p hp => ?_⟩
  rcases Ug hp with ⟨i, hi, rfl⟩ | ⟨s, k, hs, hk, rfl⟩
  ·have := h2 i hi; rw [Nat.zero_add] at this; exact this
  ·have := Uq.mp (h3 _ (Ae (d := Bi) hs)).2 k hk; simpa using this
 ·rintro ⟨h1, h2, h3⟩
  refine ⟨h1, fun j hj => ?_, fun b hb => ⟨h2 b hb, Uq.mpr fun k hk => ?_⟩⟩
  ·have := h3 _ (List.mem_of_getElem? (It t j hj)); rw [Nat.zero_add]; exact this
  ·obtain ⟨s, hs, e⟩ := List.mem_iff_getElem.mp hb
   have e2 : t.sys.getD s Bi = b := by rw [Cd (d := Bi) hs]; exact e
   have := h3 _ (List.mem_of_getElem? (Iq t s k hs (by rw [e2]; exact hk)))
   rw [e2] at this
   simpa using this
theorem A2n : ∀ (t : T) (v d : Int), 0 ≤ v → v + size t ≤ 9000000000000000000 → (Ol t v d true = true ↔ Ee t ∧ H0 t v d) := T.ind fun t ih v d h0 hb => by
 rw [B0g, B5y h0, Hv, Pl]
 have hown : Ii t (-1) 24 = true ↔ ∀ d' : Int, 24 ≤ d' → Ii t (-1) d' = true := by
  constructor
  ·intro h d' hd'
   obtain ⟨k, n, nm, r, ks, ss⟩ := t
   exact (Ku hd').mpr ((Ku A3).mp h)
  ·intro h; exact h 24 A3
 have key : ∀ p, p ∈ parts t → (Ol p.1 (IntKind.i64.wrap (v + if v < 0 then 0 else p.2.1)) (d + p.2.2) true = true ↔ Ee p.1 ∧ H0 p.1 (v + p.2.1) (d + p.2.2)) := fun p hp => by
  have h1 := Ue hp
  have h2 := Lj hp
  rw [if_neg A3, B9t (by unfold Aq; omega)]
  exact ih p hp _ _ A3 A3
 rw [hown]
 unfold A9s
 constructor
 ·rintro ⟨h1, ⟨h2, h3, h4, h5⟩, h6⟩
  exact ⟨⟨h2, fun p hp => ((key p hp).mp (h6 p hp)).1⟩, ⟨by simp at h1; omega, h3, h4⟩, h5, fun p hp => ((key p hp).mp (h6 p hp)).2⟩
 ·rintro ⟨⟨h2, h6⟩, ⟨h1, h3, h4⟩, h5, h7⟩
  exact ⟨by simp; omega, ⟨h2, h3, h4, h5⟩, fun p hp => (key p hp).mpr ⟨h6 p hp, h7 p hp⟩⟩
theorem Ri {t : T} {v d : Int} (hv : 0 ≤ v) (hb : v ≤ 1000000000000) : Cg t v d = 0 ↔ 0 ≤ d ∧ d ≤ 24 ∧ sized t = 0 ∧ Ee t ∧ H0 t v d := by
 rw [A5j]
 constructor
 ·rintro ⟨_, h2, h3, h4, h5⟩
  have := (Li.mp h4).2
  exact ⟨h2, h3, h4, (A2n t v d hv A3).mp h5⟩
 ·rintro ⟨h2, h3, h4, h5⟩
  have := (Li.mp h4).2
  exact ⟨hv, h2, h3, h4, (A2n t v d hv A3).mpr h5⟩
section
variable {C : Type} {A : Tr C}
end
section
variable {C : Type} {A : Tr C}
theorem B6s {α : Type} {d x : α} {l : List α} (h : x ∈ l) : ∃ i, i < l.length ∧ l.getD i d = x := by
 obtain ⟨i, hi, e⟩ := List.mem_iff_getElem.mp h
 exact ⟨i, hi, by rw [Cd (d := d) hi]; exact e⟩
theorem Bb {α β : Type} {x : Ak α} {k : α → Ak β} {e : Int} (h : x.bind k = .bad e) : x = .bad e ∨ ∃ a, x = .ok a ∧ k a = .bad e := by
 cases x with
 | ok a => exact .inr ⟨a, rfl, h⟩
 | bad e' => injection h with h; subst h; exact .inl rfl
theorem Wy {k : Int} {c : C} {e : Int} : ∀ {ts : List T} {i : Nat}, D6 A k i ts c = .bad e → ∃ j, j < ts.length ∧ (A.Mm c (binds k ((i + j : Nat) : Int)) = .bad e ∨ ∃ c', A.Mm c (binds k ((i + j : Nat) : Int)) = .ok c' ∧ Cj A (ts.getD j t0) c' = .bad e)
 | [], i, h => by rw [Eh] at h; cases h
 | t :: ts, i, h => by
  rw [Ec] at h
  rcases Bb h with h | ⟨c', h1, h⟩
  ·exact ⟨0, by simp, .inl (by simpa using h)⟩
  ·rcases Bb h with h | ⟨t', h2, h⟩
   ·exact ⟨0, by simp, .inr ⟨c', by simpa using h1, by simpa using h⟩⟩
   ·rcases Bb h with h | ⟨ts', h3, h⟩
    ·obtain ⟨j, hj, h4⟩ := Wy h
     refine ⟨j + 1, by simpa using hj, ?_⟩
     rw [List.getD_cons_succ, show i + (j + 1) = i + 1 + j by omega]; exact h4
    ·cases h
theorem Ww {k : Int} {c : C} {e : Int} : ∀ {ts : List T}, Ck A k ts c = .bad e → ∃ j, j < ts.length ∧ (A.Mm c (0, more k) = .bad e ∨ ∃ c', A.Mm c (0, more k) = .ok c' ∧ Cj A (ts.getD j t0) c' = .bad e)
 | [], h => by rw [F5] at h; cases h
 | t :: ts, h => by
  rw [Eb] at h
  rcases Bb h with h | ⟨c', h1, h⟩
  ·exact ⟨0, by simp, .inl h⟩
  ·rcases Bb h with h | ⟨t', h2, h⟩
   ·exact ⟨0, by simp, .inr ⟨c', h1, by simpa using h⟩⟩
   ·rcases Bb h with h | ⟨ts', h3, h⟩
    ·obtain ⟨j, hj, h4⟩ := Ww h
     exact ⟨j + 1, by simpa using hj, by rw [List.getD_cons_succ]; exact h4⟩
    ·cases h
theorem Rc {k : Int} {c : C} {e : Int} : ∀ {bs : List Br}, Cn A k bs c = .bad e → ∃ b, b ∈ bs ∧ (A.B0 c b.B0 = .bad e ∨ Ck A k b.kids c = .bad e)
 | [], h => by rw [E4] at h; cases h
 | b :: bs, h => by
  rw [Dt] at h
  rcases Bb h with h | ⟨o, h1, h⟩
  ·exact ⟨b, List.mem_cons_self, .inl h⟩
  ·cases o with
   | none => obtain ⟨x, hx, h⟩ := Rc h; exact ⟨x, List.mem_cons_of_mem _ hx, h⟩
   | some f' =>
    rcases Bb h with h | ⟨ks, h2, h⟩
    ·exact ⟨b, List.mem_cons_self, .inr h⟩
    ·rcases Bb h with h | ⟨us, h3, h⟩
     ·obtain ⟨x, hx, h⟩ := Rc h; exact ⟨x, List.mem_cons_of_mem _ hx, h⟩
     ·cases h
theorem A1a {t : T} {c : C} {e : Int} (h : Cj A t c = .bad e) : A.own c t.kind t.n t.name t.r = .bad e ∨ (∃ b, b ∈ t.sys ∧ A.B0 c b.B0 = .bad e) ∨ ∃ p, p ∈ parts t ∧ (A.Mm c p.2 = .bad e ∨ ∃ c', A.Mm c p.2 = .ok c' ∧ Cj A p.1 c' = .bad e) := by
 rw [Ft] at h
 rcases Bb h with h | ⟨o, h1, h⟩
 ·exact .inl h
 ·cases o with
  | inl u => cases h
  | inr p =>
   rcases Bb h with h | ⟨ks, h2, h⟩
   ·obtain ⟨j, hj, h3⟩ := Wy h
    rw [Nat.zero_add] at h3
    exact .inr (.inr ⟨_, List.mem_of_getElem? (It t j hj), h3⟩)
   ·rcases Bb h with h | ⟨ss, h3, h⟩
    ·obtain ⟨b, hb, h4⟩ := Rc h
     rcases h4 with h4 | h4
     ·exact .inr (.inl ⟨b, hb, h4⟩)
     ·obtain ⟨j, hj, h5⟩ := Ww h4
      obtain ⟨s, hs, e2⟩ := B6s (d := Bi) hb
      refine .inr (.inr ⟨_, List.mem_of_getElem? (Iq t s j hs (by rw [e2]; exact hj)), ?_⟩)
      rw [e2]; exact h5
    ·cases h
end
theorem B3a {l : List Cl} {i : Nat} : (L7 l).testBit i = true ↔ i < 24 ∧ ∃ c, c ∈ l ∧ (c.pos ||| c.neg).testBit i = true := by
 unfold L7
 rw [F6, Bool.and_eq_true, decide_eq_true_eq, A3q (fun c : Cl => c.pos ||| c.neg)]
 simp
theorem Wf {s : Nat} {f b : Int} (h : (Ah s f b).1 = 0) (i : Nat) (hi : (Ah s f b).2.testBit i = true) : ∃ j, j < 24 ∧ s.testBit j = true ∧ (((j : Int) < f ∧ i = j) ∨ (f ≤ (j : Int) ∨ 24 ≤ j) ∧ (i : Int) = j + b) := by
 obtain ⟨h0, h1, h2⟩ := Qj h i
 rw [h2, Bool.or_eq_true, Bool.and_eq_true, Bool.and_eq_true, decide_eq_true_eq, decide_eq_true_eq, F6, F6, Bool.and_eq_true, Bool.and_eq_true, decide_eq_true_eq, decide_eq_true_eq] at hi
 rcases hi with ⟨h3, h4, h5⟩ | ⟨h3, h4, h5⟩
 ·exact ⟨i, h4, h5, .inl ⟨by omega, rfl⟩⟩
 ·exact ⟨i - b.toNat, h4, h5, .inr ⟨by omega, by omega⟩⟩
theorem B2y {t : T} (h : Ee t) {b : Br} (hb : b ∈ t.sys) : A4 b.B0 = true := (Rw.mp (L4.mp h).2.2.2.2 b hb).2.1
theorem Y1 {t : T} (h : Ee t) {p : Part} (hp : p ∈ parts t) : Ee p.1 := (Pl.mp h).2 p hp
def vE (n : Int) : T := .mk 1 n ⟨#[]⟩ [] [] []
theorem B3y {t : T} {f b : Int} (hb : Aq b) (h : Tc t) : Tc (Bc t f b).2 := by
 refine guard_okT' (fun ha u hu => ?_)
 simp only [List.all_cons, List.all_nil, Bool.and_true, Bool.and_eq_true, decide_eq_true_eq] at ha
 exact A2z ⟨ha.2.1, A9j hb ha.2.1 ha.2.2⟩ h hu
theorem B8r {t : T} {f b : Int} (h : Tc t) : Tc (B9 t f b).2 := guard_okT' (fun _ u hu => A2z A3 h hu)
end Go.Hy
