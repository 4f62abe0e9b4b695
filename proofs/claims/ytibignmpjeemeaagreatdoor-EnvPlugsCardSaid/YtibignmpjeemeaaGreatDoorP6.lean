/- Contracts of this program's functions and the laws that they need. -/
import Derived.Test.YtibignmpjeemeaaGreatDoorP4
set_option linter.unusedVariables false
set_option linter.unusedSimpArgs false
set_option linter.unusedSectionVars false
namespace Go.Hy
open Go.Proofs Go.Proofs.Tryz
theorem sm_ {p q : Prop} (h : p) (e : p = q := by
 try (conv => lhs; simp only [sC, bne_iff_ne, beq_iff_eq, ne_eq])
 try rfl) : q := e ▸ h
class D7 (P : Program) (k : FuncId) (fn : outParam Func) : Prop where
 f : P.funcs[k]? = some fn
structure Av (p : Prop) : Prop where
 out : p
section
variable {P : Program} {f : FuncId} {R : Ending → World → Prop} {B : Cj} {n : Fz} {K : List Item} {σ : Nat → Value} {Γ Γ' : List Fact} {Ms : List Be}
theorem f_ {k : FuncId} {fn : Func} [h : D7 P k fn] : P.funcs[k]? = some fn := h.f
theorem Jm {fn : Func} {id : Nat} {ops : Array Oper} [h9 : D7 P f fn] (h : F0 P f R B n K ops (List.range ops.size) σ Γ Ms) : Fi P f R B n (.code (.region id ops false) :: K) σ Γ Ms := go_region ⟨_, h9.f⟩ rfl h
theorem Xi {Q : Program} [Tab Q] {g : FuncId} {S : Ending → World → Prop} {C : Cj} {m : Fz} {L : List Item} {ops : Array Oper} {i : Nat} {l : List Nat} {τ : Nat → Value} {Δ : List Fact} {Ns : List Be} {dst : Option Tmp} {op : Op} {ty : TypeId} {pos : String} {after : Array Edge} {e d : Nat} {want : Bool} {og : Oper} (ho : ops[i]? = some ⟨dst, op, ty, pos, after, some (e, want)⟩) (t : Bool) {p q : Prop} (kT : t = want → p → Fq Q g S C m L ops l (D0 dst op ty) (U0 τ d (.bool want)) Δ Ns) (kF : t = !want → q → F0 Q g S C m L ops l (Ao (U0 τ d (.bool !want)) dst undef) Δ Ns) (hog : ops[e]? = some og := by exact rfl) (hgd : og.dst = some d := by exact rfl) (ht : τ d = .bool t := by exact Aa) (e1 : (t = want) = p := by
 try (conv => lhs; simp only [sC, bne_iff_ne, beq_iff_eq, ne_eq])
 try rfl) (e2 : (t = !want) = q := by
 try (conv => lhs; simp only [Bool.not_true, Bool.not_false, sC, bne_iff_ne, beq_iff_eq, ne_eq])
 try rfl) (hd : Ag m dst = true := by rfl) : F0 Q g S C m L ops (i :: l) τ Δ Ns := qI ho hog hgd ht (fun h => kT h (e1 ▸ h)) (fun h => kF h (e2 ▸ h)) hd
theorem C5 {d : Nat} {x y : Code} (t : Bool) {p q : Prop} (kT : t = true → p → Fi P f R B n (.code x :: K) (U0 σ d (.bool true)) Γ Ms) (kF : t = false → q → Fi P f R B n (.code y :: K) (U0 σ d (.bool false)) Γ Ms) (hc : σ d = .bool t := by exact Aa) (e1 : (t = true) = p := by
 try (conv => lhs; simp only [sC, bne_iff_ne, beq_iff_eq, ne_eq])
 try rfl) (e2 : (t = false) = q := by
 try (conv => lhs; simp only [sC, bne_iff_ne, beq_iff_eq, ne_eq])
 try rfl) : Fi P f R B n (.code (.cond (.tmp d) x y) :: K) σ Γ Ms := A9 (fun h => kT h (e1 ▸ h)) (fun h => kF h (e2 ▸ h)) hc
theorem Dd {fn : Func} {c : Code} {m : Nat} {args : List Value} {pre : List Fact} {Ms0 : List Be} {X : Type} {val : X → Value} {N : X → List Fact} {Ms1 : X → List Be} [h9 : D7 P f fn] (hn : fn.ntmps = m) (h : ∀ B : Cj, (∀ b, B.S0 b ↔ Bq Ms0 b) → Fi P f (Ends B val N Ms1) B ⟨m, [], .normal⟩ [.code c] (fun t => args.getD t undef) pre Ms0) (hb : fn.body = some c := by exact rfl) (ha : args.length ≤ m := by exact Nat.le_of_ble_eq_true rfl) : Spec P f args.toArray pre Ms0 val N Ms1 := Ge h9.f hn hb ha h
theorem St.l9 {w : World} (hs : St B Γ Ms w) (h : ∀ F, F ∈ Γ' → F ∈ Γ := by simp +contextual) : St B Γ' Ms w := hs.less h
theorem St.l7 {w : World} (hs : St B Γ Ms w) (h : ∀ F, F ∈ ([] : List Fact) → F ∈ Γ := by simp) : St B [] Ms w := hs.less h
theorem St.l8 {w : World} (hs : St B Γ Ms w) (h : ∀ F, F ∈ Γ' → F ∈ Γ := by simp) : St B Γ' Ms w := hs.less h
end
section
variable {p q : Prop}
theorem Jd (k : p) (h : Av p → q := by intro h; refine E4l ?_; exact h.1) : q := h ⟨k⟩
theorem Kz (k : p) (h : Av p → q := by intro h; refine E0f ?_; exact h.1) : q := h ⟨k⟩
theorem zq2 (k : p) (h : Av p → q := by intro h; refine q0 rfl (D1g ?_); exact h.1) : q := h ⟨k⟩
theorem Ez (k : p) (h : Av p → q := by intro h; refine q0 rfl (G4 ?_); exact h.1) : q := h ⟨k⟩
theorem Ij (k : p) (h : Av p → q := by intro h; refine go_skip ?_; exact h.1) : q := h ⟨k⟩
theorem zq5 (k : p) (h : Av p → q := by intro h; refine qF rfl rfl rfl ?_; exact h.1) : q := h ⟨k⟩
theorem zq6 (k : p) (h : Av p → q := by intro h; refine q0 rfl (C5w ?_); exact h.1) : q := h ⟨k⟩
theorem zq7 (k : p) (h : Av p → q := by intro h; refine q0 rfl (E9t ?_); exact h.1) : q := h ⟨k⟩
theorem zq8 (k : p) (h : Av p → q := by intro h; refine q0 rfl (U2 ?_); exact h.1) : q := h ⟨k⟩
theorem zq9 (k : p) (h : Av p → q := by intro h; refine D2z ?_; exact h.1) : q := h ⟨k⟩
theorem Q5 (k : p) (h : Av p → q := by intro h; refine q0 rfl (E1a ?_); exact h.1) : q := h ⟨k⟩
theorem F1 (k : p) (h : Av p → q := by intro h; refine n0 rfl (C8r ?_); exact h.1) : q := h ⟨k⟩
theorem Ga (k : p) (h : Av p → q := by intro h; refine q0 rfl (Oo ?_); exact h.1) : q := h ⟨k⟩
theorem Uw (k : p) (h : Av p → q := by intro h; refine q0 rfl (E6u ?_); exact h.1) : q := h ⟨k⟩
theorem A4s (k : p) (h : Av p → q := by intro h; refine C0b ?_; exact h.1) : q := h ⟨k⟩
theorem D9t (k : p) (h : Av p → q := by intro h; refine q0 rfl (C2r ?_); exact h.1) : q := h ⟨k⟩
theorem A9f (k : p) (h : Av p → q := by intro h; refine q0 rfl (Ze ?_); exact h.1) : q := h ⟨k⟩
theorem H3 (k : p) (h : Av p → q := by intro h; refine D7a rfl ?_; exact h.1) : q := h ⟨k⟩
theorem D4x (k : p) (h : Av p → q := by intro h; refine q0 rfl (B4u ?_); exact h.1) : q := h ⟨k⟩
theorem K5 (k : p) (h : Av p → q := by intro h; refine q0 rfl (B4v ?_); exact h.1) : q := h ⟨k⟩
theorem A4r (k : p) (h : Av p → q := by intro h; refine nF rfl rfl rfl ?_; exact h.1) : q := h ⟨k⟩
theorem Xl (k : p) (h : Av p → q := by intro h; refine q0 rfl (D8t ?_); exact h.1) : q := h ⟨k⟩
theorem D9s (k : p) (h : Av p → q := by intro h; refine q0 rfl (Td ?_); exact h.1) : q := h ⟨k⟩
theorem J1 (k : p) (h : Av p → q := by intro h; refine q0 rfl (E6p ?_); exact h.1) : q := h ⟨k⟩
theorem Ty (k : p) (h : Av p → q := by intro h; refine NV.done ?_; exact h.1) : q := h ⟨k⟩
theorem Uv (k : p) (h : Av p → q := by intro h; refine n0 rfl (Tz ?_); exact h.1) : q := h ⟨k⟩
theorem D9r (k : p) (h : Av p → q := by intro h; refine n0 rfl (E5q ?_); exact h.1) : q := h ⟨k⟩
theorem C8i (k : p) (h : Av p → q := by intro h; refine D2y ?_; exact h.1) : q := h ⟨k⟩
theorem Q4 (k : p) (h : Av p → q := by intro h; refine n0 rfl (C8s ?_); exact h.1) : q := h ⟨k⟩
theorem L0 (k : p) (h : Av p → q := by intro h; refine q0 rfl (B9k ?_); exact h.1) : q := h ⟨k⟩
theorem D4w (k : p) (h : Av p → q := by intro h; refine n0 rfl (C8v ?_); exact h.1) : q := h ⟨k⟩
theorem E5m (k : p) (h : Av p → q := by intro h; refine n0 rfl (C4o ?_); exact h.1) : q := h ⟨k⟩
theorem Q3 (k : p) (h : Av p → q := by intro h; refine qT rfl rfl rfl (E1a ?_); exact h.1) : q := h ⟨k⟩
theorem A9e (k : p) (h : Av p → q := by intro h; refine q0 rfl (D8r ?_); exact h.1) : q := h ⟨k⟩
theorem C8h (k : p) (h : Av p → q := by intro h; refine nU rfl rfl rfl ?_; exact h.1) : q := h ⟨k⟩
theorem Mj (k : p) (h : Av p → q := by intro h; refine qT rfl rfl rfl (G4 ?_); exact h.1) : q := h ⟨k⟩
theorem Pb (k : p) (h : Av p → q := by intro h; refine q0 rfl (E6q ?_); exact h.1) : q := h ⟨k⟩
theorem D4v (k : p) (h : Av p → q := by intro h; refine q0 rfl (E6m ?_); exact h.1) : q := h ⟨k⟩
theorem Q2 (k : p) (h : Av p → q := by intro h; refine n0 rfl (E5s ?_); exact h.1) : q := h ⟨k⟩
theorem Rn (k : p) (h : Av p → q := by intro h; refine nT rfl rfl rfl (E5q ?_); exact h.1) : q := h ⟨k⟩
theorem B2o (k : p) (h : Av p → q := by intro h; refine n0 rfl (C1o ?_); exact h.1) : q := h ⟨k⟩
theorem Ru (k : p) (h : Av p → q := by intro h; refine q0 rfl (E0z ?_); exact h.1) : q := h ⟨k⟩
theorem Tx (k : p) (h : Av p → q := by intro h; refine q0 rfl (Dl ?_); exact h.1) : q := h ⟨k⟩
theorem Tw (k : p) (h : Av p → q := by intro h; refine q0 rfl (E6s ?_); exact h.1) : q := h ⟨k⟩
theorem Vl (k : p) (h : Av p → q := by intro h; refine qU rfl rfl rfl ?_; exact h.1) : q := h ⟨k⟩
theorem Vk (k : p) (h : Av p → q := by intro h; refine n0 rfl (C1n ?_); exact h.1) : q := h ⟨k⟩
theorem Vj (k : p) (h : Av p → q := by intro h; refine G4 ?_; exact h.1) : q := h ⟨k⟩
theorem A0n (k : p) (h : Av p → q := by intro h; refine nT rfl rfl rfl (C8r ?_); exact h.1) : q := h ⟨k⟩
theorem A9d (k : p) (h : Av p → q := by intro h; refine q0 rfl (E6t ?_); exact h.1) : q := h ⟨k⟩
theorem A9c (k : p) (h : Av p → q := by intro h; refine qT rfl rfl rfl (D1e ?_); exact h.1) : q := h ⟨k⟩
theorem A9b (k : p) (h : Av p → q := by intro h; refine qT rfl rfl rfl (D8r ?_); exact h.1) : q := h ⟨k⟩
theorem B2n (k : p) (h : Av p → q := by intro h; refine q0 rfl (D1e ?_); exact h.1) : q := h ⟨k⟩
theorem B2m (k : p) (h : Av p → q := by intro h; refine q0 rfl (A7n ?_); exact h.1) : q := h ⟨k⟩
theorem B2l (k : p) (h : Av p → q := by intro h; refine qT rfl rfl rfl (Ze ?_); exact h.1) : q := h ⟨k⟩
theorem B8a (k : p) (h : Av p → q := by intro h; refine qT rfl rfl rfl (D8v ?_); exact h.1) : q := h ⟨k⟩
theorem B7z (k : p) (h : Av p → q := by intro h; refine qT rfl rfl rfl (D8t ?_); exact h.1) : q := h ⟨k⟩
theorem B7y (k : p) (h : Av p → q := by intro h; refine nT rfl rfl rfl (C1n ?_); exact h.1) : q := h ⟨k⟩
theorem B7x (k : p) (h : Av p → q := by intro h; refine nT rfl rfl rfl (C1o ?_); exact h.1) : q := h ⟨k⟩
theorem B7w (k : p) (h : Av p → q := by intro h; refine q0 rfl (E6r ?_); exact h.1) : q := h ⟨k⟩
theorem C4k (k : p) (h : Av p → q := by intro h; refine q0 rfl (E6l ?_); exact h.1) : q := h ⟨k⟩
theorem C4j (k : p) (h : Av p → q := by intro h; refine qT rfl rfl rfl (C2r ?_); exact h.1) : q := h ⟨k⟩
theorem C4i (k : p) (h : Av p → q := by intro h; refine nT rfl rfl rfl (Tz ?_); exact h.1) : q := h ⟨k⟩
theorem C4h (k : p) (h : Av p → q := by intro h; refine q0 rfl (E6o ?_); exact h.1) : q := h ⟨k⟩
theorem Ax (k : p) (h : Av p → q := by intro h; refine Jd ?_; refine Jm ?_; exact h.1) : q := h ⟨k⟩
theorem Ct (k : p) (h : Av p → q := by intro h; refine zq2 ?_; refine Kz ?_; exact h.1) : q := h ⟨k⟩
theorem Fs (k : p) (h : Av p → q := by intro h; refine Ax ?_; refine Ez ?_; exact h.1) : q := h ⟨k⟩
theorem Lu (k : p) (h : Av p → q := by intro h; refine zq2 ?_; refine Ct ?_; exact h.1) : q := h ⟨k⟩
theorem Co (k : p) (h : Av p → q := by intro h; refine Ax ?_; refine Ct ?_; exact h.1) : q := h ⟨k⟩
theorem D4u (k : p) (h : Av p → q := by intro h; refine Ez ?_; refine Kz ?_; exact h.1) : q := h ⟨k⟩
theorem Ii (k : p) (h : Av p → q := by intro h; refine Jd ?_; refine Fs ?_; exact h.1) : q := h ⟨k⟩
theorem A4p (k : p) (h : Av p → q := by intro h; refine zq6 ?_; refine zq6 ?_; exact h.1) : q := h ⟨k⟩
theorem K4 (k : p) (h : Av p → q := by intro h; refine zq5 ?_; refine zq5 ?_; exact h.1) : q := h ⟨k⟩
theorem O8 (k : p) (h : Av p → q := by intro h; refine zq8 ?_; refine Q5 ?_; exact h.1) : q := h ⟨k⟩
theorem J0 (k : p) (h : Av p → q := by intro h; refine Ij ?_; refine Jd ?_; exact h.1) : q := h ⟨k⟩
theorem Vi (k : p) (h : Av p → q := by intro h; refine Kz ?_; refine Jd ?_; exact h.1) : q := h ⟨k⟩
theorem Ih (k : p) (h : Av p → q := by intro h; refine A4p ?_; refine Lu ?_; exact h.1) : q := h ⟨k⟩
theorem Ea (k : p) (h : Av p → q := by intro h; refine Jm ?_; refine Ez ?_; exact h.1) : q := h ⟨k⟩
theorem C8g (k : p) (h : Av p → q := by intro h; refine D4x ?_; refine Kz ?_; exact h.1) : q := h ⟨k⟩
theorem D9q (k : p) (h : Av p → q := by intro h; refine Jm ?_; refine Uw ?_; refine D4u ?_; exact h.1) : q := h ⟨k⟩
theorem A9a (k : p) (h : Av p → q := by intro h; refine A4s ?_; refine D9q ?_; exact h.1) : q := h ⟨k⟩
theorem Ep (k : p) (h : Av p → q := by intro h; refine zq7 ?_; refine Kz ?_; exact h.1) : q := h ⟨k⟩
theorem Zv (k : p) (h : Av p → q := by intro h; refine J0 ?_; refine zq9 ?_; exact h.1) : q := h ⟨k⟩
theorem Gl (k : p) (h : Av p → q := by intro h; refine Ax ?_; refine Lu ?_; exact h.1) : q := h ⟨k⟩
theorem Ek (k : p) (h : Av p → q := by intro h; refine Ax ?_; refine Xl ?_; refine Vi ?_; exact h.1) : q := h ⟨k⟩
theorem Hc (k : p) (h : Av p → q := by intro h; refine zq7 ?_; refine Ct ?_; exact h.1) : q := h ⟨k⟩
theorem D4t (k : p) (h : Av p → q := by intro h; refine D4u ?_; refine zq9 ?_; exact h.1) : q := h ⟨k⟩
theorem L6 (k : p) (h : Av p → q := by intro h; refine Ez ?_; refine Ih ?_; exact h.1) : q := h ⟨k⟩
theorem H2 (k : p) (h : Av p → q := by intro h; refine Fs ?_; refine Lu ?_; exact h.1) : q := h ⟨k⟩
theorem A8z (k : p) (h : Av p → q := by intro h; refine K5 ?_; refine D4t ?_; exact h.1) : q := h ⟨k⟩
theorem Xk (k : p) (h : Av p → q := by intro h; refine A9f ?_; refine Ct ?_; exact h.1) : q := h ⟨k⟩
theorem Hb (k : p) (h : Av p → q := by intro h; refine Ct ?_; refine Jd ?_; exact h.1) : q := h ⟨k⟩
theorem Iv (k : p) (h : Av p → q := by intro h; refine Ax ?_; refine O8 ?_; exact h.1) : q := h ⟨k⟩
theorem Fm (k : p) (h : Av p → q := by intro h; refine Ax ?_; refine Ga ?_; exact h.1) : q := h ⟨k⟩
theorem Xj (k : p) (h : Av p → q := by intro h; refine Fs ?_; refine Ez ?_; exact h.1) : q := h ⟨k⟩
theorem A4o (k : p) (h : Av p → q := by intro h; refine Ii ?_; refine C8g ?_; exact h.1) : q := h ⟨k⟩
theorem Iz (k : p) (h : Av p → q := by intro h; refine Uv ?_; refine D9r ?_; exact h.1) : q := h ⟨k⟩
theorem Uu (k : p) (h : Av p → q := by intro h; refine Ty ?_; refine Kz ?_; exact h.1) : q := h ⟨k⟩
theorem Hk (k : p) (h : Av p → q := by intro h; refine Ax ?_; refine Xk ?_; exact h.1) : q := h ⟨k⟩
theorem Mi (k : p) (h : Av p → q := by intro h; refine D9t ?_; refine Kz ?_; exact h.1) : q := h ⟨k⟩
theorem Tv (k : p) (h : Av p → q := by intro h; refine Fs ?_; refine C8g ?_; exact h.1) : q := h ⟨k⟩
theorem B2s (k : p) (h : Av p → q := by intro h; refine D9t ?_; refine Ez ?_; exact h.1) : q := h ⟨k⟩
theorem Jq (k : p) (h : Av p → q := by intro h; refine A4r ?_; refine A4r ?_; exact h.1) : q := h ⟨k⟩
theorem A5s (k : p) (h : Av p → q := by intro h; refine Ij ?_; refine C8i ?_; exact h.1) : q := h ⟨k⟩
theorem B2r (k : p) (h : Av p → q := by intro h; refine Ii ?_; refine A8z ?_; exact h.1) : q := h ⟨k⟩
theorem Ud (k : p) (h : Av p → q := by intro h; refine zq8 ?_; refine J1 ?_; exact h.1) : q := h ⟨k⟩
theorem Ng (k : p) (h : Av p → q := by intro h; refine A9f ?_; refine Kz ?_; exact h.1) : q := h ⟨k⟩
theorem Gs (k : p) (h : Av p → q := by intro h; refine Ez ?_; refine Ez ?_; exact h.1) : q := h ⟨k⟩
theorem Gr (k : p) (h : Av p → q := by intro h; refine Ij ?_; refine A9a ?_; exact h.1) : q := h ⟨k⟩
theorem Gq (k : p) (h : Av p → q := by intro h; refine Zv ?_; refine Ax ?_; exact h.1) : q := h ⟨k⟩
theorem Lx (k : p) (h : Av p → q := by intro h; refine B2s ?_; refine K4 ?_; exact h.1) : q := h ⟨k⟩
theorem Gp (k : p) (h : Av p → q := by intro h; refine L6 ?_; refine A4o ?_; exact h.1) : q := h ⟨k⟩
theorem H4 (k : p) (h : Av p → q := by intro h; refine Zv ?_; refine Jd ?_; exact h.1) : q := h ⟨k⟩
theorem Of (k : p) (h : Av p → q := by intro h; refine Ct ?_; refine A9a ?_; exact h.1) : q := h ⟨k⟩
theorem Hw (k : p) (h : Av p → q := by intro h; refine A5s ?_; refine Co ?_; exact h.1) : q := h ⟨k⟩
theorem Iu (k : p) (h : Av p → q := by intro h; refine D9t ?_; refine Ct ?_; exact h.1) : q := h ⟨k⟩
theorem It (k : p) (h : Av p → q := by intro h; refine D9s ?_; refine Ct ?_; exact h.1) : q := h ⟨k⟩
theorem Is (k : p) (h : Av p → q := by intro h; refine Jm ?_; refine O8 ?_; exact h.1) : q := h ⟨k⟩
theorem Ir (k : p) (h : Av p → q := by intro h; refine F1 ?_; refine F1 ?_; exact h.1) : q := h ⟨k⟩
theorem J5 (k : p) (h : Av p → q := by intro h; refine zq7 ?_; refine Vi ?_; exact h.1) : q := h ⟨k⟩
theorem J4 (k : p) (h : Av p → q := by intro h; refine Fs ?_; refine Ct ?_; exact h.1) : q := h ⟨k⟩
theorem J3 (k : p) (h : Av p → q := by intro h; refine D9s ?_; refine Ez ?_; exact h.1) : q := h ⟨k⟩
theorem J2 (k : p) (h : Av p → q := by intro h; refine D9s ?_; refine Kz ?_; exact h.1) : q := h ⟨k⟩
theorem Jp (k : p) (h : Av p → q := by intro h; refine K4 ?_; refine K4 ?_; exact h.1) : q := h ⟨k⟩
theorem Jo (k : p) (h : Av p → q := by intro h; refine Ax ?_; refine Ud ?_; exact h.1) : q := h ⟨k⟩
theorem K6 (k : p) (h : Av p → q := by intro h; refine Ij ?_; refine Xj ?_; exact h.1) : q := h ⟨k⟩
theorem L2 (k : p) (h : Av p → q := by intro h; refine Ez ?_; refine Hc ?_; exact h.1) : q := h ⟨k⟩
theorem L1 (k : p) (h : Av p → q := by intro h; refine Ez ?_; refine A4p ?_; exact h.1) : q := h ⟨k⟩
theorem Lw (k : p) (h : Av p → q := by intro h; refine A9e ?_; refine Kz ?_; exact h.1) : q := h ⟨k⟩
theorem B2q (k : p) (h : Av p → q := by intro h; refine D4v ?_; refine Kz ?_; exact h.1) : q := h ⟨k⟩
theorem Lv (k : p) (h : Av p → q := by intro h; refine Ct ?_; refine Tv ?_; exact h.1) : q := h ⟨k⟩
theorem Vr (k : p) (h : Av p → q := by intro h; refine D4w ?_; refine Uu ?_; exact h.1) : q := h ⟨k⟩
theorem Me (k : p) (h : Av p → q := by intro h; refine Iv ?_; refine A8z ?_; exact h.1) : q := h ⟨k⟩
theorem Nf (k : p) (h : Av p → q := by intro h; refine Co ?_; refine Fs ?_; exact h.1) : q := h ⟨k⟩
theorem C1k (k : p) (h : Av p → q := by intro h; refine Co ?_; refine Xj ?_; exact h.1) : q := h ⟨k⟩
theorem Nd (k : p) (h : Av p → q := by intro h; refine Ea ?_; refine Ez ?_; exact h.1) : q := h ⟨k⟩
theorem Oe (k : p) (h : Av p → q := by intro h; refine Ii ?_; refine Ng ?_; exact h.1) : q := h ⟨k⟩
theorem Od (k : p) (h : Av p → q := by intro h; refine Ct ?_; refine Ax ?_; exact h.1) : q := h ⟨k⟩
theorem Oc (k : p) (h : Av p → q := by intro h; refine Co ?_; refine B2r ?_; exact h.1) : q := h ⟨k⟩
theorem C8j (k : p) (h : Av p → q := by intro h; refine Ij ?_; refine Ea ?_; exact h.1) : q := h ⟨k⟩
theorem Ob (k : p) (h : Av p → q := by intro h; refine H3 ?_; refine H2 ?_; exact h.1) : q := h ⟨k⟩
theorem D8f (k : p) (h : Av p → q := by intro h; refine E5m ?_; refine E5m ?_; exact h.1) : q := h ⟨k⟩
theorem Pc (k : p) (h : Av p → q := by intro h; refine H3 ?_; refine Co ?_; exact h.1) : q := h ⟨k⟩
theorem B2p (k : p) (h : Av p → q := by intro h; refine F1 ?_; refine D8f ?_; exact h.1) : q := h ⟨k⟩
theorem D8e (k : p) (h : Av p → q := by intro h; refine zq8 ?_; refine B2q ?_; exact h.1) : q := h ⟨k⟩
theorem Rg (k : p) (h : Av p → q := by intro h; refine Ij ?_; refine A4s ?_; exact h.1) : q := h ⟨k⟩
theorem Rf (k : p) (h : Av p → q := by intro h; refine Uw ?_; refine Ct ?_; exact h.1) : q := h ⟨k⟩
theorem Re (k : p) (h : Av p → q := by intro h; refine Gl ?_; refine B2r ?_; exact h.1) : q := h ⟨k⟩
theorem Rc (k : p) (h : Av p → q := by intro h; refine C1k ?_; refine Lu ?_; exact h.1) : q := h ⟨k⟩
theorem Rb (k : p) (h : Av p → q := by intro h; refine C8j ?_; refine Of ?_; exact h.1) : q := h ⟨k⟩
theorem Ra (k : p) (h : Av p → q := by intro h; refine D8e ?_; refine A9a ?_; exact h.1) : q := h ⟨k⟩
theorem Rz (k : p) (h : Av p → q := by intro h; refine O8 ?_; refine Ez ?_; exact h.1) : q := h ⟨k⟩
theorem Ry (k : p) (h : Av p → q := by intro h; refine zq5 ?_; refine Lx ?_; exact h.1) : q := h ⟨k⟩
theorem Rx (k : p) (h : Av p → q := by intro h; refine Jq ?_; refine A4r ?_; exact h.1) : q := h ⟨k⟩
theorem Rw (k : p) (h : Av p → q := by intro h; refine C8h ?_; refine C8h ?_; exact h.1) : q := h ⟨k⟩
theorem Rv (k : p) (h : Av p → q := by intro h; refine zq7 ?_; refine Ep ?_; exact h.1) : q := h ⟨k⟩
theorem Uc (k : p) (h : Av p → q := by intro h; refine Jd ?_; refine Jd ?_; exact h.1) : q := h ⟨k⟩
theorem Ub (k : p) (h : Av p → q := by intro h; refine Fs ?_; refine Ga ?_; exact h.1) : q := h ⟨k⟩
theorem Ua (k : p) (h : Av p → q := by intro h; refine Hb ?_; refine Jd ?_; exact h.1) : q := h ⟨k⟩
theorem U9 (k : p) (h : Av p → q := by intro h; refine B2o ?_; refine Uu ?_; exact h.1) : q := h ⟨k⟩
theorem U8 (k : p) (h : Av p → q := by intro h; refine K4 ?_; refine zq5 ?_; exact h.1) : q := h ⟨k⟩
theorem U7 (k : p) (h : Av p → q := by intro h; refine zq5 ?_; refine Mi ?_; exact h.1) : q := h ⟨k⟩
theorem U6 (k : p) (h : Av p → q := by intro h; refine H3 ?_; refine Jd ?_; exact h.1) : q := h ⟨k⟩
theorem U5 (k : p) (h : Av p → q := by intro h; refine Iz ?_; refine Q4 ?_; exact h.1) : q := h ⟨k⟩
theorem Vq (k : p) (h : Av p → q := by intro h; refine Ij ?_; refine H3 ?_; refine Gl ?_; exact h.1) : q := h ⟨k⟩
theorem Vp (k : p) (h : Av p → q := by intro h; refine Ij ?_; refine Fs ?_; exact h.1) : q := h ⟨k⟩
theorem Vo (k : p) (h : Av p → q := by intro h; refine Vr ?_; refine A4o ?_; exact h.1) : q := h ⟨k⟩
theorem Vn (k : p) (h : Av p → q := by intro h; refine B2p ?_; refine D4w ?_; exact h.1) : q := h ⟨k⟩
theorem Vm (k : p) (h : Av p → q := by intro h; refine U2 ?_; refine Q3 ?_; exact h.1) : q := h ⟨k⟩
end
instance : D7 prog 13 f13 := ⟨func13⟩
instance : D7 prog 16 f16 := ⟨func16⟩
instance : D7 prog 18 f18 := ⟨func18⟩
instance : D7 prog 20 f20 := ⟨func20⟩
instance : D7 prog 21 f21 := ⟨func21⟩
instance : D7 prog 22 f22 := ⟨func22⟩
instance : D7 prog 23 f23 := ⟨func23⟩
instance : D7 prog 24 f24 := ⟨func24⟩
instance : D7 prog 31 f31 := ⟨func31⟩
instance : D7 prog 39 f39 := ⟨func39⟩
instance : D7 prog 41 f41 := ⟨func41⟩
instance : D7 prog 45 f45 := ⟨func45⟩
instance : D7 prog 46 f46 := ⟨func46⟩
instance : D7 prog 47 f47 := ⟨func47⟩
instance : D7 prog 48 f48 := ⟨func48⟩
instance : D7 prog 49 f49 := ⟨func49⟩
instance : D7 prog 50 f50 := ⟨func50⟩
instance : D7 prog 51 f51 := ⟨func51⟩
instance : D7 prog 52 f52 := ⟨func52⟩
instance : D7 prog 58 f58 := ⟨func58⟩
instance : D7 prog 59 f59 := ⟨func59⟩
instance : D7 prog 60 f60 := ⟨func60⟩
instance : D7 prog 61 f61 := ⟨func61⟩
instance : D7 prog 62 f62 := ⟨func62⟩
instance : D7 prog 63 f63 := ⟨func63⟩
instance : D7 prog 64 f64 := ⟨func64⟩
instance : D7 prog 65 f65 := ⟨func65⟩
instance : D7 prog 66 f66 := ⟨func66⟩
instance : D7 prog 70 f70 := ⟨func70⟩
instance : D7 prog 72 f72 := ⟨func72⟩
instance : D7 prog 76 f76 := ⟨func76⟩
instance : D7 prog 80 f80 := ⟨func80⟩
instance : D7 prog 81 f81 := ⟨func81⟩
instance : D7 prog 82 f82 := ⟨func82⟩
instance : D7 prog 83 f83 := ⟨func83⟩
instance : D7 prog 84 f84 := ⟨func84⟩
instance : D7 prog 85 f85 := ⟨func85⟩
instance : D7 prog 86 f86 := ⟨func86⟩
instance : D7 prog 87 f87 := ⟨func87⟩
instance : D7 prog 89 f89 := ⟨func89⟩
instance : D7 prog 90 f90 := ⟨func90⟩
instance : D7 prog 91 f91 := ⟨func91⟩
instance : D7 prog 92 f92 := ⟨func92⟩
instance : D7 prog 93 f93 := ⟨func93⟩
instance : D7 prog 94 f94 := ⟨func94⟩
instance : D7 prog 95 f95 := ⟨func95⟩
instance : D7 prog 96 f96 := ⟨func96⟩
instance : D7 prog 103 f103 := ⟨func103⟩
instance : D7 prog 104 f104 := ⟨func104⟩
instance : D7 prog 105 f105 := ⟨func105⟩
instance : D7 prog 106 f106 := ⟨func106⟩
instance : D7 prog 107 f107 := ⟨func107⟩
instance : D7 prog 108 f108 := ⟨func108⟩
instance : D7 prog 109 f109 := ⟨func109⟩
instance : D7 prog 110 f110 := ⟨func110⟩
instance : D7 prog 111 f111 := ⟨func111⟩
instance : D7 prog 112 f112 := ⟨func112⟩
instance : D7 prog 113 f113 := ⟨func113⟩
instance : D7 prog 114 f114 := ⟨func114⟩
instance : D7 prog 115 f115 := ⟨func115⟩
instance : D7 prog 116 f116 := ⟨func116⟩
instance : D7 prog 117 f117 := ⟨func117⟩
instance : D7 prog 118 f118 := ⟨func118⟩
instance : D7 prog 119 f119 := ⟨func119⟩
instance : D7 prog 120 f120 := ⟨func120⟩
instance : D7 prog 121 f121 := ⟨func121⟩
instance : D7 prog 122 f122 := ⟨func122⟩
instance : D7 prog 124 f124 := ⟨func124⟩
instance : D7 prog 139 f139 := ⟨func139⟩
instance : D7 prog 140 f140 := ⟨func140⟩
instance : D7 prog 151 f151 := ⟨func151⟩
instance : D7 prog 152 f152 := ⟨func152⟩
instance : D7 prog 153 f153 := ⟨func153⟩
instance : D7 prog 154 f154 := ⟨func154⟩
instance : D7 prog 155 f155 := ⟨func155⟩
instance : D7 prog 156 f156 := ⟨func156⟩
instance : D7 prog 157 f157 := ⟨func157⟩
instance : D7 prog 158 f158 := ⟨func158⟩
instance : D7 prog 159 f159 := ⟨func159⟩
instance : D7 prog 160 f160 := ⟨func160⟩
instance : D7 prog 161 f161 := ⟨func161⟩
instance : D7 prog 162 f162 := ⟨func162⟩
instance : D7 prog 163 f163 := ⟨func163⟩
instance : D7 prog 164 f164 := ⟨func164⟩
instance : D7 prog 165 f165 := ⟨func165⟩
instance : D7 prog 166 f166 := ⟨func166⟩
instance : D7 prog 167 f167 := ⟨func167⟩
instance : D7 prog 168 f168 := ⟨func168⟩
instance : D7 prog 169 f169 := ⟨func169⟩
instance : D7 prog 170 f170 := ⟨func170⟩
instance : D7 prog 171 f171 := ⟨func171⟩
instance : D7 prog 172 f172 := ⟨func172⟩
instance : D7 prog 173 f173 := ⟨func173⟩
instance : D7 prog 174 f174 := ⟨func174⟩
instance : D7 prog 175 f175 := ⟨func175⟩
instance : D7 prog 176 f176 := ⟨func176⟩
instance : D7 prog 177 f177 := ⟨func177⟩
instance : D7 prog 186 f186 := ⟨func186⟩
instance : D7 prog 187 f187 := ⟨func187⟩
instance : D7 prog 188 f188 := ⟨func188⟩
instance : D7 prog 189 f189 := ⟨func189⟩
instance : D7 prog 190 f190 := ⟨func190⟩
instance : D7 prog 191 f191 := ⟨func191⟩
instance : D7 prog 192 f192 := ⟨func192⟩
instance : D7 prog 193 f193 := ⟨func193⟩
instance : D7 prog 194 f194 := ⟨func194⟩
instance : D7 prog 195 f195 := ⟨func195⟩
instance : D7 prog 196 f196 := ⟨func196⟩
instance : D7 prog 197 f197 := ⟨func197⟩
instance : D7 prog 198 f198 := ⟨func198⟩
instance : D7 prog 199 f199 := ⟨func199⟩
instance : D7 prog 200 f200 := ⟨func200⟩
instance : D7 prog 203 f203 := ⟨func203⟩
instance : D7 prog 204 f204 := ⟨func204⟩
instance : D7 prog 205 f205 := ⟨func205⟩
instance : D7 prog 231 f231 := ⟨func231⟩
instance : D7 prog 232 f232 := ⟨func232⟩
instance : D7 prog 233 f233 := ⟨func233⟩
instance : D7 prog 234 f234 := ⟨func234⟩
instance : D7 prog 235 f235 := ⟨func235⟩
instance : D7 prog 236 f236 := ⟨func236⟩
instance : D7 prog 237 f237 := ⟨func237⟩
instance : D7 prog 238 f238 := ⟨func238⟩
instance : D7 prog 239 f239 := ⟨func239⟩
instance : D7 prog 240 f240 := ⟨func240⟩
instance : D7 prog 241 f241 := ⟨func241⟩
instance : D7 prog 242 f242 := ⟨func242⟩
instance : D7 prog 243 f243 := ⟨func243⟩
instance : D7 prog 244 f244 := ⟨func244⟩
instance : D7 prog 248 f248 := ⟨func248⟩
instance : D7 prog 249 f249 := ⟨func249⟩
instance : D7 prog 250 f250 := ⟨func250⟩
instance : D7 prog 251 f251 := ⟨func251⟩
instance : D7 prog 255 f255 := ⟨func255⟩
instance : D7 prog 256 f256 := ⟨func256⟩
instance : D7 prog 270 f270 := ⟨func270⟩
instance : D7 prog 271 f271 := ⟨func271⟩
instance : D7 prog 272 f272 := ⟨func272⟩
instance : D7 prog 273 f273 := ⟨func273⟩
instance : D7 prog 274 f274 := ⟨func274⟩
instance : D7 prog 275 f275 := ⟨func275⟩
instance : D7 prog 276 f276 := ⟨func276⟩
instance : D7 prog 277 f277 := ⟨func277⟩
instance : D7 prog 297 f297 := ⟨func297⟩
instance : D7 prog 298 f298 := ⟨func298⟩
set_option maxRecDepth 100000
theorem Lp (k i : Int) : Spec prog 62 #[iv k, iv i] [] [] (fun _ : Unit => .tuple #[iv (binds k i).1, iv (binds k i).2]) (fun _ => []) (fun _ => []) := by
 refine Dd ntmps62 fun B hB => ?_
 refine Gl ?_; refine Ii ?_; refine Kz ?_; refine zq9 ?_; refine Jd ?_; refine zq9 ?_; refine Jd ?_; refine zq9 ?_; refine zq9 ?_; refine zq9 ?_; refine Jd ?_; refine zq9 ?_; refine Uc ?_; refine Jd ?_; refine Hk ?_; refine A9 (fun h7 => ?_) (fun h7 => ?_)
 ·refine A5s ?_; refine H3 ?_; refine Oe ?_; refine A9 (fun h21 => ?_) (fun h21 => ?_)
  ·refine Gl ?_; refine Bd f_ rfl Aa Aa () (by simp_all [binds]) (fun w hs => hs.none)
  ·refine Vq ?_; refine Bd f_ rfl Aa Aa () (by simp_all [binds]) (fun w hs => hs.none)
 ·refine Jm ?_; refine Xk ?_; refine A9 (fun h7 => ?_) (fun h7 => ?_)
  ·refine H3 ?_; refine Oe ?_; refine A9 (fun h21 => ?_) (fun h21 => ?_)
   ·refine Gl ?_; refine Bd f_ rfl Aa Aa () (by simp_all [binds]) (fun w hs => hs.none)
   ·refine Vq ?_; refine Bd f_ rfl Aa Aa () (by simp_all [binds]) (fun w hs => hs.none)
  ·refine J0 ?_; refine Hk ?_; refine A9 (fun h10 => ?_) (fun h10 => ?_)
   ·refine H3 ?_; refine A4s ?_; refine A4s ?_; refine Oe ?_; refine A9 (fun h23 => ?_) (fun h23 => ?_)
    ·refine Gl ?_; refine Bd f_ rfl Aa Aa () (by simp_all [binds]) (fun w hs => hs.none)
    ·refine Vq ?_; refine Bd f_ rfl Aa Aa () (by simp_all [binds]) (fun w hs => hs.none)
   ·refine J0 ?_; refine Hk ?_; refine A9 (fun h12 => ?_) (fun h12 => ?_)
    ·refine H3 ?_; refine A4s ?_; refine Oe ?_; refine A9 (fun h23 => ?_) (fun h23 => ?_)
     ·refine Gl ?_; refine Bd f_ rfl Aa Aa () (by simp_all [binds]) (fun w hs => hs.none)
     ·refine Vq ?_; refine Bd f_ rfl Aa Aa () (by simp_all [binds]) (fun w hs => hs.none)
    ·refine J0 ?_; refine Hk ?_; refine A9 (fun h14 => ?_) (fun h14 => ?_)
     ·refine H3 ?_; refine Oe ?_; refine A9 (fun h23 => ?_) (fun h23 => ?_)
      ·refine Gl ?_; refine Bd f_ rfl Aa Aa () (by simp_all [binds]) (fun w hs => hs.none)
      ·refine Vq ?_; refine Bd f_ rfl Aa Aa () (by simp_all [binds]) (fun w hs => hs.none)
     ·refine J0 ?_; refine Hk ?_; refine A9 (fun h16 => ?_) (fun h16 => ?_)
      ·refine A5s ?_; refine H3 ?_; refine Oe ?_; refine A9 (fun h25 => ?_) (fun h25 => ?_)
       ·refine Gl ?_; refine Bd f_ rfl Aa Aa () (by simp_all [binds]) (fun w hs => hs.none)
       ·refine Vq ?_; refine Bd f_ rfl Aa Aa () (by simp_all [binds]) (fun w hs => hs.none)
      ·refine Hk ?_; refine A9 (fun h16 => ?_) (fun h16 => ?_)
       ·refine A5s ?_; refine H3 ?_; refine Oe ?_; refine A9 (fun h25 => ?_) (fun h25 => ?_)
        ·refine Gl ?_; refine Bd f_ rfl Aa Aa () (by simp_all [binds]) (fun w hs => hs.none)
        ·refine Vq ?_; refine Bd f_ rfl Aa Aa () (by simp_all [binds]) (fun w hs => hs.none)
       ·refine Jm ?_; refine Xk ?_; refine A9 (fun h16 => ?_) (fun h16 => ?_)
        ·refine H3 ?_; refine Oe ?_; refine A9 (fun h25 => ?_) (fun h25 => ?_)
         ·refine Gl ?_; refine Bd f_ rfl Aa Aa () (by simp_all [binds]) (fun w hs => hs.none)
         ·refine Vq ?_; refine Bd f_ rfl Aa Aa () (by simp_all [binds]) (fun w hs => hs.none)
        ·refine Vq ?_; refine Bd f_ rfl Aa Aa () (by simp_all [binds]) (fun w hs => hs.none)
theorem Yn (t : T) (vr vk vs : SH) (c : FuncId) (cap : List Value) (FΓ : List Fact) (SM SF : Nat → List Be) (β : Nat → Bool)
  (hc : ∀ (args : Array Value) (w : World), (callFunc c args).run prog w = .ok (.enter c args) w)
  (hcl : ∀ m k v d, (parts t)[m]? = some (k, v, d) → (∀ j, j < m → β j = true) → ∀ vr vk vs, Spec prog c (.agg (tc k vr vk vs).toArray :: iv v :: iv d :: cap).toArray (RT k vr vk vs :: FΓ) (SM m) (fun _ : Unit => .bool (β m)) (fun _ => []) (fun _ => if β m then SM (m + 1) else SF m)) :
  Spec prog 106 #[.agg (tc t vr vk vs).toArray, .func (.func c) #[] cap.toArray] (RT t vr vk vs :: FΓ) (SM 0) (fun _ : Unit => .bool (ff β (parts t).length == (parts t).length)) (fun _ => []) (fun _ => if ff β (parts t).length = (parts t).length then SM (parts t).length else SF (ff β (parts t).length)) := by
 refine Dd ntmps106 fun B hB => ?_
 refine go_open (fun hk hn hnm => ?_); refine B4 (ts := t.kids) (fun VR VK VS hl1 hA1 => ?_); refine Eg (bs := t.sys) (fun VF VK2 hl2 hA2 => ?_); have hpl := B0h t; refine Ax ?_; refine q0 rfl (B0 fun b2 => ?_); refine Hb ?_; refine Me ?_; refine Fg (X := Nat) (fun i => i ≤ t.kids.length ∧ ∀ j, j < i → β j = true) (fun i => [(1, .func (.func c) #[] cap.toArray), (2, pz b2), (15, sl vk t.kids.length), (16, iv (t.kids.length : Int)), (17, iv (i : Int))]) (fun i => TLx t.kids vk VR VK VS :: BLx t.sys vs VF VK2 :: RT t vr vk vs :: FΓ) (fun i => Ad b2 (tc t vr vk vs) 26 :: SM i) (fun i => t.kids.length - i) (0) (⟨Nat.zero_le _, fun j hj => by omega⟩) (by exact E1) ?_ ?_
 ·exact fun w hs => hs.l9
 ·intro i base0 ⟨hi, hβ⟩ next0; refine Ek ?_; refine A9 (fun h18 => ?_) (fun h18 => ?_)
  ·have hlt : i < t.kids.length := by have := of_decide_eq_true h18; omega
   obtain ⟨bk, o, hav⟩ := hA1 A4; refine Zv ?_; refine Fs ?_; refine Tx ?_; refine Pb ?_; refine q0 rfl (B3 fun b6 => ?_); refine zq2 ?_; refine J5 ?_; refine G6 i hlt ?_; refine Jm ?_; have hpk := Jv t i hlt; refine Rz ?_; refine q0 rfl (A0 call62 (Lp t.kind i) (fun x26 => ?_)); refine L6 ?_; refine Ub ?_; refine Gs ?_; refine q0 rfl (Ca hc (hcl i _ _ _ hpk hβ _ _ _) (fun x33 => ?_)); refine Lw ?_; refine A9 (fun h34 => ?_) (fun h34 => ?_)
   ·have hβf : β i = false := by simpa using h34
    refine Co ?_; have hff := B1j hβf hβ (n := (parts t).length) A4; refine Au f_ rfl Aa () (by simp [hff]; omega) (fun w hs => by rw [hff, if_neg A4]; simp only [hβf, Bool.false_eq_true, if_false] at hs; exact (hs.l8).Ba)
   ·refine Gr ?_; have hβt : β i = true := by simpa using h34
    refine A1 (fun w hs => ?_) (next0 (i + 1) _ ⟨hlt, fun j hj => (by rcases Nat.lt_succ_iff_lt_or_eq.mp hj with h | h; exact hβ j h; subst h; exact hβt)⟩ A4 E1); simp only [hβt, if_true] at hs; exact ((hs.l9).perm List.perm_append_comm).drop
  ·have hge : i = t.kids.length := by have := of_decide_eq_false h18; omega
   refine Pc ?_; refine Jd ?_; refine Iv ?_; refine Ng ?_; refine Cb ([(1, .func (.func c) #[] cap.toArray), (2, pz b2), (9, iv (more t.kind))]) (fun hK => ?_) (fun base => ?_)
   ·refine A9 (fun h38 => ?_) (fun h38 => ?_)
    ·refine Jm ?_; refine Ct ?_; exact hK _ ⟨rfl, rfl, by first | (rw [more, if_pos (of_decide_eq_true h38)]; rfl) | (rw [more, if_neg (of_decide_eq_false h38)]; rfl), trivial⟩
    ·refine Ij ?_; exact hK _ ⟨rfl, rfl, by first | (rw [more, if_pos (of_decide_eq_true h38)]; rfl) | (rw [more, if_neg (of_decide_eq_false h38)]; rfl), trivial⟩
   ·refine Jd ?_; refine Me ?_; refine Fg (X := Nat) (fun i2 => i2 ≤ t.sys.length ∧ ∀ j, j < t.kids.length + By i2 t.sys → β j = true) (fun i2 => [(1, .func (.func c) #[] cap.toArray), (9, iv (more t.kind)), (40, sl vs t.sys.length), (41, iv (t.sys.length : Int)), (42, iv (i2 : Int))]) (fun i2 => BLx t.sys vs VF VK2 :: FΓ) (fun i2 => SM (t.kids.length + By i2 t.sys)) (fun i2 => t.sys.length - i2) (0) (⟨Nat.zero_le _, fun j hj => hβ j (by simp [By] at hj; omega)⟩) (by exact E1) ?_ ?_
    ·exact fun w hs => (by simpa [By, show i = t.kids.length by omega] using (hs.drop.less (Γ' := BLx t.sys vs VF VK2 :: FΓ) sx_))
    ·intro i2 base1 ⟨hi2, hβ2⟩ next1; refine Ek ?_; refine A9 (fun h43 => ?_) (fun h43 => ?_)
     ·have hlt2 : i2 < t.sys.length := by have := of_decide_eq_true h43; omega
      obtain ⟨bk2, o2, hav2⟩ := hA2 A4; refine Gq ?_; refine Tx ?_; refine A9d ?_; refine q0 rfl (B3 fun b11 => ?_); refine Ep ?_; refine Me ?_; refine G9 i2 A4 ?_; refine B4 (ts := (t.sys.getD i2 Bj).kids) (fun VR3 VK3 VS3 hl3 hA3 => ?_); refine Fg (X := Nat) (fun j => j ≤ (t.sys.getD i2 Bj).kids.length ∧ ∀ m, m < t.kids.length + By i2 t.sys + j → β m = true) (fun j => [(1, .func (.func c) #[] cap.toArray), (9, iv (more t.kind)), (40, sl vs t.sys.length), (41, iv (t.sys.length : Int)), (42, iv ((i2 : Nat) : Int)), (47, sl (VK2 i2) (t.sys.getD i2 Bj).kids.length), (48, iv ((t.sys.getD i2 Bj).kids.length : Int)), (49, iv (j : Int))]) (fun j => TLx (t.sys.getD i2 Bj).kids (VK2 i2) VR3 VK3 VS3 :: BLx t.sys vs VF VK2 :: FΓ) (fun j => SM (t.kids.length + By i2 t.sys + j)) (fun j => (t.sys.getD i2 Bj).kids.length - j) (0) (⟨Nat.zero_le _, hβ2⟩) (by exact E1) ?_ ?_
      ·exact fun w hs => (hs.l9).drop
      ·intro j base2 ⟨hj, hβ3⟩ next2; refine Ek ?_; refine A9 (fun h50 => ?_) (fun h50 => ?_)
       ·have hlt3 : j < (t.sys.getD i2 Bj).kids.length := by have := of_decide_eq_true h50; omega
        obtain ⟨bk3, o3, hav3⟩ := hA3 A4; have hps := Jt t i2 j hlt2 hlt3; refine G6 j hlt3 ?_; refine Gq ?_; refine Tx ?_; refine Pb ?_; refine q0 rfl (B3 fun b13 => ?_); refine Ep ?_; refine Ub ?_; refine Ez ?_; refine q0 rfl (Ca hc (hcl _ _ _ _ hps hβ3 _ _ _) (fun x56 => ?_)); refine Lw ?_; refine A9 (fun h57 => ?_) (fun h57 => ?_)
        ·have hβf : β (t.kids.length + By i2 t.sys + j) = false := by simpa using h57
         refine Co ?_; have hbd := A9l hlt2 hlt3; have hff := B1j hβf hβ3 (n := (parts t).length) A4; refine Au f_ rfl Aa () (by simp [hff]; omega) (fun w hs => by rw [hff, if_neg A4]; simp only [hβf, Bool.false_eq_true, if_false] at hs; exact (hs.l8).Ba)
        ·refine Gr ?_; have hβt : β (t.kids.length + By i2 t.sys + j) = true := by simpa using h57
         refine A1 (fun w hs => ?_) (next2 (j + 1) _ ⟨hlt3, fun j2 hj2 => (by rcases Nat.lt_succ_iff_lt_or_eq.mp hj2 with h | h; exact hβ3 j2 h; subst h; exact hβt)⟩ A4 E1); simp only [hβt, if_true] at hs; exact (hs.l9).Ba
       ·have hge3 : j = (t.sys.getD i2 Bj).kids.length := by have := of_decide_eq_false h50; omega
        refine H3 ?_; refine A9a ?_; refine A1 (fun w hs => ?_) (next1 (i2 + 1) _ ⟨hlt2, by rw [Nl i2 t.sys hlt2]; rw [hge3] at hβ3; simpa [Nat.add_assoc] using hβ3⟩ A4 E1); rw [hge3] at hs; simp only [Nl i2 t.sys hlt2, ← Nat.add_assoc]; exact hs.l9
     ·refine Pc ?_; have hie : i2 = t.sys.length := by have := of_decide_eq_false h43; omega
      have hff := A3k (β := β) (n := (parts t).length) (by rw [hpl, ← hie]; exact hβ2); refine Au f_ rfl Aa () (by simp [hff]) (fun w hs => by rw [hff, if_pos rfl, hpl, ← hie]; exact hs.l8)
theorem C6l (k : Int) : Spec prog 189 #[iv k] [] [] (fun _ : Unit => iv (En k)) (fun _ => []) (fun _ => []) := by
 refine Dd ntmps189 fun B hB => ?_
 refine Co ?_; refine Ii ?_; refine Kz ?_; refine zq9 ?_; refine Jd ?_; refine Hk ?_; refine A9 (fun h4 => ?_) (fun h4 => ?_)
 ·refine Hw ?_; refine Au f_ rfl Aa () (by simp_all [En]) (fun w hs => hs.none)
 ·refine Hk ?_; refine A9 (fun h4 => ?_) (fun h4 => ?_)
  ·refine Hw ?_; refine Au f_ rfl Aa () (by simp_all [En]) (fun w hs => hs.none)
  ·refine Hk ?_; refine A9 (fun h4 => ?_) (fun h4 => ?_)
   ·refine Hw ?_; refine Au f_ rfl Aa () (by simp_all [En]) (fun w hs => hs.none)
   ·refine Hk ?_; refine A9 (fun h4 => ?_) (fun h4 => ?_)
    ·refine Hw ?_; refine Au f_ rfl Aa () (by simp_all [En]) (fun w hs => hs.none)
    ·refine Hk ?_; refine A9 (fun h4 => ?_) (fun h4 => ?_)
     ·refine Hw ?_; refine Au f_ rfl Aa () (by simp_all [En]) (fun w hs => hs.none)
     ·refine Hk ?_; refine A9 (fun h4 => ?_) (fun h4 => ?_)
      ·refine Hw ?_; refine Au f_ rfl Aa () (by simp_all [En]) (fun w hs => hs.none)
      ·refine Hk ?_; refine A9 (fun h4 => ?_) (fun h4 => ?_)
       ·refine Hw ?_; refine Au f_ rfl Aa () (by simp_all [En]) (fun w hs => hs.none)
       ·refine Jm ?_; refine Xk ?_; refine A9 (fun h4 => ?_) (fun h4 => ?_)
        ·refine Co ?_; refine Au f_ rfl Aa () (by simp_all [En]) (fun w hs => hs.none)
        ·refine Jd ?_; refine Hk ?_; refine A9 (fun h13 => ?_) (fun h13 => ?_)
         ·refine Hw ?_; refine Au f_ rfl Aa () (by simp_all [En]) (fun w hs => hs.none)
         ·refine Hk ?_; refine A9 (fun h13 => ?_) (fun h13 => ?_)
          ·refine Hw ?_; refine Au f_ rfl Aa () (by simp_all [En]) (fun w hs => hs.none)
          ·refine Hk ?_; refine A9 (fun h13 => ?_) (fun h13 => ?_)
           ·refine Hw ?_; refine Au f_ rfl Aa () (by simp_all [En]) (fun w hs => hs.none)
           ·refine Hk ?_; refine A9 (fun h13 => ?_) (fun h13 => ?_)
            ·refine Hw ?_; refine Au f_ rfl Aa () (by simp_all [En]) (fun w hs => hs.none)
            ·refine Hk ?_; refine A9 (fun h13 => ?_) (fun h13 => ?_)
             ·refine Hw ?_; refine Au f_ rfl Aa () (by simp_all [En]) (fun w hs => hs.none)
             ·refine Hk ?_; refine A9 (fun h13 => ?_) (fun h13 => ?_)
              ·refine Hw ?_; refine Au f_ rfl Aa () (by simp_all [En]) (fun w hs => hs.none)
              ·refine Hk ?_; refine A9 (fun h13 => ?_) (fun h13 => ?_)
               ·refine Hw ?_; refine Au f_ rfl Aa () (by simp_all [En]) (fun w hs => hs.none)
               ·refine Hk ?_; refine A9 (fun h13 => ?_) (fun h13 => ?_)
                ·refine Hw ?_; refine Au f_ rfl Aa () (by simp_all [En]) (fun w hs => hs.none)
                ·refine Jm ?_; refine Xk ?_; refine A9 (fun h13 => ?_) (fun h13 => ?_)
                 ·refine Co ?_; refine Au f_ rfl Aa () (by simp_all [En]) (fun w hs => hs.none)
                 ·refine Jd ?_; refine Hk ?_; refine A9 (fun h23 => ?_) (fun h23 => ?_)
                  ·refine Hw ?_; refine Au f_ rfl Aa () (by simp_all [En]) (fun w hs => hs.none)
                  ·refine Hk ?_; refine A9 (fun h23 => ?_) (fun h23 => ?_)
                   ·refine Hw ?_; refine Au f_ rfl Aa () (by simp_all [En]) (fun w hs => hs.none)
                   ·refine Hk ?_; refine A9 (fun h23 => ?_) (fun h23 => ?_)
                    ·refine Hw ?_; refine Au f_ rfl Aa () (by simp_all [En]) (fun w hs => hs.none)
                    ·refine Hk ?_; refine A9 (fun h23 => ?_) (fun h23 => ?_)
                     ·refine Hw ?_; refine Au f_ rfl Aa () (by simp_all [En]) (fun w hs => hs.none)
                     ·refine Hk ?_; refine A9 (fun h23 => ?_) (fun h23 => ?_)
                      ·refine Hw ?_; refine Au f_ rfl Aa () (by simp_all [En]) (fun w hs => hs.none)
                      ·refine Hk ?_; refine A9 (fun h23 => ?_) (fun h23 => ?_)
                       ·refine Hw ?_; refine Au f_ rfl Aa () (by simp_all [En]) (fun w hs => hs.none)
                       ·refine Jm ?_; refine Xk ?_; refine A9 (fun h23 => ?_) (fun h23 => ?_)
                        ·refine Co ?_; refine Au f_ rfl Aa () (by simp_all [En]) (fun w hs => hs.none)
                        ·refine Jd ?_; refine Hk ?_; refine A9 (fun h31 => ?_) (fun h31 => ?_)
                         ·refine Hw ?_; refine Au f_ rfl Aa () (by simp_all [En]) (fun w hs => hs.none)
                         ·refine Jm ?_; refine Xk ?_; refine A9 (fun h31 => ?_) (fun h31 => ?_)
                          ·refine Co ?_; refine Au f_ rfl Aa () (by simp_all [En]) (fun w hs => hs.none)
                          ·refine Hk ?_; refine A9 (fun h34 => ?_) (fun h34 => ?_)
                           ·refine Co ?_; refine Au f_ rfl Aa () (by simp_all [En]) (fun w hs => hs.none)
                           ·refine Hk ?_; refine A9 (fun h36 => ?_) (fun h36 => ?_)
                            ·refine Co ?_; refine Au f_ rfl Aa () (by simp_all [En]) (fun w hs => hs.none)
                            ·refine Rg ?_; refine Co ?_; refine Au f_ rfl Aa () (by simp_all [En]) (fun w hs => hs.none)
theorem Nt (k : Int) : Spec prog 190 #[iv k] [] [] (fun _ : Unit => iv (Fc k)) (fun _ => []) (fun _ => []) := by
 refine Dd ntmps190 fun B hB => ?_
 refine Co ?_; refine Ii ?_; refine Kz ?_; refine zq9 ?_; refine Jd ?_; refine Hk ?_; refine A9 (fun h4 => ?_) (fun h4 => ?_)
 ·refine Hw ?_; refine Au f_ rfl Aa () (by simp_all [Fc]) (fun w hs => hs.none)
 ·refine Hk ?_; refine A9 (fun h4 => ?_) (fun h4 => ?_)
  ·refine Hw ?_; refine Au f_ rfl Aa () (by simp_all [Fc]) (fun w hs => hs.none)
  ·refine Jm ?_; refine Xk ?_; refine A9 (fun h4 => ?_) (fun h4 => ?_)
   ·refine Co ?_; refine Au f_ rfl Aa () (by simp_all [Fc]) (fun w hs => hs.none)
   ·refine Hk ?_; refine A9 (fun h8 => ?_) (fun h8 => ?_)
    ·refine Co ?_; refine Au f_ rfl Aa () (by simp_all [Fc]) (fun w hs => hs.none)
    ·refine Rg ?_; refine Co ?_; refine Au f_ rfl Aa () (by simp_all [Fc]) (fun w hs => hs.none)
theorem B6t (t : T) (vr vk vs : SH) (c : FuncId) (cap : List Value) (FΓ : List Fact) (SM : Nat → List Be)
  (hc : ∀ (args : Array Value) (w : World), (callFunc c args).run prog w = .ok (.enter c args) w)
  (hcl : ∀ m k v d, (parts t)[m]? = some (k, v, d) → ∀ vr vk vs, Spec prog c (.agg (tc k vr vk vs).toArray :: iv v :: iv d :: cap).toArray (RT k vr vk vs :: FΓ) (SM m) (fun _ : Unit => .bool true) (fun _ => []) (fun _ => SM (m + 1))) :
  Spec prog 106 #[.agg (tc t vr vk vs).toArray, .func (.func c) #[] cap.toArray] (RT t vr vk vs :: FΓ) (SM 0) (fun _ : Unit => .bool true) (fun _ => []) (fun _ => SM (parts t).length) := by
 have h := Yn t vr vk vs c cap FΓ SM SM (fun _ => true) hc (fun m k v d hm _ vr vk vs => by simpa using hcl m k v d hm vr vk vs); have hf : ∀ n, ff (fun _ => true) n = n := fun n => A3k (fun _ _ => rfl)
 simpa [hf] using h
theorem Int.ofNat_max' (a b : Nat) : ((max a b : Nat) : Int) = if (b : Int) > (a : Int) then (b : Int) else (a : Int) := by
 split <;> omega
theorem B8i (k : T) (vr vk vs : SH) (b a : Nat) (v d : Int) (ha : a + size k ≤ 1152921504606846976) (ih : ∀ vr vk vs, Spec prog 80 #[.agg (tc k vr vk vs).toArray] [RT k vr vk vs] [] (fun _ : Unit => iv (size k : Int)) (fun _ => []) (fun _ => [])) : Spec prog 151 #[.agg (tc k vr vk vs).toArray, iv v, iv d, pz b] [RT k vr vk vs] [Ad b [iv (a : Int)] 3] (fun _ : Unit => .bool true) (fun _ => []) (fun _ => [Ad b [iv ((a + size k : Nat) : Int)] 3]) := by
 refine Dd ntmps151 fun B hB => ?_
 refine Ax ?_; refine q0 rfl (B0 fun b4 => ?_); refine Hb ?_; refine Bk (pn := 1000000) (tn := false) (A := [0, 0, 2, 7, 15]) (l := [0, 1, 2, 3]) (fin := [4]) Tab.mixed ⟨_, func151⟩ (by rfl) ?_; refine D9r ?_; refine Q4 ?_; refine n0 rfl (B7 call80 (ih vr vk vs) (fun x10 => ?_)); refine Q2 ?_; refine Ty ?_; refine B2q ?_; refine Co ?_; refine Au f_ rfl Aa () rfl (fun w hs => (hs.l8).Ba (A := [_]))
theorem C5a (t : T) (vr vk vs : SH) (hsz : size t ≤ 1152921504606846976) (ih : ∀ p, p ∈ parts t → size p.1 ≤ 1152921504606846976 → ∀ vr vk vs, Spec prog 80 #[.agg (tc p.1 vr vk vs).toArray] [RT p.1 vr vk vs] [] (fun _ : Unit => iv (size p.1 : Int)) (fun _ => []) (fun _ => [])) : Spec prog 80 #[.agg (tc t vr vk vs).toArray] [RT t vr vk vs] [] (fun _ : Unit => iv (size t : Int)) (fun _ => []) (fun _ => []) := by
 refine Dd ntmps80 fun B hB => ?_
 have hds := Ht t; have hdu := Io t (parts t).length; refine Ax ?_; refine q0 rfl (B0 fun b1 => ?_); refine Od ?_; refine q0 rfl (B3 fun b3 => ?_); refine Ep ?_; refine Fm ?_; refine L0 ?_; have hE := B6t t vr vk vs 151 [pz b3] [] (fun m => [Ad b3 [iv (Ce t m : Int)] 3]) call151 (fun m k v d hm vr vk vs => (by have hx := Xz hm; have hy := Ht k; have hz := Io t m; have := B8i k vr vk vs b3 (Ce t m) v d (by simp only at hx; omega) (ih _ (Ju hm) A4); simpa only [Lr hm] using this)); simp only [Lq, Kd] at hE; refine q0 rfl (A0 call106 (hE) (fun x6 => ?_)); refine Kz ?_; refine Ax ?_; refine Q5 ?_; refine Ct ?_; refine Au f_ rfl Aa () rfl (fun w hs => hs.none)
theorem A6p : ∀ (t : T), size t ≤ 1152921504606846976 → ∀ vr vk vs, Spec prog 80 #[.agg (tc t vr vk vs).toArray] [RT t vr vk vs] [] (fun _ : Unit => iv (size t : Int)) (fun _ => []) (fun _ => []) :=
 T.ind fun t ih hsz vr vk vs => C5a t vr vk vs hsz ih
theorem B6v (k : T) (vr vk vs : SH) (b a : Nat) (v d : Int) (ih : ∀ vr vk vs, Spec prog 84 #[.agg (tc k vr vk vs).toArray] [RT k vr vk vs] [] (fun _ : Unit => iv (depth k : Int)) (fun _ => []) (fun _ => [])) : Spec prog 154 #[.agg (tc k vr vk vs).toArray, iv v, iv d, pz b] [RT k vr vk vs] [Ad b [iv (a : Int)] 3] (fun _ : Unit => .bool true) (fun _ => []) (fun _ => [Ad b [iv ((max a (depth k) : Nat) : Int)] 3]) := by
 refine Dd ntmps154 fun B hB => ?_
 refine Ax ?_; refine q0 rfl (B0 fun b4 => ?_); refine Hb ?_; refine Bk (pn := 1000000) (tn := false) (A := [0, 0, 2, 7, 15]) (l := [0, 1, 2, 3]) (fin := [4]) Tab.mixed ⟨_, func154⟩ (by rfl) ?_; refine D9r ?_; refine Q4 ?_; refine n0 rfl (B7 call84 (ih vr vk vs) (fun x10 => ?_)); refine n0 rfl (E5p ?_); refine Ty ?_; refine B2q ?_; refine Co ?_; refine Au f_ rfl Aa () rfl (fun w hs => by rw [Int.ofNat_max']; exact (hs.l8).Ba (A := [_]))
theorem C0m (t : T) (vr vk vs : SH) (hsz : size t ≤ 1152921504606846976) (ih : ∀ p, p ∈ parts t → size p.1 ≤ 1152921504606846976 → ∀ vr vk vs, Spec prog 84 #[.agg (tc p.1 vr vk vs).toArray] [RT p.1 vr vk vs] [] (fun _ : Unit => iv (depth p.1 : Int)) (fun _ => []) (fun _ => [])) : Spec prog 84 #[.agg (tc t vr vk vs).toArray] [RT t vr vk vs] [] (fun _ : Unit => iv (depth t : Int)) (fun _ => []) (fun _ => []) := by
 refine Dd ntmps84 fun B hB => ?_
 have hds := Ht t; have hdu := Io t (parts t).length; refine Ax ?_; refine q0 rfl (B0 fun b1 => ?_); refine Od ?_; refine q0 rfl (B3 fun b3 => ?_); refine Ep ?_; refine Fm ?_; refine L0 ?_; have hE := B6t t vr vk vs 154 [pz b3] [] (fun m => [Ad b3 [iv (Gz t m : Int)] 3]) call154 (fun m k v d hm vr vk vs => (by have hx := Xz hm; have hy := Ht k; have hz := Io t m; have := B6v k vr vk vs b3 (Gz t m) v d (ih _ (Ju hm) A4); simpa only [O4 hm] using this)); simp only [A3s] at hE; refine q0 rfl (A0 call106 (hE) (fun x6 => ?_)); refine Kz ?_; refine Ax ?_; refine Q5 ?_; refine Rf ?_; refine Au f_ rfl Aa () (by rw [← Ur t]; rfl) (fun w hs => hs.none)
theorem C0n : ∀ (t : T), size t ≤ 1152921504606846976 → ∀ vr vk vs, Spec prog 84 #[.agg (tc t vr vk vs).toArray] [RT t vr vk vs] [] (fun _ : Unit => iv (depth t : Int)) (fun _ => []) (fun _ => []) :=
 T.ind fun t ih hsz vr vk vs => C0m t vr vk vs hsz ih
theorem A8f (t : T) (vr vk vs : SH) (c : FuncId) (cap : List Value) (FΓ : List Fact) (M : List Be) (g : Part → Bool)
  (hc : ∀ (args : Array Value) (w : World), (callFunc c args).run prog w = .ok (.enter c args) w)
  (hcl : ∀ k v d, (k, v, d) ∈ parts t → ∀ vr vk vs, Spec prog c (.agg (tc k vr vk vs).toArray :: iv v :: iv d :: cap).toArray (RT k vr vk vs :: FΓ) M (fun _ : Unit => .bool (g (k, v, d))) (fun _ => []) (fun _ => M)) :
  Spec prog 106 #[.agg (tc t vr vk vs).toArray, .func (.func c) #[] cap.toArray] (RT t vr vk vs :: FΓ) M (fun _ : Unit => .bool ((parts t).all g)) (fun _ => []) (fun _ => M) := by
 have h := Yn t vr vk vs c cap FΓ (fun _ => M) (fun _ => M) (B2a t g) hc (fun m k v d hm _ vr vk vs => by simpa [Sw hm] using hcl k v d (Ju hm) vr vk vs); rw [D3i] at h; simpa using h
abbrev Yv (t : T) : Prop := ∀ (left : Int) vr vk vs, Ap left → Spec prog 103 #[.agg (tc t vr vk vs).toArray, iv left] [RT t vr vk vs] [] (fun _ : Unit => .bool (decide ((depth t : Int) ≤ left))) (fun _ => []) (fun _ => [])
theorem A4v (k : T) (vr vk vs : SH) (b : Nat) (left v d : Int) (h0 : 0 < left) (hl : Ap left) (ih : Yv k) : Spec prog 186 #[.agg (tc k vr vk vs).toArray, iv v, iv d, pz b] [RT k vr vk vs] [Ad b [iv left] 3] (fun _ : Unit => .bool (decide ((depth k : Int) ≤ left - 1))) (fun _ => []) (fun _ => [Ad b [iv left] 3]) := by
 refine Dd ntmps186 fun B hB => ?_
 refine Ax ?_; refine q0 rfl (B0 fun b4 => ?_); refine Ct ?_; refine Fm ?_; refine Q5 ?_; refine C4k ?_; refine q0 rfl (A0 call103 (ih (left - 1) vr vk vs (by unfold Ap at *; omega)) (fun x11 => ?_)); refine Ct ?_; refine Au f_ rfl Aa () rfl (fun w hs => (hs.l8).drop)
theorem A9t (t : T) (ih : ∀ p, p ∈ parts t → Yv p.1) (left : Int) (vr vk vs : SH) (hl : Ap left) : Spec prog 103 #[.agg (tc t vr vk vs).toArray, iv left] [RT t vr vk vs] [] (fun _ : Unit => .bool (decide ((depth t : Int) ≤ left))) (fun _ => []) (fun _ => []) := by
 refine Dd ntmps103 fun B hB => ?_
 refine Ax ?_; refine q0 rfl (B0 fun b2 => ?_); refine q0 rfl (B0 fun b3 => ?_); refine Od ?_; refine Q5 ?_; refine B2n ?_; refine Ez ?_; refine qI rfl rfl rfl Nh (fun hg7 => Oo ?_) (fun hg7 => ?_)
 ·refine qT rfl rfl rfl (B9k ?_); have h0 : 0 < left := of_decide_eq_true hg7; have hE := A8f t vr vk vs 186 [pz b3] [] [Ad b3 [iv left] 3] (fun p => decide ((depth p.1 : Int) ≤ left - 1)) call186 (fun k v d hm vr vk vs => A4v k vr vk vs b3 left v d h0 hl (ih _ hm)); rw [← C7o t left h0] at hE; refine qT rfl rfl rfl (A0 call106 (hE) (fun x10 => ?_)); refine Iu ?_; refine Au f_ rfl Aa () rfl (fun w hs => hs.none)
 ·refine K4 ?_; refine It ?_; have h0 : ¬ 0 < left := of_decide_eq_false hg7; have hp := A8k t; refine Au f_ rfl Aa () (by rw [decide_eq_false A4]) (fun w hs => hs.none)
theorem A9u : ∀ t : T, Yv t := T.ind fun t ih left vr vk vs hl => A9t t ih left vr vk vs hl
def leftOf (t : T) (m : Int) : Int := if (size t : Int) ≤ m then m - size t else -1
abbrev A4m (b bc : Nat) : List Value := [pz b, pz bc]
abbrev Ix (b bc : Nat) (m : Int) : List Be := [Ad b [iv m] 3, Ad bc [.func (.func 187) #[] (A4m b bc).toArray] 30]
abbrev A0l (t : T) : Prop := ∀ (m : Int) b bc vr vk vs, 0 ≤ m → Ap m → Spec prog 187 #[.agg (tc t vr vk vs).toArray, pz b, pz bc] [RT t vr vk vs] (Ix b bc m) (fun _ : Unit => .bool (decide ((size t : Int) ≤ m))) (fun _ => []) (fun _ => Ix b bc (leftOf t m))
theorem A9o (k : T) (vr vk vs : SH) (b bc : Nat) (m v d : Int) (h0 : 0 ≤ m) (hl : Ap m) (ih : A0l k) : Spec prog 188 #[.agg (tc k vr vk vs).toArray, iv v, iv d, pz bc] [RT k vr vk vs] (Ix b bc m) (fun _ : Unit => .bool (decide ((size k : Int) ≤ m))) (fun _ => []) (fun _ => Ix b bc (leftOf k m)) := by
 refine Dd ntmps188 fun B hB => ?_
 refine Ax ?_; refine q0 rfl (B0 fun b4 => ?_); refine Od ?_; refine Q5 ?_; refine Ga ?_; refine q0 rfl (Ca call187 (ih m b bc vr vk vs h0 hl) (cap := A4m b bc) (fun x10 => ?_)); refine Ct ?_; refine Au f_ rfl Aa () rfl (fun w hs => (hs.l8).Ba (A := Ix b bc (leftOf k m)))
theorem C0q (t : T) (ih : ∀ p, p ∈ parts t → A0l p.1) (m : Int) (b bc : Nat) (vr vk vs : SH) (h0 : 0 < m) (hl : Ap m) :
  Spec prog 106 #[.agg (tc t vr vk vs).toArray, .func (.func 188) #[] #[pz bc]] [RT t vr vk vs] (Ix b bc (m - 1)) (fun _ : Unit => .bool (decide ((size t : Int) ≤ m))) (fun _ => []) (fun _ => Ix b bc (leftOf t m)) := by
 have h := Yn t vr vk vs 188 [pz bc] [] (fun j => Ix b bc (if (Ce t j : Int) ≤ m then m - Ce t j else -1)) (fun _ => Ix b bc (-1)) (fun j => decide ((Ce t (j + 1) : Int) ≤ m)) call188 ?_
 ·have hall : (ff (fun j => decide ((Ce t (j + 1) : Int) ≤ m)) (parts t).length == (parts t).length) = decide ((size t : Int) ≤ m) := by
   rw [Bool.eq_iff_iff, beq_iff_eq, Yj, decide_eq_true_iff]; constructor
   ·intro h; cases hn : (parts t).length with
    | zero => have := Kd t; rw [hn, Lq] at this; omega
    | succ n =>
     have := h n A4; rw [← hn, Kd] at this; exact of_decide_eq_true this
   ·intro h j hj; have := S3 t (j + 1); exact decide_eq_true A4
  simp only [hall, Lq, Kd, beq_iff_eq] at h; rw [if_pos A4] at h; by_cases hs : (size t : Int) ≤ m
  ·have e : ff (fun j => decide ((Ce t (j + 1) : Int) ≤ m)) (parts t).length = (parts t).length := by rw [← beq_iff_eq, hall]; exact decide_eq_true hs
   simp only [e, if_true, if_pos hs] at h; unfold leftOf; rw [if_pos hs]; exact h
  ·have e : ¬ ff (fun j => decide ((Ce t (j + 1) : Int) ≤ m)) (parts t).length = (parts t).length := by rw [← beq_iff_eq, hall]; simpa using hs
   simp only [if_neg e] at h; unfold leftOf; rw [if_neg hs]; exact h
 ·intro j k v d hm hβ vr vk vs; have hs := Lr hm; simp only at hs; have hp := size_pos k
  have hj : (Ce t j : Int) ≤ m := by
   cases j with
   | zero => rw [Lq]; omega
   | succ j => exact of_decide_eq_true (hβ j A4)
  have := A9o k vr vk vs b bc (m - Ce t j) v d A4 (by unfold Ap at *; omega) (ih _ (Ju hm)); rw [if_pos hj]; have e1 : decide ((size k : Int) ≤ m - Ce t j) = decide ((Ce t (j + 1) : Int) ≤ m) := by rw [hs]; congr 1; apply propext; omega
  rw [e1] at this
  have e2 : Ix b bc (leftOf k (m - Ce t j)) = if decide ((Ce t (j + 1) : Int) ≤ m) = true then Ix b bc (if (Ce t (j + 1) : Int) ≤ m then m - Ce t (j + 1) else -1) else Ix b bc (-1) := by
   unfold leftOf; by_cases hk : (Ce t (j + 1) : Int) ≤ m
   ·rw [if_pos A4, if_pos (decide_eq_true hk), if_pos hk, hs]; congr 1; omega
   ·rw [if_neg A4, if_neg (by simpa using hk)]
  rw [e2] at this; exact this
theorem B3f (t : T) (ih : ∀ p, p ∈ parts t → A0l p.1) (m : Int) (b bc : Nat) (vr vk vs : SH) (h0 : 0 ≤ m) (hl : Ap m) : Spec prog 187 #[.agg (tc t vr vk vs).toArray, pz b, pz bc] [RT t vr vk vs] (Ix b bc m) (fun _ : Unit => .bool (decide ((size t : Int) ≤ m))) (fun _ => []) (fun _ => Ix b bc (leftOf t m)) := by
 refine Dd ntmps187 fun B hB => ?_
 refine Ax ?_; refine q0 rfl (B0 fun b3 => ?_); refine Od ?_; refine Q5 ?_; refine C4k ?_; refine B2q ?_; refine Ax ?_; refine Q5 ?_; refine B2m ?_; refine Ez ?_; refine qI rfl rfl rfl Nh (fun hg9 => Oo ?_) (fun hg9 => ?_)
 ·refine qT rfl rfl rfl (B9k ?_); have h1 : 0 ≤ m - 1 := of_decide_eq_true hg9; have hE := C0q t ih m b bc vr vk vs A4 hl; refine qT rfl rfl rfl (A0 call106 (hE) (fun x12 => ?_) (hm := (List.Perm.swap _ _ _).cons _)); refine Iu ?_; refine Au f_ rfl Aa () rfl (fun w hs => (hs.l8).Ba (A := Ix b bc (leftOf t m)))
 ·refine K4 ?_; refine It ?_; have h1 : ¬ 0 ≤ m - 1 := of_decide_eq_false hg9; have hp := size_pos t; refine Au f_ rfl Aa () (by rw [decide_eq_false A4]) (fun w hs => by rw [leftOf, if_neg A4, show (-1 : Int) = m - 1 by omega]; exact ((hs.l7).perm ((List.Perm.swap _ _ _).cons _)).Ba (A := Ix b bc (m - 1)))
theorem C0p : ∀ t : T, A0l t := T.ind fun t ih m b bc vr vk vs h0 hl => B3f t ih m b bc vr vk vs h0 hl
def D4n : Prop := ∀ (l : List Cl) (a : SH), Spec prog 63 #[sl a l.length] [CL l a] [] (fun _ : Unit => .bool (A6 l)) (fun _ => []) (fun _ => [])
def A8y : Prop := ∀ (l : List Cl) (a : SH), Spec prog 193 #[sl a l.length] [CL l a] [] (fun _ : Unit => .bool (A5 l)) (fun _ => []) (fun _ => [])
def D4o : Prop := ∀ (l : List Cl) (a : SH), Spec prog 64 #[sl a l.length] [CL l a] [] (fun _ : Unit => .int .u32 (G3 l : Int)) (fun _ => []) (fun _ => [])
def C1i : Prop := D4n ∧ A8y ∧ D4o
theorem B8h (t : T) (vr vk vs : SH) (Dg : Int) (h0 : 0 ≤ Dg) (hl : Ap Dg) : Spec prog 104 #[.agg (tc t vr vk vs).toArray, iv Dg] [RT t vr vk vs] [] (fun _ : Unit => .bool (decide ((size t : Int) ≤ Dg))) (fun _ => []) (fun _ => []) := by
 refine Dd ntmps104 fun B hB => ?_
 refine Ax ?_; refine q0 rfl (B0 fun b2 => ?_); refine q0 rfl (B0 fun b3 => ?_); refine Od ?_; refine q0 rfl (B3 fun b5 => ?_); refine Kz ?_; refine Ax ?_; refine L0 ?_; refine Ep ?_; refine Ax ?_; refine Q5 ?_; refine Ga ?_; refine q0 rfl (Ca call187 (C0p t Dg b3 b5 vr vk vs h0 hl) (cap := A4m b3 b5) (fun x9 => ?_)); refine Ct ?_; refine Au f_ rfl Aa () rfl (fun w hs => hs.none)
theorem A1b (t : T) (vr vk vs : SH) : Spec prog 59 #[.agg (tc t vr vk vs).toArray] [RT t vr vk vs] [] (fun _ : Unit => iv (sized t)) (fun _ => []) (fun _ => []) := by
 refine Dd ntmps59 fun B hB => ?_
 refine Ax ?_; refine q0 rfl (B0 fun b1 => ?_); refine Hb ?_; refine zq9 ?_; refine Fm ?_; refine q0 rfl (A0 call103 (A9u t 200 vr vk vs (by unfold Ap; omega)) (fun x5 => ?_)); refine A9e ?_; refine Ct ?_; refine A9 (fun h3 => ?_) (fun h3 => ?_)
 ·refine Co ?_; have h : 200 < depth t := by simp at h3; omega
  refine Au f_ rfl Aa () (by rw [sized, if_pos h]) (fun w hs => hs.none)
 ·refine Fm ?_; refine q0 rfl (A0 call104 (B8h t vr vk vs 20000 A4 (by unfold Ap; omega)) (fun x9 => ?_)); refine A9e ?_; refine Ct ?_; refine A9 (fun h7 => ?_) (fun h7 => ?_)
  ·refine Co ?_; have h : ¬ 200 < depth t := by simp at h3; omega
   have h2 : 20000 < size t := by simp at h7; omega
   refine Au f_ rfl Aa () (by rw [sized, if_neg h, if_pos h2]) (fun w hs => hs.none)
  ·refine Rg ?_; refine Co ?_; have h : ¬ 200 < depth t := by simp at h3; omega
   have h2 : ¬ 20000 < size t := by simp at h7; omega
   refine Au f_ rfl Aa () (by rw [sized, if_neg h, if_neg h2]) (fun w hs => hs.none)
theorem C5z (s : ByteArray) (hs : s.size ≤ H0) : Spec prog 191 #[.string s] [] [] (fun _ : Unit => .bool (P6 s)) (fun _ => []) (fun _ => []) := by
 refine Dd ntmps191 fun B hB => ?_
 refine Co ?_; refine Ii ?_; refine q0 rfl (A2f ?_); refine D4t ?_; refine Fg (X := Nat) (fun i => i ≤ s.size ∧ ∀ j, j < i → A5e s j = true) (fun i => [(0, .string s), (7, iv (s.size : Int)), (8, iv (i : Int))]) (fun i => []) (fun i => []) (fun i => s.size - i) (0) (⟨Nat.zero_le _, fun j hj => by omega⟩) (by exact E1) ?_ ?_
 ·exact fun w hs => hs.none
 ·intro i base0 ⟨hi, hok⟩ next0; refine Ek ?_; refine A9 (fun h9 => ?_) (fun h9 => ?_)
  ·have hlt : i < s.size := by have := of_decide_eq_true h9; omega
   obtain ⟨c, hc, hca⟩ := D7t hlt; refine Zv ?_; refine J4 ?_; refine Xj ?_; refine q0 rfl (D6f ?_); refine Hb ?_; refine Cb ([(0, .string s), (3, iv (i : Int)), (4, .int .u8 c.toNat), (5, .bool (I8 c.toNat)), (7, iv (s.size : Int)), (8, iv (i : Int))]) (fun hK => ?_) (fun base => ?_)
   ·refine Ea ?_; refine B2m ?_; refine Ez ?_; refine qI rfl rfl rfl Nh (fun hg16 => G4 ?_) (fun hg16 => ?_)
    ·refine B8a ?_; refine B2s ?_; refine qI rfl rfl rfl Nh (fun hg20 => G4 ?_) (fun hg20 => ?_)
     ·refine qT rfl rfl rfl (A7n ?_); refine Mj ?_; refine qI rfl rfl rfl Nh (fun hg23 => G4 ?_) (fun hg23 => ?_)
      ·refine B8a ?_; refine C4j ?_; refine J3 ?_; refine qI rfl rfl rfl Nh (fun hg28 => G4 ?_) (fun hg28 => ?_)
       ·refine B2l ?_; refine It ?_; exact hK _ ⟨rfl, rfl, rfl, (by (conv => lhs; whnf); first | (simp_all [I8]; done) | (simp_all [I8]; omega)), rfl, rfl, trivial⟩
       ·refine zq5 ?_; refine Iu ?_; exact hK _ ⟨rfl, rfl, rfl, (by (conv => lhs; whnf); first | (simp_all [I8]; done) | (simp_all [I8]; omega)), rfl, rfl, trivial⟩
      ·refine zq5 ?_; refine qT rfl rfl rfl (Td ?_); refine J3 ?_; refine Mj ?_; refine B2l ?_; refine It ?_; exact hK _ ⟨rfl, rfl, rfl, (by (conv => lhs; whnf); first | (simp_all [I8]; done) | (simp_all [I8]; omega)), rfl, rfl, trivial⟩
     ·refine K4 ?_; refine Vl ?_; refine Vl ?_; refine Ry ?_; refine Iu ?_; exact hK _ ⟨rfl, rfl, rfl, (by (conv => lhs; whnf); first | (simp_all [I8]; done) | (simp_all [I8]; omega)), rfl, rfl, trivial⟩
    ·refine zq5 ?_; refine J3 ?_; refine Mj ?_; refine qT rfl rfl rfl (A7n ?_); refine Mj ?_; refine qI rfl rfl rfl Nh (fun hg23 => G4 ?_) (fun hg23 => ?_)
     ·refine B8a ?_; refine C4j ?_; refine J3 ?_; refine qI rfl rfl rfl Nh (fun hg28 => G4 ?_) (fun hg28 => ?_)
      ·refine B2l ?_; refine It ?_; exact hK _ ⟨rfl, rfl, rfl, (by (conv => lhs; whnf); first | (simp_all [I8]; done) | (simp_all [I8]; omega)), rfl, rfl, trivial⟩
      ·refine zq5 ?_; refine Iu ?_; exact hK _ ⟨rfl, rfl, rfl, (by (conv => lhs; whnf); first | (simp_all [I8]; done) | (simp_all [I8]; omega)), rfl, rfl, trivial⟩
     ·refine zq5 ?_; refine qT rfl rfl rfl (Td ?_); refine J3 ?_; refine Mj ?_; refine B2l ?_; refine It ?_; exact hK _ ⟨rfl, rfl, rfl, (by (conv => lhs; whnf); first | (simp_all [I8]; done) | (simp_all [I8]; omega)), rfl, rfl, trivial⟩
   ·refine Jd ?_; refine Cb ([(0, .string s), (7, iv (s.size : Int)), (8, iv (i : Int)), (45, .bool (!(A5e s i)))]) (fun hK => ?_) (fun base => ?_)
    ·refine Ea ?_; refine A9e ?_; refine Ez ?_; refine qI rfl rfl rfl Nh (fun hg34 => G4 ?_) (fun hg34 => ?_)
     ·refine B2l ?_; refine Mj ?_; refine qI rfl rfl rfl Nh (fun hg37 => G4 ?_) (fun hg37 => ?_)
      ·refine B7z ?_; refine qT rfl rfl rfl (Td ?_); refine Mj ?_; refine qI rfl rfl rfl Nh (fun hg41 => G4 ?_) (fun hg41 => ?_)
       ·refine A9c ?_; refine qT rfl rfl rfl (Td ?_); refine Mi ?_; exact hK _ ⟨rfl, rfl, rfl, (by (conv => lhs; whnf); rw [hca]; first | (simp_all [digit]; done) | (simp_all [digit]; omega) | (simp_all [digit]; rw [← decide_not]; congr 1; apply propext; omega)), trivial⟩
       ·refine zq5 ?_; refine C4j ?_; refine Mi ?_; exact hK _ ⟨rfl, rfl, rfl, (by (conv => lhs; whnf); rw [hca]; first | (simp_all [digit]; done) | (simp_all [digit]; omega) | (simp_all [digit]; rw [← decide_not]; congr 1; apply propext; omega)), trivial⟩
      ·refine zq5 ?_; refine C4j ?_; refine Mj ?_; refine K4 ?_; refine C4j ?_; refine Mi ?_; exact hK _ ⟨rfl, rfl, rfl, (by (conv => lhs; whnf); rw [hca]; first | (simp_all [digit]; done) | (simp_all [digit]; omega) | (simp_all [digit]; rw [← decide_not]; congr 1; apply propext; omega)), trivial⟩
     ·refine K4 ?_; refine Vl ?_; refine Vl ?_; refine K4 ?_; refine Vl ?_; refine Vl ?_; refine zq5 ?_; refine J2 ?_; exact hK _ ⟨rfl, rfl, rfl, (by (conv => lhs; whnf); rw [hca]; first | (simp_all [digit]; done) | (simp_all [digit]; omega) | (simp_all [digit]; rw [← decide_not]; congr 1; apply propext; omega)), trivial⟩
    ·refine A9 (fun h45 => ?_) (fun h45 => ?_)
     ·refine Co ?_; refine Au f_ rfl Aa () (by rw [B9n hlt (by simpa using h45)]) (fun w hs => hs.none)
     ·refine Gr ?_; have hb : A5e s i = true := by simpa using h45
      refine A1 (fun w hs => hs) (next0 (i + 1) _ ⟨hlt, fun j hj => (by rcases Nat.lt_succ_iff_lt_or_eq.mp hj with h | h; exact hok j h; subst h; exact hb)⟩ A4 E1)
  ·have hge : i = s.size := by have := of_decide_eq_false h9; omega
   refine H3 ?_; refine Fs ?_; refine q0 rfl (D8s ?_); refine Ct ?_; refine Au f_ rfl Aa () (by rw [B9o (by rw [← hge]; exact hok), empty_eq]; rfl) (fun w hs => hs.none)
theorem Ly (hF : D4o) (l : List Cl) (a : SH) (dims : Int) (h0 : 0 ≤ dims) (hl : Ap dims) : Spec prog 192 #[sl a l.length, iv dims] [CL l a] [] (fun _ : Unit => .bool (within l dims)) (fun _ => []) (fun _ => []) := by
 refine Dd ntmps192 fun B hB => ?_
 refine Nf ?_; refine B2m ?_; refine Ez ?_; refine qI rfl rfl rfl Nh (fun hg7 => G4 ?_) (fun hg7 => ?_)
 ·refine qT rfl rfl rfl (A0 call64 (hF l a) (fun x9 => ?_)); refine Mj ?_; refine qT rfl rfl rfl (E1b ?_); refine qT rfl rfl rfl (A2d ?_ (m := dims.toNat) (hy := congrArg (Value.int .u64) (C4t h0 hl))); refine B2l ?_; refine It ?_; refine Au f_ rfl Aa () (by first | (simp_all [within]; done) | (simp_all [within]; intros; omega)) (fun w hs => hs.none)
 ·refine Jp ?_; refine zq5 ?_; refine Iu ?_; refine Au f_ rfl Aa () (by first | (simp_all [within]; done) | (simp_all [within]; intros; omega)) (fun w hs => hs.none)
theorem B4j (t : T) (hf : Sc t = true ∨ C1i) (vr vk vs : SH) (vars dims : Int) (hd : 0 ≤ dims) (hl : Ap dims) : Spec prog 105 #[.agg (tc t vr vk vs).toArray, iv vars, iv dims] [RT t vr vk vs] [] (fun _ : Unit => .bool (Mu t vars dims)) (fun _ => []) (fun _ => []) := by
 refine Dd ntmps105 fun B hB => ?_
 refine go_open (fun hk hn hnm => ?_); refine B4 (ts := t.kids) (fun VR VK VS hl1 hA1 => ?_); refine Eg (bs := t.sys) (fun VF VK2 hl2 hA2 => ?_); refine Ax ?_; refine q0 rfl (B0 fun b3 => ?_); refine Ua ?_; refine Cb ([(1, iv vars), (2, iv dims), (3, pz b3), (47, .bool (K2 t))]) (fun hK => ?_) (fun base => ?_)
 ·refine Bk (pn := 1000000) (tn := false) (A := [0, 1, 3, 0, 8, 24, 63, 127, 255, 511, 1023, 2047, 4095, 8191, 16383, 32767, 65535, 131071, 262143, 524287, 1048575, 2097151, 4194303, 8388607, 16777215, 33554431, 67108863, 134217727, 268435455, 536870911, 1073741823, 2147483647, 4294967295, 8589934591, 17179869183, 34359738367, 68719476735, 137438953471, 274877906943]) (l := [0, 1, 3, 4, 5, 2, 6, 7, 8, 9, 10, 11, 12, 13, 14, 15, 16, 17, 18, 19, 20, 21, 22, 23, 24, 25, 26, 27, 28, 29, 30, 31, 32, 33, 34, 35, 36, 37, 38]) (fin := []) Tab.mixed ⟨_, func105⟩ (by rfl) ?_; refine Iz ?_; refine Iz ?_; refine n0 rfl (A5z ?_); refine n0 rfl (B7 call189 (C6l t.kind) (fun x11 => ?_)); refine n0 rfl (A5y ?_); refine F1 ?_; refine nI rfl rfl rfl Nh (fun hg16 => Tz ?_) (fun hg16 => ?_)
  ·refine Rn ?_; refine nT rfl rfl rfl (A5y ?_); refine A0n ?_; refine nI rfl rfl rfl Nh (fun hg20 => Tz ?_) (fun hg20 => ?_)
   ·refine Rn ?_; refine nT rfl rfl rfl (A5y ?_); refine B7y ?_; refine B2o ?_; refine F1 ?_; refine nI rfl rfl rfl Nh (fun hg26 => Tz ?_) (fun hg26 => ?_)
    ·refine Rn ?_; refine nT rfl rfl rfl (A5y ?_); refine A0n ?_; refine nI rfl rfl rfl Nh (fun hg30 => Tz ?_) (fun hg30 => ?_)
     ·refine Rn ?_; refine nT rfl rfl rfl (D8h ?_); refine B7y ?_; refine B2o ?_; refine F1 ?_; refine nI rfl rfl rfl Nh (fun hg36 => Tz ?_) (fun hg36 => ?_)
      ·refine Rn ?_; refine nT rfl rfl rfl (B7 call190 (Nt t.kind) (fun x39 => ?_)); refine nT rfl rfl rfl (C1q ?_); refine A0n ?_; refine nI rfl rfl rfl Nh (fun hg41 => Tz ?_) (fun hg41 => ?_)
       ·refine Rn ?_; refine nT rfl rfl rfl (A5z ?_); refine nT rfl rfl rfl (B2w ?_); refine B7y ?_; refine U9 ?_; exact hK _ ⟨rfl, rfl, rfl, (by (conv => lhs; whnf); first | (simp_all [K2]; done) | (simp_all [K2]; omega)), trivial⟩
       ·refine Rx ?_; refine B7x ?_; refine U9 ?_; exact hK _ ⟨rfl, rfl, rfl, (by (conv => lhs; whnf); first | (simp_all [K2]; done) | (simp_all [K2]; omega)), trivial⟩
      ·refine Jq ?_; refine Jq ?_; refine Rw ?_; refine Rw ?_; refine A4r ?_; refine Vk ?_; refine Uu ?_; exact hK _ ⟨rfl, rfl, rfl, (by (conv => lhs; whnf); first | (simp_all [K2]; done) | (simp_all [K2]; omega)), trivial⟩
     ·refine Jq ?_; refine B7x ?_; refine B2o ?_; refine F1 ?_; refine C4i ?_; refine Rn ?_; refine nT rfl rfl rfl (B7 call190 (Nt t.kind) (fun x39 => ?_)); refine nT rfl rfl rfl (C1q ?_); refine A0n ?_; refine nI rfl rfl rfl Nh (fun hg41 => Tz ?_) (fun hg41 => ?_)
      ·refine Rn ?_; refine nT rfl rfl rfl (A5z ?_); refine nT rfl rfl rfl (B2w ?_); refine B7y ?_; refine U9 ?_; exact hK _ ⟨rfl, rfl, rfl, (by (conv => lhs; whnf); first | (simp_all [K2]; done) | (simp_all [K2]; omega)), trivial⟩
      ·refine Rx ?_; refine B7x ?_; refine U9 ?_; exact hK _ ⟨rfl, rfl, rfl, (by (conv => lhs; whnf); first | (simp_all [K2]; done) | (simp_all [K2]; omega)), trivial⟩
    ·refine Rx ?_; refine Rw ?_; refine C8h ?_; refine A4r ?_; refine Vk ?_; refine F1 ?_; refine Jq ?_; refine Rx ?_; refine Rw ?_; refine Rw ?_; refine A4r ?_; refine Vk ?_; refine Uu ?_; exact hK _ ⟨rfl, rfl, rfl, (by (conv => lhs; whnf); first | (simp_all [K2]; done) | (simp_all [K2]; omega)), trivial⟩
   ·refine Jq ?_; refine B7x ?_; refine B2o ?_; refine F1 ?_; refine C4i ?_; refine Rn ?_; refine nT rfl rfl rfl (A5y ?_); refine A0n ?_; refine nI rfl rfl rfl Nh (fun hg30 => Tz ?_) (fun hg30 => ?_)
    ·refine Rn ?_; refine nT rfl rfl rfl (D8h ?_); refine B7y ?_; refine B2o ?_; refine F1 ?_; refine nI rfl rfl rfl Nh (fun hg36 => Tz ?_) (fun hg36 => ?_)
     ·refine Rn ?_; refine nT rfl rfl rfl (B7 call190 (Nt t.kind) (fun x39 => ?_)); refine nT rfl rfl rfl (C1q ?_); refine A0n ?_; refine nI rfl rfl rfl Nh (fun hg41 => Tz ?_) (fun hg41 => ?_)
      ·refine Rn ?_; refine nT rfl rfl rfl (A5z ?_); refine nT rfl rfl rfl (B2w ?_); refine B7y ?_; refine U9 ?_; exact hK _ ⟨rfl, rfl, rfl, (by (conv => lhs; whnf); first | (simp_all [K2]; done) | (simp_all [K2]; omega)), trivial⟩
      ·refine Rx ?_; refine B7x ?_; refine U9 ?_; exact hK _ ⟨rfl, rfl, rfl, (by (conv => lhs; whnf); first | (simp_all [K2]; done) | (simp_all [K2]; omega)), trivial⟩
     ·refine Jq ?_; refine Jq ?_; refine Rw ?_; refine Rw ?_; refine A4r ?_; refine Vk ?_; refine Uu ?_; exact hK _ ⟨rfl, rfl, rfl, (by (conv => lhs; whnf); first | (simp_all [K2]; done) | (simp_all [K2]; omega)), trivial⟩
    ·refine Jq ?_; refine B7x ?_; refine B2o ?_; refine F1 ?_; refine C4i ?_; refine Rn ?_; refine nT rfl rfl rfl (B7 call190 (Nt t.kind) (fun x39 => ?_)); refine nT rfl rfl rfl (C1q ?_); refine A0n ?_; refine nI rfl rfl rfl Nh (fun hg41 => Tz ?_) (fun hg41 => ?_)
     ·refine Rn ?_; refine nT rfl rfl rfl (A5z ?_); refine nT rfl rfl rfl (B2w ?_); refine B7y ?_; refine U9 ?_; exact hK _ ⟨rfl, rfl, rfl, (by (conv => lhs; whnf); first | (simp_all [K2]; done) | (simp_all [K2]; omega)), trivial⟩
     ·refine Rx ?_; refine B7x ?_; refine U9 ?_; exact hK _ ⟨rfl, rfl, rfl, (by (conv => lhs; whnf); first | (simp_all [K2]; done) | (simp_all [K2]; omega)), trivial⟩
  ·refine Rx ?_; refine Rw ?_; refine C8h ?_; refine A4r ?_; refine Vk ?_; refine F1 ?_; refine Jq ?_; refine Jq ?_; refine Rw ?_; refine C8h ?_; refine A4r ?_; refine Vk ?_; refine F1 ?_; refine Jq ?_; refine Rx ?_; refine Rw ?_; refine Rw ?_; refine A4r ?_; refine Vk ?_; refine Uu ?_; exact hK _ ⟨rfl, rfl, rfl, (by (conv => lhs; whnf); first | (simp_all [K2]; done) | (simp_all [K2]; omega)), trivial⟩
 ·refine A9 (fun h47 => ?_) (fun h47 => ?_)
  ·refine Co ?_; refine Au f_ rfl Aa () (by simp [Mu, h47]) (fun w hs => hs.none)
  ·refine J0 ?_; refine Iv ?_; refine Kz ?_; refine zq9 ?_; refine Hk ?_; refine A9 (fun h50 => ?_) (fun h50 => ?_)
   ·refine Jd ?_; refine Cb ([(6, .bool (decide ((t.r.length : Int) = 0) && decide (0 ≤ t.n) && (decide (vars < 0) || decide (t.n < vars))))]) (fun hK => ?_) (fun base => ?_)
    ·refine Is ?_; refine K5 ?_; refine A9f ?_; refine Ez ?_; refine qI rfl rfl rfl Nh (fun hg56 => U2 ?_) (fun hg56 => ?_)
     ·refine Q3 ?_; refine qT rfl rfl rfl (A7n ?_); refine B2s ?_; refine qI rfl rfl rfl Nh (fun hg61 => G4 ?_) (fun hg61 => ?_)
      ·refine B7z ?_; refine Mj ?_; refine qI rfl rfl rfl Nh (fun hg64 => U2 ?_) (fun hg64 => ?_)
       ·refine Q3 ?_; refine Mj ?_; refine B7z ?_; refine qT rfl rfl rfl (Td ?_); refine Iu ?_; exact hK _ ⟨(by (conv => lhs; whnf); first | (simp_all [Bool.and_assoc]; done) | (simp_all [Bool.and_assoc]; omega)), trivial⟩
       ·refine U8 ?_; refine C4j ?_; refine Iu ?_; exact hK _ ⟨(by (conv => lhs; whnf); first | (simp_all [Bool.and_assoc]; done) | (simp_all [Bool.and_assoc]; omega)), trivial⟩
      ·refine K4 ?_; refine Vl ?_; refine Vl ?_; refine Vl ?_; refine Vl ?_; refine zq5 ?_; refine It ?_; exact hK _ ⟨(by (conv => lhs; whnf); first | (simp_all [Bool.and_assoc]; done) | (simp_all [Bool.and_assoc]; omega)), trivial⟩
     ·refine K4 ?_; refine J3 ?_; refine U8 ?_; refine Vl ?_; refine Vl ?_; refine Vl ?_; refine Vl ?_; refine zq5 ?_; refine It ?_; exact hK _ ⟨(by (conv => lhs; whnf); first | (simp_all [Bool.and_assoc]; done) | (simp_all [Bool.and_assoc]; omega)), trivial⟩
    ·refine Au f_ rfl Aa () (by simp_all [Mu, Bool.and_assoc]) (fun w hs => hs.none)
   ·refine Hk ?_; refine A9 (fun h71 => ?_) (fun h71 => ?_)
    ·refine Jd ?_; refine Cb ([(6, .bool (decide ((t.r.length : Int) = 0) && P6 t.name))]) (fun hK => ?_) (fun base => ?_)
     ·refine Is ?_; refine K5 ?_; refine A9f ?_; refine Ez ?_; refine qI rfl rfl rfl Nh (fun hg77 => U2 ?_) (fun hg77 => ?_)
      ·refine Q3 ?_; refine qT rfl rfl rfl (A0 call191 (C5z t.name hnm) (fun x80 => ?_)); refine Iu ?_; exact hK _ ⟨(by (conv => lhs; whnf); first | (simp_all [Bool.and_assoc]; done) | (simp_all [Bool.and_assoc]; omega)), trivial⟩
      ·refine K4 ?_; refine It ?_; exact hK _ ⟨(by (conv => lhs; whnf); first | (simp_all [Bool.and_assoc]; done) | (simp_all [Bool.and_assoc]; omega)), trivial⟩
     ·refine Au f_ rfl Aa () (by simp_all [Mu, Bool.and_assoc]) (fun w hs => hs.none)
    ·refine Jd ?_; refine Hk ?_; refine A9 (fun h82 => ?_) (fun h82 => ?_)
     ·refine A5s ?_; refine Jd ?_; refine Cb ([(6, .bool (A6 t.r && within t.r dims))]) (fun hK => ?_) (fun base => ?_)
      ·refine Is ?_; refine q0 rfl (A0 call63 ((Jz hf (by simp_all)).1 t.r vr) (fun x88 => ?_)); refine Ez ?_; refine qI rfl rfl rfl Nh (fun hg89 => U2 ?_) (fun hg89 => ?_)
       ·refine Q3 ?_; refine Mj ?_; refine qT rfl rfl rfl (A0 call192 (Ly (Jz hf (by simp_all)).2.2 t.r vr dims hd hl) (fun x93 => ?_)); refine Iu ?_; exact hK _ ⟨(by (conv => lhs; whnf); first | (simp_all [Bool.and_assoc]; done) | (simp_all [Bool.and_assoc]; omega)), trivial⟩
       ·refine U8 ?_; refine It ?_; exact hK _ ⟨(by (conv => lhs; whnf); first | (simp_all [Bool.and_assoc]; done) | (simp_all [Bool.and_assoc]; omega)), trivial⟩
      ·refine Au f_ rfl Aa () (by simp_all [Mu, Bool.and_assoc]) (fun w hs => hs.none)
     ·refine Hk ?_; refine A9 (fun h82 => ?_) (fun h82 => ?_)
      ·refine A5s ?_; refine Jd ?_; refine Cb ([(6, .bool (A6 t.r && within t.r dims))]) (fun hK => ?_) (fun base => ?_)
       ·refine Is ?_; refine q0 rfl (A0 call63 ((Jz hf (by simp_all)).1 t.r vr) (fun x88 => ?_)); refine Ez ?_; refine qI rfl rfl rfl Nh (fun hg89 => U2 ?_) (fun hg89 => ?_)
        ·refine Q3 ?_; refine Mj ?_; refine qT rfl rfl rfl (A0 call192 (Ly (Jz hf (by simp_all)).2.2 t.r vr dims hd hl) (fun x93 => ?_)); refine Iu ?_; exact hK _ ⟨(by (conv => lhs; whnf); first | (simp_all [Bool.and_assoc]; done) | (simp_all [Bool.and_assoc]; omega)), trivial⟩
        ·refine U8 ?_; refine It ?_; exact hK _ ⟨(by (conv => lhs; whnf); first | (simp_all [Bool.and_assoc]; done) | (simp_all [Bool.and_assoc]; omega)), trivial⟩
       ·refine Au f_ rfl Aa () (by simp_all [Mu, Bool.and_assoc]) (fun w hs => hs.none)
      ·refine Jm ?_; refine Xk ?_; refine A9 (fun h82 => ?_) (fun h82 => ?_)
       ·refine Jd ?_; refine Cb ([(6, .bool (A6 t.r && within t.r dims))]) (fun hK => ?_) (fun base => ?_)
        ·refine Is ?_; refine q0 rfl (A0 call63 ((Jz hf (by simp_all)).1 t.r vr) (fun x88 => ?_)); refine Ez ?_; refine qI rfl rfl rfl Nh (fun hg89 => U2 ?_) (fun hg89 => ?_)
         ·refine Q3 ?_; refine Mj ?_; refine qT rfl rfl rfl (A0 call192 (Ly (Jz hf (by simp_all)).2.2 t.r vr dims hd hl) (fun x93 => ?_)); refine Iu ?_; exact hK _ ⟨(by (conv => lhs; whnf); first | (simp_all [Bool.and_assoc]; done) | (simp_all [Bool.and_assoc]; omega)), trivial⟩
         ·refine U8 ?_; refine It ?_; exact hK _ ⟨(by (conv => lhs; whnf); first | (simp_all [Bool.and_assoc]; done) | (simp_all [Bool.and_assoc]; omega)), trivial⟩
        ·refine Au f_ rfl Aa () (by simp_all [Mu, Bool.and_assoc]) (fun w hs => hs.none)
       ·refine Hk ?_; refine A9 (fun h95 => ?_) (fun h95 => ?_)
        ·refine Jd ?_; refine Cb ([(6, .bool (A5 t.r && within t.r dims))]) (fun hK => ?_) (fun base => ?_)
         ·refine Is ?_; refine q0 rfl (A0 call193 ((Jz hf (by simp_all)).2.1 t.r vr) (fun x99 => ?_)); refine Ez ?_; refine qI rfl rfl rfl Nh (fun hg100 => U2 ?_) (fun hg100 => ?_)
          ·refine Q3 ?_; refine Mj ?_; refine qT rfl rfl rfl (A0 call192 (Ly (Jz hf (by simp_all)).2.2 t.r vr dims hd hl) (fun x104 => ?_)); refine Iu ?_; exact hK _ ⟨(by (conv => lhs; whnf); first | (simp_all [Bool.and_assoc]; done) | (simp_all [Bool.and_assoc]; omega)), trivial⟩
          ·refine U8 ?_; refine It ?_; exact hK _ ⟨(by (conv => lhs; whnf); first | (simp_all [Bool.and_assoc]; done) | (simp_all [Bool.and_assoc]; omega)), trivial⟩
         ·refine Au f_ rfl Aa () (by simp_all [Mu, Bool.and_assoc]) (fun w hs => hs.none)
        ·refine Rg ?_; refine Jd ?_; refine Me ?_; refine Fg (X := Nat) (fun i => i ≤ t.sys.length ∧ ∀ j, j < i → Ro t dims (t.sys.getD j Bj) = true) (fun i => [(2, iv dims), (3, pz b3), (107, sl vs t.sys.length), (108, iv (t.sys.length : Int)), (109, iv (i : Int))]) (fun i => BLx t.sys vs VF VK2 :: RT t vr vk vs :: []) (fun i => [Ad b3 (tc t vr vk vs) 26]) (fun i => t.sys.length - i) (0) (⟨Nat.zero_le _, fun j hj => by omega⟩) (by exact E1) ?_ ?_
         ·exact fun w hs => hs.l9
         ·intro i base0 ⟨hi, hok⟩ next0; refine Ek ?_; refine A9 (fun h110 => ?_) (fun h110 => ?_)
          ·have hlt : i < t.sys.length := by have := of_decide_eq_true h110; omega
           obtain ⟨bk, o, hav⟩ := hA2 A4; refine Gq ?_; refine Tx ?_; refine A9d ?_; refine q0 rfl (B3 fun b8 => ?_); refine J5 ?_; refine G9 i hlt ?_; refine Cb ([(2, iv dims), (3, pz b3), (107, sl vs t.sys.length), (108, iv (t.sys.length : Int)), (109, iv (i : Int)), (132, .bool (!(Ro t dims (t.sys.getD i Bj))))]) (fun hK => ?_) (fun base => ?_)
           ·refine Bk (pn := 1000000) (tn := false) (A := [0, 1, 3, 0, 8, 24, 63, 127, 255, 511, 1023, 2047, 4095, 8191, 16383, 32767, 16383, 131071, 262143, 524287]) (l := [0, 1, 2, 3, 4, 5, 6, 7, 8, 9, 10, 11, 12, 13, 14, 15, 16, 17, 18, 19]) (fin := []) Tab.mixed ⟨_, func105⟩ (by rfl) ?_; refine Iz ?_; refine n0 rfl (A5z ?_); refine Iz ?_; refine n0 rfl (B7 call190 (Nt t.kind) (fun x118 => ?_)); refine n0 rfl (A5y ?_); refine F1 ?_; refine nI rfl rfl rfl Nh (fun hg120 => Tz ?_) (fun hg120 => ?_)
            ·refine Rn ?_; refine nT rfl rfl rfl (B7 call193 ((B6f hf hlt).2.1 _ (VF i)) (fun x123 => ?_)); refine nT rfl rfl rfl (Yz ?_); refine B2o ?_; refine F1 ?_; refine nI rfl rfl rfl Nh (fun hg126 => Tz ?_) (fun hg126 => ?_)
             ·refine Rn ?_; refine A0n ?_; refine nT rfl rfl rfl (B7 call192 (Ly (B6f hf hlt).2.2 _ (VF i) dims hd hl) (fun x130 => ?_)); refine nT rfl rfl rfl (Yz ?_); refine U9 ?_; exact hK _ ⟨rfl, rfl, rfl, rfl, rfl, (by (conv => lhs; whnf); first | (simp_all [Ro]; done) | (simp_all [Ro]; omega)), trivial⟩
             ·refine Jq ?_; refine Jq ?_; refine Vk ?_; refine Uu ?_; exact hK _ ⟨rfl, rfl, rfl, rfl, rfl, (by (conv => lhs; whnf); first | (simp_all [Ro]; done) | (simp_all [Ro]; omega)), trivial⟩
            ·refine Rx ?_; refine Vk ?_; refine F1 ?_; refine Jq ?_; refine Rx ?_; refine Vk ?_; refine Uu ?_; exact hK _ ⟨rfl, rfl, rfl, rfl, rfl, (by (conv => lhs; whnf); first | (simp_all [Ro]; done) | (simp_all [Ro]; omega)), trivial⟩
           ·refine A9 (fun h132 => ?_) (fun h132 => ?_)
            ·refine Co ?_; have ha := B2c hlt (by simpa using h132); refine Au f_ rfl Aa () (by rw [Mu, ha]; clear hok ha h132; simp_all [Bool.and_assoc]) (fun w hs => hs.none)
            ·refine Gr ?_; have hb : Ro t dims (t.sys.getD i Bj) = true := by simpa using h132
             refine A1 (fun w hs => ?_) (next0 (i + 1) _ ⟨hlt, fun j hj => (by rcases Nat.lt_succ_iff_lt_or_eq.mp hj with h | h; exact hok j h; subst h; exact hb)⟩ A4 E1); exact (hs.l9).drop
          ·have hge : i = t.sys.length := by have := of_decide_eq_false h110; omega
           refine H3 ?_; refine Iv ?_; refine K5 ?_; refine Xk ?_; have ha := D4j (t := t) (g := Ro t dims) (by rw [← hge]; exact hok); refine Au f_ rfl Aa () (by rw [Mu, ha]; clear hok ha; simp_all [Bool.and_assoc]) (fun w hs => hs.none)
abbrev D4r (t : T) : Prop := (Np t = true ∨ C1i) → ∀ (vars dims : Int) (bound : Bool) vr vk vs, Ap vars → 0 ≤ dims → dims + depth t ≤ 1152921504606846976 → Spec prog 60 #[.agg (tc t vr vk vs).toArray, iv vars, iv dims, .bool bound] [RT t vr vk vs] [] (fun _ : Unit => .bool (U4 t vars dims bound)) (fun _ => []) (fun _ => [])
abbrev E5g (b1 b2 b3 : Nat) : List Value := [pz b1, pz b2, pz b3]
abbrev E5f (b1 b2 b3 : Nat) (vars dims : Int) (bound : Bool) : List Be := [Ad b1 [iv vars] 3, Ad b2 [iv dims] 3, Ad b3 [.bool bound] 4]
def R5 (v d : Int) : Prop := 0 ≤ v ∧ v ≤ 1 ∧ 0 ≤ d ∧ d ≤ 1
theorem D4c (k i : Int) : R5 (binds k i).1 (binds k i).2 := by
 unfold binds R5; repeat (split; (simp))
 simp
theorem D0q {t : T} {k : T} {v d : Int} (h : (k, v, d) ∈ parts t) : R5 v d := by
 have hk : ∀ (kind : Int) (i : Nat) (ks : List T), (k, v, d) ∈ Ee kind i ks → R5 v d := by
  intro kind i ks
  induction ks generalizing i with
  | nil => intro h; simp [Ee] at h
  | cons a ks ih =>
   intro h; simp only [Ee, List.mem_cons] at h; rcases h with h | h
   ·have e : (v, d) = binds kind i := (Prod.mk.inj h).2; have := D4c kind i; rw [← e] at this; exact this
   ·exact ih _ h
 have hs : ∀ (kind : Int) (bs : List Br), (k, v, d) ∈ Ec kind bs → R5 v d := by
  intro kind bs
  induction bs with
  | nil => intro h; simp [Ec] at h
  | cons b bs ih =>
   intro h; simp only [Ec, List.mem_append, List.mem_map] at h; rcases h with ⟨a, ha, e⟩ | h
   ·have e2 := (Prod.mk.inj e).2; have e3 := (Prod.mk.inj e2); rw [← e3.1, ← e3.2]; unfold R5 more; split <;> simp
   ·exact ih h
 unfold parts at h; rcases List.mem_append.mp h with h | h
 ·exact hk _ _ _ h
 ·exact hs _ _ h
theorem C7n {t : T} {p : Part} (h : p ∈ parts t) : depth p.1 < depth t := by
 obtain ⟨m, hm⟩ := List.mem_iff_getElem?.mp h; exact C0o hm
theorem C8b (k : T) (vr vk vs : SH) (b1 b2 b3 : Nat) (vars dims v d : Int) (bound : Bool) (hv : Ap vars) (h0 : 0 ≤ dims) (hvd : R5 v d) (hl : dims + 1 + depth k ≤ 1152921504606846976) (hp : Np k = true ∨ C1i) (ih : D4r k) : Spec prog 107 #[.agg (tc k vr vk vs).toArray, iv v, iv d, pz b1, pz b2, pz b3] [RT k vr vk vs] (E5f b1 b2 b3 vars dims bound) (fun _ : Unit => .bool (U4 k (IntKind.i64.wrap (vars + if vars < 0 then 0 else v)) (dims + d) bound)) (fun _ => []) (fun _ => E5f b1 b2 b3 vars dims bound) := by
 refine Dd ntmps107 fun B hB => ?_
 obtain ⟨hv0, hv1, hd0, hd1⟩ := hvd; refine Ax ?_; refine q0 rfl (B0 fun b6 => ?_); refine Hb ?_; refine Ax ?_; refine Q5 ?_; refine Xl ?_; refine Kz ?_; refine Cb ([(1, iv (if vars < 0 then 0 else v)), (2, iv d), (3, pz b1), (4, pz b2), (5, pz b3), (6, pz b6)]) (fun hK => ?_) (fun base => ?_)
 ·refine A9 (fun h11 => ?_) (fun h11 => ?_)
  ·refine Jm ?_; refine Ct ?_; exact hK _ ⟨(by first | (rw [if_pos (of_decide_eq_true h11)]; rfl) | (rw [if_neg (of_decide_eq_false h11)]; rfl)), rfl, rfl, rfl, rfl, rfl, trivial⟩
  ·refine Ij ?_; exact hK _ ⟨(by first | (rw [if_pos (of_decide_eq_true h11)]; rfl) | (rw [if_neg (of_decide_eq_false h11)]; rfl)), rfl, rfl, rfl, rfl, rfl, trivial⟩
 ·refine Fm ?_; refine Q5 ?_; refine Ez ?_; refine q0 rfl (E1c ?_); refine Q5 ?_; refine Ez ?_; refine Uw ?_; refine Q5 ?_; refine q0 rfl (A0 call60 (ih hp (IntKind.i64.wrap (vars + if vars < 0 then 0 else v)) (dims + d) bound vr vk vs (D4y _) A4 A4) (fun x20 => ?_)); refine Ct ?_; refine Au f_ rfl Aa () rfl (fun w hs => (hs.l8).drop)
theorem D4i (t : T) (hp : Np t = true ∨ C1i) (ih : ∀ p, p ∈ parts t → D4r p.1) (vars dims : Int) (bound : Bool) (vr vk vs : SH) (hv : Ap vars) (h0 : 0 ≤ dims) (hl : dims + depth t ≤ 1152921504606846976) : Spec prog 60 #[.agg (tc t vr vk vs).toArray, iv vars, iv dims, .bool bound] [RT t vr vk vs] [] (fun _ : Unit => .bool (U4 t vars dims bound)) (fun _ => []) (fun _ => []) := by
 refine Dd ntmps60 fun B hB => ?_
 refine Ax ?_; refine q0 rfl (B0 fun b4 => ?_); refine q0 rfl (B0 fun b5 => ?_); refine q0 rfl (B0 fun b6 => ?_); refine q0 rfl (B0 fun b7 => ?_); refine Ua ?_; refine Cb ([(4, pz b4), (5, pz b5), (6, pz b6), (7, pz b7), (20, .bool ((bound && decide (24 < dims)) || !(Mu t vars dims)))]) (fun hK => ?_) (fun base => ?_)
 ·refine Jm ?_; refine Q5 ?_; refine Ez ?_; refine qI rfl rfl rfl Nh (fun hg10 => E1a ?_) (fun hg10 => ?_)
  ·refine A9c ?_; refine B2s ?_; refine qI rfl rfl rfl Nh (fun hg14 => Oo ?_) (fun hg14 => ?_)
   ·refine Q3 ?_; refine Q3 ?_; refine qT rfl rfl rfl (A0 call105 (B4j t (A1p hp) vr vk vs vars dims h0 (by unfold Ap; omega)) (fun x18 => ?_)); refine A9b ?_; refine J2 ?_; exact hK _ ⟨rfl, rfl, rfl, rfl, (by (conv => lhs; whnf); first | (simp_all [Bool.and_assoc]; done) | (simp_all [Bool.and_assoc]; omega)), trivial⟩
   ·refine Jp ?_; refine Mi ?_; exact hK _ ⟨rfl, rfl, rfl, rfl, (by (conv => lhs; whnf); first | (simp_all [Bool.and_assoc]; done) | (simp_all [Bool.and_assoc]; omega)), trivial⟩
  ·refine zq5 ?_; refine J3 ?_; refine qT rfl rfl rfl (Oo ?_); refine Q3 ?_; refine Q3 ?_; refine qT rfl rfl rfl (A0 call105 (B4j t (A1p hp) vr vk vs vars dims h0 (by unfold Ap; omega)) (fun x18 => ?_)); refine A9b ?_; refine J2 ?_; exact hK _ ⟨rfl, rfl, rfl, rfl, (by (conv => lhs; whnf); first | (simp_all [Bool.and_assoc]; done) | (simp_all [Bool.and_assoc]; omega)), trivial⟩
 ·refine A9 (fun h20 => ?_) (fun h20 => ?_)
  ·refine Co ?_; refine Au f_ rfl Aa () (by rw [B2d, h20]; rfl) (fun w hs => hs.none)
  ·refine Ij ?_; refine Fm ?_; refine L0 ?_; have hE := A8f t vr vk vs 107 (E5g b5 b6 b7) [] (E5f b5 b6 b7 vars dims bound) (fun p => U4 p.1 (IntKind.i64.wrap (vars + if vars < 0 then 0 else p.2.1)) (dims + p.2.2) bound) call107 (fun k v d hm vr vk vs => C8b k vr vk vs b5 b6 b7 vars dims v d bound hv h0 (D0q hm) (by have := C7n hm; simp only at this; omega) (B9a hp hm) (ih _ hm)); refine q0 rfl (A0 call106 (hE) (fun x23 => ?_)); refine Ct ?_; refine Au f_ rfl Aa () (by rw [B2d, h20]; rfl) (fun w hs => hs.none)
theorem B7q : ∀ t : T, D4r t := T.ind fun t ih hp vars dims bound vr vk vs hv h0 hl => D4i t hp ih vars dims bound vr vk vs hv h0 hl
theorem B8r (t : T) (hp : Np t = true ∨ C1i) (vr vk vs : SH) (vars dims : Int) (hv : Ap vars) (hsz : size t ≤ 1152921504606846) : Spec prog 22 #[.agg (tc t vr vk vs).toArray, iv vars, iv dims] [RT t vr vk vs] [] (fun _ : Unit => iv (Eu t vars dims)) (fun _ => []) (fun _ => []) := by
 refine Dd ntmps22 fun B hB => ?_
 have hds := Ht t; refine Ax ?_; refine q0 rfl (B0 fun b3 => ?_); refine Ua ?_; refine Cb ([(1, iv vars), (2, iv dims), (3, pz b3), (17, .bool (decide (vars < 0) || decide (dims < 0) || decide (24 < dims)))]) (fun hK => ?_) (fun base => ?_)
 ·refine Ea ?_; refine Xl ?_; refine Ez ?_; refine qI rfl rfl rfl Nh (fun hg10 => G4 ?_) (fun hg10 => ?_)
  ·refine B7z ?_; refine J3 ?_; refine qI rfl rfl rfl Nh (fun hg14 => G4 ?_) (fun hg14 => ?_)
   ·refine A9c ?_; refine J2 ?_; exact hK _ ⟨rfl, rfl, rfl, (by (conv => lhs; whnf); first | (simp_all [Bool.and_assoc]; done) | (simp_all [Bool.and_assoc]; omega)), trivial⟩
   ·refine U7 ?_; exact hK _ ⟨rfl, rfl, rfl, (by (conv => lhs; whnf); first | (simp_all [Bool.and_assoc]; done) | (simp_all [Bool.and_assoc]; omega)), trivial⟩
  ·refine Ry ?_; refine Mi ?_; exact hK _ ⟨rfl, rfl, rfl, (by (conv => lhs; whnf); first | (simp_all [Bool.and_assoc]; done) | (simp_all [Bool.and_assoc]; omega)), trivial⟩
 ·refine A9 (fun h17 => ?_) (fun h17 => ?_)
  ·refine Co ?_; refine Au f_ rfl Aa () (by rw [Eu, if_pos h17]) (fun w hs => hs.none)
  ·have hb : 0 ≤ vars ∧ 0 ≤ dims ∧ dims ≤ 24 := by simp at h17; omega
   refine J0 ?_; refine Fm ?_; refine q0 rfl (A0 call59 (A1b t vr vk vs) (fun x19 => ?_)); refine Lv ?_; refine A9 (fun h21 => ?_) (fun h21 => ?_)
   ·have hs := of_decide_eq_true h21; refine J4 ?_; refine Au f_ rfl Aa () (by rw [Eu, if_neg (by rw [h17]; simp), if_pos hs]) (fun w hs => hs.none)
   ·have hs := of_decide_eq_false h21; refine J0 ?_; refine Fm ?_; refine Gs ?_; refine q0 rfl (A0 call60 (B7q t hp vars dims true vr vk vs hv A4 A4) (fun x26 => ?_)); refine Lw ?_; refine A9 (fun h27 => ?_) (fun h27 => ?_)
    ·refine Co ?_; refine Au f_ rfl Aa () (by rw [Eu, if_neg (by rw [h17]; simp), if_neg hs]; simp_all) (fun w hs => hs.none)
    ·refine Ij ?_; refine Co ?_; refine Au f_ rfl Aa () (by rw [Eu, if_neg (by rw [h17]; simp), if_neg hs]; simp_all) (fun w hs => hs.none)
theorem Jy (t : T) (hp : Np t = true ∨ C1i) (vr vk vs : SH) (hsz : size t ≤ 1152921504606846) : Spec prog 39 #[.agg (tc t vr vk vs).toArray] [RT t vr vk vs] [] (fun _ : Unit => iv (Ah t)) (fun _ => []) (fun _ => []) := by
 refine Dd ntmps39 fun B hB => ?_
 have hds := Ht t; refine Ax ?_; refine q0 rfl (B0 fun b1 => ?_); refine Hb ?_; refine Fm ?_; refine q0 rfl (A0 call59 (A1b t vr vk vs) (fun x5 => ?_)); refine Lv ?_; refine A9 (fun h7 => ?_) (fun h7 => ?_)
 ·have hs := of_decide_eq_true h7; refine J4 ?_; refine Au f_ rfl Aa () (by rw [Ah, if_pos hs]) (fun w hs => hs.none)
 ·have hs := of_decide_eq_false h7; refine J0 ?_; refine Fm ?_; refine q0 rfl (A0 call60 (B7q t hp (-1) 24 false vr vk vs (by unfold Ap; omega) A4 A4) (fun x10 => ?_)); refine Lw ?_; refine A9 (fun h11 => ?_) (fun h11 => ?_)
  ·refine Co ?_; refine Au f_ rfl Aa () (by rw [Ah, if_neg hs]; simp_all) (fun w hs => hs.none)
  ·refine Ij ?_; refine Co ?_; refine Au f_ rfl Aa () (by rw [Ah, if_neg hs]; simp_all) (fun w hs => hs.none)
theorem C0d (l : List Part) (a : Nat) : l.foldl (fun a p => a + size p.1) a = a + (l.map fun p => size p.1).sum := by
 induction l generalizing a with
 | nil => simp
 | cons b l ih => rw [List.foldl_cons, ih]; simp; omega
theorem C9i (t : T) : size t = 1 + ((parts t).map fun p => size p.1).sum := by rw [size_eq, C0d]
theorem Uk (t : T) : size t = 1 + (t.kids.map size).sum + ((t.sys.map fun b => b.kids.map size).flatten).sum := by
 rw [C9i, N7, List.sum_append]; omega
theorem D4z {n : Int} (h : Ap n) : IntKind.i64.wrap n = n := by rw [IntKind.wrap_i64]; unfold Ap at h; omega
theorem V0 {t : T} : sized t = 0 ↔ depth t ≤ 200 ∧ size t ≤ 20000 := by
 unfold sized
 split
 ·simp; omega
 ·split
  ·simp; omega
  ·simp; omega
theorem B8q {t : T} {v d : Int} : Eu t v d = 0 ↔ 0 ≤ v ∧ 0 ≤ d ∧ d ≤ 24 ∧ sized t = 0 ∧ U4 t v d true = true := by
 unfold Eu
 split
 ·rename_i h
  simp only [Bool.or_eq_true, decide_eq_true_eq] at h
  constructor
  ·intro h2; cases h2
  ·intro h2; omega
 ·rename_i h
  simp only [Bool.or_eq_true, decide_eq_true_eq] at h
  split
  ·rename_i h2; constructor
   ·intro h3; exact absurd h3 h2
   ·intro h3; exact absurd h3.2.2.2.1 h2
  ·rename_i h2
   have h2 : sized t = 0 := by simpa using h2
   split
   ·rename_i h3; simp only [h2, h3, and_self, and_true, true_iff]; omega
   ·rename_i h3; simp only [h3]; constructor
    ·intro h4; cases h4
    ·intro h4; exact absurd h4.2.2.2.2 Iy
theorem B6e {t : T} : Ah t = 0 ↔ sized t = 0 ∧ U4 t (-1) 24 false = true := by
 unfold Ah
 split
 ·rename_i h; constructor
  ·intro h2; exact absurd h2 h
  ·intro h2; exact absurd h2.1 h
 ·rename_i h
  have h : sized t = 0 := by simpa using h
  split
  ·rename_i h3; simp [h, h3]
  ·rename_i h3; simp [h3]
def Fa (s : Nat) (i : Int) : Nat := if 0 ≤ i ∧ i < 24 then ((s &&& 16777215) &&& (2 ^ i.toNat - 1)) ||| ((s &&& 16777215) / 2 ^ (i.toNat + 1) * 2 ^ i.toNat) else s &&& 16777215
theorem Ig (s : Nat) : s &&& 16777215 < 16777216 := by rw [A4f]; exact Nat.mod_lt _ Iy
theorem Xc (s : Nat) (i : Int) : Fa s i < 16777216 := by
 have h := Ig s
 unfold Fa
 split
 ·refine Nat.or_lt_two_pow (n := 24) (Nat.lt_of_le_of_lt Nat.and_le_left h) ?_
  generalize s &&& 16777215 = q at *
  have h1 : q / 2 ^ (i.toNat + 1) * 2 ^ i.toNat ≤ q / 2 ^ i.toNat * 2 ^ i.toNat := Nat.mul_le_mul_right _ (Nat.div_le_div_left (Nat.pow_le_pow_right A4 A4) (Nat.pow_pos A4))
  have h2 := Nat.div_mul_le_self q (2 ^ i.toNat)
  show _ < 16777216
  omega
 ·exact h
theorem A3m (l : List Cl) : G3 l < 16777216 := by rw [B6o]; exact Ig _
def Ae (s : Nat) (f b : Int) : Int × Nat :=
 if f < 0 ∨ b < 0 then (2, 0) else
 if Bg (s &&& 16777215) (2 ^ (min f.toNat 24) - 1) = 0 then (0, (s &&& 16777215) &&& (2 ^ (min f.toNat 24) - 1)) else
 if 24 ≤ b ∨ 16777215 < Bg (s &&& 16777215) (2 ^ (min f.toNat 24) - 1) * 2 ^ b.toNat then (10, 0) else
 (0, ((s &&& 16777215) &&& (2 ^ (min f.toNat 24) - 1)) ||| (Bg (s &&& 16777215) (2 ^ (min f.toNat 24) - 1) * 2 ^ b.toNat))
theorem Fk (a b i : Nat) : (Bg a b).testBit i = (decide (i < 32) && a.testBit i && !b.testBit i) := by
 unfold Bg
 rw [BitVec.testBit_toNat]
 by_cases h : i < 32
 ·rw [BitVec.getLsbD_and, BitVec.getLsbD_not, BitVec.getLsbD_ofNat, BitVec.getLsbD_ofNat]
  simp [h]
 ·have : (BitVec.ofNat 32 a &&& ~~~BitVec.ofNat 32 b).getLsbD i = false := BitVec.getLsbD_of_ge _ _ A4
  rw [this]; simp [h]
theorem E6 (s i : Nat) : (s &&& 16777215).testBit i = (decide (i < 24) && s.testBit i) := by
 rw [A4f, Nat.testBit_mod_two_pow]
theorem Kl (m i : Nat) : (2 ^ m - 1).testBit i = decide (i < m) := Nat.testBit_two_pow_sub_one m i
theorem A8w {q m : Nat} (h : q < 16777216) : Bg q m < 16777216 := by
 refine Nat.lt_pow_two_of_testBit (n := 24) _ (fun i hi => ?_)
 rw [Fk, Nat.testBit_lt_two_pow (x := q) (Nat.lt_of_lt_of_le h (Nat.pow_le_pow_right (n := 2) Iy hi))]
 simp
theorem H7 (s : Nat) (f b : Int) : (Ae s f b).2 < 16777216 := by
 unfold Ae
 split
 ·decide
 ·split
  ·exact Nat.lt_of_le_of_lt Nat.and_le_left (Ig s)
  ·split
   ·decide
   ·refine Nat.or_lt_two_pow (n := 24) ?_ ?_
    ·exact Nat.lt_of_le_of_lt Nat.and_le_left (Ig s)
    ·rename_i h; simp only [not_or] at h; have := h.2; omega
def B1 (c : Cl) (f b : Int) : Int × Cl :=
 if Ar c = false then (2, Bo) else
 if (Ae c.pos f b).1 ≠ 0 then ((Ae c.pos f b).1, Bo) else
 if (Ae c.neg f b).1 ≠ 0 then ((Ae c.neg f b).1, Bo) else
 (0, ⟨(Ae c.pos f b).2, (Ae c.neg f b).2⟩)
theorem Vb (c : Cl) (f b : Int) : u32 (B1 c f b).2 := by
 have h1 := H7 c.pos f b
 have h2 := H7 c.neg f b
 unfold B1
 split
 ·exact ⟨(by decide : (0 : Nat) < 4294967296), (by decide : (0 : Nat) < 4294967296)⟩
 ·split
  ·exact ⟨(by decide : (0 : Nat) < 4294967296), (by decide : (0 : Nat) < 4294967296)⟩
  ·split
   ·exact ⟨(by decide : (0 : Nat) < 4294967296), (by decide : (0 : Nat) < 4294967296)⟩
   ·exact ⟨by show (Ae c.pos f b).2 < _; omega, by show (Ae c.neg f b).2 < _; omega⟩
def Fh (g : Cl → Int × Cl) (l : List Cl) : Int × List Cl := match l.find? (fun c => (g c).1 ≠ 0) with
 | some c => ((g c).1, [])
 | none => (0, l.map fun c => (g c).2)
theorem C6x {g : Cl → Int × Cl} {l : List Cl} {i : Nat} (hi : i < l.length) (h0 : ∀ j, j < i → (g (l.getD j Bo)).1 = 0) (h : (g (l.getD i Bo)).1 ≠ 0) : Fh g l = ((g (l.getD i Bo)).1, []) := by
 have : l.find? (fun c => (g c).1 ≠ 0) = some (l.getD i Bo) := by
  rw [List.find?_eq_some_iff_getElem]
  rw [Cw (d := Bo) hi] at h ⊢
  refine ⟨by simpa using h, i, hi, rfl, fun j hj => ?_⟩
  have := h0 j hj
  rw [Cw (d := Bo) A4] at this
  simp [this]
 rw [Fh, this]
theorem A3i {g : Cl → Int × Cl} {l : List Cl} (h0 : ∀ j, j < l.length → (g (l.getD j Bo)).1 = 0) : Fh g l = (0, l.map fun c => (g c).2) := by
 have : l.find? (fun c => (g c).1 ≠ 0) = none := by
  rw [List.find?_eq_none]
  intro x hx
  obtain ⟨j, hj, e⟩ := List.mem_iff_getElem.mp hx
  have := h0 j hj
  rw [Cw (d := Bo) hj, e] at this
  simp [this]
 rw [Fh, this]
theorem Yg {g : Cl → Int × Cl} {l : List Cl} : (Fh g l).1 = 0 ↔ ∀ c, c ∈ l → (g c).1 = 0 := by
 unfold Fh
 cases h : l.find? (fun c => (g c).1 ≠ 0) with
 | none =>
  rw [List.find?_eq_none] at h
  simp only [true_iff]
  intro c hc
  simpa using h c hc
 | some c =>
  have h1 := List.find?_some h
  have h2 := List.mem_of_find?_eq_some h
  simp only
  refine ⟨fun h3 => ?_, fun h3 => h3 c h2⟩
  simp at h1; exact absurd h3 h1
theorem A8a {g : Cl → Int × Cl} {l : List Cl} (h : (Fh g l).1 = 0) : Fh g l = (0, l.map fun c => (g c).2) :=
 A3i fun j hj => Yg.mp h _ (Ac hj)
theorem Lt {l : List Cl} : A6 l = true ↔ Bb l = (0, l) := by
 rw [← Wv, Bool.and_eq_true, decide_eq_true_eq, decide_eq_true_eq]
 constructor
 ·rintro ⟨h1, h2⟩; exact Prod.ext h1 h2
 ·intro h; rw [h]; exact ⟨rfl, rfl⟩
def A3 (l : List Cl) (f b : Int) : Int × List Cl :=
 if A6 l = false then (2, []) else
 if (Fh (fun c => B1 c f b) l).1 ≠ 0 then ((Fh (fun c => B1 c f b) l).1, []) else Bb (Fh (fun c => B1 c f b) l).2
def Aq (by_ : Int) (l : List Cl) (f : Int) : Ab (List Cl) :=
 if by_ = 0 ∨ 24 ≤ f then .ok l else if (A3 l f by_).1 = 0 then .ok (A3 l f by_).2 else .bad (A3 l f by_).1
def As (vb db : Int) : Tr (Int × Int) where
 own c k n _ r := (Aq db r c.2).bind fun r' => if k = 1 ∧ c.1 ≤ n then (if 1000000000 - vb < n then .bad 100 else .ok (.inr (n + vb, r'))) else .ok (.inr (n, r'))
 Al c f := (Aq db f c.2).bind fun f' => .ok (some f')
 Jf c b := .ok (c.1 + b.1, c.2 + b.2)
section
variable {C : Type} {A : Tr C} {t : T} {c : C} {e : Int}
theorem Mn (h : A.own c t.kind t.n t.name t.r = .bad e) : B8 A t c = .bad e := by rw [Da, h]; rfl
theorem Q7 {p : Int × List Cl} {i : Nat} {l : List T} (h : A.own c t.kind t.n t.name t.r = .ok (.inr p)) (hi : i < t.kids.length) (hl : Cm A t.kind 0 (t.kids.take i) c = .ok l) {c' : C} (hc : A.Jf c (binds t.kind i) = .ok c') (hb : B8 A (t.kids.getD i t0) c' = .bad e) : B8 A t c = .bad e := by
 have h1 : Cm A t.kind 0 (t.kids.take (i + 1)) c = .bad e := by
  rw [Ai (d := t0) hi, Qa, hl]
  simp only [Ab.bind, List.length_take, Nat.zero_add, Nat.min_eq_left (Nat.le_of_lt hi)]
  rw [hc]; simp only; rw [hb]
 have h2 := Xt (m := t.kids.drop (i + 1)) h1
 rw [List.take_append_drop] at h2
 rw [Da, h]; simp only [Ab.bind]; rw [h2]
theorem S1 {k : Int} {ts : List T} {i : Nat} {l : List T} {u : T} (hi : i < ts.length) (hl : Cm A k 0 (ts.take i) c = .ok l) {c' : C} (hc : A.Jf c (binds k i) = .ok c') (hb : B8 A (ts.getD i t0) c' = .ok u) : Cm A k 0 (ts.take (i + 1)) c = .ok (l ++ [u]) := by
 rw [Ai (d := t0) hi, Qa, hl]
 simp only [Ab.bind, List.length_take, Nat.zero_add, Nat.min_eq_left (Nat.le_of_lt hi)]
 rw [hc]; simp only; rw [hb]
theorem Q9 {k : Int} {ts : List T} {i : Nat} {l : List T} (hi : i < ts.length) (hl : C2 A k (ts.take i) c = .ok l) {c' : C} (hc : A.Jf c (0, more k) = .ok c') (hb : B8 A (ts.getD i t0) c' = .bad e) : C2 A k ts c = .bad e := by
 have h1 : C2 A k (ts.take (i + 1)) c = .bad e := by
  rw [Ai (d := t0) hi, Q8, hl]
  simp only [Ab.bind]
  rw [hc]; simp only; rw [hb]
 have h2 := Xr (m := ts.drop (i + 1)) h1
 rwa [List.take_append_drop] at h2
theorem S2 {k : Int} {ts : List T} {i : Nat} {l : List T} {u : T} (hi : i < ts.length) (hl : C2 A k (ts.take i) c = .ok l) {c' : C} (hc : A.Jf c (0, more k) = .ok c') (hb : B8 A (ts.getD i t0) c' = .ok u) : C2 A k (ts.take (i + 1)) c = .ok (l ++ [u]) := by
 rw [Ai (d := t0) hi, Q8, hl]
 simp only [Ab.bind]
 rw [hc]; simp only; rw [hb]
theorem K9 {p : Int × List Cl} {s : Nat} {l : List T} {bs : List Br} (h : A.own c t.kind t.n t.name t.r = .ok (.inr p)) (hl : Cm A t.kind 0 t.kids c = .ok l) (hs : s < t.sys.length) (hb : C9 A t.kind (t.sys.take s) c = .ok bs) (hf : A.Al c (t.sys.getD s Bj).Al = .bad e ∨ ∃ f', A.Al c (t.sys.getD s Bj).Al = .ok (some f') ∧ C2 A t.kind (t.sys.getD s Bj).kids c = .bad e) : B8 A t c = .bad e := by
 have h1 : C9 A t.kind (t.sys.take (s + 1)) c = .bad e := by
  rw [Ai (d := Bj) hs, Nk, hb]
  simp only [Ab.bind]
  rcases hf with hf | ⟨f', hf, h2⟩
  ·rw [hf]
  ·rw [hf]; simp only; rw [h2]
 have h2 := T5 (m := t.sys.drop (s + 1)) h1
 rw [List.take_append_drop] at h2
 rw [Da, h]; simp only [Ab.bind]; rw [hl]; simp only; rw [h2]
theorem Oh {k : Int} {ss : List Br} {s : Nat} {bs : List Br} {f' : List Cl} {ks : List T} (hs : s < ss.length) (hb : C9 A k (ss.take s) c = .ok bs) (hf : A.Al c (ss.getD s Bj).Al = .ok (some f')) (hk : C2 A k (ss.getD s Bj).kids c = .ok ks) : C9 A k (ss.take (s + 1)) c = .ok (bs ++ [.mk f' ks]) := by
 rw [Ai (d := Bj) hs, Nk, hb]
 simp only [Ab.bind]
 rw [hf]; simp only; rw [hk]
theorem Uz {p : Int × List Cl} {l : List T} {bs : List Br} (h : A.own c t.kind t.n t.name t.r = .ok (.inr p)) (hl : Cm A t.kind 0 t.kids c = .ok l) (hb : C9 A t.kind t.sys c = .ok bs) : B8 A t c = .ok (.mk t.kind p.1 t.name p.2 l bs) := by
 rw [Da, h]; simp only [Ab.bind]; rw [hl]; simp only; rw [hb]
end
theorem A7z {g : Cl → Int × Cl} {l : List Cl} (h : ∀ c, u32 (g c).2) : ∀ c, c ∈ (Fh g l).2 → u32 c := by
 intro c hc
 unfold Fh at hc
 split at hc
 ·cases hc
 ·obtain ⟨d, _, rfl⟩ := List.mem_map.mp hc; exact h d
theorem C6w {g : Cl → Int × Cl} {l : List Cl} : (Fh g l).2.length ≤ l.length := by
 unfold Fh
 split <;> simp
theorem Tf (k : Int) : 0 ≤ more k ∧ more k ≤ 1 := by unfold more; split <;> omega
theorem Ol {t : T} {i : Nat} (h : i < t.kids.length) : size (t.kids.getD i t0) < size t := by
 obtain ⟨p, hp, e⟩ := Hs (Ac (d := t0) h); exact e ▸ Kc hp
theorem Oj {t : T} {s k : Nat} (h : s < t.sys.length) (h2 : k < (t.sys.getD s Bj).kids.length) : size ((t.sys.getD s Bj).kids.getD k t0) < size t := by
 obtain ⟨p, hp, e⟩ := Hr (Ac (d := Bj) h) (Ac (d := t0) h2); exact e ▸ Kc hp
def Du (vb : Int) (v : Int) (k n : Int) : Int := if k = 1 ∧ v ≤ n then n + vb else n
theorem D1r {vb db v d : Int} {t : T} {g : List Cl} (hg : Aq db t.r d = .ok g) (h : ¬ (t.kind = 1 ∧ v ≤ t.n ∧ 1000000000 - vb < t.n)) : (As vb db).own (v, d) t.kind t.n t.name t.r = .ok (.inr (Du vb v t.kind t.n, g)) := by
 simp only [As, hg, Ab.bind, Du]
 split
 ·rename_i h1
  rw [if_neg (fun h2 => h ⟨h1.1, h1.2, h2⟩)]
 ·rfl
theorem B0y {vb db v d : Int} {t : T} {e : Int} (hg : Aq db t.r d = .bad e) : (As vb db).own (v, d) t.kind t.n t.name t.r = .bad e := by
 simp only [As, hg, Ab.bind]
theorem B0z {vb db v d : Int} {t : T} {g : List Cl} (hg : Aq db t.r d = .ok g) (h : t.kind = 1 ∧ v ≤ t.n ∧ 1000000000 - vb < t.n) : (As vb db).own (v, d) t.kind t.n t.name t.r = .bad 100 := by
 simp only [As, hg, Ab.bind]
 rw [if_pos ⟨h.1, h.2.1⟩, if_pos h.2.2]
theorem Wp {vb db v d : Int} {f g : List Cl} (hg : Aq db f d = .ok g) : (As vb db).Al (v, d) f = .ok (some g) := by simp only [As, hg, Ab.bind]
theorem A5i {vb db v d : Int} {f : List Cl} {e : Int} (hg : Aq db f d = .bad e) : (As vb db).Al (v, d) f = .bad e := by simp only [As, hg, Ab.bind]
theorem Wo {vb db v d : Int} {b : Int × Int} : (As vb db).Jf (v, d) b = .ok (v + b.1, d + b.2) := rfl
theorem A6h {vb db : Int} {k : Int} {c : Int × Int} : ∀ {l l' : List Br}, C9 (As vb db) k l c = .ok l' → l'.length = l.length
 | [], l', h => by rw [C8] at h; injection h with h; subst h; rfl
 | a :: l, l', h => by
  rw [Cc] at h
  obtain ⟨o, ho, h⟩ := Ab.A2 h
  obtain ⟨g, _, hg⟩ := Ab.A2 (x := Aq db a.Al c.2) ho
  injection hg with hg
  subst hg
  obtain ⟨ks', _, h⟩ := Ab.A2 h
  obtain ⟨bs', h3, h⟩ := Ab.A2 h
  injection h with h
  subst h
  simp [A6h h3]
theorem Uo : h0.er = t0 := by simp [h0, HT.er, HT.erL, HT.erB, t0]
theorem St.h0R {B : Cj} {Γ : List Fact} {Ms : List Be} {w : World} (y : Tys) (hs : St B Γ Ms w) : St B Γ (Di (Gb y h0) :: Ms) w := by
 have h1 := ((((hs.Sv).Sv).Bh 2 y.b).Bh 6 y.t).Bh 2 y.c
 exact St.D2i (y := y) (k := 0) (n := 0) (nm := ByteArray.mk #[]) (r := []) (v := Bw) (u := Bw) (x := Bw) (ks := []) (ss := []) rfl rfl rfl rfl rfl rfl (by simpa [F9, Pz] using h1)
def Bz (t : T) (ns : List Int) (r : Ab T) : Int × T := if Ah t ≠ 0 then (Ah t, t0) else if ns.all (fun n => decide (0 ≤ n)) = false then (2, t0) else match r with
 | .ok u => (0, u)
 | .bad e => (e, t0)
theorem C0a {t : T} {ns : List Int} {r : Ab T} (h : Ah t ≠ 0) : Bz t ns r = (Ah t, t0) := by unfold Bz; rw [if_pos h]
theorem C6p {t : T} {ns : List Int} {r : Ab T} (h : Ah t = 0) (h2 : ns.all (fun n => decide (0 ≤ n)) = false) : Bz t ns r = (2, t0) := by unfold Bz; rw [if_neg (by simp [h]), if_pos h2]
theorem D2x {t u : T} {ns : List Int} {r : Ab T} (h : Ah t = 0) (h2 : ns.all (fun n => decide (0 ≤ n)) = true) (hr : r = .ok u) : Bz t ns r = (0, u) := by unfold Bz; rw [if_neg (by simp [h]), if_neg (by simp [h2]), hr]
theorem C6q {t : T} {e : Int} {ns : List Int} {r : Ab T} (h : Ah t = 0) (h2 : ns.all (fun n => decide (0 ≤ n)) = true) (hr : r = .bad e) : Bz t ns r = (e, t0) := by unfold Bz; rw [if_neg (by simp [h]), if_neg (by simp [h2]), hr]
theorem Spec.Ke {P : Program} {k : FuncId} {args : Array Value} {pre : List Fact} (y : Tys) {u : T} (g : Value → Value) (h : Spec P k args pre [] (fun x : {h : HT // h.er = u} => g (.agg (tc u x.1.vr x.1.vk x.1.vs).toArray)) (fun _ => []) (fun x => [Di (Gb y x.1)])) (hok : ∀ ok w, St ⟨ok, Bq [], w⟩ pre [] w → Rp u) :
  Spec P k args pre [] (fun x : SH × SH × SH => g (.agg (tc u x.1 x.2.1 x.2.2).toArray)) (fun x => [RT u x.1 x.2.1 x.2.2]) (fun _ => []) := fun ok w hk hs => (h ok w hk hs).mono fun e w' hh => by
 obtain ⟨x, he, hs'⟩ := hh
 have h1 : St ⟨ok, Bq [], w⟩ [] (Gb y x.1 ++ []) w' := hs'.unpack
 have h2 := St.Ke y trivial x.1 (by rw [x.2]; exact hok ok w hs) h1
 rw [x.2] at h2
 exact ⟨(x.1.vr, x.1.vk, x.1.vs), he, h2⟩
theorem L5.Ke {P : Program} {Te : TypeId} {k : FuncId} {args : Array Value} {pre : List Fact} (y : Tys) {r : Ab T} (h : L5 P Te k args pre r (fun (u : T) => fun x : {h : HT // h.er = u} => .agg (tc u x.1.vr x.1.vk x.1.vs).toArray) (fun _ _ => []) (fun (u : T) => fun x : {h : HT // h.er = u} => [Di (Gb y x.1)])) (hok : ∀ u, r = .ok u → ∀ ok w, St ⟨ok, Bq [], w⟩ pre [] w → Rp u) :
  L5 P Te k args pre r (fun (u : T) => fun x : SH × SH × SH => .agg (tc u x.1 x.2.1 x.2.2).toArray) (fun u x => [RT u x.1 x.2.1 x.2.2]) (fun _ _ => []) := ⟨fun u hu => Spec.Ke y (fun v => v) (h.1 u hu) (hok u hu), h.2⟩
abbrev Af (l : List Cl) : Prop := (∀ c, c ∈ l → u32 c) ∧ l.length * 8 ≤ reach
section
variable {C : Type} {A : Tr C}
mutual
theorem Vu (ho : ∀ c k n nm r p, Ap k → Ap n → Af r → A.own c k n nm r = .ok (.inr p) → Ap p.1 ∧ Af p.2) (hi : ∀ c k n nm r u, A.own c k n nm r = .ok (.inl u) → Rp u) (hf : ∀ c f f', Af f → A.Al c f = .ok (some f') → Af f') : ∀ (t : T) (c : C) (u : T), Rp t → B8 A t c = .ok u → Rp u
 | .mk k n nm r ks ss, c, u, h, hu => by
  simp only [Rp] at h
  obtain ⟨h1, h2, h3, h4, h5, h6, h7, h8⟩ := h
  rw [Da] at hu
  simp only [T.kind, T.n, T.name, T.r, T.kids, T.sys] at hu
  obtain ⟨o, h9, hu⟩ := Ab.A2 hu
  cases o with
  | inl v => injection hu with hu; subst hu; exact hi _ _ _ _ _ _ h9
  | inr p =>
   obtain ⟨ks', h10, hu⟩ := Ab.A2 hu
   obtain ⟨ss', h11, hu⟩ := Ab.A2 hu
   injection hu with hu
   subst hu
   obtain ⟨p1, p2⟩ := ho _ _ _ _ _ _ h1 h2 h4 h9
   simp only [Rp]
   exact ⟨h1, p1, h3, p2, by rw [Pe h10]; exact h5, Nat.le_trans (Nat.mul_le_mul_right _ (N2 h11)) h6, A6g ho hi hf ks 0 c ks' h7 h10, Xv ho hi hf ss c ss' h8 h11⟩
theorem A6g (ho : ∀ c k n nm r p, Ap k → Ap n → Af r → A.own c k n nm r = .ok (.inr p) → Ap p.1 ∧ Af p.2) (hi : ∀ c k n nm r u, A.own c k n nm r = .ok (.inl u) → Rp u) (hf : ∀ c f f', Af f → A.Al c f = .ok (some f') → Af f') {kd : Int} : ∀ (ts : List T) (i : Nat) (c : C) (us : List T), okL ts → Cm A kd i ts c = .ok us → okL us
 | [], i, c, us, h, hu => by rw [Ch] at hu; injection hu with hu; subst hu; simp only [okL]
 | t :: ts, i, c, us, h, hu => by
  simp only [okL] at h
  rw [Cr] at hu
  obtain ⟨c', _, hu⟩ := Ab.A2 hu
  obtain ⟨t', h2, hu⟩ := Ab.A2 hu
  obtain ⟨ts', h3, hu⟩ := Ab.A2 hu
  injection hu with hu
  subst hu
  simp only [okL]
  exact ⟨Vu ho hi hf t c' t' h.1 h2, A6g ho hi hf ts (i + 1) c ts' h.2 h3⟩
theorem A6e (ho : ∀ c k n nm r p, Ap k → Ap n → Af r → A.own c k n nm r = .ok (.inr p) → Ap p.1 ∧ Af p.2) (hi : ∀ c k n nm r u, A.own c k n nm r = .ok (.inl u) → Rp u) (hf : ∀ c f f', Af f → A.Al c f = .ok (some f') → Af f') {kd : Int} : ∀ (ts : List T) (c : C) (us : List T), okL ts → C2 A kd ts c = .ok us → okL us
 | [], c, us, h, hu => by rw [D3] at hu; injection hu with hu; subst hu; simp only [okL]
 | t :: ts, c, us, h, hu => by
  simp only [okL] at h
  rw [Cq] at hu
  obtain ⟨c', _, hu⟩ := Ab.A2 hu
  obtain ⟨t', h2, hu⟩ := Ab.A2 hu
  obtain ⟨ts', h3, hu⟩ := Ab.A2 hu
  injection hu with hu
  subst hu
  simp only [okL]
  exact ⟨Vu ho hi hf t c' t' h.1 h2, A6e ho hi hf ts c ts' h.2 h3⟩
theorem Xv (ho : ∀ c k n nm r p, Ap k → Ap n → Af r → A.own c k n nm r = .ok (.inr p) → Ap p.1 ∧ Af p.2) (hi : ∀ c k n nm r u, A.own c k n nm r = .ok (.inl u) → Rp u) (hf : ∀ c f f', Af f → A.Al c f = .ok (some f') → Af f') {kd : Int} : ∀ (bs : List Br) (c : C) (us : List Br), okB bs → C9 A kd bs c = .ok us → okB us
 | [], c, us, h, hu => by rw [C8] at hu; injection hu with hu; subst hu; simp only [okB]
 | .mk f ks :: bs, c, us, h, hu => by
  simp only [okB] at h
  obtain ⟨h1, h2, h3, h4⟩ := h
  rw [Cc] at hu
  simp only [Br.Al, Br.kids] at hu
  obtain ⟨o, h5, hu⟩ := Ab.A2 hu
  cases o with
  | none => exact Xv ho hi hf bs c us h4 hu
  | some f' =>
   obtain ⟨ks', h6, hu⟩ := Ab.A2 hu
   obtain ⟨bs', h7, hu⟩ := Ab.A2 hu
   injection hu with hu
   subst hu
   simp only [okB]
   exact ⟨hf _ _ _ h1 h5, by rw [Pd h6]; exact h2, A6e ho hi hf ks c ks' h3 h6, Xv ho hi hf bs c bs' h4 h7⟩
end
end
theorem Cd : Af [] := ⟨fun c hc => (by cases hc), by unfold reach; decide⟩
theorem A7x {l : List Cl} (h : ∀ c, c ∈ l → u32 c) : Af (Bb l).2 := by
 unfold Bb
 split
 ·exact Cd
 ·split
  ·exact Cd
  ·rename_i h64
   exact ⟨fun c hc => h c (Dy.mp hc).1, by show (E5 l).length * 8 ≤ reach; unfold reach; omega⟩
theorem K0 (l : List Cl) (f b : Int) : Af (A3 l f b).2 := by
 unfold A3
 split
 ·exact Cd
 ·split
  ·exact Cd
  ·exact A7x (A7z (fun c => Vb c f b))
theorem A1h {l g : List Cl} {f b : Int} (h : Af l) (hg : Aq b l f = .ok g) : Af g := by
 unfold Aq at hg
 split at hg
 ·injection hg with hg; subst hg; exact h
 ·split at hg
  ·injection hg with hg; subst hg; exact K0 l f b
  ·cases hg
theorem Sk {vb db : Int} (hv : 0 ≤ vb ∧ vb ≤ 1000000) {t u : T} {c : Int × Int} (h : Rp t) (hu : B8 (As vb db) t c = .ok u) : Rp u := by
 refine Vu (A := As vb db) ?_ ?_ ?_ t c u h hu
 ·intro c k n nm r p _ hn hr ho
  obtain ⟨g, hg, ho⟩ := Ab.A2 (x := Aq db r c.2) ho
  have hgo := A1h hr hg
  split at ho
  ·rename_i h1
   split at ho
   ·cases ho
   ·injection ho with ho; injection ho with ho; subst ho
    exact ⟨by unfold Ap at *; dsimp only; omega, hgo⟩
  ·injection ho with ho; injection ho with ho; subst ho
   exact ⟨hn, hgo⟩
 ·intro c k n nm r u ho
  obtain ⟨g, hg, ho⟩ := Ab.A2 (x := Aq db r c.2) ho
  split at ho
  ·split at ho
   ·cases ho
   ·injection ho with ho; cases ho
  ·injection ho with ho; cases ho
 ·intro c f f' hr ho
  obtain ⟨g, hg, ho⟩ := Ab.A2 (x := Aq db f c.2) ho
  injection ho with ho; injection ho with ho; subst ho
  exact A1h hr hg
theorem V4 : Rp t0 := by simp [t0, Rp, okL, okB, Ap, H0, reach]; decide
theorem guard_okT' {t : T} {ns : List Int} {r : Ab T} (h : ns.all (fun n => decide (0 ≤ n)) = true → ∀ u, r = .ok u → Rp u) : Rp (Bz t ns r).2 := by
 unfold Bz
 split
 ·exact V4
 ·split
  ·exact V4
  ·rename_i ha
   cases r with
   | ok u => exact h (by simpa using ha) u rfl
   | bad e => exact V4
abbrev C1m (t : T) (f b : Int) : Ab T := B8 (As b 0) t (if 2000000000 < f then 2000000000 else f, 0)
abbrev C3n (t : T) (f b : Int) : Ab T := B8 (As 0 b) t (0, if 24 < f then 24 else f)
abbrev B7d (t : T) (v d : Int) : Ab T := (B8 (As v 0) t (0, 0)).bind fun u => B8 (As 0 d) u (0, 0)
def Dg (b : Int) : Int := IntKind.i64.wrap (1000000 - b)
theorem B0w (b : Int) : Ap (Dg b) := by
 have h : Dg b = (1000000 - b + 9223372036854775808) % 18446744073709551616 - 9223372036854775808 := by
  unfold Dg; rw [IntKind.wrap_i64]
 unfold Ap; rw [h]; omega
theorem A0e {b : Int} (hb : Ap b) (h0 : 0 ≤ b) (h : 0 ≤ Dg b) : b ≤ 1000000 := by
 have h1 : Dg b = (1000000 - b + 9223372036854775808) % 18446744073709551616 - 9223372036854775808 := by
  unfold Dg; rw [IntKind.wrap_i64]
 unfold Ap at hb; omega
def C6 (t : T) (f b : Int) : Int × T := Bz t [f, b, Dg b] (C1m t f b)
def C7 (t : T) (f b : Int) : Int × T := Bz t [f, b] (C3n t f b)
def Cu (t : T) (v d : Int) : Int × T := Bz t [v, d, Dg v] (B7d t v d)
theorem Ab.D4d {α β : Type} {x : Ab α} {e : Int} {k : α → Ab β} (h : x = .bad e) : x.bind k = .bad e := by rw [h]; rfl
theorem Ab.C3v {α β : Type} {x : Ab α} {a : α} {y : Ab β} {k : α → Ab β} (h : x = .ok a) (h2 : k a = y) : x.bind k = y := by rw [h]; exact h2
theorem My {vb db : Int} {c : Int × Int} {k n : Int} {nm : ByteArray} {r : List Cl} {u : T} : (As vb db).own c k n nm r ≠ .ok (.inl u) := by
 intro ho
 obtain ⟨g, hg, ho⟩ := Ab.A2 (x := Aq db r c.2) ho
 split at ho
 ·split at ho
  ·cases ho
  ·injection ho with ho; cases ho
 ·injection ho with ho; cases ho
mutual
theorem Lg {vb db : Int} : ∀ {t u : T} {c : Int × Int}, B8 (As vb db) t c = .ok u → size u = size t
 | .mk k n nm r ks ss, u, c, hu => by
  rw [Da] at hu
  simp only [T.kind, T.n, T.name, T.r, T.kids, T.sys] at hu
  obtain ⟨o, h9, hu⟩ := Ab.A2 hu
  cases o with
  | inl v => exact absurd h9 My
  | inr p =>
   obtain ⟨ks', h10, hu⟩ := Ab.A2 hu
   obtain ⟨ss', h11, hu⟩ := Ab.A2 hu
   injection hu with hu
   subst hu
   rw [Uk, Uk]
   simp only [T.kids, T.sys]
   rw [A2v h10, A2z h11]
theorem A2v {vb db k : Int} : ∀ {ts us : List T} {i : Nat} {c : Int × Int}, Cm (As vb db) k i ts c = .ok us → us.map size = ts.map size
 | [], us, i, c, hu => by rw [Ch] at hu; injection hu with hu; subst hu; rfl
 | t :: ts, us, i, c, hu => by
  rw [Cr] at hu
  obtain ⟨c', _, hu⟩ := Ab.A2 hu
  obtain ⟨t', h2, hu⟩ := Ab.A2 hu
  obtain ⟨ts', h3, hu⟩ := Ab.A2 hu
  injection hu with hu
  subst hu
  simp only [List.map_cons]
  rw [Lg h2, A2v h3]
theorem A2s {vb db k : Int} : ∀ {ts us : List T} {c : Int × Int}, C2 (As vb db) k ts c = .ok us → us.map size = ts.map size
 | [], us, c, hu => by rw [D3] at hu; injection hu with hu; subst hu; rfl
 | t :: ts, us, c, hu => by
  rw [Cq] at hu
  obtain ⟨c', _, hu⟩ := Ab.A2 hu
  obtain ⟨t', h2, hu⟩ := Ab.A2 hu
  obtain ⟨ts', h3, hu⟩ := Ab.A2 hu
  injection hu with hu
  subst hu
  simp only [List.map_cons]
  rw [Lg h2, A2s h3]
theorem A2z {vb db k : Int} : ∀ {bs us : List Br} {c : Int × Int}, C9 (As vb db) k bs c = .ok us → (us.map fun b => b.kids.map size) = bs.map fun b => b.kids.map size
 | [], us, c, hu => by rw [C8] at hu; injection hu with hu; subst hu; rfl
 | .mk f ks :: bs, us, c, hu => by
  rw [Cc] at hu
  simp only [Br.Al, Br.kids] at hu
  obtain ⟨o, h5, hu⟩ := Ab.A2 hu
  obtain ⟨g, _, h6⟩ := Ab.A2 (x := Aq db f c.2) h5
  injection h6 with h6
  subst h6
  obtain ⟨ks', h7, hu⟩ := Ab.A2 hu
  obtain ⟨bs', h8, hu⟩ := Ab.A2 hu
  injection hu with hu
  subst hu
  show (ks'.map size :: (bs'.map fun b => b.kids.map size)) = (ks.map size :: (bs.map fun b => b.kids.map size))
  rw [A2s h7, A2z h8]
end
theorem C4b {t : T} {v d : Int} {b : Bool} : U4 t v d b = true ↔ (¬ (b = true ∧ 24 < d)) ∧ Mu t v d = true ∧ ∀ p, p ∈ parts t → U4 p.1 (IntKind.i64.wrap (v + if v < 0 then 0 else p.2.1)) (d + p.2.2) b = true := by
  rw [B2d, Bool.and_eq_true, List.all_eq_true]
  simp only [Bool.not_eq_true', Bool.or_eq_false_iff, Bool.and_eq_false_iff, decide_eq_false_iff_not, Bool.not_eq_false']
  constructor
  · rintro ⟨⟨h1, h2⟩, h3⟩
    refine ⟨?_, h2, h3⟩
    rintro ⟨h4, h5⟩
    rcases h1 with h1 | h1
    · rw [h1] at h4; cases h4
    · exact h1 h5
  · rintro ⟨h1, h2, h3⟩
    refine ⟨⟨?_, h2⟩, h3⟩
    cases b
    · exact .inl rfl
    · exact .inr (fun h => h1 ⟨rfl, h⟩)
theorem C2j {t : T} {v d : Int} : Mu t v d = true ↔ K2 t = false ∧
    (if t.kind = 1 then t.r.length = 0 ∧ 0 ≤ t.n ∧ (v < 0 ∨ t.n < v)
     else if t.kind = 2 then t.r.length = 0 ∧ P6 t.name = true
     else if t.kind = 13 ∨ t.kind = 21 ∨ t.kind = 26 then A6 t.r = true ∧ within t.r d = true
     else if t.kind = 14 then A5 t.r = true ∧ within t.r d = true
     else (∀ x, x ∈ t.sys → Ro t d x = true) ∧ t.r.length = 0) := by
  unfold Mu
  rw [Bool.and_eq_true, Bool.not_eq_true']
  apply and_congr Iff.rfl
  split
  · simp only [Bool.and_eq_true, decide_eq_true_eq, Bool.or_eq_true, and_assoc]; constructor <;> (rintro ⟨h1, h2⟩; exact ⟨by omega, h2⟩)
  · split
    · simp only [Bool.and_eq_true, decide_eq_true_eq]; constructor <;> (rintro ⟨h1, h2⟩; exact ⟨by omega, h2⟩)
    · split
      · simp only [Bool.and_eq_true]
      · split
        · simp only [Bool.and_eq_true]
        · simp only [Bool.and_eq_true, decide_eq_true_eq, List.all_eq_true]; constructor <;> (rintro ⟨h1, h2⟩; exact ⟨h1, by omega⟩)
theorem within_iff {l : List Cl} {d : Int} (h0 : 0 ≤ d) : within l d = true ↔ ∀ i : Nat, d ≤ (i : Int) → (G3 l).testBit i = false := by
  have hlt := A3m l
  unfold within
  rw [Bool.or_eq_true, decide_eq_true_eq, decide_eq_true_eq]
  by_cases h24 : 24 ≤ d
  · constructor
    · intro _ i hi
      exact Nat.testBit_lt_two_pow (Nat.lt_of_lt_of_le hlt (Nat.pow_le_pow_right (n := 2) A4 (show 24 ≤ i by omega)))
    · intro _; exact .inl h24
  · have hm : min d.toNat 32 = d.toNat := by omega
    rw [hm]
    constructor
    · rintro (h | h) i hi
      · exact absurd h h24
      · have h1 : G3 l / 2 ^ d.toNat = 0 := by omega
        have h2 : G3 l < 2 ^ d.toNat := by
          have := Nat.div_eq_zero_iff.mp h1
          have hp : 0 < 2 ^ d.toNat := Nat.pow_pos A4
          omega
        exact Nat.testBit_lt_two_pow (Nat.lt_of_lt_of_le h2 (Nat.pow_le_pow_right (n := 2) A4 A4))
    · intro h
      right
      have h2 : G3 l < 2 ^ d.toNat := Nat.lt_pow_two_of_testBit _ (fun i hi => h i A4)
      rw [Nat.div_eq_of_lt h2]; rfl
theorem P9 (s n : Nat) : (Hi s n).Pairwise fun a b => a < b := by
 unfold Hi
 rw [List.pairwise_map]
 refine (List.Pairwise.filter _ List.pairwise_lt_range).imp (fun h => by omega)
theorem A1v {t : T} {p : Part} (hp : p ∈ parts t) : (∃ i, i < t.kids.length ∧ p = (t.kids.getD i t0, binds t.kind (i : Int))) ∨ ∃ s k, s < t.sys.length ∧ k < (t.sys.getD s Bj).kids.length ∧ p = ((t.sys.getD s Bj).kids.getD k t0, 0, more t.kind) := by
 unfold parts at hp
 rcases List.mem_append.mp hp with hp | hp
 ·left
  have key : ∀ (ks : List T) (s : Nat), p ∈ Ee t.kind s ks → ∃ i, i < ks.length ∧ p = (ks.getD i t0, binds t.kind ((s + i : Nat) : Int)) := by
   intro ks
   induction ks with
   | nil => intro s h; simp [Ee] at h
   | cons k ks ih =>
    intro s h
    simp only [Ee, List.mem_cons] at h
    rcases h with h | h
    ·exact ⟨0, by simp, by simpa using h⟩
    ·obtain ⟨i, hi, e⟩ := ih (s + 1) h
     exact ⟨i + 1, by simpa using hi, by rw [e]; simp only [List.getD_cons_succ]; rw [show s + 1 + i = s + (i + 1) by omega]⟩
  obtain ⟨i, hi, e⟩ := key t.kids 0 hp
  exact ⟨i, hi, by rw [e]; simp⟩
 ·right
  have key : ∀ (bs : List Br), p ∈ Ec t.kind bs → ∃ s k, s < bs.length ∧ k < (bs.getD s Bj).kids.length ∧ p = ((bs.getD s Bj).kids.getD k t0, 0, more t.kind) := by
   intro bs
   induction bs with
   | nil => intro h; simp [Ec] at h
   | cons b bs ih =>
    intro h
    simp only [Ec, List.mem_append, List.mem_map] at h
    rcases h with ⟨k, hk, e⟩ | h
    ·obtain ⟨j, hj, e2⟩ := List.mem_iff_getElem.mp hk
     exact ⟨0, j, by simp, by simpa using hj, by rw [← e]; simp only [List.getD_cons_zero]; rw [Cw (d := t0) hj, e2]⟩
    ·obtain ⟨s, k, h1, h2, e⟩ := ih h
     exact ⟨s + 1, k, by simpa using h1, by simpa using h2, by rw [e]; simp⟩
  exact key t.sys hp
theorem B6h {α : Type} (f : α → Nat) (i : Nat) : ∀ (l : List α) (a : Nat), (l.foldl (fun a x => a ||| f x) a).testBit i = true ↔ a.testBit i = true ∨ ∃ x, x ∈ l ∧ (f x).testBit i = true
 | [], a => by simp
 | x :: l, a => by
  rw [List.foldl_cons, B6h f i l, Nat.testBit_or]
  simp only [Bool.or_eq_true, List.mem_cons, exists_eq_or_imp, or_assoc]
def O0 (k n : Int) (nm : ByteArray) (r : List Cl) : Prop :=
 (k ≠ 1 → n = 0) ∧ (k ≠ 2 → nm.toList = (ByteArray.mk #[]).toList) ∧ (k = 1 → r = [] ∧ 0 ≤ n) ∧ (k = 2 → r = [] ∧ P6 nm = true) ∧ (k = 13 ∨ k = 21 ∨ k = 26 → A6 r = true) ∧ (k = 14 → A5 r = true) ∧ (k ≠ 13 ∧ k ≠ 21 ∧ k ≠ 26 ∧ k ≠ 14 → r = [])
mutual
def D5 : T → Prop
 | .mk k n nm r ks ss => O0 k n nm r ∧ En k = (ks.length : Int) ∧ (Fc k = 0 → ss = []) ∧ Ib ks ∧ Ou k ss
def Ib : List T → Prop
 | [] => True
 | t :: ts => D5 t ∧ Ib ts
def Ou (k : Int) : List Br → Prop
 | [] => True
 | .mk f ks :: bs => (ks.length : Int) = Fc k ∧ A5 f = true ∧ Ib ks ∧ Ou k bs
end
theorem H5 {k : Int} (h : k = 1 ∨ k = 2 ∨ k = 13 ∨ k = 21 ∨ k = 26 ∨ k = 14) : Fc k = 0 := by
 unfold Fc
 rcases h with h | h | h | h | h | h <;> subst h <;> decide
theorem Xn (l : List Cl) {d : Int} (h : 24 ≤ d) : within l d = true := by unfold within; rw [decide_eq_true h]; rfl
theorem len_nil {α : Type} {l : List α} : ((l.length : Int) = 0) ↔ l = [] := by
 constructor
 ·intro h; exact List.eq_nil_of_length_eq_zero A4
 ·rintro rfl; rfl
theorem Pn {k n : Int} {nm : ByteArray} {r : List Cl} {ks : List T} {ss : List Br} {d : Int} (hd : 24 ≤ d) : Mu (.mk k n nm r ks ss) (-1) d = true ↔ O0 k n nm r ∧ En k = (ks.length : Int) ∧ (Fc k = 0 → ss = []) ∧ ∀ b, b ∈ ss → (b.kids.length : Int) = Fc k ∧ A5 b.Al = true := by
 have hB : ∀ b : Br, Ro (.mk k n nm r ks ss) d b = (decide ((b.kids.length : Int) = Fc k) && A5 b.Al) := fun b => by
  unfold Ro; rw [Xn _ hd, Bool.and_true]; rfl
 have hL : (0 : Int) < (ss.length : Int) ↔ ss ≠ [] := by
  constructor
  ·intro h e; subst e; simp at h
  ·intro h; have := List.length_pos_iff.mpr h; omega
 have hs : ∀ p : Bool, (ss.all (Ro (.mk k n nm r ks ss) d) = true) ↔ ∀ b, b ∈ ss → (b.kids.length : Int) = Fc k ∧ A5 b.Al = true := fun _ => by
  rw [List.all_eq_true]
  exact forall_congr' fun b => forall_congr' fun _ => by rw [hB]; simp
 unfold Mu K2 O0
 simp only [T.kind, T.n, T.name, T.r, T.kids, T.sys, Xn _ hd, Bool.and_true, Bool.and_eq_true, Bool.not_eq_true', Bool.or_eq_false_iff, Bool.and_eq_false_iff, decide_eq_false_iff_not, Decidable.not_not, ne_eq, Int.not_lt, Bool.not_eq_false', beq_iff_eq]
 constructor
 ·rintro ⟨⟨⟨⟨h1, h2⟩, h3⟩, h4⟩, h5⟩
  replace h1 : En k = (ks.length : Int) := Decidable.not_not.mp (of_decide_eq_false h1)
  replace h2 : k = 1 ∨ n = 0 := h2.imp (fun h => Decidable.not_not.mp (of_decide_eq_false h)) (fun h => Decidable.not_not.mp (of_decide_eq_false h))
  replace h3 : k = 2 ∨ nm.toList = (ByteArray.mk #[]).toList := h3.imp (fun h => Decidable.not_not.mp (of_decide_eq_false h)) id
  replace h4 : ¬ Fc k = 0 ∨ ¬ (0 : Int) < (ss.length : Int) := h4.imp (fun h => of_decide_eq_false h) (fun h => of_decide_eq_false h)
  have hss : Fc k = 0 → ss = [] := by
   intro h
   rcases h4 with h4 | h4
   ·exact absurd h h4
   ·exact List.eq_nil_of_length_eq_zero A4
  split at h5
  ·rename_i hk
   have he := hss (H5 A4)
   subst he
   simp only [Bool.and_eq_true, decide_eq_true_eq] at h5
   exact ⟨⟨by omega, fun _ => h3.resolve_left A4, fun _ => ⟨len_nil.mp (of_decide_eq_true h5.1.1), of_decide_eq_true h5.1.2⟩, by omega, by omega, by omega, fun _ => len_nil.mp (of_decide_eq_true h5.1.1)⟩, h1, hss, fun b hb => by cases hb⟩
  ·split at h5
   ·rename_i hk1 hk
    have he := hss (H5 A4)
    subst he
    simp only [Bool.and_eq_true, decide_eq_true_eq] at h5
    exact ⟨⟨by omega, fun h => absurd hk h, by omega, fun _ => ⟨len_nil.mp (of_decide_eq_true h5.1), h5.2⟩, by omega, by omega, fun _ => len_nil.mp (of_decide_eq_true h5.1)⟩, h1, hss, fun b hb => by cases hb⟩
   ·split at h5
    ·rename_i hk1 hk2 hk
     have he := hss (H5 A4)
     subst he
     exact ⟨⟨by omega, fun _ => h3.resolve_left A4, by omega, by omega, fun _ => h5, by omega, by omega⟩, h1, hss, fun b hb => by cases hb⟩
    ·split at h5
     ·rename_i hk1 hk2 hk3 hk
      have he := hss (H5 A4)
      subst he
      exact ⟨⟨by omega, fun _ => h3.resolve_left A4, by omega, by omega, by omega, fun _ => h5, by omega⟩, h1, hss, fun b hb => by cases hb⟩
     ·rename_i hk1 hk2 hk3 hk4
      simp only [Bool.and_eq_true, decide_eq_true_eq] at h5
      exact ⟨⟨by omega, fun _ => h3.resolve_left A4, by omega, by omega, by omega, by omega, fun _ => len_nil.mp (of_decide_eq_true h5.2)⟩, h1, hss, (hs true).mp h5.1⟩
 ·rintro ⟨⟨a1, a2, a3, a4, a5, a6, a7⟩, b1, b2, b3⟩
  refine ⟨⟨⟨⟨decide_eq_false (Decidable.not_not.mpr b1), ?_⟩, ?_⟩, ?_⟩, ?_⟩
  ·by_cases h : k = 1
   ·exact .inl (decide_eq_false (Decidable.not_not.mpr h))
   ·exact .inr (decide_eq_false (Decidable.not_not.mpr (a1 h)))
  ·by_cases h : k = 2
   ·exact .inl (decide_eq_false (Decidable.not_not.mpr h))
   ·exact .inr (a2 h)
  ·by_cases h : Fc k = 0
   ·exact .inr (decide_eq_false (by rw [b2 h]; decide))
   ·exact .inl (decide_eq_false h)
  ·split
   ·rename_i h; simp [(a3 h).1, (a3 h).2]
   ·split
    ·rename_i h; simp [(a4 h).1, (a4 h).2]
    ·split
     ·rename_i h; exact a5 h
     ·split
      ·rename_i h; exact a6 h
      ·rename_i h1 h2 h3 h4
       rw [Bool.and_eq_true, (hs true)]
       exact ⟨b3, by simp [a7 A4]⟩
theorem Tn : ∀ {ts : List T}, Ib ts ↔ ∀ t, t ∈ ts → D5 t
 | [] => by simp [Ib]
 | t :: ts => by simp [Ib, Tn (ts := ts)]
theorem Yi {k : Int} : ∀ {bs : List Br}, Ou k bs ↔ ∀ b, b ∈ bs → (b.kids.length : Int) = Fc k ∧ A5 b.Al = true ∧ Ib b.kids
 | [] => by simp [Ou]
 | .mk f ks :: bs => by
  simp only [Ou, Yi (bs := bs), List.forall_mem_cons, Br.kids, Br.Al]
  constructor
  ·rintro ⟨h1, h2, h3, h4⟩; exact ⟨⟨h1, h2, h3⟩, h4⟩
  ·rintro ⟨⟨h1, h2, h3⟩, h4⟩; exact ⟨h1, h2, h3, h4⟩
theorem Nc {t : T} : D5 t ↔ O0 t.kind t.n t.name t.r ∧ En t.kind = (t.kids.length : Int) ∧ (Fc t.kind = 0 → t.sys = []) ∧ Ib t.kids ∧ Ou t.kind t.sys := by
 obtain ⟨k, n, nm, r, ks, ss⟩ := t
 simp only [D5, T.kind, T.n, T.name, T.r, T.kids, T.sys]
theorem V8 {t : T} : D5 t ↔ (∀ d : Int, 24 ≤ d → Mu t (-1) d = true) ∧ ∀ p, p ∈ parts t → D5 p.1 := by
 rw [Nc, Tn, Yi]
 have ho : ∀ d : Int, 24 ≤ d → (Mu t (-1) d = true ↔ O0 t.kind t.n t.name t.r ∧ En t.kind = (t.kids.length : Int) ∧ (Fc t.kind = 0 → t.sys = []) ∧ ∀ b, b ∈ t.sys → (b.kids.length : Int) = Fc t.kind ∧ A5 b.Al = true) := by
  intro d hd
  obtain ⟨k, n, nm, r, ks, ss⟩ := t
  exact Pn hd
 constructor
 ·rintro ⟨h1, h2, h3, h4, h5⟩
  refine ⟨fun d hd => (ho d hd).mpr ⟨h1, h2, h3, fun b hb => ⟨(h5 b hb).1, (h5 b hb).2.1⟩⟩, fun p hp => ?_⟩
  rcases A1v hp with ⟨i, hi, rfl⟩ | ⟨s, k, hs, hk, rfl⟩
  ·exact h4 _ (Ac hi)
  ·exact Tn.mp (h5 _ (Ac hs)).2.2 _ (Ac hk)
 ·rintro ⟨h1, h2⟩
  obtain ⟨a1, a2, a3, a4⟩ := (ho 24 A4).mp (h1 24 A4)
  refine ⟨a1, a2, a3, fun k hk => ?_, fun b hb => ⟨(a4 b hb).1, (a4 b hb).2, Tn.mpr fun k hk => ?_⟩⟩
  ·obtain ⟨p, hp, e⟩ := Hs hk; exact e ▸ h2 p hp
  ·obtain ⟨p, hp, e⟩ := Hr hb hk; exact e ▸ h2 p hp
theorem D4k : ∀ (t : T) (d : Int), 24 ≤ d → (U4 t (-1) d false = true ↔ D5 t) := T.ind fun t ih d hd => by
 rw [C4b, V8]
 have hw : ∀ p : Part, IntKind.i64.wrap (-1 + if (-1 : Int) < 0 then 0 else p.2.1) = -1 := fun p => by rw [if_pos Iy]; decide
 constructor
 ·rintro ⟨_, h2, h3⟩
  refine ⟨fun d' hd' => ?_, fun p hp => ?_⟩
  ·obtain ⟨k, n, nm, r, ks, ss⟩ := t
   exact (Pn hd').mpr ((Pn hd).mp h2)
  ·have h4 := h3 p hp
   rw [hw] at h4
   have h5 := A1t hp
   exact (ih p hp (d + p.2.2) A4).mp h4
 ·rintro ⟨h1, h2⟩
  refine ⟨by simp, h1 d hd, fun p hp => ?_⟩
  rw [hw]
  have h5 := A1t hp
  exact (ih p hp (d + p.2.2) A4).mpr (h2 p hp)
theorem M7 {t : T} : Ah t = 0 ↔ sized t = 0 ∧ D5 t := by rw [B6e, D4k t 24 A4]
section
variable {C : Type} {A : Tr C}
end
section
variable {CA CB CC : Type} {A : Tr CA} {B : Tr CB} {D : Tr CC} (R : CA → CB → CC → Prop)
structure B7v : Prop where
 inl : ∀ ca cb cc k n nm r u, R ca cb cc → O0 k n nm r → A.own ca k n nm r = .ok (.inl u) → D.own cc k n nm r = (B8 B u cb).bind fun w => .ok (.inl w)
 inr : ∀ ca cb cc k n nm r p, R ca cb cc → O0 k n nm r → A.own ca k n nm r = .ok (.inr p) → B.own cb k p.1 nm p.2 = D.own cc k n nm r
 none : ∀ ca cb cc f, R ca cb cc → A5 f = true → A.Al ca f = .ok none → D.Al cc f = .ok none
 some : ∀ ca cb cc f f', R ca cb cc → A5 f = true → A.Al ca f = .ok (some f') → B.Al cb f' = D.Al cc f
 Jf : ∀ ca cb cc b ca', 0 ≤ b.1 → 0 ≤ b.2 → R ca cb cc → A.Jf ca b = .ok ca' → (∃ cb' cc', B.Jf cb b = .ok cb' ∧ D.Jf cc b = .ok cc' ∧ R ca' cb' cc') ∨ ∃ e, B.Jf cb b = .bad e ∧ D.Jf cc b = .bad e
variable {R}
mutual
theorem C6t (F : B7v (A := A) (B := B) (D := D) R) : ∀ {t u : T} {ca : CA} {cb : CB} {cc : CC}, D5 t → R ca cb cc → B8 A t ca = .ok u → B8 B u cb = B8 D t cc
 | .mk k n nm r ks ss, u, ca, cb, cc, h, hr, hu => by
  simp only [D5] at h
  obtain ⟨h1, h2, h3, h4, h5⟩ := h
  rw [Da] at hu
  simp only [T.kind, T.n, T.name, T.r, T.kids, T.sys] at hu
  obtain ⟨o, h9, hu⟩ := Ab.A2 hu
  cases o with
  | inl v =>
   injection hu with hu
   subst hu
   conv => rhs; rw [Da]
   simp only [T.kind, T.n, T.name, T.r, T.kids, T.sys]
   rw [F.inl _ _ _ _ _ _ _ _ hr h1 h9]
   cases B8 B v cb <;> rfl
  | inr p =>
   obtain ⟨ks', h10, hu⟩ := Ab.A2 hu
   obtain ⟨ss', h11, hu⟩ := Ab.A2 hu
   injection hu with hu
   subst hu
   rw [Da, Da]
   simp only [T.kind, T.n, T.name, T.r, T.kids, T.sys]
   rw [F.inr _ _ _ _ _ _ _ _ hr h1 h9, D9e F h4 hr h10, D3a F h5 hr h11]
theorem D9e (F : B7v (A := A) (B := B) (D := D) R) {kd : Int} : ∀ {ts us : List T} {i : Nat} {ca : CA} {cb : CB} {cc : CC}, Ib ts → R ca cb cc → Cm A kd i ts ca = .ok us → Cm B kd i us cb = Cm D kd i ts cc
 | [], us, i, ca, cb, cc, h, hr, hu => by rw [Ch] at hu; injection hu with hu; subst hu; rw [Ch, Ch]
 | t :: ts, us, i, ca, cb, cc, h, hr, hu => by
  simp only [Ib] at h
  rw [Cr] at hu
  obtain ⟨c', h1, hu⟩ := Ab.A2 hu
  obtain ⟨t', h2, hu⟩ := Ab.A2 hu
  obtain ⟨ts', h3, hu⟩ := Ab.A2 hu
  injection hu with hu
  subst hu
  rw [Cr, Cr]
  rcases F.Jf _ _ _ _ _ (Kv _ _).1 (Kv _ _).2.2.1 hr h1 with ⟨cb', cc', e1, e2, hr'⟩ | ⟨e, e1, e2⟩
  ·rw [e1, e2]
   simp only [Ab.bind]
   rw [C6t F h.1 hr' h2, D9e F h.2 hr h3]
  ·rw [e1, e2]; rfl
theorem D9d (F : B7v (A := A) (B := B) (D := D) R) {kd : Int} : ∀ {ts us : List T} {ca : CA} {cb : CB} {cc : CC}, Ib ts → R ca cb cc → C2 A kd ts ca = .ok us → C2 B kd us cb = C2 D kd ts cc
 | [], us, ca, cb, cc, h, hr, hu => by rw [D3] at hu; injection hu with hu; subst hu; rw [D3, D3]
 | t :: ts, us, ca, cb, cc, h, hr, hu => by
  simp only [Ib] at h
  rw [Cq] at hu
  obtain ⟨c', h1, hu⟩ := Ab.A2 hu
  obtain ⟨t', h2, hu⟩ := Ab.A2 hu
  obtain ⟨ts', h3, hu⟩ := Ab.A2 hu
  injection hu with hu
  subst hu
  rw [Cq, Cq]
  rcases F.Jf _ _ _ _ _ (Int.le_refl 0) (Tf _).1 hr h1 with ⟨cb', cc', e1, e2, hr'⟩ | ⟨e, e1, e2⟩
  ·rw [e1, e2]
   simp only [Ab.bind]
   rw [C6t F h.1 hr' h2, D9d F h.2 hr h3]
  ·rw [e1, e2]; rfl
theorem D3a (F : B7v (A := A) (B := B) (D := D) R) {kd : Int} : ∀ {bs us : List Br} {ca : CA} {cb : CB} {cc : CC}, Ou kd bs → R ca cb cc → C9 A kd bs ca = .ok us → C9 B kd us cb = C9 D kd bs cc
 | [], us, ca, cb, cc, h, hr, hu => by rw [C8] at hu; injection hu with hu; subst hu; rw [C8, C8]
 | .mk f ks :: bs, us, ca, cb, cc, h, hr, hu => by
  simp only [Ou] at h
  obtain ⟨h1, h2, h3, h4⟩ := h
  rw [Cc] at hu
  simp only [Br.Al, Br.kids] at hu
  obtain ⟨o, h5, hu⟩ := Ab.A2 hu
  cases o with
  | none =>
   rw [D3a F h4 hr hu]
   conv => rhs; rw [Cc]
   simp only [Br.Al, Br.kids]
   rw [F.none _ _ _ _ hr h2 h5]
   rfl
  | some f' =>
   obtain ⟨ks', h6, hu⟩ := Ab.A2 hu
   obtain ⟨bs', h7, hu⟩ := Ab.A2 hu
   injection hu with hu
   subst hu
   rw [Cc, Cc]
   simp only [Br.Al, Br.kids]
   rw [F.some _ _ _ _ _ hr h2 h5, D9d F h3 hr h6, D3a F h4 hr h7]
end
end
section
variable {CA CC : Type} {A : Tr CA} {D : Tr CC} (R : CA → CC → Prop)
variable {R}
end
end Go.Hy
