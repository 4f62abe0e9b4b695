/- Contracts of this program's functions and the laws that they need: a separation logic over the machine's rules, one theorem each (partly printed by a program of this repository). -/
import Derived.Test.YtpfjlbopkhdebaaGreatDoorP1
import Derived.Test.YtpfjlbopkhdebaaGreatDoorP2
import Derived.Test.YtpfjlbopkhdebaaGreatDoorP3
import Derived.Test.YtpfjlbopkhdebaaGreatDoorP4
set_option linter.unusedVariables false
set_option linter.unusedSimpArgs false
set_option linter.unusedSectionVars false
namespace Go.Hy
open Go.Proofs
theorem sm_ {p q : Prop} (h : p) (e : p = q := by
 try (conv => lhs; simp only [sC, bne_iff_ne, beq_iff_eq, ne_eq])
 try rfl) : q := e ▸ h
class FnF (P : Program) (k : FuncId) (fn : outParam Func) : Prop where
 f : P.funcs[k]? = some fn
structure Hold (p : Prop) : Prop where
 out : p
section
variable {P : Program} {f : FuncId} {R : Ending → World → Prop} {B : A6z} {n : Fz} {K : List Item} {σ : Nat → Value} {Γ Γ' : List Fact} {Ms : List Res}
theorem gR_ {fn : Func} {id : Nat} {ops : Array Oper} [h9 : FnF P f fn] (h : RgT P f R B n K ops (List.range ops.size) σ Γ Ms) : GoT P f R B n (.code (.region id ops false) :: K) σ Γ Ms := go_region ⟨_, h9.f⟩ rfl h
theorem gc_ {d : Nat} {x y : Code} (t : Bool) {p q : Prop} (kT : t = true → p → GoT P f R B n (.code x :: K) (upd σ d (.bool true)) Γ Ms) (kF : t = false → q → GoT P f R B n (.code y :: K) (upd σ d (.bool false)) Γ Ms) (hc : σ d = .bool t := by exact wn_) (e1 : (t = true) = p := by
 try (conv => lhs; simp only [sC, bne_iff_ne, beq_iff_eq, ne_eq])
 try rfl) (e2 : (t = false) = q := by
 try (conv => lhs; simp only [sC, bne_iff_ne, beq_iff_eq, ne_eq])
 try rfl) : GoT P f R B n (.code (.cond (.tmp d) x y) :: K) σ Γ Ms := A0e (fun h => kT h (e1 ▸ h)) (fun h => kF h (e2 ▸ h)) hc
theorem sg_ {fn : Func} {c : Code} {m : Nat} {args : List Value} {pre : List Fact} {Ms0 : List Res} {X : Type} {val : X → Value} {N : X → List Fact} {Ms1 : X → List Res} [h9 : FnF P f fn] (hn : fn.ntmps = m) (h : ∀ B : A6z, (∀ b, B.S0 b ↔ A2s Ms0 b) → GoT P f (Ends B val N Ms1) B ⟨m, [], .normal⟩ [.code c] (fun t => args.getD t undef) pre Ms0) (hb : fn.body = some c := by exact rfl) (ha : args.length ≤ m := by exact Nat.le_of_ble_eq_true rfl) : Spec P f args.toArray pre Ms0 val N Ms1 := B5z h9.f hn hb ha h
theorem St.l9 {w : World} (hs : St B Γ Ms w) (h : ∀ F, F ∈ Γ' → F ∈ Γ := by simp +contextual) : St B Γ' Ms w := hs.less h
theorem St.l7 {w : World} (hs : St B Γ Ms w) (h : ∀ F, F ∈ ([] : List Fact) → F ∈ Γ := by simp) : St B [] Ms w := hs.less h
theorem St.l8 {w : World} (hs : St B Γ Ms w) (h : ∀ F, F ∈ Γ' → F ∈ Γ := by simp) : St B Γ' Ms w := hs.less h
end
section
variable {p q : Prop}
theorem z0 (k : p) (h : Hold p → q := by intro h; refine G1k ?_; exact h.1) : q := h ⟨k⟩
theorem z1 (k : p) (h : Hold p → q := by intro h; refine F7x ?_; exact h.1) : q := h ⟨k⟩
theorem z2 (k : p) (h : Hold p → q := by intro h; refine q0 rfl (E9j ?_); exact h.1) : q := h ⟨k⟩
theorem z3 (k : p) (h : Hold p → q := by intro h; refine q0 rfl (A2v ?_); exact h.1) : q := h ⟨k⟩
theorem z4 (k : p) (h : Hold p → q := by intro h; refine qF rfl rfl rfl ?_; exact h.1) : q := h ⟨k⟩
theorem z5 (k : p) (h : Hold p → q := by intro h; refine go_skip ?_; exact h.1) : q := h ⟨k⟩
theorem z6 (k : p) (h : Hold p → q := by intro h; refine q0 rfl (E4y ?_); exact h.1) : q := h ⟨k⟩
theorem z7 (k : p) (h : Hold p → q := by intro h; refine q0 rfl (E1e ?_); exact h.1) : q := h ⟨k⟩
theorem z8 (k : p) (h : Hold p → q := by intro h; refine F0g ?_; exact h.1) : q := h ⟨k⟩
theorem z9 (k : p) (h : Hold p → q := by intro h; refine q0 rfl (G3n ?_); exact h.1) : q := h ⟨k⟩
theorem z10 (k : p) (h : Hold p → q := by intro h; refine E0d ?_; exact h.1) : q := h ⟨k⟩
theorem z11 (k : p) (h : Hold p → q := by intro h; refine nF rfl rfl rfl ?_; exact h.1) : q := h ⟨k⟩
theorem z12 (k : p) (h : Hold p → q := by intro h; refine q0 rfl (G2b ?_); exact h.1) : q := h ⟨k⟩
theorem z13 (k : p) (h : Hold p → q := by intro h; refine q0 rfl (E4p ?_); exact h.1) : q := h ⟨k⟩
theorem z14 (k : p) (h : Hold p → q := by intro h; refine n0 rfl (C8s ?_); exact h.1) : q := h ⟨k⟩
theorem z15 (k : p) (h : Hold p → q := by intro h; refine q0 rfl (C7j ?_); exact h.1) : q := h ⟨k⟩
theorem z16 (k : p) (h : Hold p → q := by intro h; refine q0 rfl (G6k ?_); exact h.1) : q := h ⟨k⟩
theorem z17 (k : p) (h : Hold p → q := by intro h; refine F6h rfl ?_; exact h.1) : q := h ⟨k⟩
theorem z18 (k : p) (h : Hold p → q := by intro h; refine q0 rfl (E4q ?_); exact h.1) : q := h ⟨k⟩
theorem z19 (k : p) (h : Hold p → q := by intro h; refine q0 rfl (F9d ?_); exact h.1) : q := h ⟨k⟩
theorem z20 (k : p) (h : Hold p → q := by intro h; refine q0 rfl (D9r ?_); exact h.1) : q := h ⟨k⟩
theorem z21 (k : p) (h : Hold p → q := by intro h; refine q0 rfl (D9q ?_); exact h.1) : q := h ⟨k⟩
theorem z22 (k : p) (h : Hold p → q := by intro h; refine q0 rfl (C3v ?_); exact h.1) : q := h ⟨k⟩
theorem z23 (k : p) (h : Hold p → q := by intro h; refine qT rfl rfl rfl (A2v ?_); exact h.1) : q := h ⟨k⟩
theorem z24 (k : p) (h : Hold p → q := by intro h; refine NV.done ?_; exact h.1) : q := h ⟨k⟩
theorem z25 (k : p) (h : Hold p → q := by intro h; refine qU rfl rfl rfl ?_; exact h.1) : q := h ⟨k⟩
theorem z26 (k : p) (h : Hold p → q := by intro h; refine n0 rfl (C1d ?_); exact h.1) : q := h ⟨k⟩
theorem z27 (k : p) (h : Hold p → q := by intro h; refine F0e ?_; exact h.1) : q := h ⟨k⟩
theorem z28 (k : p) (h : Hold p → q := by intro h; refine q0 rfl (G3j ?_); exact h.1) : q := h ⟨k⟩
theorem z29 (k : p) (h : Hold p → q := by intro h; refine qT rfl rfl rfl (G2b ?_); exact h.1) : q := h ⟨k⟩
theorem z30 (k : p) (h : Hold p → q := by intro h; refine q0 rfl (F9c ?_); exact h.1) : q := h ⟨k⟩
theorem z31 (k : p) (h : Hold p → q := by intro h; refine A2v ?_; exact h.1) : q := h ⟨k⟩
theorem z32 (k : p) (h : Hold p → q := by intro h; refine n0 rfl (G5w ?_); exact h.1) : q := h ⟨k⟩
theorem z33 (k : p) (h : Hold p → q := by intro h; refine nU rfl rfl rfl ?_; exact h.1) : q := h ⟨k⟩
theorem z34 (k : p) (h : Hold p → q := by intro h; refine qT rfl rfl rfl (E4p ?_); exact h.1) : q := h ⟨k⟩
theorem z35 (k : p) (h : Hold p → q := by intro h; refine qT rfl rfl rfl (C7j ?_); exact h.1) : q := h ⟨k⟩
theorem z36 (k : p) (h : Hold p → q := by intro h; refine n0 rfl (E1o ?_); exact h.1) : q := h ⟨k⟩
theorem z37 (k : p) (h : Hold p → q := by intro h; refine nT rfl rfl rfl (G5w ?_); exact h.1) : q := h ⟨k⟩
theorem z38 (k : p) (h : Hold p → q := by intro h; refine qT rfl rfl rfl (E4q ?_); exact h.1) : q := h ⟨k⟩
theorem z39 (k : p) (h : Hold p → q := by intro h; refine q0 rfl (G3l ?_); exact h.1) : q := h ⟨k⟩
theorem z40 (k : p) (h : Hold p → q := by intro h; refine q0 rfl (A3t ?_); exact h.1) : q := h ⟨k⟩
theorem z41 (k : p) (h : Hold p → q := by intro h; refine n0 rfl (E1n ?_); exact h.1) : q := h ⟨k⟩
theorem z42 (k : p) (h : Hold p → q := by intro h; refine nT rfl rfl rfl (C8s ?_); exact h.1) : q := h ⟨k⟩
theorem z43 (k : p) (h : Hold p → q := by intro h; refine q0 rfl (F2u ?_); exact h.1) : q := h ⟨k⟩
theorem z44 (k : p) (h : Hold p → q := by intro h; refine q0 rfl (G3d ?_); exact h.1) : q := h ⟨k⟩
theorem z45 (k : p) (h : Hold p → q := by intro h; refine qT rfl rfl rfl (F9c ?_); exact h.1) : q := h ⟨k⟩
theorem z46 (k : p) (h : Hold p → q := by intro h; refine qT rfl rfl rfl (E1e ?_); exact h.1) : q := h ⟨k⟩
theorem z47 (k : p) (h : Hold p → q := by intro h; refine qT rfl rfl rfl (F9d ?_); exact h.1) : q := h ⟨k⟩
theorem z48 (k : p) (h : Hold p → q := by intro h; refine q0 rfl (F9g ?_); exact h.1) : q := h ⟨k⟩
theorem z49 (k : p) (h : Hold p → q := by intro h; refine q0 rfl (G3k ?_); exact h.1) : q := h ⟨k⟩
theorem z50 (k : p) (h : Hold p → q := by intro h; refine q0 rfl (E4x ?_); exact h.1) : q := h ⟨k⟩
theorem z51 (k : p) (h : Hold p → q := by intro h; refine n0 rfl (E7v ?_); exact h.1) : q := h ⟨k⟩
theorem z52 (k : p) (h : Hold p → q := by intro h; refine q0 rfl (F5m ?_); exact h.1) : q := h ⟨k⟩
theorem z53 (k : p) (h : Hold p → q := by intro h; refine n0 rfl (F7i ?_); exact h.1) : q := h ⟨k⟩
theorem z54 (k : p) (h : Hold p → q := by intro h; refine F0f ?_; exact h.1) : q := h ⟨k⟩
theorem z55 (k : p) (h : Hold p → q := by intro h; refine q0 rfl (F9h ?_); exact h.1) : q := h ⟨k⟩
theorem z56 (k : p) (h : Hold p → q := by intro h; refine qT rfl rfl rfl (F5m ?_); exact h.1) : q := h ⟨k⟩
theorem z57 (k : p) (h : Hold p → q := by intro h; refine n0 rfl (E1p ?_); exact h.1) : q := h ⟨k⟩
theorem z58 (k : p) (h : Hold p → q := by intro h; refine qT rfl rfl rfl (F9h ?_); exact h.1) : q := h ⟨k⟩
theorem z59 (k : p) (h : Hold p → q := by intro h; refine nT rfl rfl rfl (E1n ?_); exact h.1) : q := h ⟨k⟩
theorem z60 (k : p) (h : Hold p → q := by intro h; refine nT rfl rfl rfl (E1o ?_); exact h.1) : q := h ⟨k⟩
theorem z61 (k : p) (h : Hold p → q := by intro h; refine nT rfl rfl rfl (C1d ?_); exact h.1) : q := h ⟨k⟩
theorem z62 (k : p) (h : Hold p → q := by intro h; refine n0 rfl (D8o ?_); exact h.1) : q := h ⟨k⟩
theorem z63 (k : p) (h : Hold p → q := by intro h; refine nT rfl rfl rfl (D8n ?_); exact h.1) : q := h ⟨k⟩
theorem z64 (k : p) (h : Hold p → q := by intro h; refine n0 rfl (G2k ?_); exact h.1) : q := h ⟨k⟩
theorem z65 (k : p) (h : Hold p → q := by intro h; refine qT rfl rfl rfl (G3i ?_); exact h.1) : q := h ⟨k⟩
theorem z66 (k : p) (h : Hold p → q := by intro h; refine nT rfl rfl rfl (G2i ?_); exact h.1) : q := h ⟨k⟩
theorem z67 (k : p) (h : Hold p → q := by intro h; refine n0 rfl (G2h ?_); exact h.1) : q := h ⟨k⟩
theorem z68 (k : p) (h : Hold p → q := by intro h; refine q0 rfl (F2v ?_); exact h.1) : q := h ⟨k⟩
theorem z69 (k : p) (h : Hold p → q := by intro h; refine q0 rfl (F8w ?_); exact h.1) : q := h ⟨k⟩
theorem z70 (k : p) (h : Hold p → q := by intro h; refine nT rfl rfl rfl (E7s ?_); exact h.1) : q := h ⟨k⟩
theorem z71 (k : p) (h : Hold p → q := by intro h; refine nT rfl rfl rfl (F7j ?_); exact h.1) : q := h ⟨k⟩
theorem z72 (k : p) (h : Hold p → q := by intro h; refine n0 rfl (D8m ?_); exact h.1) : q := h ⟨k⟩
theorem z73 (k : p) (h : Hold p → q := by intro h; refine z0 ?_; refine gR_ ?_; exact h.1) : q := h ⟨k⟩
theorem z74 (k : p) (h : Hold p → q := by intro h; refine z2 ?_; refine z1 ?_; exact h.1) : q := h ⟨k⟩
theorem z75 (k : p) (h : Hold p → q := by intro h; refine z73 ?_; refine z3 ?_; exact h.1) : q := h ⟨k⟩
theorem z76 (k : p) (h : Hold p → q := by intro h; refine z2 ?_; refine z74 ?_; exact h.1) : q := h ⟨k⟩
theorem z77 (k : p) (h : Hold p → q := by intro h; refine z73 ?_; refine z74 ?_; exact h.1) : q := h ⟨k⟩
theorem z78 (k : p) (h : Hold p → q := by intro h; refine gR_ ?_; refine z3 ?_; exact h.1) : q := h ⟨k⟩
theorem z79 (k : p) (h : Hold p → q := by intro h; refine z0 ?_; refine z75 ?_; exact h.1) : q := h ⟨k⟩
theorem z80 (k : p) (h : Hold p → q := by intro h; refine z4 ?_; refine z4 ?_; exact h.1) : q := h ⟨k⟩
theorem z81 (k : p) (h : Hold p → q := by intro h; refine z6 ?_; refine z6 ?_; exact h.1) : q := h ⟨k⟩
theorem z82 (k : p) (h : Hold p → q := by intro h; refine z7 ?_; refine z12 ?_; exact h.1) : q := h ⟨k⟩
theorem z83 (k : p) (h : Hold p → q := by intro h; refine z5 ?_; refine z0 ?_; exact h.1) : q := h ⟨k⟩
theorem z84 (k : p) (h : Hold p → q := by intro h; refine z9 ?_; refine z74 ?_; exact h.1) : q := h ⟨k⟩
theorem z85 (k : p) (h : Hold p → q := by intro h; refine z81 ?_; refine z76 ?_; exact h.1) : q := h ⟨k⟩
theorem z86 (k : p) (h : Hold p → q := by intro h; refine z73 ?_; refine z76 ?_; exact h.1) : q := h ⟨k⟩
theorem z87 (k : p) (h : Hold p → q := by intro h; refine z78 ?_; refine z84 ?_; exact h.1) : q := h ⟨k⟩
theorem z88 (k : p) (h : Hold p → q := by intro h; refine z10 ?_; refine z87 ?_; exact h.1) : q := h ⟨k⟩
theorem z89 (k : p) (h : Hold p → q := by intro h; refine z19 ?_; refine z1 ?_; exact h.1) : q := h ⟨k⟩
theorem z90 (k : p) (h : Hold p → q := by intro h; refine z21 ?_; refine z1 ?_; exact h.1) : q := h ⟨k⟩
theorem z91 (k : p) (h : Hold p → q := by intro h; refine z83 ?_; refine z8 ?_; exact h.1) : q := h ⟨k⟩
theorem z92 (k : p) (h : Hold p → q := by intro h; refine z3 ?_; refine z1 ?_; exact h.1) : q := h ⟨k⟩
theorem z93 (k : p) (h : Hold p → q := by intro h; refine z3 ?_; refine z85 ?_; exact h.1) : q := h ⟨k⟩
theorem z94 (k : p) (h : Hold p → q := by intro h; refine z13 ?_; refine z1 ?_; exact h.1) : q := h ⟨k⟩
theorem z95 (k : p) (h : Hold p → q := by intro h; refine z16 ?_; refine z1 ?_; exact h.1) : q := h ⟨k⟩
theorem z96 (k : p) (h : Hold p → q := by intro h; refine z75 ?_; refine z76 ?_; exact h.1) : q := h ⟨k⟩
theorem z97 (k : p) (h : Hold p → q := by intro h; refine z11 ?_; refine z11 ?_; exact h.1) : q := h ⟨k⟩
theorem z98 (k : p) (h : Hold p → q := by intro h; refine z78 ?_; refine z3 ?_; exact h.1) : q := h ⟨k⟩
theorem z99 (k : p) (h : Hold p → q := by intro h; refine z5 ?_; refine z75 ?_; exact h.1) : q := h ⟨k⟩
theorem z100 (k : p) (h : Hold p → q := by intro h; refine z73 ?_; refine z82 ?_; exact h.1) : q := h ⟨k⟩
theorem z101 (k : p) (h : Hold p → q := by intro h; refine z24 ?_; refine z1 ?_; exact h.1) : q := h ⟨k⟩
theorem z102 (k : p) (h : Hold p → q := by intro h; refine z15 ?_; refine z74 ?_; exact h.1) : q := h ⟨k⟩
theorem z103 (k : p) (h : Hold p → q := by intro h; refine z77 ?_; refine z8 ?_; exact h.1) : q := h ⟨k⟩
theorem z104 (k : p) (h : Hold p → q := by intro h; refine z5 ?_; refine z88 ?_; exact h.1) : q := h ⟨k⟩
theorem z105 (k : p) (h : Hold p → q := by intro h; refine z18 ?_; refine z1 ?_; exact h.1) : q := h ⟨k⟩
theorem z106 (k : p) (h : Hold p → q := by intro h; refine z74 ?_; refine z0 ?_; exact h.1) : q := h ⟨k⟩
theorem z107 (k : p) (h : Hold p → q := by intro h; refine gR_ ?_; refine z9 ?_; exact h.1) : q := h ⟨k⟩
theorem z108 (k : p) (h : Hold p → q := by intro h; refine z107 ?_; refine z92 ?_; exact h.1) : q := h ⟨k⟩
theorem z109 (k : p) (h : Hold p → q := by intro h; refine z15 ?_; refine z1 ?_; exact h.1) : q := h ⟨k⟩
theorem z110 (k : p) (h : Hold p → q := by intro h; refine z10 ?_; refine z108 ?_; exact h.1) : q := h ⟨k⟩
theorem z111 (k : p) (h : Hold p → q := by intro h; refine z73 ?_; refine z102 ?_; exact h.1) : q := h ⟨k⟩
theorem z112 (k : p) (h : Hold p → q := by intro h; refine z3 ?_; refine z3 ?_; exact h.1) : q := h ⟨k⟩
theorem z113 (k : p) (h : Hold p → q := by intro h; refine z20 ?_; refine z89 ?_; exact h.1) : q := h ⟨k⟩
theorem z114 (k : p) (h : Hold p → q := by intro h; refine z16 ?_; refine z74 ?_; exact h.1) : q := h ⟨k⟩
theorem z115 (k : p) (h : Hold p → q := by intro h; refine z26 ?_; refine z32 ?_; exact h.1) : q := h ⟨k⟩
theorem z116 (k : p) (h : Hold p → q := by intro h; refine z73 ?_; refine z22 ?_; exact h.1) : q := h ⟨k⟩
theorem z117 (k : p) (h : Hold p → q := by intro h; refine z93 ?_; refine z79 ?_; exact h.1) : q := h ⟨k⟩
theorem z118 (k : p) (h : Hold p → q := by intro h; refine z13 ?_; refine z3 ?_; exact h.1) : q := h ⟨k⟩
theorem z119 (k : p) (h : Hold p → q := by intro h; refine z0 ?_; refine z103 ?_; exact h.1) : q := h ⟨k⟩
theorem z120 (k : p) (h : Hold p → q := by intro h; refine z7 ?_; refine z28 ?_; exact h.1) : q := h ⟨k⟩
theorem z121 (k : p) (h : Hold p → q := by intro h; refine z80 ?_; refine z4 ?_; exact h.1) : q := h ⟨k⟩
theorem z122 (k : p) (h : Hold p → q := by intro h; refine z5 ?_; refine z27 ?_; exact h.1) : q := h ⟨k⟩
theorem z123 (k : p) (h : Hold p → q := by intro h; refine z73 ?_; refine z89 ?_; exact h.1) : q := h ⟨k⟩
theorem z124 (k : p) (h : Hold p → q := by intro h; refine z123 ?_; refine z0 ?_; exact h.1) : q := h ⟨k⟩
theorem z125 (k : p) (h : Hold p → q := by intro h; refine z75 ?_; refine z90 ?_; exact h.1) : q := h ⟨k⟩
theorem z126 (k : p) (h : Hold p → q := by intro h; refine z0 ?_; refine z0 ?_; exact h.1) : q := h ⟨k⟩
theorem z127 (k : p) (h : Hold p → q := by intro h; refine z20 ?_; refine z92 ?_; exact h.1) : q := h ⟨k⟩
theorem z128 (k : p) (h : Hold p → q := by intro h; refine z25 ?_; refine z25 ?_; exact h.1) : q := h ⟨k⟩
theorem z129 (k : p) (h : Hold p → q := by intro h; refine z13 ?_; refine z74 ?_; exact h.1) : q := h ⟨k⟩
theorem z130 (k : p) (h : Hold p → q := by intro h; refine z18 ?_; refine z74 ?_; exact h.1) : q := h ⟨k⟩
theorem z131 (k : p) (h : Hold p → q := by intro h; refine gR_ ?_; refine z82 ?_; exact h.1) : q := h ⟨k⟩
theorem z132 (k : p) (h : Hold p → q := by intro h; refine z30 ?_; refine z1 ?_; exact h.1) : q := h ⟨k⟩
theorem z133 (k : p) (h : Hold p → q := by intro h; refine z127 ?_; refine z8 ?_; exact h.1) : q := h ⟨k⟩
theorem z134 (k : p) (h : Hold p → q := by intro h; refine z77 ?_; refine z75 ?_; exact h.1) : q := h ⟨k⟩
theorem z135 (k : p) (h : Hold p → q := by intro h; refine z79 ?_; refine z109 ?_; exact h.1) : q := h ⟨k⟩
theorem z136 (k : p) (h : Hold p → q := by intro h; refine z75 ?_; refine z74 ?_; exact h.1) : q := h ⟨k⟩
theorem z137 (k : p) (h : Hold p → q := by intro h; refine z14 ?_; refine z14 ?_; exact h.1) : q := h ⟨k⟩
theorem z138 (k : p) (h : Hold p → q := by intro h; refine z117 ?_; refine z90 ?_; exact h.1) : q := h ⟨k⟩
theorem z139 (k : p) (h : Hold p → q := by intro h; refine z122 ?_; refine z77 ?_; exact h.1) : q := h ⟨k⟩
theorem z140 (k : p) (h : Hold p → q := by intro h; refine z18 ?_; refine z3 ?_; exact h.1) : q := h ⟨k⟩
theorem z141 (k : p) (h : Hold p → q := by intro h; refine z80 ?_; refine z80 ?_; exact h.1) : q := h ⟨k⟩
theorem z142 (k : p) (h : Hold p → q := by intro h; refine z79 ?_; refine z3 ?_; exact h.1) : q := h ⟨k⟩
theorem z143 (k : p) (h : Hold p → q := by intro h; refine z80 ?_; refine z128 ?_; exact h.1) : q := h ⟨k⟩
theorem z144 (k : p) (h : Hold p → q := by intro h; refine z93 ?_; refine z125 ?_; exact h.1) : q := h ⟨k⟩
theorem z145 (k : p) (h : Hold p → q := by intro h; refine z5 ?_; refine z110 ?_; exact h.1) : q := h ⟨k⟩
theorem z146 (k : p) (h : Hold p → q := by intro h; refine z91 ?_; refine z73 ?_; exact h.1) : q := h ⟨k⟩
theorem z147 (k : p) (h : Hold p → q := by intro h; refine z97 ?_; refine z97 ?_; exact h.1) : q := h ⟨k⟩
theorem z148 (k : p) (h : Hold p → q := by intro h; refine z142 ?_; refine z113 ?_; exact h.1) : q := h ⟨k⟩
theorem z149 (k : p) (h : Hold p → q := by intro h; refine z91 ?_; refine z0 ?_; exact h.1) : q := h ⟨k⟩
theorem z150 (k : p) (h : Hold p → q := by intro h; refine z77 ?_; refine z119 ?_; exact h.1) : q := h ⟨k⟩
theorem z151 (k : p) (h : Hold p → q := by intro h; refine z77 ?_; refine z79 ?_; exact h.1) : q := h ⟨k⟩
theorem z152 (k : p) (h : Hold p → q := by intro h; refine z4 ?_; refine z34 ?_; exact h.1) : q := h ⟨k⟩
theorem z153 (k : p) (h : Hold p → q := by intro h; refine z99 ?_; refine z90 ?_; exact h.1) : q := h ⟨k⟩
theorem z154 (k : p) (h : Hold p → q := by intro h; refine z15 ?_; refine z3 ?_; exact h.1) : q := h ⟨k⟩
theorem z155 (k : p) (h : Hold p → q := by intro h; refine z36 ?_; refine z101 ?_; exact h.1) : q := h ⟨k⟩
theorem z156 (k : p) (h : Hold p → q := by intro h; refine z95 ?_; refine z0 ?_; exact h.1) : q := h ⟨k⟩
theorem z157 (k : p) (h : Hold p → q := by intro h; refine z33 ?_; refine z33 ?_; exact h.1) : q := h ⟨k⟩
theorem z158 (k : p) (h : Hold p → q := by intro h; refine E1e ?_; refine z29 ?_; exact h.1) : q := h ⟨k⟩
theorem z159 (k : p) (h : Hold p → q := by intro h; refine z44 ?_; refine z1 ?_; exact h.1) : q := h ⟨k⟩
theorem z160 (k : p) (h : Hold p → q := by intro h; refine z75 ?_; refine z3 ?_; exact h.1) : q := h ⟨k⟩
theorem z161 (k : p) (h : Hold p → q := by intro h; refine z17 ?_; refine z0 ?_; exact h.1) : q := h ⟨k⟩
theorem z162 (k : p) (h : Hold p → q := by intro h; refine z99 ?_; refine z3 ?_; exact h.1) : q := h ⟨k⟩
theorem z163 (k : p) (h : Hold p → q := by intro h; refine z94 ?_; refine z27 ?_; exact h.1) : q := h ⟨k⟩
theorem z164 (k : p) (h : Hold p → q := by intro h; refine z11 ?_; refine z41 ?_; exact h.1) : q := h ⟨k⟩
theorem z165 (k : p) (h : Hold p → q := by intro h; refine z74 ?_; refine z88 ?_; exact h.1) : q := h ⟨k⟩
theorem z166 (k : p) (h : Hold p → q := by intro h; refine z3 ?_; refine z81 ?_; exact h.1) : q := h ⟨k⟩
theorem z167 (k : p) (h : Hold p → q := by intro h; refine z5 ?_; refine z73 ?_; exact h.1) : q := h ⟨k⟩
theorem z168 (k : p) (h : Hold p → q := by intro h; refine z46 ?_; refine z29 ?_; exact h.1) : q := h ⟨k⟩
theorem z169 (k : p) (h : Hold p → q := by intro h; refine z74 ?_; refine z110 ?_; exact h.1) : q := h ⟨k⟩
theorem z170 (k : p) (h : Hold p → q := by intro h; refine z3 ?_; refine z114 ?_; exact h.1) : q := h ⟨k⟩
theorem z171 (k : p) (h : Hold p → q := by intro h; refine z100 ?_; refine z3 ?_; exact h.1) : q := h ⟨k⟩
theorem z172 (k : p) (h : Hold p → q := by intro h; refine z7 ?_; refine z159 ?_; exact h.1) : q := h ⟨k⟩
theorem z173 (k : p) (h : Hold p → q := by intro h; refine z7 ?_; refine z48 ?_; exact h.1) : q := h ⟨k⟩
theorem z174 (k : p) (h : Hold p → q := by intro h; refine z82 ?_; refine z3 ?_; exact h.1) : q := h ⟨k⟩
theorem z175 (k : p) (h : Hold p → q := by intro h; refine z5 ?_; refine z79 ?_; exact h.1) : q := h ⟨k⟩
theorem z176 (k : p) (h : Hold p → q := by intro h; refine z35 ?_; refine z38 ?_; exact h.1) : q := h ⟨k⟩
theorem z177 (k : p) (h : Hold p → q := by intro h; refine z163 ?_; refine z86 ?_; exact h.1) : q := h ⟨k⟩
theorem z178 (k : p) (h : Hold p → q := by intro h; refine z4 ?_; refine z105 ?_; exact h.1) : q := h ⟨k⟩
theorem z179 (k : p) (h : Hold p → q := by intro h; refine z51 ?_; refine z101 ?_; exact h.1) : q := h ⟨k⟩
theorem z180 (k : p) (h : Hold p → q := by intro h; refine z86 ?_; refine z79 ?_; exact h.1) : q := h ⟨k⟩
theorem z181 (k : p) (h : Hold p → q := by intro h; refine z17 ?_; refine z77 ?_; exact h.1) : q := h ⟨k⟩
theorem z182 (k : p) (h : Hold p → q := by intro h; refine z5 ?_; refine z10 ?_; exact h.1) : q := h ⟨k⟩
theorem z183 (k : p) (h : Hold p → q := by intro h; refine z120 ?_; refine z3 ?_; exact h.1) : q := h ⟨k⟩
theorem z184 (k : p) (h : Hold p → q := by intro h; refine z30 ?_; refine z3 ?_; exact h.1) : q := h ⟨k⟩
theorem z185 (k : p) (h : Hold p → q := by intro h; refine z36 ?_; refine z14 ?_; exact h.1) : q := h ⟨k⟩
theorem z186 (k : p) (h : Hold p → q := by intro h; refine z151 ?_; refine z133 ?_; exact h.1) : q := h ⟨k⟩
theorem z187 (k : p) (h : Hold p → q := by intro h; refine z86 ?_; refine z126 ?_; exact h.1) : q := h ⟨k⟩
theorem z188 (k : p) (h : Hold p → q := by intro h; refine z80 ?_; refine z130 ?_; exact h.1) : q := h ⟨k⟩
theorem z189 (k : p) (h : Hold p → q := by intro h; refine z106 ?_; refine z0 ?_; exact h.1) : q := h ⟨k⟩
theorem z190 (k : p) (h : Hold p → q := by intro h; refine z164 ?_; refine z101 ?_; exact h.1) : q := h ⟨k⟩
theorem z191 (k : p) (h : Hold p → q := by intro h; refine z80 ?_; refine z118 ?_; exact h.1) : q := h ⟨k⟩
theorem z192 (k : p) (h : Hold p → q := by intro h; refine z80 ?_; refine z94 ?_; exact h.1) : q := h ⟨k⟩
theorem z193 (k : p) (h : Hold p → q := by intro h; refine z115 ?_; refine z14 ?_; exact h.1) : q := h ⟨k⟩
theorem z194 (k : p) (h : Hold p → q := by intro h; refine z5 ?_; refine z135 ?_; exact h.1) : q := h ⟨k⟩
theorem z195 (k : p) (h : Hold p → q := by intro h; refine z43 ?_; refine z112 ?_; exact h.1) : q := h ⟨k⟩
theorem z196 (k : p) (h : Hold p → q := by intro h; refine z5 ?_; refine z17 ?_; exact h.1) : q := h ⟨k⟩
theorem z197 (k : p) (h : Hold p → q := by intro h; refine z196 ?_; refine z86 ?_; exact h.1) : q := h ⟨k⟩
theorem z198 (k : p) (h : Hold p → q := by intro h; refine gR_ ?_; refine z102 ?_; exact h.1) : q := h ⟨k⟩
theorem z199 (k : p) (h : Hold p → q := by intro h; refine z143 ?_; refine z178 ?_; exact h.1) : q := h ⟨k⟩
theorem z200 (k : p) (h : Hold p → q := by intro h; refine z73 ?_; refine z12 ?_; exact h.1) : q := h ⟨k⟩
theorem z201 (k : p) (h : Hold p → q := by intro h; refine z45 ?_; refine z105 ?_; exact h.1) : q := h ⟨k⟩
theorem z202 (k : p) (h : Hold p → q := by intro h; refine z74 ?_; refine z125 ?_; exact h.1) : q := h ⟨k⟩
theorem z203 (k : p) (h : Hold p → q := by intro h; refine z17 ?_; refine z136 ?_; exact h.1) : q := h ⟨k⟩
theorem z204 (k : p) (h : Hold p → q := by intro h; refine z77 ?_; refine z0 ?_; exact h.1) : q := h ⟨k⟩
theorem z205 (k : p) (h : Hold p → q := by intro h; refine z91 ?_; refine z160 ?_; exact h.1) : q := h ⟨k⟩
theorem z206 (k : p) (h : Hold p → q := by intro h; refine z19 ?_; refine z3 ?_; exact h.1) : q := h ⟨k⟩
end
instance : FnF Tryz.prog 4 Tryz.f4 := ⟨Tryz.func4⟩
instance : FnF Tryz.prog 21 Tryz.f21 := ⟨Tryz.func21⟩
instance : FnF Tryz.prog 22 Tryz.f22 := ⟨Tryz.func22⟩
instance : FnF Tryz.prog 23 Tryz.f23 := ⟨Tryz.func23⟩
instance : FnF Tryz.prog 24 Tryz.f24 := ⟨Tryz.func24⟩
instance : FnF Tryz.prog 25 Tryz.f25 := ⟨Tryz.func25⟩
instance : FnF Tryz.prog 26 Tryz.f26 := ⟨Tryz.func26⟩
instance : FnF Tryz.prog 27 Tryz.f27 := ⟨Tryz.func27⟩
instance : FnF Tryz.prog 28 Tryz.f28 := ⟨Tryz.func28⟩
instance : FnF Tryz.prog 29 Tryz.f29 := ⟨Tryz.func29⟩
instance : FnF Tryz.prog 30 Tryz.f30 := ⟨Tryz.func30⟩
instance : FnF Tryz.prog 32 Tryz.f32 := ⟨Tryz.func32⟩
instance : FnF Tryz.prog 33 Tryz.f33 := ⟨Tryz.func33⟩
instance : FnF Tryz.prog 34 Tryz.f34 := ⟨Tryz.func34⟩
instance : FnF Tryz.prog 41 Tryz.f41 := ⟨Tryz.func41⟩
instance : FnF Tryz.prog 43 Tryz.f43 := ⟨Tryz.func43⟩
instance : FnF Tryz.prog 60 Tryz.f60 := ⟨Tryz.func60⟩
instance : FnF Tryz.prog 64 Tryz.f64 := ⟨Tryz.func64⟩
instance : FnF Tryz.prog 68 Tryz.f68 := ⟨Tryz.func68⟩
instance : FnF Tryz.prog 69 Tryz.f69 := ⟨Tryz.func69⟩
instance : FnF Tryz.prog 70 Tryz.f70 := ⟨Tryz.func70⟩
instance : FnF Tryz.prog 71 Tryz.f71 := ⟨Tryz.func71⟩
instance : FnF Tryz.prog 72 Tryz.f72 := ⟨Tryz.func72⟩
instance : FnF Tryz.prog 73 Tryz.f73 := ⟨Tryz.func73⟩
instance : FnF Tryz.prog 74 Tryz.f74 := ⟨Tryz.func74⟩
instance : FnF Tryz.prog 75 Tryz.f75 := ⟨Tryz.func75⟩
instance : FnF Tryz.prog 76 Tryz.f76 := ⟨Tryz.func76⟩
instance : FnF Tryz.prog 77 Tryz.f77 := ⟨Tryz.func77⟩
instance : FnF Tryz.prog 78 Tryz.f78 := ⟨Tryz.func78⟩
instance : FnF Tryz.prog 79 Tryz.f79 := ⟨Tryz.func79⟩
instance : FnF Tryz.prog 80 Tryz.f80 := ⟨Tryz.func80⟩
instance : FnF Tryz.prog 82 Tryz.f82 := ⟨Tryz.func82⟩
instance : FnF Tryz.prog 85 Tryz.f85 := ⟨Tryz.func85⟩
instance : FnF Tryz.prog 86 Tryz.f86 := ⟨Tryz.func86⟩
instance : FnF Tryz.prog 87 Tryz.f87 := ⟨Tryz.func87⟩
instance : FnF Tryz.prog 88 Tryz.f88 := ⟨Tryz.func88⟩
instance : FnF Tryz.prog 90 Tryz.f90 := ⟨Tryz.func90⟩
instance : FnF Tryz.prog 91 Tryz.f91 := ⟨Tryz.func91⟩
instance : FnF Tryz.prog 93 Tryz.f93 := ⟨Tryz.func93⟩
instance : FnF Tryz.prog 97 Tryz.f97 := ⟨Tryz.func97⟩
instance : FnF Tryz.prog 98 Tryz.f98 := ⟨Tryz.func98⟩
instance : FnF Tryz.prog 100 Tryz.f100 := ⟨Tryz.func100⟩
instance : FnF Tryz.prog 101 Tryz.f101 := ⟨Tryz.func101⟩
instance : FnF Tryz.prog 102 Tryz.f102 := ⟨Tryz.func102⟩
instance : FnF Tryz.prog 106 Tryz.f106 := ⟨Tryz.func106⟩
instance : FnF Tryz.prog 107 Tryz.f107 := ⟨Tryz.func107⟩
instance : FnF Tryz.prog 108 Tryz.f108 := ⟨Tryz.func108⟩
instance : FnF Tryz.prog 109 Tryz.f109 := ⟨Tryz.func109⟩
instance : FnF Tryz.prog 116 Tryz.f116 := ⟨Tryz.func116⟩
instance : FnF Tryz.prog 121 Tryz.f121 := ⟨Tryz.func121⟩
instance : FnF Tryz.prog 133 Tryz.f133 := ⟨Tryz.func133⟩
instance : FnF Tryz.prog 134 Tryz.f134 := ⟨Tryz.func134⟩
instance : FnF Tryz.prog 135 Tryz.f135 := ⟨Tryz.func135⟩
instance : FnF Tryz.prog 136 Tryz.f136 := ⟨Tryz.func136⟩
instance : FnF Tryz.prog 137 Tryz.f137 := ⟨Tryz.func137⟩
instance : FnF Tryz.prog 138 Tryz.f138 := ⟨Tryz.func138⟩
instance : FnF Tryz.prog 139 Tryz.f139 := ⟨Tryz.func139⟩
instance : FnF Tryz.prog 140 Tryz.f140 := ⟨Tryz.func140⟩
instance : FnF Tryz.prog 141 Tryz.f141 := ⟨Tryz.func141⟩
instance : FnF Tryz.prog 142 Tryz.f142 := ⟨Tryz.func142⟩
instance : FnF Tryz.prog 143 Tryz.f143 := ⟨Tryz.func143⟩
instance : FnF Tryz.prog 144 Tryz.f144 := ⟨Tryz.func144⟩
instance : FnF Tryz.prog 145 Tryz.f145 := ⟨Tryz.func145⟩
instance : FnF Tryz.prog 146 Tryz.f146 := ⟨Tryz.func146⟩
instance : FnF Tryz.prog 147 Tryz.f147 := ⟨Tryz.func147⟩
instance : FnF Tryz.prog 148 Tryz.f148 := ⟨Tryz.func148⟩
instance : FnF Tryz.prog 149 Tryz.f149 := ⟨Tryz.func149⟩
instance : FnF Tryz.prog 150 Tryz.f150 := ⟨Tryz.func150⟩
instance : FnF Tryz.prog 151 Tryz.f151 := ⟨Tryz.func151⟩
instance : FnF Tryz.prog 152 Tryz.f152 := ⟨Tryz.func152⟩
instance : FnF Tryz.prog 153 Tryz.f153 := ⟨Tryz.func153⟩
instance : FnF Tryz.prog 154 Tryz.f154 := ⟨Tryz.func154⟩
instance : FnF Tryz.prog 155 Tryz.f155 := ⟨Tryz.func155⟩
instance : FnF Tryz.prog 157 Tryz.f157 := ⟨Tryz.func157⟩
instance : FnF Tryz.prog 158 Tryz.f158 := ⟨Tryz.func158⟩
instance : FnF Tryz.prog 159 Tryz.f159 := ⟨Tryz.func159⟩
instance : FnF Tryz.prog 160 Tryz.f160 := ⟨Tryz.func160⟩
instance : FnF Tryz.prog 161 Tryz.f161 := ⟨Tryz.func161⟩
instance : FnF Tryz.prog 162 Tryz.f162 := ⟨Tryz.func162⟩
instance : FnF Tryz.prog 163 Tryz.f163 := ⟨Tryz.func163⟩
instance : FnF Tryz.prog 164 Tryz.f164 := ⟨Tryz.func164⟩
instance : FnF Tryz.prog 165 Tryz.f165 := ⟨Tryz.func165⟩
instance : FnF Tryz.prog 166 Tryz.f166 := ⟨Tryz.func166⟩
instance : FnF Tryz.prog 167 Tryz.f167 := ⟨Tryz.func167⟩
instance : FnF Tryz.prog 168 Tryz.f168 := ⟨Tryz.func168⟩
instance : FnF Tryz.prog 169 Tryz.f169 := ⟨Tryz.func169⟩
instance : FnF Tryz.prog 172 Tryz.f172 := ⟨Tryz.func172⟩
instance : FnF Tryz.prog 173 Tryz.f173 := ⟨Tryz.func173⟩
instance : FnF Tryz.prog 175 Tryz.f175 := ⟨Tryz.func175⟩
instance : FnF Tryz.prog 176 Tryz.f176 := ⟨Tryz.func176⟩
instance : FnF Tryz.prog 177 Tryz.f177 := ⟨Tryz.func177⟩
instance : FnF Tryz.prog 178 Tryz.f178 := ⟨Tryz.func178⟩
instance : FnF Tryz.prog 181 Tryz.f181 := ⟨Tryz.func181⟩
instance : FnF Tryz.prog 187 Tryz.f187 := ⟨Tryz.func187⟩
instance : FnF Tryz.prog 189 Tryz.f189 := ⟨Tryz.func189⟩
instance : FnF Tryz.prog 193 Tryz.f193 := ⟨Tryz.func193⟩
instance : FnF Tryz.prog 194 Tryz.f194 := ⟨Tryz.func194⟩
instance : FnF Tryz.prog 195 Tryz.f195 := ⟨Tryz.func195⟩
instance : FnF Tryz.prog 196 Tryz.f196 := ⟨Tryz.func196⟩
instance : FnF Tryz.prog 197 Tryz.f197 := ⟨Tryz.func197⟩
instance : FnF Tryz.prog 198 Tryz.f198 := ⟨Tryz.func198⟩
instance : FnF Tryz.prog 199 Tryz.f199 := ⟨Tryz.func199⟩
instance : FnF Tryz.prog 200 Tryz.f200 := ⟨Tryz.func200⟩
instance : FnF Tryz.prog 201 Tryz.f201 := ⟨Tryz.func201⟩
instance : FnF Tryz.prog 202 Tryz.f202 := ⟨Tryz.func202⟩
instance : FnF Tryz.prog 203 Tryz.f203 := ⟨Tryz.func203⟩
instance : FnF Tryz.prog 204 Tryz.f204 := ⟨Tryz.func204⟩
instance : FnF Tryz.prog 205 Tryz.f205 := ⟨Tryz.func205⟩
instance : FnF Tryz.prog 206 Tryz.f206 := ⟨Tryz.func206⟩
instance : FnF Tryz.prog 207 Tryz.f207 := ⟨Tryz.func207⟩
instance : FnF Tryz.prog 210 Tryz.f210 := ⟨Tryz.func210⟩
instance : FnF Tryz.prog 211 Tryz.f211 := ⟨Tryz.func211⟩
instance : FnF Tryz.prog 212 Tryz.f212 := ⟨Tryz.func212⟩
instance : FnF Tryz.prog 213 Tryz.f213 := ⟨Tryz.func213⟩
instance : FnF Tryz.prog 214 Tryz.f214 := ⟨Tryz.func214⟩
instance : FnF Tryz.prog 215 Tryz.f215 := ⟨Tryz.func215⟩
instance : FnF Tryz.prog 216 Tryz.f216 := ⟨Tryz.func216⟩
instance : FnF Tryz.prog 217 Tryz.f217 := ⟨Tryz.func217⟩
instance : FnF Tryz.prog 218 Tryz.f218 := ⟨Tryz.func218⟩
instance : FnF Tryz.prog 219 Tryz.f219 := ⟨Tryz.func219⟩
instance : FnF Tryz.prog 220 Tryz.f220 := ⟨Tryz.func220⟩
instance : FnF Tryz.prog 225 Tryz.f225 := ⟨Tryz.func225⟩
instance : FnF Tryz.prog 226 Tryz.f226 := ⟨Tryz.func226⟩
instance : FnF Tryz.prog 227 Tryz.f227 := ⟨Tryz.func227⟩
instance : FnF Tryz.prog 228 Tryz.f228 := ⟨Tryz.func228⟩
instance : FnF Tryz.prog 229 Tryz.f229 := ⟨Tryz.func229⟩
instance : FnF Tryz.prog 230 Tryz.f230 := ⟨Tryz.func230⟩
instance : FnF Tryz.prog 231 Tryz.f231 := ⟨Tryz.func231⟩
instance : FnF Tryz.prog 232 Tryz.f232 := ⟨Tryz.func232⟩
instance : FnF Tryz.prog 233 Tryz.f233 := ⟨Tryz.func233⟩
instance : FnF Tryz.prog 234 Tryz.f234 := ⟨Tryz.func234⟩
instance : FnF Tryz.prog 235 Tryz.f235 := ⟨Tryz.func235⟩
instance : FnF Tryz.prog 236 Tryz.f236 := ⟨Tryz.func236⟩
instance : FnF Tryz.prog 248 Tryz.f248 := ⟨Tryz.func248⟩
instance : FnF Tryz.prog 249 Tryz.f249 := ⟨Tryz.func249⟩
instance : FnF Tryz.prog 250 Tryz.f250 := ⟨Tryz.func250⟩
instance : FnF Tryz.prog 251 Tryz.f251 := ⟨Tryz.func251⟩
instance : FnF Tryz.prog 252 Tryz.f252 := ⟨Tryz.func252⟩
instance : FnF Tryz.prog 253 Tryz.f253 := ⟨Tryz.func253⟩
instance : FnF Tryz.prog 254 Tryz.f254 := ⟨Tryz.func254⟩
instance : FnF Tryz.prog 255 Tryz.f255 := ⟨Tryz.func255⟩
instance : FnF Tryz.prog 256 Tryz.f256 := ⟨Tryz.func256⟩
instance : FnF Tryz.prog 262 Tryz.f262 := ⟨Tryz.func262⟩
instance : FnF Tryz.prog 263 Tryz.f263 := ⟨Tryz.func263⟩
instance : FnF Tryz.prog 265 Tryz.f265 := ⟨Tryz.func265⟩
instance : FnF Tryz.prog 266 Tryz.f266 := ⟨Tryz.func266⟩
set_option maxRecDepth 100000
theorem C5y (k i : Int) : Spec Tryz.prog 147 #[.int .i64 k, .int .i64 i] [] [] (fun _ : Unit => .tuple #[.int .i64 (binds k i).1, .int .i64 (binds k i).2]) (fun _ => []) (fun _ => []) := by
 refine sg_ Tryz.ntmps147 fun B hB => ?_
 refine z180 ?_; refine z1 ?_; refine z8 ?_; refine z0 ?_; refine z8 ?_; refine z0 ?_; refine z8 ?_; refine z8 ?_; refine z8 ?_; refine z0 ?_; refine z8 ?_; refine z126 ?_; refine z0 ?_; refine z111 ?_; refine A0e (fun h7 => ?_) (fun h7 => ?_)
 ·refine z122 ?_; refine z17 ?_; refine z135 ?_; refine A0e (fun h21 => ?_) (fun h21 => ?_)
  ·refine z86 ?_; refine A1x Tryz.func147 Tryz.results147 wn_ wn_ () (by simp_all [binds]) (fun w hs => hs.none)
  ·refine z197 ?_; refine A1x Tryz.func147 Tryz.results147 wn_ wn_ () (by simp_all [binds]) (fun w hs => hs.none)
 ·refine z198 ?_; refine A0e (fun h7 => ?_) (fun h7 => ?_)
  ·refine z17 ?_; refine z135 ?_; refine A0e (fun h21 => ?_) (fun h21 => ?_)
   ·refine z86 ?_; refine A1x Tryz.func147 Tryz.results147 wn_ wn_ () (by simp_all [binds]) (fun w hs => hs.none)
   ·refine z197 ?_; refine A1x Tryz.func147 Tryz.results147 wn_ wn_ () (by simp_all [binds]) (fun w hs => hs.none)
  ·refine z83 ?_; refine z111 ?_; refine A0e (fun h10 => ?_) (fun h10 => ?_)
   ·refine z17 ?_; refine z10 ?_; refine z10 ?_; refine z135 ?_; refine A0e (fun h23 => ?_) (fun h23 => ?_)
    ·refine z86 ?_; refine A1x Tryz.func147 Tryz.results147 wn_ wn_ () (by simp_all [binds]) (fun w hs => hs.none)
    ·refine z197 ?_; refine A1x Tryz.func147 Tryz.results147 wn_ wn_ () (by simp_all [binds]) (fun w hs => hs.none)
   ·refine z83 ?_; refine z111 ?_; refine A0e (fun h12 => ?_) (fun h12 => ?_)
    ·refine z17 ?_; refine z10 ?_; refine z135 ?_; refine A0e (fun h23 => ?_) (fun h23 => ?_)
     ·refine z86 ?_; refine A1x Tryz.func147 Tryz.results147 wn_ wn_ () (by simp_all [binds]) (fun w hs => hs.none)
     ·refine z197 ?_; refine A1x Tryz.func147 Tryz.results147 wn_ wn_ () (by simp_all [binds]) (fun w hs => hs.none)
    ·refine z83 ?_; refine z111 ?_; refine A0e (fun h14 => ?_) (fun h14 => ?_)
     ·refine z17 ?_; refine z135 ?_; refine A0e (fun h23 => ?_) (fun h23 => ?_)
      ·refine z86 ?_; refine A1x Tryz.func147 Tryz.results147 wn_ wn_ () (by simp_all [binds]) (fun w hs => hs.none)
      ·refine z197 ?_; refine A1x Tryz.func147 Tryz.results147 wn_ wn_ () (by simp_all [binds]) (fun w hs => hs.none)
     ·refine z83 ?_; refine z111 ?_; refine A0e (fun h16 => ?_) (fun h16 => ?_)
      ·refine z122 ?_; refine z17 ?_; refine z135 ?_; refine A0e (fun h25 => ?_) (fun h25 => ?_)
       ·refine z86 ?_; refine A1x Tryz.func147 Tryz.results147 wn_ wn_ () (by simp_all [binds]) (fun w hs => hs.none)
       ·refine z197 ?_; refine A1x Tryz.func147 Tryz.results147 wn_ wn_ () (by simp_all [binds]) (fun w hs => hs.none)
      ·refine z111 ?_; refine A0e (fun h16 => ?_) (fun h16 => ?_)
       ·refine z122 ?_; refine z17 ?_; refine z135 ?_; refine A0e (fun h25 => ?_) (fun h25 => ?_)
        ·refine z86 ?_; refine A1x Tryz.func147 Tryz.results147 wn_ wn_ () (by simp_all [binds]) (fun w hs => hs.none)
        ·refine z197 ?_; refine A1x Tryz.func147 Tryz.results147 wn_ wn_ () (by simp_all [binds]) (fun w hs => hs.none)
       ·refine z198 ?_; refine A0e (fun h16 => ?_) (fun h16 => ?_)
        ·refine z17 ?_; refine z135 ?_; refine A0e (fun h25 => ?_) (fun h25 => ?_)
         ·refine z86 ?_; refine A1x Tryz.func147 Tryz.results147 wn_ wn_ () (by simp_all [binds]) (fun w hs => hs.none)
         ·refine z197 ?_; refine A1x Tryz.func147 Tryz.results147 wn_ wn_ () (by simp_all [binds]) (fun w hs => hs.none)
        ·refine z197 ?_; refine A1x Tryz.func147 Tryz.results147 wn_ wn_ () (by simp_all [binds]) (fun w hs => hs.none)
theorem D2d (t : T) (vr vk vs : SH) (c : FuncId) (cap : List Value) (FΓ : List Fact) (SM SF : Nat → List Res) (β : Nat → Bool)
  (hc : ∀ (args : Array Value) (w : World), (callFunc c args).run Tryz.prog w = .ok (.enter c args) w)
  (hcl : ∀ m k v d, (parts t)[m]? = some (k, v, d) → (∀ j, j < m → β j = true) → ∀ vr vk vs, Spec Tryz.prog c (.agg (tc k vr vk vs).toArray :: .int .i64 v :: .int .i64 d :: cap).toArray (RT k vr vk vs :: FΓ) (SM m) (fun _ : Unit => .bool (β m)) (fun _ => []) (fun _ => if β m then SM (m + 1) else SF m)) :
  Spec Tryz.prog 98 #[.agg (tc t vr vk vs).toArray, .func (.func c) #[] cap.toArray] (RT t vr vk vs :: FΓ) (SM 0) (fun _ : Unit => .bool (ff β (parts t).length == (parts t).length)) (fun _ => []) (fun _ => if ff β (parts t).length = (parts t).length then SM (parts t).length else SF (ff β (parts t).length)) := by
 refine sg_ Tryz.ntmps98 fun B hB => ?_
 refine go_open (fun hk hn hnm => ?_); refine A1c (ts := t.kids) (fun VR VK VS hl1 hA1 => ?_); refine A3a (bs := t.sys) (fun VF VK2 hl2 hA2 => ?_); have hpl := B4e t; refine z73 ?_; refine q0 rfl (A2d fun b2 => ?_); refine z106 ?_; refine z100 ?_; refine z133 ?_; refine A4g (X := Nat) (fun i => i ≤ t.kids.length ∧ ∀ j, j < i → β j = true) (fun i => [(1, .func (.func c) #[] cap.toArray), (2, .pointer (some ⟨b2, 0, none⟩)), (15, sl vk t.kids.length), (16, .int .i64 (t.kids.length : Int)), (17, .int .i64 (i : Int))]) (fun i => TLx t.kids vk VR VK VS :: BLx t.sys vs VF VK2 :: RT t vr vk vs :: FΓ) (fun i => A1o b2 (tc t vr vk vs) 35 :: SM i) (fun i => t.kids.length - i) (0) (⟨Nat.zero_le _, fun j hj => by omega⟩) (by exact lr_) ?_ ?_
 ·exact fun w hs => hs.l9
 ·intro i base0 ⟨hi, hβ⟩ next0; refine z124 ?_; refine A0e (fun h18 => ?_) (fun h18 => ?_)
  ·have hlt : i < t.kids.length := by have := of_decide_eq_true h18; omega
   obtain ⟨bk, o, hav⟩ := hA1 oo_; refine z91 ?_; refine z75 ?_; refine z40 ?_; refine z49 ?_; refine q0 rfl (A2p fun b6 => ?_); refine z2 ?_; refine z156 ?_; refine A8h i hlt ?_; refine gR_ ?_; have hpk := A5a t i hlt; refine z174 ?_; refine q0 rfl (A0b Tryz.call147 (C5y t.kind i) (fun x26 => ?_)); refine z93 ?_; refine z75 ?_; refine z22 ?_; refine z112 ?_; refine q0 rfl (A6y hc (hcl i _ _ _ hpk hβ _ _ _) (fun x33 => ?_)); refine z132 ?_; refine A0e (fun h34 => ?_) (fun h34 => ?_)
   ·have hβf : β i = false := by simpa using h34
    refine z77 ?_; have hff := D4z hβf hβ (n := (parts t).length) oo_; refine A1r Tryz.func98 Tryz.results98 wn_ () (by simp [hff]; omega) (fun w hs => by rw [hff, if_neg oo_]; simp only [hβf, Bool.false_eq_true, if_false] at hs; exact (hs.l8).A2t)
   ·refine z145 ?_; have hβt : β i = true := by simpa using h34
    refine A0a (fun w hs => ?_) (next0 (i + 1) _ ⟨hlt, fun j hj => (by rcases Nat.lt_succ_iff_lt_or_eq.mp hj with h | h; exact hβ j h; subst h; exact hβt)⟩ oo_ lr_); simp only [hβt, if_true] at hs; exact ((hs.l9).perm List.perm_append_comm).drop
  ·have hge : i = t.kids.length := by have := of_decide_eq_false h18; omega
   refine z181 ?_; refine z0 ?_; refine z100 ?_; refine z109 ?_; refine A0z ([(1, .func (.func c) #[] cap.toArray), (2, .pointer (some ⟨b2, 0, none⟩)), (9, .int .i64 (more t.kind))]) (fun hK => ?_) (fun base => ?_)
   ·refine A0e (fun h38 => ?_) (fun h38 => ?_)
    ·refine gR_ ?_; refine z74 ?_; exact hK _ ⟨rfl, rfl, by first | (rw [more, if_pos (of_decide_eq_true h38)]; rfl) | (rw [more, if_neg (of_decide_eq_false h38)]; rfl), trivial⟩
    ·refine z5 ?_; exact hK _ ⟨rfl, rfl, by first | (rw [more, if_pos (of_decide_eq_true h38)]; rfl) | (rw [more, if_neg (of_decide_eq_false h38)]; rfl), trivial⟩
   ·refine z0 ?_; refine z100 ?_; refine z133 ?_; refine A4g (X := Nat) (fun i2 => i2 ≤ t.sys.length ∧ ∀ j, j < t.kids.length + A1k i2 t.sys → β j = true) (fun i2 => [(1, .func (.func c) #[] cap.toArray), (9, .int .i64 (more t.kind)), (40, sl vs t.sys.length), (41, .int .i64 (t.sys.length : Int)), (42, .int .i64 (i2 : Int))]) (fun i2 => BLx t.sys vs VF VK2 :: FΓ) (fun i2 => SM (t.kids.length + A1k i2 t.sys)) (fun i2 => t.sys.length - i2) (0) (⟨Nat.zero_le _, fun j hj => hβ j (by simp [A1k] at hj; omega)⟩) (by exact lr_) ?_ ?_
    ·exact fun w hs => (by simpa [A1k, show i = t.kids.length by omega] using (hs.drop.less (Γ' := BLx t.sys vs VF VK2 :: FΓ) sx_))
    ·intro i2 base1 ⟨hi2, hβ2⟩ next1; refine z124 ?_; refine A0e (fun h43 => ?_) (fun h43 => ?_)
     ·have hlt2 : i2 < t.sys.length := by have := of_decide_eq_true h43; omega
      obtain ⟨bk2, o2, hav2⟩ := hA2 oo_; refine z146 ?_; refine z40 ?_; refine q0 rfl (E4v ?_); refine q0 rfl (A2p fun b11 => ?_); refine z95 ?_; refine z100 ?_; refine z133 ?_; refine A5y i2 oo_ ?_; refine A1c (ts := (t.sys.getD i2 br0).kids) (fun VR3 VK3 VS3 hl3 hA3 => ?_); refine A4g (X := Nat) (fun j => j ≤ (t.sys.getD i2 br0).kids.length ∧ ∀ m, m < t.kids.length + A1k i2 t.sys + j → β m = true) (fun j => [(1, .func (.func c) #[] cap.toArray), (9, .int .i64 (more t.kind)), (40, sl vs t.sys.length), (41, .int .i64 (t.sys.length : Int)), (42, .int .i64 ((i2 : Nat) : Int)), (47, sl (VK2 i2) (t.sys.getD i2 br0).kids.length), (48, .int .i64 ((t.sys.getD i2 br0).kids.length : Int)), (49, .int .i64 (j : Int))]) (fun j => TLx (t.sys.getD i2 br0).kids (VK2 i2) VR3 VK3 VS3 :: BLx t.sys vs VF VK2 :: FΓ) (fun j => SM (t.kids.length + A1k i2 t.sys + j)) (fun j => (t.sys.getD i2 br0).kids.length - j) (0) (⟨Nat.zero_le _, hβ2⟩) (by exact lr_) ?_ ?_
      ·exact fun w hs => (hs.l9).drop
      ·intro j base2 ⟨hj, hβ3⟩ next2; refine z124 ?_; refine A0e (fun h50 => ?_) (fun h50 => ?_)
       ·have hlt3 : j < (t.sys.getD i2 br0).kids.length := by have := of_decide_eq_true h50; omega
        obtain ⟨bk3, o3, hav3⟩ := hA3 oo_; have hps := A5k t i2 j hlt2 hlt3; refine A8h j hlt3 ?_; refine z146 ?_; refine z40 ?_; refine z49 ?_; refine q0 rfl (A2p fun b13 => ?_); refine z95 ?_; refine z75 ?_; refine z22 ?_; refine z3 ?_; refine q0 rfl (A6y hc (hcl _ _ _ _ hps hβ3 _ _ _) (fun x56 => ?_)); refine z132 ?_; refine A0e (fun h57 => ?_) (fun h57 => ?_)
        ·have hβf : β (t.kids.length + A1k i2 t.sys + j) = false := by simpa using h57
         refine z77 ?_; have hbd := C9d hlt2 hlt3; have hff := D4z hβf hβ3 (n := (parts t).length) oo_; refine A1r Tryz.func98 Tryz.results98 wn_ () (by simp [hff]; omega) (fun w hs => by rw [hff, if_neg oo_]; simp only [hβf, Bool.false_eq_true, if_false] at hs; exact (hs.l8).A2t)
        ·refine z145 ?_; have hβt : β (t.kids.length + A1k i2 t.sys + j) = true := by simpa using h57
         refine A0a (fun w hs => ?_) (next2 (j + 1) _ ⟨hlt3, fun j2 hj2 => (by rcases Nat.lt_succ_iff_lt_or_eq.mp hj2 with h | h; exact hβ3 j2 h; subst h; exact hβt)⟩ oo_ lr_); simp only [hβt, if_true] at hs; exact (hs.l9).A2t
       ·have hge3 : j = (t.sys.getD i2 br0).kids.length := by have := of_decide_eq_false h50; omega
        refine z17 ?_; refine z110 ?_; refine A0a (fun w hs => ?_) (next1 (i2 + 1) _ ⟨hlt2, by rw [A7q i2 t.sys hlt2]; rw [hge3] at hβ3; simpa [Nat.add_assoc] using hβ3⟩ oo_ lr_); rw [hge3] at hs; simp only [A7q i2 t.sys hlt2, ← Nat.add_assoc]; exact hs.l9
     ·refine z181 ?_; have hie : i2 = t.sys.length := by have := of_decide_eq_false h43; omega
      have hff := D7v (β := β) (n := (parts t).length) (by rw [hpl, ← hie]; exact hβ2); refine A1r Tryz.func98 Tryz.results98 wn_ () (by simp [hff]) (fun w hs => by rw [hff, if_pos rfl, hpl, ← hie]; exact hs.l8)
theorem E5n (k : Int) : Spec Tryz.prog 173 #[.int .i64 k] [] [] (fun _ : Unit => .int .i64 (A4j k)) (fun _ => []) (fun _ => []) := by
 refine sg_ Tryz.ntmps173 fun B hB => ?_
 refine z151 ?_; refine z1 ?_; refine z8 ?_; refine z0 ?_; refine z111 ?_; refine A0e (fun h4 => ?_) (fun h4 => ?_)
 ·refine z139 ?_; refine A1r Tryz.func173 Tryz.results173 wn_ () (by simp_all [A4j]) (fun w hs => hs.none)
 ·refine z111 ?_; refine A0e (fun h4 => ?_) (fun h4 => ?_)
  ·refine z139 ?_; refine A1r Tryz.func173 Tryz.results173 wn_ () (by simp_all [A4j]) (fun w hs => hs.none)
  ·refine z111 ?_; refine A0e (fun h4 => ?_) (fun h4 => ?_)
   ·refine z139 ?_; refine A1r Tryz.func173 Tryz.results173 wn_ () (by simp_all [A4j]) (fun w hs => hs.none)
   ·refine z111 ?_; refine A0e (fun h4 => ?_) (fun h4 => ?_)
    ·refine z139 ?_; refine A1r Tryz.func173 Tryz.results173 wn_ () (by simp_all [A4j]) (fun w hs => hs.none)
    ·refine z111 ?_; refine A0e (fun h4 => ?_) (fun h4 => ?_)
     ·refine z139 ?_; refine A1r Tryz.func173 Tryz.results173 wn_ () (by simp_all [A4j]) (fun w hs => hs.none)
     ·refine z111 ?_; refine A0e (fun h4 => ?_) (fun h4 => ?_)
      ·refine z139 ?_; refine A1r Tryz.func173 Tryz.results173 wn_ () (by simp_all [A4j]) (fun w hs => hs.none)
      ·refine z111 ?_; refine A0e (fun h4 => ?_) (fun h4 => ?_)
       ·refine z139 ?_; refine A1r Tryz.func173 Tryz.results173 wn_ () (by simp_all [A4j]) (fun w hs => hs.none)
       ·refine z198 ?_; refine A0e (fun h4 => ?_) (fun h4 => ?_)
        ·refine z77 ?_; refine A1r Tryz.func173 Tryz.results173 wn_ () (by simp_all [A4j]) (fun w hs => hs.none)
        ·refine z0 ?_; refine z111 ?_; refine A0e (fun h13 => ?_) (fun h13 => ?_)
         ·refine z139 ?_; refine A1r Tryz.func173 Tryz.results173 wn_ () (by simp_all [A4j]) (fun w hs => hs.none)
         ·refine z111 ?_; refine A0e (fun h13 => ?_) (fun h13 => ?_)
          ·refine z139 ?_; refine A1r Tryz.func173 Tryz.results173 wn_ () (by simp_all [A4j]) (fun w hs => hs.none)
          ·refine z111 ?_; refine A0e (fun h13 => ?_) (fun h13 => ?_)
           ·refine z139 ?_; refine A1r Tryz.func173 Tryz.results173 wn_ () (by simp_all [A4j]) (fun w hs => hs.none)
           ·refine z111 ?_; refine A0e (fun h13 => ?_) (fun h13 => ?_)
            ·refine z139 ?_; refine A1r Tryz.func173 Tryz.results173 wn_ () (by simp_all [A4j]) (fun w hs => hs.none)
            ·refine z111 ?_; refine A0e (fun h13 => ?_) (fun h13 => ?_)
             ·refine z139 ?_; refine A1r Tryz.func173 Tryz.results173 wn_ () (by simp_all [A4j]) (fun w hs => hs.none)
             ·refine z111 ?_; refine A0e (fun h13 => ?_) (fun h13 => ?_)
              ·refine z139 ?_; refine A1r Tryz.func173 Tryz.results173 wn_ () (by simp_all [A4j]) (fun w hs => hs.none)
              ·refine z111 ?_; refine A0e (fun h13 => ?_) (fun h13 => ?_)
               ·refine z139 ?_; refine A1r Tryz.func173 Tryz.results173 wn_ () (by simp_all [A4j]) (fun w hs => hs.none)
               ·refine z111 ?_; refine A0e (fun h13 => ?_) (fun h13 => ?_)
                ·refine z139 ?_; refine A1r Tryz.func173 Tryz.results173 wn_ () (by simp_all [A4j]) (fun w hs => hs.none)
                ·refine z198 ?_; refine A0e (fun h13 => ?_) (fun h13 => ?_)
                 ·refine z77 ?_; refine A1r Tryz.func173 Tryz.results173 wn_ () (by simp_all [A4j]) (fun w hs => hs.none)
                 ·refine z0 ?_; refine z111 ?_; refine A0e (fun h23 => ?_) (fun h23 => ?_)
                  ·refine z139 ?_; refine A1r Tryz.func173 Tryz.results173 wn_ () (by simp_all [A4j]) (fun w hs => hs.none)
                  ·refine z111 ?_; refine A0e (fun h23 => ?_) (fun h23 => ?_)
                   ·refine z139 ?_; refine A1r Tryz.func173 Tryz.results173 wn_ () (by simp_all [A4j]) (fun w hs => hs.none)
                   ·refine z111 ?_; refine A0e (fun h23 => ?_) (fun h23 => ?_)
                    ·refine z139 ?_; refine A1r Tryz.func173 Tryz.results173 wn_ () (by simp_all [A4j]) (fun w hs => hs.none)
                    ·refine z111 ?_; refine A0e (fun h23 => ?_) (fun h23 => ?_)
                     ·refine z139 ?_; refine A1r Tryz.func173 Tryz.results173 wn_ () (by simp_all [A4j]) (fun w hs => hs.none)
                     ·refine z111 ?_; refine A0e (fun h23 => ?_) (fun h23 => ?_)
                      ·refine z139 ?_; refine A1r Tryz.func173 Tryz.results173 wn_ () (by simp_all [A4j]) (fun w hs => hs.none)
                      ·refine z111 ?_; refine A0e (fun h23 => ?_) (fun h23 => ?_)
                       ·refine z139 ?_; refine A1r Tryz.func173 Tryz.results173 wn_ () (by simp_all [A4j]) (fun w hs => hs.none)
                       ·refine z198 ?_; refine A0e (fun h23 => ?_) (fun h23 => ?_)
                        ·refine z77 ?_; refine A1r Tryz.func173 Tryz.results173 wn_ () (by simp_all [A4j]) (fun w hs => hs.none)
                        ·refine z0 ?_; refine z111 ?_; refine A0e (fun h31 => ?_) (fun h31 => ?_)
                         ·refine z139 ?_; refine A1r Tryz.func173 Tryz.results173 wn_ () (by simp_all [A4j]) (fun w hs => hs.none)
                         ·refine z198 ?_; refine A0e (fun h31 => ?_) (fun h31 => ?_)
                          ·refine z77 ?_; refine A1r Tryz.func173 Tryz.results173 wn_ () (by simp_all [A4j]) (fun w hs => hs.none)
                          ·refine z111 ?_; refine A0e (fun h34 => ?_) (fun h34 => ?_)
                           ·refine z77 ?_; refine A1r Tryz.func173 Tryz.results173 wn_ () (by simp_all [A4j]) (fun w hs => hs.none)
                           ·refine z111 ?_; refine A0e (fun h36 => ?_) (fun h36 => ?_)
                            ·refine z77 ?_; refine A1r Tryz.func173 Tryz.results173 wn_ () (by simp_all [A4j]) (fun w hs => hs.none)
                            ·refine z182 ?_; refine z77 ?_; refine A1r Tryz.func173 Tryz.results173 wn_ () (by simp_all [A4j]) (fun w hs => hs.none)
theorem B2h (k : Int) : Spec Tryz.prog 172 #[.int .i64 k] [] [] (fun _ : Unit => .int .i64 (A3i k)) (fun _ => []) (fun _ => []) := by
 refine sg_ Tryz.ntmps172 fun B hB => ?_
 refine z151 ?_; refine z1 ?_; refine z8 ?_; refine z0 ?_; refine z111 ?_; refine A0e (fun h4 => ?_) (fun h4 => ?_)
 ·refine z139 ?_; refine A1r Tryz.func172 Tryz.results172 wn_ () (by simp_all [A3i]) (fun w hs => hs.none)
 ·refine z111 ?_; refine A0e (fun h4 => ?_) (fun h4 => ?_)
  ·refine z139 ?_; refine A1r Tryz.func172 Tryz.results172 wn_ () (by simp_all [A3i]) (fun w hs => hs.none)
  ·refine z198 ?_; refine A0e (fun h4 => ?_) (fun h4 => ?_)
   ·refine z77 ?_; refine A1r Tryz.func172 Tryz.results172 wn_ () (by simp_all [A3i]) (fun w hs => hs.none)
   ·refine z111 ?_; refine A0e (fun h8 => ?_) (fun h8 => ?_)
    ·refine z77 ?_; refine A1r Tryz.func172 Tryz.results172 wn_ () (by simp_all [A3i]) (fun w hs => hs.none)
    ·refine z182 ?_; refine z77 ?_; refine A1r Tryz.func172 Tryz.results172 wn_ () (by simp_all [A3i]) (fun w hs => hs.none)
theorem B6b (k : Int) : Spec Tryz.prog 121 #[.int .i64 k] [] [] (fun _ : Unit => .int .i64 (A3i k)) (fun _ => []) (fun _ => []) := by
 refine sg_ Tryz.ntmps121 fun B hB => ?_
 refine z77 ?_; refine z135 ?_; refine A0e (fun h4 => ?_) (fun h4 => ?_)
 ·refine z77 ?_; refine A1r Tryz.func121 Tryz.results121 wn_ () (by simp_all [A3i]) (fun w hs => hs.none)
 ·refine z175 ?_; refine z154 ?_; refine qI rfl rfl rfl wl_ (fun hg7 => A2v ?_) (fun hg7 => ?_)
  ·refine z35 ?_; refine z140 ?_; refine qI rfl rfl rfl wl_ (fun hg11 => A2v ?_) (fun hg11 => ?_)
   ·refine z35 ?_; refine z105 ?_; refine A0e (fun h14 => ?_) (fun h14 => ?_)
    ·refine z77 ?_; refine A1r Tryz.func121 Tryz.results121 wn_ () (by simp_all [A3i]) (fun w hs => hs.none)
    ·refine z5 ?_; refine z77 ?_; refine A1r Tryz.func121 Tryz.results121 wn_ () (by simp_all [A3i]) (fun w hs => hs.none)
   ·refine z4 ?_; refine z163 ?_; refine z77 ?_; refine A1r Tryz.func121 Tryz.results121 wn_ () (by simp_all [A3i]) (fun w hs => hs.none)
  ·refine z4 ?_; refine z118 ?_; refine z80 ?_; refine z163 ?_; refine z77 ?_; refine A1r Tryz.func121 Tryz.results121 wn_ () (by simp_all [A3i]) (fun w hs => hs.none)
theorem B8p (k : Int) : Spec Tryz.prog 206 #[.int .i64 k] [] [] (fun _ : Unit => .int .i64 (more k)) (fun _ => []) (fun _ => []) := by
 refine sg_ Tryz.ntmps206 fun B hB => ?_
 refine z77 ?_; refine z135 ?_; refine A0e (fun h4 => ?_) (fun h4 => ?_)
 ·refine z77 ?_; refine A1r Tryz.func206 Tryz.results206 wn_ () (by simp_all [more]) (fun w hs => hs.none)
 ·refine z5 ?_; refine z77 ?_; refine A1r Tryz.func206 Tryz.results206 wn_ () (by simp_all [more]) (fun w hs => hs.none)
theorem B6e (k i : Int) : Spec Tryz.prog 205 #[.int .i64 k, .int .i64 i] [] [] (fun _ : Unit => .tuple #[.int .i64 (binds k i).1, .int .i64 (binds k i).2]) (fun _ => []) (fun _ => []) := by
 refine sg_ Tryz.ntmps205 fun B hB => ?_
 refine z180 ?_; refine z154 ?_; refine qI rfl rfl rfl wl_ (fun hg8 => A2v ?_) (fun hg8 => ?_)
 ·refine z35 ?_; refine z23 ?_; refine qI rfl rfl rfl wl_ (fun hg11 => A2v ?_) (fun hg11 => ?_)
  ·refine z176 ?_; refine z94 ?_; refine A0e (fun h15 => ?_) (fun h15 => ?_)
   ·refine z86 ?_; refine A1x Tryz.func205 Tryz.results205 wn_ wn_ () (by simp_all [binds]) (fun w hs => hs.none)
   ·refine z175 ?_; refine z154 ?_; refine qI rfl rfl rfl wl_ (fun hg18 => A2v ?_) (fun hg18 => ?_)
    ·refine z35 ?_; refine z23 ?_; refine qI rfl rfl rfl wl_ (fun hg21 => A2v ?_) (fun hg21 => ?_)
     ·refine z176 ?_; refine z23 ?_; refine qI rfl rfl rfl wl_ (fun hg25 => A2v ?_) (fun hg25 => ?_)
      ·refine z176 ?_; refine z94 ?_; refine A0e (fun h29 => ?_) (fun h29 => ?_)
       ·refine z86 ?_; refine A1x Tryz.func205 Tryz.results205 wn_ wn_ () (by simp_all [binds]) (fun w hs => hs.none)
       ·refine z175 ?_; refine z154 ?_; refine qI rfl rfl rfl wl_ (fun hg32 => A2v ?_) (fun hg32 => ?_)
        ·refine z35 ?_; refine z23 ?_; refine qI rfl rfl rfl wl_ (fun hg35 => A2v ?_) (fun hg35 => ?_)
         ·refine z176 ?_; refine z23 ?_; refine qI rfl rfl rfl wl_ (fun hg39 => A2v ?_) (fun hg39 => ?_)
          ·refine z176 ?_; refine z94 ?_; refine A0e (fun h43 => ?_) (fun h43 => ?_)
           ·refine z86 ?_; refine A1x Tryz.func205 Tryz.results205 wn_ wn_ () (by simp_all [binds]) (fun w hs => hs.none)
           ·refine z5 ?_; refine z86 ?_; refine A1x Tryz.func205 Tryz.results205 wn_ wn_ () (by simp_all [binds]) (fun w hs => hs.none)
          ·refine z152 ?_; refine z177 ?_; refine A1x Tryz.func205 Tryz.results205 wn_ wn_ () (by simp_all [binds]) (fun w hs => hs.none)
         ·refine z152 ?_; refine z23 ?_; refine z80 ?_; refine z34 ?_; refine z177 ?_; refine A1x Tryz.func205 Tryz.results205 wn_ wn_ () (by simp_all [binds]) (fun w hs => hs.none)
        ·refine z143 ?_; refine z199 ?_; refine z54 ?_; refine z5 ?_; refine z86 ?_; refine A1x Tryz.func205 Tryz.results205 wn_ wn_ () (by simp_all [binds]) (fun w hs => hs.none)
      ·refine z152 ?_; refine z177 ?_; refine A1x Tryz.func205 Tryz.results205 wn_ wn_ () (by simp_all [binds]) (fun w hs => hs.none)
     ·refine z152 ?_; refine z23 ?_; refine z80 ?_; refine z34 ?_; refine z177 ?_; refine A1x Tryz.func205 Tryz.results205 wn_ wn_ () (by simp_all [binds]) (fun w hs => hs.none)
    ·refine z143 ?_; refine z199 ?_; refine z54 ?_; refine z175 ?_; refine z154 ?_; refine qI rfl rfl rfl wl_ (fun hg32 => A2v ?_) (fun hg32 => ?_)
     ·refine z35 ?_; refine z23 ?_; refine qI rfl rfl rfl wl_ (fun hg35 => A2v ?_) (fun hg35 => ?_)
      ·refine z176 ?_; refine z23 ?_; refine qI rfl rfl rfl wl_ (fun hg39 => A2v ?_) (fun hg39 => ?_)
       ·refine z176 ?_; refine z94 ?_; refine A0e (fun h43 => ?_) (fun h43 => ?_)
        ·refine z86 ?_; refine A1x Tryz.func205 Tryz.results205 wn_ wn_ () (by simp_all [binds]) (fun w hs => hs.none)
        ·refine z5 ?_; refine z86 ?_; refine A1x Tryz.func205 Tryz.results205 wn_ wn_ () (by simp_all [binds]) (fun w hs => hs.none)
       ·refine z152 ?_; refine z177 ?_; refine A1x Tryz.func205 Tryz.results205 wn_ wn_ () (by simp_all [binds]) (fun w hs => hs.none)
      ·refine z152 ?_; refine z23 ?_; refine z80 ?_; refine z34 ?_; refine z177 ?_; refine A1x Tryz.func205 Tryz.results205 wn_ wn_ () (by simp_all [binds]) (fun w hs => hs.none)
     ·refine z143 ?_; refine z199 ?_; refine z54 ?_; refine z5 ?_; refine z86 ?_; refine A1x Tryz.func205 Tryz.results205 wn_ wn_ () (by simp_all [binds]) (fun w hs => hs.none)
  ·refine z152 ?_; refine z177 ?_; refine A1x Tryz.func205 Tryz.results205 wn_ wn_ () (by simp_all [binds]) (fun w hs => hs.none)
 ·refine z199 ?_; refine z54 ?_; refine z175 ?_; refine z154 ?_; refine qI rfl rfl rfl wl_ (fun hg18 => A2v ?_) (fun hg18 => ?_)
  ·refine z35 ?_; refine z23 ?_; refine qI rfl rfl rfl wl_ (fun hg21 => A2v ?_) (fun hg21 => ?_)
   ·refine z176 ?_; refine z23 ?_; refine qI rfl rfl rfl wl_ (fun hg25 => A2v ?_) (fun hg25 => ?_)
    ·refine z176 ?_; refine z94 ?_; refine A0e (fun h29 => ?_) (fun h29 => ?_)
     ·refine z86 ?_; refine A1x Tryz.func205 Tryz.results205 wn_ wn_ () (by simp_all [binds]) (fun w hs => hs.none)
     ·refine z175 ?_; refine z154 ?_; refine qI rfl rfl rfl wl_ (fun hg32 => A2v ?_) (fun hg32 => ?_)
      ·refine z35 ?_; refine z23 ?_; refine qI rfl rfl rfl wl_ (fun hg35 => A2v ?_) (fun hg35 => ?_)
       ·refine z176 ?_; refine z23 ?_; refine qI rfl rfl rfl wl_ (fun hg39 => A2v ?_) (fun hg39 => ?_)
        ·refine z176 ?_; refine z94 ?_; refine A0e (fun h43 => ?_) (fun h43 => ?_)
         ·refine z86 ?_; refine A1x Tryz.func205 Tryz.results205 wn_ wn_ () (by simp_all [binds]) (fun w hs => hs.none)
         ·refine z5 ?_; refine z86 ?_; refine A1x Tryz.func205 Tryz.results205 wn_ wn_ () (by simp_all [binds]) (fun w hs => hs.none)
        ·refine z152 ?_; refine z177 ?_; refine A1x Tryz.func205 Tryz.results205 wn_ wn_ () (by simp_all [binds]) (fun w hs => hs.none)
       ·refine z152 ?_; refine z23 ?_; refine z80 ?_; refine z34 ?_; refine z177 ?_; refine A1x Tryz.func205 Tryz.results205 wn_ wn_ () (by simp_all [binds]) (fun w hs => hs.none)
      ·refine z143 ?_; refine z199 ?_; refine z54 ?_; refine z5 ?_; refine z86 ?_; refine A1x Tryz.func205 Tryz.results205 wn_ wn_ () (by simp_all [binds]) (fun w hs => hs.none)
    ·refine z152 ?_; refine z177 ?_; refine A1x Tryz.func205 Tryz.results205 wn_ wn_ () (by simp_all [binds]) (fun w hs => hs.none)
   ·refine z152 ?_; refine z23 ?_; refine z80 ?_; refine z34 ?_; refine z177 ?_; refine A1x Tryz.func205 Tryz.results205 wn_ wn_ () (by simp_all [binds]) (fun w hs => hs.none)
  ·refine z143 ?_; refine z199 ?_; refine z54 ?_; refine z175 ?_; refine z154 ?_; refine qI rfl rfl rfl wl_ (fun hg32 => A2v ?_) (fun hg32 => ?_)
   ·refine z35 ?_; refine z23 ?_; refine qI rfl rfl rfl wl_ (fun hg35 => A2v ?_) (fun hg35 => ?_)
    ·refine z176 ?_; refine z23 ?_; refine qI rfl rfl rfl wl_ (fun hg39 => A2v ?_) (fun hg39 => ?_)
     ·refine z176 ?_; refine z94 ?_; refine A0e (fun h43 => ?_) (fun h43 => ?_)
      ·refine z86 ?_; refine A1x Tryz.func205 Tryz.results205 wn_ wn_ () (by simp_all [binds]) (fun w hs => hs.none)
      ·refine z5 ?_; refine z86 ?_; refine A1x Tryz.func205 Tryz.results205 wn_ wn_ () (by simp_all [binds]) (fun w hs => hs.none)
     ·refine z152 ?_; refine z177 ?_; refine A1x Tryz.func205 Tryz.results205 wn_ wn_ () (by simp_all [binds]) (fun w hs => hs.none)
    ·refine z152 ?_; refine z23 ?_; refine z80 ?_; refine z34 ?_; refine z177 ?_; refine A1x Tryz.func205 Tryz.results205 wn_ wn_ () (by simp_all [binds]) (fun w hs => hs.none)
   ·refine z143 ?_; refine z199 ?_; refine z54 ?_; refine z5 ?_; refine z86 ?_; refine A1x Tryz.func205 Tryz.results205 wn_ wn_ () (by simp_all [binds]) (fun w hs => hs.none)
theorem Int.ofNat_max' (a b : Nat) : ((max a b : Nat) : Int) = if (b : Int) > (a : Int) then (b : Int) else (a : Int) := by
 split <;> omega
theorem D2e (t : T) (vr vk vs : SH) (c : FuncId) (cap : List Value) (FΓ : List Fact) (M : List Res) (g : Part → Bool)
  (hc : ∀ (args : Array Value) (w : World), (callFunc c args).run Tryz.prog w = .ok (.enter c args) w)
  (hcl : ∀ k v d, (k, v, d) ∈ parts t → ∀ vr vk vs, Spec Tryz.prog c (.agg (tc k vr vk vs).toArray :: .int .i64 v :: .int .i64 d :: cap).toArray (RT k vr vk vs :: FΓ) M (fun _ : Unit => .bool (g (k, v, d))) (fun _ => []) (fun _ => M)) :
  Spec Tryz.prog 98 #[.agg (tc t vr vk vs).toArray, .func (.func c) #[] cap.toArray] (RT t vr vk vs :: FΓ) M (fun _ : Unit => .bool ((parts t).all g)) (fun _ => []) (fun _ => M) := by
 have h := D2d t vr vk vs c cap FΓ (fun _ => M) (fun _ => M) (D8e t g) hc (fun m k v d hm _ vr vk vs => by simpa [B6s hm] using hcl k v d (A6q hm) vr vk vs); rw [F0m] at h; simpa using h
abbrev C3r (t : T) : Prop := ∀ (left : Int) vr vk vs, A2a left → Spec Tryz.prog 162 #[.agg (tc t vr vk vs).toArray, .int .i64 left] [RT t vr vk vs] [] (fun _ : Unit => .bool (decide ((depth t : Int) ≤ left))) (fun _ => []) (fun _ => [])
theorem C6p (k : T) (vr vk vs : SH) (b : Nat) (left v d : Int) (h0 : 0 < left) (hl : A2a left) (ih : C3r k) : Spec Tryz.prog 215 #[.agg (tc k vr vk vs).toArray, .int .i64 v, .int .i64 d, .pointer (some ⟨b, 0, none⟩)] [RT k vr vk vs] [A1o b [.int .i64 left] 3] (fun _ : Unit => .bool (decide ((depth k : Int) ≤ left - 1))) (fun _ => []) (fun _ => [A1o b [.int .i64 left] 3]) := by
 refine sg_ Tryz.ntmps215 fun B hB => ?_
 refine z73 ?_; refine q0 rfl (A2d fun b4 => ?_); refine z74 ?_; refine z116 ?_; refine z12 ?_; refine z69 ?_; refine q0 rfl (A0b Tryz.call162 (ih (left - 1) vr vk vs (by unfold A2a at *; omega)) (fun x11 => ?_)); refine z74 ?_; refine A1r Tryz.func215 Tryz.results215 wn_ () rfl (fun w hs => (hs.l8).drop)
theorem C9p (t : T) (ih : ∀ p, p ∈ parts t → C3r p.1) (left : Int) (vr vk vs : SH) (hl : A2a left) : Spec Tryz.prog 162 #[.agg (tc t vr vk vs).toArray, .int .i64 left] [RT t vr vk vs] [] (fun _ : Unit => .bool (decide ((depth t : Int) ≤ left))) (fun _ => []) (fun _ => []) := by
 refine sg_ Tryz.ntmps162 fun B hB => ?_
 refine z73 ?_; refine q0 rfl (A2d fun b2 => ?_); refine q0 rfl (A2d fun b3 => ?_); refine z74 ?_; refine z200 ?_; refine z52 ?_; refine z3 ?_; refine qI rfl rfl rfl wl_ (fun hg7 => C3v ?_) (fun hg7 => ?_)
 ·refine qT rfl rfl rfl (E4x ?_); have h0 : 0 < left := of_decide_eq_true hg7; have hE := D2e t vr vk vs 215 [.pointer (some ⟨b3, 0, none⟩)] [] [A1o b3 [.int .i64 left] 3] (fun p => decide ((depth p.1 : Int) ≤ left - 1)) Tryz.call215 (fun k v d hm vr vk vs => C6p k vr vk vs b3 left v d h0 hl (ih _ hm)); rw [← E6j t left h0] at hE; refine qT rfl rfl rfl (A0b Tryz.call98 (hE) (fun x10 => ?_)); refine z129 ?_; refine A1r Tryz.func162 Tryz.results162 wn_ () rfl (fun w hs => hs.none)
 ·refine z188 ?_; have h0 : ¬ 0 < left := of_decide_eq_false hg7; have hp := D2n t; refine A1r Tryz.func162 Tryz.results162 wn_ () (by rw [decide_eq_false oo_]) (fun w hs => hs.none)
theorem C9q : ∀ t : T, C3r t := T.ind fun t ih left vr vk vs hl => C9p t ih left vr vk vs hl
def leftOf (t : T) (m : Int) : Int := if (size t : Int) ≤ m then m - size t else -1
abbrev C8l (b bc : Nat) : List Value := [.pointer (some ⟨b, 0, none⟩), .pointer (some ⟨bc, 0, none⟩)]
abbrev B0n (b bc : Nat) (m : Int) : List Res := [A1o b [.int .i64 m] 3, A1o bc [.func (.func 216) #[] (C8l b bc).toArray] 63]
abbrev C8m (t : T) : Prop := ∀ (m : Int) b bc vr vk vs, 0 ≤ m → A2a m → Spec Tryz.prog 216 #[.agg (tc t vr vk vs).toArray, .pointer (some ⟨b, 0, none⟩), .pointer (some ⟨bc, 0, none⟩)] [RT t vr vk vs] (B0n b bc m) (fun _ : Unit => .bool (decide ((size t : Int) ≤ m))) (fun _ => []) (fun _ => B0n b bc (leftOf t m))
theorem C9j (k : T) (vr vk vs : SH) (b bc : Nat) (m v d : Int) (h0 : 0 ≤ m) (hl : A2a m) (ih : C8m k) : Spec Tryz.prog 217 #[.agg (tc k vr vk vs).toArray, .int .i64 v, .int .i64 d, .pointer (some ⟨bc, 0, none⟩)] [RT k vr vk vs] (B0n b bc m) (fun _ : Unit => .bool (decide ((size k : Int) ≤ m))) (fun _ => []) (fun _ => B0n b bc (leftOf k m)) := by
 refine sg_ Tryz.ntmps217 fun B hB => ?_
 refine z73 ?_; refine q0 rfl (A2d fun b4 => ?_); refine z74 ?_; refine z200 ?_; refine z22 ?_; refine q0 rfl (A6y Tryz.call216 (ih m b bc vr vk vs h0 hl) (cap := C8l b bc) (fun x10 => ?_)); refine z74 ?_; refine A1r Tryz.func217 Tryz.results217 wn_ () rfl (fun w hs => (hs.l8).A2t (A := B0n b bc (leftOf k m)))
theorem E0n (t : T) (ih : ∀ p, p ∈ parts t → C8m p.1) (m : Int) (b bc : Nat) (vr vk vs : SH) (h0 : 0 < m) (hl : A2a m) :
  Spec Tryz.prog 98 #[.agg (tc t vr vk vs).toArray, .func (.func 217) #[] #[.pointer (some ⟨bc, 0, none⟩)]] [RT t vr vk vs] (B0n b bc (m - 1)) (fun _ : Unit => .bool (decide ((size t : Int) ≤ m))) (fun _ => []) (fun _ => B0n b bc (leftOf t m)) := by
 have h := D2d t vr vk vs 217 [.pointer (some ⟨bc, 0, none⟩)] [] (fun j => B0n b bc (if (A2h t j : Int) ≤ m then m - A2h t j else -1)) (fun _ => B0n b bc (-1)) (fun j => decide ((A2h t (j + 1) : Int) ≤ m)) Tryz.call217 ?_
 ·have hall : (ff (fun j => decide ((A2h t (j + 1) : Int) ≤ m)) (parts t).length == (parts t).length) = decide ((size t : Int) ≤ m) := by
   rw [Bool.eq_iff_iff, beq_iff_eq, C3c, decide_eq_true_iff]; constructor
   ·intro h; cases hn : (parts t).length with
    | zero => have := A9q t; rw [hn, B0p] at this; omega
    | succ n =>
     have := h n oo_; rw [← hn, A9q] at this; exact of_decide_eq_true this
   ·intro h j hj; have := B6a t (j + 1); exact decide_eq_true oo_
  simp only [hall, B0p, A9q, beq_iff_eq] at h; rw [if_pos oo_] at h; by_cases hs : (size t : Int) ≤ m
  ·have e : ff (fun j => decide ((A2h t (j + 1) : Int) ≤ m)) (parts t).length = (parts t).length := by rw [← beq_iff_eq, hall]; exact decide_eq_true hs
   simp only [e, if_true, if_pos hs] at h; unfold leftOf; rw [if_pos hs]; exact h
  ·have e : ¬ ff (fun j => decide ((A2h t (j + 1) : Int) ≤ m)) (parts t).length = (parts t).length := by rw [← beq_iff_eq, hall]; simpa using hs
   simp only [if_neg e] at h; unfold leftOf; rw [if_neg hs]; exact h
 ·intro j k v d hm hβ vr vk vs; have hs := A8m hm; simp only at hs; have hp := size_pos k
  have hj : (A2h t j : Int) ≤ m := by
   cases j with
   | zero => rw [B0p]; omega
   | succ j => exact of_decide_eq_true (hβ j oo_)
  have := C9j k vr vk vs b bc (m - A2h t j) v d oo_ (by unfold A2a at *; omega) (ih _ (A6q hm)); rw [if_pos hj]; have e1 : decide ((size k : Int) ≤ m - A2h t j) = decide ((A2h t (j + 1) : Int) ≤ m) := by rw [hs]; congr 1; apply propext; omega
  rw [e1] at this
  have e2 : B0n b bc (leftOf k (m - A2h t j)) = if decide ((A2h t (j + 1) : Int) ≤ m) = true then B0n b bc (if (A2h t (j + 1) : Int) ≤ m then m - A2h t (j + 1) else -1) else B0n b bc (-1) := by
   unfold leftOf; by_cases hk : (A2h t (j + 1) : Int) ≤ m
   ·rw [if_pos oo_, if_pos (decide_eq_true hk), if_pos hk, hs]; congr 1; omega
   ·rw [if_neg oo_, if_neg (by simpa using hk)]
  rw [e2] at this; exact this
theorem D3l (t : T) (ih : ∀ p, p ∈ parts t → C8m p.1) (m : Int) (b bc : Nat) (vr vk vs : SH) (h0 : 0 ≤ m) (hl : A2a m) : Spec Tryz.prog 216 #[.agg (tc t vr vk vs).toArray, .pointer (some ⟨b, 0, none⟩), .pointer (some ⟨bc, 0, none⟩)] [RT t vr vk vs] (B0n b bc m) (fun _ : Unit => .bool (decide ((size t : Int) ≤ m))) (fun _ => []) (fun _ => B0n b bc (leftOf t m)) := by
 refine sg_ Tryz.ntmps216 fun B hB => ?_
 refine z73 ?_; refine q0 rfl (A2d fun b3 => ?_); refine z74 ?_; refine z200 ?_; refine z69 ?_; refine z159 ?_; refine z200 ?_; refine z55 ?_; refine z3 ?_; refine qI rfl rfl rfl wl_ (fun hg9 => C3v ?_) (fun hg9 => ?_)
 ·refine qT rfl rfl rfl (E4x ?_); have h1 : 0 ≤ m - 1 := of_decide_eq_true hg9; have hE := E0n t ih m b bc vr vk vs oo_ hl; refine qT rfl rfl rfl (A0b Tryz.call98 (hE) (fun x12 => ?_) (hm := (List.Perm.swap _ _ _).cons _)); refine z129 ?_; refine A1r Tryz.func216 Tryz.results216 wn_ () rfl (fun w hs => (hs.l8).A2t (A := B0n b bc (leftOf t m)))
 ·refine z188 ?_; have h1 : ¬ 0 ≤ m - 1 := of_decide_eq_false hg9; have hp := size_pos t; refine A1r Tryz.func216 Tryz.results216 wn_ () (by rw [decide_eq_false oo_]) (fun w hs => by rw [leftOf, if_neg oo_, show (-1 : Int) = m - 1 by omega]; exact ((hs.l7).perm ((List.Perm.swap _ _ _).cons _)).A2t (A := B0n b bc (m - 1)))
theorem E0m : ∀ t : T, C8m t := T.ind fun t ih m b bc vr vk vs h0 hl => D3l t ih m b bc vr vk vs h0 hl
def F3p : Prop := ∀ (l : List Cl) (a : SH), Spec Tryz.prog 137 #[sl a l.length] [CL l a] [] (fun _ : Unit => .bool (A0h l)) (fun _ => []) (fun _ => [])
def D3a : Prop := ∀ (l : List Cl) (a : SH), Spec Tryz.prog 88 #[sl a l.length] [CL l a] [] (fun _ : Unit => .bool (A0d l)) (fun _ => []) (fun _ => [])
def F6v : Prop := ∀ (l : List Cl) (a : SH), Spec Tryz.prog 97 #[sl a l.length] [CL l a] [] (fun _ : Unit => .int .u32 (A5d l : Int)) (fun _ => []) (fun _ => [])
def F7d : Prop := F3p ∧ D3a ∧ F6v
theorem D8r (t : T) (vr vk vs : SH) (A8z : Int) (h0 : 0 ≤ A8z) (hl : A2a A8z) : Spec Tryz.prog 163 #[.agg (tc t vr vk vs).toArray, .int .i64 A8z] [RT t vr vk vs] [] (fun _ : Unit => .bool (decide ((size t : Int) ≤ A8z))) (fun _ => []) (fun _ => []) := by
 refine sg_ Tryz.ntmps163 fun B hB => ?_
 refine z73 ?_; refine q0 rfl (A2d fun b2 => ?_); refine q0 rfl (A2d fun b3 => ?_); refine z74 ?_; refine z73 ?_; refine q0 rfl (A2p fun b5 => ?_); refine z1 ?_; refine z73 ?_; refine z50 ?_; refine z95 ?_; refine z200 ?_; refine z22 ?_; refine q0 rfl (A6y Tryz.call216 (E0m t A8z b3 b5 vr vk vs h0 hl) (cap := C8l b3 b5) (fun x9 => ?_)); refine z74 ?_; refine A1r Tryz.func163 Tryz.results163 wn_ () rfl (fun w hs => hs.none)
theorem D8s (t : T) (vr vk vs : SH) : Spec Tryz.prog 85 #[.agg (tc t vr vk vs).toArray] [RT t vr vk vs] [] (fun _ : Unit => .int .i64 (sized t)) (fun _ => []) (fun _ => []) := by
 refine sg_ Tryz.ntmps85 fun B hB => ?_
 refine z73 ?_; refine q0 rfl (A2d fun b1 => ?_); refine z106 ?_; refine z8 ?_; refine z116 ?_; refine q0 rfl (A0b Tryz.call162 (C9q t 200 vr vk vs (by unfold A2a; omega)) (fun x5 => ?_)); refine z30 ?_; refine z74 ?_; refine A0e (fun h3 => ?_) (fun h3 => ?_)
 ·refine z77 ?_; have h : 200 < depth t := by simp at h3; omega
  refine A1r Tryz.func85 Tryz.results85 wn_ () (by rw [sized, if_pos h]) (fun w hs => hs.none)
 ·refine z116 ?_; refine q0 rfl (A0b Tryz.call163 (D8r t vr vk vs 20000 oo_ (by unfold A2a; omega)) (fun x9 => ?_)); refine z30 ?_; refine z74 ?_; refine A0e (fun h7 => ?_) (fun h7 => ?_)
  ·refine z77 ?_; have h : ¬ 200 < depth t := by simp at h3; omega
   have h2 : 20000 < size t := by simp at h7; omega
   refine A1r Tryz.func85 Tryz.results85 wn_ () (by rw [sized, if_neg h, if_pos h2]) (fun w hs => hs.none)
  ·refine z182 ?_; refine z77 ?_; have h : ¬ 200 < depth t := by simp at h3; omega
   have h2 : ¬ 20000 < size t := by simp at h7; omega
   refine A1r Tryz.func85 Tryz.results85 wn_ () (by rw [sized, if_neg h, if_neg h2]) (fun w hs => hs.none)
theorem E5c (s : ByteArray) (hs : s.size ≤ A9a) : Spec Tryz.prog 218 #[.string s] [] [] (fun _ : Unit => .bool (B0m s)) (fun _ => []) (fun _ => []) := by
 refine sg_ Tryz.ntmps218 fun B hB => ?_
 refine z151 ?_; refine q0 rfl (B7h ?_); refine z92 ?_; refine z8 ?_; refine A4g (X := Nat) (fun i => i ≤ s.size ∧ ∀ j, j < i → D6w s j = true) (fun i => [(0, .string s), (7, .int .i64 (s.size : Int)), (8, .int .i64 (i : Int))]) (fun i => []) (fun i => []) (fun i => s.size - i) (0) (⟨Nat.zero_le _, fun j hj => by omega⟩) (by exact lr_) ?_ ?_
 ·exact fun w hs => hs.none
 ·intro i base0 ⟨hi, hok⟩ next0; refine z124 ?_; refine A0e (fun h9 => ?_) (fun h9 => ?_)
  ·have hlt : i < s.size := by have := of_decide_eq_true h9; omega
   obtain ⟨c, hc, hca⟩ := E6s hlt; refine z91 ?_; refine z136 ?_; refine z160 ?_; refine q0 rfl (E4w ?_); refine z106 ?_; refine A0z ([(0, .string s), (3, .int .i64 (i : Int)), (4, .int .u8 c.toNat), (5, .bool (letter c.toNat)), (7, .int .i64 (s.size : Int)), (8, .int .i64 (i : Int))]) (fun hK => ?_) (fun base => ?_)
   ·refine z78 ?_; refine z55 ?_; refine z3 ?_; refine qI rfl rfl rfl wl_ (fun hg16 => A2v ?_) (fun hg16 => ?_)
    ·refine z65 ?_; refine z118 ?_; refine qI rfl rfl rfl wl_ (fun hg20 => A2v ?_) (fun hg20 => ?_)
     ·refine z58 ?_; refine z23 ?_; refine qI rfl rfl rfl wl_ (fun hg23 => A2v ?_) (fun hg23 => ?_)
      ·refine z65 ?_; refine z34 ?_; refine z140 ?_; refine qI rfl rfl rfl wl_ (fun hg28 => A2v ?_) (fun hg28 => ?_)
       ·refine z35 ?_; refine z130 ?_; exact hK _ ⟨rfl, rfl, rfl, (by (conv => lhs; whnf); first | (simp_all [letter]; done) | (simp_all [letter]; omega)), rfl, rfl, trivial⟩
       ·refine z4 ?_; refine z129 ?_; exact hK _ ⟨rfl, rfl, rfl, (by (conv => lhs; whnf); first | (simp_all [letter]; done) | (simp_all [letter]; omega)), rfl, rfl, trivial⟩
      ·refine z4 ?_; refine z38 ?_; refine z140 ?_; refine z23 ?_; refine z35 ?_; refine z130 ?_; exact hK _ ⟨rfl, rfl, rfl, (by (conv => lhs; whnf); first | (simp_all [letter]; done) | (simp_all [letter]; omega)), rfl, rfl, trivial⟩
     ·refine z143 ?_; refine z4 ?_; refine z118 ?_; refine z80 ?_; refine z129 ?_; exact hK _ ⟨rfl, rfl, rfl, (by (conv => lhs; whnf); first | (simp_all [letter]; done) | (simp_all [letter]; omega)), rfl, rfl, trivial⟩
    ·refine z4 ?_; refine z140 ?_; refine z23 ?_; refine z58 ?_; refine z23 ?_; refine qI rfl rfl rfl wl_ (fun hg23 => A2v ?_) (fun hg23 => ?_)
     ·refine z65 ?_; refine z34 ?_; refine z140 ?_; refine qI rfl rfl rfl wl_ (fun hg28 => A2v ?_) (fun hg28 => ?_)
      ·refine z35 ?_; refine z130 ?_; exact hK _ ⟨rfl, rfl, rfl, (by (conv => lhs; whnf); first | (simp_all [letter]; done) | (simp_all [letter]; omega)), rfl, rfl, trivial⟩
      ·refine z4 ?_; refine z129 ?_; exact hK _ ⟨rfl, rfl, rfl, (by (conv => lhs; whnf); first | (simp_all [letter]; done) | (simp_all [letter]; omega)), rfl, rfl, trivial⟩
     ·refine z4 ?_; refine z38 ?_; refine z140 ?_; refine z23 ?_; refine z35 ?_; refine z130 ?_; exact hK _ ⟨rfl, rfl, rfl, (by (conv => lhs; whnf); first | (simp_all [letter]; done) | (simp_all [letter]; omega)), rfl, rfl, trivial⟩
   ·refine z0 ?_; refine A0z ([(0, .string s), (7, .int .i64 (s.size : Int)), (8, .int .i64 (i : Int)), (45, .bool (!(D6w s i)))]) (fun hK => ?_) (fun base => ?_)
    ·refine z78 ?_; refine z184 ?_; refine qI rfl rfl rfl wl_ (fun hg34 => A2v ?_) (fun hg34 => ?_)
     ·refine z35 ?_; refine z23 ?_; refine qI rfl rfl rfl wl_ (fun hg37 => A2v ?_) (fun hg37 => ?_)
      ·refine z47 ?_; refine z38 ?_; refine z23 ?_; refine qI rfl rfl rfl wl_ (fun hg41 => A2v ?_) (fun hg41 => ?_)
       ·refine z56 ?_; refine z38 ?_; refine z94 ?_; exact hK _ ⟨rfl, rfl, rfl, (by (conv => lhs; whnf); rw [hca]; first | (simp_all [digit]; done) | (simp_all [digit]; omega) | (simp_all [digit]; rw [← decide_not]; congr 1; apply propext; omega)), trivial⟩
       ·refine z152 ?_; refine z94 ?_; exact hK _ ⟨rfl, rfl, rfl, (by (conv => lhs; whnf); rw [hca]; first | (simp_all [digit]; done) | (simp_all [digit]; omega) | (simp_all [digit]; rw [← decide_not]; congr 1; apply propext; omega)), trivial⟩
      ·refine z152 ?_; refine z23 ?_; refine z80 ?_; refine z34 ?_; refine z94 ?_; exact hK _ ⟨rfl, rfl, rfl, (by (conv => lhs; whnf); rw [hca]; first | (simp_all [digit]; done) | (simp_all [digit]; omega) | (simp_all [digit]; rw [← decide_not]; congr 1; apply propext; omega)), trivial⟩
     ·refine z143 ?_; refine z199 ?_; exact hK _ ⟨rfl, rfl, rfl, (by (conv => lhs; whnf); rw [hca]; first | (simp_all [digit]; done) | (simp_all [digit]; omega) | (simp_all [digit]; rw [← decide_not]; congr 1; apply propext; omega)), trivial⟩
    ·refine A0e (fun h45 => ?_) (fun h45 => ?_)
     ·refine z77 ?_; refine A1r Tryz.func218 Tryz.results218 wn_ () (by rw [C5c hlt (by simpa using h45)]) (fun w hs => hs.none)
     ·refine z145 ?_; have hb : D6w s i = true := by simpa using h45
      refine A0a (fun w hs => hs) (next0 (i + 1) _ ⟨hlt, fun j hj => (by rcases Nat.lt_succ_iff_lt_or_eq.mp hj with h | h; exact hok j h; subst h; exact hb)⟩ oo_ lr_)
  ·have hge : i = s.size := by have := of_decide_eq_false h9; omega
   refine z17 ?_; refine z75 ?_; refine q0 rfl (E9e ?_); refine z74 ?_; refine A1r Tryz.func218 Tryz.results218 wn_ () (by rw [C5d (by rw [← hge]; exact hok), empty_eq]; rfl) (fun w hs => hs.none)
theorem B0y (hF : F6v) (l : List Cl) (a : SH) (dims : Int) (h0 : 0 ≤ dims) (hl : A2a dims) : Spec Tryz.prog 219 #[sl a l.length, .int .i64 dims] [CL l a] [] (fun _ : Unit => .bool (within l dims)) (fun _ => []) (fun _ => []) := by
 refine sg_ Tryz.ntmps219 fun B hB => ?_
 refine z134 ?_; refine z55 ?_; refine z3 ?_; refine qI rfl rfl rfl wl_ (fun hg7 => A2v ?_) (fun hg7 => ?_)
 ·refine qT rfl rfl rfl (A0b Tryz.call97 (hF l a) (fun x9 => ?_)); refine z23 ?_; refine qT rfl rfl rfl (F9i ?_); refine qT rfl rfl rfl (C7h ?_ (m := dims.toNat) (hy := congrArg (Value.int .u64) (E1u h0 hl))); refine z35 ?_; refine z130 ?_; refine A1r Tryz.func219 Tryz.results219 wn_ () (by first | (simp_all [within]; done) | (simp_all [within]; intros; omega)) (fun w hs => hs.none)
 ·refine z80 ?_; refine z121 ?_; refine z129 ?_; refine A1r Tryz.func219 Tryz.results219 wn_ () (by first | (simp_all [within]; done) | (simp_all [within]; intros; omega)) (fun w hs => hs.none)
theorem D6q (t : T) (hf : B9t t = true ∨ F7d) (vr vk vs : SH) (vars dims : Int) (hd : 0 ≤ dims) (hl : A2a dims) : Spec Tryz.prog 164 #[.agg (tc t vr vk vs).toArray, .int .i64 vars, .int .i64 dims] [RT t vr vk vs] [] (fun _ : Unit => .bool (C2g t vars dims)) (fun _ => []) (fun _ => []) := by
 refine sg_ Tryz.ntmps164 fun B hB => ?_
 refine go_open (fun hk hn hnm => ?_); refine A1c (ts := t.kids) (fun VR VK VS hl1 hA1 => ?_); refine A3a (bs := t.sys) (fun VF VK2 hl2 hA2 => ?_); refine z73 ?_; refine q0 rfl (A2d fun b3 => ?_); refine z189 ?_; refine A0z ([(1, .int .i64 vars), (2, .int .i64 dims), (3, .pointer (some ⟨b3, 0, none⟩)), (47, .bool (B5p t))]) (fun hK => ?_) (fun base => ?_)
 ·refine A1y (pn := 1000000) (tn := false) (A := [0, 1, 3, 0, 8, 24, 63, 127, 255, 511, 1023, 2047, 4095, 8191, 16383, 32767, 65535, 131071, 262143, 524287, 1048575, 2097151, 4194303, 8388607, 16777215, 33554431, 67108863, 134217727, 268435455, 536870911, 1073741823, 2147483647, 4294967295, 8589934591, 17179869183, 34359738367, 68719476735, 137438953471, 274877906943]) (l := [0, 1, 3, 4, 5, 2, 6, 7, 8, 9, 10, 11, 12, 13, 14, 15, 16, 17, 18, 19, 20, 21, 22, 23, 24, 25, 26, 27, 28, 29, 30, 31, 32, 33, 34, 35, 36, 37, 38]) (fin := []) Tab.mixed ⟨_, Tryz.func164⟩ (by rfl) ?_; refine z115 ?_; refine z115 ?_; refine n0 rfl (D8n ?_); refine n0 rfl (A1q Tryz.call173 (E5n t.kind) (fun x11 => ?_)); refine n0 rfl (E7s ?_); refine z14 ?_; refine nI rfl rfl rfl wl_ (fun hg16 => C1d ?_) (fun hg16 => ?_)
  ·refine z37 ?_; refine z70 ?_; refine z42 ?_; refine nI rfl rfl rfl wl_ (fun hg20 => C1d ?_) (fun hg20 => ?_)
   ·refine z37 ?_; refine z70 ?_; refine z59 ?_; refine z185 ?_; refine nI rfl rfl rfl wl_ (fun hg26 => C1d ?_) (fun hg26 => ?_)
    ·refine z37 ?_; refine z70 ?_; refine z42 ?_; refine nI rfl rfl rfl wl_ (fun hg30 => C1d ?_) (fun hg30 => ?_)
     ·refine z37 ?_; refine nT rfl rfl rfl (F7g ?_); refine z59 ?_; refine z185 ?_; refine nI rfl rfl rfl wl_ (fun hg36 => C1d ?_) (fun hg36 => ?_)
      ·refine z37 ?_; refine nT rfl rfl rfl (A1q Tryz.call172 (B2h t.kind) (fun x39 => ?_)); refine z71 ?_; refine z42 ?_; refine nI rfl rfl rfl wl_ (fun hg41 => C1d ?_) (fun hg41 => ?_)
       ·refine z37 ?_; refine z63 ?_; refine z66 ?_; refine z59 ?_; refine z155 ?_; exact hK _ ⟨rfl, rfl, rfl, (by (conv => lhs; whnf); first | (simp_all [B5p]; done) | (simp_all [B5p]; omega)), trivial⟩
       ·refine z97 ?_; refine z11 ?_; refine z60 ?_; refine z155 ?_; exact hK _ ⟨rfl, rfl, rfl, (by (conv => lhs; whnf); first | (simp_all [B5p]; done) | (simp_all [B5p]; omega)), trivial⟩
      ·refine z147 ?_; refine z157 ?_; refine z157 ?_; refine z190 ?_; exact hK _ ⟨rfl, rfl, rfl, (by (conv => lhs; whnf); first | (simp_all [B5p]; done) | (simp_all [B5p]; omega)), trivial⟩
     ·refine z97 ?_; refine z60 ?_; refine z185 ?_; refine z61 ?_; refine z37 ?_; refine nT rfl rfl rfl (A1q Tryz.call172 (B2h t.kind) (fun x39 => ?_)); refine z71 ?_; refine z42 ?_; refine nI rfl rfl rfl wl_ (fun hg41 => C1d ?_) (fun hg41 => ?_)
      ·refine z37 ?_; refine z63 ?_; refine z66 ?_; refine z59 ?_; refine z155 ?_; exact hK _ ⟨rfl, rfl, rfl, (by (conv => lhs; whnf); first | (simp_all [B5p]; done) | (simp_all [B5p]; omega)), trivial⟩
      ·refine z97 ?_; refine z11 ?_; refine z60 ?_; refine z155 ?_; exact hK _ ⟨rfl, rfl, rfl, (by (conv => lhs; whnf); first | (simp_all [B5p]; done) | (simp_all [B5p]; omega)), trivial⟩
    ·refine z97 ?_; refine z11 ?_; refine z157 ?_; refine z33 ?_; refine z164 ?_; refine z14 ?_; refine z147 ?_; refine z11 ?_; refine z157 ?_; refine z157 ?_; refine z190 ?_; exact hK _ ⟨rfl, rfl, rfl, (by (conv => lhs; whnf); first | (simp_all [B5p]; done) | (simp_all [B5p]; omega)), trivial⟩
   ·refine z97 ?_; refine z60 ?_; refine z185 ?_; refine z61 ?_; refine z37 ?_; refine z70 ?_; refine z42 ?_; refine nI rfl rfl rfl wl_ (fun hg30 => C1d ?_) (fun hg30 => ?_)
    ·refine z37 ?_; refine nT rfl rfl rfl (F7g ?_); refine z59 ?_; refine z185 ?_; refine nI rfl rfl rfl wl_ (fun hg36 => C1d ?_) (fun hg36 => ?_)
     ·refine z37 ?_; refine nT rfl rfl rfl (A1q Tryz.call172 (B2h t.kind) (fun x39 => ?_)); refine z71 ?_; refine z42 ?_; refine nI rfl rfl rfl wl_ (fun hg41 => C1d ?_) (fun hg41 => ?_)
      ·refine z37 ?_; refine z63 ?_; refine z66 ?_; refine z59 ?_; refine z155 ?_; exact hK _ ⟨rfl, rfl, rfl, (by (conv => lhs; whnf); first | (simp_all [B5p]; done) | (simp_all [B5p]; omega)), trivial⟩
      ·refine z97 ?_; refine z11 ?_; refine z60 ?_; refine z155 ?_; exact hK _ ⟨rfl, rfl, rfl, (by (conv => lhs; whnf); first | (simp_all [B5p]; done) | (simp_all [B5p]; omega)), trivial⟩
     ·refine z147 ?_; refine z157 ?_; refine z157 ?_; refine z190 ?_; exact hK _ ⟨rfl, rfl, rfl, (by (conv => lhs; whnf); first | (simp_all [B5p]; done) | (simp_all [B5p]; omega)), trivial⟩
    ·refine z97 ?_; refine z60 ?_; refine z185 ?_; refine z61 ?_; refine z37 ?_; refine nT rfl rfl rfl (A1q Tryz.call172 (B2h t.kind) (fun x39 => ?_)); refine z71 ?_; refine z42 ?_; refine nI rfl rfl rfl wl_ (fun hg41 => C1d ?_) (fun hg41 => ?_)
     ·refine z37 ?_; refine z63 ?_; refine z66 ?_; refine z59 ?_; refine z155 ?_; exact hK _ ⟨rfl, rfl, rfl, (by (conv => lhs; whnf); first | (simp_all [B5p]; done) | (simp_all [B5p]; omega)), trivial⟩
     ·refine z97 ?_; refine z11 ?_; refine z60 ?_; refine z155 ?_; exact hK _ ⟨rfl, rfl, rfl, (by (conv => lhs; whnf); first | (simp_all [B5p]; done) | (simp_all [B5p]; omega)), trivial⟩
  ·refine z97 ?_; refine z11 ?_; refine z157 ?_; refine z33 ?_; refine z164 ?_; refine z14 ?_; refine z147 ?_; refine z157 ?_; refine z33 ?_; refine z164 ?_; refine z14 ?_; refine z147 ?_; refine z11 ?_; refine z157 ?_; refine z157 ?_; refine z190 ?_; exact hK _ ⟨rfl, rfl, rfl, (by (conv => lhs; whnf); first | (simp_all [B5p]; done) | (simp_all [B5p]; omega)), trivial⟩
 ·refine A0e (fun h47 => ?_) (fun h47 => ?_)
  ·refine z77 ?_; refine A1r Tryz.func164 Tryz.results164 wn_ () (by simp [C2g, h47]) (fun w hs => hs.none)
  ·refine z83 ?_; refine z100 ?_; refine z1 ?_; refine z8 ?_; refine z111 ?_; refine A0e (fun h50 => ?_) (fun h50 => ?_)
   ·refine z0 ?_; refine A0z ([(6, .bool (decide ((t.r.length : Int) = 0) && decide (0 ≤ t.n) && (decide (vars < 0) || decide (t.n < vars))))]) (fun hK => ?_) (fun base => ?_)
    ·refine z131 ?_; refine z20 ?_; refine z154 ?_; refine qI rfl rfl rfl wl_ (fun hg56 => E1e ?_) (fun hg56 => ?_)
     ·refine z29 ?_; refine z58 ?_; refine z118 ?_; refine qI rfl rfl rfl wl_ (fun hg61 => A2v ?_) (fun hg61 => ?_)
      ·refine z47 ?_; refine z23 ?_; refine qI rfl rfl rfl wl_ (fun hg64 => E1e ?_) (fun hg64 => ?_)
       ·refine z29 ?_; refine z23 ?_; refine z47 ?_; refine z38 ?_; refine z129 ?_; exact hK _ ⟨(by (conv => lhs; whnf); first | (simp_all [Bool.and_assoc]; done) | (simp_all [Bool.and_assoc]; omega)), trivial⟩
       ·refine z121 ?_; refine z34 ?_; refine z129 ?_; exact hK _ ⟨(by (conv => lhs; whnf); first | (simp_all [Bool.and_assoc]; done) | (simp_all [Bool.and_assoc]; omega)), trivial⟩
      ·refine z143 ?_; refine z128 ?_; refine z4 ?_; refine z130 ?_; exact hK _ ⟨(by (conv => lhs; whnf); first | (simp_all [Bool.and_assoc]; done) | (simp_all [Bool.and_assoc]; omega)), trivial⟩
     ·refine z80 ?_; refine z140 ?_; refine z121 ?_; refine z128 ?_; refine z128 ?_; refine z4 ?_; refine z130 ?_; exact hK _ ⟨(by (conv => lhs; whnf); first | (simp_all [Bool.and_assoc]; done) | (simp_all [Bool.and_assoc]; omega)), trivial⟩
    ·refine A1r Tryz.func164 Tryz.results164 wn_ () (by simp_all [C2g, Bool.and_assoc]) (fun w hs => hs.none)
   ·refine z111 ?_; refine A0e (fun h71 => ?_) (fun h71 => ?_)
    ·refine z0 ?_; refine A0z ([(6, .bool (decide ((t.r.length : Int) = 0) && B0m t.name))]) (fun hK => ?_) (fun base => ?_)
     ·refine z131 ?_; refine z20 ?_; refine z154 ?_; refine qI rfl rfl rfl wl_ (fun hg77 => E1e ?_) (fun hg77 => ?_)
      ·refine z29 ?_; refine qT rfl rfl rfl (A0b Tryz.call218 (E5c t.name hnm) (fun x80 => ?_)); refine z129 ?_; exact hK _ ⟨(by (conv => lhs; whnf); first | (simp_all [Bool.and_assoc]; done) | (simp_all [Bool.and_assoc]; omega)), trivial⟩
      ·refine z188 ?_; exact hK _ ⟨(by (conv => lhs; whnf); first | (simp_all [Bool.and_assoc]; done) | (simp_all [Bool.and_assoc]; omega)), trivial⟩
     ·refine A1r Tryz.func164 Tryz.results164 wn_ () (by simp_all [C2g, Bool.and_assoc]) (fun w hs => hs.none)
    ·refine z0 ?_; refine z111 ?_; refine A0e (fun h82 => ?_) (fun h82 => ?_)
     ·refine z122 ?_; refine z0 ?_; refine A0z ([(6, .bool (A0h t.r && within t.r dims))]) (fun hK => ?_) (fun base => ?_)
      ·refine z131 ?_; refine q0 rfl (A0b Tryz.call137 ((A9z hf (by simp_all)).1 t.r vr) (fun x88 => ?_)); refine z3 ?_; refine qI rfl rfl rfl wl_ (fun hg89 => E1e ?_) (fun hg89 => ?_)
       ·refine z29 ?_; refine z23 ?_; refine qT rfl rfl rfl (A0b Tryz.call219 (B0y (A9z hf (by simp_all)).2.2 t.r vr dims hd hl) (fun x93 => ?_)); refine z129 ?_; exact hK _ ⟨(by (conv => lhs; whnf); first | (simp_all [Bool.and_assoc]; done) | (simp_all [Bool.and_assoc]; omega)), trivial⟩
       ·refine z121 ?_; refine z130 ?_; exact hK _ ⟨(by (conv => lhs; whnf); first | (simp_all [Bool.and_assoc]; done) | (simp_all [Bool.and_assoc]; omega)), trivial⟩
      ·refine A1r Tryz.func164 Tryz.results164 wn_ () (by simp_all [C2g, Bool.and_assoc]) (fun w hs => hs.none)
     ·refine z111 ?_; refine A0e (fun h82 => ?_) (fun h82 => ?_)
      ·refine z122 ?_; refine z0 ?_; refine A0z ([(6, .bool (A0h t.r && within t.r dims))]) (fun hK => ?_) (fun base => ?_)
       ·refine z131 ?_; refine q0 rfl (A0b Tryz.call137 ((A9z hf (by simp_all)).1 t.r vr) (fun x88 => ?_)); refine z3 ?_; refine qI rfl rfl rfl wl_ (fun hg89 => E1e ?_) (fun hg89 => ?_)
        ·refine z29 ?_; refine z23 ?_; refine qT rfl rfl rfl (A0b Tryz.call219 (B0y (A9z hf (by simp_all)).2.2 t.r vr dims hd hl) (fun x93 => ?_)); refine z129 ?_; exact hK _ ⟨(by (conv => lhs; whnf); first | (simp_all [Bool.and_assoc]; done) | (simp_all [Bool.and_assoc]; omega)), trivial⟩
        ·refine z121 ?_; refine z130 ?_; exact hK _ ⟨(by (conv => lhs; whnf); first | (simp_all [Bool.and_assoc]; done) | (simp_all [Bool.and_assoc]; omega)), trivial⟩
       ·refine A1r Tryz.func164 Tryz.results164 wn_ () (by simp_all [C2g, Bool.and_assoc]) (fun w hs => hs.none)
      ·refine z198 ?_; refine A0e (fun h82 => ?_) (fun h82 => ?_)
       ·refine z0 ?_; refine A0z ([(6, .bool (A0h t.r && within t.r dims))]) (fun hK => ?_) (fun base => ?_)
        ·refine z131 ?_; refine q0 rfl (A0b Tryz.call137 ((A9z hf (by simp_all)).1 t.r vr) (fun x88 => ?_)); refine z3 ?_; refine qI rfl rfl rfl wl_ (fun hg89 => E1e ?_) (fun hg89 => ?_)
         ·refine z29 ?_; refine z23 ?_; refine qT rfl rfl rfl (A0b Tryz.call219 (B0y (A9z hf (by simp_all)).2.2 t.r vr dims hd hl) (fun x93 => ?_)); refine z129 ?_; exact hK _ ⟨(by (conv => lhs; whnf); first | (simp_all [Bool.and_assoc]; done) | (simp_all [Bool.and_assoc]; omega)), trivial⟩
         ·refine z121 ?_; refine z130 ?_; exact hK _ ⟨(by (conv => lhs; whnf); first | (simp_all [Bool.and_assoc]; done) | (simp_all [Bool.and_assoc]; omega)), trivial⟩
        ·refine A1r Tryz.func164 Tryz.results164 wn_ () (by simp_all [C2g, Bool.and_assoc]) (fun w hs => hs.none)
       ·refine z111 ?_; refine A0e (fun h95 => ?_) (fun h95 => ?_)
        ·refine z0 ?_; refine A0z ([(6, .bool (A0d t.r && within t.r dims))]) (fun hK => ?_) (fun base => ?_)
         ·refine z131 ?_; refine q0 rfl (A0b Tryz.call88 ((A9z hf (by simp_all)).2.1 t.r vr) (fun x99 => ?_)); refine z3 ?_; refine qI rfl rfl rfl wl_ (fun hg100 => E1e ?_) (fun hg100 => ?_)
          ·refine z29 ?_; refine z23 ?_; refine qT rfl rfl rfl (A0b Tryz.call219 (B0y (A9z hf (by simp_all)).2.2 t.r vr dims hd hl) (fun x104 => ?_)); refine z129 ?_; exact hK _ ⟨(by (conv => lhs; whnf); first | (simp_all [Bool.and_assoc]; done) | (simp_all [Bool.and_assoc]; omega)), trivial⟩
          ·refine z121 ?_; refine z130 ?_; exact hK _ ⟨(by (conv => lhs; whnf); first | (simp_all [Bool.and_assoc]; done) | (simp_all [Bool.and_assoc]; omega)), trivial⟩
         ·refine A1r Tryz.func164 Tryz.results164 wn_ () (by simp_all [C2g, Bool.and_assoc]) (fun w hs => hs.none)
        ·refine z182 ?_; refine z0 ?_; refine z100 ?_; refine z133 ?_; refine A4g (X := Nat) (fun i => i ≤ t.sys.length ∧ ∀ j, j < i → C3t t dims (t.sys.getD j br0) = true) (fun i => [(2, .int .i64 dims), (3, .pointer (some ⟨b3, 0, none⟩)), (107, sl vs t.sys.length), (108, .int .i64 (t.sys.length : Int)), (109, .int .i64 (i : Int))]) (fun i => BLx t.sys vs VF VK2 :: RT t vr vk vs :: []) (fun i => [A1o b3 (tc t vr vk vs) 35]) (fun i => t.sys.length - i) (0) (⟨Nat.zero_le _, fun j hj => by omega⟩) (by exact lr_) ?_ ?_
         ·exact fun w hs => hs.l9
         ·intro i base0 ⟨hi, hok⟩ next0; refine z124 ?_; refine A0e (fun h110 => ?_) (fun h110 => ?_)
          ·have hlt : i < t.sys.length := by have := of_decide_eq_true h110; omega
           obtain ⟨bk, o, hav⟩ := hA2 oo_; refine z146 ?_; refine z40 ?_; refine q0 rfl (E4v ?_); refine q0 rfl (A2p fun b8 => ?_); refine z156 ?_; refine A5y i hlt ?_; refine A0z ([(2, .int .i64 dims), (3, .pointer (some ⟨b3, 0, none⟩)), (107, sl vs t.sys.length), (108, .int .i64 (t.sys.length : Int)), (109, .int .i64 (i : Int)), (132, .bool (!(C3t t dims (t.sys.getD i br0))))]) (fun hK => ?_) (fun base => ?_)
           ·refine A1y (pn := 1000000) (tn := false) (A := [0, 1, 3, 0, 8, 24, 63, 127, 255, 511, 1023, 2047, 4095, 8191, 16383, 32767, 16383, 131071, 262143, 524287]) (l := [0, 1, 2, 3, 4, 5, 6, 7, 8, 9, 10, 11, 12, 13, 14, 15, 16, 17, 18, 19]) (fin := []) Tab.mixed ⟨_, Tryz.func164⟩ (by rfl) ?_; refine z115 ?_; refine n0 rfl (D8n ?_); refine z115 ?_; refine n0 rfl (A1q Tryz.call172 (B2h t.kind) (fun x118 => ?_)); refine n0 rfl (E7s ?_); refine z14 ?_; refine nI rfl rfl rfl wl_ (fun hg120 => C1d ?_) (fun hg120 => ?_)
            ·refine z37 ?_; refine nT rfl rfl rfl (A1q Tryz.call88 ((D7o hf hlt).2.1 _ (VF i)) (fun x123 => ?_)); refine nT rfl rfl rfl (D8m ?_); refine z185 ?_; refine nI rfl rfl rfl wl_ (fun hg126 => C1d ?_) (fun hg126 => ?_)
             ·refine z37 ?_; refine z42 ?_; refine nT rfl rfl rfl (A1q Tryz.call219 (B0y (D7o hf hlt).2.2 _ (VF i) dims hd hl) (fun x130 => ?_)); refine nT rfl rfl rfl (D8m ?_); refine z155 ?_; exact hK _ ⟨rfl, rfl, rfl, rfl, rfl, (by (conv => lhs; whnf); first | (simp_all [C3t]; done) | (simp_all [C3t]; omega)), trivial⟩
             ·refine z147 ?_; refine z41 ?_; refine z101 ?_; exact hK _ ⟨rfl, rfl, rfl, rfl, rfl, (by (conv => lhs; whnf); first | (simp_all [C3t]; done) | (simp_all [C3t]; omega)), trivial⟩
            ·refine z97 ?_; refine z164 ?_; refine z14 ?_; refine z147 ?_; refine z190 ?_; exact hK _ ⟨rfl, rfl, rfl, rfl, rfl, (by (conv => lhs; whnf); first | (simp_all [C3t]; done) | (simp_all [C3t]; omega)), trivial⟩
           ·refine A0e (fun h132 => ?_) (fun h132 => ?_)
            ·refine z77 ?_; have ha := D2w hlt (by simpa using h132); refine A1r Tryz.func164 Tryz.results164 wn_ () (by rw [C2g, ha]; clear hok ha h132; simp_all [Bool.and_assoc]) (fun w hs => hs.none)
            ·refine z145 ?_; have hb : C3t t dims (t.sys.getD i br0) = true := by simpa using h132
             refine A0a (fun w hs => ?_) (next0 (i + 1) _ ⟨hlt, fun j hj => (by rcases Nat.lt_succ_iff_lt_or_eq.mp hj with h | h; exact hok j h; subst h; exact hb)⟩ oo_ lr_); exact (hs.l9).drop
          ·have hge : i = t.sys.length := by have := of_decide_eq_false h110; omega
           refine z17 ?_; refine z100 ?_; refine z20 ?_; refine z102 ?_; have ha := F1l (t := t) (g := C3t t dims) (by rw [← hge]; exact hok); refine A1r Tryz.func164 Tryz.results164 wn_ () (by rw [C2g, ha]; clear hok ha; simp_all [Bool.and_assoc]) (fun w hs => hs.none)
abbrev F6x (t : T) : Prop := (B5o t = true ∨ F7d) → ∀ (vars dims : Int) (bound : Bool) vr vk vs, A2a vars → 0 ≤ dims → dims + depth t ≤ 1152921504606846976 → Spec Tryz.prog 86 #[.agg (tc t vr vk vs).toArray, .int .i64 vars, .int .i64 dims, .bool bound] [RT t vr vk vs] [] (fun _ : Unit => .bool (B6w t vars dims bound)) (fun _ => []) (fun _ => [])
abbrev G2a (b1 b2 b3 : Nat) : List Value := [.pointer (some ⟨b1, 0, none⟩), .pointer (some ⟨b2, 0, none⟩), .pointer (some ⟨b3, 0, none⟩)]
abbrev G5v (b1 b2 b3 : Nat) (vars dims : Int) (bound : Bool) : List Res := [A1o b1 [.int .i64 vars] 3, A1o b2 [.int .i64 dims] 3, A1o b3 [.bool bound] 4]
def B4r (v d : Int) : Prop := 0 ≤ v ∧ v ≤ 1 ∧ 0 ≤ d ∧ d ≤ 1
theorem D8c (k i : Int) : B4r (binds k i).1 (binds k i).2 := by
 unfold binds B4r; repeat (split; (simp))
 simp
theorem E8x {t : T} {k : T} {v d : Int} (h : (k, v, d) ∈ parts t) : B4r v d := by
 have hk : ∀ (kind : Int) (i : Nat) (ks : List T), (k, v, d) ∈ A4r kind i ks → B4r v d := by
  intro kind i ks
  induction ks generalizing i with
  | nil => intro h; simp [A4r] at h
  | cons a ks ih =>
   intro h; simp only [A4r, List.mem_cons] at h; rcases h with h | h
   ·have e : (v, d) = binds kind i := (Prod.mk.inj h).2; have := D8c kind i; rw [← e] at this; exact this
   ·exact ih _ h
 have hs : ∀ (kind : Int) (bs : List Br), (k, v, d) ∈ A3g kind bs → B4r v d := by
  intro kind bs
  induction bs with
  | nil => intro h; simp [A3g] at h
  | cons b bs ih =>
   intro h; simp only [A3g, List.mem_append, List.mem_map] at h; rcases h with ⟨a, ha, e⟩ | h
   ·have e2 := (Prod.mk.inj e).2; have e3 := (Prod.mk.inj e2); rw [← e3.1, ← e3.2]; unfold B4r more; split <;> simp
   ·exact ih h
 unfold parts at h; rcases List.mem_append.mp h with h | h
 ·exact hk _ _ _ h
 ·exact hs _ _ h
theorem C3i {t : T} {p : Part} (h : p ∈ parts t) : depth p.1 < depth t := by
 obtain ⟨m, hm⟩ := List.mem_iff_getElem?.mp h; exact E0l hm
theorem E7d (k : T) (vr vk vs : SH) (b1 b2 b3 : Nat) (vars dims v d : Int) (bound : Bool) (hv : A2a vars) (h0 : 0 ≤ dims) (hvd : B4r v d) (hl : dims + 1 + depth k ≤ 1152921504606846976) (hp : B5o k = true ∨ F7d) (ih : F6x k) : Spec Tryz.prog 165 #[.agg (tc k vr vk vs).toArray, .int .i64 v, .int .i64 d, .pointer (some ⟨b1, 0, none⟩), .pointer (some ⟨b2, 0, none⟩), .pointer (some ⟨b3, 0, none⟩)] [RT k vr vk vs] (G5v b1 b2 b3 vars dims bound) (fun _ : Unit => .bool (B6w k (IntKind.i64.wrap (vars + if vars < 0 then 0 else v)) (dims + d) bound)) (fun _ => []) (fun _ => G5v b1 b2 b3 vars dims bound) := by
 refine sg_ Tryz.ntmps165 fun B hB => ?_
 obtain ⟨hv0, hv1, hd0, hd1⟩ := hvd; refine z73 ?_; refine q0 rfl (A2d fun b6 => ?_); refine z106 ?_; refine z200 ?_; refine z89 ?_; refine A0z ([(1, .int .i64 (if vars < 0 then 0 else v)), (2, .int .i64 d), (3, .pointer (some ⟨b1, 0, none⟩)), (4, .pointer (some ⟨b2, 0, none⟩)), (5, .pointer (some ⟨b3, 0, none⟩)), (6, .pointer (some ⟨b6, 0, none⟩))]) (fun hK => ?_) (fun base => ?_)
 ·refine A0e (fun h11 => ?_) (fun h11 => ?_)
  ·refine gR_ ?_; refine z74 ?_; exact hK _ ⟨(by first | (rw [if_pos (of_decide_eq_true h11)]; rfl) | (rw [if_neg (of_decide_eq_false h11)]; rfl)), rfl, rfl, rfl, rfl, rfl, trivial⟩
  ·refine z5 ?_; exact hK _ ⟨(by first | (rw [if_pos (of_decide_eq_true h11)]; rfl) | (rw [if_neg (of_decide_eq_false h11)]; rfl)), rfl, rfl, rfl, rfl, rfl, trivial⟩
 ·refine z116 ?_; refine z12 ?_; refine z3 ?_; refine q0 rfl (F2x ?_); refine z12 ?_; refine z3 ?_; refine z9 ?_; refine z12 ?_; refine q0 rfl (A0b Tryz.call86 (ih hp (IntKind.i64.wrap (vars + if vars < 0 then 0 else v)) (dims + d) bound vr vk vs (C6b _) oo_ oo_) (fun x20 => ?_)); refine z74 ?_; refine A1r Tryz.func165 Tryz.results165 wn_ () rfl (fun w hs => (hs.l8).drop)
theorem F1j (t : T) (hp : B5o t = true ∨ F7d) (ih : ∀ p, p ∈ parts t → F6x p.1) (vars dims : Int) (bound : Bool) (vr vk vs : SH) (hv : A2a vars) (h0 : 0 ≤ dims) (hl : dims + depth t ≤ 1152921504606846976) : Spec Tryz.prog 86 #[.agg (tc t vr vk vs).toArray, .int .i64 vars, .int .i64 dims, .bool bound] [RT t vr vk vs] [] (fun _ : Unit => .bool (B6w t vars dims bound)) (fun _ => []) (fun _ => []) := by
 refine sg_ Tryz.ntmps86 fun B hB => ?_
 refine z73 ?_; refine q0 rfl (A2d fun b4 => ?_); refine q0 rfl (A2d fun b5 => ?_); refine q0 rfl (A2d fun b6 => ?_); refine q0 rfl (A2d fun b7 => ?_); refine z189 ?_; refine A0z ([(4, .pointer (some ⟨b4, 0, none⟩)), (5, .pointer (some ⟨b5, 0, none⟩)), (6, .pointer (some ⟨b6, 0, none⟩)), (7, .pointer (some ⟨b7, 0, none⟩)), (20, .bool ((bound && decide (24 < dims)) || !(C2g t vars dims)))]) (fun hK => ?_) (fun base => ?_)
 ·refine gR_ ?_; refine z12 ?_; refine z3 ?_; refine qI rfl rfl rfl wl_ (fun hg10 => G2b ?_) (fun hg10 => ?_)
  ·refine z56 ?_; refine z118 ?_; refine qI rfl rfl rfl wl_ (fun hg14 => C3v ?_) (fun hg14 => ?_)
   ·refine z29 ?_; refine z29 ?_; refine qT rfl rfl rfl (A0b Tryz.call164 (D6q t (C4p hp) vr vk vs vars dims h0 (by unfold A2a; omega)) (fun x18 => ?_)); refine z201 ?_; exact hK _ ⟨rfl, rfl, rfl, rfl, (by (conv => lhs; whnf); first | (simp_all [Bool.and_assoc]; done) | (simp_all [Bool.and_assoc]; omega)), trivial⟩
   ·refine z141 ?_; refine z94 ?_; exact hK _ ⟨rfl, rfl, rfl, rfl, (by (conv => lhs; whnf); first | (simp_all [Bool.and_assoc]; done) | (simp_all [Bool.and_assoc]; omega)), trivial⟩
  ·refine z4 ?_; refine z140 ?_; refine qT rfl rfl rfl (C3v ?_); refine z29 ?_; refine z29 ?_; refine qT rfl rfl rfl (A0b Tryz.call164 (D6q t (C4p hp) vr vk vs vars dims h0 (by unfold A2a; omega)) (fun x18 => ?_)); refine z201 ?_; exact hK _ ⟨rfl, rfl, rfl, rfl, (by (conv => lhs; whnf); first | (simp_all [Bool.and_assoc]; done) | (simp_all [Bool.and_assoc]; omega)), trivial⟩
 ·refine A0e (fun h20 => ?_) (fun h20 => ?_)
  ·refine z77 ?_; refine A1r Tryz.func86 Tryz.results86 wn_ () (by rw [D5k, h20]; rfl) (fun w hs => hs.none)
  ·refine z5 ?_; refine z116 ?_; refine z50 ?_; have hE := D2e t vr vk vs 165 (G2a b5 b6 b7) [] (G5v b5 b6 b7 vars dims bound) (fun p => B6w p.1 (IntKind.i64.wrap (vars + if vars < 0 then 0 else p.2.1)) (dims + p.2.2) bound) Tryz.call165 (fun k v d hm vr vk vs => E7d k vr vk vs b5 b6 b7 vars dims v d bound hv h0 (E8x hm) (by have := C3i hm; simp only at this; omega) (D9j hp hm) (ih _ hm)); refine q0 rfl (A0b Tryz.call98 (hE) (fun x23 => ?_)); refine z74 ?_; refine A1r Tryz.func86 Tryz.results86 wn_ () (by rw [D5k, h20]; rfl) (fun w hs => hs.none)
theorem F1k : ∀ t : T, F6x t := T.ind fun t ih hp vars dims bound vr vk vs hv h0 hl => F1j t hp ih vars dims bound vr vk vs hv h0 hl
theorem C2z (t : T) (hp : B5o t = true ∨ F7d) (vr vk vs : SH) (hsz : size t ≤ 1152921504606846) : Spec Tryz.prog 32 #[.agg (tc t vr vk vs).toArray] [RT t vr vk vs] [] (fun _ : Unit => .int .i64 (A3v t)) (fun _ => []) (fun _ => []) := by
 refine sg_ Tryz.ntmps32 fun B hB => ?_
 have hds := B3p t; refine z73 ?_; refine q0 rfl (A2d fun b1 => ?_); refine z106 ?_; refine z116 ?_; refine q0 rfl (A0b Tryz.call85 (D8s t vr vk vs) (fun x5 => ?_)); refine z202 ?_; refine A0e (fun h7 => ?_) (fun h7 => ?_)
 ·have hs := of_decide_eq_true h7; refine z136 ?_; refine A1r Tryz.func32 Tryz.results32 wn_ () (by rw [A3v, if_pos hs]) (fun w hs => hs.none)
 ·have hs := of_decide_eq_false h7; refine z83 ?_; refine z116 ?_; refine q0 rfl (A0b Tryz.call86 (F1k t hp (-1) 24 false vr vk vs (by unfold A2a; omega) oo_ oo_) (fun x10 => ?_)); refine z132 ?_; refine A0e (fun h11 => ?_) (fun h11 => ?_)
  ·refine z77 ?_; refine A1r Tryz.func32 Tryz.results32 wn_ () (by rw [A3v, if_neg hs]; simp_all) (fun w hs => hs.none)
  ·refine z5 ?_; refine z77 ?_; refine A1r Tryz.func32 Tryz.results32 wn_ () (by rw [A3v, if_neg hs]; simp_all) (fun w hs => hs.none)
theorem E1j {n : Int} (h : A2a n) : IntKind.i64.wrap n = n := by rw [IntKind.wrap_i64]; unfold A2a at h; omega
theorem D4w {t : T} : A3v t = 0 ↔ sized t = 0 ∧ B6w t (-1) 24 false = true := by
 unfold A3v
 split
 ·rename_i h; constructor
  ·intro h2; exact absurd h2 h
  ·intro h2; exact absurd h2.1 h
 ·rename_i h
  have h : sized t = 0 := by simpa using h
  split
  ·rename_i h3; simp [h, h3]
  ·rename_i h3; simp [h3]
theorem E6i {t k : T} (hk : k ∈ t.kids) : depth k < depth t := by obtain ⟨p, hp, e⟩ := A6i hk; exact e ▸ C3i hp
def A6a (s : Nat) (i : Int) : Nat := if 0 ≤ i ∧ i < 24 then ((s &&& 16777215) &&& (2 ^ i.toNat - 1)) ||| ((s &&& 16777215) / 2 ^ (i.toNat + 1) * 2 ^ i.toNat) else s &&& 16777215
theorem A7v (s : Nat) : s &&& 16777215 < 16777216 := by rw [D5j]; exact Nat.mod_lt _ de_
theorem B1s (s : Nat) (i : Int) : A6a s i < 16777216 := by
 have h := A7v s
 unfold A6a
 split
 ·refine Nat.or_lt_two_pow (n := 24) (Nat.lt_of_le_of_lt Nat.and_le_left h) ?_
  generalize s &&& 16777215 = q at *
  have h1 : q / 2 ^ (i.toNat + 1) * 2 ^ i.toNat ≤ q / 2 ^ i.toNat * 2 ^ i.toNat := Nat.mul_le_mul_right _ (Nat.div_le_div_left (Nat.pow_le_pow_right oo_ oo_) (Nat.pow_pos oo_))
  have h2 := Nat.div_mul_le_self q (2 ^ i.toNat)
  show _ < 16777216
  omega
 ·exact h
theorem B5f (l : List Cl) : A5d l < 16777216 := by rw [C8a]; exact A7v _
def A0o (s : Nat) (f b : Int) : Int × Nat :=
 if f < 0 ∨ b < 0 then (2, 0) else
 if A1g (s &&& 16777215) (2 ^ (min f.toNat 24) - 1) = 0 then (0, (s &&& 16777215) &&& (2 ^ (min f.toNat 24) - 1)) else
 if 24 ≤ b ∨ 16777215 < A1g (s &&& 16777215) (2 ^ (min f.toNat 24) - 1) * 2 ^ b.toNat then (10, 0) else
 (0, ((s &&& 16777215) &&& (2 ^ (min f.toNat 24) - 1)) ||| (A1g (s &&& 16777215) (2 ^ (min f.toNat 24) - 1) * 2 ^ b.toNat))
theorem A7k (a b i : Nat) : (A1g a b).testBit i = (decide (i < 32) && a.testBit i && !b.testBit i) := by
 unfold A1g
 rw [BitVec.testBit_toNat]
 by_cases h : i < 32
 ·rw [BitVec.getLsbD_and, BitVec.getLsbD_not, BitVec.getLsbD_ofNat, BitVec.getLsbD_ofNat]
  simp [h]
 ·have : (BitVec.ofNat 32 a &&& ~~~BitVec.ofNat 32 b).getLsbD i = false := BitVec.getLsbD_of_ge _ _ oo_
  rw [this]; simp [h]
theorem A5e (s i : Nat) : (s &&& 16777215).testBit i = (decide (i < 24) && s.testBit i) := by
 rw [D5j, Nat.testBit_mod_two_pow]
theorem B3h (m i : Nat) : (2 ^ m - 1).testBit i = decide (i < m) := Nat.testBit_two_pow_sub_one m i
theorem E6z {q m : Nat} (h : q < 16777216) : A1g q m < 16777216 := by
 refine Nat.lt_pow_two_of_testBit (n := 24) _ (fun i hi => ?_)
 rw [A7k, Nat.testBit_lt_two_pow (x := q) (Nat.lt_of_lt_of_le h (Nat.pow_le_pow_right (n := 2) de_ hi))]
 simp
theorem A8a (s : Nat) (f b : Int) : (A0o s f b).2 < 16777216 := by
 unfold A0o
 split
 ·decide
 ·split
  ·exact Nat.lt_of_le_of_lt Nat.and_le_left (A7v s)
  ·split
   ·decide
   ·refine Nat.or_lt_two_pow (n := 24) ?_ ?_
    ·exact Nat.lt_of_le_of_lt Nat.and_le_left (A7v s)
    ·rename_i h; simp only [not_or] at h; have := h.2; omega
def A1b (c : Cl) (f b : Int) : Int × Cl :=
 if A0u c = false then (2, cl0) else
 if (A0o c.pos f b).1 ≠ 0 then ((A0o c.pos f b).1, cl0) else
 if (A0o c.neg f b).1 ≠ 0 then ((A0o c.neg f b).1, cl0) else
 (0, ⟨(A0o c.pos f b).2, (A0o c.neg f b).2⟩)
theorem B5i (c : Cl) (f b : Int) : u32 (A1b c f b).2 := by
 have h1 := A8a c.pos f b
 have h2 := A8a c.neg f b
 unfold A1b
 split
 ·exact ⟨(by decide : (0 : Nat) < 4294967296), (by decide : (0 : Nat) < 4294967296)⟩
 ·split
  ·exact ⟨(by decide : (0 : Nat) < 4294967296), (by decide : (0 : Nat) < 4294967296)⟩
  ·split
   ·exact ⟨(by decide : (0 : Nat) < 4294967296), (by decide : (0 : Nat) < 4294967296)⟩
   ·exact ⟨by show (A0o c.pos f b).2 < _; omega, by show (A0o c.neg f b).2 < _; omega⟩
def A8i (g : Cl → Int × Cl) (l : List Cl) : Int × List Cl := match l.find? (fun c => (g c).1 ≠ 0) with
 | some c => ((g c).1, [])
 | none => (0, l.map fun c => (g c).2)
theorem D1s {g : Cl → Int × Cl} {l : List Cl} {i : Nat} (hi : i < l.length) (h0 : ∀ j, j < i → (g (l.getD j cl0)).1 = 0) (h : (g (l.getD i cl0)).1 ≠ 0) : A8i g l = ((g (l.getD i cl0)).1, []) := by
 have : l.find? (fun c => (g c).1 ≠ 0) = some (l.getD i cl0) := by
  rw [List.find?_eq_some_iff_getElem]
  rw [A5s (d := cl0) hi] at h ⊢
  refine ⟨by simpa using h, i, hi, rfl, fun j hj => ?_⟩
  have := h0 j hj
  rw [A5s (d := cl0) oo_] at this
  simp [this]
 rw [A8i, this]
theorem C7w {g : Cl → Int × Cl} {l : List Cl} (h0 : ∀ j, j < l.length → (g (l.getD j cl0)).1 = 0) : A8i g l = (0, l.map fun c => (g c).2) := by
 have : l.find? (fun c => (g c).1 ≠ 0) = none := by
  rw [List.find?_eq_none]
  intro x hx
  obtain ⟨j, hj, e⟩ := List.mem_iff_getElem.mp hx
  have := h0 j hj
  rw [A5s (d := cl0) hj, e] at this
  simp [this]
 rw [A8i, this]
theorem D1r {g : Cl → Int × Cl} {l : List Cl} : (A8i g l).1 = 0 ↔ ∀ c, c ∈ l → (g c).1 = 0 := by
 unfold A8i
 cases h : l.find? (fun c => (g c).1 ≠ 0) with
 | none =>
  rw [List.find?_eq_none] at h
  simp only [true_iff]
  intro c hc
  simpa using h c hc
 | some c =>
  have h1 := List.find?_some h
  have h2 := List.mem_of_find?_eq_some h
  simp only
  refine ⟨fun h3 => ?_, fun h3 => h3 c h2⟩
  simp at h1; exact absurd h3 h1
theorem E5x {g : Cl → Int × Cl} {l : List Cl} (h : (A8i g l).1 = 0) : A8i g l = (0, l.map fun c => (g c).2) :=
 C7w fun j hj => D1r.mp h _ (A0l hj)
theorem C7p {l : List Cl} : A0h l = true ↔ A0p l = (0, l) := by
 rw [← B9x, Bool.and_eq_true, decide_eq_true_eq, decide_eq_true_eq]
 constructor
 ·rintro ⟨h1, h2⟩; exact Prod.ext h1 h2
 ·intro h; rw [h]; exact ⟨rfl, rfl⟩
def A0k (l : List Cl) (f b : Int) : Int × List Cl :=
 if A0h l = false then (2, []) else
 if (A8i (fun c => A1b c f b) l).1 ≠ 0 then ((A8i (fun c => A1b c f b) l).1, []) else A0p (A8i (fun c => A1b c f b) l).2
section
variable {C : Type} {A : Tr C} {t : T} {c : C} {e : Int}
theorem B3x (h : A.own c t.kind t.n t.name t.r = .bad e) : A6n A t c = .bad e := by rw [A8j, h]; rfl
theorem B9j {p : Int × List Cl} {i : Nat} {l : List T} (h : A.own c t.kind t.n t.name t.r = .ok (.inr p)) (hi : i < t.kids.length) (hl : A5t A t.kind 0 (t.kids.take i) c = .ok l) {c' : C} (hc : A.kid c (binds t.kind i) = .ok c') (hb : A6n A (t.kids.getD i t0) c' = .bad e) : A6n A t c = .bad e := by
 have h1 : A5t A t.kind 0 (t.kids.take (i + 1)) c = .bad e := by
  rw [A0f (d := t0) hi, B8g, hl]
  simp only [A2m.bind, List.length_take, Nat.zero_add, Nat.min_eq_left (Nat.le_of_lt hi)]
  rw [hc]; simp only; rw [hb]
 have h2 := C8z (m := t.kids.drop (i + 1)) h1
 rw [List.take_append_drop] at h2
 rw [A8j, h]; simp only [A2m.bind]; rw [h2]
theorem C1e {k : Int} {ts : List T} {i : Nat} {l : List T} {u : T} (hi : i < ts.length) (hl : A5t A k 0 (ts.take i) c = .ok l) {c' : C} (hc : A.kid c (binds k i) = .ok c') (hb : A6n A (ts.getD i t0) c' = .ok u) : A5t A k 0 (ts.take (i + 1)) c = .ok (l ++ [u]) := by
 rw [A0f (d := t0) hi, B8g, hl]
 simp only [A2m.bind, List.length_take, Nat.zero_add, Nat.min_eq_left (Nat.le_of_lt hi)]
 rw [hc]; simp only; rw [hb]
theorem B9k {k : Int} {ts : List T} {i : Nat} {l : List T} (hi : i < ts.length) (hl : A4u A k (ts.take i) c = .ok l) {c' : C} (hc : A.kid c (0, more k) = .ok c') (hb : A6n A (ts.getD i t0) c' = .bad e) : A4u A k ts c = .bad e := by
 have h1 : A4u A k (ts.take (i + 1)) c = .bad e := by
  rw [A0f (d := t0) hi, B8f, hl]
  simp only [A2m.bind]
  rw [hc]; simp only; rw [hb]
 have h2 := C8w (m := ts.drop (i + 1)) h1
 rwa [List.take_append_drop] at h2
theorem C1g {k : Int} {ts : List T} {i : Nat} {l : List T} {u : T} (hi : i < ts.length) (hl : A4u A k (ts.take i) c = .ok l) {c' : C} (hc : A.kid c (0, more k) = .ok c') (hb : A6n A (ts.getD i t0) c' = .ok u) : A4u A k (ts.take (i + 1)) c = .ok (l ++ [u]) := by
 rw [A0f (d := t0) hi, B8f, hl]
 simp only [A2m.bind]
 rw [hc]; simp only; rw [hb]
theorem A8c {p : Int × List Cl} {s : Nat} {l : List T} {bs : List Br} (h : A.own c t.kind t.n t.name t.r = .ok (.inr p)) (hl : A5t A t.kind 0 t.kids c = .ok l) (hs : s < t.sys.length) (hb : A6b A t.kind (t.sys.take s) c = .ok bs) (hf : A.A1s c (t.sys.getD s br0).A1s = .bad e ∨ ∃ f', A.A1s c (t.sys.getD s br0).A1s = .ok (some f') ∧ A4u A t.kind (t.sys.getD s br0).kids c = .bad e) : A6n A t c = .bad e := by
 have h1 : A6b A t.kind (t.sys.take (s + 1)) c = .bad e := by
  rw [A0f (d := br0) hs, B4t, hb]
  simp only [A2m.bind]
  rcases hf with hf | ⟨f', hf, h2⟩
  ·rw [hf]
  ·rw [hf]; simp only; rw [h2]
 have h2 := C1k (m := t.sys.drop (s + 1)) h1
 rw [List.take_append_drop] at h2
 rw [A8j, h]; simp only [A2m.bind]; rw [hl]; simp only; rw [h2]
theorem B5y {k : Int} {ss : List Br} {s : Nat} {bs : List Br} {f' : List Cl} {ks : List T} (hs : s < ss.length) (hb : A6b A k (ss.take s) c = .ok bs) (hf : A.A1s c (ss.getD s br0).A1s = .ok (some f')) (hk : A4u A k (ss.getD s br0).kids c = .ok ks) : A6b A k (ss.take (s + 1)) c = .ok (bs ++ [.mk f' ks]) := by
 rw [A0f (d := br0) hs, B4t, hb]
 simp only [A2m.bind]
 rw [hf]; simp only; rw [hk]
theorem B8e {p : Int × List Cl} {l : List T} {bs : List Br} (h : A.own c t.kind t.n t.name t.r = .ok (.inr p)) (hl : A5t A t.kind 0 t.kids c = .ok l) (hb : A6b A t.kind t.sys c = .ok bs) : A6n A t c = .ok (.mk t.kind p.1 t.name p.2 l bs) := by
 rw [A8j, h]; simp only [A2m.bind]; rw [hl]; simp only; rw [hb]
end
theorem D1q {g : Cl → Int × Cl} {l : List Cl} (h : ∀ c, u32 (g c).2) : ∀ c, c ∈ (A8i g l).2 → u32 c := by
 intro c hc
 unfold A8i at hc
 split at hc
 ·cases hc
 ·obtain ⟨d, _, rfl⟩ := List.mem_map.mp hc; exact h d
theorem E5y {g : Cl → Int × Cl} {l : List Cl} : (A8i g l).2.length ≤ l.length := by
 unfold A8i
 split <;> simp
theorem B8w (k : Int) : 0 ≤ more k ∧ more k ≤ 1 := by unfold more; split <;> omega
theorem C1p {t : T} {i : Nat} (h : i < t.kids.length) : size (t.kids.getD i t0) < size t := by
 obtain ⟨p, hp, e⟩ := A6i (A0l (d := t0) h); exact e ▸ B1l hp
theorem C1o {t : T} {s k : Nat} (h : s < t.sys.length) (h2 : k < (t.sys.getD s br0).kids.length) : size ((t.sys.getD s br0).kids.getD k t0) < size t := by
 obtain ⟨p, hp, e⟩ := A6g (A0l (d := br0) h) (A0l (d := t0) h2); exact e ▸ B1l hp
theorem C2y : h0.er = t0 := by simp [h0, HT.er, HT.erL, HT.erB, t0]
theorem St.h0R {B : A6z} {Γ : List Fact} {Ms : List Res} {w : World} (y : Tys) (hs : St B Γ Ms w) : St B Γ (A4w (A5i y h0) :: Ms) w := by
 have h1 := ((((hs.B5x).B5x).A2r 2 y.b).A2r 6 y.t).A2r 2 y.c
 exact St.E9z (y := y) (k := 0) (n := 0) (nm := ByteArray.mk #[]) (r := []) (v := nul) (u := nul) (x := nul) (ks := []) (ss := []) rfl rfl rfl rfl rfl rfl (by simpa [A6c, C3m] using h1)
theorem Spec.B0e {P : Program} {k : FuncId} {args : Array Value} {pre : List Fact} (y : Tys) {u : T} (g : Value → Value) (h : Spec P k args pre [] (fun x : {h : HT // h.er = u} => g (.agg (tc u x.1.vr x.1.vk x.1.vs).toArray)) (fun _ => []) (fun x => [A4w (A5i y x.1)])) (hok : ∀ ok w, St ⟨ok, A2s [], w⟩ pre [] w → okT u) :
  Spec P k args pre [] (fun x : SH × SH × SH => g (.agg (tc u x.1 x.2.1 x.2.2).toArray)) (fun x => [RT u x.1 x.2.1 x.2.2]) (fun _ => []) := fun ok w hk hs => (h ok w hk hs).mono fun e w' hh => by
 obtain ⟨x, he, hs'⟩ := hh
 have h1 : St ⟨ok, A2s [], w⟩ [] (A5i y x.1 ++ []) w' := hs'.unpack
 have h2 := St.B0e y trivial x.1 (by rw [x.2]; exact hok ok w hs) h1
 rw [x.2] at h2
 exact ⟨(x.1.vr, x.1.vk, x.1.vs), he, h2⟩
theorem E0z.B0e {P : Program} {Te : TypeId} {k : FuncId} {args : Array Value} {pre : List Fact} (y : Tys) {r : A2m T} (h : E0z P Te k args pre r (fun (u : T) => fun x : {h : HT // h.er = u} => .agg (tc u x.1.vr x.1.vk x.1.vs).toArray) (fun _ _ => []) (fun (u : T) => fun x : {h : HT // h.er = u} => [A4w (A5i y x.1)])) (hok : ∀ u, r = .ok u → ∀ ok w, St ⟨ok, A2s [], w⟩ pre [] w → okT u) :
  E0z P Te k args pre r (fun (u : T) => fun x : SH × SH × SH => .agg (tc u x.1 x.2.1 x.2.2).toArray) (fun u x => [RT u x.1 x.2.1 x.2.2]) (fun _ _ => []) := ⟨fun u hu => Spec.B0e y (fun v => v) (h.1 u hu) (hok u hu), h.2⟩
abbrev A1m (l : List Cl) : Prop := (∀ c, c ∈ l → u32 c) ∧ l.length * 8 ≤ reach
section
variable {C : Type} {A : Tr C}
mutual
theorem C6l (ho : ∀ c k n nm r p, A2a k → A2a n → A1m r → A.own c k n nm r = .ok (.inr p) → A2a p.1 ∧ A1m p.2) (hi : ∀ c k n nm r u, A.own c k n nm r = .ok (.inl u) → okT u) (hf : ∀ c f f', A1m f → A.A1s c f = .ok (some f') → A1m f') : ∀ (t : T) (c : C) (u : T), okT t → A6n A t c = .ok u → okT u
 | .mk k n nm r ks ss, c, u, h, hu => by
  simp only [okT] at h
  obtain ⟨h1, h2, h3, h4, h5, h6, h7, h8⟩ := h
  rw [A8j] at hu
  simp only [T.kind, T.n, T.name, T.r, T.kids, T.sys] at hu
  obtain ⟨o, h9, hu⟩ := A2m.A0q hu
  cases o with
  | inl v => injection hu with hu; subst hu; exact hi _ _ _ _ _ _ h9
  | inr p =>
   obtain ⟨ks', h10, hu⟩ := A2m.A0q hu
   obtain ⟨ss', h11, hu⟩ := A2m.A0q hu
   injection hu with hu
   subst hu
   obtain ⟨p1, p2⟩ := ho _ _ _ _ _ _ h1 h2 h4 h9
   simp only [okT]
   exact ⟨h1, p1, h3, p2, by rw [B3z h10]; exact h5, Nat.le_trans (Nat.mul_le_mul_right _ (A8k h11)) h6, C8y ho hi hf ks 0 c ks' h7 h10, C1j ho hi hf ss c ss' h8 h11⟩
theorem C8y (ho : ∀ c k n nm r p, A2a k → A2a n → A1m r → A.own c k n nm r = .ok (.inr p) → A2a p.1 ∧ A1m p.2) (hi : ∀ c k n nm r u, A.own c k n nm r = .ok (.inl u) → okT u) (hf : ∀ c f f', A1m f → A.A1s c f = .ok (some f') → A1m f') {kd : Int} : ∀ (ts : List T) (i : Nat) (c : C) (us : List T), okL ts → A5t A kd i ts c = .ok us → okL us
 | [], i, c, us, h, hu => by rw [A4n] at hu; injection hu with hu; subst hu; simp only [okL]
 | t :: ts, i, c, us, h, hu => by
  simp only [okL] at h
  rw [A3k] at hu
  obtain ⟨c', _, hu⟩ := A2m.A0q hu
  obtain ⟨t', h2, hu⟩ := A2m.A0q hu
  obtain ⟨ts', h3, hu⟩ := A2m.A0q hu
  injection hu with hu
  subst hu
  simp only [okL]
  exact ⟨C6l ho hi hf t c' t' h.1 h2, C8y ho hi hf ts (i + 1) c ts' h.2 h3⟩
theorem C8v (ho : ∀ c k n nm r p, A2a k → A2a n → A1m r → A.own c k n nm r = .ok (.inr p) → A2a p.1 ∧ A1m p.2) (hi : ∀ c k n nm r u, A.own c k n nm r = .ok (.inl u) → okT u) (hf : ∀ c f f', A1m f → A.A1s c f = .ok (some f') → A1m f') {kd : Int} : ∀ (ts : List T) (c : C) (us : List T), okL ts → A4u A kd ts c = .ok us → okL us
 | [], c, us, h, hu => by rw [A4m] at hu; injection hu with hu; subst hu; simp only [okL]
 | t :: ts, c, us, h, hu => by
  simp only [okL] at h
  rw [A3j] at hu
  obtain ⟨c', _, hu⟩ := A2m.A0q hu
  obtain ⟨t', h2, hu⟩ := A2m.A0q hu
  obtain ⟨ts', h3, hu⟩ := A2m.A0q hu
  injection hu with hu
  subst hu
  simp only [okL]
  exact ⟨C6l ho hi hf t c' t' h.1 h2, C8v ho hi hf ts c ts' h.2 h3⟩
theorem C1j (ho : ∀ c k n nm r p, A2a k → A2a n → A1m r → A.own c k n nm r = .ok (.inr p) → A2a p.1 ∧ A1m p.2) (hi : ∀ c k n nm r u, A.own c k n nm r = .ok (.inl u) → okT u) (hf : ∀ c f f', A1m f → A.A1s c f = .ok (some f') → A1m f') {kd : Int} : ∀ (bs : List Br) (c : C) (us : List Br), okB bs → A6b A kd bs c = .ok us → okB us
 | [], c, us, h, hu => by rw [A4y] at hu; injection hu with hu; subst hu; simp only [okB]
 | .mk f ks :: bs, c, us, h, hu => by
  simp only [okB] at h
  obtain ⟨h1, h2, h3, h4⟩ := h
  rw [A3u] at hu
  simp only [Br.A1s, Br.kids] at hu
  obtain ⟨o, h5, hu⟩ := A2m.A0q hu
  cases o with
  | none => exact C1j ho hi hf bs c us h4 hu
  | some f' =>
   obtain ⟨ks', h6, hu⟩ := A2m.A0q hu
   obtain ⟨bs', h7, hu⟩ := A2m.A0q hu
   injection hu with hu
   subst hu
   simp only [okB]
   exact ⟨hf _ _ _ h1 h5, by rw [B3y h6]; exact h2, C8v ho hi hf ks c ks' h3 h6, C1j ho hi hf bs c bs' h4 h7⟩
end
end
theorem A5j : A1m [] := ⟨fun c hc => (by cases hc), by unfold reach; decide⟩
theorem D1h {l : List Cl} (h : ∀ c, c ∈ l → u32 c) : A1m (A0p l).2 := by
 unfold A0p
 split
 ·exact A5j
 ·split
  ·exact A5j
  ·rename_i h64
   exact ⟨fun c hc => h c (A4t.mp hc).1, by show (A3x l).length * 8 ≤ reach; unfold reach; omega⟩
theorem B3m (l : List Cl) (f b : Int) : A1m (A0k l f b).2 := by
 unfold A0k
 split
 ·exact A5j
 ·split
  ·exact A5j
  ·exact D1h (D1q (fun c => B5i c f b))
theorem B9v : okT t0 := by simp [t0, okT, okL, okB, A2a, A9a, reach]; decide
def A8z (b : Int) : Int := IntKind.i64.wrap (1000000 - b)
theorem E7b {t : T} {v d : Int} {b : Bool} : B6w t v d b = true ↔ (¬ (b = true ∧ 24 < d)) ∧ C2g t v d = true ∧ ∀ p, p ∈ parts t → B6w p.1 (IntKind.i64.wrap (v + if v < 0 then 0 else p.2.1)) (d + p.2.2) b = true := by
  rw [D5k, Bool.and_eq_true, List.all_eq_true]
  simp only [Bool.not_eq_true', Bool.or_eq_false_iff, Bool.and_eq_false_iff, decide_eq_false_iff_not, Bool.not_eq_false']
  constructor
  · rintro ⟨⟨h1, h2⟩, h3⟩
    refine ⟨?_, h2, h3⟩
    rintro ⟨h4, h5⟩
    rcases h1 with h1 | h1
    · rw [h1] at h4; cases h4
    · exact h1 h5
  · rintro ⟨h1, h2, h3⟩
    refine ⟨⟨?_, h2⟩, h3⟩
    cases b
    · exact .inl rfl
    · exact .inr (fun h => h1 ⟨rfl, h⟩)
theorem D4f {t : T} {v d : Int} : C2g t v d = true ↔ B5p t = false ∧
    (if t.kind = 1 then t.r.length = 0 ∧ 0 ≤ t.n ∧ (v < 0 ∨ t.n < v)
     else if t.kind = 2 then t.r.length = 0 ∧ B0m t.name = true
     else if t.kind = 13 ∨ t.kind = 21 ∨ t.kind = 26 then A0h t.r = true ∧ within t.r d = true
     else if t.kind = 14 then A0d t.r = true ∧ within t.r d = true
     else (∀ x, x ∈ t.sys → C3t t d x = true) ∧ t.r.length = 0) := by
  unfold C2g
  rw [Bool.and_eq_true, Bool.not_eq_true']
  apply and_congr Iff.rfl
  split
  · simp only [Bool.and_eq_true, decide_eq_true_eq, Bool.or_eq_true, and_assoc]; constructor <;> (rintro ⟨h1, h2⟩; exact ⟨by omega, h2⟩)
  · split
    · simp only [Bool.and_eq_true, decide_eq_true_eq]; constructor <;> (rintro ⟨h1, h2⟩; exact ⟨by omega, h2⟩)
    · split
      · simp only [Bool.and_eq_true]
      · split
        · simp only [Bool.and_eq_true]
        · simp only [Bool.and_eq_true, decide_eq_true_eq, List.all_eq_true]; constructor <;> (rintro ⟨h1, h2⟩; exact ⟨h1, by omega⟩)
theorem within_iff {l : List Cl} {d : Int} (h0 : 0 ≤ d) : within l d = true ↔ ∀ i : Nat, d ≤ (i : Int) → (A5d l).testBit i = false := by
  have hlt := B5f l
  unfold within
  rw [Bool.or_eq_true, decide_eq_true_eq, decide_eq_true_eq]
  by_cases h24 : 24 ≤ d
  · constructor
    · intro _ i hi
      exact Nat.testBit_lt_two_pow (Nat.lt_of_lt_of_le hlt (Nat.pow_le_pow_right (n := 2) oo_ (show 24 ≤ i by omega)))
    · intro _; exact .inl h24
  · have hm : min d.toNat 32 = d.toNat := by omega
    rw [hm]
    constructor
    · rintro (h | h) i hi
      · exact absurd h h24
      · have h1 : A5d l / 2 ^ d.toNat = 0 := by omega
        have h2 : A5d l < 2 ^ d.toNat := by
          have := Nat.div_eq_zero_iff.mp h1
          have hp : 0 < 2 ^ d.toNat := Nat.pow_pos oo_
          omega
        exact Nat.testBit_lt_two_pow (Nat.lt_of_lt_of_le h2 (Nat.pow_le_pow_right (n := 2) oo_ oo_))
    · intro h
      right
      have h2 : A5d l < 2 ^ d.toNat := Nat.lt_pow_two_of_testBit _ (fun i hi => h i oo_)
      rw [Nat.div_eq_of_lt h2]; rfl
theorem E1z {t : T} (h : B5p t = false) (hp : A3i t.kind = 0) : t.sys = [] := by
  unfold B5p at h
  simp only [Bool.or_eq_false_iff, Bool.and_eq_false_iff, decide_eq_false_iff_not] at h
  rcases h.2 with h2 | h2
  · exact absurd hp h2
  · exact List.eq_nil_of_length_eq_zero oo_
theorem B3i (s n : Nat) : (A2f s n).Pairwise fun a b => a < b := by
 unfold A2f
 rw [List.pairwise_map]
 refine (List.Pairwise.filter _ List.pairwise_lt_range).imp (fun h => by omega)
theorem E9u {l : List Int} (hs : l.Pairwise fun a b => a < b) {x : Int} (hx : x ∈ l) : x ≤ l.getD (l.length - 1) 0 := by
 obtain ⟨j, hj, e⟩ := List.mem_iff_getElem.mp hx
 have hs := List.pairwise_iff_getElem.mp hs
 have hl : l.length - 1 < l.length := by omega
 rw [A5s (d := (0 : Int)) hl]
 rcases Nat.lt_or_ge j (l.length - 1) with h2 | h2
 ·have := hs j (l.length - 1) hj hl h2
  rw [e] at this
  exact Int.le_of_lt this
 ·have hje : j = l.length - 1 := by omega
  subst hje
  exact Int.le_of_eq e.symm
def G6a (l : List Cl) (d : Int) : Bool := decide (((A0g (A5d l)).length : Int) = 0) || decide ((A0g (A5d l)).getD ((A0g (A5d l)).length - 1) 0 < d)
theorem D9v {l : List Cl} {d : Int} (h0 : 0 ≤ d) : G6a l d = within l d := by
 rw [Bool.eq_iff_iff, within_iff h0]
 unfold G6a
 rw [Bool.or_eq_true, decide_eq_true_eq, decide_eq_true_eq]
 have hlt := B5f l
 constructor
 ·intro h i hi
  apply Bool.eq_false_iff.mpr
  intro hb
  have hi24 : i < 24 := by
   apply Classical.byContradiction
   intro hc
   have := Nat.testBit_lt_two_pow (Nat.lt_of_lt_of_le hlt (Nat.pow_le_pow_right (n := 2) oo_ (show 24 ≤ i by omega)))
   rw [this] at hb; cases hb
  have hm : ((i : Nat) : Int) ∈ A0g (A5d l) := A4f.mpr ⟨by omega, by omega, by simpa using hb⟩
  rcases h with h | h
  ·have : A0g (A5d l) = [] := List.eq_nil_of_length_eq_zero oo_
   rw [this] at hm; cases hm
  ·have := E9u (l := A0g (A5d l)) (B3i (A5d l) 24) hm
   omega
 ·intro h
  by_cases hn : (A0g (A5d l)).length = 0
  ·exact .inl oo_
  ·right
   have hmem : (A0g (A5d l)).getD ((A0g (A5d l)).length - 1) 0 ∈ A0g (A5d l) := A0l oo_
   have hx := A4f.mp hmem
   apply Classical.byContradiction
   intro hc
   have := h ((A0g (A5d l)).getD ((A0g (A5d l)).length - 1) 0).toNat oo_
   rw [this] at hx; cases hx.2.2
structure B6v (t : T) (v d : Int) (b : Bool) : Prop where
 bound : ¬ (b = true ∧ 24 < d)
 kids : A4j t.kind = (t.kids.length : Int)
 sys : A3i t.kind = 0 → t.sys.length = 0
 n1 : if t.kind = 1 then 0 ≤ t.n ∧ (v < 0 ∨ t.n < v) else t.n = 0
 nm : if t.kind = 2 then B0m t.name = true else (t.name.toList == (ByteArray.mk #[]).toList) = true
 r : if t.kind = 13 ∨ t.kind = 21 ∨ t.kind = 26 then A0h t.r = true else if t.kind = 14 then A0d t.r = true else t.r.length = 0
 low : within t.r d = true
theorem E7e {t : T} {v d : Int} {b : Bool} (h : B6v t v d b) (hs : ∀ x, x ∈ t.sys → C3t t d x = true) : C2g t v d = true := by
 rw [D4f]
 have h1 := h.n1; have h2 := h.nm; have h3 := h.r
 refine ⟨?_, ?_⟩
 ·simp only [B5p, Bool.or_eq_false_iff, Bool.and_eq_false_iff, decide_eq_false_iff_not, Bool.not_eq_false']
  refine ⟨⟨⟨fun hc => hc h.kids, ?_⟩, ?_⟩, ?_⟩
  ·by_cases hk : t.kind = 1
   ·exact .inl (fun hc => hc hk)
   ·rw [if_neg hk] at h1; exact .inr (fun hc => hc h1)
  ·by_cases hk : t.kind = 2
   ·exact .inl (fun hc => hc hk)
   ·rw [if_neg hk] at h2; exact .inr h2
  ·by_cases hk : A3i t.kind = 0
   ·have := h.sys hk; exact .inr oo_
   ·exact .inl hk
 ·by_cases k1 : t.kind = 1
  ·rw [if_pos k1] at h1 ⊢
   rw [if_neg oo_, if_neg oo_] at h3
   exact ⟨h3, h1⟩
  ·rw [if_neg k1]
   by_cases k2 : t.kind = 2
   ·rw [if_pos k2] at h2 ⊢
    rw [if_neg oo_, if_neg oo_] at h3
    exact ⟨h3, h2⟩
   ·rw [if_neg k2]
    by_cases k3 : t.kind = 13 ∨ t.kind = 21 ∨ t.kind = 26
    ·rw [if_pos k3] at h3 ⊢; exact ⟨h3, h.low⟩
    ·rw [if_neg k3] at h3 ⊢
     by_cases k4 : t.kind = 14
     ·rw [if_pos k4] at h3 ⊢; exact ⟨h3, h.low⟩
     ·rw [if_neg k4] at h3 ⊢; exact ⟨hs, h3⟩
theorem E4g {t : T} {v d : Int} {b : Bool} (h0 : ¬ (b = true ∧ 24 < d)) (hd : 0 ≤ d) (h : C2g t v d = true) : B6v t v d b := by
 rw [D4f] at h
 obtain ⟨h1, h2⟩ := h
 have hsys := fun hp => E1z h1 hp
 simp only [B5p, Bool.or_eq_false_iff, Bool.and_eq_false_iff, decide_eq_false_iff_not, Bool.not_eq_false', ne_eq, Decidable.not_not] at h1
 obtain ⟨⟨⟨a1, a2⟩, a3⟩, a4⟩ := h1
 have hwn : t.r.length = 0 → within t.r d = true := fun hr => by
  rw [List.eq_nil_of_length_eq_zero hr, within_iff hd]; intro i _; simp [A5d]
 refine ⟨h0, a1, fun hp => by rw [hsys hp]; rfl, ?_, ?_, ?_, ?_⟩
 ·by_cases k1 : t.kind = 1
  ·rw [if_pos k1] at h2 ⊢; exact h2.2
  ·rw [if_neg k1]; exact a2.resolve_left k1
 ·by_cases k2 : t.kind = 2
  ·rw [if_neg oo_, if_pos k2] at h2
   rw [if_pos k2]; exact h2.2
  ·rw [if_neg k2]; exact a3.resolve_left k2
 ·split at h2
  ·rw [if_neg oo_, if_neg oo_]; exact h2.1
  ·split at h2
   ·rw [if_neg oo_, if_neg oo_]; exact h2.1
   ·split at h2
    ·rename_i k; rw [if_pos k]; exact h2.1
    ·rename_i k; rw [if_neg k]
     split at h2
     ·rename_i k; rw [if_pos k]; exact h2.1
     ·rename_i k; rw [if_neg k]; exact h2.2
 ·split at h2
  ·exact hwn h2.1
  ·split at h2
   ·exact hwn h2.1
   ·split at h2
    ·exact h2.2
    ·split at h2
     ·exact h2.2
     ·exact hwn h2.2
def D4p (t : T) (v d : Int) (b : Bool) (i : Nat) : Bool := B6w (t.kids.getD i t0) (IntKind.i64.wrap (v + if v < 0 then 0 else (binds t.kind i).1)) (d + (binds t.kind i).2) b
def E0s (t : T) (v d : Int) (b : Bool) (x : Br) : Bool := C3t t d x && x.kids.all fun k => B6w k v (d + more t.kind) b
theorem E8y {t : T} {v d : Int} (h : C2g t v d = true) : ∀ x, x ∈ t.sys → C3t t d x = true := by
 rw [D4f] at h
 have h2 := h.2
 have hs := fun hp => E1z h.1 hp
 split at h2
 ·rename_i k; rw [hs (by rw [k]; decide)]; intro x hx; cases hx
 ·split at h2
  ·rename_i k; rw [hs (by rw [k]; decide)]; intro x hx; cases hx
  ·split at h2
   ·rename_i k; rw [hs (by rcases k with k | k | k <;> rw [k] <;> decide)]; intro x hx; cases hx
   ·split at h2
    ·rename_i k; rw [hs (by rw [k]; decide)]; intro x hx; cases hx
    ·exact h2.1
theorem A4d {t : T} {v d : Int} {b : Bool} (hv : A2a v) (hd : 0 ≤ d) : B6w t v d b = true ↔ B6v t v d b ∧ (∀ i, i < t.kids.length → D4p t v d b i = true) ∧ ∀ i, i < t.sys.length → E0s t v d b (t.sys.getD i br0) = true := by
 rw [E7b]
 constructor
 ·rintro ⟨h1, h2, h3⟩
  refine ⟨E4g h1 hd h2, fun i hi => ?_, fun i hi => ?_⟩
  ·exact h3 _ (A6q (A5a t i hi))
  ·unfold E0s
   rw [Bool.and_eq_true, List.all_eq_true]
   refine ⟨E8y h2 _ (A0l hi), fun k hk => ?_⟩
   obtain ⟨j, hj, e⟩ := List.mem_iff_getElem.mp hk
   have := h3 _ (A6q (A5k t i j hi hj))
   simp only at this
   rw [show (if v < 0 then (0 : Int) else 0) = 0 by split <;> rfl, Int.add_zero, E1j hv] at this
   rwa [A5s (d := t0) hj, e] at this
 ·rintro ⟨h1, h2, h3⟩
  have hb : ∀ x, x ∈ t.sys → E0s t v d b x = true := fun x hx => by
   obtain ⟨i, hi, e⟩ := List.mem_iff_getElem.mp hx
   have := h3 i hi
   rwa [A5s (d := br0) hi, e] at this
  refine ⟨h1.bound, E7e h1 (fun x hx => by have := hb x hx; unfold E0s at this; rw [Bool.and_eq_true] at this; exact this.1), fun p hp => ?_⟩
  obtain ⟨m, hm⟩ := List.mem_iff_getElem?.mp hp
  have hlt : m < (parts t).length := (List.getElem?_eq_some_iff.mp hm).1
  rcases Nat.lt_or_ge m t.kids.length with hmk | hmk
  ·rw [A5a t m hmk] at hm
   injection hm with hm
   subst hm
   exact h2 m hmk
  ·unfold parts at hp hm
   rw [List.getElem?_append_right (by rw [A5x]; exact hmk)] at hm
   have hp2 : p ∈ A3g t.kind t.sys := List.mem_iff_getElem?.mpr ⟨_, hm⟩
   have key : ∀ (bs : List Br), (∀ x, x ∈ bs → x ∈ t.sys) → p ∈ A3g t.kind bs → B6w p.1 (IntKind.i64.wrap (v + if v < 0 then 0 else p.2.1)) (d + p.2.2) b = true := by
    intro bs
    induction bs with
    | nil => intro _ h; simp [A3g] at h
    | cons x bs ih =>
     intro hx h
     simp only [A3g, List.mem_append, List.mem_map] at h
     rcases h with ⟨k, hk, e⟩ | h
     ·subst e
      simp only
      rw [show (if v < 0 then (0 : Int) else 0) = 0 by split <;> rfl, Int.add_zero, E1j hv]
      have := hb x (hx x List.mem_cons_self)
      unfold E0s at this
      rw [Bool.and_eq_true, List.all_eq_true] at this
      exact this.2 k hk
     ·exact ih (fun y hy => hx y (List.mem_cons_of_mem _ hy)) h
   exact key t.sys (fun _ h => h) hp2
theorem A8x {t : T} {v d : Int} {b : Bool} (hv : A2a v) (hd : 0 ≤ d) (hn : ¬ B6v t v d b) : B6w t v d b = false := Bool.eq_false_iff.mpr fun h => hn ((A4d hv hd).mp h).1
theorem A8w {t : T} {v d : Int} {b : Bool} (hv : A2a v) (hd : 0 ≤ d) {i : Nat} (hi : i < t.kids.length) (hn : D4p t v d b i = false) : B6w t v d b = false := Bool.eq_false_iff.mpr fun h => by
 have h9 := ((A4d hv hd).mp h).2.1 i hi
 rw [hn] at h9; cases h9
theorem A8v {t : T} {v d : Int} {b : Bool} (hv : A2a v) (hd : 0 ≤ d) {i : Nat} (hi : i < t.sys.length) (hn : E0s t v d b (t.sys.getD i br0) = false) : B6w t v d b = false := Bool.eq_false_iff.mpr fun h => by
 have h9 := ((A4d hv hd).mp h).2.2 i hi
 rw [hn] at h9; cases h9
theorem C4u {t : T} {p : Part} (hp : p ∈ parts t) : (∃ i, i < t.kids.length ∧ p = (t.kids.getD i t0, binds t.kind (i : Int))) ∨ ∃ s k, s < t.sys.length ∧ k < (t.sys.getD s br0).kids.length ∧ p = ((t.sys.getD s br0).kids.getD k t0, 0, more t.kind) := by
 unfold parts at hp
 rcases List.mem_append.mp hp with hp | hp
 ·left
  have key : ∀ (ks : List T) (s : Nat), p ∈ A4r t.kind s ks → ∃ i, i < ks.length ∧ p = (ks.getD i t0, binds t.kind ((s + i : Nat) : Int)) := by
   intro ks
   induction ks with
   | nil => intro s h; simp [A4r] at h
   | cons k ks ih =>
    intro s h
    simp only [A4r, List.mem_cons] at h
    rcases h with h | h
    ·exact ⟨0, by simp, by simpa using h⟩
    ·obtain ⟨i, hi, e⟩ := ih (s + 1) h
     exact ⟨i + 1, by simpa using hi, by rw [e]; simp only [List.getD_cons_succ]; rw [show s + 1 + i = s + (i + 1) by omega]⟩
  obtain ⟨i, hi, e⟩ := key t.kids 0 hp
  exact ⟨i, hi, by rw [e]; simp⟩
 ·right
  have key : ∀ (bs : List Br), p ∈ A3g t.kind bs → ∃ s k, s < bs.length ∧ k < (bs.getD s br0).kids.length ∧ p = ((bs.getD s br0).kids.getD k t0, 0, more t.kind) := by
   intro bs
   induction bs with
   | nil => intro h; simp [A3g] at h
   | cons b bs ih =>
    intro h
    simp only [A3g, List.mem_append, List.mem_map] at h
    rcases h with ⟨k, hk, e⟩ | h
    ·obtain ⟨j, hj, e2⟩ := List.mem_iff_getElem.mp hk
     exact ⟨0, j, by simp, by simpa using hj, by rw [← e]; simp only [List.getD_cons_zero]; rw [A5s (d := t0) hj, e2]⟩
    ·obtain ⟨s, k, h1, h2, e⟩ := ih h
     exact ⟨s + 1, k, by simpa using h1, by simpa using h2, by rw [e]; simp⟩
  exact key t.sys hp
theorem D7p {α : Type} (f : α → Nat) (i : Nat) : ∀ (l : List α) (a : Nat), (l.foldl (fun a x => a ||| f x) a).testBit i = true ↔ a.testBit i = true ∨ ∃ x, x ∈ l ∧ (f x).testBit i = true
 | [], a => by simp
 | x :: l, a => by
  rw [List.foldl_cons, D7p f i l, Nat.testBit_or]
  simp only [Bool.or_eq_true, List.mem_cons, exists_eq_or_imp, or_assoc]
end Go.Hy
