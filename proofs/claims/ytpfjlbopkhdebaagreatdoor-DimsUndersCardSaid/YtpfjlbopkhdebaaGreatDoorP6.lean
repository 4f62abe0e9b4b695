/- Contracts of this program's functions and the laws that they need: a separation logic over the machine's rules, one theorem each (partly printed by a program of this repository). -/
import Derived.Test.YtpfjlbopkhdebaaGreatDoorP2
import Derived.Test.YtpfjlbopkhdebaaGreatDoorP3
import Derived.Test.YtpfjlbopkhdebaaGreatDoorP4
set_option linter.unusedVariables false
set_option linter.unusedSimpArgs false
set_option linter.unusedSectionVars false
namespace Go.Hy
open Go.Proofs
theorem lb_ {a b : Nat} (h : a ≤ b := by exact Nat.le_of_ble_eq_true rfl) : a ≤ b := h
theorem sm_ {p q : Prop} (h : p) (e : p = q := by
 try (conv => lhs; simp only [sC, bne_iff_ne, beq_iff_eq, ne_eq])
 try rfl) : q := e ▸ h
class FnAt (P : Program) (f : FuncId) : Prop where
 ex : ∃ fn, P.funcs[f]? = some fn
structure Hold (p : Prop) : Prop where
 out : p
theorem gR_ {P : Program} {f : FuncId} {R : Ending → World → Prop} {B : A6n} {n : Fz} {K : List Item} {σ : Nat → Value} {Γ : List Fact} {Ms : List Res} {id : Nat} {ops : Array Oper} [h9 : FnAt P f] (h : RgT P f R B n K ops (List.range ops.size) σ Γ Ms) : GoT P f R B n (.code (.region id ops false) :: K) σ Γ Ms := go_region h9.ex rfl h
section
variable {p q : Prop}
theorem z0 (k : p) (h : Hold p → q := by intro h; refine F9u ?_; exact h.1) : q := h ⟨k⟩
theorem z1 (k : p) (h : Hold p → q := by intro h; refine F6n ?_; exact h.1) : q := h ⟨k⟩
theorem z2 (k : p) (h : Hold p → q := by intro h; refine q0 rfl (E8k ?_); exact h.1) : q := h ⟨k⟩
theorem z3 (k : p) (h : Hold p → q := by intro h; refine q0 rfl (A2u ?_); exact h.1) : q := h ⟨k⟩
theorem z4 (k : p) (h : Hold p → q := by intro h; refine qF rfl rfl rfl ?_; exact h.1) : q := h ⟨k⟩
theorem z5 (k : p) (h : Hold p → q := by intro h; refine go_skip ?_; exact h.1) : q := h ⟨k⟩
theorem z6 (k : p) (h : Hold p → q := by intro h; refine q0 rfl (E4a ?_); exact h.1) : q := h ⟨k⟩
theorem z7 (k : p) (h : Hold p → q := by intro h; refine E9g ?_; exact h.1) : q := h ⟨k⟩
theorem z8 (k : p) (h : Hold p → q := by intro h; refine q0 rfl (G1x ?_); exact h.1) : q := h ⟨k⟩
theorem z9 (k : p) (h : Hold p → q := by intro h; refine q0 rfl (E0d ?_); exact h.1) : q := h ⟨k⟩
theorem z10 (k : p) (h : Hold p → q := by intro h; refine D9b ?_; exact h.1) : q := h ⟨k⟩
theorem z11 (k : p) (h : Hold p → q := by intro h; refine nF rfl rfl rfl ?_; exact h.1) : q := h ⟨k⟩
theorem z12 (k : p) (h : Hold p → q := by intro h; refine q0 rfl (E3r ?_); exact h.1) : q := h ⟨k⟩
theorem z13 (k : p) (h : Hold p → q := by intro h; refine q0 rfl (G0k ?_); exact h.1) : q := h ⟨k⟩
theorem z14 (k : p) (h : Hold p → q := by intro h; refine q0 rfl (C6l ?_); exact h.1) : q := h ⟨k⟩
theorem z15 (k : p) (h : Hold p → q := by intro h; refine n0 rfl (C7r ?_); exact h.1) : q := h ⟨k⟩
theorem z16 (k : p) (h : Hold p → q := by intro h; refine F4p rfl ?_; exact h.1) : q := h ⟨k⟩
theorem z17 (k : p) (h : Hold p → q := by intro h; refine q0 rfl (E3s ?_); exact h.1) : q := h ⟨k⟩
theorem z18 (k : p) (h : Hold p → q := by intro h; refine q0 rfl (G4t ?_); exact h.1) : q := h ⟨k⟩
theorem z19 (k : p) (h : Hold p → q := by intro h; refine q0 rfl (F7n ?_); exact h.1) : q := h ⟨k⟩
theorem z20 (k : p) (h : Hold p → q := by intro h; refine q0 rfl (D8o ?_); exact h.1) : q := h ⟨k⟩
theorem z21 (k : p) (h : Hold p → q := by intro h; refine q0 rfl (D8n ?_); exact h.1) : q := h ⟨k⟩
theorem z22 (k : p) (h : Hold p → q := by intro h; refine q0 rfl (C2x ?_); exact h.1) : q := h ⟨k⟩
theorem z23 (k : p) (h : Hold p → q := by intro h; refine NV.done ?_; exact h.1) : q := h ⟨k⟩
theorem z24 (k : p) (h : Hold p → q := by intro h; refine qT rfl rfl rfl (A2u ?_); exact h.1) : q := h ⟨k⟩
theorem z25 (k : p) (h : Hold p → q := by intro h; refine n0 rfl (C0f ?_); exact h.1) : q := h ⟨k⟩
theorem z26 (k : p) (h : Hold p → q := by intro h; refine qT rfl rfl rfl (G0k ?_); exact h.1) : q := h ⟨k⟩
theorem z27 (k : p) (h : Hold p → q := by intro h; refine q0 rfl (F7m ?_); exact h.1) : q := h ⟨k⟩
theorem z28 (k : p) (h : Hold p → q := by intro h; refine q0 rfl (G1t ?_); exact h.1) : q := h ⟨k⟩
theorem z29 (k : p) (h : Hold p → q := by intro h; refine n0 rfl (G4g ?_); exact h.1) : q := h ⟨k⟩
theorem z30 (k : p) (h : Hold p → q := by intro h; refine A2u ?_; exact h.1) : q := h ⟨k⟩
theorem z31 (k : p) (h : Hold p → q := by intro h; refine qT rfl rfl rfl (E3r ?_); exact h.1) : q := h ⟨k⟩
theorem z32 (k : p) (h : Hold p → q := by intro h; refine qT rfl rfl rfl (C6l ?_); exact h.1) : q := h ⟨k⟩
theorem z33 (k : p) (h : Hold p → q := by intro h; refine n0 rfl (E0o ?_); exact h.1) : q := h ⟨k⟩
theorem z34 (k : p) (h : Hold p → q := by intro h; refine nT rfl rfl rfl (G4g ?_); exact h.1) : q := h ⟨k⟩
theorem z35 (k : p) (h : Hold p → q := by intro h; refine qT rfl rfl rfl (E3s ?_); exact h.1) : q := h ⟨k⟩
theorem z36 (k : p) (h : Hold p → q := by intro h; refine q0 rfl (G1v ?_); exact h.1) : q := h ⟨k⟩
theorem z37 (k : p) (h : Hold p → q := by intro h; refine q0 rfl (A4o ?_); exact h.1) : q := h ⟨k⟩
theorem z38 (k : p) (h : Hold p → q := by intro h; refine n0 rfl (E0n ?_); exact h.1) : q := h ⟨k⟩
theorem z39 (k : p) (h : Hold p → q := by intro h; refine nT rfl rfl rfl (C7r ?_); exact h.1) : q := h ⟨k⟩
theorem z40 (k : p) (h : Hold p → q := by intro h; refine qT rfl rfl rfl (F7m ?_); exact h.1) : q := h ⟨k⟩
theorem z41 (k : p) (h : Hold p → q := by intro h; refine qT rfl rfl rfl (E0d ?_); exact h.1) : q := h ⟨k⟩
theorem z42 (k : p) (h : Hold p → q := by intro h; refine q0 rfl (D5u ?_); exact h.1) : q := h ⟨k⟩
theorem z43 (k : p) (h : Hold p → q := by intro h; refine n0 rfl (F5v ?_); exact h.1) : q := h ⟨k⟩
theorem z44 (k : p) (h : Hold p → q := by intro h; refine q0 rfl (E3z ?_); exact h.1) : q := h ⟨k⟩
theorem z45 (k : p) (h : Hold p → q := by intro h; refine qT rfl rfl rfl (F7n ?_); exact h.1) : q := h ⟨k⟩
theorem z46 (k : p) (h : Hold p → q := by intro h; refine n0 rfl (E6s ?_); exact h.1) : q := h ⟨k⟩
theorem z47 (k : p) (h : Hold p → q := by intro h; refine q0 rfl (G1u ?_); exact h.1) : q := h ⟨k⟩
theorem z48 (k : p) (h : Hold p → q := by intro h; refine q0 rfl (F3t ?_); exact h.1) : q := h ⟨k⟩
theorem z49 (k : p) (h : Hold p → q := by intro h; refine q0 rfl (G1m ?_); exact h.1) : q := h ⟨k⟩
theorem z50 (k : p) (h : Hold p → q := by intro h; refine q0 rfl (F7r ?_); exact h.1) : q := h ⟨k⟩
theorem z51 (k : p) (h : Hold p → q := by intro h; refine n0 rfl (E0p ?_); exact h.1) : q := h ⟨k⟩
theorem z52 (k : p) (h : Hold p → q := by intro h; refine q0 rfl (F7s ?_); exact h.1) : q := h ⟨k⟩
theorem z53 (k : p) (h : Hold p → q := by intro h; refine qT rfl rfl rfl (F3t ?_); exact h.1) : q := h ⟨k⟩
theorem z54 (k : p) (h : Hold p → q := by intro h; refine nT rfl rfl rfl (E0n ?_); exact h.1) : q := h ⟨k⟩
theorem z55 (k : p) (h : Hold p → q := by intro h; refine nT rfl rfl rfl (E0o ?_); exact h.1) : q := h ⟨k⟩
theorem z56 (k : p) (h : Hold p → q := by intro h; refine nT rfl rfl rfl (C0f ?_); exact h.1) : q := h ⟨k⟩
theorem z57 (k : p) (h : Hold p → q := by intro h; refine n0 rfl (D7i ?_); exact h.1) : q := h ⟨k⟩
theorem z58 (k : p) (h : Hold p → q := by intro h; refine qT rfl rfl rfl (F7s ?_); exact h.1) : q := h ⟨k⟩
theorem z59 (k : p) (h : Hold p → q := by intro h; refine nT rfl rfl rfl (D7h ?_); exact h.1) : q := h ⟨k⟩
theorem z60 (k : p) (h : Hold p → q := by intro h; refine qT rfl rfl rfl (G1s ?_); exact h.1) : q := h ⟨k⟩
theorem z61 (k : p) (h : Hold p → q := by intro h; refine nT rfl rfl rfl (G0s ?_); exact h.1) : q := h ⟨k⟩
theorem z62 (k : p) (h : Hold p → q := by intro h; refine n0 rfl (G0u ?_); exact h.1) : q := h ⟨k⟩
theorem z63 (k : p) (h : Hold p → q := by intro h; refine nT rfl rfl rfl (E6p ?_); exact h.1) : q := h ⟨k⟩
theorem z64 (k : p) (h : Hold p → q := by intro h; refine nT rfl rfl rfl (F5x ?_); exact h.1) : q := h ⟨k⟩
theorem z65 (k : p) (h : Hold p → q := by intro h; refine n0 rfl (D7f ?_); exact h.1) : q := h ⟨k⟩
theorem z66 (k : p) (h : Hold p → q := by intro h; refine n0 rfl (G0r ?_); exact h.1) : q := h ⟨k⟩
theorem z67 (k : p) (h : Hold p → q := by intro h; refine q0 rfl (F7o ?_); exact h.1) : q := h ⟨k⟩
theorem z68 (k : p) (h : Hold p → q := by intro h; refine z0 ?_; refine gR_ ?_; exact h.1) : q := h ⟨k⟩
theorem z69 (k : p) (h : Hold p → q := by intro h; refine z2 ?_; refine z1 ?_; exact h.1) : q := h ⟨k⟩
theorem z70 (k : p) (h : Hold p → q := by intro h; refine z68 ?_; refine z3 ?_; exact h.1) : q := h ⟨k⟩
theorem z71 (k : p) (h : Hold p → q := by intro h; refine z2 ?_; refine z69 ?_; exact h.1) : q := h ⟨k⟩
theorem z72 (k : p) (h : Hold p → q := by intro h; refine z68 ?_; refine z69 ?_; exact h.1) : q := h ⟨k⟩
theorem z73 (k : p) (h : Hold p → q := by intro h; refine gR_ ?_; refine z3 ?_; exact h.1) : q := h ⟨k⟩
theorem z74 (k : p) (h : Hold p → q := by intro h; refine z0 ?_; refine z70 ?_; exact h.1) : q := h ⟨k⟩
theorem z75 (k : p) (h : Hold p → q := by intro h; refine z4 ?_; refine z4 ?_; exact h.1) : q := h ⟨k⟩
theorem z76 (k : p) (h : Hold p → q := by intro h; refine z6 ?_; refine z6 ?_; exact h.1) : q := h ⟨k⟩
theorem z77 (k : p) (h : Hold p → q := by intro h; refine z5 ?_; refine z0 ?_; exact h.1) : q := h ⟨k⟩
theorem z78 (k : p) (h : Hold p → q := by intro h; refine z9 ?_; refine z13 ?_; exact h.1) : q := h ⟨k⟩
theorem z79 (k : p) (h : Hold p → q := by intro h; refine z8 ?_; refine z69 ?_; exact h.1) : q := h ⟨k⟩
theorem z80 (k : p) (h : Hold p → q := by intro h; refine z68 ?_; refine z71 ?_; exact h.1) : q := h ⟨k⟩
theorem z81 (k : p) (h : Hold p → q := by intro h; refine z76 ?_; refine z71 ?_; exact h.1) : q := h ⟨k⟩
theorem z82 (k : p) (h : Hold p → q := by intro h; refine z73 ?_; refine z79 ?_; exact h.1) : q := h ⟨k⟩
theorem z83 (k : p) (h : Hold p → q := by intro h; refine z10 ?_; refine z82 ?_; exact h.1) : q := h ⟨k⟩
theorem z84 (k : p) (h : Hold p → q := by intro h; refine z21 ?_; refine z1 ?_; exact h.1) : q := h ⟨k⟩
theorem z85 (k : p) (h : Hold p → q := by intro h; refine z19 ?_; refine z1 ?_; exact h.1) : q := h ⟨k⟩
theorem z86 (k : p) (h : Hold p → q := by intro h; refine z77 ?_; refine z7 ?_; exact h.1) : q := h ⟨k⟩
theorem z87 (k : p) (h : Hold p → q := by intro h; refine z3 ?_; refine z1 ?_; exact h.1) : q := h ⟨k⟩
theorem z88 (k : p) (h : Hold p → q := by intro h; refine z3 ?_; refine z81 ?_; exact h.1) : q := h ⟨k⟩
theorem z89 (k : p) (h : Hold p → q := by intro h; refine z12 ?_; refine z1 ?_; exact h.1) : q := h ⟨k⟩
theorem z90 (k : p) (h : Hold p → q := by intro h; refine z70 ?_; refine z71 ?_; exact h.1) : q := h ⟨k⟩
theorem z91 (k : p) (h : Hold p → q := by intro h; refine z18 ?_; refine z1 ?_; exact h.1) : q := h ⟨k⟩
theorem z92 (k : p) (h : Hold p → q := by intro h; refine z11 ?_; refine z11 ?_; exact h.1) : q := h ⟨k⟩
theorem z93 (k : p) (h : Hold p → q := by intro h; refine z23 ?_; refine z1 ?_; exact h.1) : q := h ⟨k⟩
theorem z94 (k : p) (h : Hold p → q := by intro h; refine z14 ?_; refine z69 ?_; exact h.1) : q := h ⟨k⟩
theorem z95 (k : p) (h : Hold p → q := by intro h; refine z68 ?_; refine z78 ?_; exact h.1) : q := h ⟨k⟩
theorem z96 (k : p) (h : Hold p → q := by intro h; refine z70 ?_; refine z84 ?_; exact h.1) : q := h ⟨k⟩
theorem z97 (k : p) (h : Hold p → q := by intro h; refine z73 ?_; refine z3 ?_; exact h.1) : q := h ⟨k⟩
theorem z98 (k : p) (h : Hold p → q := by intro h; refine z72 ?_; refine z7 ?_; exact h.1) : q := h ⟨k⟩
theorem z99 (k : p) (h : Hold p → q := by intro h; refine z5 ?_; refine z83 ?_; exact h.1) : q := h ⟨k⟩
theorem z100 (k : p) (h : Hold p → q := by intro h; refine z17 ?_; refine z1 ?_; exact h.1) : q := h ⟨k⟩
theorem z101 (k : p) (h : Hold p → q := by intro h; refine z69 ?_; refine z0 ?_; exact h.1) : q := h ⟨k⟩
theorem z102 (k : p) (h : Hold p → q := by intro h; refine z14 ?_; refine z1 ?_; exact h.1) : q := h ⟨k⟩
theorem z103 (k : p) (h : Hold p → q := by intro h; refine gR_ ?_; refine z8 ?_; exact h.1) : q := h ⟨k⟩
theorem z104 (k : p) (h : Hold p → q := by intro h; refine z103 ?_; refine z87 ?_; exact h.1) : q := h ⟨k⟩
theorem z105 (k : p) (h : Hold p → q := by intro h; refine z10 ?_; refine z104 ?_; exact h.1) : q := h ⟨k⟩
theorem z106 (k : p) (h : Hold p → q := by intro h; refine z68 ?_; refine z94 ?_; exact h.1) : q := h ⟨k⟩
theorem z107 (k : p) (h : Hold p → q := by intro h; refine z70 ?_; refine z3 ?_; exact h.1) : q := h ⟨k⟩
theorem z108 (k : p) (h : Hold p → q := by intro h; refine z25 ?_; refine z29 ?_; exact h.1) : q := h ⟨k⟩
theorem z109 (k : p) (h : Hold p → q := by intro h; refine z20 ?_; refine z85 ?_; exact h.1) : q := h ⟨k⟩
theorem z110 (k : p) (h : Hold p → q := by intro h; refine z12 ?_; refine z3 ?_; exact h.1) : q := h ⟨k⟩
theorem z111 (k : p) (h : Hold p → q := by intro h; refine z18 ?_; refine z69 ?_; exact h.1) : q := h ⟨k⟩
theorem z112 (k : p) (h : Hold p → q := by intro h; refine z74 ?_; refine z102 ?_; exact h.1) : q := h ⟨k⟩
theorem z113 (k : p) (h : Hold p → q := by intro h; refine z68 ?_; refine z22 ?_; exact h.1) : q := h ⟨k⟩
theorem z114 (k : p) (h : Hold p → q := by intro h; refine z12 ?_; refine z69 ?_; exact h.1) : q := h ⟨k⟩
theorem z115 (k : p) (h : Hold p → q := by intro h; refine z17 ?_; refine z69 ?_; exact h.1) : q := h ⟨k⟩
theorem z116 (k : p) (h : Hold p → q := by intro h; refine z0 ?_; refine z98 ?_; exact h.1) : q := h ⟨k⟩
theorem z117 (k : p) (h : Hold p → q := by intro h; refine z75 ?_; refine z4 ?_; exact h.1) : q := h ⟨k⟩
theorem z118 (k : p) (h : Hold p → q := by intro h; refine z68 ?_; refine z85 ?_; exact h.1) : q := h ⟨k⟩
theorem z119 (k : p) (h : Hold p → q := by intro h; refine z118 ?_; refine z0 ?_; exact h.1) : q := h ⟨k⟩
theorem z120 (k : p) (h : Hold p → q := by intro h; refine z20 ?_; refine z87 ?_; exact h.1) : q := h ⟨k⟩
theorem z121 (k : p) (h : Hold p → q := by intro h; refine z27 ?_; refine z1 ?_; exact h.1) : q := h ⟨k⟩
theorem z122 (k : p) (h : Hold p → q := by intro h; refine z74 ?_; refine z84 ?_; exact h.1) : q := h ⟨k⟩
theorem z123 (k : p) (h : Hold p → q := by intro h; refine z0 ?_; refine z0 ?_; exact h.1) : q := h ⟨k⟩
theorem z124 (k : p) (h : Hold p → q := by intro h; refine z120 ?_; refine z7 ?_; exact h.1) : q := h ⟨k⟩
theorem z125 (k : p) (h : Hold p → q := by intro h; refine z74 ?_; refine z3 ?_; exact h.1) : q := h ⟨k⟩
theorem z126 (k : p) (h : Hold p → q := by intro h; refine z15 ?_; refine z15 ?_; exact h.1) : q := h ⟨k⟩
theorem z127 (k : p) (h : Hold p → q := by intro h; refine z75 ?_; refine z75 ?_; exact h.1) : q := h ⟨k⟩
theorem z128 (k : p) (h : Hold p → q := by intro h; refine z9 ?_; refine z28 ?_; exact h.1) : q := h ⟨k⟩
theorem z129 (k : p) (h : Hold p → q := by intro h; refine z17 ?_; refine z3 ?_; exact h.1) : q := h ⟨k⟩
theorem z130 (k : p) (h : Hold p → q := by intro h; refine gR_ ?_; refine z78 ?_; exact h.1) : q := h ⟨k⟩
theorem z131 (k : p) (h : Hold p → q := by intro h; refine z88 ?_; refine z122 ?_; exact h.1) : q := h ⟨k⟩
theorem z132 (k : p) (h : Hold p → q := by intro h; refine z88 ?_; refine z96 ?_; exact h.1) : q := h ⟨k⟩
theorem z133 (k : p) (h : Hold p → q := by intro h; refine z3 ?_; refine z3 ?_; exact h.1) : q := h ⟨k⟩
theorem z134 (k : p) (h : Hold p → q := by intro h; refine z5 ?_; refine z105 ?_; exact h.1) : q := h ⟨k⟩
theorem z135 (k : p) (h : Hold p → q := by intro h; refine z70 ?_; refine z69 ?_; exact h.1) : q := h ⟨k⟩
theorem z136 (k : p) (h : Hold p → q := by intro h; refine z72 ?_; refine z70 ?_; exact h.1) : q := h ⟨k⟩
theorem z137 (k : p) (h : Hold p → q := by intro h; refine z92 ?_; refine z92 ?_; exact h.1) : q := h ⟨k⟩
theorem z138 (k : p) (h : Hold p → q := by intro h; refine z125 ?_; refine z109 ?_; exact h.1) : q := h ⟨k⟩
theorem z139 (k : p) (h : Hold p → q := by intro h; refine z86 ?_; refine z68 ?_; exact h.1) : q := h ⟨k⟩
theorem z140 (k : p) (h : Hold p → q := by intro h; refine z72 ?_; refine z74 ?_; exact h.1) : q := h ⟨k⟩
theorem z141 (k : p) (h : Hold p → q := by intro h; refine z72 ?_; refine z116 ?_; exact h.1) : q := h ⟨k⟩
theorem z142 (k : p) (h : Hold p → q := by intro h; refine z5 ?_; refine z96 ?_; exact h.1) : q := h ⟨k⟩
theorem z143 (k : p) (h : Hold p → q := by intro h; refine z14 ?_; refine z3 ?_; exact h.1) : q := h ⟨k⟩
theorem z144 (k : p) (h : Hold p → q := by intro h; refine z4 ?_; refine z31 ?_; exact h.1) : q := h ⟨k⟩
theorem z145 (k : p) (h : Hold p → q := by intro h; refine z33 ?_; refine z93 ?_; exact h.1) : q := h ⟨k⟩
theorem z146 (k : p) (h : Hold p → q := by intro h; refine z86 ?_; refine z0 ?_; exact h.1) : q := h ⟨k⟩
theorem z147 (k : p) (h : Hold p → q := by intro h; refine E0d ?_; refine z26 ?_; exact h.1) : q := h ⟨k⟩
theorem z148 (k : p) (h : Hold p → q := by intro h; refine z5 ?_; refine z107 ?_; exact h.1) : q := h ⟨k⟩
theorem z149 (k : p) (h : Hold p → q := by intro h; refine z91 ?_; refine z0 ?_; exact h.1) : q := h ⟨k⟩
theorem z150 (k : p) (h : Hold p → q := by intro h; refine z11 ?_; refine z38 ?_; exact h.1) : q := h ⟨k⟩
theorem z151 (k : p) (h : Hold p → q := by intro h; refine z3 ?_; refine z37 ?_; exact h.1) : q := h ⟨k⟩
theorem z152 (k : p) (h : Hold p → q := by intro h; refine z69 ?_; refine z83 ?_; exact h.1) : q := h ⟨k⟩
theorem z153 (k : p) (h : Hold p → q := by intro h; refine z41 ?_; refine z26 ?_; exact h.1) : q := h ⟨k⟩
theorem z154 (k : p) (h : Hold p → q := by intro h; refine z69 ?_; refine z105 ?_; exact h.1) : q := h ⟨k⟩
theorem z155 (k : p) (h : Hold p → q := by intro h; refine z5 ?_; refine z70 ?_; exact h.1) : q := h ⟨k⟩
theorem z156 (k : p) (h : Hold p → q := by intro h; refine z32 ?_; refine z35 ?_; exact h.1) : q := h ⟨k⟩
theorem z157 (k : p) (h : Hold p → q := by intro h; refine z16 ?_; refine z0 ?_; exact h.1) : q := h ⟨k⟩
theorem z158 (k : p) (h : Hold p → q := by intro h; refine z46 ?_; refine z93 ?_; exact h.1) : q := h ⟨k⟩
theorem z159 (k : p) (h : Hold p → q := by intro h; refine z3 ?_; refine z111 ?_; exact h.1) : q := h ⟨k⟩
theorem z160 (k : p) (h : Hold p → q := by intro h; refine z5 ?_; refine z68 ?_; exact h.1) : q := h ⟨k⟩
theorem z161 (k : p) (h : Hold p → q := by intro h; refine z80 ?_; refine z74 ?_; exact h.1) : q := h ⟨k⟩
theorem z162 (k : p) (h : Hold p → q := by intro h; refine z16 ?_; refine z72 ?_; exact h.1) : q := h ⟨k⟩
theorem z163 (k : p) (h : Hold p → q := by intro h; refine z5 ?_; refine z10 ?_; exact h.1) : q := h ⟨k⟩
theorem z164 (k : p) (h : Hold p → q := by intro h; refine z4 ?_; refine z100 ?_; exact h.1) : q := h ⟨k⟩
theorem z165 (k : p) (h : Hold p → q := by intro h; refine z3 ?_; refine z76 ?_; exact h.1) : q := h ⟨k⟩
theorem z166 (k : p) (h : Hold p → q := by intro h; refine z9 ?_; refine z50 ?_; exact h.1) : q := h ⟨k⟩
theorem z167 (k : p) (h : Hold p → q := by intro h; refine z5 ?_; refine z74 ?_; exact h.1) : q := h ⟨k⟩
theorem z168 (k : p) (h : Hold p → q := by intro h; refine z75 ?_; refine z89 ?_; exact h.1) : q := h ⟨k⟩
theorem z169 (k : p) (h : Hold p → q := by intro h; refine z75 ?_; refine z115 ?_; exact h.1) : q := h ⟨k⟩
theorem z170 (k : p) (h : Hold p → q := by intro h; refine z33 ?_; refine z15 ?_; exact h.1) : q := h ⟨k⟩
theorem z171 (k : p) (h : Hold p → q := by intro h; refine z140 ?_; refine z124 ?_; exact h.1) : q := h ⟨k⟩
theorem z172 (k : p) (h : Hold p → q := by intro h; refine z80 ?_; refine z123 ?_; exact h.1) : q := h ⟨k⟩
theorem z173 (k : p) (h : Hold p → q := by intro h; refine z95 ?_; refine z3 ?_; exact h.1) : q := h ⟨k⟩
theorem z174 (k : p) (h : Hold p → q := by intro h; refine z144 ?_; refine z89 ?_; exact h.1) : q := h ⟨k⟩
theorem z175 (k : p) (h : Hold p → q := by intro h; refine z49 ?_; refine z1 ?_; exact h.1) : q := h ⟨k⟩
theorem z176 (k : p) (h : Hold p → q := by intro h; refine z27 ?_; refine z3 ?_; exact h.1) : q := h ⟨k⟩
theorem z177 (k : p) (h : Hold p → q := by intro h; refine z101 ?_; refine z0 ?_; exact h.1) : q := h ⟨k⟩
theorem z178 (k : p) (h : Hold p → q := by intro h; refine z150 ?_; refine z93 ?_; exact h.1) : q := h ⟨k⟩
theorem z179 (k : p) (h : Hold p → q := by intro h; refine z75 ?_; refine z110 ?_; exact h.1) : q := h ⟨k⟩
theorem z180 (k : p) (h : Hold p → q := by intro h; refine z108 ?_; refine z15 ?_; exact h.1) : q := h ⟨k⟩
theorem z181 (k : p) (h : Hold p → q := by intro h; refine z74 ?_; refine z78 ?_; exact h.1) : q := h ⟨k⟩
theorem z182 (k : p) (h : Hold p → q := by intro h; refine z5 ?_; refine z112 ?_; exact h.1) : q := h ⟨k⟩
theorem z183 (k : p) (h : Hold p → q := by intro h; refine z5 ?_; refine z16 ?_; exact h.1) : q := h ⟨k⟩
theorem z184 (k : p) (h : Hold p → q := by intro h; refine z183 ?_; refine z80 ?_; exact h.1) : q := h ⟨k⟩
theorem z185 (k : p) (h : Hold p → q := by intro h; refine gR_ ?_; refine z94 ?_; exact h.1) : q := h ⟨k⟩
theorem z186 (k : p) (h : Hold p → q := by intro h; refine z4 ?_; refine z89 ?_; exact h.1) : q := h ⟨k⟩
theorem z187 (k : p) (h : Hold p → q := by intro h; refine z68 ?_; refine z13 ?_; exact h.1) : q := h ⟨k⟩
theorem z188 (k : p) (h : Hold p → q := by intro h; refine z40 ?_; refine z100 ?_; exact h.1) : q := h ⟨k⟩
theorem z189 (k : p) (h : Hold p → q := by intro h; refine z69 ?_; refine z96 ?_; exact h.1) : q := h ⟨k⟩
theorem z190 (k : p) (h : Hold p → q := by intro h; refine z16 ?_; refine z135 ?_; exact h.1) : q := h ⟨k⟩
theorem z191 (k : p) (h : Hold p → q := by intro h; refine z72 ?_; refine z0 ?_; exact h.1) : q := h ⟨k⟩
theorem z192 (k : p) (h : Hold p → q := by intro h; refine z86 ?_; refine z107 ?_; exact h.1) : q := h ⟨k⟩
theorem z193 (k : p) (h : Hold p → q := by intro h; refine z19 ?_; refine z3 ?_; exact h.1) : q := h ⟨k⟩
end
instance : FnAt Tryz.prog 5 := ⟨_, Tryz.func5⟩
instance : FnAt Tryz.prog 21 := ⟨_, Tryz.func21⟩
instance : FnAt Tryz.prog 22 := ⟨_, Tryz.func22⟩
instance : FnAt Tryz.prog 23 := ⟨_, Tryz.func23⟩
instance : FnAt Tryz.prog 24 := ⟨_, Tryz.func24⟩
instance : FnAt Tryz.prog 25 := ⟨_, Tryz.func25⟩
instance : FnAt Tryz.prog 27 := ⟨_, Tryz.func27⟩
instance : FnAt Tryz.prog 29 := ⟨_, Tryz.func29⟩
instance : FnAt Tryz.prog 30 := ⟨_, Tryz.func30⟩
instance : FnAt Tryz.prog 31 := ⟨_, Tryz.func31⟩
instance : FnAt Tryz.prog 32 := ⟨_, Tryz.func32⟩
instance : FnAt Tryz.prog 33 := ⟨_, Tryz.func33⟩
instance : FnAt Tryz.prog 34 := ⟨_, Tryz.func34⟩
instance : FnAt Tryz.prog 41 := ⟨_, Tryz.func41⟩
instance : FnAt Tryz.prog 43 := ⟨_, Tryz.func43⟩
instance : FnAt Tryz.prog 60 := ⟨_, Tryz.func60⟩
instance : FnAt Tryz.prog 64 := ⟨_, Tryz.func64⟩
instance : FnAt Tryz.prog 68 := ⟨_, Tryz.func68⟩
instance : FnAt Tryz.prog 69 := ⟨_, Tryz.func69⟩
instance : FnAt Tryz.prog 70 := ⟨_, Tryz.func70⟩
instance : FnAt Tryz.prog 71 := ⟨_, Tryz.func71⟩
instance : FnAt Tryz.prog 73 := ⟨_, Tryz.func73⟩
instance : FnAt Tryz.prog 74 := ⟨_, Tryz.func74⟩
instance : FnAt Tryz.prog 75 := ⟨_, Tryz.func75⟩
instance : FnAt Tryz.prog 77 := ⟨_, Tryz.func77⟩
instance : FnAt Tryz.prog 78 := ⟨_, Tryz.func78⟩
instance : FnAt Tryz.prog 79 := ⟨_, Tryz.func79⟩
instance : FnAt Tryz.prog 80 := ⟨_, Tryz.func80⟩
instance : FnAt Tryz.prog 82 := ⟨_, Tryz.func82⟩
instance : FnAt Tryz.prog 83 := ⟨_, Tryz.func83⟩
instance : FnAt Tryz.prog 84 := ⟨_, Tryz.func84⟩
instance : FnAt Tryz.prog 85 := ⟨_, Tryz.func85⟩
instance : FnAt Tryz.prog 86 := ⟨_, Tryz.func86⟩
instance : FnAt Tryz.prog 87 := ⟨_, Tryz.func87⟩
instance : FnAt Tryz.prog 88 := ⟨_, Tryz.func88⟩
instance : FnAt Tryz.prog 90 := ⟨_, Tryz.func90⟩
instance : FnAt Tryz.prog 91 := ⟨_, Tryz.func91⟩
instance : FnAt Tryz.prog 93 := ⟨_, Tryz.func93⟩
instance : FnAt Tryz.prog 97 := ⟨_, Tryz.func97⟩
instance : FnAt Tryz.prog 98 := ⟨_, Tryz.func98⟩
instance : FnAt Tryz.prog 100 := ⟨_, Tryz.func100⟩
instance : FnAt Tryz.prog 101 := ⟨_, Tryz.func101⟩
instance : FnAt Tryz.prog 102 := ⟨_, Tryz.func102⟩
instance : FnAt Tryz.prog 106 := ⟨_, Tryz.func106⟩
instance : FnAt Tryz.prog 107 := ⟨_, Tryz.func107⟩
instance : FnAt Tryz.prog 108 := ⟨_, Tryz.func108⟩
instance : FnAt Tryz.prog 109 := ⟨_, Tryz.func109⟩
instance : FnAt Tryz.prog 116 := ⟨_, Tryz.func116⟩
instance : FnAt Tryz.prog 121 := ⟨_, Tryz.func121⟩
instance : FnAt Tryz.prog 133 := ⟨_, Tryz.func133⟩
instance : FnAt Tryz.prog 134 := ⟨_, Tryz.func134⟩
instance : FnAt Tryz.prog 135 := ⟨_, Tryz.func135⟩
instance : FnAt Tryz.prog 136 := ⟨_, Tryz.func136⟩
instance : FnAt Tryz.prog 137 := ⟨_, Tryz.func137⟩
instance : FnAt Tryz.prog 138 := ⟨_, Tryz.func138⟩
instance : FnAt Tryz.prog 139 := ⟨_, Tryz.func139⟩
instance : FnAt Tryz.prog 140 := ⟨_, Tryz.func140⟩
instance : FnAt Tryz.prog 141 := ⟨_, Tryz.func141⟩
instance : FnAt Tryz.prog 142 := ⟨_, Tryz.func142⟩
instance : FnAt Tryz.prog 143 := ⟨_, Tryz.func143⟩
instance : FnAt Tryz.prog 144 := ⟨_, Tryz.func144⟩
instance : FnAt Tryz.prog 145 := ⟨_, Tryz.func145⟩
instance : FnAt Tryz.prog 146 := ⟨_, Tryz.func146⟩
instance : FnAt Tryz.prog 147 := ⟨_, Tryz.func147⟩
instance : FnAt Tryz.prog 148 := ⟨_, Tryz.func148⟩
instance : FnAt Tryz.prog 149 := ⟨_, Tryz.func149⟩
instance : FnAt Tryz.prog 150 := ⟨_, Tryz.func150⟩
instance : FnAt Tryz.prog 151 := ⟨_, Tryz.func151⟩
instance : FnAt Tryz.prog 152 := ⟨_, Tryz.func152⟩
instance : FnAt Tryz.prog 153 := ⟨_, Tryz.func153⟩
instance : FnAt Tryz.prog 154 := ⟨_, Tryz.func154⟩
instance : FnAt Tryz.prog 155 := ⟨_, Tryz.func155⟩
instance : FnAt Tryz.prog 157 := ⟨_, Tryz.func157⟩
instance : FnAt Tryz.prog 158 := ⟨_, Tryz.func158⟩
instance : FnAt Tryz.prog 159 := ⟨_, Tryz.func159⟩
instance : FnAt Tryz.prog 160 := ⟨_, Tryz.func160⟩
instance : FnAt Tryz.prog 161 := ⟨_, Tryz.func161⟩
instance : FnAt Tryz.prog 162 := ⟨_, Tryz.func162⟩
instance : FnAt Tryz.prog 163 := ⟨_, Tryz.func163⟩
instance : FnAt Tryz.prog 164 := ⟨_, Tryz.func164⟩
instance : FnAt Tryz.prog 165 := ⟨_, Tryz.func165⟩
instance : FnAt Tryz.prog 166 := ⟨_, Tryz.func166⟩
instance : FnAt Tryz.prog 167 := ⟨_, Tryz.func167⟩
instance : FnAt Tryz.prog 168 := ⟨_, Tryz.func168⟩
instance : FnAt Tryz.prog 169 := ⟨_, Tryz.func169⟩
instance : FnAt Tryz.prog 172 := ⟨_, Tryz.func172⟩
instance : FnAt Tryz.prog 173 := ⟨_, Tryz.func173⟩
instance : FnAt Tryz.prog 175 := ⟨_, Tryz.func175⟩
instance : FnAt Tryz.prog 176 := ⟨_, Tryz.func176⟩
instance : FnAt Tryz.prog 177 := ⟨_, Tryz.func177⟩
instance : FnAt Tryz.prog 178 := ⟨_, Tryz.func178⟩
instance : FnAt Tryz.prog 181 := ⟨_, Tryz.func181⟩
instance : FnAt Tryz.prog 187 := ⟨_, Tryz.func187⟩
instance : FnAt Tryz.prog 189 := ⟨_, Tryz.func189⟩
instance : FnAt Tryz.prog 193 := ⟨_, Tryz.func193⟩
instance : FnAt Tryz.prog 194 := ⟨_, Tryz.func194⟩
instance : FnAt Tryz.prog 195 := ⟨_, Tryz.func195⟩
instance : FnAt Tryz.prog 196 := ⟨_, Tryz.func196⟩
instance : FnAt Tryz.prog 197 := ⟨_, Tryz.func197⟩
instance : FnAt Tryz.prog 198 := ⟨_, Tryz.func198⟩
instance : FnAt Tryz.prog 199 := ⟨_, Tryz.func199⟩
instance : FnAt Tryz.prog 200 := ⟨_, Tryz.func200⟩
instance : FnAt Tryz.prog 201 := ⟨_, Tryz.func201⟩
instance : FnAt Tryz.prog 202 := ⟨_, Tryz.func202⟩
instance : FnAt Tryz.prog 203 := ⟨_, Tryz.func203⟩
instance : FnAt Tryz.prog 205 := ⟨_, Tryz.func205⟩
instance : FnAt Tryz.prog 206 := ⟨_, Tryz.func206⟩
instance : FnAt Tryz.prog 207 := ⟨_, Tryz.func207⟩
instance : FnAt Tryz.prog 210 := ⟨_, Tryz.func210⟩
instance : FnAt Tryz.prog 211 := ⟨_, Tryz.func211⟩
instance : FnAt Tryz.prog 212 := ⟨_, Tryz.func212⟩
instance : FnAt Tryz.prog 213 := ⟨_, Tryz.func213⟩
instance : FnAt Tryz.prog 214 := ⟨_, Tryz.func214⟩
instance : FnAt Tryz.prog 215 := ⟨_, Tryz.func215⟩
instance : FnAt Tryz.prog 216 := ⟨_, Tryz.func216⟩
instance : FnAt Tryz.prog 217 := ⟨_, Tryz.func217⟩
instance : FnAt Tryz.prog 218 := ⟨_, Tryz.func218⟩
instance : FnAt Tryz.prog 219 := ⟨_, Tryz.func219⟩
instance : FnAt Tryz.prog 220 := ⟨_, Tryz.func220⟩
instance : FnAt Tryz.prog 225 := ⟨_, Tryz.func225⟩
instance : FnAt Tryz.prog 226 := ⟨_, Tryz.func226⟩
instance : FnAt Tryz.prog 227 := ⟨_, Tryz.func227⟩
instance : FnAt Tryz.prog 228 := ⟨_, Tryz.func228⟩
instance : FnAt Tryz.prog 229 := ⟨_, Tryz.func229⟩
instance : FnAt Tryz.prog 230 := ⟨_, Tryz.func230⟩
instance : FnAt Tryz.prog 231 := ⟨_, Tryz.func231⟩
instance : FnAt Tryz.prog 232 := ⟨_, Tryz.func232⟩
instance : FnAt Tryz.prog 233 := ⟨_, Tryz.func233⟩
instance : FnAt Tryz.prog 234 := ⟨_, Tryz.func234⟩
instance : FnAt Tryz.prog 236 := ⟨_, Tryz.func236⟩
instance : FnAt Tryz.prog 248 := ⟨_, Tryz.func248⟩
instance : FnAt Tryz.prog 249 := ⟨_, Tryz.func249⟩
instance : FnAt Tryz.prog 250 := ⟨_, Tryz.func250⟩
instance : FnAt Tryz.prog 251 := ⟨_, Tryz.func251⟩
instance : FnAt Tryz.prog 252 := ⟨_, Tryz.func252⟩
instance : FnAt Tryz.prog 253 := ⟨_, Tryz.func253⟩
instance : FnAt Tryz.prog 254 := ⟨_, Tryz.func254⟩
instance : FnAt Tryz.prog 255 := ⟨_, Tryz.func255⟩
instance : FnAt Tryz.prog 256 := ⟨_, Tryz.func256⟩
instance : FnAt Tryz.prog 262 := ⟨_, Tryz.func262⟩
instance : FnAt Tryz.prog 263 := ⟨_, Tryz.func263⟩
instance : FnAt Tryz.prog 265 := ⟨_, Tryz.func265⟩
instance : FnAt Tryz.prog 266 := ⟨_, Tryz.func266⟩
end Go.Hy
namespace Go.Hy
open Go.Proofs
set_option maxRecDepth 100000
/-- What a kid binds. -/
theorem C5f (k i : Int) : Spec Tryz.prog 147 #[.int .i64 k, .int .i64 i] [] [] (fun _ : Unit => .tuple #[.int .i64 (binds k i).1, .int .i64 (binds k i).2]) (fun _ => []) (fun _ => []) := by
 refine A0e (args := [.int .i64 k, .int .i64 i]) Tryz.func147 Tryz.ntmps147 rfl lb_ fun B hB => ?_
 refine z161 ?_; refine z1 ?_; refine z7 ?_; refine z0 ?_; refine z7 ?_; refine z0 ?_; refine z7 ?_; refine z7 ?_; refine z7 ?_; refine z0 ?_; refine z7 ?_; refine z123 ?_; refine z0 ?_; refine z106 ?_; refine A0a (fun h7 => ?_) (fun h7 => ?_)
 ·refine z5 ?_; refine A1d ?_; refine z16 ?_; refine z112 ?_; refine A0a (fun h21 => ?_) (fun h21 => ?_)
  ·refine z80 ?_; refine A1x Tryz.func147 Tryz.results147 wn_ wn_ () (by simp_all [binds]) (fun w hs => hs.none)
  ·refine z184 ?_; refine A1x Tryz.func147 Tryz.results147 wn_ wn_ () (by simp_all [binds]) (fun w hs => hs.none)
 ·refine z185 ?_; refine A0a (fun h7 => ?_) (fun h7 => ?_)
  ·refine z16 ?_; refine z112 ?_; refine A0a (fun h21 => ?_) (fun h21 => ?_)
   ·refine z80 ?_; refine A1x Tryz.func147 Tryz.results147 wn_ wn_ () (by simp_all [binds]) (fun w hs => hs.none)
   ·refine z184 ?_; refine A1x Tryz.func147 Tryz.results147 wn_ wn_ () (by simp_all [binds]) (fun w hs => hs.none)
  ·refine z77 ?_; refine z106 ?_; refine A0a (fun h10 => ?_) (fun h10 => ?_)
   ·refine z16 ?_; refine z10 ?_; refine z10 ?_; refine z112 ?_; refine A0a (fun h23 => ?_) (fun h23 => ?_)
    ·refine z80 ?_; refine A1x Tryz.func147 Tryz.results147 wn_ wn_ () (by simp_all [binds]) (fun w hs => hs.none)
    ·refine z184 ?_; refine A1x Tryz.func147 Tryz.results147 wn_ wn_ () (by simp_all [binds]) (fun w hs => hs.none)
   ·refine z77 ?_; refine z106 ?_; refine A0a (fun h12 => ?_) (fun h12 => ?_)
    ·refine z16 ?_; refine z10 ?_; refine z112 ?_; refine A0a (fun h23 => ?_) (fun h23 => ?_)
     ·refine z80 ?_; refine A1x Tryz.func147 Tryz.results147 wn_ wn_ () (by simp_all [binds]) (fun w hs => hs.none)
     ·refine z184 ?_; refine A1x Tryz.func147 Tryz.results147 wn_ wn_ () (by simp_all [binds]) (fun w hs => hs.none)
    ·refine z77 ?_; refine z106 ?_; refine A0a (fun h14 => ?_) (fun h14 => ?_)
     ·refine z16 ?_; refine z112 ?_; refine A0a (fun h23 => ?_) (fun h23 => ?_)
      ·refine z80 ?_; refine A1x Tryz.func147 Tryz.results147 wn_ wn_ () (by simp_all [binds]) (fun w hs => hs.none)
      ·refine z184 ?_; refine A1x Tryz.func147 Tryz.results147 wn_ wn_ () (by simp_all [binds]) (fun w hs => hs.none)
     ·refine z77 ?_; refine z106 ?_; refine A0a (fun h16 => ?_) (fun h16 => ?_)
      ·refine z5 ?_; refine A1d ?_; refine z16 ?_; refine z112 ?_; refine A0a (fun h25 => ?_) (fun h25 => ?_)
       ·refine z80 ?_; refine A1x Tryz.func147 Tryz.results147 wn_ wn_ () (by simp_all [binds]) (fun w hs => hs.none)
       ·refine z184 ?_; refine A1x Tryz.func147 Tryz.results147 wn_ wn_ () (by simp_all [binds]) (fun w hs => hs.none)
      ·refine z106 ?_; refine A0a (fun h16 => ?_) (fun h16 => ?_)
       ·refine z5 ?_; refine A1d ?_; refine z16 ?_; refine z112 ?_; refine A0a (fun h25 => ?_) (fun h25 => ?_)
        ·refine z80 ?_; refine A1x Tryz.func147 Tryz.results147 wn_ wn_ () (by simp_all [binds]) (fun w hs => hs.none)
        ·refine z184 ?_; refine A1x Tryz.func147 Tryz.results147 wn_ wn_ () (by simp_all [binds]) (fun w hs => hs.none)
       ·refine z185 ?_; refine A0a (fun h16 => ?_) (fun h16 => ?_)
        ·refine z16 ?_; refine z112 ?_; refine A0a (fun h25 => ?_) (fun h25 => ?_)
         ·refine z80 ?_; refine A1x Tryz.func147 Tryz.results147 wn_ wn_ () (by simp_all [binds]) (fun w hs => hs.none)
         ·refine z184 ?_; refine A1x Tryz.func147 Tryz.results147 wn_ wn_ () (by simp_all [binds]) (fun w hs => hs.none)
        ·refine z184 ?_; refine A1x Tryz.func147 Tryz.results147 wn_ wn_ () (by simp_all [binds]) (fun w hs => hs.none)
theorem D0w (t : T) (vr vk vs : SH) (c : FuncId) (cap : List Value) (FΓ : List Fact) (SM SF : Nat → List Res) (β : Nat → Bool)
  (hc : ∀ (args : Array Value) (w : World), (callFunc c args).run Tryz.prog w = .ok (.enter c args) w)
  (hcl : ∀ m k v d, (parts t)[m]? = some (k, v, d) → (∀ j, j < m → β j = true) → ∀ vr vk vs, Spec Tryz.prog c (.agg (tc k vr vk vs).toArray :: .int .i64 v :: .int .i64 d :: cap).toArray (RT k vr vk vs :: FΓ) (SM m) (fun _ : Unit => .bool (β m)) (fun _ => []) (fun _ => if β m then SM (m + 1) else SF m)) :
  Spec Tryz.prog 98 #[.agg (tc t vr vk vs).toArray, .func (.func c) #[] cap.toArray] (RT t vr vk vs :: FΓ) (SM 0) (fun _ : Unit => .bool (ff β (parts t).length == (parts t).length)) (fun _ => []) (fun _ => if ff β (parts t).length = (parts t).length then SM (parts t).length else SF (ff β (parts t).length)) := by
 refine A0e (args := [.agg (tc t vr vk vs).toArray, .func (.func c) #[] cap.toArray]) Tryz.func98 Tryz.ntmps98 rfl lb_ fun B hB => ?_
 refine go_open (fun hk hn hnm => ?_); refine A1m (ts := t.kids) (fun VR VK VS hl1 hA1 => ?_); refine A3n (bs := t.sys) (fun VF VK2 hl2 hA2 => ?_); have hpl := B3g t; refine z68 ?_; refine q0 rfl (A2c fun b2 => ?_); refine z101 ?_; refine z95 ?_; refine z124 ?_; refine A3z (X := Nat) (fun i => i ≤ t.kids.length ∧ ∀ j, j < i → β j = true) (fun i => [(1, .func (.func c) #[] cap.toArray), (2, .pointer (some ⟨b2, 0, none⟩)), (15, sl vk t.kids.length), (16, .int .i64 (t.kids.length : Int)), (17, .int .i64 (i : Int))]) (fun i => TLx t.kids vk VR VK VS :: BLx t.sys vs VF VK2 :: RT t vr vk vs :: FΓ) (fun i => A1t b2 (tc t vr vk vs) 35 :: SM i) (fun i => t.kids.length - i) (0) (⟨Nat.zero_le _, fun j hj => by omega⟩) (by exact ⟨rfl, rfl, rfl, rfl, rfl, trivial⟩) ?_ ?_
 ·exact fun w hs => hs.less (by simp +contextual)
 ·intro i base0 ⟨hi, hβ⟩ next0; refine z119 ?_; refine A0a (fun h18 => ?_) (fun h18 => ?_)
  ·have hlt : i < t.kids.length := by have := of_decide_eq_true h18; omega
   obtain ⟨bk, o, hav⟩ := hA1 (by omega); refine z86 ?_; refine z70 ?_; refine z37 ?_; refine z47 ?_; refine q0 rfl (A2s fun b6 => ?_); refine z2 ?_; refine z149 ?_; refine A8q i hlt ?_; refine gR_ ?_; have hpk := A6x t i hlt; refine z78 ?_; refine z3 ?_; refine q0 rfl (A0c Tryz.call147 (C5f t.kind i) (fun x26 => ?_)); refine z88 ?_; refine z70 ?_; refine z22 ?_; refine z133 ?_; refine q0 rfl (A6j hc (hcl i _ _ _ hpk hβ _ _ _) (fun x33 => ?_)); refine z121 ?_; refine A0a (fun h34 => ?_) (fun h34 => ?_)
   ·have hβf : β i = false := by simpa using h34
    refine z72 ?_; have hff := D3w hβf hβ (n := (parts t).length) (by omega); refine A1r Tryz.func98 Tryz.results98 wn_ () (by simp [hff]; omega) (fun w hs => by rw [hff, if_neg (by omega)]; simp only [hβf, Bool.false_eq_true, if_false] at hs; exact (hs.less (by simp)).A2x)
   ·refine z134 ?_; have hβt : β i = true := by simpa using h34
    refine A0b (fun w hs => ?_) (next0 (i + 1) _ ⟨hlt, fun j hj => (by rcases Nat.lt_succ_iff_lt_or_eq.mp hj with h | h; exact hβ j h; subst h; exact hβt)⟩ (by omega) ⟨rfl, rfl, rfl, rfl, rfl, trivial⟩); simp only [hβt, if_true] at hs; exact ((hs.less (by simp +contextual)).perm List.perm_append_comm).drop
  ·have hge : i = t.kids.length := by have := of_decide_eq_false h18; omega
   refine z162 ?_; refine z0 ?_; refine z95 ?_; refine z102 ?_; refine A0z ([(1, .func (.func c) #[] cap.toArray), (2, .pointer (some ⟨b2, 0, none⟩)), (9, .int .i64 (more t.kind))]) (fun hK => ?_) (fun base => ?_)
   ·refine A0a (fun h38 => ?_) (fun h38 => ?_)
    ·refine gR_ ?_; refine z69 ?_; exact hK _ ⟨rfl, rfl, by first | (rw [more, if_pos (of_decide_eq_true h38)]; rfl) | (rw [more, if_neg (of_decide_eq_false h38)]; rfl), trivial⟩
    ·refine z5 ?_; exact hK _ ⟨rfl, rfl, by first | (rw [more, if_pos (of_decide_eq_true h38)]; rfl) | (rw [more, if_neg (of_decide_eq_false h38)]; rfl), trivial⟩
   ·refine z0 ?_; refine z95 ?_; refine z124 ?_; refine A3z (X := Nat) (fun i2 => i2 ≤ t.sys.length ∧ ∀ j, j < t.kids.length + A1j i2 t.sys → β j = true) (fun i2 => [(1, .func (.func c) #[] cap.toArray), (9, .int .i64 (more t.kind)), (40, sl vs t.sys.length), (41, .int .i64 (t.sys.length : Int)), (42, .int .i64 (i2 : Int))]) (fun i2 => BLx t.sys vs VF VK2 :: FΓ) (fun i2 => SM (t.kids.length + A1j i2 t.sys)) (fun i2 => t.sys.length - i2) (0) (⟨Nat.zero_le _, fun j hj => hβ j (by simp [A1j] at hj; omega)⟩) (by exact ⟨rfl, rfl, rfl, rfl, rfl, trivial⟩) ?_ ?_
    ·exact fun w hs => (by simpa [A1j, show i = t.kids.length by omega] using (hs.drop.less (Γ' := BLx t.sys vs VF VK2 :: FΓ) (by simp +contextual)))
    ·intro i2 base1 ⟨hi2, hβ2⟩ next1; refine z119 ?_; refine A0a (fun h43 => ?_) (fun h43 => ?_)
     ·have hlt2 : i2 < t.sys.length := by have := of_decide_eq_true h43; omega
      obtain ⟨bk2, o2, hav2⟩ := hA2 (by omega); refine z139 ?_; refine z37 ?_; refine q0 rfl (E3x ?_); refine q0 rfl (A2s fun b11 => ?_); refine z91 ?_; refine z95 ?_; refine z124 ?_; refine A6b i2 (by omega) ?_; refine A1m (ts := (t.sys.getD i2 br0).kids) (fun VR3 VK3 VS3 hl3 hA3 => ?_); refine A3z (X := Nat) (fun j => j ≤ (t.sys.getD i2 br0).kids.length ∧ ∀ m, m < t.kids.length + A1j i2 t.sys + j → β m = true) (fun j => [(1, .func (.func c) #[] cap.toArray), (9, .int .i64 (more t.kind)), (40, sl vs t.sys.length), (41, .int .i64 (t.sys.length : Int)), (42, .int .i64 ((i2 : Nat) : Int)), (47, sl (VK2 i2) (t.sys.getD i2 br0).kids.length), (48, .int .i64 ((t.sys.getD i2 br0).kids.length : Int)), (49, .int .i64 (j : Int))]) (fun j => TLx (t.sys.getD i2 br0).kids (VK2 i2) VR3 VK3 VS3 :: BLx t.sys vs VF VK2 :: FΓ) (fun j => SM (t.kids.length + A1j i2 t.sys + j)) (fun j => (t.sys.getD i2 br0).kids.length - j) (0) (⟨Nat.zero_le _, hβ2⟩) (by exact ⟨rfl, rfl, rfl, rfl, rfl, rfl, rfl, rfl, trivial⟩) ?_ ?_
      ·exact fun w hs => (hs.less (by simp +contextual)).drop
      ·intro j base2 ⟨hj, hβ3⟩ next2; refine z119 ?_; refine A0a (fun h50 => ?_) (fun h50 => ?_)
       ·have hlt3 : j < (t.sys.getD i2 br0).kids.length := by have := of_decide_eq_true h50; omega
        obtain ⟨bk3, o3, hav3⟩ := hA3 (by omega); have hps := A7l t i2 j hlt2 hlt3; refine A8q j hlt3 ?_; refine z139 ?_; refine z37 ?_; refine z47 ?_; refine q0 rfl (A2s fun b13 => ?_); refine z91 ?_; refine z70 ?_; refine z22 ?_; refine z3 ?_; refine q0 rfl (A6j hc (hcl _ _ _ _ hps hβ3 _ _ _) (fun x56 => ?_)); refine z121 ?_; refine A0a (fun h57 => ?_) (fun h57 => ?_)
        ·have hβf : β (t.kids.length + A1j i2 t.sys + j) = false := by simpa using h57
         refine z72 ?_; have hbd := C8e hlt2 hlt3; have hff := D3w hβf hβ3 (n := (parts t).length) (by omega); refine A1r Tryz.func98 Tryz.results98 wn_ () (by simp [hff]; omega) (fun w hs => by rw [hff, if_neg (by omega)]; simp only [hβf, Bool.false_eq_true, if_false] at hs; exact (hs.less (by simp)).A2x)
        ·refine z134 ?_; have hβt : β (t.kids.length + A1j i2 t.sys + j) = true := by simpa using h57
         refine A0b (fun w hs => ?_) (next2 (j + 1) _ ⟨hlt3, fun j2 hj2 => (by rcases Nat.lt_succ_iff_lt_or_eq.mp hj2 with h | h; exact hβ3 j2 h; subst h; exact hβt)⟩ (by omega) ⟨rfl, rfl, rfl, rfl, rfl, rfl, rfl, rfl, trivial⟩); simp only [hβt, if_true] at hs; exact (hs.less (by simp +contextual)).A2x
       ·have hge3 : j = (t.sys.getD i2 br0).kids.length := by have := of_decide_eq_false h50; omega
        refine z16 ?_; refine z105 ?_; refine A0b (fun w hs => ?_) (next1 (i2 + 1) _ ⟨hlt2, by rw [A7j i2 t.sys hlt2]; rw [hge3] at hβ3; simpa [Nat.add_assoc] using hβ3⟩ (by omega) ⟨rfl, rfl, rfl, rfl, rfl, trivial⟩); rw [hge3] at hs; simp only [A7j i2 t.sys hlt2, ← Nat.add_assoc]; exact hs.less (by simp +contextual)
     ·refine z162 ?_; have hie : i2 = t.sys.length := by have := of_decide_eq_false h43; omega
      have hff := D6q (β := β) (n := (parts t).length) (by rw [hpl, ← hie]; exact hβ2); refine A1r Tryz.func98 Tryz.results98 wn_ () (by simp [hff]) (fun w hs => by rw [hff, if_pos rfl, hpl, ← hie]; exact hs.less (by simp))
end Go.Hy
namespace Go.Hy
open Go.Proofs
set_option maxRecDepth 100000
theorem E4p (k : Int) : Spec Tryz.prog 173 #[.int .i64 k] [] [] (fun _ : Unit => .int .i64 (A3w k)) (fun _ => []) (fun _ => []) := by
 refine A0e (args := [.int .i64 k]) Tryz.func173 Tryz.ntmps173 rfl lb_ fun B hB => ?_
 refine z140 ?_; refine z1 ?_; refine z7 ?_; refine z0 ?_; refine z106 ?_; refine A0a (fun h4 => ?_) (fun h4 => ?_)
 ·refine z5 ?_; refine A1d ?_; refine z72 ?_; refine A1r Tryz.func173 Tryz.results173 wn_ () (by simp_all [A3w]) (fun w hs => hs.none)
 ·refine z106 ?_; refine A0a (fun h4 => ?_) (fun h4 => ?_)
  ·refine z5 ?_; refine A1d ?_; refine z72 ?_; refine A1r Tryz.func173 Tryz.results173 wn_ () (by simp_all [A3w]) (fun w hs => hs.none)
  ·refine z106 ?_; refine A0a (fun h4 => ?_) (fun h4 => ?_)
   ·refine z5 ?_; refine A1d ?_; refine z72 ?_; refine A1r Tryz.func173 Tryz.results173 wn_ () (by simp_all [A3w]) (fun w hs => hs.none)
   ·refine z106 ?_; refine A0a (fun h4 => ?_) (fun h4 => ?_)
    ·refine z5 ?_; refine A1d ?_; refine z72 ?_; refine A1r Tryz.func173 Tryz.results173 wn_ () (by simp_all [A3w]) (fun w hs => hs.none)
    ·refine z106 ?_; refine A0a (fun h4 => ?_) (fun h4 => ?_)
     ·refine z5 ?_; refine A1d ?_; refine z72 ?_; refine A1r Tryz.func173 Tryz.results173 wn_ () (by simp_all [A3w]) (fun w hs => hs.none)
     ·refine z106 ?_; refine A0a (fun h4 => ?_) (fun h4 => ?_)
      ·refine z5 ?_; refine A1d ?_; refine z72 ?_; refine A1r Tryz.func173 Tryz.results173 wn_ () (by simp_all [A3w]) (fun w hs => hs.none)
      ·refine z106 ?_; refine A0a (fun h4 => ?_) (fun h4 => ?_)
       ·refine z5 ?_; refine A1d ?_; refine z72 ?_; refine A1r Tryz.func173 Tryz.results173 wn_ () (by simp_all [A3w]) (fun w hs => hs.none)
       ·refine z185 ?_; refine A0a (fun h4 => ?_) (fun h4 => ?_)
        ·refine z72 ?_; refine A1r Tryz.func173 Tryz.results173 wn_ () (by simp_all [A3w]) (fun w hs => hs.none)
        ·refine z0 ?_; refine z106 ?_; refine A0a (fun h13 => ?_) (fun h13 => ?_)
         ·refine z5 ?_; refine A1d ?_; refine z72 ?_; refine A1r Tryz.func173 Tryz.results173 wn_ () (by simp_all [A3w]) (fun w hs => hs.none)
         ·refine z106 ?_; refine A0a (fun h13 => ?_) (fun h13 => ?_)
          ·refine z5 ?_; refine A1d ?_; refine z72 ?_; refine A1r Tryz.func173 Tryz.results173 wn_ () (by simp_all [A3w]) (fun w hs => hs.none)
          ·refine z106 ?_; refine A0a (fun h13 => ?_) (fun h13 => ?_)
           ·refine z5 ?_; refine A1d ?_; refine z72 ?_; refine A1r Tryz.func173 Tryz.results173 wn_ () (by simp_all [A3w]) (fun w hs => hs.none)
           ·refine z106 ?_; refine A0a (fun h13 => ?_) (fun h13 => ?_)
            ·refine z5 ?_; refine A1d ?_; refine z72 ?_; refine A1r Tryz.func173 Tryz.results173 wn_ () (by simp_all [A3w]) (fun w hs => hs.none)
            ·refine z106 ?_; refine A0a (fun h13 => ?_) (fun h13 => ?_)
             ·refine z5 ?_; refine A1d ?_; refine z72 ?_; refine A1r Tryz.func173 Tryz.results173 wn_ () (by simp_all [A3w]) (fun w hs => hs.none)
             ·refine z106 ?_; refine A0a (fun h13 => ?_) (fun h13 => ?_)
              ·refine z5 ?_; refine A1d ?_; refine z72 ?_; refine A1r Tryz.func173 Tryz.results173 wn_ () (by simp_all [A3w]) (fun w hs => hs.none)
              ·refine z106 ?_; refine A0a (fun h13 => ?_) (fun h13 => ?_)
               ·refine z5 ?_; refine A1d ?_; refine z72 ?_; refine A1r Tryz.func173 Tryz.results173 wn_ () (by simp_all [A3w]) (fun w hs => hs.none)
               ·refine z106 ?_; refine A0a (fun h13 => ?_) (fun h13 => ?_)
                ·refine z5 ?_; refine A1d ?_; refine z72 ?_; refine A1r Tryz.func173 Tryz.results173 wn_ () (by simp_all [A3w]) (fun w hs => hs.none)
                ·refine z185 ?_; refine A0a (fun h13 => ?_) (fun h13 => ?_)
                 ·refine z72 ?_; refine A1r Tryz.func173 Tryz.results173 wn_ () (by simp_all [A3w]) (fun w hs => hs.none)
                 ·refine z0 ?_; refine z106 ?_; refine A0a (fun h23 => ?_) (fun h23 => ?_)
                  ·refine z5 ?_; refine A1d ?_; refine z72 ?_; refine A1r Tryz.func173 Tryz.results173 wn_ () (by simp_all [A3w]) (fun w hs => hs.none)
                  ·refine z106 ?_; refine A0a (fun h23 => ?_) (fun h23 => ?_)
                   ·refine z5 ?_; refine A1d ?_; refine z72 ?_; refine A1r Tryz.func173 Tryz.results173 wn_ () (by simp_all [A3w]) (fun w hs => hs.none)
                   ·refine z106 ?_; refine A0a (fun h23 => ?_) (fun h23 => ?_)
                    ·refine z5 ?_; refine A1d ?_; refine z72 ?_; refine A1r Tryz.func173 Tryz.results173 wn_ () (by simp_all [A3w]) (fun w hs => hs.none)
                    ·refine z106 ?_; refine A0a (fun h23 => ?_) (fun h23 => ?_)
                     ·refine z5 ?_; refine A1d ?_; refine z72 ?_; refine A1r Tryz.func173 Tryz.results173 wn_ () (by simp_all [A3w]) (fun w hs => hs.none)
                     ·refine z106 ?_; refine A0a (fun h23 => ?_) (fun h23 => ?_)
                      ·refine z5 ?_; refine A1d ?_; refine z72 ?_; refine A1r Tryz.func173 Tryz.results173 wn_ () (by simp_all [A3w]) (fun w hs => hs.none)
                      ·refine z106 ?_; refine A0a (fun h23 => ?_) (fun h23 => ?_)
                       ·refine z5 ?_; refine A1d ?_; refine z72 ?_; refine A1r Tryz.func173 Tryz.results173 wn_ () (by simp_all [A3w]) (fun w hs => hs.none)
                       ·refine z185 ?_; refine A0a (fun h23 => ?_) (fun h23 => ?_)
                        ·refine z72 ?_; refine A1r Tryz.func173 Tryz.results173 wn_ () (by simp_all [A3w]) (fun w hs => hs.none)
                        ·refine z0 ?_; refine z106 ?_; refine A0a (fun h31 => ?_) (fun h31 => ?_)
                         ·refine z5 ?_; refine A1d ?_; refine z72 ?_; refine A1r Tryz.func173 Tryz.results173 wn_ () (by simp_all [A3w]) (fun w hs => hs.none)
                         ·refine z185 ?_; refine A0a (fun h31 => ?_) (fun h31 => ?_)
                          ·refine z72 ?_; refine A1r Tryz.func173 Tryz.results173 wn_ () (by simp_all [A3w]) (fun w hs => hs.none)
                          ·refine z106 ?_; refine A0a (fun h34 => ?_) (fun h34 => ?_)
                           ·refine z72 ?_; refine A1r Tryz.func173 Tryz.results173 wn_ () (by simp_all [A3w]) (fun w hs => hs.none)
                           ·refine z106 ?_; refine A0a (fun h36 => ?_) (fun h36 => ?_)
                            ·refine z72 ?_; refine A1r Tryz.func173 Tryz.results173 wn_ () (by simp_all [A3w]) (fun w hs => hs.none)
                            ·refine z163 ?_; refine z72 ?_; refine A1r Tryz.func173 Tryz.results173 wn_ () (by simp_all [A3w]) (fun w hs => hs.none)
theorem B1q (k : Int) : Spec Tryz.prog 172 #[.int .i64 k] [] [] (fun _ : Unit => .int .i64 (A3a k)) (fun _ => []) (fun _ => []) := by
 refine A0e (args := [.int .i64 k]) Tryz.func172 Tryz.ntmps172 rfl lb_ fun B hB => ?_
 refine z140 ?_; refine z1 ?_; refine z7 ?_; refine z0 ?_; refine z106 ?_; refine A0a (fun h4 => ?_) (fun h4 => ?_)
 ·refine z5 ?_; refine A1d ?_; refine z72 ?_; refine A1r Tryz.func172 Tryz.results172 wn_ () (by simp_all [A3a]) (fun w hs => hs.none)
 ·refine z106 ?_; refine A0a (fun h4 => ?_) (fun h4 => ?_)
  ·refine z5 ?_; refine A1d ?_; refine z72 ?_; refine A1r Tryz.func172 Tryz.results172 wn_ () (by simp_all [A3a]) (fun w hs => hs.none)
  ·refine z185 ?_; refine A0a (fun h4 => ?_) (fun h4 => ?_)
   ·refine z72 ?_; refine A1r Tryz.func172 Tryz.results172 wn_ () (by simp_all [A3a]) (fun w hs => hs.none)
   ·refine z106 ?_; refine A0a (fun h8 => ?_) (fun h8 => ?_)
    ·refine z72 ?_; refine A1r Tryz.func172 Tryz.results172 wn_ () (by simp_all [A3a]) (fun w hs => hs.none)
    ·refine z163 ?_; refine z72 ?_; refine A1r Tryz.func172 Tryz.results172 wn_ () (by simp_all [A3a]) (fun w hs => hs.none)
theorem B5g (k : Int) : Spec Tryz.prog 121 #[.int .i64 k] [] [] (fun _ : Unit => .int .i64 (A3a k)) (fun _ => []) (fun _ => []) := by
 refine A0e (args := [.int .i64 k]) Tryz.func121 Tryz.ntmps121 rfl lb_ fun B hB => ?_
 refine z72 ?_; refine z112 ?_; refine A0a (fun h4 => ?_) (fun h4 => ?_)
 ·refine z72 ?_; refine A1r Tryz.func121 Tryz.results121 wn_ () (by simp_all [A3a]) (fun w hs => hs.none)
 ·refine z167 ?_; refine z143 ?_; refine qI rfl rfl rfl wl_ (fun hg7 => A2u ?_) (fun hg7 => ?_)
  ·refine z32 ?_; refine z129 ?_; refine qI rfl rfl rfl wl_ (fun hg11 => A2u ?_) (fun hg11 => ?_)
   ·refine z32 ?_; refine z100 ?_; refine A0a (fun h14 => ?_) (fun h14 => ?_)
    ·refine z72 ?_; refine A1r Tryz.func121 Tryz.results121 wn_ () (by simp_all [A3a]) (fun w hs => hs.none)
    ·refine z5 ?_; refine z72 ?_; refine A1r Tryz.func121 Tryz.results121 wn_ () (by simp_all [A3a]) (fun w hs => hs.none)
   ·refine z186 ?_; refine A1d ?_; refine z72 ?_; refine A1r Tryz.func121 Tryz.results121 wn_ () (by simp_all [A3a]) (fun w hs => hs.none)
  ·refine z4 ?_; refine z110 ?_; refine z168 ?_; refine A1d ?_; refine z72 ?_; refine A1r Tryz.func121 Tryz.results121 wn_ () (by simp_all [A3a]) (fun w hs => hs.none)
theorem C3p (k : Int) : Spec Tryz.prog 206 #[.int .i64 k] [] [] (fun _ : Unit => .int .i64 (more k)) (fun _ => []) (fun _ => []) := by
 refine A0e (args := [.int .i64 k]) Tryz.func206 Tryz.ntmps206 rfl lb_ fun B hB => ?_
 refine z72 ?_; refine z112 ?_; refine A0a (fun h4 => ?_) (fun h4 => ?_)
 ·refine z72 ?_; refine A1r Tryz.func206 Tryz.results206 wn_ () (by simp_all [more]) (fun w hs => hs.none)
 ·refine z5 ?_; refine z72 ?_; refine A1r Tryz.func206 Tryz.results206 wn_ () (by simp_all [more]) (fun w hs => hs.none)
theorem C1a (k i : Int) : Spec Tryz.prog 205 #[.int .i64 k, .int .i64 i] [] [] (fun _ : Unit => .tuple #[.int .i64 (binds k i).1, .int .i64 (binds k i).2]) (fun _ => []) (fun _ => []) := by
 refine A0e (args := [.int .i64 k, .int .i64 i]) Tryz.func205 Tryz.ntmps205 rfl lb_ fun B hB => ?_
 refine z161 ?_; refine z143 ?_; refine qI rfl rfl rfl wl_ (fun hg8 => A2u ?_) (fun hg8 => ?_)
 ·refine z32 ?_; refine z24 ?_; refine qI rfl rfl rfl wl_ (fun hg11 => A2u ?_) (fun hg11 => ?_)
  ·refine z156 ?_; refine z89 ?_; refine A0a (fun h15 => ?_) (fun h15 => ?_)
   ·refine z80 ?_; refine A1x Tryz.func205 Tryz.results205 wn_ wn_ () (by simp_all [binds]) (fun w hs => hs.none)
   ·refine z167 ?_; refine z143 ?_; refine qI rfl rfl rfl wl_ (fun hg18 => A2u ?_) (fun hg18 => ?_)
    ·refine z32 ?_; refine z24 ?_; refine qI rfl rfl rfl wl_ (fun hg21 => A2u ?_) (fun hg21 => ?_)
     ·refine z156 ?_; refine z24 ?_; refine qI rfl rfl rfl wl_ (fun hg25 => A2u ?_) (fun hg25 => ?_)
      ·refine z156 ?_; refine z89 ?_; refine A0a (fun h29 => ?_) (fun h29 => ?_)
       ·refine z80 ?_; refine A1x Tryz.func205 Tryz.results205 wn_ wn_ () (by simp_all [binds]) (fun w hs => hs.none)
       ·refine z167 ?_; refine z143 ?_; refine qI rfl rfl rfl wl_ (fun hg32 => A2u ?_) (fun hg32 => ?_)
        ·refine z32 ?_; refine z24 ?_; refine qI rfl rfl rfl wl_ (fun hg35 => A2u ?_) (fun hg35 => ?_)
         ·refine z156 ?_; refine z24 ?_; refine qI rfl rfl rfl wl_ (fun hg39 => A2u ?_) (fun hg39 => ?_)
          ·refine z156 ?_; refine z89 ?_; refine A0a (fun h43 => ?_) (fun h43 => ?_)
           ·refine z80 ?_; refine A1x Tryz.func205 Tryz.results205 wn_ wn_ () (by simp_all [binds]) (fun w hs => hs.none)
           ·refine z5 ?_; refine z80 ?_; refine A1x Tryz.func205 Tryz.results205 wn_ wn_ () (by simp_all [binds]) (fun w hs => hs.none)
          ·refine z174 ?_; refine A1d ?_; refine z80 ?_; refine A1x Tryz.func205 Tryz.results205 wn_ wn_ () (by simp_all [binds]) (fun w hs => hs.none)
         ·refine z144 ?_; refine z24 ?_; refine z75 ?_; refine z31 ?_; refine z89 ?_; refine A1d ?_; refine z80 ?_; refine A1x Tryz.func205 Tryz.results205 wn_ wn_ () (by simp_all [binds]) (fun w hs => hs.none)
        ·refine z75 ?_; refine qU rfl rfl rfl ?_; refine qU rfl rfl rfl ?_; refine z75 ?_; refine qU rfl rfl rfl ?_; refine qU rfl rfl rfl ?_; refine z164 ?_; refine B0g ?_; refine z5 ?_; refine z80 ?_; refine A1x Tryz.func205 Tryz.results205 wn_ wn_ () (by simp_all [binds]) (fun w hs => hs.none)
      ·refine z174 ?_; refine A1d ?_; refine z80 ?_; refine A1x Tryz.func205 Tryz.results205 wn_ wn_ () (by simp_all [binds]) (fun w hs => hs.none)
     ·refine z144 ?_; refine z24 ?_; refine z75 ?_; refine z31 ?_; refine z89 ?_; refine A1d ?_; refine z80 ?_; refine A1x Tryz.func205 Tryz.results205 wn_ wn_ () (by simp_all [binds]) (fun w hs => hs.none)
    ·refine z75 ?_; refine qU rfl rfl rfl ?_; refine qU rfl rfl rfl ?_; refine z75 ?_; refine qU rfl rfl rfl ?_; refine qU rfl rfl rfl ?_; refine z164 ?_; refine B0g ?_; refine z167 ?_; refine z143 ?_; refine qI rfl rfl rfl wl_ (fun hg32 => A2u ?_) (fun hg32 => ?_)
     ·refine z32 ?_; refine z24 ?_; refine qI rfl rfl rfl wl_ (fun hg35 => A2u ?_) (fun hg35 => ?_)
      ·refine z156 ?_; refine z24 ?_; refine qI rfl rfl rfl wl_ (fun hg39 => A2u ?_) (fun hg39 => ?_)
       ·refine z156 ?_; refine z89 ?_; refine A0a (fun h43 => ?_) (fun h43 => ?_)
        ·refine z80 ?_; refine A1x Tryz.func205 Tryz.results205 wn_ wn_ () (by simp_all [binds]) (fun w hs => hs.none)
        ·refine z5 ?_; refine z80 ?_; refine A1x Tryz.func205 Tryz.results205 wn_ wn_ () (by simp_all [binds]) (fun w hs => hs.none)
       ·refine z174 ?_; refine A1d ?_; refine z80 ?_; refine A1x Tryz.func205 Tryz.results205 wn_ wn_ () (by simp_all [binds]) (fun w hs => hs.none)
      ·refine z144 ?_; refine z24 ?_; refine z75 ?_; refine z31 ?_; refine z89 ?_; refine A1d ?_; refine z80 ?_; refine A1x Tryz.func205 Tryz.results205 wn_ wn_ () (by simp_all [binds]) (fun w hs => hs.none)
     ·refine z75 ?_; refine qU rfl rfl rfl ?_; refine qU rfl rfl rfl ?_; refine z75 ?_; refine qU rfl rfl rfl ?_; refine qU rfl rfl rfl ?_; refine z164 ?_; refine B0g ?_; refine z5 ?_; refine z80 ?_; refine A1x Tryz.func205 Tryz.results205 wn_ wn_ () (by simp_all [binds]) (fun w hs => hs.none)
  ·refine z174 ?_; refine A1d ?_; refine z80 ?_; refine A1x Tryz.func205 Tryz.results205 wn_ wn_ () (by simp_all [binds]) (fun w hs => hs.none)
 ·refine z75 ?_; refine qU rfl rfl rfl ?_; refine qU rfl rfl rfl ?_; refine z164 ?_; refine B0g ?_; refine z167 ?_; refine z143 ?_; refine qI rfl rfl rfl wl_ (fun hg18 => A2u ?_) (fun hg18 => ?_)
  ·refine z32 ?_; refine z24 ?_; refine qI rfl rfl rfl wl_ (fun hg21 => A2u ?_) (fun hg21 => ?_)
   ·refine z156 ?_; refine z24 ?_; refine qI rfl rfl rfl wl_ (fun hg25 => A2u ?_) (fun hg25 => ?_)
    ·refine z156 ?_; refine z89 ?_; refine A0a (fun h29 => ?_) (fun h29 => ?_)
     ·refine z80 ?_; refine A1x Tryz.func205 Tryz.results205 wn_ wn_ () (by simp_all [binds]) (fun w hs => hs.none)
     ·refine z167 ?_; refine z143 ?_; refine qI rfl rfl rfl wl_ (fun hg32 => A2u ?_) (fun hg32 => ?_)
      ·refine z32 ?_; refine z24 ?_; refine qI rfl rfl rfl wl_ (fun hg35 => A2u ?_) (fun hg35 => ?_)
       ·refine z156 ?_; refine z24 ?_; refine qI rfl rfl rfl wl_ (fun hg39 => A2u ?_) (fun hg39 => ?_)
        ·refine z156 ?_; refine z89 ?_; refine A0a (fun h43 => ?_) (fun h43 => ?_)
         ·refine z80 ?_; refine A1x Tryz.func205 Tryz.results205 wn_ wn_ () (by simp_all [binds]) (fun w hs => hs.none)
         ·refine z5 ?_; refine z80 ?_; refine A1x Tryz.func205 Tryz.results205 wn_ wn_ () (by simp_all [binds]) (fun w hs => hs.none)
        ·refine z174 ?_; refine A1d ?_; refine z80 ?_; refine A1x Tryz.func205 Tryz.results205 wn_ wn_ () (by simp_all [binds]) (fun w hs => hs.none)
       ·refine z144 ?_; refine z24 ?_; refine z75 ?_; refine z31 ?_; refine z89 ?_; refine A1d ?_; refine z80 ?_; refine A1x Tryz.func205 Tryz.results205 wn_ wn_ () (by simp_all [binds]) (fun w hs => hs.none)
      ·refine z75 ?_; refine qU rfl rfl rfl ?_; refine qU rfl rfl rfl ?_; refine z75 ?_; refine qU rfl rfl rfl ?_; refine qU rfl rfl rfl ?_; refine z164 ?_; refine B0g ?_; refine z5 ?_; refine z80 ?_; refine A1x Tryz.func205 Tryz.results205 wn_ wn_ () (by simp_all [binds]) (fun w hs => hs.none)
    ·refine z174 ?_; refine A1d ?_; refine z80 ?_; refine A1x Tryz.func205 Tryz.results205 wn_ wn_ () (by simp_all [binds]) (fun w hs => hs.none)
   ·refine z144 ?_; refine z24 ?_; refine z75 ?_; refine z31 ?_; refine z89 ?_; refine A1d ?_; refine z80 ?_; refine A1x Tryz.func205 Tryz.results205 wn_ wn_ () (by simp_all [binds]) (fun w hs => hs.none)
  ·refine z75 ?_; refine qU rfl rfl rfl ?_; refine qU rfl rfl rfl ?_; refine z75 ?_; refine qU rfl rfl rfl ?_; refine qU rfl rfl rfl ?_; refine z164 ?_; refine B0g ?_; refine z167 ?_; refine z143 ?_; refine qI rfl rfl rfl wl_ (fun hg32 => A2u ?_) (fun hg32 => ?_)
   ·refine z32 ?_; refine z24 ?_; refine qI rfl rfl rfl wl_ (fun hg35 => A2u ?_) (fun hg35 => ?_)
    ·refine z156 ?_; refine z24 ?_; refine qI rfl rfl rfl wl_ (fun hg39 => A2u ?_) (fun hg39 => ?_)
     ·refine z156 ?_; refine z89 ?_; refine A0a (fun h43 => ?_) (fun h43 => ?_)
      ·refine z80 ?_; refine A1x Tryz.func205 Tryz.results205 wn_ wn_ () (by simp_all [binds]) (fun w hs => hs.none)
      ·refine z5 ?_; refine z80 ?_; refine A1x Tryz.func205 Tryz.results205 wn_ wn_ () (by simp_all [binds]) (fun w hs => hs.none)
     ·refine z174 ?_; refine A1d ?_; refine z80 ?_; refine A1x Tryz.func205 Tryz.results205 wn_ wn_ () (by simp_all [binds]) (fun w hs => hs.none)
    ·refine z144 ?_; refine z24 ?_; refine z75 ?_; refine z31 ?_; refine z89 ?_; refine A1d ?_; refine z80 ?_; refine A1x Tryz.func205 Tryz.results205 wn_ wn_ () (by simp_all [binds]) (fun w hs => hs.none)
   ·refine z75 ?_; refine qU rfl rfl rfl ?_; refine qU rfl rfl rfl ?_; refine z75 ?_; refine qU rfl rfl rfl ?_; refine qU rfl rfl rfl ?_; refine z164 ?_; refine B0g ?_; refine z5 ?_; refine z80 ?_; refine A1x Tryz.func205 Tryz.results205 wn_ wn_ () (by simp_all [binds]) (fun w hs => hs.none)
end Go.Hy
namespace Go.Hy
open Go.Proofs
set_option maxRecDepth 100000
theorem Int.ofNat_max' (a b : Nat) : ((max a b : Nat) : Int) = if (b : Int) > (a : Int) then (b : Int) else (a : Int) := by
 split <;> omega
end Go.Hy
namespace Go.Hy
open Go.Proofs
set_option maxRecDepth 100000
/-- A test of all parts. -/
theorem D0x (t : T) (vr vk vs : SH) (c : FuncId) (cap : List Value) (FΓ : List Fact) (M : List Res) (g : Part → Bool)
  (hc : ∀ (args : Array Value) (w : World), (callFunc c args).run Tryz.prog w = .ok (.enter c args) w)
  (hcl : ∀ k v d, (k, v, d) ∈ parts t → ∀ vr vk vs, Spec Tryz.prog c (.agg (tc k vr vk vs).toArray :: .int .i64 v :: .int .i64 d :: cap).toArray (RT k vr vk vs :: FΓ) M (fun _ : Unit => .bool (g (k, v, d))) (fun _ => []) (fun _ => M)) :
  Spec Tryz.prog 98 #[.agg (tc t vr vk vs).toArray, .func (.func c) #[] cap.toArray] (RT t vr vk vs :: FΓ) M (fun _ : Unit => .bool ((parts t).all g)) (fun _ => []) (fun _ => M) := by
 have h := D0w t vr vk vs c cap FΓ (fun _ => M) (fun _ => M) (D6x t g) hc (fun m k v d hm _ vr vk vs => by simpa [B5v hm] using hcl k v d (A5z hm) vr vk vs); rw [E9n] at h; simpa using h
abbrev C2s (t : T) : Prop := ∀ (left : Int) vr vk vs, A2j left → Spec Tryz.prog 162 #[.agg (tc t vr vk vs).toArray, .int .i64 left] [RT t vr vk vs] [] (fun _ : Unit => .bool (decide ((depth t : Int) ≤ left))) (fun _ => []) (fun _ => [])
theorem C5v (k : T) (vr vk vs : SH) (b : Nat) (left v d : Int) (h0 : 0 < left) (hl : A2j left) (ih : C2s k) : Spec Tryz.prog 215 #[.agg (tc k vr vk vs).toArray, .int .i64 v, .int .i64 d, .pointer (some ⟨b, 0, none⟩)] [RT k vr vk vs] [A1t b [.int .i64 left] 3] (fun _ : Unit => .bool (decide ((depth k : Int) ≤ left - 1))) (fun _ => []) (fun _ => [A1t b [.int .i64 left] 3]) := by
 refine A0e (args := [.agg (tc k vr vk vs).toArray, .int .i64 v, .int .i64 d, .pointer (some ⟨b, 0, none⟩)]) Tryz.func215 Tryz.ntmps215 rfl lb_ fun B hB => ?_
 refine z68 ?_; refine q0 rfl (A2c fun b4 => ?_); refine z69 ?_; refine z113 ?_; refine z13 ?_; refine q0 rfl (D8m ?_); refine q0 rfl (A0c Tryz.call162 (ih (left - 1) vr vk vs (by unfold A2j at *; omega)) (fun x11 => ?_)); refine z69 ?_; refine A1r Tryz.func215 Tryz.results215 wn_ () rfl (fun w hs => (hs.less (by simp)).drop)
theorem C8p (t : T) (ih : ∀ p, p ∈ parts t → C2s p.1) (left : Int) (vr vk vs : SH) (hl : A2j left) : Spec Tryz.prog 162 #[.agg (tc t vr vk vs).toArray, .int .i64 left] [RT t vr vk vs] [] (fun _ : Unit => .bool (decide ((depth t : Int) ≤ left))) (fun _ => []) (fun _ => []) := by
 refine A0e (args := [.agg (tc t vr vk vs).toArray, .int .i64 left]) Tryz.func162 Tryz.ntmps162 rfl lb_ fun B hB => ?_
 refine z68 ?_; refine q0 rfl (A2c fun b2 => ?_); refine q0 rfl (A2c fun b3 => ?_); refine z69 ?_; refine z187 ?_; refine z48 ?_; refine z3 ?_; refine qI rfl rfl rfl wl_ (fun hg7 => C2x ?_) (fun hg7 => ?_)
 ·refine qT rfl rfl rfl (E3z ?_); have h0 : 0 < left := of_decide_eq_true hg7; have hE := D0x t vr vk vs 215 [.pointer (some ⟨b3, 0, none⟩)] [] [A1t b3 [.int .i64 left] 3] (fun p => decide ((depth p.1 : Int) ≤ left - 1)) Tryz.call215 (fun k v d hm vr vk vs => C5v k vr vk vs b3 left v d h0 hl (ih _ hm)); rw [← E5l t left h0] at hE; refine qT rfl rfl rfl (A0c Tryz.call98 (hE) (fun x10 => ?_)); refine z114 ?_; refine A1r Tryz.func162 Tryz.results162 wn_ () rfl (fun w hs => hs.none)
 ·refine z169 ?_; have h0 : ¬ 0 < left := of_decide_eq_false hg7; have hp := D1g t; refine A1r Tryz.func162 Tryz.results162 wn_ () (by rw [decide_eq_false (by omega)]) (fun w hs => hs.none)
theorem C8q : ∀ t : T, C2s t := T.ind fun t ih left vr vk vs hl => C8p t ih left vr vk vs hl
/-- What is left of a number of nodes. -/
def leftOf (t : T) (m : Int) : Int := if (size t : Int) ≤ m then m - size t else -1
abbrev C7l (b bc : Nat) : List Value := [.pointer (some ⟨b, 0, none⟩), .pointer (some ⟨bc, 0, none⟩)]
abbrev B0d (b bc : Nat) (m : Int) : List Res := [A1t b [.int .i64 m] 3, A1t bc [.func (.func 216) #[] (C7l b bc).toArray] 63]
abbrev C7m (t : T) : Prop := ∀ (m : Int) b bc vr vk vs, 0 ≤ m → A2j m → Spec Tryz.prog 216 #[.agg (tc t vr vk vs).toArray, .pointer (some ⟨b, 0, none⟩), .pointer (some ⟨bc, 0, none⟩)] [RT t vr vk vs] (B0d b bc m) (fun _ : Unit => .bool (decide ((size t : Int) ≤ m))) (fun _ => []) (fun _ => B0d b bc (leftOf t m))
theorem C8j (k : T) (vr vk vs : SH) (b bc : Nat) (m v d : Int) (h0 : 0 ≤ m) (hl : A2j m) (ih : C7m k) : Spec Tryz.prog 217 #[.agg (tc k vr vk vs).toArray, .int .i64 v, .int .i64 d, .pointer (some ⟨bc, 0, none⟩)] [RT k vr vk vs] (B0d b bc m) (fun _ : Unit => .bool (decide ((size k : Int) ≤ m))) (fun _ => []) (fun _ => B0d b bc (leftOf k m)) := by
 refine A0e (args := [.agg (tc k vr vk vs).toArray, .int .i64 v, .int .i64 d, .pointer (some ⟨bc, 0, none⟩)]) Tryz.func217 Tryz.ntmps217 rfl lb_ fun B hB => ?_
 refine z68 ?_; refine q0 rfl (A2c fun b4 => ?_); refine z69 ?_; refine z187 ?_; refine z22 ?_; refine q0 rfl (A6j Tryz.call216 (ih m b bc vr vk vs h0 hl) (cap := C7l b bc) (fun x10 => ?_)); refine z69 ?_; refine A1r Tryz.func217 Tryz.results217 wn_ () rfl (fun w hs => (hs.less (by simp)).A2x (A := B0d b bc (leftOf k m)))
theorem D9m (t : T) (ih : ∀ p, p ∈ parts t → C7m p.1) (m : Int) (b bc : Nat) (vr vk vs : SH) (h0 : 0 < m) (hl : A2j m) :
  Spec Tryz.prog 98 #[.agg (tc t vr vk vs).toArray, .func (.func 217) #[] #[.pointer (some ⟨bc, 0, none⟩)]] [RT t vr vk vs] (B0d b bc (m - 1)) (fun _ : Unit => .bool (decide ((size t : Int) ≤ m))) (fun _ => []) (fun _ => B0d b bc (leftOf t m)) := by
 have h := D0w t vr vk vs 217 [.pointer (some ⟨bc, 0, none⟩)] [] (fun j => B0d b bc (if (A2h t j : Int) ≤ m then m - A2h t j else -1)) (fun _ => B0d b bc (-1)) (fun j => decide ((A2h t (j + 1) : Int) ≤ m)) Tryz.call217 ?_
 ·have hall : (ff (fun j => decide ((A2h t (j + 1) : Int) ≤ m)) (parts t).length == (parts t).length) = decide ((size t : Int) ≤ m) := by
   rw [Bool.eq_iff_iff, beq_iff_eq, C2e, decide_eq_true_iff]; constructor
   ·intro h; cases hn : (parts t).length with
    | zero => have := A9g t; rw [hn, B0e] at this; omega
    | succ n =>
     have := h n (by omega); rw [← hn, A9g] at this; exact of_decide_eq_true this
   ·intro h j hj; have := B5f t (j + 1); exact decide_eq_true (by omega)
  simp only [hall, B0e, A9g, beq_iff_eq] at h; rw [if_pos (by omega)] at h; by_cases hs : (size t : Int) ≤ m
  ·have e : ff (fun j => decide ((A2h t (j + 1) : Int) ≤ m)) (parts t).length = (parts t).length := by rw [← beq_iff_eq, hall]; exact decide_eq_true hs
   simp only [e, if_true, if_pos hs] at h; unfold leftOf; rw [if_pos hs]; exact h
  ·have e : ¬ ff (fun j => decide ((A2h t (j + 1) : Int) ≤ m)) (parts t).length = (parts t).length := by rw [← beq_iff_eq, hall]; simpa using hs
   simp only [if_neg e] at h; unfold leftOf; rw [if_neg hs]; exact h
 ·intro j k v d hm hβ vr vk vs; have hs := A8c hm; simp only at hs; have hp := size_pos k
  have hj : (A2h t j : Int) ≤ m := by
   cases j with
   | zero => rw [B0e]; omega
   | succ j => exact of_decide_eq_true (hβ j (by omega))
  have := C8j k vr vk vs b bc (m - A2h t j) v d (by omega) (by unfold A2j at *; omega) (ih _ (A5z hm)); rw [if_pos hj]; have e1 : decide ((size k : Int) ≤ m - A2h t j) = decide ((A2h t (j + 1) : Int) ≤ m) := by rw [hs]; congr 1; apply propext; omega
  rw [e1] at this
  have e2 : B0d b bc (leftOf k (m - A2h t j)) = if decide ((A2h t (j + 1) : Int) ≤ m) = true then B0d b bc (if (A2h t (j + 1) : Int) ≤ m then m - A2h t (j + 1) else -1) else B0d b bc (-1) := by
   unfold leftOf; by_cases hk : (A2h t (j + 1) : Int) ≤ m
   ·rw [if_pos (by omega), if_pos (decide_eq_true hk), if_pos hk, hs]; congr 1; omega
   ·rw [if_neg (by omega), if_neg (by simpa using hk)]
  rw [e2] at this; exact this
theorem D2f (t : T) (ih : ∀ p, p ∈ parts t → C7m p.1) (m : Int) (b bc : Nat) (vr vk vs : SH) (h0 : 0 ≤ m) (hl : A2j m) : Spec Tryz.prog 216 #[.agg (tc t vr vk vs).toArray, .pointer (some ⟨b, 0, none⟩), .pointer (some ⟨bc, 0, none⟩)] [RT t vr vk vs] (B0d b bc m) (fun _ : Unit => .bool (decide ((size t : Int) ≤ m))) (fun _ => []) (fun _ => B0d b bc (leftOf t m)) := by
 refine A0e (args := [.agg (tc t vr vk vs).toArray, .pointer (some ⟨b, 0, none⟩), .pointer (some ⟨bc, 0, none⟩)]) Tryz.func216 Tryz.ntmps216 rfl lb_ fun B hB => ?_
 refine z68 ?_; refine q0 rfl (A2c fun b3 => ?_); refine z69 ?_; refine z187 ?_; refine q0 rfl (D8m ?_); refine z175 ?_; refine z187 ?_; refine z52 ?_; refine z3 ?_; refine qI rfl rfl rfl wl_ (fun hg9 => C2x ?_) (fun hg9 => ?_)
 ·refine qT rfl rfl rfl (E3z ?_); have h1 : 0 ≤ m - 1 := of_decide_eq_true hg9; have hE := D9m t ih m b bc vr vk vs (by omega) hl; refine qT rfl rfl rfl (A0c Tryz.call98 (hE) (fun x12 => ?_) (hm := (List.Perm.swap _ _ _).cons _)); refine z114 ?_; refine A1r Tryz.func216 Tryz.results216 wn_ () rfl (fun w hs => (hs.less (by simp)).A2x (A := B0d b bc (leftOf t m)))
 ·refine z169 ?_; have h1 : ¬ 0 ≤ m - 1 := of_decide_eq_false hg9; have hp := size_pos t; refine A1r Tryz.func216 Tryz.results216 wn_ () (by rw [decide_eq_false (by omega)]) (fun w hs => by rw [leftOf, if_neg (by omega), show (-1 : Int) = m - 1 by omega]; exact ((hs.less (Γ' := []) (by simp)).perm ((List.Perm.swap _ _ _).cons _)).A2x (A := B0d b bc (m - 1)))
theorem D9l : ∀ t : T, C7m t := T.ind fun t ih m b bc vr vk vs h0 hl => D2f t ih m b bc vr vk vs h0 hl
end Go.Hy
namespace Go.Hy
open Go.Proofs
set_option maxRecDepth 100000
def F2d : Prop := ∀ (l : List Cl) (a : SH), Spec Tryz.prog 137 #[sl a l.length] [CL l a] [] (fun _ : Unit => .bool (A0h l)) (fun _ => []) (fun _ => [])
def D1r : Prop := ∀ (l : List Cl) (a : SH), Spec Tryz.prog 88 #[sl a l.length] [CL l a] [] (fun _ : Unit => .bool (A0d l)) (fun _ => []) (fun _ => [])
def F5i : Prop := ∀ (l : List Cl) (a : SH), Spec Tryz.prog 97 #[sl a l.length] [CL l a] [] (fun _ : Unit => .int .u32 (A4e l : Int)) (fun _ => []) (fun _ => [])
def F5p : Prop := F2d ∧ D1r ∧ F5i
end Go.Hy
namespace Go.Hy
open Go.Proofs
set_option maxRecDepth 100000
theorem D7n (t : T) (vr vk vs : SH) (A8j : Int) (h0 : 0 ≤ A8j) (hl : A2j A8j) : Spec Tryz.prog 163 #[.agg (tc t vr vk vs).toArray, .int .i64 A8j] [RT t vr vk vs] [] (fun _ : Unit => .bool (decide ((size t : Int) ≤ A8j))) (fun _ => []) (fun _ => []) := by
 refine A0e (args := [.agg (tc t vr vk vs).toArray, .int .i64 A8j]) Tryz.func163 Tryz.ntmps163 rfl lb_ fun B hB => ?_
 refine z68 ?_; refine q0 rfl (A2c fun b2 => ?_); refine q0 rfl (A2c fun b3 => ?_); refine z69 ?_; refine z68 ?_; refine q0 rfl (A2s fun b5 => ?_); refine z1 ?_; refine z68 ?_; refine z44 ?_; refine z91 ?_; refine z187 ?_; refine z22 ?_; refine q0 rfl (A6j Tryz.call216 (D9l t A8j b3 b5 vr vk vs h0 hl) (cap := C7l b3 b5) (fun x9 => ?_)); refine z69 ?_; refine A1r Tryz.func163 Tryz.results163 wn_ () rfl (fun w hs => hs.none)
theorem D7o (t : T) (vr vk vs : SH) : Spec Tryz.prog 85 #[.agg (tc t vr vk vs).toArray] [RT t vr vk vs] [] (fun _ : Unit => .int .i64 (sized t)) (fun _ => []) (fun _ => []) := by
 refine A0e (args := [.agg (tc t vr vk vs).toArray]) Tryz.func85 Tryz.ntmps85 rfl lb_ fun B hB => ?_
 refine z68 ?_; refine q0 rfl (A2c fun b1 => ?_); refine z101 ?_; refine z7 ?_; refine z113 ?_; refine q0 rfl (A0c Tryz.call162 (C8q t 200 vr vk vs (by unfold A2j; omega)) (fun x5 => ?_)); refine z27 ?_; refine z69 ?_; refine A0a (fun h3 => ?_) (fun h3 => ?_)
 ·refine z72 ?_; have h : 200 < depth t := by simp at h3; omega
  refine A1r Tryz.func85 Tryz.results85 wn_ () (by rw [sized, if_pos h]) (fun w hs => hs.none)
 ·refine z113 ?_; refine q0 rfl (A0c Tryz.call163 (D7n t vr vk vs 20000 (by omega) (by unfold A2j; omega)) (fun x9 => ?_)); refine z27 ?_; refine z69 ?_; refine A0a (fun h7 => ?_) (fun h7 => ?_)
  ·refine z72 ?_; have h : ¬ 200 < depth t := by simp at h3; omega
   have h2 : 20000 < size t := by simp at h7; omega
   refine A1r Tryz.func85 Tryz.results85 wn_ () (by rw [sized, if_neg h, if_pos h2]) (fun w hs => hs.none)
  ·refine z163 ?_; refine z72 ?_; have h : ¬ 200 < depth t := by simp at h3; omega
   have h2 : ¬ 20000 < size t := by simp at h7; omega
   refine A1r Tryz.func85 Tryz.results85 wn_ () (by rw [sized, if_neg h, if_neg h2]) (fun w hs => hs.none)
theorem E4f (s : ByteArray) (hs : s.size ≤ A8p) : Spec Tryz.prog 218 #[.string s] [] [] (fun _ : Unit => .bool (A9l s)) (fun _ => []) (fun _ => []) := by
 refine A0e (args := [.string s]) Tryz.func218 Tryz.ntmps218 rfl lb_ fun B hB => ?_
 refine z140 ?_; refine q0 rfl (B6q ?_); refine z87 ?_; refine z7 ?_; refine A3z (X := Nat) (fun i => i ≤ s.size ∧ ∀ j, j < i → D5s s j = true) (fun i => [(0, .string s), (7, .int .i64 (s.size : Int)), (8, .int .i64 (i : Int))]) (fun i => []) (fun i => []) (fun i => s.size - i) (0) (⟨Nat.zero_le _, fun j hj => by omega⟩) (by exact ⟨rfl, rfl, rfl, trivial⟩) ?_ ?_
 ·exact fun w hs => hs.none
 ·intro i base0 ⟨hi, hok⟩ next0; refine z119 ?_; refine A0a (fun h9 => ?_) (fun h9 => ?_)
  ·have hlt : i < s.size := by have := of_decide_eq_true h9; omega
   obtain ⟨c, hc, hca⟩ := E5r hlt; refine z86 ?_; refine z135 ?_; refine z107 ?_; refine q0 rfl (E3y ?_); refine z101 ?_; refine A0z ([(0, .string s), (3, .int .i64 (i : Int)), (4, .int .u8 c.toNat), (5, .bool (letter c.toNat)), (7, .int .i64 (s.size : Int)), (8, .int .i64 (i : Int))]) (fun hK => ?_) (fun base => ?_)
   ·refine z73 ?_; refine z52 ?_; refine z3 ?_; refine qI rfl rfl rfl wl_ (fun hg16 => A2u ?_) (fun hg16 => ?_)
    ·refine z60 ?_; refine z110 ?_; refine qI rfl rfl rfl wl_ (fun hg20 => A2u ?_) (fun hg20 => ?_)
     ·refine z58 ?_; refine z24 ?_; refine qI rfl rfl rfl wl_ (fun hg23 => A2u ?_) (fun hg23 => ?_)
      ·refine z60 ?_; refine z31 ?_; refine z129 ?_; refine qI rfl rfl rfl wl_ (fun hg28 => A2u ?_) (fun hg28 => ?_)
       ·refine z32 ?_; refine z115 ?_; exact hK _ ⟨rfl, rfl, rfl, (by (conv => lhs; whnf); first | (simp_all [letter]; done) | (simp_all [letter]; omega)), rfl, rfl, trivial⟩
       ·refine z4 ?_; refine z114 ?_; exact hK _ ⟨rfl, rfl, rfl, (by (conv => lhs; whnf); first | (simp_all [letter]; done) | (simp_all [letter]; omega)), rfl, rfl, trivial⟩
      ·refine z4 ?_; refine z35 ?_; refine z129 ?_; refine z24 ?_; refine z32 ?_; refine z115 ?_; exact hK _ ⟨rfl, rfl, rfl, (by (conv => lhs; whnf); first | (simp_all [letter]; done) | (simp_all [letter]; omega)), rfl, rfl, trivial⟩
     ·refine z75 ?_; refine qU rfl rfl rfl ?_; refine qU rfl rfl rfl ?_; refine z4 ?_; refine z110 ?_; refine z75 ?_; refine z114 ?_; exact hK _ ⟨rfl, rfl, rfl, (by (conv => lhs; whnf); first | (simp_all [letter]; done) | (simp_all [letter]; omega)), rfl, rfl, trivial⟩
    ·refine z4 ?_; refine z129 ?_; refine z24 ?_; refine z58 ?_; refine z24 ?_; refine qI rfl rfl rfl wl_ (fun hg23 => A2u ?_) (fun hg23 => ?_)
     ·refine z60 ?_; refine z31 ?_; refine z129 ?_; refine qI rfl rfl rfl wl_ (fun hg28 => A2u ?_) (fun hg28 => ?_)
      ·refine z32 ?_; refine z115 ?_; exact hK _ ⟨rfl, rfl, rfl, (by (conv => lhs; whnf); first | (simp_all [letter]; done) | (simp_all [letter]; omega)), rfl, rfl, trivial⟩
      ·refine z4 ?_; refine z114 ?_; exact hK _ ⟨rfl, rfl, rfl, (by (conv => lhs; whnf); first | (simp_all [letter]; done) | (simp_all [letter]; omega)), rfl, rfl, trivial⟩
     ·refine z4 ?_; refine z35 ?_; refine z129 ?_; refine z24 ?_; refine z32 ?_; refine z115 ?_; exact hK _ ⟨rfl, rfl, rfl, (by (conv => lhs; whnf); first | (simp_all [letter]; done) | (simp_all [letter]; omega)), rfl, rfl, trivial⟩
   ·refine z0 ?_; refine A0z ([(0, .string s), (7, .int .i64 (s.size : Int)), (8, .int .i64 (i : Int)), (45, .bool (!(D5s s i)))]) (fun hK => ?_) (fun base => ?_)
    ·refine z73 ?_; refine z176 ?_; refine qI rfl rfl rfl wl_ (fun hg34 => A2u ?_) (fun hg34 => ?_)
     ·refine z32 ?_; refine z24 ?_; refine qI rfl rfl rfl wl_ (fun hg37 => A2u ?_) (fun hg37 => ?_)
      ·refine z45 ?_; refine z35 ?_; refine z24 ?_; refine qI rfl rfl rfl wl_ (fun hg41 => A2u ?_) (fun hg41 => ?_)
       ·refine z53 ?_; refine z35 ?_; refine z89 ?_; exact hK _ ⟨rfl, rfl, rfl, (by (conv => lhs; whnf); rw [hca]; first | (simp_all [digit]; done) | (simp_all [digit]; omega) | (simp_all [digit]; rw [← decide_not]; congr 1; apply propext; omega)), trivial⟩
       ·refine z174 ?_; exact hK _ ⟨rfl, rfl, rfl, (by (conv => lhs; whnf); rw [hca]; first | (simp_all [digit]; done) | (simp_all [digit]; omega) | (simp_all [digit]; rw [← decide_not]; congr 1; apply propext; omega)), trivial⟩
      ·refine z144 ?_; refine z24 ?_; refine z75 ?_; refine z31 ?_; refine z89 ?_; exact hK _ ⟨rfl, rfl, rfl, (by (conv => lhs; whnf); rw [hca]; first | (simp_all [digit]; done) | (simp_all [digit]; omega) | (simp_all [digit]; rw [← decide_not]; congr 1; apply propext; omega)), trivial⟩
     ·refine z75 ?_; refine qU rfl rfl rfl ?_; refine qU rfl rfl rfl ?_; refine z75 ?_; refine qU rfl rfl rfl ?_; refine qU rfl rfl rfl ?_; refine z164 ?_; exact hK _ ⟨rfl, rfl, rfl, (by (conv => lhs; whnf); rw [hca]; first | (simp_all [digit]; done) | (simp_all [digit]; omega) | (simp_all [digit]; rw [← decide_not]; congr 1; apply propext; omega)), trivial⟩
    ·refine A0a (fun h45 => ?_) (fun h45 => ?_)
     ·refine z72 ?_; refine A1r Tryz.func218 Tryz.results218 wn_ () (by rw [C4k hlt (by simpa using h45)]) (fun w hs => hs.none)
     ·refine z134 ?_; have hb : D5s s i = true := by simpa using h45
      refine A0b (fun w hs => hs) (next0 (i + 1) _ ⟨hlt, fun j hj => (by rcases Nat.lt_succ_iff_lt_or_eq.mp hj with h | h; exact hok j h; subst h; exact hb)⟩ (by omega) ⟨rfl, rfl, rfl, trivial⟩)
  ·have hge : i = s.size := by have := of_decide_eq_false h9; omega
   refine z16 ?_; refine z70 ?_; refine q0 rfl (E8f ?_); refine z69 ?_; refine A1r Tryz.func218 Tryz.results218 wn_ () (by rw [C4l (by rw [← hge]; exact hok), empty_eq]; rfl) (fun w hs => hs.none)
theorem B0l (hF : F5i) (l : List Cl) (a : SH) (dims : Int) (h0 : 0 ≤ dims) (hl : A2j dims) : Spec Tryz.prog 219 #[sl a l.length, .int .i64 dims] [CL l a] [] (fun _ : Unit => .bool (within l dims)) (fun _ => []) (fun _ => []) := by
 refine A0e (args := [sl a l.length, .int .i64 dims]) Tryz.func219 Tryz.ntmps219 rfl lb_ fun B hB => ?_
 refine z136 ?_; refine z52 ?_; refine z3 ?_; refine qI rfl rfl rfl wl_ (fun hg7 => A2u ?_) (fun hg7 => ?_)
 ·refine qT rfl rfl rfl (A0c Tryz.call97 (hF l a) (fun x9 => ?_)); refine z24 ?_; refine qT rfl rfl rfl (F7t ?_); refine qT rfl rfl rfl (C6j ?_ (m := dims.toNat) (hy := congrArg (Value.int .u64) (E0v h0 hl))); refine z32 ?_; refine z115 ?_; refine A1r Tryz.func219 Tryz.results219 wn_ () (by first | (simp_all [within]; done) | (simp_all [within]; intros; omega)) (fun w hs => hs.none)
 ·refine z75 ?_; refine z117 ?_; refine z114 ?_; refine A1r Tryz.func219 Tryz.results219 wn_ () (by first | (simp_all [within]; done) | (simp_all [within]; intros; omega)) (fun w hs => hs.none)
end Go.Hy
namespace Go.Hy
open Go.Proofs
set_option maxRecDepth 100000
theorem D5n (t : T) (hf : B9a t = true ∨ F5p) (vr vk vs : SH) (vars dims : Int) (hd : 0 ≤ dims) (hl : A2j dims) : Spec Tryz.prog 164 #[.agg (tc t vr vk vs).toArray, .int .i64 vars, .int .i64 dims] [RT t vr vk vs] [] (fun _ : Unit => .bool (C1f t vars dims)) (fun _ => []) (fun _ => []) := by
 refine A0e (args := [.agg (tc t vr vk vs).toArray, .int .i64 vars, .int .i64 dims]) Tryz.func164 Tryz.ntmps164 rfl lb_ fun B hB => ?_
 refine go_open (fun hk hn hnm => ?_); refine A1m (ts := t.kids) (fun VR VK VS hl1 hA1 => ?_); refine A3n (bs := t.sys) (fun VF VK2 hl2 hA2 => ?_); refine z68 ?_; refine q0 rfl (A2c fun b3 => ?_); refine z177 ?_; refine A0z ([(1, .int .i64 vars), (2, .int .i64 dims), (3, .pointer (some ⟨b3, 0, none⟩)), (47, .bool (B4v t))]) (fun hK => ?_) (fun base => ?_)
 ·refine A2a (pn := 1000000) (tn := false) (A := [0, 1, 3, 0, 8, 24, 63, 127, 255, 511, 1023, 2047, 4095, 8191, 16383, 32767, 65535, 131071, 262143, 524287, 1048575, 2097151, 4194303, 8388607, 16777215, 33554431, 67108863, 134217727, 268435455, 536870911, 1073741823, 2147483647, 4294967295, 8589934591, 17179869183, 34359738367, 68719476735, 137438953471, 274877906943]) (l := [0, 1, 3, 4, 5, 2, 6, 7, 8, 9, 10, 11, 12, 13, 14, 15, 16, 17, 18, 19, 20, 21, 22, 23, 24, 25, 26, 27, 28, 29, 30, 31, 32, 33, 34, 35, 36, 37, 38]) (fin := []) Tab.mixed ⟨_, Tryz.func164⟩ (by rfl) ?_; refine z108 ?_; refine z108 ?_; refine n0 rfl (D7h ?_); refine n0 rfl (A1p Tryz.call173 (E4p t.kind) (fun x11 => ?_)); refine n0 rfl (E6p ?_); refine z15 ?_; refine nI rfl rfl rfl wl_ (fun hg16 => C0f ?_) (fun hg16 => ?_)
  ·refine z34 ?_; refine z63 ?_; refine z39 ?_; refine nI rfl rfl rfl wl_ (fun hg20 => C0f ?_) (fun hg20 => ?_)
   ·refine z34 ?_; refine z63 ?_; refine z54 ?_; refine z170 ?_; refine nI rfl rfl rfl wl_ (fun hg26 => C0f ?_) (fun hg26 => ?_)
    ·refine z34 ?_; refine z63 ?_; refine z39 ?_; refine nI rfl rfl rfl wl_ (fun hg30 => C0f ?_) (fun hg30 => ?_)
     ·refine z34 ?_; refine nT rfl rfl rfl (F5t ?_); refine z54 ?_; refine z170 ?_; refine nI rfl rfl rfl wl_ (fun hg36 => C0f ?_) (fun hg36 => ?_)
      ·refine z34 ?_; refine nT rfl rfl rfl (A1p Tryz.call172 (B1q t.kind) (fun x39 => ?_)); refine z64 ?_; refine z39 ?_; refine nI rfl rfl rfl wl_ (fun hg41 => C0f ?_) (fun hg41 => ?_)
       ·refine z34 ?_; refine z59 ?_; refine z61 ?_; refine z54 ?_; refine z145 ?_; exact hK _ ⟨rfl, rfl, rfl, (by (conv => lhs; whnf); first | (simp_all [B4v]; done) | (simp_all [B4v]; omega)), trivial⟩
       ·refine z92 ?_; refine z11 ?_; refine z55 ?_; refine z145 ?_; exact hK _ ⟨rfl, rfl, rfl, (by (conv => lhs; whnf); first | (simp_all [B4v]; done) | (simp_all [B4v]; omega)), trivial⟩
      ·refine z137 ?_; refine nU rfl rfl rfl ?_; refine nU rfl rfl rfl ?_; refine nU rfl rfl rfl ?_; refine nU rfl rfl rfl ?_; refine z178 ?_; exact hK _ ⟨rfl, rfl, rfl, (by (conv => lhs; whnf); first | (simp_all [B4v]; done) | (simp_all [B4v]; omega)), trivial⟩
     ·refine z92 ?_; refine z55 ?_; refine z170 ?_; refine z56 ?_; refine z34 ?_; refine nT rfl rfl rfl (A1p Tryz.call172 (B1q t.kind) (fun x39 => ?_)); refine z64 ?_; refine z39 ?_; refine nI rfl rfl rfl wl_ (fun hg41 => C0f ?_) (fun hg41 => ?_)
      ·refine z34 ?_; refine z59 ?_; refine z61 ?_; refine z54 ?_; refine z145 ?_; exact hK _ ⟨rfl, rfl, rfl, (by (conv => lhs; whnf); first | (simp_all [B4v]; done) | (simp_all [B4v]; omega)), trivial⟩
      ·refine z92 ?_; refine z11 ?_; refine z55 ?_; refine z145 ?_; exact hK _ ⟨rfl, rfl, rfl, (by (conv => lhs; whnf); first | (simp_all [B4v]; done) | (simp_all [B4v]; omega)), trivial⟩
    ·refine z92 ?_; refine z11 ?_; refine nU rfl rfl rfl ?_; refine nU rfl rfl rfl ?_; refine nU rfl rfl rfl ?_; refine z150 ?_; refine z15 ?_; refine z137 ?_; refine z11 ?_; refine nU rfl rfl rfl ?_; refine nU rfl rfl rfl ?_; refine nU rfl rfl rfl ?_; refine nU rfl rfl rfl ?_; refine z178 ?_; exact hK _ ⟨rfl, rfl, rfl, (by (conv => lhs; whnf); first | (simp_all [B4v]; done) | (simp_all [B4v]; omega)), trivial⟩
   ·refine z92 ?_; refine z55 ?_; refine z170 ?_; refine z56 ?_; refine z34 ?_; refine z63 ?_; refine z39 ?_; refine nI rfl rfl rfl wl_ (fun hg30 => C0f ?_) (fun hg30 => ?_)
    ·refine z34 ?_; refine nT rfl rfl rfl (F5t ?_); refine z54 ?_; refine z170 ?_; refine nI rfl rfl rfl wl_ (fun hg36 => C0f ?_) (fun hg36 => ?_)
     ·refine z34 ?_; refine nT rfl rfl rfl (A1p Tryz.call172 (B1q t.kind) (fun x39 => ?_)); refine z64 ?_; refine z39 ?_; refine nI rfl rfl rfl wl_ (fun hg41 => C0f ?_) (fun hg41 => ?_)
      ·refine z34 ?_; refine z59 ?_; refine z61 ?_; refine z54 ?_; refine z145 ?_; exact hK _ ⟨rfl, rfl, rfl, (by (conv => lhs; whnf); first | (simp_all [B4v]; done) | (simp_all [B4v]; omega)), trivial⟩
      ·refine z92 ?_; refine z11 ?_; refine z55 ?_; refine z145 ?_; exact hK _ ⟨rfl, rfl, rfl, (by (conv => lhs; whnf); first | (simp_all [B4v]; done) | (simp_all [B4v]; omega)), trivial⟩
     ·refine z137 ?_; refine nU rfl rfl rfl ?_; refine nU rfl rfl rfl ?_; refine nU rfl rfl rfl ?_; refine nU rfl rfl rfl ?_; refine z178 ?_; exact hK _ ⟨rfl, rfl, rfl, (by (conv => lhs; whnf); first | (simp_all [B4v]; done) | (simp_all [B4v]; omega)), trivial⟩
    ·refine z92 ?_; refine z55 ?_; refine z170 ?_; refine z56 ?_; refine z34 ?_; refine nT rfl rfl rfl (A1p Tryz.call172 (B1q t.kind) (fun x39 => ?_)); refine z64 ?_; refine z39 ?_; refine nI rfl rfl rfl wl_ (fun hg41 => C0f ?_) (fun hg41 => ?_)
     ·refine z34 ?_; refine z59 ?_; refine z61 ?_; refine z54 ?_; refine z145 ?_; exact hK _ ⟨rfl, rfl, rfl, (by (conv => lhs; whnf); first | (simp_all [B4v]; done) | (simp_all [B4v]; omega)), trivial⟩
     ·refine z92 ?_; refine z11 ?_; refine z55 ?_; refine z145 ?_; exact hK _ ⟨rfl, rfl, rfl, (by (conv => lhs; whnf); first | (simp_all [B4v]; done) | (simp_all [B4v]; omega)), trivial⟩
  ·refine z92 ?_; refine z11 ?_; refine nU rfl rfl rfl ?_; refine nU rfl rfl rfl ?_; refine nU rfl rfl rfl ?_; refine z150 ?_; refine z15 ?_; refine z137 ?_; refine nU rfl rfl rfl ?_; refine nU rfl rfl rfl ?_; refine nU rfl rfl rfl ?_; refine z150 ?_; refine z15 ?_; refine z137 ?_; refine z11 ?_; refine nU rfl rfl rfl ?_; refine nU rfl rfl rfl ?_; refine nU rfl rfl rfl ?_; refine nU rfl rfl rfl ?_; refine z178 ?_; exact hK _ ⟨rfl, rfl, rfl, (by (conv => lhs; whnf); first | (simp_all [B4v]; done) | (simp_all [B4v]; omega)), trivial⟩
 ·refine A0a (fun h47 => ?_) (fun h47 => ?_)
  ·refine z72 ?_; refine A1r Tryz.func164 Tryz.results164 wn_ () (by simp [C1f, h47]) (fun w hs => hs.none)
  ·refine z77 ?_; refine z95 ?_; refine z1 ?_; refine z7 ?_; refine z106 ?_; refine A0a (fun h50 => ?_) (fun h50 => ?_)
   ·refine z0 ?_; refine A0z ([(6, .bool (decide ((t.r.length : Int) = 0) && decide (0 ≤ t.n) && (decide (vars < 0) || decide (t.n < vars))))]) (fun hK => ?_) (fun base => ?_)
    ·refine z130 ?_; refine z20 ?_; refine z143 ?_; refine qI rfl rfl rfl wl_ (fun hg56 => E0d ?_) (fun hg56 => ?_)
     ·refine z26 ?_; refine z58 ?_; refine z110 ?_; refine qI rfl rfl rfl wl_ (fun hg61 => A2u ?_) (fun hg61 => ?_)
      ·refine z45 ?_; refine z24 ?_; refine qI rfl rfl rfl wl_ (fun hg64 => E0d ?_) (fun hg64 => ?_)
       ·refine z26 ?_; refine z24 ?_; refine z45 ?_; refine z35 ?_; refine z114 ?_; exact hK _ ⟨(by (conv => lhs; whnf); first | (simp_all [Bool.and_assoc]; done) | (simp_all [Bool.and_assoc]; omega)), trivial⟩
       ·refine z117 ?_; refine z31 ?_; refine z114 ?_; exact hK _ ⟨(by (conv => lhs; whnf); first | (simp_all [Bool.and_assoc]; done) | (simp_all [Bool.and_assoc]; omega)), trivial⟩
      ·refine z75 ?_; refine qU rfl rfl rfl ?_; refine qU rfl rfl rfl ?_; refine qU rfl rfl rfl ?_; refine qU rfl rfl rfl ?_; refine z4 ?_; refine z115 ?_; exact hK _ ⟨(by (conv => lhs; whnf); first | (simp_all [Bool.and_assoc]; done) | (simp_all [Bool.and_assoc]; omega)), trivial⟩
     ·refine z75 ?_; refine z129 ?_; refine z117 ?_; refine qU rfl rfl rfl ?_; refine qU rfl rfl rfl ?_; refine qU rfl rfl rfl ?_; refine qU rfl rfl rfl ?_; refine z4 ?_; refine z115 ?_; exact hK _ ⟨(by (conv => lhs; whnf); first | (simp_all [Bool.and_assoc]; done) | (simp_all [Bool.and_assoc]; omega)), trivial⟩
    ·refine A1r Tryz.func164 Tryz.results164 wn_ () (by simp_all [C1f, Bool.and_assoc]) (fun w hs => hs.none)
   ·refine z106 ?_; refine A0a (fun h71 => ?_) (fun h71 => ?_)
    ·refine z0 ?_; refine A0z ([(6, .bool (decide ((t.r.length : Int) = 0) && A9l t.name))]) (fun hK => ?_) (fun base => ?_)
     ·refine z130 ?_; refine z20 ?_; refine z143 ?_; refine qI rfl rfl rfl wl_ (fun hg77 => E0d ?_) (fun hg77 => ?_)
      ·refine z26 ?_; refine qT rfl rfl rfl (A0c Tryz.call218 (E4f t.name hnm) (fun x80 => ?_)); refine z114 ?_; exact hK _ ⟨(by (conv => lhs; whnf); first | (simp_all [Bool.and_assoc]; done) | (simp_all [Bool.and_assoc]; omega)), trivial⟩
      ·refine z169 ?_; exact hK _ ⟨(by (conv => lhs; whnf); first | (simp_all [Bool.and_assoc]; done) | (simp_all [Bool.and_assoc]; omega)), trivial⟩
     ·refine A1r Tryz.func164 Tryz.results164 wn_ () (by simp_all [C1f, Bool.and_assoc]) (fun w hs => hs.none)
    ·refine z0 ?_; refine z106 ?_; refine A0a (fun h82 => ?_) (fun h82 => ?_)
     ·refine z5 ?_; refine A1d ?_; refine z0 ?_; refine A0z ([(6, .bool (A0h t.r && within t.r dims))]) (fun hK => ?_) (fun base => ?_)
      ·refine z130 ?_; refine q0 rfl (A0c Tryz.call137 ((A9o hf (by simp_all)).1 t.r vr) (fun x88 => ?_)); refine z3 ?_; refine qI rfl rfl rfl wl_ (fun hg89 => E0d ?_) (fun hg89 => ?_)
       ·refine z26 ?_; refine z24 ?_; refine qT rfl rfl rfl (A0c Tryz.call219 (B0l (A9o hf (by simp_all)).2.2 t.r vr dims hd hl) (fun x93 => ?_)); refine z114 ?_; exact hK _ ⟨(by (conv => lhs; whnf); first | (simp_all [Bool.and_assoc]; done) | (simp_all [Bool.and_assoc]; omega)), trivial⟩
       ·refine z117 ?_; refine z115 ?_; exact hK _ ⟨(by (conv => lhs; whnf); first | (simp_all [Bool.and_assoc]; done) | (simp_all [Bool.and_assoc]; omega)), trivial⟩
      ·refine A1r Tryz.func164 Tryz.results164 wn_ () (by simp_all [C1f, Bool.and_assoc]) (fun w hs => hs.none)
     ·refine z106 ?_; refine A0a (fun h82 => ?_) (fun h82 => ?_)
      ·refine z5 ?_; refine A1d ?_; refine z0 ?_; refine A0z ([(6, .bool (A0h t.r && within t.r dims))]) (fun hK => ?_) (fun base => ?_)
       ·refine z130 ?_; refine q0 rfl (A0c Tryz.call137 ((A9o hf (by simp_all)).1 t.r vr) (fun x88 => ?_)); refine z3 ?_; refine qI rfl rfl rfl wl_ (fun hg89 => E0d ?_) (fun hg89 => ?_)
        ·refine z26 ?_; refine z24 ?_; refine qT rfl rfl rfl (A0c Tryz.call219 (B0l (A9o hf (by simp_all)).2.2 t.r vr dims hd hl) (fun x93 => ?_)); refine z114 ?_; exact hK _ ⟨(by (conv => lhs; whnf); first | (simp_all [Bool.and_assoc]; done) | (simp_all [Bool.and_assoc]; omega)), trivial⟩
        ·refine z117 ?_; refine z115 ?_; exact hK _ ⟨(by (conv => lhs; whnf); first | (simp_all [Bool.and_assoc]; done) | (simp_all [Bool.and_assoc]; omega)), trivial⟩
       ·refine A1r Tryz.func164 Tryz.results164 wn_ () (by simp_all [C1f, Bool.and_assoc]) (fun w hs => hs.none)
      ·refine z185 ?_; refine A0a (fun h82 => ?_) (fun h82 => ?_)
       ·refine z0 ?_; refine A0z ([(6, .bool (A0h t.r && within t.r dims))]) (fun hK => ?_) (fun base => ?_)
        ·refine z130 ?_; refine q0 rfl (A0c Tryz.call137 ((A9o hf (by simp_all)).1 t.r vr) (fun x88 => ?_)); refine z3 ?_; refine qI rfl rfl rfl wl_ (fun hg89 => E0d ?_) (fun hg89 => ?_)
         ·refine z26 ?_; refine z24 ?_; refine qT rfl rfl rfl (A0c Tryz.call219 (B0l (A9o hf (by simp_all)).2.2 t.r vr dims hd hl) (fun x93 => ?_)); refine z114 ?_; exact hK _ ⟨(by (conv => lhs; whnf); first | (simp_all [Bool.and_assoc]; done) | (simp_all [Bool.and_assoc]; omega)), trivial⟩
         ·refine z117 ?_; refine z115 ?_; exact hK _ ⟨(by (conv => lhs; whnf); first | (simp_all [Bool.and_assoc]; done) | (simp_all [Bool.and_assoc]; omega)), trivial⟩
        ·refine A1r Tryz.func164 Tryz.results164 wn_ () (by simp_all [C1f, Bool.and_assoc]) (fun w hs => hs.none)
       ·refine z106 ?_; refine A0a (fun h95 => ?_) (fun h95 => ?_)
        ·refine z0 ?_; refine A0z ([(6, .bool (A0d t.r && within t.r dims))]) (fun hK => ?_) (fun base => ?_)
         ·refine z130 ?_; refine q0 rfl (A0c Tryz.call88 ((A9o hf (by simp_all)).2.1 t.r vr) (fun x99 => ?_)); refine z3 ?_; refine qI rfl rfl rfl wl_ (fun hg100 => E0d ?_) (fun hg100 => ?_)
          ·refine z26 ?_; refine z24 ?_; refine qT rfl rfl rfl (A0c Tryz.call219 (B0l (A9o hf (by simp_all)).2.2 t.r vr dims hd hl) (fun x104 => ?_)); refine z114 ?_; exact hK _ ⟨(by (conv => lhs; whnf); first | (simp_all [Bool.and_assoc]; done) | (simp_all [Bool.and_assoc]; omega)), trivial⟩
          ·refine z117 ?_; refine z115 ?_; exact hK _ ⟨(by (conv => lhs; whnf); first | (simp_all [Bool.and_assoc]; done) | (simp_all [Bool.and_assoc]; omega)), trivial⟩
         ·refine A1r Tryz.func164 Tryz.results164 wn_ () (by simp_all [C1f, Bool.and_assoc]) (fun w hs => hs.none)
        ·refine z163 ?_; refine z0 ?_; refine z95 ?_; refine z124 ?_; refine A3z (X := Nat) (fun i => i ≤ t.sys.length ∧ ∀ j, j < i → C2u t dims (t.sys.getD j br0) = true) (fun i => [(2, .int .i64 dims), (3, .pointer (some ⟨b3, 0, none⟩)), (107, sl vs t.sys.length), (108, .int .i64 (t.sys.length : Int)), (109, .int .i64 (i : Int))]) (fun i => BLx t.sys vs VF VK2 :: RT t vr vk vs :: []) (fun i => [A1t b3 (tc t vr vk vs) 35]) (fun i => t.sys.length - i) (0) (⟨Nat.zero_le _, fun j hj => by omega⟩) (by exact ⟨rfl, rfl, rfl, rfl, rfl, trivial⟩) ?_ ?_
         ·exact fun w hs => hs.less (by simp +contextual)
         ·intro i base0 ⟨hi, hok⟩ next0; refine z119 ?_; refine A0a (fun h110 => ?_) (fun h110 => ?_)
          ·have hlt : i < t.sys.length := by have := of_decide_eq_true h110; omega
           obtain ⟨bk, o, hav⟩ := hA2 (by omega); refine z139 ?_; refine z37 ?_; refine q0 rfl (E3x ?_); refine q0 rfl (A2s fun b8 => ?_); refine z149 ?_; refine A6b i hlt ?_; refine A0z ([(2, .int .i64 dims), (3, .pointer (some ⟨b3, 0, none⟩)), (107, sl vs t.sys.length), (108, .int .i64 (t.sys.length : Int)), (109, .int .i64 (i : Int)), (132, .bool (!(C2u t dims (t.sys.getD i br0))))]) (fun hK => ?_) (fun base => ?_)
           ·refine A2a (pn := 1000000) (tn := false) (A := [0, 1, 3, 0, 8, 24, 63, 127, 255, 511, 1023, 2047, 4095, 8191, 16383, 32767, 16383, 131071, 262143, 524287]) (l := [0, 1, 2, 3, 4, 5, 6, 7, 8, 9, 10, 11, 12, 13, 14, 15, 16, 17, 18, 19]) (fin := []) Tab.mixed ⟨_, Tryz.func164⟩ (by rfl) ?_; refine z108 ?_; refine n0 rfl (D7h ?_); refine z108 ?_; refine n0 rfl (A1p Tryz.call172 (B1q t.kind) (fun x118 => ?_)); refine n0 rfl (E6p ?_); refine z15 ?_; refine nI rfl rfl rfl wl_ (fun hg120 => C0f ?_) (fun hg120 => ?_)
            ·refine z34 ?_; refine nT rfl rfl rfl (A1p Tryz.call88 ((D6k hf hlt).2.1 _ (VF i)) (fun x123 => ?_)); refine nT rfl rfl rfl (D7f ?_); refine z170 ?_; refine nI rfl rfl rfl wl_ (fun hg126 => C0f ?_) (fun hg126 => ?_)
             ·refine z34 ?_; refine z39 ?_; refine nT rfl rfl rfl (A1p Tryz.call219 (B0l (D6k hf hlt).2.2 _ (VF i) dims hd hl) (fun x130 => ?_)); refine nT rfl rfl rfl (D7f ?_); refine z145 ?_; exact hK _ ⟨rfl, rfl, rfl, rfl, rfl, (by (conv => lhs; whnf); first | (simp_all [C2u]; done) | (simp_all [C2u]; omega)), trivial⟩
             ·refine z137 ?_; refine z38 ?_; refine z93 ?_; exact hK _ ⟨rfl, rfl, rfl, rfl, rfl, (by (conv => lhs; whnf); first | (simp_all [C2u]; done) | (simp_all [C2u]; omega)), trivial⟩
            ·refine z92 ?_; refine z150 ?_; refine z15 ?_; refine z137 ?_; refine z178 ?_; exact hK _ ⟨rfl, rfl, rfl, rfl, rfl, (by (conv => lhs; whnf); first | (simp_all [C2u]; done) | (simp_all [C2u]; omega)), trivial⟩
           ·refine A0a (fun h132 => ?_) (fun h132 => ?_)
            ·refine z72 ?_; have ha := D1n hlt (by simpa using h132); refine A1r Tryz.func164 Tryz.results164 wn_ () (by rw [C1f, ha]; clear hok ha h132; simp_all [Bool.and_assoc]) (fun w hs => hs.none)
            ·refine z134 ?_; have hb : C2u t dims (t.sys.getD i br0) = true := by simpa using h132
             refine A0b (fun w hs => ?_) (next0 (i + 1) _ ⟨hlt, fun j hj => (by rcases Nat.lt_succ_iff_lt_or_eq.mp hj with h | h; exact hok j h; subst h; exact hb)⟩ (by omega) ⟨rfl, rfl, rfl, rfl, rfl, trivial⟩); exact (hs.less (by simp +contextual)).drop
          ·have hge : i = t.sys.length := by have := of_decide_eq_false h110; omega
           refine z16 ?_; refine z95 ?_; refine z20 ?_; refine z94 ?_; have ha := F0g (t := t) (g := C2u t dims) (by rw [← hge]; exact hok); refine A1r Tryz.func164 Tryz.results164 wn_ () (by rw [C1f, ha]; clear hok ha; simp_all [Bool.and_assoc]) (fun w hs => hs.none)
abbrev F5k (t : T) : Prop := (B4u t = true ∨ F5p) → ∀ (vars dims : Int) (bound : Bool) vr vk vs, A2j vars → 0 ≤ dims → dims + depth t ≤ 1152921504606846976 → Spec Tryz.prog 86 #[.agg (tc t vr vk vs).toArray, .int .i64 vars, .int .i64 dims, .bool bound] [RT t vr vk vs] [] (fun _ : Unit => .bool (B4q t vars dims bound)) (fun _ => []) (fun _ => [])
abbrev G0j (b1 b2 b3 : Nat) : List Value := [.pointer (some ⟨b1, 0, none⟩), .pointer (some ⟨b2, 0, none⟩), .pointer (some ⟨b3, 0, none⟩)]
abbrev G4f (b1 b2 b3 : Nat) (vars dims : Int) (bound : Bool) : List Res := [A1t b1 [.int .i64 vars] 3, A1t b2 [.int .i64 dims] 3, A1t b3 [.bool bound] 4]
def B3s (v d : Int) : Prop := 0 ≤ v ∧ v ≤ 1 ∧ 0 ≤ d ∧ d ≤ 1
theorem D6v (k i : Int) : B3s (binds k i).1 (binds k i).2 := by
 unfold binds B3s; repeat (split; (simp))
 simp
theorem E7x {t : T} {k : T} {v d : Int} (h : (k, v, d) ∈ parts t) : B3s v d := by
 have hk : ∀ (kind : Int) (i : Nat) (ks : List T), (k, v, d) ∈ A4g kind i ks → B3s v d := by
  intro kind i ks
  induction ks generalizing i with
  | nil => intro h; simp [A4g] at h
  | cons a ks ih =>
   intro h; simp only [A4g, List.mem_cons] at h; rcases h with h | h
   ·have e : (v, d) = binds kind i := (Prod.mk.inj h).2; have := D6v kind i; rw [← e] at this; exact this
   ·exact ih _ h
 have hs : ∀ (kind : Int) (bs : List Br), (k, v, d) ∈ A3f kind bs → B3s v d := by
  intro kind bs
  induction bs with
  | nil => intro h; simp [A3f] at h
  | cons b bs ih =>
   intro h; simp only [A3f, List.mem_append, List.mem_map] at h; rcases h with ⟨a, ha, e⟩ | h
   ·have e2 := (Prod.mk.inj e).2; have e3 := (Prod.mk.inj e2); rw [← e3.1, ← e3.2]; unfold B3s more; split <;> simp
   ·exact ih h
 unfold parts at h; rcases List.mem_append.mp h with h | h
 ·exact hk _ _ _ h
 ·exact hs _ _ h
theorem C2l {t : T} {p : Part} (h : p ∈ parts t) : depth p.1 < depth t := by
 obtain ⟨m, hm⟩ := List.mem_iff_getElem?.mp h; exact D9k hm
theorem E6c (k : T) (vr vk vs : SH) (b1 b2 b3 : Nat) (vars dims v d : Int) (bound : Bool) (hv : A2j vars) (h0 : 0 ≤ dims) (hvd : B3s v d) (hl : dims + 1 + depth k ≤ 1152921504606846976) (hp : B4u k = true ∨ F5p) (ih : F5k k) : Spec Tryz.prog 165 #[.agg (tc k vr vk vs).toArray, .int .i64 v, .int .i64 d, .pointer (some ⟨b1, 0, none⟩), .pointer (some ⟨b2, 0, none⟩), .pointer (some ⟨b3, 0, none⟩)] [RT k vr vk vs] (G4f b1 b2 b3 vars dims bound) (fun _ : Unit => .bool (B4q k (IntKind.i64.wrap (vars + if vars < 0 then 0 else v)) (dims + d) bound)) (fun _ => []) (fun _ => G4f b1 b2 b3 vars dims bound) := by
 refine A0e (args := [.agg (tc k vr vk vs).toArray, .int .i64 v, .int .i64 d, .pointer (some ⟨b1, 0, none⟩), .pointer (some ⟨b2, 0, none⟩), .pointer (some ⟨b3, 0, none⟩)]) Tryz.func165 Tryz.ntmps165 rfl lb_ fun B hB => ?_
 obtain ⟨hv0, hv1, hd0, hd1⟩ := hvd; refine z68 ?_; refine q0 rfl (A2c fun b6 => ?_); refine z101 ?_; refine z187 ?_; refine z85 ?_; refine A0z ([(1, .int .i64 (if vars < 0 then 0 else v)), (2, .int .i64 d), (3, .pointer (some ⟨b1, 0, none⟩)), (4, .pointer (some ⟨b2, 0, none⟩)), (5, .pointer (some ⟨b3, 0, none⟩)), (6, .pointer (some ⟨b6, 0, none⟩))]) (fun hK => ?_) (fun base => ?_)
 ·refine A0a (fun h11 => ?_) (fun h11 => ?_)
  ·refine gR_ ?_; refine z69 ?_; exact hK _ ⟨(by first | (rw [if_pos (of_decide_eq_true h11)]; rfl) | (rw [if_neg (of_decide_eq_false h11)]; rfl)), rfl, rfl, rfl, rfl, rfl, trivial⟩
  ·refine z5 ?_; exact hK _ ⟨(by first | (rw [if_pos (of_decide_eq_true h11)]; rfl) | (rw [if_neg (of_decide_eq_false h11)]; rfl)), rfl, rfl, rfl, rfl, rfl, trivial⟩
 ·refine z113 ?_; refine z13 ?_; refine z3 ?_; refine q0 rfl (F1p ?_); refine z13 ?_; refine z3 ?_; refine z8 ?_; refine z13 ?_; refine q0 rfl (A0c Tryz.call86 (ih hp (IntKind.i64.wrap (vars + if vars < 0 then 0 else v)) (dims + d) bound vr vk vs (C5j _) (by omega) (by omega)) (fun x20 => ?_)); refine z69 ?_; refine A1r Tryz.func165 Tryz.results165 wn_ () rfl (fun w hs => (hs.less (by simp)).drop)
theorem F0e (t : T) (hp : B4u t = true ∨ F5p) (ih : ∀ p, p ∈ parts t → F5k p.1) (vars dims : Int) (bound : Bool) (vr vk vs : SH) (hv : A2j vars) (h0 : 0 ≤ dims) (hl : dims + depth t ≤ 1152921504606846976) : Spec Tryz.prog 86 #[.agg (tc t vr vk vs).toArray, .int .i64 vars, .int .i64 dims, .bool bound] [RT t vr vk vs] [] (fun _ : Unit => .bool (B4q t vars dims bound)) (fun _ => []) (fun _ => []) := by
 refine A0e (args := [.agg (tc t vr vk vs).toArray, .int .i64 vars, .int .i64 dims, .bool bound]) Tryz.func86 Tryz.ntmps86 rfl lb_ fun B hB => ?_
 refine z68 ?_; refine q0 rfl (A2c fun b4 => ?_); refine q0 rfl (A2c fun b5 => ?_); refine q0 rfl (A2c fun b6 => ?_); refine q0 rfl (A2c fun b7 => ?_); refine z177 ?_; refine A0z ([(4, .pointer (some ⟨b4, 0, none⟩)), (5, .pointer (some ⟨b5, 0, none⟩)), (6, .pointer (some ⟨b6, 0, none⟩)), (7, .pointer (some ⟨b7, 0, none⟩)), (20, .bool ((bound && decide (24 < dims)) || !(C1f t vars dims)))]) (fun hK => ?_) (fun base => ?_)
 ·refine gR_ ?_; refine z13 ?_; refine z3 ?_; refine qI rfl rfl rfl wl_ (fun hg10 => G0k ?_) (fun hg10 => ?_)
  ·refine z53 ?_; refine z110 ?_; refine qI rfl rfl rfl wl_ (fun hg14 => C2x ?_) (fun hg14 => ?_)
   ·refine z26 ?_; refine z26 ?_; refine qT rfl rfl rfl (A0c Tryz.call164 (D5n t (C3w hp) vr vk vs vars dims h0 (by unfold A2j; omega)) (fun x18 => ?_)); refine z188 ?_; exact hK _ ⟨rfl, rfl, rfl, rfl, (by (conv => lhs; whnf); first | (simp_all [Bool.and_assoc]; done) | (simp_all [Bool.and_assoc]; omega)), trivial⟩
   ·refine z127 ?_; refine z89 ?_; exact hK _ ⟨rfl, rfl, rfl, rfl, (by (conv => lhs; whnf); first | (simp_all [Bool.and_assoc]; done) | (simp_all [Bool.and_assoc]; omega)), trivial⟩
  ·refine z4 ?_; refine z129 ?_; refine qT rfl rfl rfl (C2x ?_); refine z26 ?_; refine z26 ?_; refine qT rfl rfl rfl (A0c Tryz.call164 (D5n t (C3w hp) vr vk vs vars dims h0 (by unfold A2j; omega)) (fun x18 => ?_)); refine z188 ?_; exact hK _ ⟨rfl, rfl, rfl, rfl, (by (conv => lhs; whnf); first | (simp_all [Bool.and_assoc]; done) | (simp_all [Bool.and_assoc]; omega)), trivial⟩
 ·refine A0a (fun h20 => ?_) (fun h20 => ?_)
  ·refine z72 ?_; refine A1r Tryz.func86 Tryz.results86 wn_ () (by rw [D4i, h20]; rfl) (fun w hs => hs.none)
  ·refine z5 ?_; refine z113 ?_; refine z44 ?_; have hE := D0x t vr vk vs 165 (G0j b5 b6 b7) [] (G4f b5 b6 b7 vars dims bound) (fun p => B4q p.1 (IntKind.i64.wrap (vars + if vars < 0 then 0 else p.2.1)) (dims + p.2.2) bound) Tryz.call165 (fun k v d hm vr vk vs => E6c k vr vk vs b5 b6 b7 vars dims v d bound hv h0 (E7x hm) (by have := C2l hm; simp only at this; omega) (D8f hp hm) (ih _ hm)); refine q0 rfl (A0c Tryz.call98 (hE) (fun x23 => ?_)); refine z69 ?_; refine A1r Tryz.func86 Tryz.results86 wn_ () (by rw [D4i, h20]; rfl) (fun w hs => hs.none)
theorem F0f : ∀ t : T, F5k t := T.ind fun t ih hp vars dims bound vr vk vs hv h0 hl => F0e t hp ih vars dims bound vr vk vs hv h0 hl
theorem C2b (t : T) (hp : B4u t = true ∨ F5p) (vr vk vs : SH) (hsz : size t ≤ 1152921504606846) : Spec Tryz.prog 32 #[.agg (tc t vr vk vs).toArray] [RT t vr vk vs] [] (fun _ : Unit => .int .i64 (A2p t)) (fun _ => []) (fun _ => []) := by
 refine A0e (args := [.agg (tc t vr vk vs).toArray]) Tryz.func32 Tryz.ntmps32 rfl lb_ fun B hB => ?_
 have hds := B2t t; refine z68 ?_; refine q0 rfl (A2c fun b1 => ?_); refine z101 ?_; refine z113 ?_; refine q0 rfl (A0c Tryz.call85 (D7o t vr vk vs) (fun x5 => ?_)); refine z189 ?_; refine A0a (fun h7 => ?_) (fun h7 => ?_)
 ·have hs := of_decide_eq_true h7; refine z135 ?_; refine A1r Tryz.func32 Tryz.results32 wn_ () (by rw [A2p, if_pos hs]) (fun w hs => hs.none)
 ·have hs := of_decide_eq_false h7; refine z77 ?_; refine z113 ?_; refine q0 rfl (A0c Tryz.call86 (F0f t hp (-1) 24 false vr vk vs (by unfold A2j; omega) (by omega) (by omega)) (fun x10 => ?_)); refine z121 ?_; refine A0a (fun h11 => ?_) (fun h11 => ?_)
  ·refine z72 ?_; refine A1r Tryz.func32 Tryz.results32 wn_ () (by rw [A2p, if_neg hs]; simp_all) (fun w hs => hs.none)
  ·refine z5 ?_; refine z72 ?_; refine A1r Tryz.func32 Tryz.results32 wn_ () (by rw [A2p, if_neg hs]; simp_all) (fun w hs => hs.none)
end Go.Hy
namespace Go.Hy
theorem E0h {n : Int} (h : A2j n) : IntKind.i64.wrap n = n := by rw [IntKind.wrap_i64]; unfold A2j at h; omega
theorem D3u {t : T} : A2p t = 0 ↔ sized t = 0 ∧ B4q t (-1) 24 false = true := by
 unfold A2p
 split
 ·rename_i h; constructor
  ·intro h2; exact absurd h2 h
  ·intro h2; exact absurd h2.1 h
 ·rename_i h
  have h : sized t = 0 := by simpa using h
  split
  ·rename_i h3; simp [h, h3]
  ·rename_i h3; simp [h3]
theorem E5k {t k : T} (hk : k ∈ t.kids) : depth k < depth t := by obtain ⟨p, hp, e⟩ := A5p hk; exact e ▸ C2l hp
end Go.Hy
namespace Go.Hy
/-! ### The dimensions of terms; a dimension taken out -/
def A9a (s : Nat) (i : Int) : Nat := if 0 ≤ i ∧ i < 24 then ((s &&& 16777215) &&& (2 ^ i.toNat - 1)) ||| ((s &&& 16777215) / 2 ^ (i.toNat + 1) * 2 ^ i.toNat) else s &&& 16777215
theorem A7q (s : Nat) : s &&& 16777215 < 16777216 := by rw [D4h]; exact Nat.mod_lt _ (by decide)
theorem B4l (s : Nat) (i : Int) : A9a s i < 16777216 := by
 have h := A7q s
 unfold A9a
 split
 ·refine Nat.or_lt_two_pow (n := 24) (Nat.lt_of_le_of_lt Nat.and_le_left h) ?_
  generalize s &&& 16777215 = q at *
  have h1 : q / 2 ^ (i.toNat + 1) * 2 ^ i.toNat ≤ q / 2 ^ i.toNat * 2 ^ i.toNat := Nat.mul_le_mul_right _ (Nat.div_le_div_left (Nat.pow_le_pow_right (by omega) (by omega)) (Nat.pow_pos (by omega)))
  have h2 := Nat.div_mul_le_self q (2 ^ i.toNat)
  show _ < 16777216
  omega
 ·exact h
theorem B4k (l : List Cl) : A4e l < 16777216 := by rw [C7a]; exact A7q _
end Go.Hy
namespace Go.Hy
/-! ### Lifting: masks, clauses, formulas -/
def A0l (s : Nat) (f b : Int) : Int × Nat :=
 if f < 0 ∨ b < 0 then (2, 0) else
 if A1f (s &&& 16777215) (2 ^ (min f.toNat 24) - 1) = 0 then (0, (s &&& 16777215) &&& (2 ^ (min f.toNat 24) - 1)) else
 if 24 ≤ b ∨ 16777215 < A1f (s &&& 16777215) (2 ^ (min f.toNat 24) - 1) * 2 ^ b.toNat then (10, 0) else
 (0, ((s &&& 16777215) &&& (2 ^ (min f.toNat 24) - 1)) ||| (A1f (s &&& 16777215) (2 ^ (min f.toNat 24) - 1) * 2 ^ b.toNat))
theorem A7e (a b i : Nat) : (A1f a b).testBit i = (decide (i < 32) && a.testBit i && !b.testBit i) := by
 unfold A1f
 rw [BitVec.testBit_toNat]
 by_cases h : i < 32
 ·rw [BitVec.getLsbD_and, BitVec.getLsbD_not, BitVec.getLsbD_ofNat, BitVec.getLsbD_ofNat]
  simp [h]
 ·have : (BitVec.ofNat 32 a &&& ~~~BitVec.ofNat 32 b).getLsbD i = false := BitVec.getLsbD_of_ge _ _ (by omega)
  rw [this]; simp [h]
theorem A6d (s i : Nat) : (s &&& 16777215).testBit i = (decide (i < 24) && s.testBit i) := by
 rw [D4h, Nat.testBit_mod_two_pow]
theorem B4e (m i : Nat) : (2 ^ m - 1).testBit i = decide (i < m) := Nat.testBit_two_pow_sub_one m i
theorem E5y {q m : Nat} (h : q < 16777216) : A1f q m < 16777216 := by
 refine Nat.lt_pow_two_of_testBit (n := 24) _ (fun i hi => ?_)
 rw [A7e, Nat.testBit_lt_two_pow (x := q) (Nat.lt_of_lt_of_le h (Nat.pow_le_pow_right (n := 2) (by decide) hi))]
 simp
theorem A7r (s : Nat) (f b : Int) : (A0l s f b).2 < 16777216 := by
 unfold A0l
 split
 ·decide
 ·split
  ·exact Nat.lt_of_le_of_lt Nat.and_le_left (A7q s)
  ·split
   ·decide
   ·refine Nat.or_lt_two_pow (n := 24) ?_ ?_
    ·exact Nat.lt_of_le_of_lt Nat.and_le_left (A7q s)
    ·rename_i h; simp only [not_or] at h; have := h.2; omega
def A1c (c : Cl) (f b : Int) : Int × Cl :=
 if A0q c = false then (2, cl0) else
 if (A0l c.pos f b).1 ≠ 0 then ((A0l c.pos f b).1, cl0) else
 if (A0l c.neg f b).1 ≠ 0 then ((A0l c.neg f b).1, cl0) else
 (0, ⟨(A0l c.pos f b).2, (A0l c.neg f b).2⟩)
theorem B4m (c : Cl) (f b : Int) : u32 (A1c c f b).2 := by
 have h1 := A7r c.pos f b
 have h2 := A7r c.neg f b
 unfold A1c
 split
 ·exact ⟨(by decide : (0 : Nat) < 4294967296), (by decide : (0 : Nat) < 4294967296)⟩
 ·split
  ·exact ⟨(by decide : (0 : Nat) < 4294967296), (by decide : (0 : Nat) < 4294967296)⟩
  ·split
   ·exact ⟨(by decide : (0 : Nat) < 4294967296), (by decide : (0 : Nat) < 4294967296)⟩
   ·exact ⟨by show (A0l c.pos f b).2 < _; omega, by show (A0l c.neg f b).2 < _; omega⟩
/-! Formulas, clause by clause. -/
def A7s (g : Cl → Int × Cl) (l : List Cl) : Int × List Cl := match l.find? (fun c => (g c).1 ≠ 0) with
 | some c => ((g c).1, [])
 | none => (0, l.map fun c => (g c).2)
theorem D0m {g : Cl → Int × Cl} {l : List Cl} {i : Nat} (hi : i < l.length) (h0 : ∀ j, j < i → (g (l.getD j cl0)).1 = 0) (h : (g (l.getD i cl0)).1 ≠ 0) : A7s g l = ((g (l.getD i cl0)).1, []) := by
 have : l.find? (fun c => (g c).1 ≠ 0) = some (l.getD i cl0) := by
  rw [List.find?_eq_some_iff_getElem]
  rw [A5g (d := cl0) hi] at h ⊢
  refine ⟨by simpa using h, i, hi, rfl, fun j hj => ?_⟩
  have := h0 j hj
  rw [A5g (d := cl0) (by omega)] at this
  simp [this]
 rw [A7s, this]
theorem C6w {g : Cl → Int × Cl} {l : List Cl} (h0 : ∀ j, j < l.length → (g (l.getD j cl0)).1 = 0) : A7s g l = (0, l.map fun c => (g c).2) := by
 have : l.find? (fun c => (g c).1 ≠ 0) = none := by
  rw [List.find?_eq_none]
  intro x hx
  obtain ⟨j, hj, e⟩ := List.mem_iff_getElem.mp hx
  have := h0 j hj
  rw [A5g (d := cl0) hj, e] at this
  simp [this]
 rw [A7s, this]
theorem D0l {g : Cl → Int × Cl} {l : List Cl} : (A7s g l).1 = 0 ↔ ∀ c, c ∈ l → (g c).1 = 0 := by
 unfold A7s
 cases h : l.find? (fun c => (g c).1 ≠ 0) with
 | none =>
  rw [List.find?_eq_none] at h
  simp only [true_iff]
  intro c hc
  simpa using h c hc
 | some c =>
  have h1 := List.find?_some h
  have h2 := List.mem_of_find?_eq_some h
  simp only
  refine ⟨fun h3 => ?_, fun h3 => h3 c h2⟩
  simp at h1; exact absurd h3 h1
theorem E5a {g : Cl → Int × Cl} {l : List Cl} (h : (A7s g l).1 = 0) : A7s g l = (0, l.map fun c => (g c).2) :=
 C6w fun j hj => D0l.mp h _ (A0n hj)
theorem C6r {l : List Cl} : A0h l = true ↔ A0w l = (0, l) := by
 rw [← B9e, Bool.and_eq_true, decide_eq_true_eq, decide_eq_true_eq]
 constructor
 ·rintro ⟨h1, h2⟩; exact Prod.ext h1 h2
 ·intro h; rw [h]; exact ⟨rfl, rfl⟩
def A0t (l : List Cl) (f b : Int) : Int × List Cl :=
 if A0h l = false then (2, []) else
 if (A7s (fun c => A1c c f b) l).1 ≠ 0 then ((A7s (fun c => A1c c f b) l).1, []) else A0w (A7s (fun c => A1c c f b) l).2
section
variable {C : Type} {A : Tr C} {t : T} {c : C} {e : Int}
theorem B8r (h : A.own c t.kind t.n t.name t.r = .bad e) : A7h A t c = .bad e := by rw [A9s, h]; rfl
theorem C7t {p : Int × List Cl} {i : Nat} {l : List T} (h : A.own c t.kind t.n t.name t.r = .ok (.inr p)) (hi : i < t.kids.length) (hl : A6t A t.kind 0 (t.kids.take i) c = .ok l) {c' : C} (hc : A.kid c (binds t.kind i) = .ok c') (hb : A7h A (t.kids.getD i t0) c' = .bad e) : A7h A t c = .bad e := by
 have h1 : A6t A t.kind 0 (t.kids.take (i + 1)) c = .bad e := by
  rw [A0i (d := t0) hi, B7m, hl]
  simp only [A2m.bind, List.length_take, Nat.zero_add, Nat.min_eq_left (Nat.le_of_lt hi)]
  rw [hc]; simp only; rw [hb]
 have h2 := C8a (m := t.kids.drop (i + 1)) h1
 rw [List.take_append_drop] at h2
 rw [A9s, h]; simp only [A2m.bind]; rw [h2]
theorem D1z {k : Int} {ts : List T} {i : Nat} {l : List T} {u : T} (hi : i < ts.length) (hl : A6t A k 0 (ts.take i) c = .ok l) {c' : C} (hc : A.kid c (binds k i) = .ok c') (hb : A7h A (ts.getD i t0) c' = .ok u) : A6t A k 0 (ts.take (i + 1)) c = .ok (l ++ [u]) := by
 rw [A0i (d := t0) hi, B7m, hl]
 simp only [A2m.bind, List.length_take, Nat.zero_add, Nat.min_eq_left (Nat.le_of_lt hi)]
 rw [hc]; simp only; rw [hb]
theorem C7x {k : Int} {ts : List T} {i : Nat} {l : List T} (hi : i < ts.length) (hl : A5h A k (ts.take i) c = .ok l) {c' : C} (hc : A.kid c (0, more k) = .ok c') (hb : A7h A (ts.getD i t0) c' = .bad e) : A5h A k ts c = .bad e := by
 have h1 : A5h A k (ts.take (i + 1)) c = .bad e := by
  rw [A0i (d := t0) hi, B7l, hl]
  simp only [A2m.bind]
  rw [hc]; simp only; rw [hb]
 have h2 := C7w (m := ts.drop (i + 1)) h1
 rwa [List.take_append_drop] at h2
theorem D2a {k : Int} {ts : List T} {i : Nat} {l : List T} {u : T} (hi : i < ts.length) (hl : A5h A k (ts.take i) c = .ok l) {c' : C} (hc : A.kid c (0, more k) = .ok c') (hb : A7h A (ts.getD i t0) c' = .ok u) : A5h A k (ts.take (i + 1)) c = .ok (l ++ [u]) := by
 rw [A0i (d := t0) hi, B7l, hl]
 simp only [A2m.bind]
 rw [hc]; simp only; rw [hb]
theorem B1a {p : Int × List Cl} {s : Nat} {l : List T} {bs : List Br} (h : A.own c t.kind t.n t.name t.r = .ok (.inr p)) (hl : A6t A t.kind 0 t.kids c = .ok l) (hs : s < t.sys.length) (hb : A6v A t.kind (t.sys.take s) c = .ok bs) (hf : A.A1z c (t.sys.getD s br0).A1z = .bad e ∨ ∃ f', A.A1z c (t.sys.getD s br0).A1z = .ok (some f') ∧ A5h A t.kind (t.sys.getD s br0).kids c = .bad e) : A7h A t c = .bad e := by
 have h1 : A6v A t.kind (t.sys.take (s + 1)) c = .bad e := by
  rw [A0i (d := br0) hs, B3u, hb]
  simp only [A2m.bind]
  rcases hf with hf | ⟨f', hf, h2⟩
  ·rw [hf]
  ·rw [hf]; simp only; rw [h2]
 have h2 := C0k (m := t.sys.drop (s + 1)) h1
 rw [List.take_append_drop] at h2
 rw [A9s, h]; simp only [A2m.bind]; rw [hl]; simp only; rw [h2]
theorem C0l {k : Int} {ss : List Br} {s : Nat} {bs : List Br} {f' : List Cl} {ks : List T} (hs : s < ss.length) (hb : A6v A k (ss.take s) c = .ok bs) (hf : A.A1z c (ss.getD s br0).A1z = .ok (some f')) (hk : A5h A k (ss.getD s br0).kids c = .ok ks) : A6v A k (ss.take (s + 1)) c = .ok (bs ++ [.mk f' ks]) := by
 rw [A0i (d := br0) hs, B3u, hb]
 simp only [A2m.bind]
 rw [hf]; simp only; rw [hk]
theorem C3k {p : Int × List Cl} {l : List T} {bs : List Br} (h : A.own c t.kind t.n t.name t.r = .ok (.inr p)) (hl : A6t A t.kind 0 t.kids c = .ok l) (hb : A6v A t.kind t.sys c = .ok bs) : A7h A t c = .ok (.mk t.kind p.1 t.name p.2 l bs) := by
 rw [A9s, h]; simp only [A2m.bind]; rw [hl]; simp only; rw [hb]
end
theorem D0k {g : Cl → Int × Cl} {l : List Cl} (h : ∀ c, u32 (g c).2) : ∀ c, c ∈ (A7s g l).2 → u32 c := by
 intro c hc
 unfold A7s at hc
 split at hc
 ·cases hc
 ·obtain ⟨d, _, rfl⟩ := List.mem_map.mp hc; exact h d
theorem E5b {g : Cl → Int × Cl} {l : List Cl} : (A7s g l).2.length ≤ l.length := by
 unfold A7s
 split <;> simp
theorem D3k (k : Int) : 0 ≤ more k ∧ more k ≤ 1 := by unfold more; split <;> omega
theorem D2h {t : T} {i : Nat} (h : i < t.kids.length) : size (t.kids.getD i t0) < size t := by
 obtain ⟨p, hp, e⟩ := A5p (A0n (d := t0) h); exact e ▸ B1c hp
theorem D2g {t : T} {s k : Nat} (h : s < t.sys.length) (h2 : k < (t.sys.getD s br0).kids.length) : size ((t.sys.getD s br0).kids.getD k t0) < size t := by
 obtain ⟨p, hp, e⟩ := A5m (A0n (d := br0) h) (A0n (d := t0) h2); exact e ▸ B1c hp
/-! ### What is guarded -/
theorem C2a : h0.er = t0 := by simp [h0, HT.er, HT.erL, HT.erB, t0]
theorem St.h0R {B : A6n} {Γ : List Fact} {Ms : List Res} {w : World} (y : Tys) (hs : St B Γ Ms w) : St B Γ (A6h (A7y y h0) :: Ms) w := by
 have h1 := ((((hs.B5d).B5d).A2r 2 y.b).A2r 6 y.t).A2r 2 y.c
 exact St.E9a (y := y) (k := 0) (n := 0) (nm := ByteArray.mk #[]) (r := []) (v := nul) (u := nul) (x := nul) (ks := []) (ss := []) rfl rfl rfl rfl rfl rfl (by simpa [A5o, C2v] using h1)
/-! ### A tree of the caller's own, known for good -/
theorem Spec.B0q {P : Program} {k : FuncId} {args : Array Value} {pre : List Fact} (y : Tys) {u : T} (g : Value → Value) (h : Spec P k args pre [] (fun x : {h : HT // h.er = u} => g (.agg (tc u x.1.vr x.1.vk x.1.vs).toArray)) (fun _ => []) (fun x => [A6h (A7y y x.1)])) (hok : ∀ ok w, St ⟨ok, A2v [], w⟩ pre [] w → okT u) :
  Spec P k args pre [] (fun x : SH × SH × SH => g (.agg (tc u x.1 x.2.1 x.2.2).toArray)) (fun x => [RT u x.1 x.2.1 x.2.2]) (fun _ => []) := fun ok w hk hs => (h ok w hk hs).mono fun e w' hh => by
 obtain ⟨x, he, hs'⟩ := hh
 have h1 : St ⟨ok, A2v [], w⟩ [] (A7y y x.1 ++ []) w' := hs'.unpack
 have h2 := St.B0q y trivial x.1 (by rw [x.2]; exact hok ok w hs) h1
 rw [x.2] at h2
 exact ⟨(x.1.vr, x.1.vk, x.1.vs), he, h2⟩
theorem D9z.B0q {P : Program} {Te : TypeId} {k : FuncId} {args : Array Value} {pre : List Fact} (y : Tys) {r : A2m T} (h : D9z P Te k args pre r (fun (u : T) => fun x : {h : HT // h.er = u} => .agg (tc u x.1.vr x.1.vk x.1.vs).toArray) (fun _ _ => []) (fun (u : T) => fun x : {h : HT // h.er = u} => [A6h (A7y y x.1)])) (hok : ∀ u, r = .ok u → ∀ ok w, St ⟨ok, A2v [], w⟩ pre [] w → okT u) :
  D9z P Te k args pre r (fun (u : T) => fun x : SH × SH × SH => .agg (tc u x.1 x.2.1 x.2.2).toArray) (fun u x => [RT u x.1 x.2.1 x.2.2]) (fun _ _ => []) := ⟨fun u hu => Spec.B0q y (fun v => v) (h.1 u hu) (hok u hu), h.2⟩
abbrev A1n (l : List Cl) : Prop := (∀ c, c ∈ l → u32 c) ∧ l.length * 8 ≤ reach
section
variable {C : Type} {A : Tr C}
mutual
theorem C5r (ho : ∀ c k n nm r p, A2j k → A2j n → A1n r → A.own c k n nm r = .ok (.inr p) → A2j p.1 ∧ A1n p.2) (hi : ∀ c k n nm r u, A.own c k n nm r = .ok (.inl u) → okT u) (hf : ∀ c f f', A1n f → A.A1z c f = .ok (some f') → A1n f') : ∀ (t : T) (c : C) (u : T), okT t → A7h A t c = .ok u → okT u
 | .mk k n nm r ks ss, c, u, h, hu => by
  simp only [okT] at h
  obtain ⟨h1, h2, h3, h4, h5, h6, h7, h8⟩ := h
  rw [A9s] at hu
  simp only [T.kind, T.n, T.name, T.r, T.kids, T.sys] at hu
  obtain ⟨o, h9, hu⟩ := A2m.A0m hu
  cases o with
  | inl v => injection hu with hu; subst hu; exact hi _ _ _ _ _ _ h9
  | inr p =>
   obtain ⟨ks', h10, hu⟩ := A2m.A0m hu
   obtain ⟨ss', h11, hu⟩ := A2m.A0m hu
   injection hu with hu
   subst hu
   obtain ⟨p1, p2⟩ := ho _ _ _ _ _ _ h1 h2 h4 h9
   simp only [okT]
   exact ⟨h1, p1, h3, p2, by rw [B6g h10]; exact h5, Nat.le_trans (Nat.mul_le_mul_right _ (B0n h11)) h6, C7z ho hi hf ks 0 c ks' h7 h10, C0j ho hi hf ss c ss' h8 h11⟩
theorem C7z (ho : ∀ c k n nm r p, A2j k → A2j n → A1n r → A.own c k n nm r = .ok (.inr p) → A2j p.1 ∧ A1n p.2) (hi : ∀ c k n nm r u, A.own c k n nm r = .ok (.inl u) → okT u) (hf : ∀ c f f', A1n f → A.A1z c f = .ok (some f') → A1n f') {kd : Int} : ∀ (ts : List T) (i : Nat) (c : C) (us : List T), okL ts → A6t A kd i ts c = .ok us → okL us
 | [], i, c, us, h, hu => by rw [A6s] at hu; injection hu with hu; subst hu; simp only [okL]
 | t :: ts, i, c, us, h, hu => by
  simp only [okL] at h
  rw [A4k] at hu
  obtain ⟨c', _, hu⟩ := A2m.A0m hu
  obtain ⟨t', h2, hu⟩ := A2m.A0m hu
  obtain ⟨ts', h3, hu⟩ := A2m.A0m hu
  injection hu with hu
  subst hu
  simp only [okL]
  exact ⟨C5r ho hi hf t c' t' h.1 h2, C7z ho hi hf ts (i + 1) c ts' h.2 h3⟩
theorem C7v (ho : ∀ c k n nm r p, A2j k → A2j n → A1n r → A.own c k n nm r = .ok (.inr p) → A2j p.1 ∧ A1n p.2) (hi : ∀ c k n nm r u, A.own c k n nm r = .ok (.inl u) → okT u) (hf : ∀ c f f', A1n f → A.A1z c f = .ok (some f') → A1n f') {kd : Int} : ∀ (ts : List T) (c : C) (us : List T), okL ts → A5h A kd ts c = .ok us → okL us
 | [], c, us, h, hu => by rw [A6r] at hu; injection hu with hu; subst hu; simp only [okL]
 | t :: ts, c, us, h, hu => by
  simp only [okL] at h
  rw [A4j] at hu
  obtain ⟨c', _, hu⟩ := A2m.A0m hu
  obtain ⟨t', h2, hu⟩ := A2m.A0m hu
  obtain ⟨ts', h3, hu⟩ := A2m.A0m hu
  injection hu with hu
  subst hu
  simp only [okL]
  exact ⟨C5r ho hi hf t c' t' h.1 h2, C7v ho hi hf ts c ts' h.2 h3⟩
theorem C0j (ho : ∀ c k n nm r p, A2j k → A2j n → A1n r → A.own c k n nm r = .ok (.inr p) → A2j p.1 ∧ A1n p.2) (hi : ∀ c k n nm r u, A.own c k n nm r = .ok (.inl u) → okT u) (hf : ∀ c f f', A1n f → A.A1z c f = .ok (some f') → A1n f') {kd : Int} : ∀ (bs : List Br) (c : C) (us : List Br), okB bs → A6v A kd bs c = .ok us → okB us
 | [], c, us, h, hu => by rw [A6u] at hu; injection hu with hu; subst hu; simp only [okB]
 | .mk f ks :: bs, c, us, h, hu => by
  simp only [okB] at h
  obtain ⟨h1, h2, h3, h4⟩ := h
  rw [A4s] at hu
  simp only [Br.A1z, Br.kids] at hu
  obtain ⟨o, h5, hu⟩ := A2m.A0m hu
  cases o with
  | none => exact C0j ho hi hf bs c us h4 hu
  | some f' =>
   obtain ⟨ks', h6, hu⟩ := A2m.A0m hu
   obtain ⟨bs', h7, hu⟩ := A2m.A0m hu
   injection hu with hu
   subst hu
   simp only [okB]
   exact ⟨hf _ _ _ h1 h5, by rw [B6f h6]; exact h2, C7v ho hi hf ks c ks' h3 h6, C0j ho hi hf bs c bs' h4 h7⟩
end
end
theorem A4u : A1n [] := ⟨fun c hc => (by cases hc), by unfold reach; decide⟩
theorem D0c {l : List Cl} (h : ∀ c, c ∈ l → u32 c) : A1n (A0w l).2 := by
 unfold A0w
 split
 ·exact A4u
 ·split
  ·exact A4u
  ·rename_i h64
   exact ⟨fun c hc => h c (A4i.mp hc).1, by show (A3o l).length * 8 ≤ reach; unfold reach; omega⟩
theorem B2r (l : List Cl) (f b : Int) : A1n (A0t l f b).2 := by
 unfold A0t
 split
 ·exact A4u
 ·split
  ·exact A4u
  ·exact D0c (D0k (fun c => B4m c f b))
theorem B9c : okT t0 := by simp [t0, okT, okL, okB, A2j, A8p, reach]; decide
def A8j (b : Int) : Int := IntKind.i64.wrap (1000000 - b)
end Go.Hy
namespace Go.Hy
/-! ### More variables, more dimensions; what a term has that may be -/
theorem E6a {t : T} {v d : Int} {b : Bool} : B4q t v d b = true ↔ (¬ (b = true ∧ 24 < d)) ∧ C1f t v d = true ∧ ∀ p, p ∈ parts t → B4q p.1 (IntKind.i64.wrap (v + if v < 0 then 0 else p.2.1)) (d + p.2.2) b = true := by
  rw [D4i, Bool.and_eq_true, List.all_eq_true]
  simp only [Bool.not_eq_true', Bool.or_eq_false_iff, Bool.and_eq_false_iff, decide_eq_false_iff_not, Bool.not_eq_false']
  constructor
  · rintro ⟨⟨h1, h2⟩, h3⟩
    refine ⟨?_, h2, h3⟩
    rintro ⟨h4, h5⟩
    rcases h1 with h1 | h1
    · rw [h1] at h4; cases h4
    · exact h1 h5
  · rintro ⟨h1, h2, h3⟩
    refine ⟨⟨?_, h2⟩, h3⟩
    cases b
    · exact .inl rfl
    · exact .inr (fun h => h1 ⟨rfl, h⟩)
/-- What a node of itself must be, row by row. -/
theorem D3b {t : T} {v d : Int} : C1f t v d = true ↔ B4v t = false ∧
    (if t.kind = 1 then t.r.length = 0 ∧ 0 ≤ t.n ∧ (v < 0 ∨ t.n < v)
     else if t.kind = 2 then t.r.length = 0 ∧ A9l t.name = true
     else if t.kind = 13 ∨ t.kind = 21 ∨ t.kind = 26 then A0h t.r = true ∧ within t.r d = true
     else if t.kind = 14 then A0d t.r = true ∧ within t.r d = true
     else (∀ x, x ∈ t.sys → C2u t d x = true) ∧ t.r.length = 0) := by
  unfold C1f
  rw [Bool.and_eq_true, Bool.not_eq_true']
  apply and_congr Iff.rfl
  split
  · simp only [Bool.and_eq_true, decide_eq_true_eq, Bool.or_eq_true, and_assoc]; constructor <;> (rintro ⟨h1, h2⟩; exact ⟨by omega, h2⟩)
  · split
    · simp only [Bool.and_eq_true, decide_eq_true_eq]; constructor <;> (rintro ⟨h1, h2⟩; exact ⟨by omega, h2⟩)
    · split
      · simp only [Bool.and_eq_true]
      · split
        · simp only [Bool.and_eq_true]
        · simp only [Bool.and_eq_true, decide_eq_true_eq, List.all_eq_true]; constructor <;> (rintro ⟨h1, h2⟩; exact ⟨h1, by omega⟩)
theorem within_iff {l : List Cl} {d : Int} (h0 : 0 ≤ d) : within l d = true ↔ ∀ i : Nat, d ≤ (i : Int) → (A4e l).testBit i = false := by
  have hlt := B4k l
  unfold within
  rw [Bool.or_eq_true, decide_eq_true_eq, decide_eq_true_eq]
  by_cases h24 : 24 ≤ d
  · constructor
    · intro _ i hi
      exact Nat.testBit_lt_two_pow (Nat.lt_of_lt_of_le hlt (Nat.pow_le_pow_right (n := 2) (by omega) (show 24 ≤ i by omega)))
    · intro _; exact .inl h24
  · have hm : min d.toNat 32 = d.toNat := by omega
    rw [hm]
    constructor
    · rintro (h | h) i hi
      · exact absurd h h24
      · have h1 : A4e l / 2 ^ d.toNat = 0 := by omega
        have h2 : A4e l < 2 ^ d.toNat := by
          have := Nat.div_eq_zero_iff.mp h1
          have hp : 0 < 2 ^ d.toNat := Nat.pow_pos (by omega)
          omega
        exact Nat.testBit_lt_two_pow (Nat.lt_of_lt_of_le h2 (Nat.pow_le_pow_right (n := 2) (by omega) (by omega)))
    · intro h
      right
      have h2 : A4e l < 2 ^ d.toNat := Nat.lt_pow_two_of_testBit _ (fun i hi => h i (by omega))
      rw [Nat.div_eq_of_lt h2]; rfl
theorem E1a {t : T} (h : B4v t = false) (hp : A3a t.kind = 0) : t.sys = [] := by
  unfold B4v at h
  simp only [Bool.or_eq_false_iff, Bool.and_eq_false_iff, decide_eq_false_iff_not] at h
  rcases h.2 with h2 | h2
  · exact absurd hp h2
  · exact List.eq_nil_of_length_eq_zero (by omega)
end Go.Hy
namespace Go.Hy
/-! ### The document's check of all nodes -/
theorem B2o (s n : Nat) : (A2f s n).Pairwise fun a b => a < b := by
 unfold A2f
 rw [List.pairwise_map]
 refine (List.Pairwise.filter _ List.pairwise_lt_range).imp (fun h => by omega)
theorem E8v {l : List Int} (hs : l.Pairwise fun a b => a < b) {x : Int} (hx : x ∈ l) : x ≤ l.getD (l.length - 1) 0 := by
 obtain ⟨j, hj, e⟩ := List.mem_iff_getElem.mp hx
 have hs := List.pairwise_iff_getElem.mp hs
 have hl : l.length - 1 < l.length := by omega
 rw [A5g (d := (0 : Int)) hl]
 rcases Nat.lt_or_ge j (l.length - 1) with h2 | h2
 ·have := hs j (l.length - 1) hj hl h2
  rw [e] at this
  exact Int.le_of_lt this
 ·have hje : j = l.length - 1 := by omega
  subst hje
  exact Int.le_of_eq e.symm
/-- Has a formula dimensions below so many alone, by its last one? -/
def G4k (l : List Cl) (d : Int) : Bool := decide (((A0g (A4e l)).length : Int) = 0) || decide ((A0g (A4e l)).getD ((A0g (A4e l)).length - 1) 0 < d)
theorem D8s {l : List Cl} {d : Int} (h0 : 0 ≤ d) : G4k l d = within l d := by
 rw [Bool.eq_iff_iff, within_iff h0]
 unfold G4k
 rw [Bool.or_eq_true, decide_eq_true_eq, decide_eq_true_eq]
 have hlt := B4k l
 constructor
 ·intro h i hi
  apply Bool.eq_false_iff.mpr
  intro hb
  have hi24 : i < 24 := by
   apply Classical.byContradiction
   intro hc
   have := Nat.testBit_lt_two_pow (Nat.lt_of_lt_of_le hlt (Nat.pow_le_pow_right (n := 2) (by omega) (show 24 ≤ i by omega)))
   rw [this] at hb; cases hb
  have hm : ((i : Nat) : Int) ∈ A0g (A4e l) := A3y.mpr ⟨by omega, by omega, by simpa using hb⟩
  rcases h with h | h
  ·have : A0g (A4e l) = [] := List.eq_nil_of_length_eq_zero (by omega)
   rw [this] at hm; cases hm
  ·have := E8v (l := A0g (A4e l)) (B2o (A4e l) 24) hm
   omega
 ·intro h
  by_cases hn : (A0g (A4e l)).length = 0
  ·exact .inl (by omega)
  ·right
   have hmem : (A0g (A4e l)).getD ((A0g (A4e l)).length - 1) 0 ∈ A0g (A4e l) := A0n (by omega)
   have hx := A3y.mp hmem
   apply Classical.byContradiction
   intro hc
   have := h ((A0g (A4e l)).getD ((A0g (A4e l)).length - 1) 0).toNat (by omega)
   rw [this] at hx; cases hx.2.2
/-- The checks ahead of a node's parts. -/
structure B5y (t : T) (v d : Int) (b : Bool) : Prop where
 bound : ¬ (b = true ∧ 24 < d)
 kids : A3w t.kind = (t.kids.length : Int)
 sys : A3a t.kind = 0 → t.sys.length = 0
 n1 : if t.kind = 1 then 0 ≤ t.n ∧ (v < 0 ∨ t.n < v) else t.n = 0
 nm : if t.kind = 2 then A9l t.name = true else (t.name.toList == (ByteArray.mk #[]).toList) = true
 r : if t.kind = 13 ∨ t.kind = 21 ∨ t.kind = 26 then A0h t.r = true else if t.kind = 14 then A0d t.r = true else t.r.length = 0
 low : within t.r d = true
theorem E6d {t : T} {v d : Int} {b : Bool} (h : B5y t v d b) (hs : ∀ x, x ∈ t.sys → C2u t d x = true) : C1f t v d = true := by
 rw [D3b]
 have h1 := h.n1; have h2 := h.nm; have h3 := h.r
 refine ⟨?_, ?_⟩
 ·simp only [B4v, Bool.or_eq_false_iff, Bool.and_eq_false_iff, decide_eq_false_iff_not, Bool.not_eq_false']
  refine ⟨⟨⟨fun hc => hc h.kids, ?_⟩, ?_⟩, ?_⟩
  ·by_cases hk : t.kind = 1
   ·exact .inl (fun hc => hc hk)
   ·rw [if_neg hk] at h1; exact .inr (fun hc => hc h1)
  ·by_cases hk : t.kind = 2
   ·exact .inl (fun hc => hc hk)
   ·rw [if_neg hk] at h2; exact .inr h2
  ·by_cases hk : A3a t.kind = 0
   ·have := h.sys hk; exact .inr (by omega)
   ·exact .inl hk
 ·by_cases k1 : t.kind = 1
  ·rw [if_pos k1] at h1 ⊢
   rw [if_neg (by omega), if_neg (by omega)] at h3
   exact ⟨h3, h1⟩
  ·rw [if_neg k1]
   by_cases k2 : t.kind = 2
   ·rw [if_pos k2] at h2 ⊢
    rw [if_neg (by omega), if_neg (by omega)] at h3
    exact ⟨h3, h2⟩
   ·rw [if_neg k2]
    by_cases k3 : t.kind = 13 ∨ t.kind = 21 ∨ t.kind = 26
    ·rw [if_pos k3] at h3 ⊢; exact ⟨h3, h.low⟩
    ·rw [if_neg k3] at h3 ⊢
     by_cases k4 : t.kind = 14
     ·rw [if_pos k4] at h3 ⊢; exact ⟨h3, h.low⟩
     ·rw [if_neg k4] at h3 ⊢; exact ⟨hs, h3⟩
theorem E3h {t : T} {v d : Int} {b : Bool} (h0 : ¬ (b = true ∧ 24 < d)) (hd : 0 ≤ d) (h : C1f t v d = true) : B5y t v d b := by
 rw [D3b] at h
 obtain ⟨h1, h2⟩ := h
 have hsys := fun hp => E1a h1 hp
 simp only [B4v, Bool.or_eq_false_iff, Bool.and_eq_false_iff, decide_eq_false_iff_not, Bool.not_eq_false', ne_eq, Decidable.not_not] at h1
 obtain ⟨⟨⟨a1, a2⟩, a3⟩, a4⟩ := h1
 have hwn : t.r.length = 0 → within t.r d = true := fun hr => by
  rw [List.eq_nil_of_length_eq_zero hr, within_iff hd]; intro i _; simp [A4e]
 refine ⟨h0, a1, fun hp => by rw [hsys hp]; rfl, ?_, ?_, ?_, ?_⟩
 ·by_cases k1 : t.kind = 1
  ·rw [if_pos k1] at h2 ⊢; exact h2.2
  ·rw [if_neg k1]; exact a2.resolve_left k1
 ·by_cases k2 : t.kind = 2
  ·rw [if_neg (by omega), if_pos k2] at h2
   rw [if_pos k2]; exact h2.2
  ·rw [if_neg k2]; exact a3.resolve_left k2
 ·split at h2
  ·rw [if_neg (by omega), if_neg (by omega)]; exact h2.1
  ·split at h2
   ·rw [if_neg (by omega), if_neg (by omega)]; exact h2.1
   ·split at h2
    ·rename_i k; rw [if_pos k]; exact h2.1
    ·rename_i k; rw [if_neg k]
     split at h2
     ·rename_i k; rw [if_pos k]; exact h2.1
     ·rename_i k; rw [if_neg k]; exact h2.2
 ·split at h2
  ·exact hwn h2.1
  ·split at h2
   ·exact hwn h2.1
   ·split at h2
    ·exact h2.2
    ·split at h2
     ·exact h2.2
     ·exact hwn h2.2
def D3n (t : T) (v d : Int) (b : Bool) (i : Nat) : Bool := B4q (t.kids.getD i t0) (IntKind.i64.wrap (v + if v < 0 then 0 else (binds t.kind i).1)) (d + (binds t.kind i).2) b
def D9q (t : T) (v d : Int) (b : Bool) (x : Br) : Bool := C2u t d x && x.kids.all fun k => B4q k v (d + more t.kind) b
theorem E7z {t : T} {v d : Int} (h : C1f t v d = true) : ∀ x, x ∈ t.sys → C2u t d x = true := by
 rw [D3b] at h
 have h2 := h.2
 have hs := fun hp => E1a h.1 hp
 split at h2
 ·rename_i k; rw [hs (by rw [k]; decide)]; intro x hx; cases hx
 ·split at h2
  ·rename_i k; rw [hs (by rw [k]; decide)]; intro x hx; cases hx
  ·split at h2
   ·rename_i k; rw [hs (by rcases k with k | k | k <;> rw [k] <;> decide)]; intro x hx; cases hx
   ·split at h2
    ·rename_i k; rw [hs (by rw [k]; decide)]; intro x hx; cases hx
    ·exact h2.1
/-- All nodes: the checks ahead, the kids, the branches. -/
theorem A3v {t : T} {v d : Int} {b : Bool} (hv : A2j v) (hd : 0 ≤ d) : B4q t v d b = true ↔ B5y t v d b ∧ (∀ i, i < t.kids.length → D3n t v d b i = true) ∧ ∀ i, i < t.sys.length → D9q t v d b (t.sys.getD i br0) = true := by
 rw [E6a]
 constructor
 ·rintro ⟨h1, h2, h3⟩
  refine ⟨E3h h1 hd h2, fun i hi => ?_, fun i hi => ?_⟩
  ·exact h3 _ (A5z (A6x t i hi))
  ·unfold D9q
   rw [Bool.and_eq_true, List.all_eq_true]
   refine ⟨E7z h2 _ (A0n hi), fun k hk => ?_⟩
   obtain ⟨j, hj, e⟩ := List.mem_iff_getElem.mp hk
   have := h3 _ (A5z (A7l t i j hi hj))
   simp only at this
   rw [show (if v < 0 then (0 : Int) else 0) = 0 by split <;> rfl, Int.add_zero, E0h hv] at this
   rwa [A5g (d := t0) hj, e] at this
 ·rintro ⟨h1, h2, h3⟩
  have hb : ∀ x, x ∈ t.sys → D9q t v d b x = true := fun x hx => by
   obtain ⟨i, hi, e⟩ := List.mem_iff_getElem.mp hx
   have := h3 i hi
   rwa [A5g (d := br0) hi, e] at this
  refine ⟨h1.bound, E6d h1 (fun x hx => by have := hb x hx; unfold D9q at this; rw [Bool.and_eq_true] at this; exact this.1), fun p hp => ?_⟩
  obtain ⟨m, hm⟩ := List.mem_iff_getElem?.mp hp
  have hlt : m < (parts t).length := (List.getElem?_eq_some_iff.mp hm).1
  rcases Nat.lt_or_ge m t.kids.length with hmk | hmk
  ·rw [A6x t m hmk] at hm
   injection hm with hm
   subst hm
   exact h2 m hmk
  ·unfold parts at hp hm
   rw [List.getElem?_append_right (by rw [A5j]; exact hmk)] at hm
   have hp2 : p ∈ A3f t.kind t.sys := List.mem_iff_getElem?.mpr ⟨_, hm⟩
   have key : ∀ (bs : List Br), (∀ x, x ∈ bs → x ∈ t.sys) → p ∈ A3f t.kind bs → B4q p.1 (IntKind.i64.wrap (v + if v < 0 then 0 else p.2.1)) (d + p.2.2) b = true := by
    intro bs
    induction bs with
    | nil => intro _ h; simp [A3f] at h
    | cons x bs ih =>
     intro hx h
     simp only [A3f, List.mem_append, List.mem_map] at h
     rcases h with ⟨k, hk, e⟩ | h
     ·subst e
      simp only
      rw [show (if v < 0 then (0 : Int) else 0) = 0 by split <;> rfl, Int.add_zero, E0h hv]
      have := hb x (hx x List.mem_cons_self)
      unfold D9q at this
      rw [Bool.and_eq_true, List.all_eq_true] at this
      exact this.2 k hk
     ·exact ih (fun y hy => hx y (List.mem_cons_of_mem _ hy)) h
   exact key t.sys (fun _ h => h) hp2
theorem A8n {t : T} {v d : Int} {b : Bool} (hv : A2j v) (hd : 0 ≤ d) (hn : ¬ B5y t v d b) : B4q t v d b = false := Bool.eq_false_iff.mpr fun h => hn ((A3v hv hd).mp h).1
theorem A8m {t : T} {v d : Int} {b : Bool} (hv : A2j v) (hd : 0 ≤ d) {i : Nat} (hi : i < t.kids.length) (hn : D3n t v d b i = false) : B4q t v d b = false := Bool.eq_false_iff.mpr fun h => by
 have h9 := ((A3v hv hd).mp h).2.1 i hi
 rw [hn] at h9; cases h9
theorem A8l {t : T} {v d : Int} {b : Bool} (hv : A2j v) (hd : 0 ≤ d) {i : Nat} (hi : i < t.sys.length) (hn : D9q t v d b (t.sys.getD i br0) = false) : B4q t v d b = false := Bool.eq_false_iff.mpr fun h => by
 have h9 := ((A3v hv hd).mp h).2.2 i hi
 rw [hn] at h9; cases h9
end Go.Hy
namespace Go.Hy
theorem C4b {t : T} {p : Part} (hp : p ∈ parts t) : (∃ i, i < t.kids.length ∧ p = (t.kids.getD i t0, binds t.kind (i : Int))) ∨ ∃ s k, s < t.sys.length ∧ k < (t.sys.getD s br0).kids.length ∧ p = ((t.sys.getD s br0).kids.getD k t0, 0, more t.kind) := by
 unfold parts at hp
 rcases List.mem_append.mp hp with hp | hp
 ·left
  have key : ∀ (ks : List T) (s : Nat), p ∈ A4g t.kind s ks → ∃ i, i < ks.length ∧ p = (ks.getD i t0, binds t.kind ((s + i : Nat) : Int)) := by
   intro ks
   induction ks with
   | nil => intro s h; simp [A4g] at h
   | cons k ks ih =>
    intro s h
    simp only [A4g, List.mem_cons] at h
    rcases h with h | h
    ·exact ⟨0, by simp, by simpa using h⟩
    ·obtain ⟨i, hi, e⟩ := ih (s + 1) h
     exact ⟨i + 1, by simpa using hi, by rw [e]; simp only [List.getD_cons_succ]; rw [show s + 1 + i = s + (i + 1) by omega]⟩
  obtain ⟨i, hi, e⟩ := key t.kids 0 hp
  exact ⟨i, hi, by rw [e]; simp⟩
 ·right
  have key : ∀ (bs : List Br), p ∈ A3f t.kind bs → ∃ s k, s < bs.length ∧ k < (bs.getD s br0).kids.length ∧ p = ((bs.getD s br0).kids.getD k t0, 0, more t.kind) := by
   intro bs
   induction bs with
   | nil => intro h; simp [A3f] at h
   | cons b bs ih =>
    intro h
    simp only [A3f, List.mem_append, List.mem_map] at h
    rcases h with ⟨k, hk, e⟩ | h
    ·obtain ⟨j, hj, e2⟩ := List.mem_iff_getElem.mp hk
     exact ⟨0, j, by simp, by simpa using hj, by rw [← e]; simp only [List.getD_cons_zero]; rw [A5g (d := t0) hj, e2]⟩
    ·obtain ⟨s, k, h1, h2, e⟩ := ih h
     exact ⟨s + 1, k, by simpa using h1, by simpa using h2, by rw [e]; simp⟩
  exact key t.sys hp
theorem D6l {α : Type} (f : α → Nat) (i : Nat) : ∀ (l : List α) (a : Nat), (l.foldl (fun a x => a ||| f x) a).testBit i = true ↔ a.testBit i = true ∨ ∃ x, x ∈ l ∧ (f x).testBit i = true
 | [], a => by simp
 | x :: l, a => by
  rw [List.foldl_cons, D6l f i l, Nat.testBit_or]
  simp only [Bool.or_eq_true, List.mem_cons, exists_eq_or_imp, or_assoc]
end Go.Hy
