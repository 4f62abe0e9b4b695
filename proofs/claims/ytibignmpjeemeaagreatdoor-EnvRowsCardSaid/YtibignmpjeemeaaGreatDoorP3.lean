/- Contracts of this program's functions and the laws that they need. -/
import Derived.WideShapes
import Derived.ArgAppend
import Derived.Test.YtibignmpjeemeaaGreatDoorP2
set_option linter.unusedVariables false
set_option linter.unusedSimpArgs false
set_option linter.unusedSectionVars false
namespace Go.Hy
section
variable {tn : Bool} {pn : Nat} {P : Program} [Tab P] {f : FuncId} {R : Ending → World → Prop} {B : Cs} {n : Fz} {K : List Item} {ops : Array Oper} {i : Nat} {l fin : List Nat} {σ : Nat → Value} {Γ : List Fact} {Ms Ms2 : List Bm}
variable {dst : Option Tmp} {op : Op} {ty : TypeId} {pos : String} {after : Array Edge} {v : Value} {x y z : Operand}
theorem Ce  (k_ : E1 P f R B n K ops l (Aq σ dst v) Γ Ms) (h : ev σ x = v := by exact A5) (hd : Ah n dst = true := by rfl) : Ex P f R B n K ops l (Cp dst (.move x) ty) σ Γ Ms := Bf (B8t h) hd k_
theorem Wf  (k_ : NV tn pn P f R B n K ops fin l (Aq σ dst v) Γ Ms) (h : ev σ x = v := by exact A5) (hd : Ah n dst = true := by rfl) : Jr tn pn P f R B n K ops fin i l dst (.move x) ty σ Γ Ms := D3 (B8t h) hd k_
theorem C8k  (k_ : E1 P f R B n K ops l (Aq σ dst v) Γ Ms) (h : ev σ x = v := by exact A5) (hd : Ah n dst = true := by rfl) : Ex P f R B n K ops l (Cp dst (.assign x) ty) σ Γ Ms := Bf (A4l h) hd k_
theorem C5c  (k_ : NV tn pn P f R B n K ops fin l (Aq σ dst v) Γ Ms) (h : ev σ x = v := by exact A5) (hd : Ah n dst = true := by rfl) : Jr tn pn P f R B n K ops fin i l dst (.assign x) ty σ Γ Ms := D3 (A4l h) hd k_
theorem B9d  (k_ : E1 P f R B n K ops l (Aq σ dst v) Γ Ms) (hz : ev σ z = .bool true := by rfl) (h : ev σ x = v := by exact A5) (hd : Ah n dst = true := by rfl) : Ex P f R B n K ops l (Cp dst (.pick z x y) ty) σ Γ Ms := Bf (B0i hz h) hd k_
theorem B7s  (k_ : NV tn pn P f R B n K ops fin l (Aq σ dst v) Γ Ms) (hz : ev σ z = .bool true := by rfl) (h : ev σ x = v := by exact A5) (hd : Ah n dst = true := by rfl) : Jr tn pn P f R B n K ops fin i l dst (.pick z x y) ty σ Γ Ms := D3 (B0i hz h) hd k_
theorem B9e  (k_ : E1 P f R B n K ops l (Aq σ dst v) Γ Ms) (hz : ev σ z = .bool false := by rfl) (h : ev σ y = v := by exact A5) (hd : Ah n dst = true := by rfl) : Ex P f R B n K ops l (Cp dst (.pick z x y) ty) σ Γ Ms := Bf (B0j hz h) hd k_
theorem B7t  (k_ : NV tn pn P f R B n K ops fin l (Aq σ dst v) Γ Ms) (hz : ev σ z = .bool false := by rfl) (h : ev σ y = v := by exact A5) (hd : Ah n dst = true := by rfl) : Jr tn pn P f R B n K ops fin i l dst (.pick z x y) ty σ Γ Ms := D3 (B0j hz h) hd k_
theorem E3s {t t' : TypeId} {a b : Int} (k_ : E1 P f R B n K ops l (Aq σ dst (.int .i64 (a + b))) Γ Ms) (hx : ev σ x = .int .i64 a := by exact A5) (hy : ev σ y = .int .i64 b := by exact A5) (h : As (a + b) := by unfold As; first | omega | (unfold As at *; omega) | (unfold reach at *; omega) | (unfold Gl at *; omega) | (simp only [As, reach, Gl] at *; omega)) (hd : Ah n dst = true := by rfl) : Ex P f R B n K ops l (Cp dst (.binOp .add t x y t') ty) σ Γ Ms := Bf (C7h hx hy h) hd k_
theorem E2p {t t' : TypeId} {a b : Int} (k_ : NV tn pn P f R B n K ops fin l (Aq σ dst (.int .i64 (a + b))) Γ Ms) (hx : ev σ x = .int .i64 a := by exact A5) (hy : ev σ y = .int .i64 b := by exact A5) (h : As (a + b) := by unfold As; first | omega | (unfold As at *; omega) | (unfold reach at *; omega) | (unfold Gl at *; omega) | (simp only [As, reach, Gl] at *; omega)) (hd : Ah n dst = true := by rfl) : Jr tn pn P f R B n K ops fin i l dst (.binOp .add t x y t') ty σ Γ Ms := D3 (C7h hx hy h) hd k_
theorem C7x {t t' : TypeId} {a b : Int} (k_ : E1 P f R B n K ops l (Aq σ dst (.int .i64 (a - b))) Γ Ms) (hx : ev σ x = .int .i64 a := by exact A5) (hy : ev σ y = .int .i64 b := by exact A5) (h : As (a - b) := by unfold As; first | omega | (unfold As at *; omega) | (unfold reach at *; omega) | (unfold Gl at *; omega) | (simp only [As, reach, Gl] at *; omega)) (hd : Ah n dst = true := by rfl) : Ex P f R B n K ops l (Cp dst (.binOp .sub t x y t') ty) σ Γ Ms := Bf (D7v hx hy h) hd k_
theorem E3m {t t' : TypeId} {a b : Int} (k_ : E1 P f R B n K ops l (Aq σ dst (.int .i64 (a * b))) Γ Ms) (hx : ev σ x = .int .i64 a := by exact A5) (hy : ev σ y = .int .i64 b := by exact A5) (h : As (a * b) := by unfold As; first | omega | (unfold As at *; omega) | (unfold reach at *; omega) | (unfold Gl at *; omega) | (simp only [As, reach, Gl] at *; omega)) (hd : Ah n dst = true := by rfl) : Ex P f R B n K ops l (Cp dst (.binOp .mul t x y t') ty) σ Γ Ms := Bf (D7x hx hy h) hd k_
theorem D5o {t t' : TypeId} {k : IntKind} {a b : Int} (k_ : E1 P f R B n K ops l (Aq σ dst (.bool (decide (a < b)))) Γ Ms) (hx : ev σ x = .int k a := by exact A5) (hy : ev σ y = .int k b := by exact A5) (hd : Ah n dst = true := by rfl) : Ex P f R B n K ops l (Cp dst (.binOp .lss t x y t') ty) σ Γ Ms := Bf (B5l hx hy) hd k_
theorem E2k {t t' : TypeId} {k : IntKind} {a b : Int} (k_ : NV tn pn P f R B n K ops fin l (Aq σ dst (.bool (decide (a < b)))) Γ Ms) (hx : ev σ x = .int k a := by exact A5) (hy : ev σ y = .int k b := by exact A5) (hd : Ah n dst = true := by rfl) : Jr tn pn P f R B n K ops fin i l dst (.binOp .lss t x y t') ty σ Γ Ms := D3 (B5l hx hy) hd k_
theorem C8d {t t' : TypeId} {k : IntKind} {a b : Int} (k_ : E1 P f R B n K ops l (Aq σ dst (.bool (decide (a ≤ b)))) Γ Ms) (hx : ev σ x = .int k a := by exact A5) (hy : ev σ y = .int k b := by exact A5) (hd : Ah n dst = true := by rfl) : Ex P f R B n K ops l (Cp dst (.binOp .leq t x y t') ty) σ Γ Ms := Bf (D7z hx hy) hd k_
theorem C8f {t t' : TypeId} {k : IntKind} {a b : Int} (k_ : E1 P f R B n K ops l (Aq σ dst (.bool (decide (b < a)))) Γ Ms) (hx : ev σ x = .int k a := by exact A5) (hy : ev σ y = .int k b := by exact A5) (hd : Ah n dst = true := by rfl) : Ex P f R B n K ops l (Cp dst (.binOp .gtr t x y t') ty) σ Γ Ms := Bf (C7f hx hy) hd k_
theorem E2n {t t' : TypeId} {k : IntKind} {a b : Int} (k_ : NV tn pn P f R B n K ops fin l (Aq σ dst (.bool (decide (b < a)))) Γ Ms) (hx : ev σ x = .int k a := by exact A5) (hy : ev σ y = .int k b := by exact A5) (hd : Ah n dst = true := by rfl) : Jr tn pn P f R B n K ops fin i l dst (.binOp .gtr t x y t') ty σ Γ Ms := D3 (C7f hx hy) hd k_
theorem D5r {t t' : TypeId} {k : IntKind} {a b : Int} (k_ : E1 P f R B n K ops l (Aq σ dst (.bool (decide (b ≤ a)))) Γ Ms) (hx : ev σ x = .int k a := by exact A5) (hy : ev σ y = .int k b := by exact A5) (hd : Ah n dst = true := by rfl) : Ex P f R B n K ops l (Cp dst (.binOp .geq t x y t') ty) σ Γ Ms := Bf (D8b hx hy) hd k_
theorem A4r {t t' : TypeId} {k : IntKind} {a b : Int} (k_ : E1 P f R B n K ops l (Aq σ dst (.bool (decide (a = b)))) Γ Ms) (hx : ev σ x = .int k a := by exact A5) (hy : ev σ y = .int k b := by exact A5) (hd : Ah n dst = true := by rfl) : Ex P f R B n K ops l (Cp dst (.binOp .eql t x y t') ty) σ Γ Ms := Bf (A7m hx hy) hd k_
theorem D5e {t t' : TypeId} {k : IntKind} {a b : Int} (k_ : NV tn pn P f R B n K ops fin l (Aq σ dst (.bool (decide (a = b)))) Γ Ms) (hx : ev σ x = .int k a := by exact A5) (hy : ev σ y = .int k b := by exact A5) (hd : Ah n dst = true := by rfl) : Jr tn pn P f R B n K ops fin i l dst (.binOp .eql t x y t') ty σ Γ Ms := D3 (A7m hx hy) hd k_
theorem A0c {t t' : TypeId} {k : IntKind} {a b : Int} (k_ : E1 P f R B n K ops l (Aq σ dst (.bool (decide (a ≠ b)))) Γ Ms) (hx : ev σ x = .int k a := by exact A5) (hy : ev σ y = .int k b := by exact A5) (hd : Ah n dst = true := by rfl) : Ex P f R B n K ops l (Cp dst (.binOp .neq t x y t') ty) σ Γ Ms := Bf (B5k hx hy) hd k_
theorem B7u {t t' : TypeId} {k : IntKind} {a b : Int} (k_ : NV tn pn P f R B n K ops fin l (Aq σ dst (.bool (decide (a ≠ b)))) Γ Ms) (hx : ev σ x = .int k a := by exact A5) (hy : ev σ y = .int k b := by exact A5) (hd : Ah n dst = true := by rfl) : Jr tn pn P f R B n K ops fin i l dst (.binOp .neq t x y t') ty σ Γ Ms := D3 (B5k hx hy) hd k_
theorem B9g {t t' : TypeId} {s s' : ByteArray} (k_ : E1 P f R B n K ops l (Aq σ dst (.bool (!(s.toList == s'.toList)))) Γ Ms) (hx : ev σ x = .string s := by exact A5) (hy : ev σ y = .string s' := by exact A5) (hd : Ah n dst = true := by rfl) : Ex P f R B n K ops l (Cp dst (.binOp .neq t x y t') ty) σ Γ Ms := Bf (C7b hx hy) hd k_
theorem D5d {t t' : TypeId} {s s' : ByteArray} (k_ : NV tn pn P f R B n K ops fin l (Aq σ dst (.bool (!(s.toList == s'.toList)))) Γ Ms) (hx : ev σ x = .string s := by exact A5) (hy : ev σ y = .string s' := by exact A5) (hd : Ah n dst = true := by rfl) : Jr tn pn P f R B n K ops fin i l dst (.binOp .neq t x y t') ty σ Γ Ms := D3 (C7b hx hy) hd k_
theorem D5n {t : TypeId} {c : Bool} (k_ : E1 P f R B n K ops l (Aq σ dst (.bool (!c))) Γ Ms) (hx : ev σ x = .bool c := by exact A5) (hd : Ah n dst = true := by rfl) : Ex P f R B n K ops l (Cp dst (.unOp .not t x) ty) σ Γ Ms := Bf (C6z hx) hd k_
theorem D5b {t : TypeId} {c : Bool} (k_ : NV tn pn P f R B n K ops fin l (Aq σ dst (.bool (!c))) Γ Ms) (hx : ev σ x = .bool c := by exact A5) (hd : Ah n dst = true := by rfl) : Jr tn pn P f R B n K ops fin i l dst (.unOp .not t x) ty σ Γ Ms := D3 (C6z hx) hd k_
theorem C2q {vs : Array Value} {j : Nat} (k_ : E1 P f R B n K ops l (Aq σ dst v) Γ Ms) (hx : ev σ x = .tuple vs := by exact A5) (hj : vs[j]? = some v := by exact A5) (hd : Ah n dst = true := by rfl) : Ex P f R B n K ops l (Cp dst (.extract x j) ty) σ Γ Ms := Bf (Zt hx hj) hd k_
theorem C1g {vs : Array Value} {j : Nat} (k_ : NV tn pn P f R B n K ops fin l (Aq σ dst v) Γ Ms) (hx : ev σ x = .tuple vs := by exact A5) (hj : vs[j]? = some v := by exact A5) (hd : Ah n dst = true := by rfl) : Jr tn pn P f R B n K ops fin i l dst (.extract x j) ty σ Γ Ms := D3 (Zt hx hj) hd k_
theorem B5t {fn : Fn} {cap : Array Operand} {vs : List Value} (k_ : E1 P f R B n K ops l (Aq σ dst (.func fn #[] vs.toArray)) Γ Ms) (h : cap.toList.map (ev σ) = vs := by first | exact E7v (by first | ((conv => lhs; whnf); done) | rfl) | exact E7u (by first | ((conv => lhs; whnf); done) | rfl) (by first | ((conv => lhs; whnf); done) | rfl) | exact E7t (by first | ((conv => lhs; whnf); done) | rfl) (by first | ((conv => lhs; whnf); done) | rfl) (by first | ((conv => lhs; whnf); done) | rfl) | exact E7s (by first | ((conv => lhs; whnf); done) | rfl) (by first | ((conv => lhs; whnf); done) | rfl) (by first | ((conv => lhs; whnf); done) | rfl) (by first | ((conv => lhs; whnf); done) | rfl) | rfl) (hd : Ah n dst = true := by rfl) : Ex P f R B n K ops l (Cp dst (.makeFunc fn #[] cap) ty) σ Γ Ms := Bf (B0l h) hd k_
theorem D5p {ts : Array TypeId} {t e : TypeId} {A : Option Addr} {m c : Nat} (k_ : E1 P f R B n K ops l (Aq σ dst (.int .i64 (m : Int))) Γ Ms) (hx : ev σ x = .slice A m c := by exact A5) (ht : ts[0]? = some t := by rfl) (hu : Tab.und P t = some (.slice e) := by rfl) (hd : Ah n dst = true := by rfl) : Ex P f R B n K ops l (Cp dst (.call { callee := .builtin .len, args := #[x], argTypes := ts }) ty) σ Γ Ms := Bf (B8u ht hu hx) hd k_
theorem A3k {ts : Array TypeId} {t e : TypeId} {A : Option Addr} {m c : Nat} (k_ : NV tn pn P f R B n K ops fin l (Aq σ dst (.int .i64 (m : Int))) Γ Ms) (hx : ev σ x = .slice A m c := by exact A5) (ht : ts[0]? = some t := by rfl) (hu : Tab.und P t = some (.slice e) := by rfl) (hd : Ah n dst = true := by rfl) : Jr tn pn P f R B n K ops fin i l dst (.call { callee := .builtin .len, args := #[x], argTypes := ts }) ty σ Γ Ms := D3 (B8u ht hu hx) hd k_
theorem R7 {ts : Array TypeId} {t : TypeId} {s : ByteArray} (k_ : E1 P f R B n K ops l (Aq σ dst (.int .i64 (s.size : Int))) Γ Ms) (hx : ev σ x = .string s := by exact A5) (ht : ts[0]? = some t := by rfl) (hu : Tab.und P t = some .string := by rfl) (hd : Ah n dst = true := by rfl) : Ex P f R B n K ops l (Cp dst (.call { callee := .builtin .len, args := #[x], argTypes := ts }) ty) σ Γ Ms := Bf (C1y ht hu hx) hd k_
theorem B0w {ts : Array TypeId} {a b : Int} (k_ : E1 P f R B n K ops l (Aq σ dst (.int .i64 (if b < a then b else a))) Γ Ms) (hx : ev σ x = .int .i64 a := by exact A5) (hy : ev σ y = .int .i64 b := by exact A5) (hd : Ah n dst = true := by rfl) : Ex P f R B n K ops l (Cp dst (.call { callee := .builtin .min, args := #[x, y], argTypes := ts }) ty) σ Γ Ms := Bf (D7y hx hy) hd k_
theorem Wz {t : TypeId} {j bk off o : Nat} (k_ : E1 P f R B n K ops l (Aq σ dst (.pointer (some ⟨bk, off + o, none⟩))) Γ Ms) (hx : ev σ x = .pointer (some ⟨bk, off, none⟩) := by exact A5) (hf : Tab.foff P t j = some o := by rfl) (hd : Ah n dst = true := by rfl) : Ex P f R B n K ops l (Cp dst (.fieldAddr t x j) ty) σ Γ Ms := Bf (V3 hf hx) hd k_
theorem Mh {t : TypeId} {j bk off o : Nat} (k_ : NV tn pn P f R B n K ops fin l (Aq σ dst (.pointer (some ⟨bk, off + o, none⟩))) Γ Ms) (hx : ev σ x = .pointer (some ⟨bk, off, none⟩) := by exact A5) (hf : Tab.foff P t j = some o := by rfl) (hd : Ah n dst = true := by rfl) : Jr tn pn P f R B n K ops fin i l dst (.fieldAddr t x j) ty σ Γ Ms := D3 (V3 hf hx) hd k_
theorem Av {t : TypeId} {s bt : Nat} {zv : Value} {parts : Array (Nat × Operand)} {pv : List (Nat × Value)} {l' : List (Nat × Nat)} {cs : List Value} (k_ : E1 P f R B n K ops l (Aq σ dst (.agg cs.toArray)) Γ Ms) (hl : Tab.lay P t = some l' := by rfl) (hi : Tab.inf P t = some (s, bt, zv) := by rfl) (hp : parts.toList.map (fun (i, x) => (i, ev σ x)) = pv := by first | exact pv0  | exact pv1 (by first | ((conv => lhs; whnf); done) | rfl) | exact pv2 (by first | ((conv => lhs; whnf); done) | rfl) (by first | ((conv => lhs; whnf); done) | rfl) | exact pv3 (by first | ((conv => lhs; whnf); done) | rfl) (by first | ((conv => lhs; whnf); done) | rfl) (by first | ((conv => lhs; whnf); done) | rfl) | exact pv4 (by first | ((conv => lhs; whnf); done) | rfl) (by first | ((conv => lhs; whnf); done) | rfl) (by first | ((conv => lhs; whnf); done) | rfl) (by first | ((conv => lhs; whnf); done) | rfl) | exact pv5 (by first | ((conv => lhs; whnf); done) | rfl) (by first | ((conv => lhs; whnf); done) | rfl) (by first | ((conv => lhs; whnf); done) | rfl) (by first | ((conv => lhs; whnf); done) | rfl) (by first | ((conv => lhs; whnf); done) | rfl) | exact pv6 (by first | ((conv => lhs; whnf); done) | rfl) (by first | ((conv => lhs; whnf); done) | rfl) (by first | ((conv => lhs; whnf); done) | rfl) (by first | ((conv => lhs; whnf); done) | rfl) (by first | ((conv => lhs; whnf); done) | rfl) (by first | ((conv => lhs; whnf); done) | rfl) | rfl) (hb : Instr.fill (l'.toArray[·]?) zv.cells pv = some cs.toArray := by rfl) (hd : Ah n dst = true := by rfl) : Ex P f R B n K ops l (Cp dst (.build t parts) ty) σ Γ Ms := Bf (B0o hl hi hp hb) hd k_
theorem Rs {t : TypeId} {s bt : Nat} {zv : Value} {parts : Array (Nat × Operand)} {pv : List (Nat × Value)} {l' : List (Nat × Nat)} {cs : List Value} (k_ : NV tn pn P f R B n K ops fin l (Aq σ dst (.agg cs.toArray)) Γ Ms) (hl : Tab.lay P t = some l' := by rfl) (hi : Tab.inf P t = some (s, bt, zv) := by rfl) (hp : parts.toList.map (fun (i, x) => (i, ev σ x)) = pv := by first | exact pv0  | exact pv1 (by first | ((conv => lhs; whnf); done) | rfl) | exact pv2 (by first | ((conv => lhs; whnf); done) | rfl) (by first | ((conv => lhs; whnf); done) | rfl) | exact pv3 (by first | ((conv => lhs; whnf); done) | rfl) (by first | ((conv => lhs; whnf); done) | rfl) (by first | ((conv => lhs; whnf); done) | rfl) | exact pv4 (by first | ((conv => lhs; whnf); done) | rfl) (by first | ((conv => lhs; whnf); done) | rfl) (by first | ((conv => lhs; whnf); done) | rfl) (by first | ((conv => lhs; whnf); done) | rfl) | exact pv5 (by first | ((conv => lhs; whnf); done) | rfl) (by first | ((conv => lhs; whnf); done) | rfl) (by first | ((conv => lhs; whnf); done) | rfl) (by first | ((conv => lhs; whnf); done) | rfl) (by first | ((conv => lhs; whnf); done) | rfl) | exact pv6 (by first | ((conv => lhs; whnf); done) | rfl) (by first | ((conv => lhs; whnf); done) | rfl) (by first | ((conv => lhs; whnf); done) | rfl) (by first | ((conv => lhs; whnf); done) | rfl) (by first | ((conv => lhs; whnf); done) | rfl) (by first | ((conv => lhs; whnf); done) | rfl) | rfl) (hb : Instr.fill (l'.toArray[·]?) zv.cells pv = some cs.toArray := by rfl) (hd : Ah n dst = true := by rfl) : Jr tn pn P f R B n K ops fin i l dst (.build t parts) ty σ Γ Ms := D3 (B0o hl hi hp hb) hd k_
theorem Bw {t e : TypeId} {s bt bk o m c j : Nat} {zv : Value} {A : Option Addr} (k_ : E1 P f R B n K ops l (Aq σ dst (.pointer (some ⟨bk, o + j * s, none⟩))) Γ Ms) (hx : ev σ x = .slice A m c := by exact A5) (hA : A = some ⟨bk, o, none⟩ := by first | assumption | rfl) (hy : ev σ y = .int .i64 (j : Int) := by exact A5) (hu : Tab.und P t = some (.slice e) := by rfl) (hi : Tab.inf P e = some (s, bt, zv) := by rfl) (h1 : j < m := by omega) (hd : Ah n dst = true := by rfl) : Ex P f R B n K ops l (Cp dst (.indexAddr t x y) ty) σ Γ Ms := Bf (C7e hu hi hx hA hy h1) hd k_
theorem Ei {t e : TypeId} {s bt bk o m c j : Nat} {zv : Value} {A : Option Addr} (k_ : NV tn pn P f R B n K ops fin l (Aq σ dst (.pointer (some ⟨bk, o + j * s, none⟩))) Γ Ms) (hx : ev σ x = .slice A m c := by exact A5) (hA : A = some ⟨bk, o, none⟩ := by first | assumption | rfl) (hy : ev σ y = .int .i64 (j : Int) := by exact A5) (hu : Tab.und P t = some (.slice e) := by rfl) (hi : Tab.inf P e = some (s, bt, zv) := by rfl) (h1 : j < m := by omega) (hd : Ah n dst = true := by rfl) : Jr tn pn P f R B n K ops fin i l dst (.indexAddr t x y) ty σ Γ Ms := D3 (C7e hu hi hx hA hy h1) hd k_
theorem D3h {t t' e : TypeId} {A : Option Addr} {m c : Nat} (k_ : E1 P f R B n K ops l (Aq σ dst (.bool A.isNone)) Γ Ms) (hx : ev σ x = .slice A m c := by exact A5) (hy : ev σ y = .slice none 0 0 := by rfl) (hu : Tab.und P t = some (.slice e) := by rfl) (hd : Ah n dst = true := by rfl) : Ex P f R B n K ops l (Cp dst (.binOp .eql t x y t') ty) σ Γ Ms := Bf (B0k hu hx hy) hd k_
theorem C8j {t e : TypeId} {m s bt s' bt' : Nat} {zv zv' : Value} {parts : Array (Nat × Operand)} {pv : List (Nat × Value)} {cs : List Value} (k_ : E1 P f R B n K ops l (Aq σ dst (.agg cs.toArray)) Γ Ms) (hu : Tab.und P t = some (.array m e) := by rfl) (hi : Tab.inf P t = some (s, bt, zv) := by rfl) (he : Tab.inf P e = some (s', bt', zv') := by rfl) (hp : parts.toList.map (fun (i, x) => (i, ev σ x)) = pv := by first | exact pv0  | exact pv1 (by first | ((conv => lhs; whnf); done) | rfl) | exact pv2 (by first | ((conv => lhs; whnf); done) | rfl) (by first | ((conv => lhs; whnf); done) | rfl) | exact pv3 (by first | ((conv => lhs; whnf); done) | rfl) (by first | ((conv => lhs; whnf); done) | rfl) (by first | ((conv => lhs; whnf); done) | rfl) | exact pv4 (by first | ((conv => lhs; whnf); done) | rfl) (by first | ((conv => lhs; whnf); done) | rfl) (by first | ((conv => lhs; whnf); done) | rfl) (by first | ((conv => lhs; whnf); done) | rfl) | exact pv5 (by first | ((conv => lhs; whnf); done) | rfl) (by first | ((conv => lhs; whnf); done) | rfl) (by first | ((conv => lhs; whnf); done) | rfl) (by first | ((conv => lhs; whnf); done) | rfl) (by first | ((conv => lhs; whnf); done) | rfl) | exact pv6 (by first | ((conv => lhs; whnf); done) | rfl) (by first | ((conv => lhs; whnf); done) | rfl) (by first | ((conv => lhs; whnf); done) | rfl) (by first | ((conv => lhs; whnf); done) | rfl) (by first | ((conv => lhs; whnf); done) | rfl) (by first | ((conv => lhs; whnf); done) | rfl) | rfl) (hb : Instr.fill (fun i => some (i * s', s')) zv.cells pv = some cs.toArray := by rfl) (hd : Ah n dst = true := by rfl) : Ex P f R B n K ops l (Cp dst (.build t parts) ty) σ Γ Ms := Bf (C2e hu hi he hp hb) hd k_
theorem E3r {t e : TypeId} {s bt b o m : Nat} {zv : Value} {j : Int} (k_ : E1 P f R B n K ops l (Aq σ dst (.pointer (some ⟨b, o + j.toNat * s, none⟩))) Γ Ms) (hx : ev σ x = .pointer (some ⟨b, o, none⟩) := by exact A5) (hy : ev σ y = .int .i64 j := by exact A5) (hu : Tab.und P t = some (.array m e) := by rfl) (hi : Tab.inf P e = some (s, bt, zv) := by rfl) (h0 : 0 ≤ j := by omega) (h1 : j < m := by omega) (hd : Ah n dst = true := by rfl) : Ex P f R B n K ops l (Cp dst (.indexAddr t x y) ty) σ Γ Ms := Bf (D8a hu hi hx hy h0 h1) hd k_
theorem C8l {t t' : TypeId} {a b : Int} (k_ : E1 P f R B n K ops l (Aq σ dst (.int .i64 (IntKind.i64.wrap (a + b)))) Γ Ms) (hx : ev σ x = .int .i64 a := by exact A5) (hy : ev σ y = .int .i64 b := by exact A5) (hd : Ah n dst = true := by rfl) : Ex P f R B n K ops l (Cp dst (.binOp .add t x y t') ty) σ Γ Ms := Bf (D2s hx hy) hd k_
theorem D8k {t t' : TypeId} {a b : Int} (k_ : E1 P f R B n K ops l (Aq σ dst (.int .i64 (IntKind.i64.wrap (a - b)))) Γ Ms) (hx : ev σ x = .int .i64 a := by exact A5) (hy : ev σ y = .int .i64 b := by exact A5) (hd : Ah n dst = true := by rfl) : Ex P f R B n K ops l (Cp dst (.binOp .sub t x y t') ty) σ Γ Ms := Bf (D2m hx hy) hd k_
theorem Ow {t t' : TypeId} {a b : Nat} (k_ : E1 P f R B n K ops l (Aq σ dst (.int .u32 ((a &&& b : Nat) : Int))) Γ Ms) (hx : ev σ x = .int .u32 (a : Int) := by exact A5) (hy : ev σ y = .int .u32 (b : Int) := by exact A5) (ha : a < 4294967296 := by first | assumption | omega) (hb : b < 4294967296 := by first | assumption | omega) (hd : Ah n dst = true := by rfl) : Ex P f R B n K ops l (Cp dst (.binOp .and t x y t') ty) σ Γ Ms := Bf (B8v hx hy ha hb) hd k_
theorem Z6 {t t' : TypeId} {a b : Nat} (k_ : NV tn pn P f R B n K ops fin l (Aq σ dst (.int .u32 ((a &&& b : Nat) : Int))) Γ Ms) (hx : ev σ x = .int .u32 (a : Int) := by exact A5) (hy : ev σ y = .int .u32 (b : Int) := by exact A5) (ha : a < 4294967296 := by first | assumption | omega) (hb : b < 4294967296 := by first | assumption | omega) (hd : Ah n dst = true := by rfl) : Jr tn pn P f R B n K ops fin i l dst (.binOp .and t x y t') ty σ Γ Ms := D3 (B8v hx hy ha hb) hd k_
theorem Ni {t t' : TypeId} {a b : Nat} (k_ : E1 P f R B n K ops l (Aq σ dst (.int .u32 ((a ||| b : Nat) : Int))) Γ Ms) (hx : ev σ x = .int .u32 (a : Int) := by exact A5) (hy : ev σ y = .int .u32 (b : Int) := by exact A5) (ha : a < 4294967296 := by first | assumption | omega) (hb : b < 4294967296 := by first | assumption | omega) (hd : Ah n dst = true := by rfl) : Ex P f R B n K ops l (Cp dst (.binOp .or t x y t') ty) σ Γ Ms := Bf (D7w hx hy ha hb) hd k_
theorem Xz {t t' : TypeId} {a b : Nat} (k_ : E1 P f R B n K ops l (Aq σ dst (.int .u32 (Bi a b : Int))) Γ Ms) (hx : ev σ x = .int .u32 (a : Int) := by exact A5) (hy : ev σ y = .int .u32 (b : Int) := by exact A5) (hd : Ah n dst = true := by rfl) : Ex P f R B n K ops l (Cp dst (.binOp .andNot t x y t') ty) σ Γ Ms := Bf (B5m hx hy) hd k_
theorem C7z {t t' : TypeId} {k2 : IntKind} {a m : Nat} (k_ : E1 P f R B n K ops l (Aq σ dst (.int .u32 ((a * 2 ^ (min m 32) % 4294967296 : Nat) : Int))) Γ Ms) (hx : ev σ x = .int .u32 (a : Int) := by exact A5) (hy : ev σ y = .int k2 (m : Int) := by exact A5) (hd : Ah n dst = true := by rfl) : Ex P f R B n K ops l (Cp dst (.binOp .shl t x y t') ty) σ Γ Ms := Bf (D2o hx hy) hd k_
theorem C7y {t t' : TypeId} {k2 : IntKind} {a m : Nat} (k_ : E1 P f R B n K ops l (Aq σ dst (.int .u32 ((a / 2 ^ (min m 32) : Nat) : Int))) Γ Ms) (hx : ev σ x = .int .u32 (a : Int) := by exact A5) (hy : ev σ y = .int k2 (m : Int) := by exact A5) (hd : Ah n dst = true := by rfl) : Ex P f R B n K ops l (Cp dst (.binOp .shr t x y t') ty) σ Γ Ms := Bf (B8s hx hy) hd k_
theorem Up {t t' : TypeId} {k2 : IntKind} {a m : Nat} (k_ : NV tn pn P f R B n K ops fin l (Aq σ dst (.int .u32 ((a / 2 ^ (min m 32) : Nat) : Int))) Γ Ms) (hx : ev σ x = .int .u32 (a : Int) := by exact A5) (hy : ev σ y = .int k2 (m : Int) := by exact A5) (hd : Ah n dst = true := by rfl) : Jr tn pn P f R B n K ops fin i l dst (.binOp .shr t x y t') ty σ Γ Ms := D3 (B8s hx hy) hd k_
theorem E2o {t t' : TypeId} {c c' : Cl} (k_ : NV tn pn P f R B n K ops fin l (Aq σ dst (.bool (decide (c = c')))) Γ Ms) (hx : ev σ x = .agg (Aw c).toArray := by exact A5) (hy : ev σ y = .agg (Aw c').toArray := by exact A5) (ht : t = Tab.ceq P := by rfl) (hd : Ah n dst = true := by rfl) : Jr tn pn P f R B n K ops fin i l dst (.binOp .eql t x y t') ty σ Γ Ms := D3 (D8c ht hx hy) hd k_
theorem E3l {t t' : TypeId} {c c' : Cl} (k_ : E1 P f R B n K ops l (Aq σ dst (.bool (!decide (c = c')))) Γ Ms) (hx : ev σ x = .agg (Aw c).toArray := by exact A5) (hy : ev σ y = .agg (Aw c').toArray := by exact A5) (ht : t = Tab.ceq P := by rfl) (hd : Ah n dst = true := by rfl) : Ex P f R B n K ops l (Cp dst (.binOp .neq t x y t') ty) σ Γ Ms := Bf (C7c ht hx hy) hd k_
theorem B7v {t t' : TypeId} {c c' : Cl} (k_ : NV tn pn P f R B n K ops fin l (Aq σ dst (.bool (!decide (c = c')))) Γ Ms) (hx : ev σ x = .agg (Aw c).toArray := by exact A5) (hy : ev σ y = .agg (Aw c').toArray := by exact A5) (ht : t = Tab.ceq P := by rfl) (hd : Ah n dst = true := by rfl) : Jr tn pn P f R B n K ops fin i l dst (.binOp .neq t x y t') ty σ Γ Ms := D3 (C7c ht hx hy) hd k_
theorem D8n {t t' : TypeId} {a b : Nat} (k_ : E1 P f R B n K ops l (Aq σ dst (.int .i64 ((a / b : Nat) : Int))) Γ Ms) (hx : ev σ x = .int .i64 (a : Int) := by exact A5) (hy : ev σ y = .int .i64 (b : Int) := by exact A5) (ha : a < 9223372036854775808 := by omega) (hb : 0 < b := by first | omega | exact Nat.pow_pos A2) (hd : Ah n dst = true := by rfl) : Ex P f R B n K ops l (Cp dst (.binOp .quo t x y t') ty) σ Γ Ms := Bf (D2r hx hy ha hb) hd k_
theorem D8m {t t' : TypeId} {a b : Nat} (k_ : E1 P f R B n K ops l (Aq σ dst (.int .i64 ((a % b : Nat) : Int))) Γ Ms) (hx : ev σ x = .int .i64 (a : Int) := by exact A5) (hy : ev σ y = .int .i64 (b : Int) := by exact A5) (hb : 0 < b := by omega) (hd : Ah n dst = true := by rfl) : Ex P f R B n K ops l (Cp dst (.binOp .rem t x y t') ty) σ Γ Ms := Bf (D2q hx hy hb) hd k_
theorem B9i {t : TypeId} {s : ByteArray} {j : Int} {c : UInt8} (k_ : E1 P f R B n K ops l (Aq σ dst (.int .u8 c.toNat)) Γ Ms) (hx : ev σ x = .string s := by exact A5) (hy : ev σ y = .int .i64 j := by exact A5) (hu : Tab.und P t = some .string := by rfl) (h0 : 0 ≤ j := by omega) (hc : s[j.toNat]? = some c := by assumption) (hd : Ah n dst = true := by rfl) : Ex P f R B n K ops l (Cp dst (.index t x y) ty) σ Γ Ms := Bf (B0m hu hx hy h0 hc) hd k_
theorem D8s {s d : TypeId} {k k' : IntKind} {ds : TypeDesc} {a : Int} (k_ : E1 P f R B n K ops l (Aq σ dst (.int k' (k'.wrap a))) Γ Ms) (hx : ev σ x = .int k a := by exact A5) (hs : Tab.und P s = some ds := by rfl) (hd' : Tab.und P d = some (.int k') := by rfl) (hd : Ah n dst = true := by rfl) : Ex P f R B n K ops l (Cp dst (.convert s d x) ty) σ Γ Ms := Bf (J8 hs hd' hx) hd k_
theorem D3g {t T' : TypeId} {bk k : Nat} {cs : List Value} {d : TypeDesc} (k_ : E1 P f R B n K ops l (Aq σ dst v) Γ Ms) (hx : ev σ x = .pointer (some ⟨bk, k, none⟩) := by exact A5) (hF : Af bk cs T' ∈ Ms := by repeat (first | exact List.mem_cons_self | apply List.mem_cons_of_mem)) (hu : Tab.und P t = some d := by rfl) (hd' : (match d with | .struct _ | .array _ _ => true | _ => false) = false := by rfl) (hk : cs[k]? = some v := by exact A5) (hd : Ah n dst = true := by rfl) : Ex P f R B n K ops l (Cp dst (.load t x) ty) σ Γ Ms := Ig (C9g hx hF hu hd' hk) hd k_
theorem E2m {t T' : TypeId} {bk k : Nat} {cs : List Value} {d : TypeDesc} (k_ : NV false pn P f R B n K ops fin l (Aq σ dst v) Γ Ms) (hx : ev σ x = .pointer (some ⟨bk, k, none⟩) := by exact A5) (hF : Af bk cs T' ∈ Ms := by repeat (first | exact List.mem_cons_self | apply List.mem_cons_of_mem)) (hu : Tab.und P t = some d := by rfl) (hd' : (match d with | .struct _ | .array _ _ => true | _ => false) = false := by rfl) (hk : cs[k]? = some v := by exact A5) (hd : Ah n dst = true := by rfl) : Jr false pn P f R B n K ops fin i l dst (.load t x) ty σ Γ Ms := Vc (C9g hx hF hu hd' hk) rfl hd k_
theorem Mp {t T' : TypeId} {bk k : Nat} {cs : List Value} {l' : List (Nat × Nat)} {s bt : Nat} {zv : Value} {cs' : List Value} (k_ : E1 P f R B n K ops l (Aq σ dst (.agg cs'.toArray)) Γ Ms) (hx : ev σ x = .pointer (some ⟨bk, k, none⟩) := by exact A5) (hF : Af bk cs T' ∈ Ms := by repeat (first | exact List.mem_cons_self | apply List.mem_cons_of_mem)) (hu : Tab.lay P t = some l' := by rfl) (hi : Tab.inf P t = some (s, bt, zv) := by rfl) (hk : (cs.drop k).take s = cs' := by rfl) (hl : cs'.length = s := by rfl) (hd : Ah n dst = true := by rfl) : Ex P f R B n K ops l (Cp dst (.load t x) ty) σ Γ Ms := Ig (C9h hx hF hu hi hk hl) hd k_
theorem A3l {t T' : TypeId} {bk k : Nat} {cs : List Value} {l' : List (Nat × Nat)} {s bt : Nat} {zv : Value} {cs' : List Value} (k_ : NV false pn P f R B n K ops fin l (Aq σ dst (.agg cs'.toArray)) Γ Ms) (hx : ev σ x = .pointer (some ⟨bk, k, none⟩) := by exact A5) (hF : Af bk cs T' ∈ Ms := by repeat (first | exact List.mem_cons_self | apply List.mem_cons_of_mem)) (hu : Tab.lay P t = some l' := by rfl) (hi : Tab.inf P t = some (s, bt, zv) := by rfl) (hk : (cs.drop k).take s = cs' := by rfl) (hl : cs'.length = s := by rfl) (hd : Ah n dst = true := by rfl) : Jr false pn P f R B n K ops fin i l dst (.load t x) ty σ Γ Ms := Vc (C9h hx hF hu hi hk hl) rfl hd k_
theorem E3p {t : TypeId} {l' : List (Nat × Nat)} {bt bk o i' : Nat} {a : SH} {zv : Value} {ls : List Cl} (k_ : E1 P f R B n K ops l (Aq σ dst (.agg (Aw (ls.getD i' B1)).toArray)) Γ Ms) (hx : ev σ x = .pointer (some ⟨bk, o + i' * 2, none⟩) := by exact A5) (hFa : CL ls a ∈ Γ ∧ a.1 = some ⟨bk, o, none⟩ := by exact ma0_) (hu : Tab.lay P t = some l' := by rfl) (hi : Tab.inf P t = some (2, bt, zv) := by rfl) (hlt : i' < ls.length := by omega) (hd : Ah n dst = true := by rfl) : Ex P f R B n K ops l (Cp dst (.load t x) ty) σ Γ Ms := Ig (C9d hx hFa.1 hFa.2 hu hi hlt) hd k_
theorem A3m {t : TypeId} {l' : List (Nat × Nat)} {bt bk o i' : Nat} {a : SH} {zv : Value} {ls : List Cl} (k_ : NV false pn P f R B n K ops fin l (Aq σ dst (.agg (Aw (ls.getD i' B1)).toArray)) Γ Ms) (hx : ev σ x = .pointer (some ⟨bk, o + i' * 2, none⟩) := by exact A5) (hFa : CL ls a ∈ Γ ∧ a.1 = some ⟨bk, o, none⟩ := by exact ma0_) (hu : Tab.lay P t = some l' := by rfl) (hi : Tab.inf P t = some (2, bt, zv) := by rfl) (hlt : i' < ls.length := by omega) (hd : Ah n dst = true := by rfl) : Jr false pn P f R B n K ops fin i l dst (.load t x) ty σ Γ Ms := Vc (C9d hx hFa.1 hFa.2 hu hi hlt) rfl hd k_
theorem E6c {t : TypeId} {l' : List (Nat × Nat)} {bt bk o i' : Nat} {a : SH} {zv : Value} {ls : List Cl} (k_ : NV tn pn P f R B n K ops fin l (Aq σ dst (.agg (Aw (ls.getD i' B1)).toArray)) Γ Ms) (hx : ev σ x = .pointer (some ⟨bk, o + i' * 2, none⟩) := by exact A5) (hFa : CL ls a ∈ Γ ∧ a.1 = some ⟨bk, o, none⟩ := by exact ma0_) (hu : Tab.lay P t = some l' := by rfl) (hi : Tab.inf P t = some (2, bt, zv) := by rfl) (hlt : i' < ls.length := by omega) (hd : Ah n dst = true := by rfl) : Jr tn pn P f R B n K ops fin i l dst (.load t x) ty σ Γ Ms := Vb (C9d hx hFa.1 hFa.2 hu hi hlt) rfl hd k_
theorem A7s {t : TypeId} {d : TypeDesc} {bk o i' k : Nat} {a : SH} {ls : List Cl} (k_ : E1 P f R B n K ops l (Aq σ dst v) Γ Ms) (hx : ev σ x = .pointer (some ⟨bk, o + i' * 2 + k, none⟩) := by exact A5) (hFa : CL ls a ∈ Γ ∧ a.1 = some ⟨bk, o, none⟩ := by exact ma0_) (hu : Tab.und P t = some d := by rfl) (hd' : (match d with | .struct _ | .array _ _ => true | _ => false) = false := by rfl) (hk : (Aw (ls.getD i' B1))[k]? = some v := by exact A5) (hlt : i' < ls.length := by omega) (hd : Ah n dst = true := by rfl) : Ex P f R B n K ops l (Cp dst (.load t x) ty) σ Γ Ms := Ig (D9o hx hFa.1 hFa.2 hu hd' hk hlt) hd k_
theorem E3o {t : TypeId} {l' : List (Nat × Nat)} {bt bk o i' : Nat} {a : SH} {zv : Value} {ts : List T} {VR VK VS : Nat → SH} (k_ : E1 P f R B n K ops l (Aq σ dst (.agg (tc (ts.getD i' t0) (VR i') (VK i') (VS i')).toArray)) Γ Ms) (hx : ev σ x = .pointer (some ⟨bk, o + i' * 6, none⟩) := by exact A5) (hFa : TLx ts a VR VK VS ∈ Γ ∧ a.1 = some ⟨bk, o, none⟩ := by exact ma0_) (hu : Tab.lay P t = some l' := by rfl) (hi : Tab.inf P t = some (6, bt, zv) := by rfl) (hlt : i' < ts.length := by omega) (hd : Ah n dst = true := by rfl) : Ex P f R B n K ops l (Cp dst (.load t x) ty) σ Γ Ms := Ig (B9u hx hFa.1 hFa.2 hu hi hlt) hd k_
theorem E2l {t : TypeId} {l' : List (Nat × Nat)} {bt bk o i' : Nat} {a : SH} {zv : Value} {ts : List T} {VR VK VS : Nat → SH} (k_ : NV false pn P f R B n K ops fin l (Aq σ dst (.agg (tc (ts.getD i' t0) (VR i') (VK i') (VS i')).toArray)) Γ Ms) (hx : ev σ x = .pointer (some ⟨bk, o + i' * 6, none⟩) := by exact A5) (hFa : TLx ts a VR VK VS ∈ Γ ∧ a.1 = some ⟨bk, o, none⟩ := by exact ma0_) (hu : Tab.lay P t = some l' := by rfl) (hi : Tab.inf P t = some (6, bt, zv) := by rfl) (hlt : i' < ts.length := by omega) (hd : Ah n dst = true := by rfl) : Jr false pn P f R B n K ops fin i l dst (.load t x) ty σ Γ Ms := Vc (B9u hx hFa.1 hFa.2 hu hi hlt) rfl hd k_
theorem E3q {t : TypeId} {l' : List (Nat × Nat)} {bt bk o i' : Nat} {a : SH} {zv : Value} {bs : List Br} {VF VK : Nat → SH} (k_ : E1 P f R B n K ops l (Aq σ dst (.agg (bc (bs.getD i' Bk) (VF i') (VK i')).toArray)) Γ Ms) (hx : ev σ x = .pointer (some ⟨bk, o + i' * 2, none⟩) := by exact A5) (hFa : Yq bs a VF VK ∈ Γ ∧ a.1 = some ⟨bk, o, none⟩ := by exact ma0_) (hu : Tab.lay P t = some l' := by rfl) (hi : Tab.inf P t = some (2, bt, zv) := by rfl) (hlt : i' < bs.length := by omega) (hd : Ah n dst = true := by rfl) : Ex P f R B n K ops l (Cp dst (.load t x) ty) σ Γ Ms := Ig (E4d hx hFa.1 hFa.2 hu hi hlt) hd k_
theorem D8r {t : TypeId} {d : TypeDesc} {bk o i' k : Nat} {a : SH} {bs : List Br} {VF VK : Nat → SH} (k_ : E1 P f R B n K ops l (Aq σ dst v) Γ Ms) (hx : ev σ x = .pointer (some ⟨bk, o + i' * 2 + k, none⟩) := by exact A5) (hFa : Yq bs a VF VK ∈ Γ ∧ a.1 = some ⟨bk, o, none⟩ := by exact ma0_) (hu : Tab.und P t = some d := by rfl) (hd' : (match d with | .struct _ | .array _ _ => true | _ => false) = false := by rfl) (hk : (bc (bs.getD i' Bk) (VF i') (VK i'))[k]? = some v := by exact A5) (hlt : i' < bs.length := by omega) (hd : Ah n dst = true := by rfl) : Ex P f R B n K ops l (Cp dst (.load t x) ty) σ Γ Ms := Ig (C9e hx hFa.1 hFa.2 hu hd' hk hlt) hd k_
theorem Tc {t : TypeId} {d : TypeDesc} {bk o i' k : Nat} {a : SH} {bs : List Br} {VF VK : Nat → SH} (k_ : NV false pn P f R B n K ops fin l (Aq σ dst v) Γ Ms) (hx : ev σ x = .pointer (some ⟨bk, o + i' * 2 + k, none⟩) := by exact A5) (hFa : Yq bs a VF VK ∈ Γ ∧ a.1 = some ⟨bk, o, none⟩ := by exact ma0_) (hu : Tab.und P t = some d := by rfl) (hd' : (match d with | .struct _ | .array _ _ => true | _ => false) = false := by rfl) (hk : (bc (bs.getD i' Bk) (VF i') (VK i'))[k]? = some v := by exact A5) (hlt : i' < bs.length := by omega) (hd : Ah n dst = true := by rfl) : Jr false pn P f R B n K ops fin i l dst (.load t x) ty σ Γ Ms := Vc (C9e hx hFa.1 hFa.2 hu hd' hk hlt) rfl hd k_
theorem Ay {t : TypeId} {cs : List Value} (k_ : ∀ b, E1 P f R B n K ops l (Aq σ dst ((fun b => .pointer (some ⟨b, 0, none⟩)) b)) Γ (Af b cs t :: Ms)) (hx : (ev σ x).cells = cs.toArray := by rfl) (hd : Ah n dst = true := by rfl) : Ex P f R B n K ops l (Cp dst (.box t x) ty) σ Γ Ms := Ol (E1z hx) hd k_
theorem B7 {t : TypeId} {s bt : Nat} {zv : Value} {cs : List Value} (k_ : ∀ b, E1 P f R B n K ops l (Aq σ dst ((fun b => .pointer (some ⟨b, 0, none⟩)) b)) Γ (Af b cs t :: Ms)) (hi : Tab.inf P t = some (s, bt, zv) := by rfl) (hz : zv.cells = cs.toArray := by rfl) (hd : Ah n dst = true := by rfl) : Ex P f R B n K ops l (Cp dst (.alloc t) ty) σ Γ Ms := Ol (B3s hi hz) hd k_
theorem Z5 {t : TypeId} {s bt : Nat} {zv : Value} {cs : List Value} (k_ : ∀ b, NV tn pn P f R B n K ops fin l (Aq σ dst ((fun b => .pointer (some ⟨b, 0, none⟩)) b)) Γ (Af b cs t :: Ms)) (hi : Tab.inf P t = some (s, bt, zv) := by rfl) (hz : zv.cells = cs.toArray := by rfl) (hd : Ah n dst = true := by rfl) : Jr tn pn P f R B n K ops fin i l dst (.alloc t) ty σ Γ Ms := A0e (B3s hi hz) rfl hd k_
theorem E3n {t e : TypeId} {sz bt len : Nat} {zv : Value} {parts : Array (Nat × Operand)} {pv : List (Nat × Value)} {cs : List Value} (k_ : ∀ b, E1 P f R B n K ops l (Aq σ dst ((fun b => .slice (some ⟨b, 0, none⟩) len len) b)) Γ (Af b cs e :: Ms)) (hu : Tab.und P t = some (.slice e) := by rfl) (hi : Tab.inf P e = some (sz, bt, zv) := by rfl) (hle : len * sz ≤ 16777216 := by decide) (hp : parts.toList.map (fun (i, x) => (i, ev σ x)) = pv := by first | exact pv0  | exact pv1 (by first | ((conv => lhs; whnf); done) | rfl) | exact pv2 (by first | ((conv => lhs; whnf); done) | rfl) (by first | ((conv => lhs; whnf); done) | rfl) | exact pv3 (by first | ((conv => lhs; whnf); done) | rfl) (by first | ((conv => lhs; whnf); done) | rfl) (by first | ((conv => lhs; whnf); done) | rfl) | exact pv4 (by first | ((conv => lhs; whnf); done) | rfl) (by first | ((conv => lhs; whnf); done) | rfl) (by first | ((conv => lhs; whnf); done) | rfl) (by first | ((conv => lhs; whnf); done) | rfl) | exact pv5 (by first | ((conv => lhs; whnf); done) | rfl) (by first | ((conv => lhs; whnf); done) | rfl) (by first | ((conv => lhs; whnf); done) | rfl) (by first | ((conv => lhs; whnf); done) | rfl) (by first | ((conv => lhs; whnf); done) | rfl) | exact pv6 (by first | ((conv => lhs; whnf); done) | rfl) (by first | ((conv => lhs; whnf); done) | rfl) (by first | ((conv => lhs; whnf); done) | rfl) (by first | ((conv => lhs; whnf); done) | rfl) (by first | ((conv => lhs; whnf); done) | rfl) (by first | ((conv => lhs; whnf); done) | rfl) | rfl) (hf : Instr.fill (fun i => some (i * sz, sz)) ((List.range (len * sz)).map (zv.cells[· % zv.cells.size]!)).toArray pv = some cs.toArray := by rfl) (hd : Ah n dst = true := by rfl) : Ex P f R B n K ops l (Cp dst (.buildSlice t len parts) ty) σ Γ Ms := Ol (A9a hu hi hle hp hf) hd k_
theorem Bv {t e : TypeId} {sz bt : Nat} {zv : Value} {cs : List Value} (k_ : ∀ b, E1 P f R B n K ops l (Aq σ dst ((fun b => .slice (some ⟨b, 0, none⟩) 1 1) b)) Γ (Af b cs e :: Ms)) (hu : Tab.und P t = some (.slice e) := by rfl) (hi : Tab.inf P e = some (sz, bt, zv) := by rfl) (hle : sz ≤ 16777216 := by decide) (hx : (ev σ x).cells = cs.toArray := by rfl) (hl : cs.length = sz := by rfl) (hd : Ah n dst = true := by rfl) : Ex P f R B n K ops l (Cp dst (.buildSlice t 1 #[(0, x)]) ty) σ Γ Ms := Ol (A8z hu hi hle hx hl) hd k_
theorem Wg {t e : TypeId} {sz bt : Nat} {zv : Value} {cs : List Value} (k_ : ∀ b, NV tn pn P f R B n K ops fin l (Aq σ dst ((fun b => .slice (some ⟨b, 0, none⟩) 1 1) b)) Γ (Af b cs e :: Ms)) (hu : Tab.und P t = some (.slice e) := by rfl) (hi : Tab.inf P e = some (sz, bt, zv) := by rfl) (hle : sz ≤ 16777216 := by decide) (hx : (ev σ x).cells = cs.toArray := by rfl) (hl : cs.length = sz := by rfl) (hd : Ah n dst = true := by rfl) : Jr tn pn P f R B n K ops fin i l dst (.buildSlice t 1 #[(0, x)]) ty σ Γ Ms := A0e (A8z hu hi hle hx hl) rfl hd k_
theorem D6r {t e : TypeId} {sz bt : Nat} {zv : Value} {cs : List Value} (F : Nat → List Fact) (hF : ∀ b M w, St B Γ (Af b cs e :: M) w → St B (F b ++ Γ) M w) (k_ : ∀ b, NV tn pn P f R B n K ops fin l (Aq σ dst ((fun b => .slice (some ⟨b, 0, none⟩) 1 1) b)) (F b ++ Γ) Ms) (hu : Tab.und P t = some (.slice e) := by rfl) (hi : Tab.inf P e = some (sz, bt, zv) := by rfl) (hle : sz ≤ 16777216 := by decide) (hx : (ev σ x).cells = cs.toArray := by rfl) (hl : cs.length = sz := by rfl) (hd : Ah n dst = true := by rfl) (hz : Nat.beq pn 1000001 = true := by rfl) : Jr tn pn P f R B n K ops fin i l dst (.buildSlice t 1 #[(0, x)]) ty σ Γ Ms := A4s F (A8z hu hi hle hx hl) rfl rfl hF hd hz k_
theorem R6 {t e : TypeId} {sz bt : Nat} {zv : Value} {cs cs2 : List Value} (k_ : ∀ b, E1 P f R B n K ops l (Aq σ dst ((fun b => .slice (some ⟨b, 0, none⟩) 2 2) b)) Γ (Af b (cs ++ cs2) e :: Ms)) (hu : Tab.und P t = some (.slice e) := by rfl) (hi : Tab.inf P e = some (sz, bt, zv) := by rfl) (hle : 2 * sz ≤ 16777216 := by decide) (hx : (ev σ x).cells = cs.toArray := by rfl) (hy : (ev σ y).cells = cs2.toArray := by rfl) (hl : cs.length = sz := by rfl) (hl2 : cs2.length = sz := by rfl) (hd : Ah n dst = true := by rfl) : Ex P f R B n K ops l (Cp dst (.buildSlice t 2 #[(0, x), (1, y)]) ty) σ Γ Ms := Ol (C0q hu hi hle hx hy hl hl2) hd k_
theorem C4x {t e : TypeId} {sz bt : Nat} {zv : Value} {cs cs2 : List Value} (F : Nat → List Fact) (hF : ∀ b M w, St B Γ (Af b (cs ++ cs2) e :: M) w → St B (F b ++ Γ) M w) (k_ : ∀ b, NV tn pn P f R B n K ops fin l (Aq σ dst ((fun b => .slice (some ⟨b, 0, none⟩) 2 2) b)) (F b ++ Γ) Ms) (hu : Tab.und P t = some (.slice e) := by rfl) (hi : Tab.inf P e = some (sz, bt, zv) := by rfl) (hle : 2 * sz ≤ 16777216 := by decide) (hx : (ev σ x).cells = cs.toArray := by rfl) (hy : (ev σ y).cells = cs2.toArray := by rfl) (hl : cs.length = sz := by rfl) (hl2 : cs2.length = sz := by rfl) (hd : Ah n dst = true := by rfl) (hz : Nat.beq pn 1000001 = true := by rfl) : Jr tn pn P f R B n K ops fin i l dst (.buildSlice t 2 #[(0, x), (1, y)]) ty σ Γ Ms := A4s F (C0q hu hi hle hx hy hl hl2) rfl rfl hF hd hz k_
theorem A0d {t e : TypeId} {sz bt : Nat} {zv : Value} (k_ : ∀ b, E1 P f R B n K ops l (Aq σ dst ((fun b => .slice (some ⟨b, 0, none⟩) 0 0) b)) Γ (Af b [] e :: Ms)) (hu : Tab.und P t = some (.slice e) := by rfl) (hi : Tab.inf P e = some (sz, bt, zv) := by rfl) (hd : Ah n dst = true := by rfl) : Ex P f R B n K ops l (Cp dst (.buildSlice t 0 #[]) ty) σ Γ Ms := Ol (C0r hu hi) hd k_
theorem D6s {t e : TypeId} {sz bt : Nat} {zv : Value} (k_ : ∀ b, NV tn pn P f R B n K ops fin l (Aq σ dst ((fun b => .slice (some ⟨b, 0, none⟩) 0 0) b)) Γ (Af b [] e :: Ms)) (hu : Tab.und P t = some (.slice e) := by rfl) (hi : Tab.inf P e = some (sz, bt, zv) := by rfl) (hd : Ah n dst = true := by rfl) : Jr tn pn P f R B n K ops fin i l dst (.buildSlice t 0 #[]) ty σ Γ Ms := A0e (C0r hu hi) rfl hd k_
theorem E7e {t T' : TypeId} {b s bt : Nat} {zv : Value} {cs cs' : List Value} (k_ : E1 P f R B n K ops l σ Γ (Af b cs' T' :: Ms2)) (hx : ev σ x = .pointer (some ⟨b, 0, none⟩) := by exact A5) (hm : Ms.Perm (Af b cs T' :: Ms2) := by first | exact V2 | exact Aj | exact Bn | exact Cb | exact Cw | exact El | exact Gj) (hy : (ev σ y).cells = cs'.toArray := by rfl) (hi : Tab.inf P t = some (s, bt, zv) := by rfl) (hl : cs'.length = s := by rfl) (hl2 : cs.length = s := by rfl) (h1 : J1 cs' = true := by rfl) : Ex P f R B n K ops l (Cp none (.store t x y) ty) σ Γ Ms := Uu (C5t hx hy hm hi hl hl2 h1) k_
theorem E3i {t T' : TypeId} {b k bt : Nat} {zv : Value} {cs cs' : List Value} (k_ : E1 P f R B n K ops l σ Γ (Af b cs' T' :: Ms2)) (hx : ev σ x = .pointer (some ⟨b, k, none⟩) := by exact A5) (hm : Ms.Perm (Af b cs T' :: Ms2) := by first | exact V2 | exact Aj | exact Bn | exact Cb | exact Cw | exact El | exact Gj) (hy : ev σ y = v := by exact A5) (hi : Tab.inf P t = some (1, bt, zv) := by rfl) (h1 : v.oneCell' = true := by rfl) (hk : k < cs.length := by exact Nat.le_of_ble_eq_true rfl) (hc : cs.set k v = cs' := by rfl) : Ex P f R B n K ops l (Cp none (.store t x y) ty) σ Γ Ms := by
 subst hc
 exact Uu (D1w hx hy hm hi h1 hk) k_
theorem Cj {t e T' : TypeId} {ts : Array TypeId} {sz bt n' m c b : Nat} {zv : Value} {a : SH} {xs cs : List Value} (k_ : ∀ a' : SH, E1 P f R B n K ops l (Aq σ dst (sl a' (n' + m))) Γ (Al sz e a' (n' + m) (xs ++ cs) :: Af b cs T' :: Ms2)) (hm : Ms.Perm (Al sz e a n' xs :: Af b cs T' :: Ms2) := by first | exact V2 | exact Aj | exact Bn | exact Cb | exact Cw | exact El | exact Gj) (hx : ev σ x = sl a n' := by rfl) (hy : ev σ y = .slice (some ⟨b, 0, none⟩) m c := by exact A5) (hts : ts = #[t, t] := by rfl) (hu : Tab.und P t = some (.slice e) := by rfl) (hi : Tab.inf P e = some (sz, bt, zv) := by rfl) (hzs : zv.cells.size = sz := by rfl) (hsz : 0 < sz := by exact Nat.le_of_ble_eq_true rfl) (hl : cs.length = m * sz := by rfl) (h1 : J1 cs = true := by rfl) (hb : (n' + m) * bt ≤ 140737488355328 := by first | omega | (unfold reach at *; omega) | (unfold reach Gl at *; omega)) (hnm : n' + m ≤ 9223372036854775807 := by first | omega | (unfold reach at *; omega) | (unfold reach Gl at *; omega)) (hd : Ah n dst = true := by rfl) : Ex P f R B n K ops l (Cp dst (.call { callee := .builtin .append, args := #[x, y], argTypes := ts }) ty) σ Γ Ms := A6t (B7x hm hx hy hts hu hi hzs hsz hl h1 hb hnm) hd k_
theorem K7 {t e : TypeId} {ts : Array TypeId} {bt n' : Nat} {zv : Value} {a b : SH} {xs : List Value} {ls : List Cl} (k_ : ∀ a' : SH, E1 P f R B n K ops l (Aq σ dst (sl a' (n' + ls.length))) Γ (Al 2 e a' (n' + ls.length) (xs ++ Ad ls) :: Ms2)) (hF : CL ls b ∈ Γ) (hm : Ms.Perm (Al 2 e a n' xs :: Ms2) := by first | exact V2 | exact Aj | exact Bn | exact Cb | exact Cw | exact El | exact Gj) (hx : ev σ x = sl a n' := by rfl) (hy : ev σ y = sl b ls.length := by rfl) (hts : ts = #[t, t] := by rfl) (hu : Tab.und P t = some (.slice e) := by rfl) (hi : Tab.inf P e = some (2, bt, zv) := by rfl) (hzs : zv.cells.size = 2 := by rfl) (hb : (n' + ls.length) * bt ≤ 140737488355328 := by first | omega | (unfold reach at *; omega) | (unfold reach Gl at *; omega)) (hnm : n' + ls.length ≤ 9223372036854775807 := by first | omega | (unfold reach at *; omega) | (unfold reach Gl at *; omega)) (hd : Ah n dst = true := by rfl) : Ex P f R B n K ops l (Cp dst (.call { callee := .builtin .append, args := #[x, y], argTypes := ts }) ty) σ Γ Ms := A6t (A9n hm hF hx hy hts hu hi hzs hb hnm) hd k_
theorem C2o [TyF P] [TabM P] {t : TypeId} (k_ : ∀ b, E1 P f R B n K ops l (Aq σ dst (.map (some b))) Γ (A0m b [] :: Ms)) (hd : Ah n dst = true := by rfl) : Ex P f R B n K ops l (Cp dst (.makeMap t none) ty) σ Γ Ms := A6t B4g hd k_
theorem C2p [TyF P] [TabM P] {t e : TypeId} {s bt b : Nat} {c : Cl} {keys : List Cl} (k_ : E1 P f R B n K ops l (Aq σ dst (.bool (decide (c ∈ keys)))) Γ Ms) (hx : ev σ x = .map (some b) := by exact A5) (hm : A0m b keys ∈ Ms := by repeat (first | exact List.mem_cons_self | apply List.mem_cons_of_mem)) (hy : ev σ y = Fh c := by rfl) (hc : u32 c := by assumption) (hu : Tab.und P t = some (.map (TyF.tC P) e) := by rfl) (hi : Tab.inf P e = some (s, bt, .bool false) := by rfl) (hd : Ah n dst = true := by rfl) : Ex P f R B n K ops l (Cp dst (.lookup t x y false) ty) σ Γ Ms := Ig (C3g hx hm hc hy hu hi) hd k_
theorem C8b [TyF P] [TabM P] {t e : TypeId} {b : Nat} {c : Cl} {keys : List Cl} (k_ : E1 P f R B n K ops l σ Γ (A0m b (keys ++ [c]) :: Ms2)) (hx : ev σ x = .map (some b) := by exact A5) (hm : Ms.Perm (A0m b keys :: Ms2) := by first | exact V2 | exact Aj | exact Bn | exact Cb | exact Cw | exact El | exact Gj) (hy : ev σ y = Fh c := by rfl) (hc : u32 c := by assumption) (hn : c ∉ keys := by assumption) (hz : ev σ z = .bool true := by rfl) (hu : Tab.und P t = some (.map (TyF.tC P) e) := by rfl) : Ex P f R B n K ops l (Cp none (.mapUpdate t x y z) ty) σ Γ Ms := Uu (A7b hx hm hc hn hy hz hu) k_
theorem A8n {c : FuncId} {args : Array Value} {as : Array Operand} {ts : Array TypeId} {g : Operand} (hg : ev σ g = .func (.func c) #[] #[]) (ha : as.toList.map (ev σ) = args.toList) (hc : ∀ (args : Array Value) (w : World), (callFunc c args).run P w = .ok (.enter c args) w) : Rp P σ (.call { callee := .value g, args := as, argTypes := ts }) ty c args := fun w => by
 have ha : as.map (ev σ) = args := Array.ext' (by simpa using ha)
 subst ha
 simp [Cp, execOp, resolve, hg, Deferred.ofValue, invoke, hc]
theorem B6r {c : FuncId} {args cap : List Value} {as : Array Operand} {ts : Array TypeId} {g : Operand} (hg : ev σ g = .func (.func c) #[] cap.toArray) (ha : as.toList.map (ev σ) = args) (hc : ∀ (args : Array Value) (w : World), (callFunc c args).run P w = .ok (.enter c args) w) : Rp P σ (.call { callee := .value g, args := as, argTypes := ts }) ty c (args ++ cap).toArray := fun w => by
 have ha : as.map (ev σ) = args.toArray := Array.ext' (by simpa using ha)
 simp [ha, Cp, execOp, resolve, hg, Deferred.ofValue, invoke, hc]
theorem A0 {c : FuncId} {args : Array Value} {as : Array Operand} {ts : Array TypeId} {g : Operand} {pre : List Fact} {Ms0 : List Bm} {X : Type} {val : X → Value} {N : X → List Fact} {Ms1 : X → List Bm}
  (hc : ∀ (args : Array Value) (w : World), (callFunc c args).run P w = .ok (.enter c args) w) (hsp : Spec P c args pre Ms0 val N Ms1) (kk : ∀ x, E1 P f R B n K ops l (Aq σ dst (val x)) (N x ++ Γ) (Ms1 x ++ Ms2))
  (hg : ev σ g = .func (.func c) #[] #[] := by rfl) (ha : as.toList.map (ev σ) = args.toList := by rfl) (hpre : ∀ F, F ∈ pre → F ∈ Γ := by first | (simp; done) | (simp +contextual; done)) (hm : Ms.Perm (Ms0 ++ Ms2) := by first | exact List.Perm.refl _ | exact C6y | exact C6x | exact C6w | exact C6v | exact Aj | exact Bn | exact Cb | exact Cw | exact C6u) (hd : Ah n dst = true := by rfl) : Ex P f R B n K ops l (Cp dst (.call { callee := .value g, args := as, argTypes := ts }) ty) σ Γ Ms :=
 B8b (A8n hg ha hc) hsp hpre hm hd kk
theorem D1 {c : FuncId} {args cap al : List Value} {as : Array Operand} {ts : Array TypeId} {g : Operand} {pre : List Fact} {Ms0 : List Bm} {X : Type} {val : X → Value} {N : X → List Fact} {Ms1 : X → List Bm}
  (hc : ∀ (args : Array Value) (w : World), (callFunc c args).run P w = .ok (.enter c args) w) (hsp : Spec P c al.toArray pre Ms0 val N Ms1) (kk : ∀ x, E1 P f R B n K ops l (Aq σ dst (val x)) (N x ++ Γ) (Ms1 x ++ Ms2))
  (hg : ev σ g = .func (.func c) #[] cap.toArray := by rfl) (ha : as.toList.map (ev σ) = args := by rfl) (hal : args ++ cap = al := by rfl) (hpre : ∀ F, F ∈ pre → F ∈ Γ := by first | (simp; done) | (simp +contextual; done)) (hm : Ms.Perm (Ms0 ++ Ms2) := by first | exact List.Perm.refl _ | exact C6y | exact C6x | exact C6w | exact C6v | exact Aj | exact Bn | exact Cb | exact Cw | exact C6u) (hd : Ah n dst = true := by rfl) : Ex P f R B n K ops l (Cp dst (.call { callee := .value g, args := as, argTypes := ts }) ty) σ Γ Ms :=
 B8b (B6r hg ha hc) (hal ▸ hsp) hpre hm hd kk
theorem Ba {c : FuncId} {args : Array Value} {as : Array Operand} {ts : Array TypeId} {g : Operand} {pre : List Fact} {X : Type} {val : X → Value} {N : X → List Fact} {Ms1 : X → List Bm}
  (hc : ∀ (args : Array Value) (w : World), (callFunc c args).run P w = .ok (.enter c args) w) (hsp : Spec P c args pre [] val N Ms1) (kk : ∀ x, NV tn pn P f R B n K ops fin l (Aq σ dst (val x)) (N x ++ Γ) (Ms1 x ++ Ms))
  (hg : ev σ g = .func (.func c) #[] #[] := by rfl) (ha : as.toList.map (ev σ) = args.toList := by rfl) (hpre : ∀ F, F ∈ pre → F ∈ Γ := by first | (simp; done) | (simp +contextual; done)) (hd : Ah n dst = true := by rfl) : Jr tn pn P f R B n K ops fin i l dst (.call { callee := .value g, args := as, argTypes := ts }) ty σ Γ Ms :=
 B9k (A8n hg ha hc) hsp hpre rfl rfl hd kk
theorem C8a {c : FuncId} {args : Array Value} {as : Array Operand} {ts : Array TypeId} {g : Operand} {pre : List Fact} {chain : List PanicEntry}
  (hc : ∀ (args : Array Value) (w : World), (callFunc c args).run P w = .ok (.enter c args) w) (hsp : Ro P c args pre chain) (hR : ∀ w, St B [] [] w → R (.panicked chain) w)
  (hg : ev σ g = .func (.func c) #[] #[] := by rfl) (ha : as.toList.map (ev σ) = args.toList := by rfl) (hpre : ∀ F, F ∈ pre → F ∈ Γ := by first | (simp; done) | (simp +contextual; done)) (hD : n.defs = [] := by rfl) (hK : okK n.kind := by first | exact .inl rfl | exact .inr rfl) : Ex P f R B n K ops l (Cp dst (.call { callee := .value g, args := as, argTypes := ts }) ty) σ Γ Ms :=
 D7b (A8n hg ha hc) hsp hpre hD hK hR
theorem C8p {c : FuncId} {args : Array Value} {as : Array Operand} {ts : Array TypeId} {g : Operand} {pre : List Fact} {chain : List PanicEntry} (ho : ops[i]? = some ⟨dst, .call { callee := .value g, args := as, argTypes := ts }, ty, pos, after, none⟩)
  (hc : ∀ (args : Array Value) (w : World), (callFunc c args).run P w = .ok (.enter c args) w) (hsp : Ro P c args pre chain) (hR : ∀ w, St B [] [] w → R (.panicked chain) w)
  (hg : ev σ g = .func (.func c) #[] #[] := by rfl) (ha : as.toList.map (ev σ) = args.toList := by rfl) (hpre : ∀ F, F ∈ pre → F ∈ Γ := by first | (simp; done) | (simp +contextual; done)) (hq : Nat.beq pn i = true := by rfl) (hD : n.defs = [] := by rfl) (hK : okK n.kind := by first | exact .inl rfl | exact .inr rfl) : NV tn pn P f R B n K ops fin (i :: l) σ Γ Ms :=
 D8t ho hq rfl rfl rfl (A8n hg ha hc) hsp hpre hD hK hR
theorem q0 (ho : ops[i]? = some ⟨dst, op, ty, pos, after, none⟩) (h : Ex P f R B n K ops l (Cp dst op ty) σ Γ Ms) : E1 P f R B n K ops (i :: l) σ Γ Ms := E3c ho h
theorem qT {g d : Nat} {want : Bool} {og : Oper} (ho : ops[i]? = some ⟨dst, op, ty, pos, after, some (g, want)⟩) (hog : ops[g]? = some og) (hgd : og.dst = some d) (h : Ex P f R B n K ops l (Cp dst op ty) σ Γ Ms) (ht : σ d = .bool want := by rfl) : E1 P f R B n K ops (i :: l) σ Γ Ms := D7k ho hog hgd ht h
theorem qF {g d : Nat} {want t : Bool} {og : Oper} (ho : ops[i]? = some ⟨dst, op, ty, pos, after, some (g, want)⟩) (hog : ops[g]? = some og) (hgd : og.dst = some d) (h : E1 P f R B n K ops l (Aq σ dst undef) Γ Ms) (ht : σ d = .bool t := by conv => lhs; whnf) (hne : (t == want) = false := by rfl) (hd : Ah n dst = true := by rfl) : E1 P f R B n K ops (i :: l) σ Γ Ms := D7l ho hog hgd ht hne hd h
theorem qU {g d : Nat} {want : Bool} {og : Oper} (ho : ops[i]? = some ⟨dst, op, ty, pos, after, some (g, want)⟩) (hog : ops[g]? = some og) (hgd : og.dst = some d) (h : E1 P f R B n K ops l (Aq σ dst undef) Γ Ms) (ht : σ d = undef := by rfl) (hd : Ah n dst = true := by rfl) : E1 P f R B n K ops (i :: l) σ Γ Ms := D7j ho hog hgd ht hd h
theorem nU {g d : Nat} {want : Bool} {og : Oper} (ho : ops[i]? = some ⟨dst, op, ty, pos, after, some (g, want)⟩) (hog : ops[g]? = some og) (hgd : og.dst = some d) (h : NV tn pn P f R B n K ops fin l (Aq σ dst undef) Γ Ms) (ht : σ d = undef := by rfl) (hd : Ah n dst = true := by rfl) (hn : Nat.beq pn i = false := by rfl) : NV tn pn P f R B n K ops fin (i :: l) σ Γ Ms := D8u ho hog hgd ht hd h hn
theorem qI {g d : Nat} {want t : Bool} {og : Oper} (ho : ops[i]? = some ⟨dst, op, ty, pos, after, some (g, want)⟩) (hog : ops[g]? = some og) (hgd : og.dst = some d) (ht : σ d = .bool t) (hon : t = want → Ex P f R B n K ops l (Cp dst op ty) (Sb σ d (.bool want)) Γ Ms) (hoff : t = !want → E1 P f R B n K ops l (Aq (Sb σ d (.bool !want)) dst undef) Γ Ms) (hd : Ah n dst = true := by rfl) : E1 P f R B n K ops (i :: l) σ Γ Ms := E3b ho hog hgd ht hd hon hoff
theorem n0 (ho : ops[i]? = some ⟨dst, op, ty, pos, after, none⟩) (h : Jr tn pn P f R B n K ops fin i l dst op ty σ Γ Ms) (hn : Nat.beq pn i = false := by rfl) : NV tn pn P f R B n K ops fin (i :: l) σ Γ Ms := E3u ho h hn
theorem nT {g d : Nat} {want : Bool} {og : Oper} (ho : ops[i]? = some ⟨dst, op, ty, pos, after, some (g, want)⟩) (hog : ops[g]? = some og) (hgd : og.dst = some d) (h : Jr tn pn P f R B n K ops fin i l dst op ty σ Γ Ms) (ht : σ d = .bool want := by rfl) (hn : Nat.beq pn i = false := by rfl) : NV tn pn P f R B n K ops fin (i :: l) σ Γ Ms := D8v ho hog hgd ht h hn
theorem nF {g d : Nat} {want t : Bool} {og : Oper} (ho : ops[i]? = some ⟨dst, op, ty, pos, after, some (g, want)⟩) (hog : ops[g]? = some og) (hgd : og.dst = some d) (h : NV tn pn P f R B n K ops fin l (Aq σ dst undef) Γ Ms) (ht : σ d = .bool t := by conv => lhs; whnf) (hne : (t == want) = false := by rfl) (hd : Ah n dst = true := by rfl) (hn : Nat.beq pn i = false := by rfl) : NV tn pn P f R B n K ops fin (i :: l) σ Γ Ms := D8w ho hog hgd ht hne hd h hn
theorem nI {g d : Nat} {want t : Bool} {og : Oper} (ho : ops[i]? = some ⟨dst, op, ty, pos, after, some (g, want)⟩) (hog : ops[g]? = some og) (hgd : og.dst = some d) (ht : σ d = .bool t) (hon : t = want → Jr tn pn P f R B n K ops fin i l dst op ty (Sb σ d (.bool want)) Γ Ms) (hoff : t = !want → NV tn pn P f R B n K ops fin l (Aq (Sb σ d (.bool !want)) dst undef) Γ Ms) (hd : Ah n dst = true := by rfl) (hn : Nat.beq pn i = false := by rfl) : NV tn pn P f R B n K ops fin (i :: l) σ Γ Ms := E3t ho hog hgd ht hd hon hoff hn
end
end Go.Hy
namespace Go.Hy
theorem Ml {a b c d e f g m : Bm} {L : List Bm} : (a :: b :: c :: d :: e :: f :: g :: m :: L).Perm (m :: a :: b :: c :: d :: e :: f :: g :: L) := (Gj.cons a).trans Aj
theorem Ng {a b c d e f g h m : Bm} {L : List Bm} : (a :: b :: c :: d :: e :: f :: g :: h :: m :: L).Perm (m :: a :: b :: c :: d :: e :: f :: g :: h :: L) := (Ml.cons a).trans Aj
theorem B8r {a b c d e f g h i m : Bm} {L : List Bm} : (a :: b :: c :: d :: e :: f :: g :: h :: i :: m :: L).Perm (m :: a :: b :: c :: d :: e :: f :: g :: h :: i :: L) := (Ng.cons a).trans Aj
theorem To {a b c d e f g h i j m : Bm} {L : List Bm} : (a :: b :: c :: d :: e :: f :: g :: h :: i :: j :: m :: L).Perm (m :: a :: b :: c :: d :: e :: f :: g :: h :: i :: j :: L) := (B8r.cons a).trans Aj
theorem B5h {a b c d e f g h i j k m : Bm} {L : List Bm} : (a :: b :: c :: d :: e :: f :: g :: h :: i :: j :: k :: m :: L).Perm (m :: a :: b :: c :: d :: e :: f :: g :: h :: i :: j :: k :: L) := (To.cons a).trans Aj
def Kc (x : Int) : List Value := [.int .i64 x]
abbrev Dq (l : List Int) : List Value := l.flatMap Kc
theorem M3 (x : Int) : (Kc x).length = 1 := rfl
def E0a (ok : Nat → Prop) (l : List Int) (a : SH) (w : World) : Prop := rowAt ok 1 8 l.length a (fun i => Kc (l.getD i 0)) w ∧ ∀ x, x ∈ l → As x
def IL (l : List Int) (a : SH) : Fact := ⟨fun ok w => E0a ok l a w, fun _ _ _ hs h => ⟨h.1.mono hs, h.2⟩, fun _ _ _ h hs => ⟨h.1.loc hs, h.2⟩⟩
section
variable {B : Cs} {Γ : List Fact} {Ms : List Bm} {w : World}
theorem St.Lc {e : TypeId} {a : SH} {n : Nat} {xs : List Value} {l : List Int} (hs : St B Γ (Al 1 e a n xs :: Ms) w) {hBp : Prop} (hB : hBp) (hx : xs = Dq l) (hn : n = l.length) (hb : n * 8 ≤ reach) (hu : ∀ c, c ∈ l → As c) : St B (IL l a :: Γ) Ms w := by
 subst hx
 subst hn
 refine hs.Ru hB (fun ok hok hh => ⟨?_, hu⟩)
 exact Oq (F := Kc) M3 0 (hh : World.ownsRow _ _ _ _ _ _ _) rfl hb hok
theorem St.Nc {e : TypeId} {a : SH} {n : Nat} {l : List Cl} {c : Cl} (hs : St B Γ (Al 2 e a n (Ad l ++ Aw c) :: Ms) w) : St B Γ (Al 2 e a n (Ad (l ++ [c])) :: Ms) w := by
 have h : Ad (l ++ [c]) = Ad l ++ Aw c := by simp [Ad]
 rw [h]; exact hs
theorem St.A9r {e : TypeId} {a : SH} {n : Nat} {l : List Int} {c : Int} (hs : St B Γ (Al 1 e a n (Dq l ++ [.int .i64 c]) :: Ms) w) : St B Γ (Al 1 e a n (Dq (l ++ [c])) :: Ms) w := by
 have h : Dq (l ++ [c]) = Dq l ++ [.int .i64 c] := by simp [Dq, Kc]
 rw [h]; exact hs
theorem St.Nb {e : TypeId} {a : SH} {n : Nat} {l : List TP} {t : T} {vr vk vs : SH} (hs : St B Γ (Al 6 e a n (Bq l ++ tc t vr vk vs) :: Ms) w) : St B Γ (Al 6 e a n (Bq (l ++ [(t, vr, vk, vs)])) :: Ms) w := by
 have h : Bq (l ++ [(t, vr, vk, vs)]) = Bq l ++ tc t vr vk vs := by simp [Bq, Ie]
 rw [h]; exact hs
theorem St.B8c {e : TypeId} {a : SH} {n : Nat} {l : List BP} {b : Br} {vf vk : SH} (hs : St B Γ (Al 2 e a n (Fe l ++ bc b vf vk) :: Ms) w) : St B Γ (Al 2 e a n (Fe (l ++ [(b, vf, vk)])) :: Ms) w := by
 have h : Fe (l ++ [(b, vf, vk)]) = Fe l ++ bc b vf vk := by simp [Fe, Ke]
 rw [h]; exact hs
theorem St.Hi {e : TypeId} {a : SH} {n : Nat} {l m : List Cl} (hs : St B Γ (Al 2 e a n (Ad l ++ Ad m) :: Ms) w) : St B Γ (Al 2 e a n (Ad (l ++ m)) :: Ms) w := by
 have h : Ad (l ++ m) = Ad l ++ Ad m := by simp [Ad]
 rw [h]; exact hs
theorem St.D8h {l : List Int} {a : SH} (hs : St B Γ Ms w) (hF : IL l a ∈ Γ) : l.length * 8 ≤ reach ∧ (0 < l.length → ∃ b o, a.1 = some ⟨b, o, Option.none⟩) ∧ ∀ c, c ∈ l → As c := by
 obtain ⟨h2, h4⟩ := hs.facts _ hF
 exact ⟨h2.2.1, fun hn => by obtain ⟨b, o, h3, _⟩ := h2.2.2 hn; exact ⟨b, o, h3⟩, h4⟩
end
section
variable {P : Program} {f : FuncId} {R : Ending → World → Prop} {B : Cs} {n : Fz} {todo : List Item} {σ : Nat → Value} {Γ : List Fact} {Ms : List Bm}
theorem G6 {l : List Int} {a : SH} (k : l.length * 8 ≤ reach → (0 < l.length → ∃ b o, a.1 = some ⟨b, o, none⟩) → (∀ c, c ∈ l → As c) → Fa P f R B n todo σ Γ Ms) (hF : IL l a ∈ Γ := by repeat (first | exact List.mem_cons_self | apply List.mem_cons_of_mem)) : Fa P f R B n todo σ Γ Ms :=
 Bs (p := l.length * 8 ≤ reach ∧ (0 < l.length → ∃ b o, a.1 = some ⟨b, o, none⟩) ∧ ∀ c, c ∈ l → As c) (fun w hs => hs.D8h hF) (fun h => k h.1 h.2.1 h.2.2)
theorem C0c {K : List Item} {it : Item} (p : Prop) (live : List (Nat × Value)) (h1 : (p → ∀ σ', P3 σ' live → Fa P f R B n K σ' Γ Ms) → Fa P f R B n (it :: K) σ Γ Ms) (h2 : p → ∀ base, Fa P f R B n K (stL base live) Γ Ms) : Fa P f R B n (it :: K) σ Γ Ms :=
 h1 (fun hp σ' hl => go_slots live hl (h2 hp))
theorem Ai {K : List Item} {c : Code} {X : Type} (Inv : X → Prop) (live : X → List (Nat × Value)) (E : X → List Fact → List Fact) (Mf : X → List Bm) (μ : X → Nat) (x0 : X) (h0 : Inv x0)
  (hl : P3 σ (live x0)) (hΓ : ∀ w, St B Γ Ms w → St B (E x0 Γ) (Mf x0) w)
  (round : ∀ x base, Inv x → (∀ x' σ', Inv x' → μ x' < μ x → P3 σ' (live x') → Fa P f R B n (.inLoop c :: K) σ' (E x' Γ) (Mf x')) →
   Fa P f R B n (.code c :: .inLoop c :: K) (stL base (live x)) (E x Γ) (Mf x)) :
  Fa P f R B n (.code (.loop c) :: K) σ Γ Ms := Dj Inv live (fun x => E x Γ) Mf μ x0 h0 hl hΓ round
end
theorem NV.conv {tn : Bool} {pn : Nat} {P : Program} {f : FuncId} {R : Ending → World → Prop} {B : Cs} {n : Fz} {K : List Item} {ops : Array Oper} {l fin : List Nat} {σ : Nat → Value} {Γ : List Fact} {Ms' : List Bm} (h : NV tn pn P f R B n K ops fin l σ Γ Ms') :
  ∀ {Ms : List Bm}, (∀ Γ M w, St B Γ (M ++ Ms) w → St B Γ (M ++ Ms') w) → NV tn pn P f R B n K ops fin l σ Γ Ms := by
 induction h with
 | done h => exact fun hc => .done (fun a w hr hs => h a w hr (hc _ [] w hs))
 | no h => exact fun hc => .no (fun ⟨w, hw⟩ => h ⟨w, hc _ [] w hw⟩)
 | pure ho hw hd h k ih => exact fun hc => .pure ho hw hd h (ih hc)
 | load ht ho hm hw hd h k ih => exact fun hc => .load ht ho hm hw hd (fun w hs => h w (hc _ [] w hs)) (ih hc)
 | off ho hw hd k ih => exact fun hc => .off ho hw hd (ih hc)
 | alloc ho hg hw hd h k ih => exact fun hc => .alloc ho hg hw hd h (fun b => ih b (fun Γ M w hs => by
   have := hc Γ (M ++ [Af b _ _]) w (by simpa using hs)
   simpa using this))
 | allocF hz ho hg hgm hw hd h hF k ih => exact fun hc => .allocF hz ho hg hgm hw hd h hF (fun b => ih b hc)
 | call ht ho hg hm hw hd he hsp hpre k ih => exact fun hc => .call ht ho hg hm hw hd he hsp hpre (fun x => ih x (fun Γ M w hs => by
   have := hc Γ (M ++ _) w (by simpa using hs)
   simpa using this))
 | loadF ho hm hw hd h k ih => exact fun hc => .loadF ho hm hw hd h (ih hc)
 | pan ht ho hq hg hm hw he hsp hpre hR => exact fun hc => .pan ht ho hq hg hm hw he hsp hpre hR
 | @Er i l o X val F r r' σ Γ Ms0 Ms2 ht ho hb hw hd hp h k hz ih =>
  intro Ms hc
  refine NV.Er (F := F) (r := Ms) (r' := fun x => r' x ++ Ms2) (Ms2 := []) ht ho hb hw hd (by rw [List.append_nil]) (fun M w hs => ?_) (fun x => by rw [List.append_nil]; exact k x) hz
  have h0 : St B Γ (M ++ Ms0) w := hc _ M w (hs.perm List.perm_append_comm)
  have h1 : St B Γ (r ++ (Ms2 ++ M)) w := by
   rw [← List.append_assoc]
   exact h0.perm (List.perm_append_comm.trans (hp.append_right M))
  obtain ⟨x, w', h2, h3⟩ := h (Ms2 ++ M) w h1
  exact ⟨x, w', h2, by rw [List.append_assoc]; exact h3⟩
 | @sto i l o r r' σ Γ Ms0 Ms2 ho hb hw hd hp h k ih =>
  intro Ms hc
  refine NV.sto (r := Ms) (r' := r' ++ Ms2) (Ms2 := []) ho hb hw hd (by rw [List.append_nil]) (fun M w hs => ?_) (by rw [List.append_nil]; exact k)
  have h0 : St B Γ (M ++ Ms0) w := hc _ M w (hs.perm List.perm_append_comm)
  have h1 : St B Γ (r ++ (Ms2 ++ M)) w := by
   rw [← List.append_assoc]
   exact h0.perm (List.perm_append_comm.trans (hp.append_right M))
  obtain ⟨w', h2, h3⟩ := h (Ms2 ++ M) w h1
  exact ⟨w', h2, by rw [List.append_assoc]; exact h3⟩
theorem Yu {tn : Bool} {pn : Nat} {P : Program} {f : FuncId} {R : Ending → World → Prop} {B : Cs} {n : Fz} {K : List Item} {ops : Array Oper} {l fin : List Nat} {σ : Nat → Value} {Γ : List Fact} {Ms : List Bm} (A A' : List Bm) (hc : ∀ Γ L w, St B Γ (A ++ L) w → St B Γ (A' ++ L) w) (h : NV tn pn P f R B n K ops fin l σ Γ (A' ++ Ms)) : NV tn pn P f R B n K ops fin l σ Γ (A ++ Ms) :=
 h.conv (fun Γ M w hs => by
  have h1 := hc Γ (Ms ++ M) w (by simpa using hs.perm List.perm_append_comm)
  have h2 : St B Γ ((A' ++ Ms) ++ M) w := by simpa using h1
  exact h2.perm List.perm_append_comm)
section
variable {P : Program} [Tab P] {B : Cs} {σ : Nat → Value} {Γ : List Fact} {Ms : List Bm} {ty : TypeId} {x y : Operand} {k : IntKind} {a : Int} {v : Value}
theorem D9n {t : TypeId} {d : TypeDesc} {bk o i : Nat} {a : SH} {l : List Int} (hx : ev σ x = .pointer (some ⟨bk, o + i * 1, none⟩)) (hF : IL l a ∈ Γ) (ha : a.1 = some ⟨bk, o, none⟩) (hu : Tab.und P t = some d) (hd : (match d with | .struct _ | .array _ _ => true | _ => false) = false) (hlt : i < l.length) :
  Km P B σ Γ Ms (.load t x) ty (.int .i64 (l.getD i 0)) := fun w hs => by
 have h3 := (Ks (hs.facts _ hF).1 ha hlt).2 0 (.int .i64 (l.getD i 0)) rfl
 rw [Nat.add_zero] at h3
 have h4 := Ej (P := P) hu hd h3
 generalize hv : l.getD i 0 = u at h4 ⊢
 simp only [Cp, execOp, hx, Instr.loadAt, Instr.sureAddr]
 rw [Nat.mul_one] at h4 ⊢
 simp [h4]
theorem C1z {s d : TypeId} {a : Nat} (hs : Tab.und P s = some (.int .u32)) (hd : Tab.und P d = some (.int .i64)) (hx : ev σ x = .int .u32 (a : Int)) (ha : a < 4294967296) : Cg P σ (.convert s d x) ty (.int .i64 (a : Int)) := by
 have e : IntKind.i64.wrap (a : Int) = (a : Int) := by rw [IntKind.wrap_i64]; omega
 have := J8 (P := P) (ty := ty) hs hd hx
 rwa [e] at this
theorem C2b {s d : TypeId} {a : Nat} (hs : Tab.und P s = some (.int .i64)) (hd : Tab.und P d = some (.int .u32)) (hx : ev σ x = .int .i64 (a : Int)) (ha : a < 4294967296) : Cg P σ (.convert s d x) ty (.int .u32 (a : Int)) := by
 have e : IntKind.u32.wrap (a : Int) = (a : Int) := by
  have : IntKind.u32.wrap (a : Int) = (a : Int) % 4294967296 := by simp [IntKind.wrap, IntKind.bits, IntKind.signed]
  rw [this]; omega
 have := J8 (P := P) (ty := ty) hs hd hx
 rwa [e] at this
theorem A4k {s d : TypeId} {a : Int} {m : Nat} (hs : Tab.und P s = some (.int .i64)) (hd : Tab.und P d = some (.int .u64)) (hx : ev σ x = .int .i64 a) (ha : a = (m : Int)) (hm : m < 18446744073709551616) : Cg P σ (.convert s d x) ty (.int .u64 (m : Int)) := by
 have e : IntKind.u64.wrap a = (m : Int) := by
  have : IntKind.u64.wrap a = a % 18446744073709551616 := by simp [IntKind.wrap, IntKind.bits, IntKind.signed]
  rw [this]; omega
 have := J8 (P := P) (ty := ty) hs hd hx
 rwa [e] at this
end
end Go.Hy
namespace Go.Hy
def Tz (a : SH) (sz k : Nat) : SH := (if a.2 = k then a.1 else a.1.map (·.add (k * sz)), a.2 - k)
section
variable {P : Program} [Tab P] {B : Cs} {σ : Nat → Value} {Γ : List Fact} {Ms : List Bm} {ty : TypeId} {x y : Operand}
theorem B5j {t e : TypeId} {s bt m c k : Nat} {zv : Value} {A : Option Addr} (hu : Tab.und P t = some (.slice e)) (hi : Tab.inf P e = some (s, bt, zv)) (hx : ev σ x = .slice A m c) (hy : ev σ y = .int .i64 (k : Int)) (hk : k ≤ c) : Cg P σ (.slice t x none (some y) none) ty (.slice A k c) := fun w => by
 have h0 : ∀ a : Option Addr, (a.map fun b : Addr => b.add 0) = a := fun a => by cases a <;> simp [Addr.add_zero']
 simp [Cp, execOp, hx, hy, Instr.sliceAt, Instr.slice, Instr.sliceBounds, Instr.sliceBound, asIntOf, Dh hu, hk, G3 hi, h0]
theorem B5i {t e : TypeId} {s bt m k : Nat} {zv : Value} {a : SH} (hu : Tab.und P t = some (.slice e)) (hi : Tab.inf P e = some (s, bt, zv)) (hx : ev σ x = sl a m) (hy : ev σ y = .int .i64 (k : Int)) (hk : k ≤ m) : Cg P σ (.slice t x (some y) none none) ty (sl (Tz a s k) (m - k)) := fun w => by
 have hx' : ev σ x = .slice a.1 m a.2 := hx
 simp [Cp, execOp, hx', hy, Instr.sliceAt, Instr.slice, Instr.sliceBounds, Instr.sliceBound, asIntOf, Dh hu, hk, G3 hi, sl, Tz]
end
theorem B4x {ok : Nat → Prop} {sz bt n k : Nat} {a : SH} {E : Nat → List Value} {w : World} (h : rowAt ok sz bt n a E w) (hk : k ≤ n) : rowAt ok sz bt k a E w :=
 ⟨Nat.le_trans hk h.1, Nat.le_trans (Nat.mul_le_mul_right bt hk) h.2.1, fun h0 => by
  obtain ⟨b, o, h1, h2, h3⟩ := h.2.2 A2
  exact ⟨b, o, h1, h2, fun i hi => h3 i A2⟩⟩
theorem B4y {ok : Nat → Prop} {sz bt n k : Nat} {a : SH} {E : Nat → List Value} {w : World} (h : rowAt ok sz bt n a E w) (hk : k ≤ n) : rowAt ok sz bt (n - k) (Tz a sz k) (fun i => E (i + k)) w := by
 refine ⟨Nat.sub_le_sub_right h.1 k, Nat.le_trans (Nat.mul_le_mul_right bt (Nat.sub_le n k)) h.2.1, fun h0 => ?_⟩
 obtain ⟨b, o, h1, h2, h3⟩ := h.2.2 A2
 have hne : a.2 ≠ k := by have := h.1; omega
 refine ⟨b, o + k * sz, by simp [Tz, hne, h1, Addr.add_lit], h2, fun i hi j v hv => ?_⟩
 have := h3 (i + k) A2 j v hv
 rwa [show o + k * sz + i * sz + j = o + (i + k) * sz + j by rw [Nat.add_mul]; omega]
theorem Xt {ok : Nat → Prop} {sz bt n : Nat} {a : SH} {E E' : Nat → List Value} {w : World} (h : rowAt ok sz bt n a E w) (he : ∀ i, i < n → E i = E' i) : rowAt ok sz bt n a E' w :=
 ⟨h.1, h.2.1, fun h0 => by
  obtain ⟨b, o, h1, h2, h3⟩ := h.2.2 h0
  exact ⟨b, o, h1, h2, fun i hi => by rw [← he i hi]; exact h3 i hi⟩⟩
theorem getD_take' {α : Type} {d : α} {l : List α} {k i : Nat} (h : i < k) : (l.take k).getD i d = l.getD i d := by
 simp [List.getD_eq_getElem?_getD, h]
theorem getD_drop' {α : Type} {d : α} {l : List α} {k i : Nat} : (l.drop k).getD i d = l.getD (i + k) d := by
 simp [List.getD_eq_getElem?_getD, Nat.add_comm]
section
variable {B : Cs} {Γ : List Fact} {Ms : List Bm} {w : World}
theorem St.D6v {l : List Cl} {a : SH} (k : Nat) (hs : St B Γ Ms w) (hF : CL l a ∈ Γ) (hk : k ≤ l.length) : St B (CL (l.take k) a :: Γ) Ms w := by
 obtain ⟨h2, h4⟩ := hs.facts _ hF
 refine hs.add ⟨?_, fun c hc => h4 c (List.mem_of_mem_take hc)⟩
 have e : (l.take k).length = k := by simp; omega
 rw [e]
 exact Xt (B4x h2 hk) (fun i hi => by rw [getD_take' hi])
theorem St.E1u {l : List Cl} {a : SH} (k : Nat) (hs : St B Γ Ms w) (hF : CL l a ∈ Γ) (hk : k ≤ l.length) : St B (CL (l.drop k) (Tz a 2 k) :: Γ) Ms w := by
 obtain ⟨h2, h4⟩ := hs.facts _ hF
 refine hs.add ⟨?_, fun c hc => h4 c (List.mem_of_mem_drop hc)⟩
 rw [List.length_drop]
 exact Xt (B4y h2 hk) (fun i hi => by rw [getD_drop'])
theorem St.E6g {l : List Cl} {a : SH} (hs : St B Γ Ms w) (hF : CL l a ∈ Γ) : l.length ≤ a.2 := (hs.facts _ hF).1.1
end
end Go.Hy
namespace Go.Hy
section
variable {P : Program} [Tab P] {σ : Nat → Value} {ty : TypeId} {x y : Operand}
theorem B7r (n : Int) : IntKind.u64.wrap n = n % 18446744073709551616 := by simp [IntKind.wrap, IntKind.bits, IntKind.signed]
theorem D2p {t t' : TypeId} {k2 : IntKind} {a m : Nat} (hx : ev σ x = .int .u64 (a : Int)) (hy : ev σ y = .int k2 (m : Int)) (hm : m ≤ 64) (hb : a * 2 ^ m < 18446744073709551616) : Cg P σ (.binOp .shl t x y t') ty (.int .u64 ((a * 2 ^ m : Nat) : Int)) :=
 De hx hy (fun w => C5 w) (fun w => by
  have e : IntKind.u64.wrap ((a : Int) * 2 ^ min (m : Int).toNat 64) = ((a * 2 ^ m : Nat) : Int) := by
   rw [B7r, Int.toNat_natCast, Nat.min_eq_left hm]
   have : ((a : Int) * 2 ^ m) = ((a * 2 ^ m : Nat) : Int) := by rw [Int.natCast_mul, Int.natCast_pow]; rfl
   rw [this]; omega
  have h0 : ¬ ((m : Int) < 0) := by omega
  simp only [binOp, Op.shift, if_neg h0]
  show Result.ok (Value.int .u64 (IntKind.u64.wrap ((a : Int) * 2 ^ min (m : Int).toNat 64))) w = _
  rw [e])
theorem D2n {t t' : TypeId} {a b : Nat} (hx : ev σ x = .int .u64 (a : Int)) (hy : ev σ y = .int .u64 (b : Int)) (h : b ≤ a) (ha : a < 18446744073709551616) : Cg P σ (.binOp .sub t x y t') ty (.int .u64 ((a - b : Nat) : Int)) :=
 De hx hy (fun w => C5 w) (fun w => by
  have e : IntKind.u64.wrap ((a : Int) - (b : Int)) = ((a - b : Nat) : Int) := by rw [B7r]; omega
  simp only [binOp, Op.intArith, ne_eq, not_true, if_false]
  show Result.ok (Value.int .u64 (IntKind.u64.wrap ((a : Int) - (b : Int)))) w = _
  rw [e])
theorem C2d {s d : TypeId} {a : Nat} (hs : Tab.und P s = some (.int .u64)) (hd : Tab.und P d = some (.int .u32)) (hx : ev σ x = .int .u64 (a : Int)) (ha : a < 4294967296) : Cg P σ (.convert s d x) ty (.int .u32 (a : Int)) := by
 have e : IntKind.u32.wrap (a : Int) = (a : Int) := by rw [C4v]; omega
 have := J8 (P := P) (ty := ty) hs hd hx
 rwa [e] at this
end
end Go.Hy
namespace Go.Hy
section
variable {P : Program} [Tab P] {σ : Nat → Value} {ty : TypeId} {x y : Operand}
end
end Go.Hy
namespace Go.Hy
open Go Go.ChangeShapes Go.WideShapes Go.RowKit
variable {P : Program} {H : Type} {enc : TypeId × Value → H} {W : World} {base : Nat} {v : Value} {d : DataW H} {ps : List MemPlace}
theorem Nv {t : TypeId} {ts : List TypeId} {ds : List (DataW H)} (h : ∀ x, x ∈ DataW.weightsEach P (t :: ts) (d :: ds) → x ≤ reach) : Mt P t d ∧ ∀ x, x ∈ DataW.weightsEach P ts ds → x ≤ reach :=
 ⟨fun x hx => h x (by simp only [DataW.weightsEach, List.mem_append]; exact .inl hx), fun x hx => h x (by simp only [DataW.weightsEach, List.mem_append]; exact .inr hx)⟩
theorem Tf {t : TypeId} {ts : List TypeId} {vs : List Value} {ds : List (DataW H)} (h : DataW.TrodAll enc P W 0 (fun _ => true) true (t :: ts) vs ds ps) :
  ∃ v vs' d ds' p q, vs = v :: vs' ∧ ds = d :: ds' ∧ DataW.Trod enc P W 0 (fun _ => true) true t v d p ∧ DataW.TrodAll enc P W 0 (fun _ => true) true ts vs' ds' q := by
 obtain ⟨v, vs1, d, ds1, a, b, h1, h2, h3, h4, h5⟩ := trodAll_cons h
 exact ⟨v, vs1, d, ds1, a, b, h1, h2, h4, h5⟩
theorem C1i {vs : List Value} {ds : List (DataW H)} (h : DataW.TrodAll enc P W 0 (fun _ => true) true [] vs ds ps) : vs = [] := by
 obtain ⟨h1, _, _⟩ := trodAll_nil h
 exact h1
variable [TyF P]
theorem E1x {t : TypeId} (ht : t = TyF.lC P) (hval : Value.okWide P W .any base t v) (h : DataW.Trod enc P W 0 (fun _ => true) true t v d ps) (hl : Mt P t d) : ∃ (l : List Cl) (a : SH), v = sl a l.length ∧ Kd (okw W) l a W := by
 subst ht
 obtain ⟨x, y, z, rfl⟩ := okWide_slice TyF.ulC hval
 obtain ⟨fuel, hf⟩ := h
 obtain ⟨l, a, h1, h2⟩ := Yt hf hl
 exact ⟨l, a, by simpa [Value.cells] using h1, h2⟩
end Go.Hy
namespace Go.Hy
def Ff (L : List Bm) : Bm := ⟨Bu L, fun w => (∀ m, m ∈ L → ∀ w', (∀ b, m.dom b → w'.heap[b]? = w.heap[b]?) → m.holds w') ∧ (L.Pairwise fun m m' => ∀ b, m.dom b → m'.dom b → False)⟩
section
variable {B : Cs} {Γ : List Fact} {Ms L L' : List Bm} {w : World}
theorem St.pack (hs : St B Γ (L ++ Ms) w) : St B Γ (Ff L :: Ms) w := by
 have hd : ∀ b, Bu (Ff L :: Ms) b ↔ Bu (L ++ Ms) b := fun b => by rw [Ge, E2]; exact Iff.rfl
 refine ⟨hs.chg, fun F hF => F.mono _ _ _ (fun b hb => ⟨hb.1, hb.2.1, fun hc => hb.2.2 ((hd b).mp hc)⟩) (hs.facts F hF), ?_, ?_, ?_⟩
 ·intro m hm w' hw
  rcases List.mem_cons.mp hm with e | hm
  ·subst e
   exact ⟨fun m hm w2 hw2 => hs.res m (List.mem_append_left _ hm) w2 (fun b hb => (hw2 b hb).trans (hw b ⟨m, hm, hb⟩)), (List.pairwise_append.mp hs.disj).1⟩
  ·exact hs.res m (List.mem_append_right _ hm) w' hw
 ·intro m hm b hb
  rcases List.mem_cons.mp hm with e | hm
  ·subst e
   obtain ⟨m', hm', hb'⟩ := hb
   exact hs.lt m' (List.mem_append_left _ hm') b hb'
  ·exact hs.lt m (List.mem_append_right _ hm) b hb
 ·refine List.pairwise_cons.mpr ⟨fun m hm b hb hb2 => ?_, (List.pairwise_append.mp hs.disj).2.1⟩
  obtain ⟨m', hm', hb'⟩ := hb
  exact (List.pairwise_append.mp hs.disj).2.2 m' hm' m hm b hb' hb2
theorem St.unpack (hs : St B Γ (Ff L :: Ms) w) : St B Γ (L ++ Ms) w := by
 have hd : ∀ b, Bu (Ff L :: Ms) b ↔ Bu (L ++ Ms) b := fun b => by rw [Ge, E2]; exact Iff.rfl
 have hb0 := hs.res (Ff L) List.mem_cons_self w (fun _ _ => rfl)
 refine ⟨hs.chg, fun F hF => F.mono _ _ _ (fun b hb => ⟨hb.1, hb.2.1, fun hc => hb.2.2 ((hd b).mpr hc)⟩) (hs.facts F hF), ?_, ?_, ?_⟩
 ·intro m hm w' hw
  rcases List.mem_append.mp hm with hm | hm
  ·exact hb0.1 m hm w' hw
  ·exact hs.res m (List.mem_cons_of_mem _ hm) w' hw
 ·intro m hm b hb
  rcases List.mem_append.mp hm with hm | hm
  ·exact hs.lt (Ff L) List.mem_cons_self b ⟨m, hm, hb⟩
  ·exact hs.lt m (List.mem_cons_of_mem _ hm) b hb
 ·exact List.pairwise_append.mpr ⟨hb0.2, (List.pairwise_cons.mp hs.disj).2, fun m hm m' hm' b hb hb' => (List.pairwise_cons.mp hs.disj).1 m' hm' b ⟨m, hm, hb⟩ hb'⟩
theorem St.A2a (hs : St B Γ Ms w) : St B Γ (Ff [] :: Ms) w := St.pack (L := []) hs
theorem St.D4o (hs : St B Γ (Ff L :: Ff L' :: Ms) w) : St B Γ (Ff (L' ++ L) :: Ms) w := by
 have h1 := (hs.unpack.perm List.perm_middle).unpack
 exact St.pack (by rw [List.append_assoc]; exact h1)
end
mutual
inductive HT where
 | mk (kind n : Int) (name : ByteArray) (r : List Cl) (vr : SH) (kids : List HT) (vk : SH) (sys : List HB) (vs : SH)
inductive HB where
 | mk (B9 : List Cl) (vf : SH) (kids : List HT) (vk : SH)
end
mutual
def HT.er : HT → T
 | .mk k n nm r _ ks _ ss _ => .mk k n nm r (HT.erL ks) (HT.erB ss)
def HT.erL : List HT → List T
 | [] => []
 | h :: hs => h.er :: HT.erL hs
def HT.erB : List HB → List Br
 | [] => []
 | .mk f _ ks _ :: bs => .mk f (HT.erL ks) :: HT.erB bs
end
def HB.er : HB → Br
 | .mk f _ ks _ => .mk f (HT.erL ks)
theorem HT.O1 : ∀ l : List HT, HT.erL l = l.map HT.er
 | [] => by simp [HT.erL]
 | h :: hs => by simp [HT.erL, HT.O1 hs]
theorem HT.A1l : ∀ l : List HB, HT.erB l = l.map HB.er
 | [] => by simp [HT.erB]
 | .mk f v ks u :: bs => by simp [HT.erB, HB.er, HT.A1l bs]
namespace HT
def vr : HT → SH | .mk _ _ _ _ v _ _ _ _ => v
def vk : HT → SH | .mk _ _ _ _ _ _ v _ _ => v
def vs : HT → SH | .mk _ _ _ _ _ _ _ _ v => v
def kids : HT → List HT | .mk _ _ _ _ _ ks _ _ _ => ks
def sys : HT → List HB | .mk _ _ _ _ _ _ _ ss _ => ss
def tp (h : HT) : TP := (h.er, h.vr, h.vk, h.vs)
end HT
namespace HB
def B9 : HB → List Cl | .mk f _ _ _ => f
def vf : HB → SH | .mk _ v _ _ => v
def kids : HB → List HT | .mk _ _ ks _ => ks
def vk : HB → SH | .mk _ _ _ v => v
def bp (b : HB) : BP := (b.er, b.vf, b.vk)
end HB
structure Tys where
 c : TypeId
 t : TypeId
 b : TypeId
mutual
def Jf (y : Tys) : HT → List Bm
 | .mk _ _ _ r v ks u ss x => Al 2 y.c v r.length (Ad r) :: Al 6 y.t u ks.length (Bq (ks.map HT.tp)) :: Al 2 y.b x ss.length (Fe (ss.map HB.bp)) :: (H7 y ks ++ Q1 y ss)
def H7 (y : Tys) : List HT → List Bm
 | [] => []
 | h :: hs => Jf y h ++ H7 y hs
def Q1 (y : Tys) : List HB → List Bm
 | [] => []
 | .mk f v ks u :: bs => (Al 2 y.c v f.length (Ad f) :: Al 6 y.t u ks.length (Bq (ks.map HT.tp)) :: H7 y ks) ++ Q1 y bs
end
def brR (y : Tys) : HB → List Bm
 | .mk f v ks u => Al 2 y.c v f.length (Ad f) :: Al 6 y.t u ks.length (Bq (ks.map HT.tp)) :: H7 y ks
theorem B1x (y : Tys) : ∀ l, H7 y l = l.flatMap (Jf y)
 | [] => by simp [H7]
 | h :: hs => by simp [H7, B1x y hs]
theorem C0k (y : Tys) : ∀ l, Q1 y l = l.flatMap (brR y)
 | [] => by simp [Q1]
 | .mk f v ks u :: bs => by simp [Q1, brR, C0k y bs]
mutual
def Yo : T → Prop
 | .mk k n nm r ks ss => As k ∧ As n ∧ nm.size ≤ Gl ∧ ((∀ c, c ∈ r → u32 c) ∧ r.length * 8 ≤ reach) ∧ ks.length * 104 ≤ reach ∧ ss.length * 48 ≤ reach ∧ okL ks ∧ okB ss
def okL : List T → Prop
 | [] => True
 | t :: ts => Yo t ∧ okL ts
def okB : List Br → Prop
 | [] => True
 | .mk f ks :: bs => ((∀ c, c ∈ f → u32 c) ∧ f.length * 8 ≤ reach) ∧ ks.length * 104 ≤ reach ∧ okL ks ∧ okB bs
end
mutual
theorem C7r {ok : Nat → Prop} {w : World} : ∀ {t : T} {vr vk vs : SH}, G1 ok t vr vk vs w → Yo t
 | .mk k n nm r ks ss, vr, vk, vs, h => by
  simp only [G1] at h
  simp only [Yo]
  obtain ⟨h1, h2, h3, h4, ⟨VR, VK, VS, h6, h7⟩, ⟨VF, VK', h9, h10⟩⟩ := h
  exact ⟨h1, h2, h3, ⟨h4.2, h4.1.2.1⟩, h6.2.1, h9.2.1, B5q h7, C7v h10⟩
theorem B5q {ok : Nat → Prop} {w : World} : ∀ {ts : List T} {VR VK VS : Nat → SH}, Gf ok ts VR VK VS w → okL ts
 | [], _, _, _, _ => by simp only [okL]
 | t :: ts, _, _, _, h => by
  simp only [Gf] at h
  simp only [okL]
  exact ⟨C7r h.1, B5q h.2⟩
theorem C7v {ok : Nat → Prop} {w : World} : ∀ {bs : List Br} {VF VK : Nat → SH}, H9 ok bs VF VK w → okB bs
 | [], _, _, _ => by simp only [okB]
 | .mk f ks :: bs, _, _, h => by
  simp only [H9, O2] at h
  simp only [okB]
  obtain ⟨⟨h1, ⟨VR, VK, VS, h2, h3⟩⟩, h4⟩ := h
  exact ⟨⟨h1.2, h1.1.2.1⟩, h2.2.1, B5q h3, C7v h4⟩
end
theorem V1 {K S M : List Bm} {a : Bm} : (K ++ (S ++ a :: M)).Perm (a :: (K ++ (S ++ M))) := (List.perm_middle.append_left K).trans List.perm_middle
section
variable {B : Cs} {Γ : List Fact} {Ms : List Bm} {w : World}
mutual
theorem St.Pg (y : Tys) {hBp : Prop} (hB : hBp) : ∀ (h : HT) {Γ : List Fact} {Ms : List Bm}, Yo h.er → St B Γ (Jf y h ++ Ms) w → St B (RT h.er h.vr h.vk h.vs :: Γ) Ms w
 | .mk k n nm r v ks u ss x, Γ, Ms, hok, hs => by
  simp only [HT.er, Yo] at hok
  obtain ⟨o1, o2, o3, o4, o5, o6, o7, o8⟩ := hok
  simp only [Jf, List.cons_append, List.append_assoc] at hs
  have h1 := hs.Cq (l := r) hB rfl rfl o4.2 o4.1
  -- the rows of kids and branches wait behind the parts
  have h2 : St B (CL r v :: Γ) (H7 y ks ++ (Q1 y ss ++ (Al 6 y.t u ks.length (Bq (ks.map HT.tp)) :: Al 2 y.b x ss.length (Fe (ss.map HB.bp)) :: Ms))) w := by
   exact h1.perm (((V1.trans (V1.cons _))).symm)
  have h3 := St.Zh y hB ks [] (by rw [HT.O1] at o7; exact o7) (by simpa using h2.Lg)
  have h4 := St.A9w y hB ss [] (by rw [HT.A1l] at o8; exact o8) (h3.B3e)
  have h5 := h4.F0 (ps := ks.map HT.tp) (ts := ks.map HT.er) hB D6 rfl (by simp [HT.tp, Function.comp_def]) D6 (by rw [HT.O1, List.length_map] at o5; exact o5)
  have h6 := h5.Qz (ps := ss.map HB.bp) (bs := ss.map HB.er) hB D6 rfl (by simp [HB.bp, Function.comp_def]) D6 (by rw [HT.A1l, List.length_map] at o6; exact o6)
  have h7 := h6.A7w (k := k) (n := n) (nm := nm) (r := r) (vr := v) (ks := ks.map HT.er) (vk := u) (ss := ss.map HB.er) (vs := x) o1 o2 o3 D6 D6 D6
  simp only [HT.er, HT.O1, HT.A1l, HT.vr, HT.vk, HT.vs]
  exact h7.less sx_
theorem St.Zh (y : Tys) {hBp : Prop} (hB : hBp) : ∀ (ks : List HT) (ps : List TP) {Γ : List Fact} {Ms : List Bm}, okL (ks.map HT.er) → St B (AP ps :: Γ) (H7 y ks ++ Ms) w → St B (AP (ps ++ ks.map HT.tp) :: Γ) Ms w
 | [], ps, Γ, Ms, hok, hs => by simpa [H7] using hs
 | h :: hs', ps, Γ, Ms, hok, hs => by
  simp only [List.map_cons, okL] at hok
  simp only [H7, List.append_assoc] at hs
  have h1 := St.Pg y hB h hok.1 hs
  have h2 := h1.Kg (ps := ps) (t := h.er) (vr := h.vr) (vk := h.vk) (vs := h.vs) D6 D6
  have h3 := St.Zh y hB hs' (ps ++ [h.tp]) (Γ := Γ) hok.2 (h2.less (by simp +contextual [HT.tp]))
  simpa using h3
theorem St.A9w (y : Tys) {hBp : Prop} (hB : hBp) : ∀ (bs : List HB) (ps : List BP) {Γ : List Fact} {Ms : List Bm}, okB (bs.map HB.er) → St B (BPs ps :: Γ) (Q1 y bs ++ Ms) w → St B (BPs (ps ++ bs.map HB.bp) :: Γ) Ms w
 | [], ps, Γ, Ms, hok, hs => by simpa [Q1] using hs
 | .mk f v ks u :: bs, ps, Γ, Ms, hok, hs => by
  simp only [List.map_cons, HB.er, okB] at hok
  obtain ⟨o1, o2, o3, o4⟩ := hok
  simp only [Q1, List.cons_append, List.append_assoc] at hs
  have h1 := hs.Cq (l := f) hB rfl rfl o1.2 o1.1
  have h2 : St B (CL f v :: BPs ps :: Γ) (H7 y ks ++ (Al 6 y.t u ks.length (Bq (ks.map HT.tp)) :: (Q1 y bs ++ Ms))) w := h1.perm (by exact List.perm_middle.symm)
  have h3 := St.Zh y hB ks [] (by rw [HT.O1] at o3; exact o3) (by simpa using h2.Lg)
  have h4 := h3.F0 (ps := ks.map HT.tp) (ts := ks.map HT.er) hB D6 rfl (by simp [HT.tp, Function.comp_def]) D6 (by rw [HT.O1, List.length_map] at o2; exact o2)
  have h5 := h4.B3f (ps := ps) (f := f) (ks := ks.map HT.er) (vf := v) (vk := u) D6 D6 D6
  have h6 := St.A9w y hB bs (ps ++ [(.mk f (ks.map HT.er), v, u)]) (Γ := Γ) o4 (h5.less sx_)
  simpa [HB.bp, HB.er, HB.vf, HB.vk, HT.O1] using h6
end
end
end Go.Hy
namespace Go.Hy
section
variable {B : Cs} {Γ : List Fact} {Ms K S : List Bm} {w : World} {a b c : Bm}
theorem St.E3e (hs : St B Γ (a :: b :: c :: Ff K :: Ff S :: Ms) w) : St B Γ (Ff (a :: b :: c :: (K ++ S)) :: Ms) w := by
 have h1 : St B Γ (Ff K :: Ff S :: a :: b :: c :: Ms) w := hs.perm (Cb.trans (Cb.cons _))
 have h2 : St B Γ (Ff S :: (K ++ a :: b :: c :: Ms)) w := h1.unpack.perm List.perm_middle
 have h3 : St B Γ (K ++ (S ++ a :: b :: c :: Ms)) w := h2.unpack.perm (by rw [← List.append_assoc, ← List.append_assoc]; exact List.perm_append_comm.append_right _)
 exact St.pack (L := a :: b :: c :: (K ++ S)) (by
  simp only [List.cons_append, List.append_assoc]
  exact h3.perm (V1.trans ((V1.trans (V1.cons _)).cons _)))
theorem St.E3f (hs : St B Γ (a :: b :: Ff K :: Ff S :: Ms) w) : St B Γ (Ff (S ++ (a :: b :: K)) :: Ms) w := by
 have h1 : St B Γ (Ff K :: Ff S :: a :: b :: Ms) w := hs.perm (Bn.trans (Bn.cons _))
 have h2 : St B Γ (Ff S :: (K ++ a :: b :: Ms)) w := h1.unpack.perm List.perm_middle
 have h3 : St B Γ (S ++ (K ++ a :: b :: Ms)) w := h2.unpack
 exact St.pack (L := S ++ (a :: b :: K)) (by
  have : (S ++ a :: b :: K) ++ Ms = S ++ (a :: b :: (K ++ Ms)) := by simp
  rw [this]
  exact h3.perm ((List.perm_middle.trans (List.perm_middle.cons _)).append_left S))
theorem St.D5y {y : Tys} {hs : List HT} {h : HT} (h0 : St B Γ (Ff (Jf y h) :: Ff (H7 y hs) :: Ms) w) : St B Γ (Ff (H7 y (hs ++ [h])) :: Ms) w := by
 have := h0.D4o
 rwa [show H7 y hs ++ Jf y h = H7 y (hs ++ [h]) by simp [B1x]] at this
theorem St.E4p {y : Tys} {bs : List HB} {f : List Cl} {v u : SH} {ks : List HT} {n m : Nat} {fl tl : List Value} (hn : n = f.length) (hm : m = ks.length) (hf : fl = Ad f) (ht : tl = Bq (ks.map HT.tp)) (h0 : St B Γ (Al 2 y.c v n fl :: Al 6 y.t u m tl :: Ff (H7 y ks) :: Ff (Q1 y bs) :: Ms) w) : St B Γ (Ff (Q1 y (bs ++ [.mk f v ks u])) :: Ms) w := by
 subst hn; subst hm; subst hf; subst ht
 have := h0.E3f
 rwa [show Q1 y bs ++ (Al 2 y.c v f.length (Ad f) :: Al 6 y.t u ks.length (Bq (ks.map HT.tp)) :: H7 y ks) = Q1 y (bs ++ [.mk f v ks u]) by simp [C0k, brR]] at this
theorem St.D5x {y : Tys} {k n : Int} {nm : ByteArray} {r : List Cl} {v u x : SH} {ks : List HT} {ss : List HB} {n1 n2 n3 : Nat} {l1 l2 l3 : List Value} (e1 : n1 = r.length) (e2 : n2 = ks.length) (e3 : n3 = ss.length) (f1 : l1 = Ad r) (f2 : l2 = Bq (ks.map HT.tp)) (f3 : l3 = Fe (ss.map HB.bp))
  (h0 : St B Γ (Al 2 y.c v n1 l1 :: Al 6 y.t u n2 l2 :: Al 2 y.b x n3 l3 :: Ff (H7 y ks) :: Ff (Q1 y ss) :: Ms) w) : St B Γ (Ff (Jf y (.mk k n nm r v ks u ss x)) :: Ms) w := by
 subst e1; subst e2; subst e3; subst f1; subst f2; subst f3
 simpa only [Jf] using h0.E3e
end
end Go.Hy
namespace Go.Hy
def setAt (cur : List Value) (o : Nat) (vs : List Value) : List Value := cur.take o ++ vs ++ cur.drop (o + vs.length)
theorem A4b {cur vs : List Value} {o : Nat} (h : o + vs.length ≤ cur.length) : (setAt cur o vs).length = cur.length := by
 simp [setAt]; omega
theorem B4n {cur rest : List Value} {v : Value} {o : Nat} (h : o + rest.length + 1 ≤ cur.length) : setAt (cur.set o v) (o + 1) rest = setAt cur o (v :: rest) := by
 unfold setAt
 have h1 : (cur.set o v).take (o + 1) = cur.take o ++ [v] := by
  rw [List.take_add_one, List.take_set_of_le (Nat.le_refl o)]
  simp [show o < cur.length by omega]
 rw [h1, List.drop_set_of_lt A2]
 simp only [List.length_cons, List.append_assoc, List.singleton_append]
 rw [show o + 1 + rest.length = o + (rest.length + 1) by omega]
theorem Ux {P : Program} (g : Nat) (t : TypeId) (off : Nat) : ∀ (vs : List Value) (i : Nat) (cur : List Value) (w : World), w.heap[g]? = some (.cells cur.toArray t (0, 0)) → off + i + vs.length ≤ cur.length → (∀ v, v ∈ vs → v.oneCell' = true) →
  ∃ w', (storeCells ⟨g, off, none⟩ vs i).run P w = .ok () w' ∧ w'.heap[g]? = some (.cells (setAt cur (off + i) vs).toArray t (0, 0)) ∧ Se (fun x => x = g) w w'
 | [], i, cur, w, hg, hl, _ => ⟨w, rfl, by simpa [setAt] using hg, Se.refl _ _⟩
 | v :: rest, i, cur, w, hg, hl, h1 => by
  have hi : off + i < cur.length := by simp at hl; omega
  have hadd : (⟨g, off, none⟩ : Addr).add i = ⟨g, off + i, none⟩ := Addr.add_lit ..
  have hcell : w.cell? ⟨g, off + i, none⟩ = some cur[off + i] := by simp [World.cell?, hg, hi]
  have hfro : w.frozen? ⟨g, off + i, none⟩ = false := by simp [World.frozen?, hg]
  have hst : (store ((⟨g, off, none⟩ : Addr).add i) v).run P w = .ok () (w.setCell ⟨g, off + i, none⟩ v) := by
   rw [hadd, run_store P w _ v _ (h1 v D6), hcell]
   simp [hfro]
  have hg2 : (w.setCell ⟨g, off + i, none⟩ v).heap[g]? = some (.cells (cur.set (off + i) v).toArray t (0, 0)) := by
   rw [Xq v hg]; simp
  obtain ⟨w', h2, h3, h4⟩ := Ux g t off rest (i + 1) (cur.set (off + i) v) _ hg2 (by simp at hl ⊢; omega) (fun u hu => h1 u (List.mem_cons_of_mem _ hu))
  refine ⟨w', ?_, ?_, (Se.setCell w g (off + i) v).trans h4 (fun b hb => .inl hb)⟩
  ·simp only [storeCells]
   rw [Ac hst]; exact h2
  ·rw [h3, show off + (i + 1) = off + i + 1 by omega, B4n (by simp at hl; omega)]
theorem A4m {w : World} {e : TypeId} {sz n : Nat} {a : SH} {xs : List Value} (h : w.ownsRow 0 e sz (sl a n) n xs) (hn : 0 < n) : ∃ g cur, a.1 = some ⟨g, 0, none⟩ ∧ w.heap[g]? = some (.cells cur e (0, 0)) ∧ n ≤ a.2 ∧ a.2 ≤ maxLen ∧ cur.size = a.2 * sz ∧ cur.toList.take (n * sz) = xs ∧ xs.length = n * sz := by
 obtain ⟨ao, ac⟩ := a
 rcases h.2 with ⟨h1, h2⟩ | ⟨g, cap, cur, h1, h2, h3, h4, h5, h6, h7⟩
 ·omega
 ·have e1 : ao = some ⟨g, 0, none⟩ := by injection h1
  have e2 : ac = cap := by injection h1
  subst e1; subst e2
  exact ⟨g, cur, rfl, h3, h4, h5, h6, h7, h.1⟩
section
variable {B : Cs} {Γ : List Fact} {Ms Ms2 : List Bm} {w : World}
theorem St.A7d {sz n : Nat} {e : TypeId} {a : SH} {xs : List Value} (hs : St B Γ Ms w) (hm : Al sz e a n xs ∈ Ms) (hn : 0 < n) : ∃ g, a.1 = some ⟨g, 0, Option.none⟩ := by
 obtain ⟨g, cur, h1, _⟩ := A4m (hs.res _ hm w (fun _ _ => rfl)) hn
 exact ⟨g, h1⟩
theorem St.D2b {sz n g j : Nat} {e : TypeId} {a : SH} {xs : List Value} {v : Value} (hs : St B Γ Ms w) (hm : Al sz e a n xs ∈ Ms) (ha : a.1 = some ⟨g, 0, Option.none⟩) (hj : xs[j]? = some v) : w.cell? ⟨g, j, Option.none⟩ = some v := by
 have hown : w.ownsRow 0 e sz (sl a n) n xs := hs.res _ hm w (fun _ _ => rfl)
 have hb : (sl a n).ownBlock = some g := by obtain ⟨ao, ac⟩ := a; simp only at ha; subst ha; rfl
 have := hown.cells hb j v hj
 rwa [Addr.add_lit, Nat.zero_add] at this
theorem B2o {α : Type} {F : α → List Value} {sz : Nat} (hF : ∀ x, (F x).length = sz) : ∀ (l : List α) (i : Nat) (x : α), i < l.length → (l.set i x).flatMap F = setAt (l.flatMap F) (i * sz) (F x)
 | [], i, x, h => by simp at h
 | a :: l, 0, x, _ => by
  have ha := hF a
  have hx := hF x
  simp [setAt, hx, List.drop_append, ha]
 | a :: l, i + 1, x, h => by
  have ha := hF a
  have hx := hF x
  simp only [List.set_cons_succ, List.flatMap_cons, B2o hF l i x (by simpa using h)]
  unfold setAt
  rw [Nat.add_mul, Nat.one_mul, hx]
  have t1 : (F a).take (i * sz + sz) = F a := List.take_of_length_le A2
  have t2 : (F a).drop (i * sz + sz + sz) = [] := List.drop_of_length_le A2
  rw [List.take_append, List.drop_append, ha, t1, t2, show i * sz + sz - sz = i * sz by omega, show i * sz + sz + sz - sz = i * sz + sz by omega]
  simp
theorem B4m {cur vs : List Value} {o m : Nat} (h : o + vs.length ≤ m) (hm : m ≤ cur.length) : (setAt cur o vs).take m = setAt (cur.take m) o vs := by
 unfold setAt
 have a1 : (cur.take m).take o = cur.take o := by rw [List.take_take, Nat.min_eq_left A2]
 have a2 : (cur.take m).drop (o + vs.length) = (cur.drop (o + vs.length)).take (m - (o + vs.length)) := List.drop_take ..
 have len : (cur.take o ++ vs).length = o + vs.length := by simp; omega
 have a3 : (cur.take o ++ vs).take m = cur.take o ++ vs := List.take_of_length_le A2
 rw [a1, a2, List.take_append, len, a3]
theorem St.C5z {sz n g o : Nat} {e : TypeId} {a : SH} {xs vs : List Value} {P : Program} (hs : St B Γ (Al sz e a n xs :: Ms2) w) (ha : a.1 = some ⟨g, 0, Option.none⟩) (hn : 0 < n) (ho : o + vs.length ≤ n * sz) (h1 : ∀ v, v ∈ vs → v.oneCell' = true) :
  ∃ w', (storeCells ⟨g, o, Option.none⟩ vs).run P w = .ok () w' ∧ St B Γ (Al sz e a n (setAt xs o vs) :: Ms2) w' := by
 obtain ⟨g', cur, e1, e2, e3, e4, e5, e6, e7⟩ := A4m (hs.res _ List.mem_cons_self w (fun _ _ => rfl)) hn
 rw [ha] at e1
 injection e1 with e1; injection e1 with e1
 subst e1
 have hcl : cur.toList.length = cur.size := by simp
 have hle : n * sz ≤ cur.size := by rw [e5]; exact Nat.mul_le_mul_right sz e3
 obtain ⟨w', h2, h3, h4⟩ := Ux (P := P) g e o vs 0 cur.toList w (by simpa using e2) (by rw [hcl]; omega) h1
 rw [Nat.add_zero] at h3
 refine ⟨w', h2, hs.Er ?_ (fun w2 hw2 => ?_) (fun b hb => ?_)⟩
 ·refine h4.mono (fun b hb => ?_)
  subst hb
  show (sl a n).ownBlock = some b
  obtain ⟨ao, ac⟩ := a; simp only at ha; subst ha; rfl
 ·have hb : (sl a n).ownBlock = some g := by obtain ⟨ao, ac⟩ := a; simp only at ha; subst ha; rfl
  refine ⟨by rw [A4b A2]; exact e7, .inr ⟨g, a.2, (setAt cur.toList o vs).toArray, ?_, Nat.zero_le _, (hw2 g hb).trans h3, e3, e4, ?_, ?_⟩⟩
  ·obtain ⟨ao, ac⟩ := a; simp only at ha; subst ha; rfl
  ·rw [List.size_toArray, A4b (by rw [hcl]; omega), hcl, e5]
  ·rw [← e6]
   exact B4m A2 (by rw [hcl]; omega)
 ·have hb : (sl a n).ownBlock = some b := hb
  have hb2 : b = g := by
   obtain ⟨ao, ac⟩ := a; simp only at ha; subst ha
   have : some g = some b := hb
   injection this with this; exact this.symm
  subst hb2
  exact ⟨(Array.getElem?_eq_some_iff.mp h3).1, .inl hb⟩
end
section
variable {P : Program} [Tab P] {B : Cs} {Γ : List Fact} {Ms Ms2 : List Bm} {σ : Nat → Value} {ty : TypeId} {x y : Operand} {v : Value}
theorem C8t {α : Type} {F : α → List Value} {sz : Nat} (hF : ∀ x, (F x).length = sz) (d0 : α) {t e : TypeId} {d : TypeDesc} {g i k n : Nat} {a : SH} {l : List α} (hx : ev σ x = .pointer (some ⟨g, 0 + i * sz + k, none⟩)) (hm : Al sz e a n (l.flatMap F) ∈ Ms) (ha : a.1 = some ⟨g, 0, none⟩) (hu : Tab.und P t = some d) (hd : (match d with | .struct _ | .array _ _ => true | _ => false) = false) (hlt : i < l.length) (hk : (F (l.getD i d0))[k]? = some v) :
  Km P B σ Γ Ms (.load t x) ty v := fun w hs => by
 have h3 := hs.D2b hm ha (Yx hF d0 l i k v hlt hk)
 rw [Nat.zero_add] at hx
 simp [Cp, execOp, hx, Instr.loadAt, Instr.sureAddr, Ej hu hd h3]
theorem D8y {α : Type} {F : α → List Value} (hF : ∀ x, (F x).length = 1) (d0 : α) {t e : TypeId} {d : TypeDesc} {g i n : Nat} {a : SH} {l : List α} (hx : ev σ x = .pointer (some ⟨g, 0 + i * 1, none⟩)) (hm : Al 1 e a n (l.flatMap F) ∈ Ms) (ha : a.1 = some ⟨g, 0, none⟩) (hu : Tab.und P t = some d) (hd : (match d with | .struct _ | .array _ _ => true | _ => false) = false) (hlt : i < l.length) (hk : (F (l.getD i d0))[0]? = some v) :
  Km P B σ Γ Ms (.load t x) ty v := by
 have hx' : ev σ x = .pointer (some ⟨g, 0 + i * 1 + 0, none⟩) := hx
 exact C8t hF d0 hx' hm ha hu hd hlt hk
theorem D1s {α : Type} {F : α → List Value} {sz : Nat} (hF : ∀ x, (F x).length = sz) {t e : TypeId} {bt g i n : Nat} {a : SH} {zv : Value} {l : List α} (u : α) (hx : ev σ x = .pointer (some ⟨g, 0 + i * sz, none⟩)) (hm : Ms.Perm (Al sz e a n (l.flatMap F) :: Ms2)) (ha : a.1 = some ⟨g, 0, none⟩) (hn : n = l.length) (hy : (ev σ y).cells = (F u).toArray) (hi : Tab.inf P t = some (sz, bt, zv)) (h1 : J1 (F u) = true) (hlt : i < l.length) :
  Xi P B σ Γ Ms (.store t x y) ty Γ (Al sz e a n ((l.set i u).flatMap F) :: Ms2) := fun w hs => by
 have hs' := hs.perm hm
 have hmul : i * sz + sz ≤ n * sz := by
  have := Nat.mul_le_mul_right sz (show i + 1 ≤ n by omega)
  rwa [Nat.add_mul, Nat.one_mul] at this
 obtain ⟨w', hr, h2⟩ := hs'.C5z (P := P) (vs := F u) (o := i * sz) ha A2 (by rw [hF]; exact hmul) (fun v hv => List.all_eq_true.mp h1 v hv)
 refine ⟨w', ?_, by rw [B2o hF l i u hlt]; exact h2⟩
 have hr2 : (storeVar t ⟨g, 0 + i * sz, none⟩ (ev σ y)).run P w = .ok () w' := by
  unfold storeVar
  rw [Ac (G3 hi w)]
  simp only [hy, List.size_toArray, hF, ne_eq, not_true, if_false, Nat.zero_add]
  exact hr
 rw [Nat.zero_add] at hr2 hx
 simp [Cp, execOp, hx, Instr.storeAt, Instr.sureAddr, hr2]
end
end Go.Hy
namespace Go.Hy
section
variable {P : Program} {f : FuncId} {R : Ending → World → Prop} {B : Cs} {n : Fz} {K : List Item} {σ : Nat → Value} {Γ LF : List Fact} {Ms Ms2 Ms' : List Bm} {todo : List Item} {w : World}
theorem Lw (h : Ms = Ms') (k : Fa P f R B n todo σ Γ Ms') : Fa P f R B n todo σ Γ Ms := h ▸ k
theorem St.C8 {b : Nat} {cs : List Value} {T : TypeId} {hBp : Prop} (hB : hBp) (hs : St B Γ (Af b cs T :: Ms) w) : St B (At b 0 cs :: Γ) Ms w := by
 refine hs.Ru hB (fun ok hok hh => ⟨hok b rfl, fun j v hj => ?_⟩)
 have hh : w.heap[b]? = some (.cells cs.toArray T (0, 0)) := hh
 simp [World.cell?, hh, hj]
end
end Go.Hy
namespace Go.Hy
section
variable {B : Cs} {Γ : List Fact} {Ms K S : List Bm} {w : World} {a b c : Bm}
def h0 : HT := .mk 0 0 (ByteArray.mk #[]) [] (none, 0) [] (none, 0) [] (none, 0)
def hb0 : HB := .mk [] (none, 0) [] (none, 0)
theorem Xc {α : Type} (d : α) {l : List α} {i : Nat} (h : i < l.length) : l.drop i = l.getD i d :: l.drop (i + 1) := by
 rw [List.drop_eq_getElem_cons h, List.getD_eq_getElem?_getD, List.getElem?_eq_getElem h]; rfl
theorem Spec.conv {P : Program} {k : FuncId} {args args' : Array Value} {pre : List Fact} {Ms0 Ms0' : List Bm} {X : Type} {val : X → Value} {N : X → List Fact} {Ms1 : X → List Bm} (h : Spec P k args pre Ms0 val N Ms1) (ha : args = args') (hd : ∀ b, Bu Ms0' b ↔ Bu Ms0 b) (hs : ∀ B w, St B pre Ms0' w → St B pre Ms0 w) : Spec P k args' pre Ms0' val N Ms1 := by
 subst ha
 have e : Bu Ms0' = Bu Ms0 := funext fun b => propext (hd b)
 intro ok w hok hst
 rw [e] at hst ⊢
 exact h ok w (fun b hb => ⟨(hok b hb).1, fun hc => (hok b hb).2 ((hd b).2 hc)⟩) (hs _ _ hst)
mutual
theorem HT.E7n {P : HT → Prop} (h : ∀ k n nm r v ks u ss x, (∀ c, c ∈ ks → P c) → P (.mk k n nm r v ks u ss x)) : ∀ t, P t
 | .mk k n nm r v ks u ss x => h k n nm r v ks u ss x (HT.C3k h ks)
theorem HT.C3k {P : HT → Prop} (h : ∀ k n nm r v ks u ss x, (∀ c, c ∈ ks → P c) → P (.mk k n nm r v ks u ss x)) : ∀ ts : List HT, ∀ c, c ∈ ts → P c
 | [], _, hc => by cases hc
 | t :: ts, c, hc => by
  rcases List.mem_cons.mp hc with e | hc
  ·rw [e]; exact HT.E7n h t
  ·exact HT.C3k h ts c hc
end
end
end Go.Hy
namespace Go.Hy
theorem A7u {P : Program} {σ : Nat → Value} {op : Op} {ty : TypeId} {p q : Prop} [Decidable p] [Decidable q] (h : p ↔ q) (hp : Cg P σ op ty (.bool (decide p))) : Cg P σ op ty (.bool (decide q)) := by
 rwa [decide_eq_decide.mpr h] at hp
section
variable {tn : Bool} {pn : Nat} {P : Program} [Tab P] {f : FuncId} {R : Ending → World → Prop} {B : Cs} {n : Fz} {K : List Item} {ops : Array Oper} {i : Nat} {l fin : List Nat} {σ : Nat → Value} {Γ : List Fact} {Ms Ms2 : List Bm}
variable {dst : Option Tmp} {op : Op} {ty : TypeId} {pos : String} {after : Array Edge} {v : Value} {x y z : Operand}
theorem B5s {t t' : TypeId} {k2 : IntKind} {a m : Nat} (k_ : E1 P f R B n K ops l (Aq σ dst (.int .u64 ((a * 2 ^ m : Nat) : Int))) Γ Ms) (hx : ev σ x = .int .u64 (a : Int) := by exact A5) (hy : ev σ y = .int k2 (m : Int) := by exact A5) (hm : m ≤ 64 := by first | assumption | omega) (hb : a * 2 ^ m < 18446744073709551616 := by first | assumption | omega) (hd : Ah n dst = true := by rfl) : Ex P f R B n K ops l (Cp dst (.binOp .shl t x y t') ty) σ Γ Ms := Bf (D2p hx hy hm hb) hd k_
theorem D8l {t t' : TypeId} {a b : Nat} (k_ : E1 P f R B n K ops l (Aq σ dst (.int .u64 ((a - b : Nat) : Int))) Γ Ms) (hx : ev σ x = .int .u64 (a : Int) := by exact A5) (hy : ev σ y = .int .u64 (b : Int) := by exact A5) (h : b ≤ a := by first | assumption | omega) (ha : a < 18446744073709551616 := by first | assumption | omega) (hd : Ah n dst = true := by rfl) : Ex P f R B n K ops l (Cp dst (.binOp .sub t x y t') ty) σ Γ Ms := Bf (D2n hx hy h ha) hd k_
theorem B0y {s d : TypeId} {a : Nat} (k_ : E1 P f R B n K ops l (Aq σ dst (.int .u32 (a : Int))) Γ Ms) (hx : ev σ x = .int .u64 (a : Int) := by exact A5) (ha : a < 4294967296 := by first | assumption | omega) (hs : Tab.und P s = some (.int .u64) := by rfl) (hd' : Tab.und P d = some (.int .u32) := by rfl) (hd : Ah n dst = true := by rfl) : Ex P f R B n K ops l (Cp dst (.convert s d x) ty) σ Γ Ms := Bf (C2d hs hd' hx ha) hd k_
theorem B0x {s d : TypeId} {a : Nat} (k_ : E1 P f R B n K ops l (Aq σ dst (.int .i64 (a : Int))) Γ Ms) (hx : ev σ x = .int .u32 (a : Int) := by exact A5) (ha : a < 4294967296 := by first | assumption | omega) (hs : Tab.und P s = some (.int .u32) := by rfl) (hd' : Tab.und P d = some (.int .i64) := by rfl) (hd : Ah n dst = true := by rfl) : Ex P f R B n K ops l (Cp dst (.convert s d x) ty) σ Γ Ms := Bf (C1z hs hd' hx ha) hd k_
theorem C8i {s d : TypeId} {a : Nat} (k_ : E1 P f R B n K ops l (Aq σ dst (.int .u32 (a : Int))) Γ Ms) (hx : ev σ x = .int .i64 (a : Int) := by exact A5) (ha : a < 4294967296 := by first | assumption | omega) (hs : Tab.und P s = some (.int .i64) := by rfl) (hd' : Tab.und P d = some (.int .u32) := by rfl) (hd : Ah n dst = true := by rfl) : Ex P f R B n K ops l (Cp dst (.convert s d x) ty) σ Γ Ms := Bf (C2b hs hd' hx ha) hd k_
theorem Va {s d : TypeId} {a : Int} {m : Nat} (k_ : E1 P f R B n K ops l (Aq σ dst (.int .u64 (m : Int))) Γ Ms) (hx : ev σ x = .int .i64 a := by exact A5) (ha : a = (m : Int) := by first | assumption | omega) (hm : m < 18446744073709551616 := by omega) (hs : Tab.und P s = some (.int .i64) := by rfl) (hd' : Tab.und P d = some (.int .u64) := by rfl) (hd : Ah n dst = true := by rfl) : Ex P f R B n K ops l (Cp dst (.convert s d x) ty) σ Γ Ms := Bf (A4k hs hd' hx ha hm) hd k_
theorem C5a {s d : TypeId} {a : Int} {m : Nat} (k_ : NV tn pn P f R B n K ops fin l (Aq σ dst (.int .u64 (m : Int))) Γ Ms) (hx : ev σ x = .int .i64 a := by exact A5) (ha : a = (m : Int) := by first | assumption | omega) (hm : m < 18446744073709551616 := by omega) (hs : Tab.und P s = some (.int .i64) := by rfl) (hd' : Tab.und P d = some (.int .u64) := by rfl) (hd : Ah n dst = true := by rfl) : Jr tn pn P f R B n K ops fin i l dst (.convert s d x) ty σ Γ Ms := D3 (A4k hs hd' hx ha hm) hd k_
theorem C8e {t : TypeId} {d : TypeDesc} {bk o i' : Nat} {a : SH} {ls : List Int} (k_ : E1 P f R B n K ops l (Aq σ dst (.int .i64 (ls.getD i' 0))) Γ Ms) (hx : ev σ x = .pointer (some ⟨bk, o + i' * 1, none⟩) := by exact A5) (hFa : IL ls a ∈ Γ ∧ a.1 = some ⟨bk, o, none⟩ := by exact ma0_) (hu : Tab.und P t = some d := by rfl) (hd' : (match d with | .struct _ | .array _ _ => true | _ => false) = false := by rfl) (hlt : i' < ls.length := by omega) (hd : Ah n dst = true := by rfl) : Ex P f R B n K ops l (Cp dst (.load t x) ty) σ Γ Ms := Ig (D9n hx hFa.1 hFa.2 hu hd' hlt) hd k_
theorem C1f {t e : TypeId} {s bt m c k : Nat} {zv : Value} {A : Option Addr} (k_ : NV tn pn P f R B n K ops fin l (Aq σ dst (.slice A k c)) Γ Ms) (hx : ev σ x = .slice A m c := by exact A5) (hy : ev σ y = .int .i64 (k : Int) := by exact A5) (hk : k ≤ c := by omega) (hu : Tab.und P t = some (.slice e) := by rfl) (hi : Tab.inf P e = some (s, bt, zv) := by rfl) (hd : Ah n dst = true := by rfl) : Jr tn pn P f R B n K ops fin i l dst (.slice t x none (some y) none) ty σ Γ Ms := D3 (B5j hu hi hx hy hk) hd k_
theorem C1e {t e : TypeId} {s bt m k : Nat} {zv : Value} {a : SH} (k_ : NV tn pn P f R B n K ops fin l (Aq σ dst (sl (Tz a s k) (m - k))) Γ Ms) (hx : ev σ x = sl a m := by rfl) (hy : ev σ y = .int .i64 (k : Int) := by exact A5) (hk : k ≤ m := by omega) (hu : Tab.und P t = some (.slice e) := by rfl) (hi : Tab.inf P e = some (s, bt, zv) := by rfl) (hd : Ah n dst = true := by rfl) : Jr tn pn P f R B n K ops fin i l dst (.slice t x (some y) none none) ty σ Γ Ms := D3 (B5i hu hi hx hy hk) hd k_
theorem C8c {t t' : TypeId} {a b : Nat} (k_ : E1 P f R B n K ops l (Aq σ dst (.bool (decide (a < b)))) Γ Ms) (hx : ev σ x = .int .u32 (a : Int) := by exact A5) (hy : ev σ y = .int .u32 (b : Int) := by exact A5) (hd : Ah n dst = true := by rfl) : Ex P f R B n K ops l (Cp dst (.binOp .lss t x y t') ty) σ Γ Ms := Bf (A7u A2 (B5l hx hy)) hd k_
theorem C8g {t t' : TypeId} {a b : Nat} (k_ : E1 P f R B n K ops l (Aq σ dst (.bool (decide (a = b)))) Γ Ms) (hx : ev σ x = .int .u32 (a : Int) := by exact A5) (hy : ev σ y = .int .u32 (b : Int) := by exact A5) (hd : Ah n dst = true := by rfl) : Ex P f R B n K ops l (Cp dst (.binOp .eql t x y t') ty) σ Γ Ms := Bf (A7u A2 (A7m hx hy)) hd k_
theorem E2j {t t' : TypeId} {a b : Nat} (k_ : NV tn pn P f R B n K ops fin l (Aq σ dst (.bool (decide (a ≠ b)))) Γ Ms) (hx : ev σ x = .int .u32 (a : Int) := by exact A5) (hy : ev σ y = .int .u32 (b : Int) := by exact A5) (hd : Ah n dst = true := by rfl) : Jr tn pn P f R B n K ops fin i l dst (.binOp .neq t x y t') ty σ Γ Ms := D3 (A7u A2 (B5k hx hy)) hd k_
theorem D7a {t e T' : TypeId} {ts : Array TypeId} {sz bt n' m c b : Nat} {zv : Value} {a : SH} {xs cs : List Value} (k_ : ∀ a' : SH, NV tn pn P f R B n K ops fin l (Aq σ dst (sl a' (n' + m))) Γ (Al sz e a' (n' + m) (xs ++ cs) :: Af b cs T' :: Ms2)) (hm : Ms.Perm (Al sz e a n' xs :: Af b cs T' :: Ms2) := by first | exact V2 | exact Aj | exact Bn | exact Cb | exact Cw | exact El | exact Gj) (hx : ev σ x = sl a n' := by rfl) (hy : ev σ y = .slice (some ⟨b, 0, none⟩) m c := by exact A5) (hts : ts = #[t, t] := by rfl) (hu : Tab.und P t = some (.slice e) := by rfl) (hi : Tab.inf P e = some (sz, bt, zv) := by rfl) (hzs : zv.cells.size = sz := by rfl) (hsz : 0 < sz := by exact Nat.le_of_ble_eq_true rfl) (hl : cs.length = m * sz := by rfl) (h1 : J1 cs = true := by rfl) (hb : (n' + m) * bt ≤ 140737488355328 := by first | omega | (unfold reach at *; omega) | (unfold reach Gl at *; omega)) (hnm : n' + m ≤ 9223372036854775807 := by first | omega | (unfold reach at *; omega) | (unfold reach Gl at *; omega)) (hd : Ah n dst = true := by rfl) : Jr tn pn P f R B n K ops fin i l dst (.call { callee := .builtin .append, args := #[x, y], argTypes := ts }) ty σ Γ Ms := B9j (r := [Al sz e a n' xs, Af b cs T']) (r' := fun a' => [Al sz e a' (n' + m) (xs ++ cs), Af b cs T']) (fun M => B7x (List.Perm.refl _) hx hy hts hu hi hzs hsz hl h1 hb hnm) rfl hd hm k_
theorem B7z {t e : TypeId} {ts : Array TypeId} {bt n' : Nat} {zv : Value} {a b : SH} {xs : List Value} {ls : List Cl} (k_ : ∀ a' : SH, NV tn pn P f R B n K ops fin l (Aq σ dst (sl a' (n' + ls.length))) Γ (Al 2 e a' (n' + ls.length) (xs ++ Ad ls) :: Ms2)) (hF : CL ls b ∈ Γ) (hm : Ms.Perm (Al 2 e a n' xs :: Ms2) := by first | exact V2 | exact Aj | exact Bn | exact Cb | exact Cw | exact El | exact Gj) (hx : ev σ x = sl a n' := by rfl) (hy : ev σ y = sl b ls.length := by rfl) (hts : ts = #[t, t] := by rfl) (hu : Tab.und P t = some (.slice e) := by rfl) (hi : Tab.inf P e = some (2, bt, zv) := by rfl) (hzs : zv.cells.size = 2 := by rfl) (hb : (n' + ls.length) * bt ≤ 140737488355328 := by first | omega | (unfold reach at *; omega) | (unfold reach Gl at *; omega)) (hnm : n' + ls.length ≤ 9223372036854775807 := by first | omega | (unfold reach at *; omega) | (unfold reach Gl at *; omega)) (hd : Ah n dst = true := by rfl) : Jr tn pn P f R B n K ops fin i l dst (.call { callee := .builtin .append, args := #[x, y], argTypes := ts }) ty σ Γ Ms := B9j (r := [Al 2 e a n' xs]) (r' := fun a' => [Al 2 e a' (n' + ls.length) (xs ++ Ad ls)]) (fun M => A9n (List.Perm.refl _) hF hx hy hts hu hi hzs hb hnm) rfl hd hm k_
end
section
variable {tn : Bool} {pn : Nat} {P : Program} [Tab P] {f : FuncId} {R : Ending → World → Prop} {B : Cs} {n : Fz} {K : List Item} {ops : Array Oper} {i : Nat} {l fin : List Nat} {σ : Nat → Value} {Γ : List Fact} {Ms Ms2 : List Bm}
variable {dst : Option Tmp} {op : Op} {ty : TypeId} {pos : String} {after : Array Edge} {v : Value} {x y z : Operand}
theorem D5q {t : TypeId} {d : TypeDesc} {bk k : Nat} {cs : List Value} (k_ : E1 P f R B n K ops l (Aq σ dst v) Γ Ms) (hx : ev σ x = .pointer (some ⟨bk, k, none⟩) := by exact A5) (hF : At bk 0 cs ∈ Γ := by repeat (first | exact List.mem_cons_self | apply List.mem_cons_of_mem)) (hu : Tab.und P t = some d := by rfl) (hd' : (match d with | .struct _ | .array _ _ => true | _ => false) = false := by rfl) (hk : cs[k]? = some v := by exact A5) (hd : Ah n dst = true := by rfl) : Ex P f R B n K ops l (Cp dst (.load t x) ty) σ Γ Ms := Ig (C9c (o := 0) (by rw [Nat.zero_add]; exact hx) hF hu hd' hk) hd k_
theorem Ip {t : TypeId} {d : TypeDesc} {bk k : Nat} {cs : List Value} (k_ : NV tn pn P f R B n K ops fin l (Aq σ dst v) Γ Ms) (hx : ev σ x = .pointer (some ⟨bk, k, none⟩) := by exact A5) (hF : At bk 0 cs ∈ Γ := by repeat (first | exact List.mem_cons_self | apply List.mem_cons_of_mem)) (hu : Tab.und P t = some d := by rfl) (hd' : (match d with | .struct _ | .array _ _ => true | _ => false) = false := by rfl) (hk : cs[k]? = some v := by exact A5) (hd : Ah n dst = true := by rfl) : Jr tn pn P f R B n K ops fin i l dst (.load t x) ty σ Γ Ms := Vb (C9c (o := 0) (by rw [Nat.zero_add]; exact hx) hF hu hd' hk) rfl hd k_
theorem D8o {t : TypeId} {l' : List (Nat × Nat)} {s bt bk k : Nat} {zv : Value} {cs cs' : List Value} (k_ : E1 P f R B n K ops l (Aq σ dst (.agg cs'.toArray)) Γ Ms) (hx : ev σ x = .pointer (some ⟨bk, k, none⟩) := by exact A5) (hF : At bk 0 cs ∈ Γ := by repeat (first | exact List.mem_cons_self | apply List.mem_cons_of_mem)) (hu : Tab.lay P t = some l' := by rfl) (hi : Tab.inf P t = some (s, bt, zv) := by rfl) (hk : (cs.drop k).take s = cs' := by rfl) (hl : cs'.length = s := by rfl) (hd : Ah n dst = true := by rfl) : Ex P f R B n K ops l (Cp dst (.load t x) ty) σ Γ Ms := Ig (C9f (o := 0) (by rw [Nat.zero_add]; exact hx) hF hu hi hk hl) hd k_
theorem D0j {t : TypeId} {l' : List (Nat × Nat)} {s bt bk k : Nat} {zv : Value} {cs cs' : List Value} (k_ : NV tn pn P f R B n K ops fin l (Aq σ dst (.agg cs'.toArray)) Γ Ms) (hx : ev σ x = .pointer (some ⟨bk, k, none⟩) := by exact A5) (hF : At bk 0 cs ∈ Γ := by repeat (first | exact List.mem_cons_self | apply List.mem_cons_of_mem)) (hu : Tab.lay P t = some l' := by rfl) (hi : Tab.inf P t = some (s, bt, zv) := by rfl) (hk : (cs.drop k).take s = cs' := by rfl) (hl : cs'.length = s := by rfl) (hd : Ah n dst = true := by rfl) : Jr tn pn P f R B n K ops fin i l dst (.load t x) ty σ Γ Ms := Vb (C9f (o := 0) (by rw [Nat.zero_add]; exact hx) hF hu hi hk hl) rfl hd k_
end
section
variable {α : Type}
def Sf (E : α → Fact) (l : List α) : Fact := ⟨fun ok w => ∀ x, x ∈ l → (E x).f ok w, fun _ _ _ hs h x hx => (E x).mono _ _ _ hs (h x hx), fun _ _ _ h hs x hx => (E x).loc _ _ _ (h x hx) hs⟩
def B3t (sz bt : Nat) (F : α → List Value) (E : α → Fact) (d : α) (l : List α) (a : SH) : Fact := ⟨fun ok w => rowAt ok sz bt l.length a (fun i => F (l.getD i d)) w ∧ ∀ x, x ∈ l → (E x).f ok w,
 fun _ _ _ hs h => ⟨h.1.mono hs, fun x hx => (E x).mono _ _ _ hs (h.2 x hx)⟩, fun _ _ _ h hs => ⟨h.1.loc hs, fun x hx => (E x).loc _ _ _ (h.2 x hx) hs⟩⟩
variable {B : Cs} {Γ : List Fact} {Ms : List Bm} {w : World} {E : α → Fact} {F : α → List Value} {sz bt n : Nat} {d : α} {l : List α} {a : SH}
theorem St.Rn (E : α → Fact) (hs : St B Γ Ms w) : St B (Sf E [] :: Γ) Ms w := hs.add (fun x hx => by cases hx)
theorem St.Q2 {x : α} (hs : St B Γ Ms w) (h1 : Sf E l ∈ Γ) (h2 : E x ∈ Γ) : St B (Sf E (l ++ [x]) :: Γ) Ms w := by
 refine hs.add (fun y hy => ?_)
 rcases List.mem_append.mp hy with hy | hy
 ·exact hs.facts _ h1 y hy
 ·rw [List.mem_singleton] at hy; subst hy; exact hs.facts _ h2
theorem St.Jg {e : TypeId} {xs : List Value} (hF : ∀ x, (F x).length = sz) (hs : St B Γ (Al sz e a n xs :: Ms) w) {hBp : Prop} (hB : hBp) (hA : Sf E l ∈ Γ) (hx : xs = l.flatMap F) (hn : n = l.length) (hb : n * bt ≤ reach) : St B (B3t sz bt F E d l a :: Γ) Ms w := by
 subst hx
 have hrow := hs.Ru (F := ⟨fun ok w => rowAt ok sz bt n a (fun i => F (l.getD i d)) w, fun _ _ _ hs h => h.mono hs, fun _ _ _ h hs => h.loc hs⟩) hB (fun ok hok hh => Oq (F := F) hF d (hh : World.ownsRow _ _ _ _ _ _ _) hn hb hok)
 have hr2 := hrow.facts _ List.mem_cons_self
 have h3 := hrow.facts _ (List.mem_cons_of_mem _ hA)
 exact hs.drop.add ⟨hn ▸ hr2, h3⟩
theorem St.D2x (hs : St B Γ Ms w) (hF : B3t sz bt F E d l a ∈ Γ) : l.length * bt ≤ reach ∧ (0 < l.length → ∃ b o, a.1 = some ⟨b, o, Option.none⟩) := by
 obtain ⟨h2, _⟩ := hs.facts _ hF
 exact ⟨h2.2.1, fun hn => by obtain ⟨b, o, h3, _⟩ := h2.2.2 hn; exact ⟨b, o, h3⟩⟩
theorem St.D2a {i : Nat} (hs : St B Γ Ms w) (hF : B3t sz bt F E d l a ∈ Γ) (hi : i < l.length) : St B (E (l.getD i d) :: Γ) Ms w := hs.add ((hs.facts _ hF).2 _ (Aa hi))
end
section
variable {α : Type} {P : Program} {f : FuncId} {R : Ending → World → Prop} {B : Cs} {n : Fz} {todo : List Item} {σ : Nat → Value} {Γ : List Fact} {Ms : List Bm} {E : α → Fact} {F : α → List Value} {sz bt : Nat} {d : α} {l : List α} {a : SH}
theorem Db (hF : B3t sz bt F E d l a ∈ Γ) (k : l.length * bt ≤ reach → (0 < l.length → ∃ b o, a.1 = some ⟨b, o, none⟩) → Fa P f R B n todo σ Γ Ms) : Fa P f R B n todo σ Γ Ms := Bs (p := l.length * bt ≤ reach ∧ (0 < l.length → ∃ b o, a.1 = some ⟨b, o, none⟩)) (fun w hs => hs.D2x hF) (fun h => k h.1 h.2)
theorem Gd (hF : B3t sz bt F E d l a ∈ Γ) (i : Nat) (hi : i < l.length) (k : Fa P f R B n todo σ (E (l.getD i d) :: Γ) Ms) : Fa P f R B n todo σ Γ Ms := A1 (fun w hs => hs.D2a hF hi) k
variable [Tab P] {x y : Operand} {v : Value} {ty : TypeId}
theorem D3q {t : TypeId} {d' : TypeDesc} {bk o i k : Nat} (hx : ev σ x = .pointer (some ⟨bk, o + i * sz + k, none⟩)) (hF : B3t sz bt F E d l a ∈ Γ) (ha : a.1 = some ⟨bk, o, none⟩) (hu : Tab.und P t = some d') (hd : (match d' with | .struct _ | .array _ _ => true | _ => false) = false) (hk : (F (l.getD i d))[k]? = some v) (hlt : i < l.length) :
  Km P B σ Γ Ms (.load t x) ty v := fun w hs => by
 have h3 := (Ks (hs.facts _ hF).1 ha hlt).2 k v hk
 simp [Cp, execOp, hx, Instr.loadAt, Instr.sureAddr, Ej hu hd h3]
theorem B9v {t : TypeId} {d' : TypeDesc} {bk o i : Nat} (hx : ev σ x = .pointer (some ⟨bk, o + i * 1, none⟩)) (hF : B3t 1 bt F E d l a ∈ Γ) (ha : a.1 = some ⟨bk, o, none⟩) (hu : Tab.und P t = some d') (hd : (match d' with | .struct _ | .array _ _ => true | _ => false) = false) (hk : (F (l.getD i d))[0]? = some v) (hlt : i < l.length) :
  Km P B σ Γ Ms (.load t x) ty v := D3q (k := 0) hx hF ha hu hd hk hlt
end
abbrev QP := TP × Int × Int
def qE (q : QP) : Fact := RT q.1.1 q.1.2.1 q.1.2.2.1 q.1.2.2.2
abbrev IP := List Int × SH
def ipE (p : IP) : Fact := IL p.1 p.2
abbrev CP := List Cl × SH
def Bj (p : CP) : List Value := [sl p.2 p.1.length]
abbrev I8 (l : List CP) : List Value := l.flatMap Bj
def C1 : CP := ([], (none, 0))
abbrev Ij (p : CP) : Fact := CL p.1 p.2
abbrev Hj (l : List CP) (a : SH) : Fact := B3t 1 24 Bj Ij C1 l a
section
variable {B : Cs} {Γ : List Fact} {Ms : List Bm} {w : World}
theorem St.A6v {e : TypeId} {a : SH} {n : Nat} {l : List CP} {q : CP} {cs : List Value} (hc : cs = Bj q) (hs : St B Γ (Al 1 e a n (I8 l ++ cs) :: Ms) w) : St B Γ (Al 1 e a n (I8 (l ++ [q])) :: Ms) w := by
 subst hc
 have h : I8 (l ++ [q]) = I8 l ++ Bj q := by simp [I8]
 rw [h]; exact hs
theorem St.D5u {e : TypeId} {b : Nat} {l : List Cl} {a : SH} (hs : St B Γ (Af b [sl a l.length] e :: Ms) w) {hBp : Prop} (hB : hBp) (hF : CL l a ∈ Γ) : St B (Hj [(l, a)] (some ⟨b, 0, Option.none⟩, 1) :: Γ) Ms w :=
 ((((hs.H2 (sz := 1) (m := 1) rfl Jv).Rn Ij).Q2 (x := (l, a)) List.mem_cons_self (List.mem_cons_of_mem _ hF)).Jg (F := Bj) (E := Ij) (d := C1) (bt := 24) (l := [(l, a)]) (fun _ => rfl) hB List.mem_cons_self rfl rfl Jv).less sx_
end
section
variable {P : Program} [Tab P] {B : Cs} {σ : Nat → Value} {Γ : List Fact} {Ms Ms2 : List Bm} {ty : TypeId} {x y z : Operand} {v : Value}
end
section
variable {P : Program} [Tab P] {f : FuncId} {fn : Func} {B : Cs} {n : Fz} {K : List Item} {σ : Nat → Value} {Γ : List Fact} {Ms : List Bm} {X : Type} {val : X → Value} {N : X → List Fact} {Ms1 : X → List Bm}
theorem Cn {r t T : Nat} {r2 : Tmp} {b s bt : Nat} {zv v2 : Value} {lay : List (Nat × Nat)} {cs : List Value} (hf : P.funcs[f]? = some fn) (hr : fn.results = #[.cell r t, .tmp r2]) (x : X) (hb : σ r = .pointer (some ⟨b, 0, none⟩)) (hm : Af b cs T ∈ Ms) (hl : Tab.lay P t = some lay) (hi : Tab.inf P t = some (s, bt, zv)) (hcs : cs.length = s) (h2 : σ r2 = v2) (hv : Value.tuple #[.agg cs.toArray, v2] = val x) (hs : ∀ w, St B Γ Ms w → St B (N x) (Ms1 x) w) (hD : n.defs = [] := by rfl) (hK : okK n.kind := by first | exact .inl rfl | exact .inr rfl) : Fa P f (Ends B val N Ms1) B n (.code .ret :: K) σ Γ Ms :=
 go_ret hf (fun a w ha h => by
  have h1 := ha.get r
  rw [hb] at h1
  have h3 := ha.get r2
  rw [h2] at h3
  have h4 := Ek (P := P) (bk := b) (off := 0) (w := w) hl hi hcs (fun j v hj => by rw [Nat.zero_add]; exact Mx h hm j v hj)
  have h1' : (a.tmps[r]?.getD undef) = .pointer (some ⟨b, 0, none⟩) := by simpa [Array.getD_eq_getD_getElem?] using h1
  have h3' : (a.tmps[r2]?.getD undef) = v2 := by simpa [Array.getD_eq_getD_getElem?] using h3
  simp [results, hr, asAddr, h1', h4, h3', ← hv]) (fun w h => ⟨x, rfl, hs w h⟩) hD hK
theorem St.Gs {w : World} (hs : St B Γ Ms w) : St B (RT t0 (Option.none, 0) (Option.none, 0) (Option.none, 0) :: Γ) Ms w :=
 ((((hs.Gb 0).Ox 0).B9l 0).A7w (k := 0) (n := 0) (nm := ⟨#[]⟩) (r := []) (ks := []) (ss := []) (vr := (Option.none, 0)) (vk := (Option.none, 0)) (vs := (Option.none, 0)) (by unfold As; omega) (by unfold As; omega) (Nat.zero_le _) D6 D6 D6).less (by simp +contextual [t0])
end
section
variable {tn : Bool} {pn : Nat} {P : Program} [Tab P] {f : FuncId} {R : Ending → World → Prop} {B : Cs} {n : Fz} {K : List Item} {ops : Array Oper} {i : Nat} {l fin : List Nat} {σ : Nat → Value} {Γ : List Fact} {Ms Ms2 : List Bm}
variable {dst : Option Tmp} {op : Op} {ty : TypeId} {pos : String} {after : Array Edge} {v : Value} {x y z : Operand}
theorem D8q {t : TypeId} {d : TypeDesc} {bk o i' : Nat} {a : SH} {ls : List CP} (k_ : E1 P f R B n K ops l (Aq σ dst v) Γ Ms) (hx : ev σ x = .pointer (some ⟨bk, o + i' * 1, none⟩) := by exact A5) (hFa : Hj ls a ∈ Γ ∧ a.1 = some ⟨bk, o, none⟩ := by exact ma0_) (hu : Tab.und P t = some d := by rfl) (hd' : (match d with | .struct _ | .array _ _ => true | _ => false) = false := by rfl) (hk : (Bj (ls.getD i' C1))[0]? = some v := by exact A5) (hlt : i' < ls.length := by first | omega | (simp only [List.length_map, List.length_set]; omega) | (simp; omega)) (hd : Ah n dst = true := by rfl) : Ex P f R B n K ops l (Cp dst (.load t x) ty) σ Γ Ms := Ig (B9v hx hFa.1 hFa.2 hu hd' hk hlt) hd k_
theorem Tw {t : TypeId} {d : TypeDesc} {bk o i' : Nat} {a : SH} {ls : List CP} (k_ : NV tn pn P f R B n K ops fin l (Aq σ dst v) Γ Ms) (hx : ev σ x = .pointer (some ⟨bk, o + i' * 1, none⟩) := by exact A5) (hFa : Hj ls a ∈ Γ ∧ a.1 = some ⟨bk, o, none⟩ := by exact ma0_) (hu : Tab.und P t = some d := by rfl) (hd' : (match d with | .struct _ | .array _ _ => true | _ => false) = false := by rfl) (hk : (Bj (ls.getD i' C1))[0]? = some v := by exact A5) (hlt : i' < ls.length := by first | omega | (simp only [List.length_map, List.length_set]; omega) | (simp; omega)) (hd : Ah n dst = true := by rfl) : Jr tn pn P f R B n K ops fin i l dst (.load t x) ty σ Γ Ms := Vb (B9v hx hFa.1 hFa.2 hu hd' hk hlt) rfl hd k_
end
section
variable {tn : Bool} {pn : Nat} {P : Program} [Tab P] {f : FuncId} {R : Ending → World → Prop} {B : Cs} {n : Fz} {K : List Item} {ops : Array Oper} {i : Nat} {l fin : List Nat} {σ : Nat → Value} {Γ : List Fact} {Ms Ms2 : List Bm}
variable {dst : Option Tmp} {op : Op} {ty : TypeId} {pos : String} {after : Array Edge} {v : Value} {x y z : Operand}
theorem C7a {t : TypeId} {a : Int} (hx : ev σ x = .int .i64 a) (h : As (-a)) : Cg P σ (.unOp .neg t x) ty (.int .i64 (-a)) := fun w => by
 have e : IntKind.i64.wrap (0 - a) = -a := by rw [wrap64_in (by unfold As at *; omega)]; omega
 simp only [Cp, execOp, hx, Op.unary, Op.intArith, e]
 rfl
theorem E3k {t : TypeId} {a : Int} (k_ : E1 P f R B n K ops l (Aq σ dst (.int .i64 (-a))) Γ Ms) (hx : ev σ x = .int .i64 a := by exact A5) (h : As (-a) := by first | omega | (unfold As at *; omega)) (hd : Ah n dst = true := by rfl) : Ex P f R B n K ops l (Cp dst (.unOp .neg t x) ty) σ Γ Ms := Bf (C7a hx h) hd k_
theorem D5c {t : TypeId} {a : Int} (k_ : NV tn pn P f R B n K ops fin l (Aq σ dst (.int .i64 (-a))) Γ Ms) (hx : ev σ x = .int .i64 a := by exact A5) (h : As (-a) := by first | omega | (unfold As at *; omega)) (hd : Ah n dst = true := by rfl) : Jr tn pn P f R B n K ops fin i l dst (.unOp .neg t x) ty σ Γ Ms := D3 (C7a hx h) hd k_
theorem C4z {t t' : TypeId} {k : IntKind} {a b : Int} (k_ : NV tn pn P f R B n K ops fin l (Aq σ dst (.bool true)) Γ Ms) (hx : ev σ x = .int k a := by exact A5) (hy : ev σ y = .int k b := by exact A5) (hp : a = b := by first | omega | (simp; done)) (hd : Ah n dst = true := by rfl) : Jr tn pn P f R B n K ops fin i l dst (.binOp .eql t x y t') ty σ Γ Ms := D3 (show Cg P σ (.binOp .eql t x y t') ty (.bool true) from (decide_eq_true hp : decide (a = b) = true) ▸ A7m hx hy) hd k_
theorem D1n {t T' : TypeId} {b s bt : Nat} {zv : Value} {cs cs' : List Value} (k_ : NV tn pn P f R B n K ops fin l σ Γ (Af b cs' T' :: Ms2)) (hx : ev σ x = .pointer (some ⟨b, 0, none⟩) := by exact A5) (hm : Ms.Perm (Af b cs T' :: Ms2) := by first | exact V2 | exact Aj | exact Bn | exact Cb | exact Cw | exact El | exact Gj | exact Ml | exact Ng) (hy : (ev σ y).cells = cs'.toArray := by rfl) (hi : Tab.inf P t = some (s, bt, zv) := by rfl) (hl : cs'.length = s := by rfl) (hl2 : cs.length = s := by rfl) (h1 : J1 cs' = true := by rfl) : Jr tn pn P f R B n K ops fin i l none (.store t x y) ty σ Γ Ms := C8m (r := [Af b cs T']) (r' := [Af b cs' T']) (fun M => C5t hx hy (List.Perm.refl _) hi hl hl2 h1) rfl hm k_
end
inductive Ax (α : Type) where
 | ok (a : α)
 | bad (e : Int)
structure Tr (C : Type) where
 own : C → Int → Int → ByteArray → List Cl → Ax (T ⊕ (Int × List Cl))
 B9 : C → List Cl → Ax (Option (List Cl))
 Li : C → Int × Int → Ax C
section
variable {C : Type} (A : Tr C)
mutual
def C7 : T → C → Ax T
 | .mk k n nm r ks ss, c => match A.own c k n nm r with
  | .bad e => .bad e
  | .ok (.inl u) => .ok u
  | .ok (.inr p) => match Dt k 0 ks c with
   | .bad e => .bad e
   | .ok ks' => match Dc k ss c with
    | .bad e => .bad e
    | .ok ss' => .ok (.mk k p.1 nm p.2 ks' ss')
def Dt (k : Int) : Nat → List T → C → Ax (List T)
 | _, [], _ => .ok []
 | i, t :: ts, c => match A.Li c (binds k i) with
  | .bad e => .bad e
  | .ok c' => match C7 t c' with
   | .bad e => .bad e
   | .ok t' => match Dt k (i + 1) ts c with
    | .bad e => .bad e
    | .ok ts' => .ok (t' :: ts')
def D2 (k : Int) : List T → C → Ax (List T)
 | [], _ => .ok []
 | t :: ts, c => match A.Li c (0, more k) with
  | .bad e => .bad e
  | .ok c' => match C7 t c' with
   | .bad e => .bad e
   | .ok t' => match D2 k ts c with
    | .bad e => .bad e
    | .ok ts' => .ok (t' :: ts')
def Dc (k : Int) : List Br → C → Ax (List Br)
 | [], _ => .ok []
 | .mk f ks :: bs, c => match A.B9 c f with
  | .bad e => .bad e
  | .ok none => Dc k bs c
  | .ok (some f') => match D2 k ks c with
   | .bad e => .bad e
   | .ok ks' => match Dc k bs c with
    | .bad e => .bad e
    | .ok bs' => .ok (.mk f' ks' :: bs')
end
variable {A}
def Ax.bind {α β : Type} : Ax α → (α → Ax β) → Ax β
 | .ok a, f => f a
 | .bad e, _ => .bad e
theorem Ax.Ac {α β : Type} {x : Ax α} {f : α → Ax β} {b : β} (h : x.bind f = .ok b) : ∃ a, x = .ok a ∧ f a = .ok b := by
 cases x with
 | ok a => exact ⟨a, rfl, h⟩
 | bad e => cases h
theorem Ft (t : T) (c : C) : C7 A t c = (A.own c t.kind t.n t.name t.r).bind fun o => match o with
  | .inl u => .ok u
  | .inr p => (Dt A t.kind 0 t.kids c).bind fun ks' => (Dc A t.kind t.sys c).bind fun ss' => .ok (.mk t.kind p.1 t.name p.2 ks' ss') := by
 obtain ⟨k, n, nm, r, ks, ss⟩ := t
 rw [C7]
 simp only [T.kind, T.n, T.name, T.r, T.kids, T.sys]
 cases A.own c k n nm r with
 | bad e => rfl
 | ok o =>
  cases o with
  | inl u => rfl
  | inr p =>
   simp only [Ax.bind]
   cases Dt A k 0 ks c with
   | bad e => rfl
   | ok ks' =>
    cases Dc A k ss c <;> rfl
theorem Ef (k : Int) (i : Nat) (c : C) : Dt A k i [] c = .ok [] := by rw [Dt]
theorem E7 (k : Int) (i : Nat) (t : T) (ts : List T) (c : C) : Dt A k i (t :: ts) c = (A.Li c (binds k i)).bind fun c' => (C7 A t c').bind fun t' => (Dt A k (i + 1) ts c).bind fun ts' => .ok (t' :: ts') := by
 rw [Dt]
 cases A.Li c (binds k i) with
 | bad e => rfl
 | ok c' =>
  simp only [Ax.bind]
  cases C7 A t c' with
  | bad e => rfl
  | ok t' => simp only; cases Dt A k (i + 1) ts c <;> rfl
theorem Ee (k : Int) (c : C) : D2 A k [] c = .ok [] := by rw [D2]
theorem E6 (k : Int) (t : T) (ts : List T) (c : C) : D2 A k (t :: ts) c = (A.Li c (0, more k)).bind fun c' => (C7 A t c').bind fun t' => (D2 A k ts c).bind fun ts' => .ok (t' :: ts') := by
 rw [D2]
 cases A.Li c (0, more k) with
 | bad e => rfl
 | ok c' =>
  simp only [Ax.bind]
  cases C7 A t c' with
  | bad e => rfl
  | ok t' => simp only; cases D2 A k ts c <;> rfl
theorem Dy (k : Int) (c : C) : Dc A k [] c = .ok [] := by rw [Dc]
theorem Dk (k : Int) (b : Br) (bs : List Br) (c : C) : Dc A k (b :: bs) c = (A.B9 c b.B9).bind fun f => match f with
  | none => Dc A k bs c
  | some f' => (D2 A k b.kids c).bind fun ks' => (Dc A k bs c).bind fun bs' => .ok (.mk f' ks' :: bs') := by
 obtain ⟨f, ks⟩ := b
 rw [Dc]
 simp only [Br.B9, Br.kids]
 cases A.B9 c f with
 | bad e => rfl
 | ok o =>
  cases o with
  | none => rfl
  | some f' =>
   simp only [Ax.bind]
   cases D2 A k ks c with
   | bad e => rfl
   | ok ks' => simp only; cases Dc A k bs c <;> rfl
theorem Pc (k : Int) (c : C) : ∀ (i : Nat) (l : List T) (t : T), Dt A k i (l ++ [t]) c = (Dt A k i l c).bind fun l' => (A.Li c (binds k ((i + l.length : Nat) : Int))).bind fun c' => (C7 A t c').bind fun t' => .ok (l' ++ [t'])
 | i, [], t => by
  simp only [List.nil_append, E7, Ef, Ax.bind, List.length_nil, Nat.add_zero]
 | i, a :: l, t => by
  simp only [List.cons_append, E7, Pc k c (i + 1) l t, List.length_cons]
  rw [show i + 1 + l.length = i + (l.length + 1) by omega]
  cases A.Li c (binds k i) with
  | bad e => rfl
  | ok c1 =>
   simp only [Ax.bind]
   cases C7 A a c1 with
   | bad e => rfl
   | ok a' =>
    simp only
    cases Dt A k (i + 1) l c with
    | bad e => rfl
    | ok l' =>
     simp only
     cases A.Li c (binds k ((i + (l.length + 1) : Nat) : Int)) with
     | bad e => rfl
     | ok c2 => simp only; cases C7 A t c2 <;> rfl
theorem Pa (k : Int) (c : C) : ∀ (l : List T) (t : T), D2 A k (l ++ [t]) c = (D2 A k l c).bind fun l' => (A.Li c (0, more k)).bind fun c' => (C7 A t c').bind fun t' => .ok (l' ++ [t'])
 | [], t => by simp only [List.nil_append, E6, Ee, Ax.bind]
 | a :: l, t => by
  simp only [List.cons_append, E6, Pa k c l t]
  cases A.Li c (0, more k) with
  | bad e => rfl
  | ok c1 =>
   simp only [Ax.bind]
   cases C7 A a c1 with
   | bad e => rfl
   | ok a' =>
    simp only
    cases D2 A k l c with
    | bad e => rfl
    | ok l' => simp only; cases C7 A t c1 <;> rfl
theorem Mj (k : Int) (c : C) : ∀ (l : List Br) (b : Br), Dc A k (l ++ [b]) c = (Dc A k l c).bind fun l' => (A.B9 c b.B9).bind fun f => match f with
  | none => .ok l'
  | some f' => (D2 A k b.kids c).bind fun ks' => .ok (l' ++ [.mk f' ks'])
 | [], b => by
  simp only [List.nil_append, Dk, Dy, Ax.bind]
 | a :: l, b => by
  simp only [List.cons_append, Dk, Mj k c l b]
  cases A.B9 c a.B9 with
  | bad e => rfl
  | ok o =>
   cases o with
   | none => rfl
   | some f' =>
    simp only [Ax.bind]
    cases D2 A k a.kids c with
    | bad e => rfl
    | ok ks' =>
     simp only
     cases Dc A k l c with
     | bad e => rfl
     | ok l' =>
      simp only
      cases A.B9 c b.B9 with
      | bad e => rfl
      | ok o2 =>
       cases o2 with
       | none => rfl
       | some f2 => simp only; cases D2 A k b.kids c <;> rfl
theorem Wj {k e : Int} {c : C} : ∀ {l m : List T} {i : Nat}, Dt A k i l c = .bad e → Dt A k i (l ++ m) c = .bad e
 | [], m, i, h => by rw [Ef] at h; cases h
 | a :: l, m, i, h => by
  rw [List.cons_append, E7]
  rw [E7] at h
  cases h1 : A.Li c (binds k i) with
  | bad e' => rw [h1] at h; exact h
  | ok c1 =>
   rw [h1] at h
   simp only [Ax.bind] at h ⊢
   cases h2 : C7 A a c1 with
   | bad e' => rw [h2] at h; exact h
   | ok a' =>
    rw [h2] at h
    simp only at h ⊢
    cases h3 : Dt A k (i + 1) l c with
    | bad e' => rw [h3] at h; rw [Wj h3]; exact h
    | ok l' => rw [h3] at h; cases h
theorem Wi {k e : Int} {c : C} : ∀ {l m : List T}, D2 A k l c = .bad e → D2 A k (l ++ m) c = .bad e
 | [], m, h => by rw [Ee] at h; cases h
 | a :: l, m, h => by
  rw [List.cons_append, E6]
  rw [E6] at h
  cases h1 : A.Li c (0, more k) with
  | bad e' => rw [h1] at h; exact h
  | ok c1 =>
   rw [h1] at h
   simp only [Ax.bind] at h ⊢
   cases h2 : C7 A a c1 with
   | bad e' => rw [h2] at h; exact h
   | ok a' =>
    rw [h2] at h
    simp only at h ⊢
    cases h3 : D2 A k l c with
    | bad e' => rw [h3] at h; rw [Wi h3]; exact h
    | ok l' => rw [h3] at h; cases h
theorem Rt {k e : Int} {c : C} : ∀ {l m : List Br}, Dc A k l c = .bad e → Dc A k (l ++ m) c = .bad e
 | [], m, h => by rw [Dy] at h; cases h
 | a :: l, m, h => by
  rw [List.cons_append, Dk]
  rw [Dk] at h
  cases h1 : A.B9 c a.B9 with
  | bad e' => rw [h1] at h; exact h
  | ok o =>
   rw [h1] at h
   cases o with
   | none => exact Rt (l := l) h
   | some f' =>
    simp only [Ax.bind] at h ⊢
    cases h2 : D2 A k a.kids c with
    | bad e' => rw [h2] at h; exact h
    | ok a' =>
     rw [h2] at h
     simp only at h ⊢
     cases h3 : Dc A k l c with
     | bad e' => rw [h3] at h; rw [Rt h3]; exact h
     | ok l' => rw [h3] at h; cases h
theorem M5 {k : Int} {c : C} : ∀ {l l' : List T} {i : Nat}, Dt A k i l c = .ok l' → l'.length = l.length
 | [], l', i, h => by rw [Ef] at h; injection h with h; subst h; rfl
 | a :: l, l', i, h => by
  rw [E7] at h
  obtain ⟨c1, _, h⟩ := Ax.Ac h
  obtain ⟨t', _, h⟩ := Ax.Ac h
  obtain ⟨ts', h3, h⟩ := Ax.Ac h
  injection h with h
  subst h
  simp [M5 h3]
theorem M4 {k : Int} {c : C} : ∀ {l l' : List T}, D2 A k l c = .ok l' → l'.length = l.length
 | [], l', h => by rw [Ee] at h; injection h with h; subst h; rfl
 | a :: l, l', h => by
  rw [E6] at h
  obtain ⟨c1, _, h⟩ := Ax.Ac h
  obtain ⟨t', _, h⟩ := Ax.Ac h
  obtain ⟨ts', h3, h⟩ := Ax.Ac h
  injection h with h
  subst h
  simp [M4 h3]
theorem Ko {k : Int} {c : C} : ∀ {l l' : List Br}, Dc A k l c = .ok l' → l'.length ≤ l.length
 | [], l', h => by rw [Dy] at h; injection h with h; subst h; simp
 | a :: l, l', h => by
  rw [Dk] at h
  obtain ⟨o, _, h⟩ := Ax.Ac h
  cases o with
  | none => have := Ko (l := l) h; simp; omega
  | some f' =>
   obtain ⟨ks', _, h⟩ := Ax.Ac h
   obtain ⟨bs', h3, h⟩ := Ax.Ac h
   injection h with h
   subst h
   have := Ko h3
   simp; omega
end
end Go.Hy
