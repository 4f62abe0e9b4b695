/- Contracts of this program's functions and the laws that they need: a separation logic over the machine's rules, one theorem each (partly printed by a program of this repository). -/
import Derived.WideShapes
import Derived.ArgAppend
import Derived.Test.YtpfjlbopkhdebaaGreatDoorP1
import Derived.Test.YtpfjlbopkhdebaaGreatDoorP2
set_option linter.unusedVariables false
set_option linter.unusedSimpArgs false
set_option linter.unusedSectionVars false
namespace Go.Hy
section
variable {tn : Bool} {pn : Nat} {P : Program} [Tab P] {f : FuncId} {R : Ending → World → Prop} {B : A6z} {n : Fz} {K : List Item} {ops : Array Oper} {i : Nat} {l fin : List Nat} {σ : Nat → Value} {Γ : List Fact} {Ms Ms2 : List Res}
variable {dst : Option Tmp} {op : Op} {ty : TypeId} {pos : String} {after : Array Edge} {v : Value} {x y z : Operand}
theorem A2v  (k_ : RgT P f R B n K ops l (A1u σ dst v) Γ Ms) (h : ev σ x = v := by exact wn_) (hd : A0t n dst = true := by rfl) : OpT P f R B n K ops l (opr dst (.move x) ty) σ Γ Ms := A1l (E3n h) hd k_
theorem C8s  (k_ : NV tn pn P f R B n K ops fin l (A1u σ dst v) Γ Ms) (h : ev σ x = v := by exact wn_) (hd : A0t n dst = true := by rfl) : NvT tn pn P f R B n K ops fin i l dst (.move x) ty σ Γ Ms := A4b (E3n h) hd k_
theorem E9j  (k_ : RgT P f R B n K ops l (A1u σ dst v) Γ Ms) (h : ev σ x = v := by exact wn_) (hd : A0t n dst = true := by rfl) : OpT P f R B n K ops l (opr dst (.assign x) ty) σ Γ Ms := A1l (D0q h) hd k_
theorem E7v  (k_ : NV tn pn P f R B n K ops fin l (A1u σ dst v) Γ Ms) (h : ev σ x = v := by exact wn_) (hd : A0t n dst = true := by rfl) : NvT tn pn P f R B n K ops fin i l dst (.assign x) ty σ Γ Ms := A4b (D0q h) hd k_
theorem E4p  (k_ : RgT P f R B n K ops l (A1u σ dst v) Γ Ms) (hz : ev σ z = .bool true := by rfl) (h : ev σ x = v := by exact wn_) (hd : A0t n dst = true := by rfl) : OpT P f R B n K ops l (opr dst (.pick z x y) ty) σ Γ Ms := A1l (D6m hz h) hd k_
theorem E1n  (k_ : NV tn pn P f R B n K ops fin l (A1u σ dst v) Γ Ms) (hz : ev σ z = .bool true := by rfl) (h : ev σ x = v := by exact wn_) (hd : A0t n dst = true := by rfl) : NvT tn pn P f R B n K ops fin i l dst (.pick z x y) ty σ Γ Ms := A4b (D6m hz h) hd k_
theorem E4q  (k_ : RgT P f R B n K ops l (A1u σ dst v) Γ Ms) (hz : ev σ z = .bool false := by rfl) (h : ev σ y = v := by exact wn_) (hd : A0t n dst = true := by rfl) : OpT P f R B n K ops l (opr dst (.pick z x y) ty) σ Γ Ms := A1l (D6n hz h) hd k_
theorem E1o  (k_ : NV tn pn P f R B n K ops fin l (A1u σ dst v) Γ Ms) (hz : ev σ z = .bool false := by rfl) (h : ev σ y = v := by exact wn_) (hd : A0t n dst = true := by rfl) : NvT tn pn P f R B n K ops fin i l dst (.pick z x y) ty σ Γ Ms := A4b (D6n hz h) hd k_
theorem G3n {t t' : TypeId} {a b : Int} (k_ : RgT P f R B n K ops l (A1u σ dst (.int .i64 (a + b))) Γ Ms) (hx : ev σ x = .int .i64 a := by exact wn_) (hy : ev σ y = .int .i64 b := by exact wn_) (h : A2a (a + b) := by unfold A2a; first | omega | (unfold A2a at *; omega) | (unfold reach at *; omega) | (unfold A9a at *; omega) | (simp only [A2a, reach, A9a] at *; omega)) (hd : A0t n dst = true := by rfl) : OpT P f R B n K ops l (opr dst (.binOp .add t x y t') ty) σ Γ Ms := A1l (F2n hx hy h) hd k_
theorem G2k {t t' : TypeId} {a b : Int} (k_ : NV tn pn P f R B n K ops fin l (A1u σ dst (.int .i64 (a + b))) Γ Ms) (hx : ev σ x = .int .i64 a := by exact wn_) (hy : ev σ y = .int .i64 b := by exact wn_) (h : A2a (a + b) := by unfold A2a; first | omega | (unfold A2a at *; omega) | (unfold reach at *; omega) | (unfold A9a at *; omega) | (simp only [A2a, reach, A9a] at *; omega)) (hd : A0t n dst = true := by rfl) : NvT tn pn P f R B n K ops fin i l dst (.binOp .add t x y t') ty σ Γ Ms := A4b (F2n hx hy h) hd k_
theorem F8w {t t' : TypeId} {a b : Int} (k_ : RgT P f R B n K ops l (A1u σ dst (.int .i64 (a - b))) Γ Ms) (hx : ev σ x = .int .i64 a := by exact wn_) (hy : ev σ y = .int .i64 b := by exact wn_) (h : A2a (a - b) := by unfold A2a; first | omega | (unfold A2a at *; omega) | (unfold reach at *; omega) | (unfold A9a at *; omega) | (simp only [A2a, reach, A9a] at *; omega)) (hd : A0t n dst = true := by rfl) : OpT P f R B n K ops l (opr dst (.binOp .sub t x y t') ty) σ Γ Ms := A1l (F8i hx hy h) hd k_
theorem G3g {t t' : TypeId} {a b : Int} (k_ : RgT P f R B n K ops l (A1u σ dst (.int .i64 (a * b))) Γ Ms) (hx : ev σ x = .int .i64 a := by exact wn_) (hy : ev σ y = .int .i64 b := by exact wn_) (h : A2a (a * b) := by unfold A2a; first | omega | (unfold A2a at *; omega) | (unfold reach at *; omega) | (unfold A9a at *; omega) | (simp only [A2a, reach, A9a] at *; omega)) (hd : A0t n dst = true := by rfl) : OpT P f R B n K ops l (opr dst (.binOp .mul t x y t') ty) σ Γ Ms := A1l (F8k hx hy h) hd k_
theorem F9d {t t' : TypeId} {k : IntKind} {a b : Int} (k_ : RgT P f R B n K ops l (A1u σ dst (.bool (decide (a < b)))) Γ Ms) (hx : ev σ x = .int k a := by exact wn_) (hy : ev σ y = .int k b := by exact wn_) (hd : A0t n dst = true := by rfl) : OpT P f R B n K ops l (opr dst (.binOp .lss t x y t') ty) σ Γ Ms := A1l (E3o hx hy) hd k_
theorem G2g {t t' : TypeId} {k : IntKind} {a b : Int} (k_ : NV tn pn P f R B n K ops fin l (A1u σ dst (.bool (decide (a < b)))) Γ Ms) (hx : ev σ x = .int k a := by exact wn_) (hy : ev σ y = .int k b := by exact wn_) (hd : A0t n dst = true := by rfl) : NvT tn pn P f R B n K ops fin i l dst (.binOp .lss t x y t') ty σ Γ Ms := A4b (E3o hx hy) hd k_
theorem G3i {t t' : TypeId} {k : IntKind} {a b : Int} (k_ : RgT P f R B n K ops l (A1u σ dst (.bool (decide (a ≤ b)))) Γ Ms) (hx : ev σ x = .int k a := by exact wn_) (hy : ev σ y = .int k b := by exact wn_) (hd : A0t n dst = true := by rfl) : OpT P f R B n K ops l (opr dst (.binOp .leq t x y t') ty) σ Γ Ms := A1l (F8m hx hy) hd k_
theorem F5m {t t' : TypeId} {k : IntKind} {a b : Int} (k_ : RgT P f R B n K ops l (A1u σ dst (.bool (decide (b < a)))) Γ Ms) (hx : ev σ x = .int k a := by exact wn_) (hy : ev σ y = .int k b := by exact wn_) (hd : A0t n dst = true := by rfl) : OpT P f R B n K ops l (opr dst (.binOp .gtr t x y t') ty) σ Γ Ms := A1l (F2m hx hy) hd k_
theorem G2i {t t' : TypeId} {k : IntKind} {a b : Int} (k_ : NV tn pn P f R B n K ops fin l (A1u σ dst (.bool (decide (b < a)))) Γ Ms) (hx : ev σ x = .int k a := by exact wn_) (hy : ev σ y = .int k b := by exact wn_) (hd : A0t n dst = true := by rfl) : NvT tn pn P f R B n K ops fin i l dst (.binOp .gtr t x y t') ty σ Γ Ms := A4b (F2m hx hy) hd k_
theorem F9h {t t' : TypeId} {k : IntKind} {a b : Int} (k_ : RgT P f R B n K ops l (A1u σ dst (.bool (decide (b ≤ a)))) Γ Ms) (hx : ev σ x = .int k a := by exact wn_) (hy : ev σ y = .int k b := by exact wn_) (hd : A0t n dst = true := by rfl) : OpT P f R B n K ops l (opr dst (.binOp .geq t x y t') ty) σ Γ Ms := A1l (F8o hx hy) hd k_
theorem C7j {t t' : TypeId} {k : IntKind} {a b : Int} (k_ : RgT P f R B n K ops l (A1u σ dst (.bool (decide (a = b)))) Γ Ms) (hx : ev σ x = .int k a := by exact wn_) (hy : ev σ y = .int k b := by exact wn_) (hd : A0t n dst = true := by rfl) : OpT P f R B n K ops l (opr dst (.binOp .eql t x y t') ty) σ Γ Ms := A1l (D6o hx hy) hd k_
theorem F7j {t t' : TypeId} {k : IntKind} {a b : Int} (k_ : NV tn pn P f R B n K ops fin l (A1u σ dst (.bool (decide (a = b)))) Γ Ms) (hx : ev σ x = .int k a := by exact wn_) (hy : ev σ y = .int k b := by exact wn_) (hd : A0t n dst = true := by rfl) : NvT tn pn P f R B n K ops fin i l dst (.binOp .eql t x y t') ty σ Γ Ms := A4b (D6o hx hy) hd k_
theorem D9q {t t' : TypeId} {k : IntKind} {a b : Int} (k_ : RgT P f R B n K ops l (A1u σ dst (.bool (decide (a ≠ b)))) Γ Ms) (hx : ev σ x = .int k a := by exact wn_) (hy : ev σ y = .int k b := by exact wn_) (hd : A0t n dst = true := by rfl) : OpT P f R B n K ops l (opr dst (.binOp .neq t x y t') ty) σ Γ Ms := A1l (E3m hx hy) hd k_
theorem E7s {t t' : TypeId} {k : IntKind} {a b : Int} (k_ : NV tn pn P f R B n K ops fin l (A1u σ dst (.bool (decide (a ≠ b)))) Γ Ms) (hx : ev σ x = .int k a := by exact wn_) (hy : ev σ y = .int k b := by exact wn_) (hd : A0t n dst = true := by rfl) : NvT tn pn P f R B n K ops fin i l dst (.binOp .neq t x y t') ty σ Γ Ms := A4b (E3m hx hy) hd k_
theorem E9e {t t' : TypeId} {s s' : ByteArray} (k_ : RgT P f R B n K ops l (A1u σ dst (.bool (!(s.toList == s'.toList)))) Γ Ms) (hx : ev σ x = .string s := by exact wn_) (hy : ev σ y = .string s' := by exact wn_) (hd : A0t n dst = true := by rfl) : OpT P f R B n K ops l (opr dst (.binOp .neq t x y t') ty) σ Γ Ms := A1l (F2j hx hy) hd k_
theorem F7g {t t' : TypeId} {s s' : ByteArray} (k_ : NV tn pn P f R B n K ops fin l (A1u σ dst (.bool (!(s.toList == s'.toList)))) Γ Ms) (hx : ev σ x = .string s := by exact wn_) (hy : ev σ y = .string s' := by exact wn_) (hd : A0t n dst = true := by rfl) : NvT tn pn P f R B n K ops fin i l dst (.binOp .neq t x y t') ty σ Γ Ms := A4b (F2j hx hy) hd k_
theorem F9c {t : TypeId} {c : Bool} (k_ : RgT P f R B n K ops l (A1u σ dst (.bool (!c))) Γ Ms) (hx : ev σ x = .bool c := by exact wn_) (hd : A0t n dst = true := by rfl) : OpT P f R B n K ops l (opr dst (.unOp .not t x) ty) σ Γ Ms := A1l (F2h hx) hd k_
theorem D8m {t : TypeId} {c : Bool} (k_ : NV tn pn P f R B n K ops fin l (A1u σ dst (.bool (!c))) Γ Ms) (hx : ev σ x = .bool c := by exact wn_) (hd : A0t n dst = true := by rfl) : NvT tn pn P f R B n K ops fin i l dst (.unOp .not t x) ty σ Γ Ms := A4b (F2h hx) hd k_
theorem E4y {vs : Array Value} {j : Nat} (k_ : RgT P f R B n K ops l (A1u σ dst v) Γ Ms) (hx : ev σ x = .tuple vs := by exact wn_) (hj : vs[j]? = some v := by exact wn_) (hd : A0t n dst = true := by rfl) : OpT P f R B n K ops l (opr dst (.extract x j) ty) σ Γ Ms := A1l (C4s hx hj) hd k_
theorem E1p {vs : Array Value} {j : Nat} (k_ : NV tn pn P f R B n K ops fin l (A1u σ dst v) Γ Ms) (hx : ev σ x = .tuple vs := by exact wn_) (hj : vs[j]? = some v := by exact wn_) (hd : A0t n dst = true := by rfl) : NvT tn pn P f R B n K ops fin i l dst (.extract x j) ty σ Γ Ms := A4b (C4s hx hj) hd k_
theorem E4x {fn : Fn} {cap : Array Operand} {vs : List Value} (k_ : RgT P f R B n K ops l (A1u σ dst (.func fn #[] vs.toArray)) Γ Ms) (h : cap.toList.map (ev σ) = vs := by first | exact G6x (by first | ((conv => lhs; whnf); done) | rfl) | exact G6w (by first | ((conv => lhs; whnf); done) | rfl) (by first | ((conv => lhs; whnf); done) | rfl) | exact G6v (by first | ((conv => lhs; whnf); done) | rfl) (by first | ((conv => lhs; whnf); done) | rfl) (by first | ((conv => lhs; whnf); done) | rfl) | exact G6u (by first | ((conv => lhs; whnf); done) | rfl) (by first | ((conv => lhs; whnf); done) | rfl) (by first | ((conv => lhs; whnf); done) | rfl) (by first | ((conv => lhs; whnf); done) | rfl) | rfl) (hd : A0t n dst = true := by rfl) : OpT P f R B n K ops l (opr dst (.makeFunc fn #[] cap) ty) σ Γ Ms := A1l (D4c h) hd k_
theorem D9r {ts : Array TypeId} {t e : TypeId} {A : Option Addr} {m c : Nat} (k_ : RgT P f R B n K ops l (A1u σ dst (.int .i64 (m : Int))) Γ Ms) (hx : ev σ x = .slice A m c := by exact wn_) (ht : ts[0]? = some t := by rfl) (hu : Tab.und P t = some (.slice e) := by rfl) (hd : A0t n dst = true := by rfl) : OpT P f R B n K ops l (opr dst (.call { callee := .builtin .len, args := #[x], argTypes := ts }) ty) σ Γ Ms := A1l (E3q ht hu hx) hd k_
theorem D8n {ts : Array TypeId} {t e : TypeId} {A : Option Addr} {m c : Nat} (k_ : NV tn pn P f R B n K ops fin l (A1u σ dst (.int .i64 (m : Int))) Γ Ms) (hx : ev σ x = .slice A m c := by exact wn_) (ht : ts[0]? = some t := by rfl) (hu : Tab.und P t = some (.slice e) := by rfl) (hd : A0t n dst = true := by rfl) : NvT tn pn P f R B n K ops fin i l dst (.call { callee := .builtin .len, args := #[x], argTypes := ts }) ty σ Γ Ms := A4b (E3q ht hu hx) hd k_
theorem B7h {ts : Array TypeId} {t : TypeId} {s : ByteArray} (k_ : RgT P f R B n K ops l (A1u σ dst (.int .i64 (s.size : Int))) Γ Ms) (hx : ev σ x = .string s := by exact wn_) (ht : ts[0]? = some t := by rfl) (hu : Tab.und P t = some .string := by rfl) (hd : A0t n dst = true := by rfl) : OpT P f R B n K ops l (opr dst (.call { callee := .builtin .len, args := #[x], argTypes := ts }) ty) σ Γ Ms := A1l (E3p ht hu hx) hd k_
theorem G3h {ts : Array TypeId} {a b : Int} (k_ : RgT P f R B n K ops l (A1u σ dst (.int .i64 (if b < a then b else a))) Γ Ms) (hx : ev σ x = .int .i64 a := by exact wn_) (hy : ev σ y = .int .i64 b := by exact wn_) (hd : A0t n dst = true := by rfl) : OpT P f R B n K ops l (opr dst (.call { callee := .builtin .min, args := #[x, y], argTypes := ts }) ty) σ Γ Ms := A1l (F8l hx hy) hd k_
theorem E1e {t : TypeId} {j bk off o : Nat} (k_ : RgT P f R B n K ops l (A1u σ dst (.pointer (some ⟨bk, off + o, none⟩))) Γ Ms) (hx : ev σ x = .pointer (some ⟨bk, off, none⟩) := by exact wn_) (hf : Tab.foff P t j = some o := by rfl) (hd : A0t n dst = true := by rfl) : OpT P f R B n K ops l (opr dst (.fieldAddr t x j) ty) σ Γ Ms := A1l (B9u hf hx) hd k_
theorem C1d {t : TypeId} {j bk off o : Nat} (k_ : NV tn pn P f R B n K ops fin l (A1u σ dst (.pointer (some ⟨bk, off + o, none⟩))) Γ Ms) (hx : ev σ x = .pointer (some ⟨bk, off, none⟩) := by exact wn_) (hf : Tab.foff P t j = some o := by rfl) (hd : A0t n dst = true := by rfl) : NvT tn pn P f R B n K ops fin i l dst (.fieldAddr t x j) ty σ Γ Ms := A4b (B9u hf hx) hd k_
theorem A1e {t : TypeId} {s bt : Nat} {zv : Value} {parts : Array (Nat × Operand)} {pv : List (Nat × Value)} {l' : List (Nat × Nat)} {cs : List Value} (k_ : RgT P f R B n K ops l (A1u σ dst (.agg cs.toArray)) Γ Ms) (hl : Tab.lay P t = some l' := by rfl) (hi : Tab.inf P t = some (s, bt, zv) := by rfl) (hp : parts.toList.map (fun (i, x) => (i, ev σ x)) = pv := by first | exact pv0  | exact pv1 (by first | ((conv => lhs; whnf); done) | rfl) | exact pv2 (by first | ((conv => lhs; whnf); done) | rfl) (by first | ((conv => lhs; whnf); done) | rfl) | exact pv3 (by first | ((conv => lhs; whnf); done) | rfl) (by first | ((conv => lhs; whnf); done) | rfl) (by first | ((conv => lhs; whnf); done) | rfl) | exact pv4 (by first | ((conv => lhs; whnf); done) | rfl) (by first | ((conv => lhs; whnf); done) | rfl) (by first | ((conv => lhs; whnf); done) | rfl) (by first | ((conv => lhs; whnf); done) | rfl) | exact pv5 (by first | ((conv => lhs; whnf); done) | rfl) (by first | ((conv => lhs; whnf); done) | rfl) (by first | ((conv => lhs; whnf); done) | rfl) (by first | ((conv => lhs; whnf); done) | rfl) (by first | ((conv => lhs; whnf); done) | rfl) | exact pv6 (by first | ((conv => lhs; whnf); done) | rfl) (by first | ((conv => lhs; whnf); done) | rfl) (by first | ((conv => lhs; whnf); done) | rfl) (by first | ((conv => lhs; whnf); done) | rfl) (by first | ((conv => lhs; whnf); done) | rfl) (by first | ((conv => lhs; whnf); done) | rfl) | rfl) (hb : Instr.fill (l'.toArray[·]?) zv.cells pv = some cs.toArray := by rfl) (hd : A0t n dst = true := by rfl) : OpT P f R B n K ops l (opr dst (.build t parts) ty) σ Γ Ms := A1l (D6p hl hi hp hb) hd k_
theorem A9c {t : TypeId} {s bt : Nat} {zv : Value} {parts : Array (Nat × Operand)} {pv : List (Nat × Value)} {l' : List (Nat × Nat)} {cs : List Value} (k_ : NV tn pn P f R B n K ops fin l (A1u σ dst (.agg cs.toArray)) Γ Ms) (hl : Tab.lay P t = some l' := by rfl) (hi : Tab.inf P t = some (s, bt, zv) := by rfl) (hp : parts.toList.map (fun (i, x) => (i, ev σ x)) = pv := by first | exact pv0  | exact pv1 (by first | ((conv => lhs; whnf); done) | rfl) | exact pv2 (by first | ((conv => lhs; whnf); done) | rfl) (by first | ((conv => lhs; whnf); done) | rfl) | exact pv3 (by first | ((conv => lhs; whnf); done) | rfl) (by first | ((conv => lhs; whnf); done) | rfl) (by first | ((conv => lhs; whnf); done) | rfl) | exact pv4 (by first | ((conv => lhs; whnf); done) | rfl) (by first | ((conv => lhs; whnf); done) | rfl) (by first | ((conv => lhs; whnf); done) | rfl) (by first | ((conv => lhs; whnf); done) | rfl) | exact pv5 (by first | ((conv => lhs; whnf); done) | rfl) (by first | ((conv => lhs; whnf); done) | rfl) (by first | ((conv => lhs; whnf); done) | rfl) (by first | ((conv => lhs; whnf); done) | rfl) (by first | ((conv => lhs; whnf); done) | rfl) | exact pv6 (by first | ((conv => lhs; whnf); done) | rfl) (by first | ((conv => lhs; whnf); done) | rfl) (by first | ((conv => lhs; whnf); done) | rfl) (by first | ((conv => lhs; whnf); done) | rfl) (by first | ((conv => lhs; whnf); done) | rfl) (by first | ((conv => lhs; whnf); done) | rfl) | rfl) (hb : Instr.fill (l'.toArray[·]?) zv.cells pv = some cs.toArray := by rfl) (hd : A0t n dst = true := by rfl) : NvT tn pn P f R B n K ops fin i l dst (.build t parts) ty σ Γ Ms := A4b (D6p hl hi hp hb) hd k_
theorem A3t {t e : TypeId} {s bt bk o m c j : Nat} {zv : Value} {A : Option Addr} (k_ : RgT P f R B n K ops l (A1u σ dst (.pointer (some ⟨bk, o + j * s, none⟩))) Γ Ms) (hx : ev σ x = .slice A m c := by exact wn_) (hA : A = some ⟨bk, o, none⟩ := by first | assumption | rfl) (hy : ev σ y = .int .i64 (j : Int) := by exact wn_) (hu : Tab.und P t = some (.slice e) := by rfl) (hi : Tab.inf P e = some (s, bt, zv) := by rfl) (h1 : j < m := by omega) (hd : A0t n dst = true := by rfl) : OpT P f R B n K ops l (opr dst (.indexAddr t x y) ty) σ Γ Ms := A1l (F2l hu hi hx hA hy h1) hd k_
theorem A7w {t e : TypeId} {s bt bk o m c j : Nat} {zv : Value} {A : Option Addr} (k_ : NV tn pn P f R B n K ops fin l (A1u σ dst (.pointer (some ⟨bk, o + j * s, none⟩))) Γ Ms) (hx : ev σ x = .slice A m c := by exact wn_) (hA : A = some ⟨bk, o, none⟩ := by first | assumption | rfl) (hy : ev σ y = .int .i64 (j : Int) := by exact wn_) (hu : Tab.und P t = some (.slice e) := by rfl) (hi : Tab.inf P e = some (s, bt, zv) := by rfl) (h1 : j < m := by omega) (hd : A0t n dst = true := by rfl) : NvT tn pn P f R B n K ops fin i l dst (.indexAddr t x y) ty σ Γ Ms := A4b (F2l hu hi hx hA hy h1) hd k_
theorem F5o {t t' e : TypeId} {A : Option Addr} {m c : Nat} (k_ : RgT P f R B n K ops l (A1u σ dst (.bool A.isNone)) Γ Ms) (hx : ev σ x = .slice A m c := by exact wn_) (hy : ev σ y = .slice none 0 0 := by rfl) (hu : Tab.und P t = some (.slice e) := by rfl) (hd : A0t n dst = true := by rfl) : OpT P f R B n K ops l (opr dst (.binOp .eql t x y t') ty) σ Γ Ms := A1l (D4b hu hx hy) hd k_
theorem E9i {t e : TypeId} {m s bt s' bt' : Nat} {zv zv' : Value} {parts : Array (Nat × Operand)} {pv : List (Nat × Value)} {cs : List Value} (k_ : RgT P f R B n K ops l (A1u σ dst (.agg cs.toArray)) Γ Ms) (hu : Tab.und P t = some (.array m e) := by rfl) (hi : Tab.inf P t = some (s, bt, zv) := by rfl) (he : Tab.inf P e = some (s', bt', zv') := by rfl) (hp : parts.toList.map (fun (i, x) => (i, ev σ x)) = pv := by first | exact pv0  | exact pv1 (by first | ((conv => lhs; whnf); done) | rfl) | exact pv2 (by first | ((conv => lhs; whnf); done) | rfl) (by first | ((conv => lhs; whnf); done) | rfl) | exact pv3 (by first | ((conv => lhs; whnf); done) | rfl) (by first | ((conv => lhs; whnf); done) | rfl) (by first | ((conv => lhs; whnf); done) | rfl) | exact pv4 (by first | ((conv => lhs; whnf); done) | rfl) (by first | ((conv => lhs; whnf); done) | rfl) (by first | ((conv => lhs; whnf); done) | rfl) (by first | ((conv => lhs; whnf); done) | rfl) | exact pv5 (by first | ((conv => lhs; whnf); done) | rfl) (by first | ((conv => lhs; whnf); done) | rfl) (by first | ((conv => lhs; whnf); done) | rfl) (by first | ((conv => lhs; whnf); done) | rfl) (by first | ((conv => lhs; whnf); done) | rfl) | exact pv6 (by first | ((conv => lhs; whnf); done) | rfl) (by first | ((conv => lhs; whnf); done) | rfl) (by first | ((conv => lhs; whnf); done) | rfl) (by first | ((conv => lhs; whnf); done) | rfl) (by first | ((conv => lhs; whnf); done) | rfl) (by first | ((conv => lhs; whnf); done) | rfl) | rfl) (hb : Instr.fill (fun i => some (i * s', s')) zv.cells pv = some cs.toArray := by rfl) (hd : A0t n dst = true := by rfl) : OpT P f R B n K ops l (opr dst (.build t parts) ty) σ Γ Ms := A1l (E3x hu hi he hp hb) hd k_
theorem G3m {t e : TypeId} {s bt b o m : Nat} {zv : Value} {j : Int} (k_ : RgT P f R B n K ops l (A1u σ dst (.pointer (some ⟨b, o + j.toNat * s, none⟩))) Γ Ms) (hx : ev σ x = .pointer (some ⟨b, o, none⟩) := by exact wn_) (hy : ev σ y = .int .i64 j := by exact wn_) (hu : Tab.und P t = some (.array m e) := by rfl) (hi : Tab.inf P e = some (s, bt, zv) := by rfl) (h0 : 0 ≤ j := by omega) (h1 : j < m := by omega) (hd : A0t n dst = true := by rfl) : OpT P f R B n K ops l (opr dst (.indexAddr t x y) ty) σ Γ Ms := A1l (F8n hu hi hx hy h0 h1) hd k_
theorem F2x {t t' : TypeId} {a b : Int} (k_ : RgT P f R B n K ops l (A1u σ dst (.int .i64 (IntKind.i64.wrap (a + b)))) Γ Ms) (hx : ev σ x = .int .i64 a := by exact wn_) (hy : ev σ y = .int .i64 b := by exact wn_) (hd : A0t n dst = true := by rfl) : OpT P f R B n K ops l (opr dst (.binOp .add t x y t') ty) σ Γ Ms := A1l (F5a hx hy) hd k_
theorem A9o {t t' : TypeId} {a b : Nat} (k_ : RgT P f R B n K ops l (A1u σ dst (.int .u32 ((a &&& b : Nat) : Int))) Γ Ms) (hx : ev σ x = .int .u32 (a : Int) := by exact wn_) (hy : ev σ y = .int .u32 (b : Int) := by exact wn_) (ha : a < 4294967296 := by first | assumption | omega) (hb : b < 4294967296 := by first | assumption | omega) (hd : A0t n dst = true := by rfl) : OpT P f R B n K ops l (opr dst (.binOp .and t x y t') ty) σ Γ Ms := A1l (E3y hx hy ha hb) hd k_
theorem C6h {t t' : TypeId} {a b : Nat} (k_ : NV tn pn P f R B n K ops fin l (A1u σ dst (.int .u32 ((a &&& b : Nat) : Int))) Γ Ms) (hx : ev σ x = .int .u32 (a : Int) := by exact wn_) (hy : ev σ y = .int .u32 (b : Int) := by exact wn_) (ha : a < 4294967296 := by first | assumption | omega) (hb : b < 4294967296 := by first | assumption | omega) (hd : A0t n dst = true := by rfl) : NvT tn pn P f R B n K ops fin i l dst (.binOp .and t x y t') ty σ Γ Ms := A4b (E3y hx hy ha hb) hd k_
theorem B3d {t t' : TypeId} {a b : Nat} (k_ : RgT P f R B n K ops l (A1u σ dst (.int .u32 ((a ||| b : Nat) : Int))) Γ Ms) (hx : ev σ x = .int .u32 (a : Int) := by exact wn_) (hy : ev σ y = .int .u32 (b : Int) := by exact wn_) (ha : a < 4294967296 := by first | assumption | omega) (hb : b < 4294967296 := by first | assumption | omega) (hd : A0t n dst = true := by rfl) : OpT P f R B n K ops l (opr dst (.binOp .or t x y t') ty) σ Γ Ms := A1l (F8j hx hy ha hb) hd k_
theorem B6h {t t' : TypeId} {a b : Nat} (k_ : RgT P f R B n K ops l (A1u σ dst (.int .u32 (A1g a b : Int))) Γ Ms) (hx : ev σ x = .int .u32 (a : Int) := by exact wn_) (hy : ev σ y = .int .u32 (b : Int) := by exact wn_) (hd : A0t n dst = true := by rfl) : OpT P f R B n K ops l (opr dst (.binOp .andNot t x y t') ty) σ Γ Ms := A1l (D9m hx hy) hd k_
theorem C7i {t t' : TypeId} {k2 : IntKind} {a m : Nat} (k_ : RgT P f R B n K ops l (A1u σ dst (.int .u32 ((a * 2 ^ (min m 32) % 4294967296 : Nat) : Int))) Γ Ms) (hx : ev σ x = .int .u32 (a : Int) := by exact wn_) (hy : ev σ y = .int k2 (m : Int) := by exact wn_) (hd : A0t n dst = true := by rfl) : OpT P f R B n K ops l (opr dst (.binOp .shl t x y t') ty) σ Γ Ms := A1l (F4w hx hy) hd k_
theorem C7h {t t' : TypeId} {k2 : IntKind} {a m : Nat} (k_ : RgT P f R B n K ops l (A1u σ dst (.int .u32 ((a / 2 ^ (min m 32) : Nat) : Int))) Γ Ms) (hx : ev σ x = .int .u32 (a : Int) := by exact wn_) (hy : ev σ y = .int k2 (m : Int) := by exact wn_) (hd : A0t n dst = true := by rfl) : OpT P f R B n K ops l (opr dst (.binOp .shr t x y t') ty) σ Γ Ms := A1l (E3l hx hy) hd k_
theorem C6f {t t' : TypeId} {k2 : IntKind} {a m : Nat} (k_ : NV tn pn P f R B n K ops fin l (A1u σ dst (.int .u32 ((a / 2 ^ (min m 32) : Nat) : Int))) Γ Ms) (hx : ev σ x = .int .u32 (a : Int) := by exact wn_) (hy : ev σ y = .int k2 (m : Int) := by exact wn_) (hd : A0t n dst = true := by rfl) : NvT tn pn P f R B n K ops fin i l dst (.binOp .shr t x y t') ty σ Γ Ms := A4b (E3l hx hy) hd k_
theorem G2j {t t' : TypeId} {c c' : Cl} (k_ : NV tn pn P f R B n K ops fin l (A1u σ dst (.bool (decide (c = c')))) Γ Ms) (hx : ev σ x = .agg (A0r c).toArray := by exact wn_) (hy : ev σ y = .agg (A0r c').toArray := by exact wn_) (ht : t = Tab.ceq P := by rfl) (hd : A0t n dst = true := by rfl) : NvT tn pn P f R B n K ops fin i l dst (.binOp .eql t x y t') ty σ Γ Ms := A4b (F8p ht hx hy) hd k_
theorem G3f {t t' : TypeId} {c c' : Cl} (k_ : RgT P f R B n K ops l (A1u σ dst (.bool (!decide (c = c')))) Γ Ms) (hx : ev σ x = .agg (A0r c).toArray := by exact wn_) (hy : ev σ y = .agg (A0r c').toArray := by exact wn_) (ht : t = Tab.ceq P := by rfl) (hd : A0t n dst = true := by rfl) : OpT P f R B n K ops l (opr dst (.binOp .neq t x y t') ty) σ Γ Ms := A1l (F2k ht hx hy) hd k_
theorem E7t {t t' : TypeId} {c c' : Cl} (k_ : NV tn pn P f R B n K ops fin l (A1u σ dst (.bool (!decide (c = c')))) Γ Ms) (hx : ev σ x = .agg (A0r c).toArray := by exact wn_) (hy : ev σ y = .agg (A0r c').toArray := by exact wn_) (ht : t = Tab.ceq P := by rfl) (hd : A0t n dst = true := by rfl) : NvT tn pn P f R B n K ops fin i l dst (.binOp .neq t x y t') ty σ Γ Ms := A4b (F2k ht hx hy) hd k_
theorem F9b {t t' : TypeId} {a b : Nat} (k_ : RgT P f R B n K ops l (A1u σ dst (.int .i64 ((a / b : Nat) : Int))) Γ Ms) (hx : ev σ x = .int .i64 (a : Int) := by exact wn_) (hy : ev σ y = .int .i64 (b : Int) := by exact wn_) (ha : a < 9223372036854775808 := by omega) (hb : 0 < b := by first | omega | exact Nat.pow_pos oo_) (hd : A0t n dst = true := by rfl) : OpT P f R B n K ops l (opr dst (.binOp .quo t x y t') ty) σ Γ Ms := A1l (F4z hx hy ha hb) hd k_
theorem F9a {t t' : TypeId} {a b : Nat} (k_ : RgT P f R B n K ops l (A1u σ dst (.int .i64 ((a % b : Nat) : Int))) Γ Ms) (hx : ev σ x = .int .i64 (a : Int) := by exact wn_) (hy : ev σ y = .int .i64 (b : Int) := by exact wn_) (hb : 0 < b := by omega) (hd : A0t n dst = true := by rfl) : OpT P f R B n K ops l (opr dst (.binOp .rem t x y t') ty) σ Γ Ms := A1l (F4y hx hy hb) hd k_
theorem E4w {t : TypeId} {s : ByteArray} {j : Int} {c : UInt8} (k_ : RgT P f R B n K ops l (A1u σ dst (.int .u8 c.toNat)) Γ Ms) (hx : ev σ x = .string s := by exact wn_) (hy : ev σ y = .int .i64 j := by exact wn_) (hu : Tab.und P t = some .string := by rfl) (h0 : 0 ≤ j := by omega) (hc : s[j.toNat]? = some c := by assumption) (hd : A0t n dst = true := by rfl) : OpT P f R B n K ops l (opr dst (.index t x y) ty) σ Γ Ms := A1l (D4d hu hx hy h0 hc) hd k_
theorem F9i {s d : TypeId} {k k' : IntKind} {ds : TypeDesc} {a : Int} (k_ : RgT P f R B n K ops l (A1u σ dst (.int k' (k'.wrap a))) Γ Ms) (hx : ev σ x = .int k a := by exact wn_) (hs : Tab.und P s = some ds := by rfl) (hd' : Tab.und P d = some (.int k') := by rfl) (hd : A0t n dst = true := by rfl) : OpT P f R B n K ops l (opr dst (.convert s d x) ty) σ Γ Ms := A1l (A9g hs hd' hx) hd k_
theorem G2b {t T' : TypeId} {bk k : Nat} {cs : List Value} {d : TypeDesc} (k_ : RgT P f R B n K ops l (A1u σ dst v) Γ Ms) (hx : ev σ x = .pointer (some ⟨bk, k, none⟩) := by exact wn_) (hF : A1o bk cs T' ∈ Ms := by repeat (first | exact List.mem_cons_self | apply List.mem_cons_of_mem)) (hu : Tab.und P t = some d := by rfl) (hd' : (match d with | .struct _ | .array _ _ => true | _ => false) = false := by rfl) (hk : cs[k]? = some v := by exact wn_) (hd : A0t n dst = true := by rfl) : OpT P f R B n K ops l (opr dst (.load t x) ty) σ Γ Ms := A7x (F3c hx hF hu hd' hk) hd k_
theorem G5w {t T' : TypeId} {bk k : Nat} {cs : List Value} {d : TypeDesc} (k_ : NV false pn P f R B n K ops fin l (A1u σ dst v) Γ Ms) (hx : ev σ x = .pointer (some ⟨bk, k, none⟩) := by exact wn_) (hF : A1o bk cs T' ∈ Ms := by repeat (first | exact List.mem_cons_self | apply List.mem_cons_of_mem)) (hu : Tab.und P t = some d := by rfl) (hd' : (match d with | .struct _ | .array _ _ => true | _ => false) = false := by rfl) (hk : cs[k]? = some v := by exact wn_) (hd : A0t n dst = true := by rfl) : NvT false pn P f R B n K ops fin i l dst (.load t x) ty σ Γ Ms := B8u (F3c hx hF hu hd' hk) rfl hd k_
theorem C3v {t T' : TypeId} {bk k : Nat} {cs : List Value} {l' : List (Nat × Nat)} {s bt : Nat} {zv : Value} {cs' : List Value} (k_ : RgT P f R B n K ops l (A1u σ dst (.agg cs'.toArray)) Γ Ms) (hx : ev σ x = .pointer (some ⟨bk, k, none⟩) := by exact wn_) (hF : A1o bk cs T' ∈ Ms := by repeat (first | exact List.mem_cons_self | apply List.mem_cons_of_mem)) (hu : Tab.lay P t = some l' := by rfl) (hi : Tab.inf P t = some (s, bt, zv) := by rfl) (hk : (cs.drop k).take s = cs' := by rfl) (hl : cs'.length = s := by rfl) (hd : A0t n dst = true := by rfl) : OpT P f R B n K ops l (opr dst (.load t x) ty) σ Γ Ms := A7x (F3d hx hF hu hi hk hl) hd k_
theorem F7i {t T' : TypeId} {bk k : Nat} {cs : List Value} {l' : List (Nat × Nat)} {s bt : Nat} {zv : Value} {cs' : List Value} (k_ : NV false pn P f R B n K ops fin l (A1u σ dst (.agg cs'.toArray)) Γ Ms) (hx : ev σ x = .pointer (some ⟨bk, k, none⟩) := by exact wn_) (hF : A1o bk cs T' ∈ Ms := by repeat (first | exact List.mem_cons_self | apply List.mem_cons_of_mem)) (hu : Tab.lay P t = some l' := by rfl) (hi : Tab.inf P t = some (s, bt, zv) := by rfl) (hk : (cs.drop k).take s = cs' := by rfl) (hl : cs'.length = s := by rfl) (hd : A0t n dst = true := by rfl) : NvT false pn P f R B n K ops fin i l dst (.load t x) ty σ Γ Ms := B8u (F3d hx hF hu hi hk hl) rfl hd k_
theorem G3l {t : TypeId} {l' : List (Nat × Nat)} {bt bk o i' : Nat} {a : SH} {zv : Value} {ls : List Cl} (k_ : RgT P f R B n K ops l (A1u σ dst (.agg (A0r (ls.getD i' cl0)).toArray)) Γ Ms) (hx : ev σ x = .pointer (some ⟨bk, o + i' * 2, none⟩) := by exact wn_) (hFa : CL ls a ∈ Γ ∧ a.1 = some ⟨bk, o, none⟩ := by exact ma0_) (hu : Tab.lay P t = some l' := by rfl) (hi : Tab.inf P t = some (2, bt, zv) := by rfl) (hlt : i' < ls.length := by omega) (hd : A0t n dst = true := by rfl) : OpT P f R B n K ops l (opr dst (.load t x) ty) σ Γ Ms := A7x (F5z hx hFa.1 hFa.2 hu hi hlt) hd k_
theorem D8o {t : TypeId} {l' : List (Nat × Nat)} {bt bk o i' : Nat} {a : SH} {zv : Value} {ls : List Cl} (k_ : NV false pn P f R B n K ops fin l (A1u σ dst (.agg (A0r (ls.getD i' cl0)).toArray)) Γ Ms) (hx : ev σ x = .pointer (some ⟨bk, o + i' * 2, none⟩) := by exact wn_) (hFa : CL ls a ∈ Γ ∧ a.1 = some ⟨bk, o, none⟩ := by exact ma0_) (hu : Tab.lay P t = some l' := by rfl) (hi : Tab.inf P t = some (2, bt, zv) := by rfl) (hlt : i' < ls.length := by omega) (hd : A0t n dst = true := by rfl) : NvT false pn P f R B n K ops fin i l dst (.load t x) ty σ Γ Ms := B8u (F5z hx hFa.1 hFa.2 hu hi hlt) rfl hd k_
theorem G5m {t : TypeId} {l' : List (Nat × Nat)} {bt bk o i' : Nat} {a : SH} {zv : Value} {ls : List Cl} (k_ : NV tn pn P f R B n K ops fin l (A1u σ dst (.agg (A0r (ls.getD i' cl0)).toArray)) Γ Ms) (hx : ev σ x = .pointer (some ⟨bk, o + i' * 2, none⟩) := by exact wn_) (hFa : CL ls a ∈ Γ ∧ a.1 = some ⟨bk, o, none⟩ := by exact ma0_) (hu : Tab.lay P t = some l' := by rfl) (hi : Tab.inf P t = some (2, bt, zv) := by rfl) (hlt : i' < ls.length := by omega) (hd : A0t n dst = true := by rfl) : NvT tn pn P f R B n K ops fin i l dst (.load t x) ty σ Γ Ms := D7a (F5z hx hFa.1 hFa.2 hu hi hlt) rfl hd k_
theorem F2w {t : TypeId} {d : TypeDesc} {bk o i' k : Nat} {a : SH} {ls : List Cl} (k_ : RgT P f R B n K ops l (A1u σ dst v) Γ Ms) (hx : ev σ x = .pointer (some ⟨bk, o + i' * 2 + k, none⟩) := by exact wn_) (hFa : CL ls a ∈ Γ ∧ a.1 = some ⟨bk, o, none⟩ := by exact ma0_) (hu : Tab.und P t = some d := by rfl) (hd' : (match d with | .struct _ | .array _ _ => true | _ => false) = false := by rfl) (hk : (A0r (ls.getD i' cl0))[k]? = some v := by exact wn_) (hlt : i' < ls.length := by omega) (hd : A0t n dst = true := by rfl) : OpT P f R B n K ops l (opr dst (.load t x) ty) σ Γ Ms := A7x (F3a hx hFa.1 hFa.2 hu hd' hk hlt) hd k_
theorem F1p {t : TypeId} {d : TypeDesc} {bk o i' k : Nat} {a : SH} {ls : List Cl} (k_ : NV false pn P f R B n K ops fin l (A1u σ dst v) Γ Ms) (hx : ev σ x = .pointer (some ⟨bk, o + i' * 2 + k, none⟩) := by exact wn_) (hFa : CL ls a ∈ Γ ∧ a.1 = some ⟨bk, o, none⟩ := by exact ma0_) (hu : Tab.und P t = some d := by rfl) (hd' : (match d with | .struct _ | .array _ _ => true | _ => false) = false := by rfl) (hk : (A0r (ls.getD i' cl0))[k]? = some v := by exact wn_) (hlt : i' < ls.length := by omega) (hd : A0t n dst = true := by rfl) : NvT false pn P f R B n K ops fin i l dst (.load t x) ty σ Γ Ms := B8u (F3a hx hFa.1 hFa.2 hu hd' hk hlt) rfl hd k_
theorem G3k {t : TypeId} {l' : List (Nat × Nat)} {bt bk o i' : Nat} {a : SH} {zv : Value} {ts : List T} {VR VK VS : Nat → SH} (k_ : RgT P f R B n K ops l (A1u σ dst (.agg (tc (ts.getD i' t0) (VR i') (VK i') (VS i')).toArray)) Γ Ms) (hx : ev σ x = .pointer (some ⟨bk, o + i' * 6, none⟩) := by exact wn_) (hFa : TLx ts a VR VK VS ∈ Γ ∧ a.1 = some ⟨bk, o, none⟩ := by exact ma0_) (hu : Tab.lay P t = some l' := by rfl) (hi : Tab.inf P t = some (6, bt, zv) := by rfl) (hlt : i' < ts.length := by omega) (hd : A0t n dst = true := by rfl) : OpT P f R B n K ops l (opr dst (.load t x) ty) σ Γ Ms := A7x (E5l hx hFa.1 hFa.2 hu hi hlt) hd k_
theorem G2h {t : TypeId} {l' : List (Nat × Nat)} {bt bk o i' : Nat} {a : SH} {zv : Value} {ts : List T} {VR VK VS : Nat → SH} (k_ : NV false pn P f R B n K ops fin l (A1u σ dst (.agg (tc (ts.getD i' t0) (VR i') (VK i') (VS i')).toArray)) Γ Ms) (hx : ev σ x = .pointer (some ⟨bk, o + i' * 6, none⟩) := by exact wn_) (hFa : TLx ts a VR VK VS ∈ Γ ∧ a.1 = some ⟨bk, o, none⟩ := by exact ma0_) (hu : Tab.lay P t = some l' := by rfl) (hi : Tab.inf P t = some (6, bt, zv) := by rfl) (hlt : i' < ts.length := by omega) (hd : A0t n dst = true := by rfl) : NvT false pn P f R B n K ops fin i l dst (.load t x) ty σ Γ Ms := B8u (E5l hx hFa.1 hFa.2 hu hi hlt) rfl hd k_
theorem E4v {t : TypeId} {l' : List (Nat × Nat)} {bt bk o i' : Nat} {a : SH} {zv : Value} {bs : List Br} {VF VK : Nat → SH} (k_ : RgT P f R B n K ops l (A1u σ dst (.agg (bc (bs.getD i' br0) (VF i') (VK i')).toArray)) Γ Ms) (hx : ev σ x = .pointer (some ⟨bk, o + i' * 2, none⟩) := by exact wn_) (hFa : BLx bs a VF VK ∈ Γ ∧ a.1 = some ⟨bk, o, none⟩ := by exact ma0_) (hu : Tab.lay P t = some l' := by rfl) (hi : Tab.inf P t = some (2, bt, zv) := by rfl) (hlt : i' < bs.length := by omega) (hd : A0t n dst = true := by rfl) : OpT P f R B n K ops l (opr dst (.load t x) ty) σ Γ Ms := A7x (G3y hx hFa.1 hFa.2 hu hi hlt) hd k_
theorem F9g {t : TypeId} {d : TypeDesc} {bk o i' k : Nat} {a : SH} {bs : List Br} {VF VK : Nat → SH} (k_ : RgT P f R B n K ops l (A1u σ dst v) Γ Ms) (hx : ev σ x = .pointer (some ⟨bk, o + i' * 2 + k, none⟩) := by exact wn_) (hFa : BLx bs a VF VK ∈ Γ ∧ a.1 = some ⟨bk, o, none⟩ := by exact ma0_) (hu : Tab.und P t = some d := by rfl) (hd' : (match d with | .struct _ | .array _ _ => true | _ => false) = false := by rfl) (hk : (bc (bs.getD i' br0) (VF i') (VK i'))[k]? = some v := by exact wn_) (hlt : i' < bs.length := by omega) (hd : A0t n dst = true := by rfl) : OpT P f R B n K ops l (opr dst (.load t x) ty) σ Γ Ms := A7x (F3b hx hFa.1 hFa.2 hu hd' hk hlt) hd k_
theorem C1c {t : TypeId} {d : TypeDesc} {bk o i' k : Nat} {a : SH} {bs : List Br} {VF VK : Nat → SH} (k_ : NV false pn P f R B n K ops fin l (A1u σ dst v) Γ Ms) (hx : ev σ x = .pointer (some ⟨bk, o + i' * 2 + k, none⟩) := by exact wn_) (hFa : BLx bs a VF VK ∈ Γ ∧ a.1 = some ⟨bk, o, none⟩ := by exact ma0_) (hu : Tab.und P t = some d := by rfl) (hd' : (match d with | .struct _ | .array _ _ => true | _ => false) = false := by rfl) (hk : (bc (bs.getD i' br0) (VF i') (VK i'))[k]? = some v := by exact wn_) (hlt : i' < bs.length := by omega) (hd : A0t n dst = true := by rfl) : NvT false pn P f R B n K ops fin i l dst (.load t x) ty σ Γ Ms := B8u (F3b hx hFa.1 hFa.2 hu hd' hk hlt) rfl hd k_
theorem A2d {t : TypeId} {cs : List Value} (k_ : ∀ b, RgT P f R B n K ops l (A1u σ dst ((fun b => .pointer (some ⟨b, 0, none⟩)) b)) Γ (A1o b cs t :: Ms)) (hx : (ev σ x).cells = cs.toArray := by rfl) (hd : A0t n dst = true := by rfl) : OpT P f R B n K ops l (opr dst (.box t x) ty) σ Γ Ms := B7d (G1z hx) hd k_
theorem A2p {t : TypeId} {s bt : Nat} {zv : Value} {cs : List Value} (k_ : ∀ b, RgT P f R B n K ops l (A1u σ dst ((fun b => .pointer (some ⟨b, 0, none⟩)) b)) Γ (A1o b cs t :: Ms)) (hi : Tab.inf P t = some (s, bt, zv) := by rfl) (hz : zv.cells = cs.toArray := by rfl) (hd : A0t n dst = true := by rfl) : OpT P f R B n K ops l (opr dst (.alloc t) ty) σ Γ Ms := B7d (D8i hi hz) hd k_
theorem D3g {t : TypeId} {s bt : Nat} {zv : Value} {cs : List Value} (k_ : ∀ b, NV tn pn P f R B n K ops fin l (A1u σ dst ((fun b => .pointer (some ⟨b, 0, none⟩)) b)) Γ (A1o b cs t :: Ms)) (hi : Tab.inf P t = some (s, bt, zv) := by rfl) (hz : zv.cells = cs.toArray := by rfl) (hd : A0t n dst = true := by rfl) : NvT tn pn P f R B n K ops fin i l dst (.alloc t) ty σ Γ Ms := C0w (D8i hi hz) rfl hd k_
theorem A2y {t e : TypeId} {sz bt : Nat} {zv : Value} {cs : List Value} (k_ : ∀ b, RgT P f R B n K ops l (A1u σ dst ((fun b => .slice (some ⟨b, 0, none⟩) 1 1) b)) Γ (A1o b cs e :: Ms)) (hu : Tab.und P t = some (.slice e) := by rfl) (hi : Tab.inf P e = some (sz, bt, zv) := by rfl) (hle : sz ≤ 16777216 := by decide) (hx : (ev σ x).cells = cs.toArray := by rfl) (hl : cs.length = sz := by rfl) (hd : A0t n dst = true := by rfl) : OpT P f R B n K ops l (opr dst (.buildSlice t 1 #[(0, x)]) ty) σ Γ Ms := B7d (E7g hu hi hle hx hl) hd k_
theorem B3r {t e : TypeId} {sz bt : Nat} {zv : Value} {cs : List Value} (k_ : ∀ b, NV tn pn P f R B n K ops fin l (A1u σ dst ((fun b => .slice (some ⟨b, 0, none⟩) 1 1) b)) Γ (A1o b cs e :: Ms)) (hu : Tab.und P t = some (.slice e) := by rfl) (hi : Tab.inf P e = some (sz, bt, zv) := by rfl) (hle : sz ≤ 16777216 := by decide) (hx : (ev σ x).cells = cs.toArray := by rfl) (hl : cs.length = sz := by rfl) (hd : A0t n dst = true := by rfl) : NvT tn pn P f R B n K ops fin i l dst (.buildSlice t 1 #[(0, x)]) ty σ Γ Ms := C0w (E7g hu hi hle hx hl) rfl hd k_
theorem E4t {t e : TypeId} {sz bt : Nat} {zv : Value} {cs cs2 : List Value} (k_ : ∀ b, RgT P f R B n K ops l (A1u σ dst ((fun b => .slice (some ⟨b, 0, none⟩) 2 2) b)) Γ (A1o b (cs ++ cs2) e :: Ms)) (hu : Tab.und P t = some (.slice e) := by rfl) (hi : Tab.inf P e = some (sz, bt, zv) := by rfl) (hle : 2 * sz ≤ 16777216 := by decide) (hx : (ev σ x).cells = cs.toArray := by rfl) (hy : (ev σ y).cells = cs2.toArray := by rfl) (hl : cs.length = sz := by rfl) (hl2 : cs2.length = sz := by rfl) (hd : A0t n dst = true := by rfl) : OpT P f R B n K ops l (opr dst (.buildSlice t 2 #[(0, x), (1, y)]) ty) σ Γ Ms := B7d (E7f hu hi hle hx hy hl hl2) hd k_
theorem F7h {t e : TypeId} {sz bt : Nat} {zv : Value} {cs cs2 : List Value} (k_ : ∀ b, NV tn pn P f R B n K ops fin l (A1u σ dst ((fun b => .slice (some ⟨b, 0, none⟩) 2 2) b)) Γ (A1o b (cs ++ cs2) e :: Ms)) (hu : Tab.und P t = some (.slice e) := by rfl) (hi : Tab.inf P e = some (sz, bt, zv) := by rfl) (hle : 2 * sz ≤ 16777216 := by decide) (hx : (ev σ x).cells = cs.toArray := by rfl) (hy : (ev σ y).cells = cs2.toArray := by rfl) (hl : cs.length = sz := by rfl) (hl2 : cs2.length = sz := by rfl) (hd : A0t n dst = true := by rfl) : NvT tn pn P f R B n K ops fin i l dst (.buildSlice t 2 #[(0, x), (1, y)]) ty σ Γ Ms := C0w (E7f hu hi hle hx hy hl hl2) rfl hd k_
theorem C4z {t e : TypeId} {sz bt : Nat} {zv : Value} (k_ : ∀ b, RgT P f R B n K ops l (A1u σ dst ((fun b => .slice (some ⟨b, 0, none⟩) 0 0) b)) Γ (A1o b [] e :: Ms)) (hu : Tab.und P t = some (.slice e) := by rfl) (hi : Tab.inf P e = some (sz, bt, zv) := by rfl) (hd : A0t n dst = true := by rfl) : OpT P f R B n K ops l (opr dst (.buildSlice t 0 #[]) ty) σ Γ Ms := B7d (E7h hu hi) hd k_
theorem F1o {t e : TypeId} {sz bt : Nat} {zv : Value} (k_ : ∀ b, NV tn pn P f R B n K ops fin l (A1u σ dst ((fun b => .slice (some ⟨b, 0, none⟩) 0 0) b)) Γ (A1o b [] e :: Ms)) (hu : Tab.und P t = some (.slice e) := by rfl) (hi : Tab.inf P e = some (sz, bt, zv) := by rfl) (hd : A0t n dst = true := by rfl) : NvT tn pn P f R B n K ops fin i l dst (.buildSlice t 0 #[]) ty σ Γ Ms := C0w (E7h hu hi) rfl hd k_
theorem G6k {t T' : TypeId} {b s bt : Nat} {zv : Value} {cs cs' : List Value} (k_ : RgT P f R B n K ops l σ Γ (A1o b cs' T' :: Ms2)) (hx : ev σ x = .pointer (some ⟨b, 0, none⟩) := by exact wn_) (hm : Ms.Perm (A1o b cs T' :: Ms2) := by first | exact C0m | exact A0y | exact A3o | exact A2x | exact A3m | exact A4i | exact A3e) (hy : (ev σ y).cells = cs'.toArray := by rfl) (hi : Tab.inf P t = some (s, bt, zv) := by rfl) (hl : cs'.length = s := by rfl) (hl2 : cs.length = s := by rfl) (h1 : A9m cs' = true := by rfl) : OpT P f R B n K ops l (opr none (.store t x y) ty) σ Γ Ms := B4u (F1t hx hy hm hi hl hl2 h1) k_
theorem G3d {t T' : TypeId} {b k bt : Nat} {zv : Value} {cs cs' : List Value} (k_ : RgT P f R B n K ops l σ Γ (A1o b cs' T' :: Ms2)) (hx : ev σ x = .pointer (some ⟨b, k, none⟩) := by exact wn_) (hm : Ms.Perm (A1o b cs T' :: Ms2) := by first | exact C0m | exact A0y | exact A3o | exact A2x | exact A3m | exact A4i | exact A3e) (hy : ev σ y = v := by exact wn_) (hi : Tab.inf P t = some (1, bt, zv) := by rfl) (h1 : v.oneCell' = true := by rfl) (hk : k < cs.length := by exact Nat.le_of_ble_eq_true rfl) (hc : cs.set k v = cs' := by rfl) : OpT P f R B n K ops l (opr none (.store t x y) ty) σ Γ Ms := by
 subst hc
 exact B4u (F4g hx hy hm hi h1 hk) k_
theorem A4a {t e T' : TypeId} {ts : Array TypeId} {sz bt n' m c b : Nat} {zv : Value} {a : SH} {xs cs : List Value} (k_ : ∀ a' : SH, RgT P f R B n K ops l (A1u σ dst (sl a' (n' + m))) Γ (A1d sz e a' (n' + m) (xs ++ cs) :: A1o b cs T' :: Ms2)) (hm : Ms.Perm (A1d sz e a n' xs :: A1o b cs T' :: Ms2) := by first | exact C0m | exact A0y | exact A3o | exact A2x | exact A3m | exact A4i | exact A3e) (hx : ev σ x = sl a n' := by rfl) (hy : ev σ y = .slice (some ⟨b, 0, none⟩) m c := by exact wn_) (hts : ts = #[t, t] := by rfl) (hu : Tab.und P t = some (.slice e) := by rfl) (hi : Tab.inf P e = some (sz, bt, zv) := by rfl) (hzs : zv.cells.size = sz := by rfl) (hsz : 0 < sz := by exact Nat.le_of_ble_eq_true rfl) (hl : cs.length = m * sz := by rfl) (h1 : A9m cs = true := by rfl) (hb : (n' + m) * bt ≤ 140737488355328 := by first | omega | (unfold reach at *; omega) | (unfold reach A9a at *; omega)) (hnm : n' + m ≤ 9223372036854775807 := by first | omega | (unfold reach at *; omega) | (unfold reach A9a at *; omega)) (hd : A0t n dst = true := by rfl) : OpT P f R B n K ops l (opr dst (.call { callee := .builtin .append, args := #[x, y], argTypes := ts }) ty) σ Γ Ms := D3k (E1w hm hx hy hts hu hi hzs hsz hl h1 hb hnm) hd k_
theorem B0g {t e : TypeId} {ts : Array TypeId} {bt n' : Nat} {zv : Value} {a b : SH} {xs : List Value} {ls : List Cl} (k_ : ∀ a' : SH, RgT P f R B n K ops l (A1u σ dst (sl a' (n' + ls.length))) Γ (A1d 2 e a' (n' + ls.length) (xs ++ A0i ls) :: Ms2)) (hF : CL ls b ∈ Γ) (hm : Ms.Perm (A1d 2 e a n' xs :: Ms2) := by first | exact C0m | exact A0y | exact A3o | exact A2x | exact A3m | exact A4i | exact A3e) (hx : ev σ x = sl a n' := by rfl) (hy : ev σ y = sl b ls.length := by rfl) (hts : ts = #[t, t] := by rfl) (hu : Tab.und P t = some (.slice e) := by rfl) (hi : Tab.inf P e = some (2, bt, zv) := by rfl) (hzs : zv.cells.size = 2 := by rfl) (hb : (n' + ls.length) * bt ≤ 140737488355328 := by first | omega | (unfold reach at *; omega) | (unfold reach A9a at *; omega)) (hnm : n' + ls.length ≤ 9223372036854775807 := by first | omega | (unfold reach at *; omega) | (unfold reach A9a at *; omega)) (hd : A0t n dst = true := by rfl) : OpT P f R B n K ops l (opr dst (.call { callee := .builtin .append, args := #[x, y], argTypes := ts }) ty) σ Γ Ms := D3k (D5t hm hF hx hy hts hu hi hzs hb hnm) hd k_
theorem E4r [TyF P] [TabM P] {t : TypeId} (k_ : ∀ b, RgT P f R B n K ops l (A1u σ dst (.map (some b))) Γ (E5g b [] :: Ms)) (hd : A0t n dst = true := by rfl) : OpT P f R B n K ops l (opr dst (.makeMap t none) ty) σ Γ Ms := D3k D8q hd k_
theorem E4s [TyF P] [TabM P] {t e : TypeId} {s bt b : Nat} {c : Cl} {keys : List Cl} (k_ : RgT P f R B n K ops l (A1u σ dst (.bool (decide (c ∈ keys)))) Γ Ms) (hx : ev σ x = .map (some b) := by exact wn_) (hm : E5g b keys ∈ Ms := by repeat (first | exact List.mem_cons_self | apply List.mem_cons_of_mem)) (hy : ev σ y = B0i c := by rfl) (hc : u32 c := by assumption) (hu : Tab.und P t = some (.map (TyF.tC P) e) := by rfl) (hi : Tab.inf P e = some (s, bt, .bool false) := by rfl) (hd : A0t n dst = true := by rfl) : OpT P f R B n K ops l (opr dst (.lookup t x y false) ty) σ Γ Ms := A7x (E5m hx hm hc hy hu hi) hd k_
theorem E9f [TyF P] [TabM P] {t e : TypeId} {b : Nat} {c : Cl} {keys : List Cl} (k_ : RgT P f R B n K ops l σ Γ (E5g b (keys ++ [c]) :: Ms2)) (hx : ev σ x = .map (some b) := by exact wn_) (hm : Ms.Perm (E5g b keys :: Ms2) := by first | exact C0m | exact A0y | exact A3o | exact A2x | exact A3m | exact A4i | exact A3e) (hy : ev σ y = B0i c := by rfl) (hc : u32 c := by assumption) (hn : c ∉ keys := by assumption) (hz : ev σ z = .bool true := by rfl) (hu : Tab.und P t = some (.map (TyF.tC P) e) := by rfl) : OpT P f R B n K ops l (opr none (.mapUpdate t x y z) ty) σ Γ Ms := B4u (C9u hx hm hc hn hy hz hu) k_
theorem F3g {c : FuncId} {args : Array Value} {as : Array Operand} {ts : Array TypeId} {g : Operand} (hg : ev σ g = .func (.func c) #[] #[]) (ha : as.toList.map (ev σ) = args.toList) (hc : ∀ (args : Array Value) (w : World), (callFunc c args).run P w = .ok (.enter c args) w) : D8k P σ (.call { callee := .value g, args := as, argTypes := ts }) ty c args := fun w => by
 have ha : as.map (ev σ) = args := Array.ext' (by simpa using ha)
 subst ha
 simp [opr, execOp, resolve, hg, Deferred.ofValue, invoke, hc]
theorem F3h {c : FuncId} {args cap : List Value} {as : Array Operand} {ts : Array TypeId} {g : Operand} (hg : ev σ g = .func (.func c) #[] cap.toArray) (ha : as.toList.map (ev σ) = args) (hc : ∀ (args : Array Value) (w : World), (callFunc c args).run P w = .ok (.enter c args) w) : D8k P σ (.call { callee := .value g, args := as, argTypes := ts }) ty c (args ++ cap).toArray := fun w => by
 have ha : as.map (ev σ) = args.toArray := Array.ext' (by simpa using ha)
 simp [ha, opr, execOp, resolve, hg, Deferred.ofValue, invoke, hc]
theorem A0b {c : FuncId} {args : Array Value} {as : Array Operand} {ts : Array TypeId} {g : Operand} {pre : List Fact} {Ms0 : List Res} {X : Type} {val : X → Value} {N : X → List Fact} {Ms1 : X → List Res}
  (hc : ∀ (args : Array Value) (w : World), (callFunc c args).run P w = .ok (.enter c args) w) (hsp : Spec P c args pre Ms0 val N Ms1) (kk : ∀ x, RgT P f R B n K ops l (A1u σ dst (val x)) (N x ++ Γ) (Ms1 x ++ Ms2))
  (hg : ev σ g = .func (.func c) #[] #[] := by rfl) (ha : as.toList.map (ev σ) = args.toList := by rfl) (hpre : ∀ F, F ∈ pre → F ∈ Γ := by first | (simp; done) | (simp +contextual; done)) (hm : Ms.Perm (Ms0 ++ Ms2) := by first | exact List.Perm.refl _ | exact F2g | exact F2f | exact F2e | exact F2d | exact A0y | exact A3o | exact A2x | exact A3m | exact F2c) (hd : A0t n dst = true := by rfl) : OpT P f R B n K ops l (opr dst (.call { callee := .value g, args := as, argTypes := ts }) ty) σ Γ Ms :=
 E2a (F3g hg ha hc) hsp hpre hm hd kk
theorem A6y {c : FuncId} {args cap al : List Value} {as : Array Operand} {ts : Array TypeId} {g : Operand} {pre : List Fact} {Ms0 : List Res} {X : Type} {val : X → Value} {N : X → List Fact} {Ms1 : X → List Res}
  (hc : ∀ (args : Array Value) (w : World), (callFunc c args).run P w = .ok (.enter c args) w) (hsp : Spec P c al.toArray pre Ms0 val N Ms1) (kk : ∀ x, RgT P f R B n K ops l (A1u σ dst (val x)) (N x ++ Γ) (Ms1 x ++ Ms2))
  (hg : ev σ g = .func (.func c) #[] cap.toArray := by rfl) (ha : as.toList.map (ev σ) = args := by rfl) (hal : args ++ cap = al := by rfl) (hpre : ∀ F, F ∈ pre → F ∈ Γ := by first | (simp; done) | (simp +contextual; done)) (hm : Ms.Perm (Ms0 ++ Ms2) := by first | exact List.Perm.refl _ | exact F2g | exact F2f | exact F2e | exact F2d | exact A0y | exact A3o | exact A2x | exact A3m | exact F2c) (hd : A0t n dst = true := by rfl) : OpT P f R B n K ops l (opr dst (.call { callee := .value g, args := as, argTypes := ts }) ty) σ Γ Ms :=
 E2a (F3h hg ha hc) (hal ▸ hsp) hpre hm hd kk
theorem A1q {c : FuncId} {args : Array Value} {as : Array Operand} {ts : Array TypeId} {g : Operand} {pre : List Fact} {X : Type} {val : X → Value} {N : X → List Fact} {Ms1 : X → List Res}
  (hc : ∀ (args : Array Value) (w : World), (callFunc c args).run P w = .ok (.enter c args) w) (hsp : Spec P c args pre [] val N Ms1) (kk : ∀ x, NV tn pn P f R B n K ops fin l (A1u σ dst (val x)) (N x ++ Γ) (Ms1 x ++ Ms))
  (hg : ev σ g = .func (.func c) #[] #[] := by rfl) (ha : as.toList.map (ev σ) = args.toList := by rfl) (hpre : ∀ F, F ∈ pre → F ∈ Γ := by first | (simp; done) | (simp +contextual; done)) (hd : A0t n dst = true := by rfl) : NvT tn pn P f R B n K ops fin i l dst (.call { callee := .value g, args := as, argTypes := ts }) ty σ Γ Ms :=
 E5a (F3g hg ha hc) hsp hpre rfl rfl hd kk
theorem q0 (ho : ops[i]? = some ⟨dst, op, ty, pos, after, none⟩) (h : OpT P f R B n K ops l (opr dst op ty) σ Γ Ms) : RgT P f R B n K ops (i :: l) σ Γ Ms := G2x ho h
theorem qT {g d : Nat} {want : Bool} {og : Oper} (ho : ops[i]? = some ⟨dst, op, ty, pos, after, some (g, want)⟩) (hog : ops[g]? = some og) (hgd : og.dst = some d) (h : OpT P f R B n K ops l (opr dst op ty) σ Γ Ms) (ht : σ d = .bool want := by rfl) : RgT P f R B n K ops (i :: l) σ Γ Ms := F7z ho hog hgd ht h
theorem qF {g d : Nat} {want t : Bool} {og : Oper} (ho : ops[i]? = some ⟨dst, op, ty, pos, after, some (g, want)⟩) (hog : ops[g]? = some og) (hgd : og.dst = some d) (h : RgT P f R B n K ops l (A1u σ dst undef) Γ Ms) (ht : σ d = .bool t := by conv => lhs; whnf) (hne : (t == want) = false := by rfl) (hd : A0t n dst = true := by rfl) : RgT P f R B n K ops (i :: l) σ Γ Ms := F8a ho hog hgd ht hne hd h
theorem qU {g d : Nat} {want : Bool} {og : Oper} (ho : ops[i]? = some ⟨dst, op, ty, pos, after, some (g, want)⟩) (hog : ops[g]? = some og) (hgd : og.dst = some d) (h : RgT P f R B n K ops l (A1u σ dst undef) Γ Ms) (ht : σ d = undef := by rfl) (hd : A0t n dst = true := by rfl) : RgT P f R B n K ops (i :: l) σ Γ Ms := F7y ho hog hgd ht hd h
theorem nU {g d : Nat} {want : Bool} {og : Oper} (ho : ops[i]? = some ⟨dst, op, ty, pos, after, some (g, want)⟩) (hog : ops[g]? = some og) (hgd : og.dst = some d) (h : NV tn pn P f R B n K ops fin l (A1u σ dst undef) Γ Ms) (ht : σ d = undef := by rfl) (hd : A0t n dst = true := by rfl) (hn : Nat.beq pn i = false := by rfl) : NV tn pn P f R B n K ops fin (i :: l) σ Γ Ms := F9j ho hog hgd ht hd h hn
theorem qI {g d : Nat} {want t : Bool} {og : Oper} (ho : ops[i]? = some ⟨dst, op, ty, pos, after, some (g, want)⟩) (hog : ops[g]? = some og) (hgd : og.dst = some d) (ht : σ d = .bool t) (hon : t = want → OpT P f R B n K ops l (opr dst op ty) (upd σ d (.bool want)) Γ Ms) (hoff : t = !want → RgT P f R B n K ops l (A1u (upd σ d (.bool !want)) dst undef) Γ Ms) (hd : A0t n dst = true := by rfl) : RgT P f R B n K ops (i :: l) σ Γ Ms := G2w ho hog hgd ht hd hon hoff
theorem n0 (ho : ops[i]? = some ⟨dst, op, ty, pos, after, none⟩) (h : NvT tn pn P f R B n K ops fin i l dst op ty σ Γ Ms) (hn : Nat.beq pn i = false := by rfl) : NV tn pn P f R B n K ops fin (i :: l) σ Γ Ms := G3p ho h hn
theorem nT {g d : Nat} {want : Bool} {og : Oper} (ho : ops[i]? = some ⟨dst, op, ty, pos, after, some (g, want)⟩) (hog : ops[g]? = some og) (hgd : og.dst = some d) (h : NvT tn pn P f R B n K ops fin i l dst op ty σ Γ Ms) (ht : σ d = .bool want := by rfl) (hn : Nat.beq pn i = false := by rfl) : NV tn pn P f R B n K ops fin (i :: l) σ Γ Ms := F9k ho hog hgd ht h hn
theorem nF {g d : Nat} {want t : Bool} {og : Oper} (ho : ops[i]? = some ⟨dst, op, ty, pos, after, some (g, want)⟩) (hog : ops[g]? = some og) (hgd : og.dst = some d) (h : NV tn pn P f R B n K ops fin l (A1u σ dst undef) Γ Ms) (ht : σ d = .bool t := by conv => lhs; whnf) (hne : (t == want) = false := by rfl) (hd : A0t n dst = true := by rfl) (hn : Nat.beq pn i = false := by rfl) : NV tn pn P f R B n K ops fin (i :: l) σ Γ Ms := F9l ho hog hgd ht hne hd h hn
theorem nI {g d : Nat} {want t : Bool} {og : Oper} (ho : ops[i]? = some ⟨dst, op, ty, pos, after, some (g, want)⟩) (hog : ops[g]? = some og) (hgd : og.dst = some d) (ht : σ d = .bool t) (hon : t = want → NvT tn pn P f R B n K ops fin i l dst op ty (upd σ d (.bool want)) Γ Ms) (hoff : t = !want → NV tn pn P f R B n K ops fin l (A1u (upd σ d (.bool !want)) dst undef) Γ Ms) (hd : A0t n dst = true := by rfl) (hn : Nat.beq pn i = false := by rfl) : NV tn pn P f R B n K ops fin (i :: l) σ Γ Ms := G3o ho hog hgd ht hd hon hoff hn
end
end Go.Hy
namespace Go.Hy
theorem A9f {a b c d e f g m : Res} {L : List Res} : (a :: b :: c :: d :: e :: f :: g :: m :: L).Perm (m :: a :: b :: c :: d :: e :: f :: g :: L) := (A3e.cons a).trans A0y
theorem B2y {a b c d e f g h m : Res} {L : List Res} : (a :: b :: c :: d :: e :: f :: g :: h :: m :: L).Perm (m :: a :: b :: c :: d :: e :: f :: g :: h :: L) := (A9f.cons a).trans A0y
theorem B8q {a b c d e f g h i m : Res} {L : List Res} : (a :: b :: c :: d :: e :: f :: g :: h :: i :: m :: L).Perm (m :: a :: b :: c :: d :: e :: f :: g :: h :: i :: L) := (B2y.cons a).trans A0y
theorem A7c {a b c d e f g h i j m : Res} {L : List Res} : (a :: b :: c :: d :: e :: f :: g :: h :: i :: j :: m :: L).Perm (m :: a :: b :: c :: d :: e :: f :: g :: h :: i :: j :: L) := (B8q.cons a).trans A0y
theorem A7b {a b c d e f g h i j k m : Res} {L : List Res} : (a :: b :: c :: d :: e :: f :: g :: h :: i :: j :: k :: m :: L).Perm (m :: a :: b :: c :: d :: e :: f :: g :: h :: i :: j :: k :: L) := (A7c.cons a).trans A0y
def B0r (x : Int) : List Value := [.int .i64 x]
abbrev A3q (l : List Int) : List Value := l.flatMap B0r
theorem B4i (x : Int) : (B0r x).length = 1 := rfl
def G0c (ok : Nat → Prop) (l : List Int) (a : SH) (w : World) : Prop := rowAt ok 1 8 l.length a (fun i => B0r (l.getD i 0)) w ∧ ∀ x, x ∈ l → A2a x
def IL (l : List Int) (a : SH) : Fact := ⟨fun ok w => G0c ok l a w, fun _ _ _ hs h => ⟨h.1.mono hs, h.2⟩, fun _ _ _ h hs => ⟨h.1.loc hs, h.2⟩⟩
section
variable {B : A6z} {Γ : List Fact} {Ms : List Res} {w : World}
theorem St.B1n {e : TypeId} {a : SH} {n : Nat} {xs : List Value} {l : List Int} (hs : St B Γ (A1d 1 e a n xs :: Ms) w) {hBp : Prop} (hB : hBp) (hx : xs = A3q l) (hn : n = l.length) (hb : n * 8 ≤ reach) (hu : ∀ c, c ∈ l → A2a c) : St B (IL l a :: Γ) Ms w := by
 subst hx
 subst hn
 refine hs.B8k hB (fun ok hok hh => ⟨?_, hu⟩)
 exact B4f (F := B0r) B4i 0 (hh : World.ownsRow _ _ _ _ _ _ _) rfl hb hok
theorem St.B5j {e : TypeId} {a : SH} {n : Nat} {l : List Cl} {c : Cl} (hs : St B Γ (A1d 2 e a n (A0i l ++ A0r c) :: Ms) w) : St B Γ (A1d 2 e a n (A0i (l ++ [c])) :: Ms) w := by
 have h : A0i (l ++ [c]) = A0i l ++ A0r c := by simp [A0i]
 rw [h]; exact hs
theorem St.E2c {e : TypeId} {a : SH} {n : Nat} {l : List Int} {c : Int} (hs : St B Γ (A1d 1 e a n (A3q l ++ [.int .i64 c]) :: Ms) w) : St B Γ (A1d 1 e a n (A3q (l ++ [c])) :: Ms) w := by
 have h : A3q (l ++ [c]) = A3q l ++ [.int .i64 c] := by simp [A3q, B0r]
 rw [h]; exact hs
theorem St.C9i {e : TypeId} {a : SH} {n : Nat} {l : List TP} {t : T} {vr vk vs : SH} (hs : St B Γ (A1d 6 e a n (A2n l ++ tc t vr vk vs) :: Ms) w) : St B Γ (A1d 6 e a n (A2n (l ++ [(t, vr, vk, vs)])) :: Ms) w := by
 have h : A2n (l ++ [(t, vr, vk, vs)]) = A2n l ++ tc t vr vk vs := by simp [A2n, B0d]
 rw [h]; exact hs
theorem St.E2d {e : TypeId} {a : SH} {n : Nat} {l : List BP} {b : Br} {vf vk : SH} (hs : St B Γ (A1d 2 e a n (A6t l ++ bc b vf vk) :: Ms) w) : St B Γ (A1d 2 e a n (A6t (l ++ [(b, vf, vk)])) :: Ms) w := by
 have h : A6t (l ++ [(b, vf, vk)]) = A6t l ++ bc b vf vk := by simp [A6t, A8b]
 rw [h]; exact hs
theorem St.A6l {e : TypeId} {a : SH} {n : Nat} {l m : List Cl} (hs : St B Γ (A1d 2 e a n (A0i l ++ A0i m) :: Ms) w) : St B Γ (A1d 2 e a n (A0i (l ++ m)) :: Ms) w := by
 have h : A0i (l ++ m) = A0i l ++ A0i m := by simp [A0i]
 rw [h]; exact hs
theorem St.F8s {l : List Int} {a : SH} (hs : St B Γ Ms w) (hF : IL l a ∈ Γ) : l.length * 8 ≤ reach ∧ (0 < l.length → ∃ b o, a.1 = some ⟨b, o, Option.none⟩) ∧ ∀ c, c ∈ l → A2a c := by
 obtain ⟨h2, h4⟩ := hs.facts _ hF
 exact ⟨h2.2.1, fun hn => by obtain ⟨b, o, h3, _⟩ := h2.2.2 hn; exact ⟨b, o, h3⟩, h4⟩
end
section
variable {P : Program} {f : FuncId} {R : Ending → World → Prop} {B : A6z} {n : Fz} {todo : List Item} {σ : Nat → Value} {Γ : List Fact} {Ms : List Res}
theorem B4l {l : List Int} {a : SH} (k : l.length * 8 ≤ reach → (0 < l.length → ∃ b o, a.1 = some ⟨b, o, none⟩) → (∀ c, c ∈ l → A2a c) → GoT P f R B n todo σ Γ Ms) (hF : IL l a ∈ Γ := by repeat (first | exact List.mem_cons_self | apply List.mem_cons_of_mem)) : GoT P f R B n todo σ Γ Ms :=
 A1n (p := l.length * 8 ≤ reach ∧ (0 < l.length → ∃ b o, a.1 = some ⟨b, o, none⟩) ∧ ∀ c, c ∈ l → A2a c) (fun w hs => hs.F8s hF) (fun h => k h.1 h.2.1 h.2.2)
theorem E5w {K : List Item} {it : Item} (p : Prop) (live : List (Nat × Value)) (h1 : (p → ∀ σ', B7z σ' live → GoT P f R B n K σ' Γ Ms) → GoT P f R B n (it :: K) σ Γ Ms) (h2 : p → ∀ base, GoT P f R B n K (stL base live) Γ Ms) : GoT P f R B n (it :: K) σ Γ Ms :=
 h1 (fun hp σ' hl => go_slots live hl (h2 hp))
theorem A0s {K : List Item} {c : Code} {X : Type} (Inv : X → Prop) (live : X → List (Nat × Value)) (E : X → List Fact → List Fact) (Mf : X → List Res) (μ : X → Nat) (x0 : X) (h0 : Inv x0)
  (hl : B7z σ (live x0)) (hΓ : ∀ w, St B Γ Ms w → St B (E x0 Γ) (Mf x0) w)
  (round : ∀ x base, Inv x → (∀ x' σ', Inv x' → μ x' < μ x → B7z σ' (live x') → GoT P f R B n (.inLoop c :: K) σ' (E x' Γ) (Mf x')) →
   GoT P f R B n (.code c :: .inLoop c :: K) (stL base (live x)) (E x Γ) (Mf x)) :
  GoT P f R B n (.code (.loop c) :: K) σ Γ Ms := A4g Inv live (fun x => E x Γ) Mf μ x0 h0 hl hΓ round
end
theorem NV.conv {tn : Bool} {pn : Nat} {P : Program} {f : FuncId} {R : Ending → World → Prop} {B : A6z} {n : Fz} {K : List Item} {ops : Array Oper} {l fin : List Nat} {σ : Nat → Value} {Γ : List Fact} {Ms' : List Res} (h : NV tn pn P f R B n K ops fin l σ Γ Ms') :
  ∀ {Ms : List Res}, (∀ Γ M w, St B Γ (M ++ Ms) w → St B Γ (M ++ Ms') w) → NV tn pn P f R B n K ops fin l σ Γ Ms := by
 induction h with
 | done h => exact fun hc => .done (fun a w hr hs => h a w hr (hc _ [] w hs))
 | no h => exact fun hc => .no (fun ⟨w, hw⟩ => h ⟨w, hc _ [] w hw⟩)
 | pure ho hw hd h k ih => exact fun hc => .pure ho hw hd h (ih hc)
 | load ht ho hm hw hd h k ih => exact fun hc => .load ht ho hm hw hd (fun w hs => h w (hc _ [] w hs)) (ih hc)
 | off ho hw hd k ih => exact fun hc => .off ho hw hd (ih hc)
 | alloc ho hg hw hd h k ih => exact fun hc => .alloc ho hg hw hd h (fun b => ih b (fun Γ M w hs => by
   have := hc Γ (M ++ [A1o b _ _]) w (by simpa using hs)
   simpa using this))
 | allocF hz ho hg hgm hw hd h hF k ih => exact fun hc => .allocF hz ho hg hgm hw hd h hF (fun b => ih b hc)
 | call ht ho hg hm hw hd he hsp hpre k ih => exact fun hc => .call ht ho hg hm hw hd he hsp hpre (fun x => ih x (fun Γ M w hs => by
   have := hc Γ (M ++ _) w (by simpa using hs)
   simpa using this))
 | loadF ho hm hw hd h k ih => exact fun hc => .loadF ho hm hw hd h (ih hc)
 | pan ht ho hq hg hm hw he hsp hpre hR => exact fun hc => .pan ht ho hq hg hm hw he hsp hpre hR
 | @A9k i l o X val F r r' σ Γ Ms0 Ms2 ht ho hb hw hd hp h k hz ih =>
  intro Ms hc
  refine NV.A9k (F := F) (r := Ms) (r' := fun x => r' x ++ Ms2) (Ms2 := []) ht ho hb hw hd (by rw [List.append_nil]) (fun M w hs => ?_) (fun x => by rw [List.append_nil]; exact k x) hz
  have h0 : St B Γ (M ++ Ms0) w := hc _ M w (hs.perm List.perm_append_comm)
  have h1 : St B Γ (r ++ (Ms2 ++ M)) w := by
   rw [← List.append_assoc]
   exact h0.perm (List.perm_append_comm.trans (hp.append_right M))
  obtain ⟨x, w', h2, h3⟩ := h (Ms2 ++ M) w h1
  exact ⟨x, w', h2, by rw [List.append_assoc]; exact h3⟩
 | @sto i l o r r' σ Γ Ms0 Ms2 ho hb hw hd hp h k ih =>
  intro Ms hc
  refine NV.sto (r := Ms) (r' := r' ++ Ms2) (Ms2 := []) ho hb hw hd (by rw [List.append_nil]) (fun M w hs => ?_) (by rw [List.append_nil]; exact k)
  have h0 : St B Γ (M ++ Ms0) w := hc _ M w (hs.perm List.perm_append_comm)
  have h1 : St B Γ (r ++ (Ms2 ++ M)) w := by
   rw [← List.append_assoc]
   exact h0.perm (List.perm_append_comm.trans (hp.append_right M))
  obtain ⟨w', h2, h3⟩ := h (Ms2 ++ M) w h1
  exact ⟨w', h2, by rw [List.append_assoc]; exact h3⟩
theorem B8v {tn : Bool} {pn : Nat} {P : Program} {f : FuncId} {R : Ending → World → Prop} {B : A6z} {n : Fz} {K : List Item} {ops : Array Oper} {l fin : List Nat} {σ : Nat → Value} {Γ : List Fact} {Ms : List Res} (A A' : List Res) (hc : ∀ Γ L w, St B Γ (A ++ L) w → St B Γ (A' ++ L) w) (h : NV tn pn P f R B n K ops fin l σ Γ (A' ++ Ms)) : NV tn pn P f R B n K ops fin l σ Γ (A ++ Ms) :=
 h.conv (fun Γ M w hs => by
  have h1 := hc Γ (Ms ++ M) w (by simpa using hs.perm List.perm_append_comm)
  have h2 : St B Γ ((A' ++ Ms) ++ M) w := by simpa using h1
  exact h2.perm List.perm_append_comm)
section
variable {P : Program} [Tab P] {B : A6z} {σ : Nat → Value} {Γ : List Fact} {Ms : List Res} {ty : TypeId} {x y : Operand} {k : IntKind} {a : Int} {v : Value}
theorem F9u {t : TypeId} {d : TypeDesc} {bk o i : Nat} {a : SH} {l : List Int} (hx : ev σ x = .pointer (some ⟨bk, o + i * 1, none⟩)) (hF : IL l a ∈ Γ) (ha : a.1 = some ⟨bk, o, none⟩) (hu : Tab.und P t = some d) (hd : (match d with | .struct _ | .array _ _ => true | _ => false) = false) (hlt : i < l.length) :
  B3q P B σ Γ Ms (.load t x) ty (.int .i64 (l.getD i 0)) := fun w hs => by
 have h3 := (A9s (hs.facts _ hF).1 ha hlt).2 0 (.int .i64 (l.getD i 0)) rfl
 rw [Nat.add_zero] at h3
 have h4 := A4z (P := P) hu hd h3
 generalize hv : l.getD i 0 = u at h4 ⊢
 simp only [opr, execOp, hx, Instr.loadAt, Instr.sureAddr]
 rw [Nat.mul_one] at h4 ⊢
 simp [h4]
theorem E3r {s d : TypeId} {a : Nat} (hs : Tab.und P s = some (.int .u32)) (hd : Tab.und P d = some (.int .i64)) (hx : ev σ x = .int .u32 (a : Int)) (ha : a < 4294967296) : A3f P σ (.convert s d x) ty (.int .i64 (a : Int)) := by
 have e : IntKind.i64.wrap (a : Int) = (a : Int) := by rw [IntKind.wrap_i64]; omega
 have := A9g (P := P) (ty := ty) hs hd hx
 rwa [e] at this
theorem E3t {s d : TypeId} {a : Nat} (hs : Tab.und P s = some (.int .i64)) (hd : Tab.und P d = some (.int .u32)) (hx : ev σ x = .int .i64 (a : Int)) (ha : a < 4294967296) : A3f P σ (.convert s d x) ty (.int .u32 (a : Int)) := by
 have e : IntKind.u32.wrap (a : Int) = (a : Int) := by
  have : IntKind.u32.wrap (a : Int) = (a : Int) % 4294967296 := by simp [IntKind.wrap, IntKind.bits, IntKind.signed]
  rw [this]; omega
 have := A9g (P := P) (ty := ty) hs hd hx
 rwa [e] at this
theorem E3u {s d : TypeId} {a : Int} {m : Nat} (hs : Tab.und P s = some (.int .i64)) (hd : Tab.und P d = some (.int .u64)) (hx : ev σ x = .int .i64 a) (ha : a = (m : Int)) (hm : m < 18446744073709551616) : A3f P σ (.convert s d x) ty (.int .u64 (m : Int)) := by
 have e : IntKind.u64.wrap a = (m : Int) := by
  have : IntKind.u64.wrap a = a % 18446744073709551616 := by simp [IntKind.wrap, IntKind.bits, IntKind.signed]
  rw [this]; omega
 have := A9g (P := P) (ty := ty) hs hd hx
 rwa [e] at this
end
end Go.Hy
namespace Go.Hy
def C3e (a : SH) (sz k : Nat) : SH := (if a.2 = k then a.1 else a.1.map (·.add (k * sz)), a.2 - k)
section
variable {P : Program} [Tab P] {B : A6z} {σ : Nat → Value} {Γ : List Fact} {Ms : List Res} {ty : TypeId} {x y : Operand}
theorem D9l {t e : TypeId} {s bt m c k : Nat} {zv : Value} {A : Option Addr} (hu : Tab.und P t = some (.slice e)) (hi : Tab.inf P e = some (s, bt, zv)) (hx : ev σ x = .slice A m c) (hy : ev σ y = .int .i64 (k : Int)) (hk : k ≤ c) : A3f P σ (.slice t x none (some y) none) ty (.slice A k c) := fun w => by
 have h0 : ∀ a : Option Addr, (a.map fun b : Addr => b.add 0) = a := fun a => by cases a <;> simp [Addr.add_zero']
 simp [opr, execOp, hx, hy, Instr.sliceAt, Instr.slice, Instr.sliceBounds, Instr.sliceBound, asIntOf, A5f hu, hk, A5u hi, h0]
theorem D9k {t e : TypeId} {s bt m k : Nat} {zv : Value} {a : SH} (hu : Tab.und P t = some (.slice e)) (hi : Tab.inf P e = some (s, bt, zv)) (hx : ev σ x = sl a m) (hy : ev σ y = .int .i64 (k : Int)) (hk : k ≤ m) : A3f P σ (.slice t x (some y) none none) ty (sl (C3e a s k) (m - k)) := fun w => by
 have hx' : ev σ x = .slice a.1 m a.2 := hx
 simp [opr, execOp, hx', hy, Instr.sliceAt, Instr.slice, Instr.sliceBounds, Instr.sliceBound, asIntOf, A5f hu, hk, A5u hi, sl, C3e]
end
theorem D9c {ok : Nat → Prop} {sz bt n k : Nat} {a : SH} {E : Nat → List Value} {w : World} (h : rowAt ok sz bt n a E w) (hk : k ≤ n) : rowAt ok sz bt k a E w :=
 ⟨Nat.le_trans hk h.1, Nat.le_trans (Nat.mul_le_mul_right bt hk) h.2.1, fun h0 => by
  obtain ⟨b, o, h1, h2, h3⟩ := h.2.2 oo_
  exact ⟨b, o, h1, h2, fun i hi => h3 i oo_⟩⟩
theorem D9d {ok : Nat → Prop} {sz bt n k : Nat} {a : SH} {E : Nat → List Value} {w : World} (h : rowAt ok sz bt n a E w) (hk : k ≤ n) : rowAt ok sz bt (n - k) (C3e a sz k) (fun i => E (i + k)) w := by
 refine ⟨Nat.sub_le_sub_right h.1 k, Nat.le_trans (Nat.mul_le_mul_right bt (Nat.sub_le n k)) h.2.1, fun h0 => ?_⟩
 obtain ⟨b, o, h1, h2, h3⟩ := h.2.2 oo_
 have hne : a.2 ≠ k := by have := h.1; omega
 refine ⟨b, o + k * sz, by simp [C3e, hne, h1, Addr.add_lit], h2, fun i hi j v hv => ?_⟩
 have := h3 (i + k) oo_ j v hv
 rwa [show o + k * sz + i * sz + j = o + (i + k) * sz + j by rw [Nat.add_mul]; omega]
theorem C1v {ok : Nat → Prop} {sz bt n : Nat} {a : SH} {E E' : Nat → List Value} {w : World} (h : rowAt ok sz bt n a E w) (he : ∀ i, i < n → E i = E' i) : rowAt ok sz bt n a E' w :=
 ⟨h.1, h.2.1, fun h0 => by
  obtain ⟨b, o, h1, h2, h3⟩ := h.2.2 h0
  exact ⟨b, o, h1, h2, fun i hi => by rw [← he i hi]; exact h3 i hi⟩⟩
theorem getD_take' {α : Type} {d : α} {l : List α} {k i : Nat} (h : i < k) : (l.take k).getD i d = l.getD i d := by
 simp [List.getD_eq_getElem?_getD, h]
theorem getD_drop' {α : Type} {d : α} {l : List α} {k i : Nat} : (l.drop k).getD i d = l.getD (i + k) d := by
 simp [List.getD_eq_getElem?_getD, Nat.add_comm]
section
variable {B : A6z} {Γ : List Fact} {Ms : List Res} {w : World}
theorem St.F7o {l : List Cl} {a : SH} (k : Nat) (hs : St B Γ Ms w) (hF : CL l a ∈ Γ) (hk : k ≤ l.length) : St B (CL (l.take k) a :: Γ) Ms w := by
 obtain ⟨h2, h4⟩ := hs.facts _ hF
 refine hs.add ⟨?_, fun c hc => h4 c (List.mem_of_mem_take hc)⟩
 have e : (l.take k).length = k := by simp; omega
 rw [e]
 exact C1v (D9c h2 hk) (fun i hi => by rw [getD_take' hi])
theorem St.G1p {l : List Cl} {a : SH} (k : Nat) (hs : St B Γ Ms w) (hF : CL l a ∈ Γ) (hk : k ≤ l.length) : St B (CL (l.drop k) (C3e a 2 k) :: Γ) Ms w := by
 obtain ⟨h2, h4⟩ := hs.facts _ hF
 refine hs.add ⟨?_, fun c hc => h4 c (List.mem_of_mem_drop hc)⟩
 rw [List.length_drop]
 exact C1v (D9d h2 hk) (fun i hi => by rw [getD_drop'])
theorem St.G5p {l : List Cl} {a : SH} (hs : St B Γ Ms w) (hF : CL l a ∈ Γ) : l.length ≤ a.2 := (hs.facts _ hF).1.1
end
end Go.Hy
namespace Go.Hy
section
variable {P : Program} [Tab P] {σ : Nat → Value} {ty : TypeId} {x y : Operand}
theorem E1k (n : Int) : IntKind.u64.wrap n = n % 18446744073709551616 := by simp [IntKind.wrap, IntKind.bits, IntKind.signed]
theorem F4x {t t' : TypeId} {k2 : IntKind} {a m : Nat} (hx : ev σ x = .int .u64 (a : Int)) (hy : ev σ y = .int k2 (m : Int)) (hm : m ≤ 64) (hb : a * 2 ^ m < 18446744073709551616) : A3f P σ (.binOp .shl t x y t') ty (.int .u64 ((a * 2 ^ m : Nat) : Int)) :=
 A4h hx hy (fun w => A1w w) (fun w => by
  have e : IntKind.u64.wrap ((a : Int) * 2 ^ min (m : Int).toNat 64) = ((a * 2 ^ m : Nat) : Int) := by
   rw [E1k, Int.toNat_natCast, Nat.min_eq_left hm]
   have : ((a : Int) * 2 ^ m) = ((a * 2 ^ m : Nat) : Int) := by rw [Int.natCast_mul, Int.natCast_pow]; rfl
   rw [this]; omega
  have h0 : ¬ ((m : Int) < 0) := by omega
  simp only [binOp, Op.shift, if_neg h0]
  show Result.ok (Value.int .u64 (IntKind.u64.wrap ((a : Int) * 2 ^ min (m : Int).toNat 64))) w = _
  rw [e])
theorem F4v {t t' : TypeId} {a b : Nat} (hx : ev σ x = .int .u64 (a : Int)) (hy : ev σ y = .int .u64 (b : Int)) (h : b ≤ a) (ha : a < 18446744073709551616) : A3f P σ (.binOp .sub t x y t') ty (.int .u64 ((a - b : Nat) : Int)) :=
 A4h hx hy (fun w => A1w w) (fun w => by
  have e : IntKind.u64.wrap ((a : Int) - (b : Int)) = ((a - b : Nat) : Int) := by rw [E1k]; omega
  simp only [binOp, Op.intArith, ne_eq, not_true, if_false]
  show Result.ok (Value.int .u64 (IntKind.u64.wrap ((a : Int) - (b : Int)))) w = _
  rw [e])
theorem E3w {s d : TypeId} {a : Nat} (hs : Tab.und P s = some (.int .u64)) (hd : Tab.und P d = some (.int .u32)) (hx : ev σ x = .int .u64 (a : Int)) (ha : a < 4294967296) : A3f P σ (.convert s d x) ty (.int .u32 (a : Int)) := by
 have e : IntKind.u32.wrap (a : Int) = (a : Int) := by rw [F3r]; omega
 have := A9g (P := P) (ty := ty) hs hd hx
 rwa [e] at this
end
end Go.Hy
namespace Go.Hy
section
variable {P : Program} [Tab P] {σ : Nat → Value} {ty : TypeId} {x y : Operand}
end
end Go.Hy
namespace Go.Hy
open Go Go.ChangeShapes Go.WideShapes Go.RowKit
variable {P : Program} {H : Type} {enc : TypeId × Value → H} {W : World} {base : Nat} {v : Value} {d : DataW H} {ps : List MemPlace}
theorem B2q {t : TypeId} {ts : List TypeId} {ds : List (DataW H)} (h : ∀ x, x ∈ DataW.weightsEach P (t :: ts) (d :: ds) → x ≤ reach) : B6j P t d ∧ ∀ x, x ∈ DataW.weightsEach P ts ds → x ≤ reach :=
 ⟨fun x hx => h x (by simp only [DataW.weightsEach, List.mem_append]; exact .inl hx), fun x hx => h x (by simp only [DataW.weightsEach, List.mem_append]; exact .inr hx)⟩
theorem B8d {t : TypeId} {ts : List TypeId} {vs : List Value} {ds : List (DataW H)} (h : DataW.TrodAll enc P W 0 (fun _ => true) true (t :: ts) vs ds ps) :
  ∃ v vs' d ds' p q, vs = v :: vs' ∧ ds = d :: ds' ∧ DataW.Trod enc P W 0 (fun _ => true) true t v d p ∧ DataW.TrodAll enc P W 0 (fun _ => true) true ts vs' ds' q := by
 obtain ⟨v, vs1, d, ds1, a, b, h1, h2, h3, h4, h5⟩ := trodAll_cons h
 exact ⟨v, vs1, d, ds1, a, b, h1, h2, h4, h5⟩
theorem E1t {vs : List Value} {ds : List (DataW H)} (h : DataW.TrodAll enc P W 0 (fun _ => true) true [] vs ds ps) : vs = [] := by
 obtain ⟨h1, _, _⟩ := trodAll_nil h
 exact h1
theorem G5t {t : TypeId} (ht : P.underlying t = some (.int .i64)) (hval : Value.okWide P W .any base t v) (h : DataW.Trod enc P W 0 (fun _ => true) true t v d ps) : ∃ n : Int, v = .int .i64 n ∧ A2a n := by
 obtain ⟨n, rfl, _, _, hw⟩ := open_int ht hval h
 simp only [Lit.wf, Bool.and_eq_true, decide_eq_true_eq] at hw
 exact ⟨n, rfl, hw.1, hw.2⟩
variable [TyF P]
theorem G5s {t : TypeId} (ht : t = TyF.tT P) (hval : Value.okWide P W .any base t v) (h : DataW.Trod enc P W 0 (fun _ => true) true t v d ps) (hl : B6j P t d) : ∃ (u : T) (vr vk vs : SH), v = .agg (tc u vr vk vs).toArray ∧ A7e (okw W) u vr vk vs W := by
 subst ht
 obtain ⟨cs, rfl, _⟩ := okWide_struct TyF.uT hval
 obtain ⟨fuel, hf⟩ := h
 obtain ⟨⟨u, vr, vk, vs⟩, h1, h2⟩ := (D0u fuel).1 _ _ _ hf hl
 exact ⟨u, vr, vk, vs, by
  have h3 : (Value.agg cs).cells.toList = tc u vr vk vs := h1
  rw [← h3]; simp [Value.cells], h2⟩
theorem G1x {t : TypeId} (ht : t = TyF.lC P) (hval : Value.okWide P W .any base t v) (h : DataW.Trod enc P W 0 (fun _ => true) true t v d ps) (hl : B6j P t d) : ∃ (l : List Cl) (a : SH), v = sl a l.length ∧ B3v (okw W) l a W := by
 subst ht
 obtain ⟨x, y, z, rfl⟩ := okWide_slice TyF.ulC hval
 obtain ⟨fuel, hf⟩ := h
 obtain ⟨l, a, h1, h2⟩ := D4g hf hl
 exact ⟨l, a, by simpa [Value.cells] using h1, h2⟩
end Go.Hy
namespace Go.Hy
def A4w (L : List Res) : Res := ⟨A2s L, fun w => (∀ m, m ∈ L → ∀ w', (∀ b, m.dom b → w'.heap[b]? = w.heap[b]?) → m.holds w') ∧ (L.Pairwise fun m m' => ∀ b, m.dom b → m'.dom b → False)⟩
section
variable {B : A6z} {Γ : List Fact} {Ms L L' : List Res} {w : World}
theorem St.pack (hs : St B Γ (L ++ Ms) w) : St B Γ (A4w L :: Ms) w := by
 have hd : ∀ b, A2s (A4w L :: Ms) b ↔ A2s (L ++ Ms) b := fun b => by rw [A6j, A3y]; exact Iff.rfl
 refine ⟨hs.chg, fun F hF => F.mono _ _ _ (fun b hb => ⟨hb.1, hb.2.1, fun hc => hb.2.2 ((hd b).mp hc)⟩) (hs.facts F hF), ?_, ?_, ?_⟩
 ·intro m hm w' hw
  rcases List.mem_cons.mp hm with e | hm
  ·subst e
   exact ⟨fun m hm w2 hw2 => hs.res m (List.mem_append_left _ hm) w2 (fun b hb => (hw2 b hb).trans (hw b ⟨m, hm, hb⟩)), (List.pairwise_append.mp hs.disj).1⟩
  ·exact hs.res m (List.mem_append_right _ hm) w' hw
 ·intro m hm b hb
  rcases List.mem_cons.mp hm with e | hm
  ·subst e
   obtain ⟨m', hm', hb'⟩ := hb
   exact hs.lt m' (List.mem_append_left _ hm') b hb'
  ·exact hs.lt m (List.mem_append_right _ hm) b hb
 ·refine List.pairwise_cons.mpr ⟨fun m hm b hb hb2 => ?_, (List.pairwise_append.mp hs.disj).2.1⟩
  obtain ⟨m', hm', hb'⟩ := hb
  exact (List.pairwise_append.mp hs.disj).2.2 m' hm' m hm b hb' hb2
theorem St.unpack (hs : St B Γ (A4w L :: Ms) w) : St B Γ (L ++ Ms) w := by
 have hd : ∀ b, A2s (A4w L :: Ms) b ↔ A2s (L ++ Ms) b := fun b => by rw [A6j, A3y]; exact Iff.rfl
 have hb0 := hs.res (A4w L) List.mem_cons_self w (fun _ _ => rfl)
 refine ⟨hs.chg, fun F hF => F.mono _ _ _ (fun b hb => ⟨hb.1, hb.2.1, fun hc => hb.2.2 ((hd b).mpr hc)⟩) (hs.facts F hF), ?_, ?_, ?_⟩
 ·intro m hm w' hw
  rcases List.mem_append.mp hm with hm | hm
  ·exact hb0.1 m hm w' hw
  ·exact hs.res m (List.mem_cons_of_mem _ hm) w' hw
 ·intro m hm b hb
  rcases List.mem_append.mp hm with hm | hm
  ·exact hs.lt (A4w L) List.mem_cons_self b ⟨m, hm, hb⟩
  ·exact hs.lt m (List.mem_cons_of_mem _ hm) b hb
 ·exact List.pairwise_append.mpr ⟨hb0.2, (List.pairwise_cons.mp hs.disj).2, fun m hm m' hm' b hb hb' => (List.pairwise_cons.mp hs.disj).1 m' hm' b ⟨m, hm, hb⟩ hb'⟩
theorem St.B5x (hs : St B Γ Ms w) : St B Γ (A4w [] :: Ms) w := St.pack (L := []) hs
theorem St.F6n (hs : St B Γ (A4w L :: A4w L' :: Ms) w) : St B Γ (A4w (L' ++ L) :: Ms) w := by
 have h1 := (hs.unpack.perm List.perm_middle).unpack
 exact St.pack (by rw [List.append_assoc]; exact h1)
end
mutual
inductive HT where
 | mk (kind n : Int) (name : ByteArray) (r : List Cl) (vr : SH) (kids : List HT) (vk : SH) (sys : List HB) (vs : SH)
inductive HB where
 | mk (A1s : List Cl) (vf : SH) (kids : List HT) (vk : SH)
end
mutual
def HT.er : HT → T
 | .mk k n nm r _ ks _ ss _ => .mk k n nm r (HT.erL ks) (HT.erB ss)
def HT.erL : List HT → List T
 | [] => []
 | h :: hs => h.er :: HT.erL hs
def HT.erB : List HB → List Br
 | [] => []
 | .mk f _ ks _ :: bs => .mk f (HT.erL ks) :: HT.erB bs
end
def HB.er : HB → Br
 | .mk f _ ks _ => .mk f (HT.erL ks)
theorem HT.A9b : ∀ l : List HT, HT.erL l = l.map HT.er
 | [] => by simp [HT.erL]
 | h :: hs => by simp [HT.erL, HT.A9b hs]
theorem HT.B7p : ∀ l : List HB, HT.erB l = l.map HB.er
 | [] => by simp [HT.erB]
 | .mk f v ks u :: bs => by simp [HT.erB, HB.er, HT.B7p bs]
namespace HT
def vr : HT → SH | .mk _ _ _ _ v _ _ _ _ => v
def vk : HT → SH | .mk _ _ _ _ _ _ v _ _ => v
def vs : HT → SH | .mk _ _ _ _ _ _ _ _ v => v
def kids : HT → List HT | .mk _ _ _ _ _ ks _ _ _ => ks
def sys : HT → List HB | .mk _ _ _ _ _ _ _ ss _ => ss
def tp (h : HT) : TP := (h.er, h.vr, h.vk, h.vs)
end HT
namespace HB
def A1s : HB → List Cl | .mk f _ _ _ => f
def vf : HB → SH | .mk _ v _ _ => v
def kids : HB → List HT | .mk _ _ ks _ => ks
def vk : HB → SH | .mk _ _ _ v => v
def bp (b : HB) : BP := (b.er, b.vf, b.vk)
end HB
structure Tys where
 c : TypeId
 t : TypeId
 b : TypeId
mutual
def A5i (y : Tys) : HT → List Res
 | .mk _ _ _ r v ks u ss x => A1d 2 y.c v r.length (A0i r) :: A1d 6 y.t u ks.length (A2n (ks.map HT.tp)) :: A1d 2 y.b x ss.length (A6t (ss.map HB.bp)) :: (A6c y ks ++ C3m y ss)
def A6c (y : Tys) : List HT → List Res
 | [] => []
 | h :: hs => A5i y h ++ A6c y hs
def C3m (y : Tys) : List HB → List Res
 | [] => []
 | .mk f v ks u :: bs => (A1d 2 y.c v f.length (A0i f) :: A1d 6 y.t u ks.length (A2n (ks.map HT.tp)) :: A6c y ks) ++ C3m y bs
end
def brR (y : Tys) : HB → List Res
 | .mk f v ks u => A1d 2 y.c v f.length (A0i f) :: A1d 6 y.t u ks.length (A2n (ks.map HT.tp)) :: A6c y ks
theorem D7m (y : Tys) : ∀ l, A6c y l = l.flatMap (A5i y)
 | [] => by simp [A6c]
 | h :: hs => by simp [A6c, D7m y hs]
theorem E6v (y : Tys) : ∀ l, C3m y l = l.flatMap (brR y)
 | [] => by simp [C3m]
 | .mk f v ks u :: bs => by simp [C3m, brR, E6v y bs]
mutual
def okT : T → Prop
 | .mk k n nm r ks ss => A2a k ∧ A2a n ∧ nm.size ≤ A9a ∧ ((∀ c, c ∈ r → u32 c) ∧ r.length * 8 ≤ reach) ∧ ks.length * 104 ≤ reach ∧ ss.length * 48 ≤ reach ∧ okL ks ∧ okB ss
def okL : List T → Prop
 | [] => True
 | t :: ts => okT t ∧ okL ts
def okB : List Br → Prop
 | [] => True
 | .mk f ks :: bs => ((∀ c, c ∈ f → u32 c) ∧ f.length * 8 ≤ reach) ∧ ks.length * 104 ≤ reach ∧ okL ks ∧ okB bs
end
mutual
theorem D0v {ok : Nat → Prop} {w : World} : ∀ {t : T} {vr vk vs : SH}, A7e ok t vr vk vs w → okT t
 | .mk k n nm r ks ss, vr, vk, vs, h => by
  simp only [A7e] at h
  simp only [okT]
  obtain ⟨h1, h2, h3, h4, ⟨VR, VK, VS, h6, h7⟩, ⟨VF, VK', h9, h10⟩⟩ := h
  exact ⟨h1, h2, h3, ⟨h4.2, h4.1.2.1⟩, h6.2.1, h9.2.1, E4l h7, F2r h10⟩
theorem E4l {ok : Nat → Prop} {w : World} : ∀ {ts : List T} {VR VK VS : Nat → SH}, A8y ok ts VR VK VS w → okL ts
 | [], _, _, _, _ => by simp only [okL]
 | t :: ts, _, _, _, h => by
  simp only [A8y] at h
  simp only [okL]
  exact ⟨D0v h.1, E4l h.2⟩
theorem F2r {ok : Nat → Prop} {w : World} : ∀ {bs : List Br} {VF VK : Nat → SH}, B0b ok bs VF VK w → okB bs
 | [], _, _, _ => by simp only [okB]
 | .mk f ks :: bs, _, _, h => by
  simp only [B0b, C4c] at h
  simp only [okB]
  obtain ⟨⟨h1, ⟨VR, VK, VS, h2, h3⟩⟩, h4⟩ := h
  exact ⟨⟨h1.2, h1.1.2.1⟩, h2.2.1, E4l h3, F2r h4⟩
end
theorem B4c {K S M : List Res} {a : Res} : (K ++ (S ++ a :: M)).Perm (a :: (K ++ (S ++ M))) := (List.perm_middle.append_left K).trans List.perm_middle
section
variable {B : A6z} {Γ : List Fact} {Ms : List Res} {w : World}
mutual
theorem St.B0e (y : Tys) {hBp : Prop} (hB : hBp) : ∀ (h : HT) {Γ : List Fact} {Ms : List Res}, okT h.er → St B Γ (A5i y h ++ Ms) w → St B (RT h.er h.vr h.vk h.vs :: Γ) Ms w
 | .mk k n nm r v ks u ss x, Γ, Ms, hok, hs => by
  simp only [HT.er, okT] at hok
  obtain ⟨o1, o2, o3, o4, o5, o6, o7, o8⟩ := hok
  simp only [A5i, List.cons_append, List.append_assoc] at hs
  have h1 := hs.A1f (l := r) hB rfl rfl o4.2 o4.1
  -- the rows of kids and branches wait behind the parts
  have h2 : St B (CL r v :: Γ) (A6c y ks ++ (C3m y ss ++ (A1d 6 y.t u ks.length (A2n (ks.map HT.tp)) :: A1d 2 y.b x ss.length (A6t (ss.map HB.bp)) :: Ms))) w := by
   exact h1.perm (((B4c.trans (B4c.cons _))).symm)
  have h3 := St.C6q y hB ks [] (by rw [HT.A9b] at o7; exact o7) (by simpa using h2.D2t)
  have h4 := St.D5x y hB ss [] (by rw [HT.B7p] at o8; exact o8) (h3.F1e)
  have h5 := h4.B1m (ps := ks.map HT.tp) (ts := ks.map HT.er) hB sp_ rfl (by simp [HT.tp, Function.comp_def]) sp_ (by rw [HT.A9b, List.length_map] at o5; exact o5)
  have h6 := h5.C0r (ps := ss.map HB.bp) (bs := ss.map HB.er) hB sp_ rfl (by simp [HB.bp, Function.comp_def]) sp_ (by rw [HT.B7p, List.length_map] at o6; exact o6)
  have h7 := h6.F5s (k := k) (n := n) (nm := nm) (r := r) (vr := v) (ks := ks.map HT.er) (vk := u) (ss := ss.map HB.er) (vs := x) o1 o2 o3 sp_ sp_ sp_
  simp only [HT.er, HT.A9b, HT.B7p, HT.vr, HT.vk, HT.vs]
  exact h7.less sx_
theorem St.C6q (y : Tys) {hBp : Prop} (hB : hBp) : ∀ (ks : List HT) (ps : List TP) {Γ : List Fact} {Ms : List Res}, okL (ks.map HT.er) → St B (AP ps :: Γ) (A6c y ks ++ Ms) w → St B (AP (ps ++ ks.map HT.tp) :: Γ) Ms w
 | [], ps, Γ, Ms, hok, hs => by simpa [A6c] using hs
 | h :: hs', ps, Γ, Ms, hok, hs => by
  simp only [List.map_cons, okL] at hok
  simp only [A6c, List.append_assoc] at hs
  have h1 := St.B0e y hB h hok.1 hs
  have h2 := h1.D2u (ps := ps) (t := h.er) (vr := h.vr) (vk := h.vk) (vs := h.vs) sp_ sp_
  have h3 := St.C6q y hB hs' (ps ++ [h.tp]) (Γ := Γ) hok.2 (h2.less (by simp +contextual [HT.tp]))
  simpa using h3
theorem St.D5x (y : Tys) {hBp : Prop} (hB : hBp) : ∀ (bs : List HB) (ps : List BP) {Γ : List Fact} {Ms : List Res}, okB (bs.map HB.er) → St B (BPs ps :: Γ) (C3m y bs ++ Ms) w → St B (BPs (ps ++ bs.map HB.bp) :: Γ) Ms w
 | [], ps, Γ, Ms, hok, hs => by simpa [C3m] using hs
 | .mk f v ks u :: bs, ps, Γ, Ms, hok, hs => by
  simp only [List.map_cons, HB.er, okB] at hok
  obtain ⟨o1, o2, o3, o4⟩ := hok
  simp only [C3m, List.cons_append, List.append_assoc] at hs
  have h1 := hs.A1f (l := f) hB rfl rfl o1.2 o1.1
  have h2 : St B (CL f v :: BPs ps :: Γ) (A6c y ks ++ (A1d 6 y.t u ks.length (A2n (ks.map HT.tp)) :: (C3m y bs ++ Ms))) w := h1.perm (by exact List.perm_middle.symm)
  have h3 := St.C6q y hB ks [] (by rw [HT.A9b] at o3; exact o3) (by simpa using h2.D2t)
  have h4 := h3.B1m (ps := ks.map HT.tp) (ts := ks.map HT.er) hB sp_ rfl (by simp [HT.tp, Function.comp_def]) sp_ (by rw [HT.A9b, List.length_map] at o2; exact o2)
  have h5 := h4.F1f (ps := ps) (f := f) (ks := ks.map HT.er) (vf := v) (vk := u) sp_ sp_ sp_
  have h6 := St.D5x y hB bs (ps ++ [(.mk f (ks.map HT.er), v, u)]) (Γ := Γ) o4 (h5.less sx_)
  simpa [HB.bp, HB.er, HB.vf, HB.vk, HT.A9b] using h6
end
end
end Go.Hy
namespace Go.Hy
section
variable {B : A6z} {Γ : List Fact} {Ms K S : List Res} {w : World} {a b c : Res}
theorem St.G3b (hs : St B Γ (a :: b :: c :: A4w K :: A4w S :: Ms) w) : St B Γ (A4w (a :: b :: c :: (K ++ S)) :: Ms) w := by
 have h1 : St B Γ (A4w K :: A4w S :: a :: b :: c :: Ms) w := hs.perm (A2x.trans (A2x.cons _))
 have h2 : St B Γ (A4w S :: (K ++ a :: b :: c :: Ms)) w := h1.unpack.perm List.perm_middle
 have h3 : St B Γ (K ++ (S ++ a :: b :: c :: Ms)) w := h2.unpack.perm (by rw [← List.append_assoc, ← List.append_assoc]; exact List.perm_append_comm.append_right _)
 exact St.pack (L := a :: b :: c :: (K ++ S)) (by
  simp only [List.cons_append, List.append_assoc]
  exact h3.perm (B4c.trans ((B4c.trans (B4c.cons _)).cons _)))
theorem St.G3c (hs : St B Γ (a :: b :: A4w K :: A4w S :: Ms) w) : St B Γ (A4w (S ++ (a :: b :: K)) :: Ms) w := by
 have h1 : St B Γ (A4w K :: A4w S :: a :: b :: Ms) w := hs.perm (A3o.trans (A3o.cons _))
 have h2 : St B Γ (A4w S :: (K ++ a :: b :: Ms)) w := h1.unpack.perm List.perm_middle
 have h3 : St B Γ (S ++ (K ++ a :: b :: Ms)) w := h2.unpack
 exact St.pack (L := S ++ (a :: b :: K)) (by
  have : (S ++ a :: b :: K) ++ Ms = S ++ (a :: b :: (K ++ Ms)) := by simp
  rw [this]
  exact h3.perm ((List.perm_middle.trans (List.perm_middle.cons _)).append_left S))
theorem St.F0b {y : Tys} {hs : List HT} {h : HT} (h0 : St B Γ (A4w (A5i y h) :: A4w (A6c y hs) :: Ms) w) : St B Γ (A4w (A6c y (hs ++ [h])) :: Ms) w := by
 have := h0.F6n
 rwa [show A6c y hs ++ A5i y h = A6c y (hs ++ [h]) by simp [D7m]] at this
theorem St.F6b {y : Tys} {bs : List HB} {f : List Cl} {v u : SH} {ks : List HT} {n m : Nat} {fl tl : List Value} (hn : n = f.length) (hm : m = ks.length) (hf : fl = A0i f) (ht : tl = A2n (ks.map HT.tp)) (h0 : St B Γ (A1d 2 y.c v n fl :: A1d 6 y.t u m tl :: A4w (A6c y ks) :: A4w (C3m y bs) :: Ms) w) : St B Γ (A4w (C3m y (bs ++ [.mk f v ks u])) :: Ms) w := by
 subst hn; subst hm; subst hf; subst ht
 have := h0.G3c
 rwa [show C3m y bs ++ (A1d 2 y.c v f.length (A0i f) :: A1d 6 y.t u ks.length (A2n (ks.map HT.tp)) :: A6c y ks) = C3m y (bs ++ [.mk f v ks u]) by simp [E6v, brR]] at this
theorem St.E9z {y : Tys} {k n : Int} {nm : ByteArray} {r : List Cl} {v u x : SH} {ks : List HT} {ss : List HB} {n1 n2 n3 : Nat} {l1 l2 l3 : List Value} (e1 : n1 = r.length) (e2 : n2 = ks.length) (e3 : n3 = ss.length) (f1 : l1 = A0i r) (f2 : l2 = A2n (ks.map HT.tp)) (f3 : l3 = A6t (ss.map HB.bp))
  (h0 : St B Γ (A1d 2 y.c v n1 l1 :: A1d 6 y.t u n2 l2 :: A1d 2 y.b x n3 l3 :: A4w (A6c y ks) :: A4w (C3m y ss) :: Ms) w) : St B Γ (A4w (A5i y (.mk k n nm r v ks u ss x)) :: Ms) w := by
 subst e1; subst e2; subst e3; subst f1; subst f2; subst f3
 simpa only [A5i] using h0.G3b
end
end Go.Hy
namespace Go.Hy
def setAt (cur : List Value) (o : Nat) (vs : List Value) : List Value := cur.take o ++ vs ++ cur.drop (o + vs.length)
theorem C9t {cur vs : List Value} {o : Nat} (h : o + vs.length ≤ cur.length) : (setAt cur o vs).length = cur.length := by
 simp [setAt]; omega
theorem C4j {cur rest : List Value} {v : Value} {o : Nat} (h : o + rest.length + 1 ≤ cur.length) : setAt (cur.set o v) (o + 1) rest = setAt cur o (v :: rest) := by
 unfold setAt
 have h1 : (cur.set o v).take (o + 1) = cur.take o ++ [v] := by
  rw [List.take_add_one, List.take_set_of_le (Nat.le_refl o)]
  simp [show o < cur.length by omega]
 rw [h1, List.drop_set_of_lt oo_]
 simp only [List.length_cons, List.append_assoc, List.singleton_append]
 rw [show o + 1 + rest.length = o + (rest.length + 1) by omega]
theorem B9p {P : Program} (g : Nat) (t : TypeId) (off : Nat) : ∀ (vs : List Value) (i : Nat) (cur : List Value) (w : World), w.heap[g]? = some (.cells cur.toArray t (0, 0)) → off + i + vs.length ≤ cur.length → (∀ v, v ∈ vs → v.oneCell' = true) →
  ∃ w', (storeCells ⟨g, off, none⟩ vs i).run P w = .ok () w' ∧ w'.heap[g]? = some (.cells (setAt cur (off + i) vs).toArray t (0, 0)) ∧ Chg (fun x => x = g) w w'
 | [], i, cur, w, hg, hl, _ => ⟨w, rfl, by simpa [setAt] using hg, Chg.refl _ _⟩
 | v :: rest, i, cur, w, hg, hl, h1 => by
  have hi : off + i < cur.length := by simp at hl; omega
  have hadd : (⟨g, off, none⟩ : Addr).add i = ⟨g, off + i, none⟩ := Addr.add_lit ..
  have hcell : w.cell? ⟨g, off + i, none⟩ = some cur[off + i] := by simp [World.cell?, hg, hi]
  have hfro : w.frozen? ⟨g, off + i, none⟩ = false := by simp [World.frozen?, hg]
  have hst : (store ((⟨g, off, none⟩ : Addr).add i) v).run P w = .ok () (w.setCell ⟨g, off + i, none⟩ v) := by
   rw [hadd, run_store P w _ v _ (h1 v sp_), hcell]
   simp [hfro]
  have hg2 : (w.setCell ⟨g, off + i, none⟩ v).heap[g]? = some (.cells (cur.set (off + i) v).toArray t (0, 0)) := by
   rw [C1s v hg]; simp
  obtain ⟨w', h2, h3, h4⟩ := B9p g t off rest (i + 1) (cur.set (off + i) v) _ hg2 (by simp at hl ⊢; omega) (fun u hu => h1 u (List.mem_cons_of_mem _ hu))
  refine ⟨w', ?_, ?_, (Chg.setCell w g (off + i) v).trans h4 (fun b hb => .inl hb)⟩
  ·simp only [storeCells]
   rw [A0q hst]; exact h2
  ·rw [h3, show off + (i + 1) = off + i + 1 by omega, C4j (by simp at hl; omega)]
theorem C2f {w : World} {e : TypeId} {sz n : Nat} {a : SH} {xs : List Value} (h : w.ownsRow 0 e sz (sl a n) n xs) (hn : 0 < n) : ∃ g cur, a.1 = some ⟨g, 0, none⟩ ∧ w.heap[g]? = some (.cells cur e (0, 0)) ∧ n ≤ a.2 ∧ a.2 ≤ maxLen ∧ cur.size = a.2 * sz ∧ cur.toList.take (n * sz) = xs ∧ xs.length = n * sz := by
 obtain ⟨ao, ac⟩ := a
 rcases h.2 with ⟨h1, h2⟩ | ⟨g, cap, cur, h1, h2, h3, h4, h5, h6, h7⟩
 ·omega
 ·have e1 : ao = some ⟨g, 0, none⟩ := by injection h1
  have e2 : ac = cap := by injection h1
  subst e1; subst e2
  exact ⟨g, cur, rfl, h3, h4, h5, h6, h7, h.1⟩
section
variable {B : A6z} {Γ : List Fact} {Ms Ms2 : List Res} {w : World}
theorem St.B6d {sz n : Nat} {e : TypeId} {a : SH} {xs : List Value} (hs : St B Γ Ms w) (hm : A1d sz e a n xs ∈ Ms) (hn : 0 < n) : ∃ g, a.1 = some ⟨g, 0, Option.none⟩ := by
 obtain ⟨g, cur, h1, _⟩ := C2f (hs.res _ hm w (fun _ _ => rfl)) hn
 exact ⟨g, h1⟩
theorem St.F4n {sz n g j : Nat} {e : TypeId} {a : SH} {xs : List Value} {v : Value} (hs : St B Γ Ms w) (hm : A1d sz e a n xs ∈ Ms) (ha : a.1 = some ⟨g, 0, Option.none⟩) (hj : xs[j]? = some v) : w.cell? ⟨g, j, Option.none⟩ = some v := by
 have hown : w.ownsRow 0 e sz (sl a n) n xs := hs.res _ hm w (fun _ _ => rfl)
 have hb : (sl a n).ownBlock = some g := by obtain ⟨ao, ac⟩ := a; simp only at ha; subst ha; rfl
 have := hown.cells hb j v hj
 rwa [Addr.add_lit, Nat.zero_add] at this
theorem D7s {α : Type} {F : α → List Value} {sz : Nat} (hF : ∀ x, (F x).length = sz) : ∀ (l : List α) (i : Nat) (x : α), i < l.length → (l.set i x).flatMap F = setAt (l.flatMap F) (i * sz) (F x)
 | [], i, x, h => by simp at h
 | a :: l, 0, x, _ => by
  have ha := hF a
  have hx := hF x
  simp [setAt, hx, List.drop_append, ha]
 | a :: l, i + 1, x, h => by
  have ha := hF a
  have hx := hF x
  simp only [List.set_cons_succ, List.flatMap_cons, D7s hF l i x (by simpa using h)]
  unfold setAt
  rw [Nat.add_mul, Nat.one_mul, hx]
  have t1 : (F a).take (i * sz + sz) = F a := List.take_of_length_le oo_
  have t2 : (F a).drop (i * sz + sz + sz) = [] := List.drop_of_length_le oo_
  rw [List.take_append, List.drop_append, ha, t1, t2, show i * sz + sz - sz = i * sz by omega, show i * sz + sz + sz - sz = i * sz + sz by omega]
  simp
theorem E2i {L : List Value} {j : Nat} {v : Value} (h : j < L.length) : setAt L j [v] = L.set j v := by
 rw [← C4j (rest := []) (by simp only [List.length_nil]; omega)]
 simp [setAt]
theorem D8v {cur vs : List Value} {o m : Nat} (h : o + vs.length ≤ m) (hm : m ≤ cur.length) : (setAt cur o vs).take m = setAt (cur.take m) o vs := by
 unfold setAt
 have a1 : (cur.take m).take o = cur.take o := by rw [List.take_take, Nat.min_eq_left oo_]
 have a2 : (cur.take m).drop (o + vs.length) = (cur.drop (o + vs.length)).take (m - (o + vs.length)) := List.drop_take ..
 have len : (cur.take o ++ vs).length = o + vs.length := by simp; omega
 have a3 : (cur.take o ++ vs).take m = cur.take o ++ vs := List.take_of_length_le oo_
 rw [a1, a2, List.take_append, len, a3]
theorem D1t {α : Type} {F : α → List Value} {sz : Nat} (hF : ∀ x, (F x).length = sz) (d u : α) (v : Value) (k : Nat) (hk : k < sz) : ∀ (l : List α) (i : Nat), i < l.length → F u = (F (l.getD i d)).set k v → (l.set i u).flatMap F = (l.flatMap F).set (i * sz + k) v
 | [], i, h, _ => by simp at h
 | a :: l, 0, _, hu => by
  have ha := hF a
  simp only [List.getD_cons_zero] at hu
  simp only [List.set_cons_zero, List.flatMap_cons, hu, Nat.zero_mul, Nat.zero_add]
  rw [List.set_append_left _ _ oo_]
 | a :: l, i + 1, h, hu => by
  have ha := hF a
  simp only [List.getD_cons_succ] at hu
  simp only [List.set_cons_succ, List.flatMap_cons, D1t hF d u v k hk l i (by simpa using h) hu]
  rw [Nat.add_mul, Nat.one_mul, List.set_append_right _ _ oo_, ha, show i * sz + sz + k - sz = i * sz + k by omega]
theorem St.D6d {sz n g o : Nat} {e : TypeId} {a : SH} {xs vs : List Value} {P : Program} (hs : St B Γ (A1d sz e a n xs :: Ms2) w) (ha : a.1 = some ⟨g, 0, Option.none⟩) (hn : 0 < n) (ho : o + vs.length ≤ n * sz) (h1 : ∀ v, v ∈ vs → v.oneCell' = true) :
  ∃ w', (storeCells ⟨g, o, Option.none⟩ vs).run P w = .ok () w' ∧ St B Γ (A1d sz e a n (setAt xs o vs) :: Ms2) w' := by
 obtain ⟨g', cur, e1, e2, e3, e4, e5, e6, e7⟩ := C2f (hs.res _ List.mem_cons_self w (fun _ _ => rfl)) hn
 rw [ha] at e1
 injection e1 with e1; injection e1 with e1
 subst e1
 have hcl : cur.toList.length = cur.size := by simp
 have hle : n * sz ≤ cur.size := by rw [e5]; exact Nat.mul_le_mul_right sz e3
 obtain ⟨w', h2, h3, h4⟩ := B9p (P := P) g e o vs 0 cur.toList w (by simpa using e2) (by rw [hcl]; omega) h1
 rw [Nat.add_zero] at h3
 refine ⟨w', h2, hs.A9k ?_ (fun w2 hw2 => ?_) (fun b hb => ?_)⟩
 ·refine h4.mono (fun b hb => ?_)
  subst hb
  show (sl a n).ownBlock = some b
  obtain ⟨ao, ac⟩ := a; simp only at ha; subst ha; rfl
 ·have hb : (sl a n).ownBlock = some g := by obtain ⟨ao, ac⟩ := a; simp only at ha; subst ha; rfl
  refine ⟨by rw [C9t oo_]; exact e7, .inr ⟨g, a.2, (setAt cur.toList o vs).toArray, ?_, Nat.zero_le _, (hw2 g hb).trans h3, e3, e4, ?_, ?_⟩⟩
  ·obtain ⟨ao, ac⟩ := a; simp only at ha; subst ha; rfl
  ·rw [List.size_toArray, C9t (by rw [hcl]; omega), hcl, e5]
  ·rw [← e6]
   exact D8v oo_ (by rw [hcl]; omega)
 ·have hb : (sl a n).ownBlock = some b := hb
  have hb2 : b = g := by
   obtain ⟨ao, ac⟩ := a; simp only at ha; subst ha
   have : some g = some b := hb
   injection this with this; exact this.symm
  subst hb2
  exact ⟨(Array.getElem?_eq_some_iff.mp h3).1, .inl hb⟩
end
section
variable {P : Program} [Tab P] {B : A6z} {Γ : List Fact} {Ms Ms2 : List Res} {σ : Nat → Value} {ty : TypeId} {x y : Operand} {v : Value}
theorem D7h {α : Type} {F : α → List Value} {sz : Nat} (hF : ∀ x, (F x).length = sz) (d0 : α) {t e : TypeId} {d : TypeDesc} {g i k n : Nat} {a : SH} {l : List α} (hx : ev σ x = .pointer (some ⟨g, 0 + i * sz + k, none⟩)) (hm : A1d sz e a n (l.flatMap F) ∈ Ms) (ha : a.1 = some ⟨g, 0, none⟩) (hu : Tab.und P t = some d) (hd : (match d with | .struct _ | .array _ _ => true | _ => false) = false) (hlt : i < l.length) (hk : (F (l.getD i d0))[k]? = some v) :
  B3q P B σ Γ Ms (.load t x) ty v := fun w hs => by
 have h3 := hs.F4n hm ha (C7x hF d0 l i k v hlt hk)
 rw [Nat.zero_add] at hx
 simp [opr, execOp, hx, Instr.loadAt, Instr.sureAddr, A4z hu hd h3]
theorem F9n {α : Type} {F : α → List Value} (hF : ∀ x, (F x).length = 1) (d0 : α) {t e : TypeId} {d : TypeDesc} {g i n : Nat} {a : SH} {l : List α} (hx : ev σ x = .pointer (some ⟨g, 0 + i * 1, none⟩)) (hm : A1d 1 e a n (l.flatMap F) ∈ Ms) (ha : a.1 = some ⟨g, 0, none⟩) (hu : Tab.und P t = some d) (hd : (match d with | .struct _ | .array _ _ => true | _ => false) = false) (hlt : i < l.length) (hk : (F (l.getD i d0))[0]? = some v) :
  B3q P B σ Γ Ms (.load t x) ty v := by
 have hx' : ev σ x = .pointer (some ⟨g, 0 + i * 1 + 0, none⟩) := hx
 exact D7h hF d0 hx' hm ha hu hd hlt hk
theorem F4c {α : Type} {F : α → List Value} {sz : Nat} (hF : ∀ x, (F x).length = sz) {t e : TypeId} {bt g i n : Nat} {a : SH} {zv : Value} {l : List α} (u : α) (hx : ev σ x = .pointer (some ⟨g, 0 + i * sz, none⟩)) (hm : Ms.Perm (A1d sz e a n (l.flatMap F) :: Ms2)) (ha : a.1 = some ⟨g, 0, none⟩) (hn : n = l.length) (hy : (ev σ y).cells = (F u).toArray) (hi : Tab.inf P t = some (sz, bt, zv)) (h1 : A9m (F u) = true) (hlt : i < l.length) :
  C3q P B σ Γ Ms (.store t x y) ty Γ (A1d sz e a n ((l.set i u).flatMap F) :: Ms2) := fun w hs => by
 have hs' := hs.perm hm
 have hmul : i * sz + sz ≤ n * sz := by
  have := Nat.mul_le_mul_right sz (show i + 1 ≤ n by omega)
  rwa [Nat.add_mul, Nat.one_mul] at this
 obtain ⟨w', hr, h2⟩ := hs'.D6d (P := P) (vs := F u) (o := i * sz) ha oo_ (by rw [hF]; exact hmul) (fun v hv => List.all_eq_true.mp h1 v hv)
 refine ⟨w', ?_, by rw [D7s hF l i u hlt]; exact h2⟩
 have hr2 : (storeVar t ⟨g, 0 + i * sz, none⟩ (ev σ y)).run P w = .ok () w' := by
  unfold storeVar
  rw [A0q (A5u hi w)]
  simp only [hy, List.size_toArray, hF, ne_eq, not_true, if_false, Nat.zero_add]
  exact hr
 rw [Nat.zero_add] at hr2 hx
 simp [opr, execOp, hx, Instr.storeAt, Instr.sureAddr, hr2]
theorem D5u {α : Type} {F : α → List Value} {sz : Nat} (hF : ∀ x, (F x).length = sz) (d : α) {t e : TypeId} {bt g i k n : Nat} {a : SH} {zv : Value} {l : List α} (u : α) (hx : ev σ x = .pointer (some ⟨g, 0 + i * sz + k, none⟩)) (hm : Ms.Perm (A1d sz e a n (l.flatMap F) :: Ms2)) (ha : a.1 = some ⟨g, 0, none⟩) (hn : n = l.length) (hy : ev σ y = v) (hi : Tab.inf P t = some (1, bt, zv)) (h1 : v.oneCell' = true) (hlt : i < l.length) (hk : k < sz) (hu : F u = (F (l.getD i d)).set k v) :
  C3q P B σ Γ Ms (.store t x y) ty Γ (A1d sz e a n ((l.set i u).flatMap F) :: Ms2) := fun w hs => by
 have hs' := hs.perm hm
 have hvc : v.cells = #[v] := by cases v <;> simp_all [Value.cells, Value.oneCell']
 have hmul : i * sz + sz ≤ n * sz := by
  have := Nat.mul_le_mul_right sz (show i + 1 ≤ n by omega)
  rwa [Nat.add_mul, Nat.one_mul] at this
 obtain ⟨w', hr, h2⟩ := hs'.D6d (P := P) (vs := [v]) (o := i * sz + k) ha oo_ (by simp; omega) (fun u hu => by rw [List.mem_singleton] at hu; exact hu ▸ h1)
 refine ⟨w', ?_, ?_⟩
 ·rw [Nat.zero_add] at hx
  have hr2 : (storeVar t ⟨g, i * sz + k, none⟩ (ev σ y)).run P w = .ok () w' := by
   unfold storeVar
   rw [A0q (A5u hi w)]
   simp only [hy, hvc, List.size_toArray, List.length_cons, List.length_nil, ne_eq, not_true, if_false]
   exact hr
  simp [opr, execOp, hx, Instr.storeAt, Instr.sureAddr, hr2]
 ·have hlen : (l.flatMap F).length = l.length * sz := B3o hF l
  rw [D1t hF d u v k hk l i hlt hu, ← E2i (by rw [hlen, ← hn]; omega)]
  exact h2
end
end Go.Hy
namespace Go.Hy
section
variable {P : Program} {f : FuncId} {R : Ending → World → Prop} {B : A6z} {n : Fz} {K : List Item} {σ : Nat → Value} {Γ LF : List Fact} {Ms Ms2 Ms' : List Res} {todo : List Item} {w : World}
theorem B3u (h : Ms = Ms') (k : GoT P f R B n todo σ Γ Ms') : GoT P f R B n todo σ Γ Ms := h ▸ k
def E7m (m : Res) (LF : List Fact) : Prop := ∀ w : World, (∀ w' : World, (∀ b, m.dom b → w'.heap[b]? = w.heap[b]?) → m.holds w') → (∀ b, m.dom b → b < w.heap.size) → ∀ F, F ∈ LF → F.f m.dom w
theorem St.G6h {ok ok' S : Nat → Prop} {w0 : World} (h : St ⟨ok, S, w0⟩ Γ Ms w) : St ⟨ok', S, w0⟩ [] Ms w := ⟨h.chg, fun _ hF => (by cases hF), h.res, h.lt, h.disj⟩
theorem F6g {it : Item} (m : Res) (hl : E7m m LF) (hm0 : Ms.Perm (m :: Ms2)) (live : List (Nat × Value))
  (h1 : ∀ B', (∀ σ', B7z σ' live → GoT P f R B' n K σ' (LF ++ Γ) Ms2) → GoT P f R B' n (it :: K) σ (LF ++ Γ) Ms2) (h2 : ∀ base, GoT P f R B n K (stL base live) Γ Ms) : GoT P f R B n (it :: K) σ Γ Ms := by
 intro a w hr hs
 have hm : Ms.Perm (Ms2 ++ [m]) := hm0.trans (List.perm_append_comm (l₁ := [m]))
 have hs1 := hs.perm hm
 have hmm : m ∈ Ms2 ++ [m] := List.mem_append_right _ List.mem_cons_self
 have hs2 : St ⟨fun b => D0w B (Ms2 ++ [m]) w b ∨ m.dom b, A2s Ms2, w⟩ (LF ++ Γ) Ms2 w := by
  refine ⟨Chg.refl _ _, fun F hF => ?_, fun m' h' => hs1.res m' (List.mem_append_left _ h'), fun m' h' b hb => ⟨(hs1.lt m' (List.mem_append_left _ h') b hb).1, .inl ⟨m', h', hb⟩⟩, (List.pairwise_append.mp hs1.disj).1⟩
  rcases List.mem_append.mp hF with hF | hF
  ·refine F.mono _ _ _ (fun b hb => ⟨.inl (.inr hb), (hs1.lt m hmm b hb).1, ?_⟩) (hl w (hs1.res m hmm) (fun b hb => (hs1.lt m hmm b hb).1) F hF)
   rintro ⟨m', h', hb'⟩
   exact (List.pairwise_append.mp hs1.disj).2.2 m' h' m List.mem_cons_self b hb' hb
  ·exact F.mono _ _ _ (fun b hb => ⟨.inl (.inl hb), hb.2.1, fun hc => hb.2.2 (A3y.2 (.inl hc))⟩) (hs1.facts F hF)
 refine h1 _ (fun σ' hσ a' w' hr' hs' => ?_) a w hr hs2
 have h3 := (hs1.frame (N := []) (St.G6h hs')).perm hm.symm
 exact go_slots live hσ h2 a' w' hr' h3
theorem C5i (y : Tys) (h : HT) (hok : okT h.er) : E7m (A4w (A5i y h)) [RT h.er h.vr h.vk h.vs] := by
 intro w hh hlt F hF
 rw [List.mem_singleton] at hF
 subst hF
 have hb0 := hh w (fun _ _ => rfl)
 obtain ⟨C, hC⟩ : ∃ C : Res, C = ⟨fun b => b < w.heap.size ∧ ¬ A2s (A5i y h) b, fun _ => True⟩ := ⟨_, rfl⟩
 have hs : St ⟨fun _ => False, fun _ => False, { w with heap := #[] }⟩ [] (A5i y h ++ [C]) w := by
  refine ⟨⟨rfl, rfl, rfl, Nat.zero_le _, fun k hk _ => absurd hk (Nat.not_lt_zero _)⟩, fun _ hF => (by cases hF), ?_, ?_, ?_⟩
  ·intro m hm w' hw
   rcases List.mem_append.mp hm with hm | hm
   ·exact hb0.1 m hm w' hw
   ·rw [List.mem_singleton] at hm; subst hm; subst hC; trivial
  ·intro m hm b hb
   rcases List.mem_append.mp hm with hm | hm
   ·exact ⟨hlt b ⟨m, hm, hb⟩, .inr (Nat.zero_le _)⟩
   ·rw [List.mem_singleton] at hm; subst hm; subst hC; exact ⟨hb.1, .inr (Nat.zero_le _)⟩
  ·refine List.pairwise_append.mpr ⟨hb0.2, List.pairwise_singleton _ _, fun m hm m' hm' b hb hb' => ?_⟩
   rw [List.mem_singleton] at hm'; subst hm'; subst hC
   exact hb'.2 ⟨m, hm, hb⟩
 have h1 := St.B0e (B := ⟨fun _ => False, fun _ => False, { w with heap := #[] }⟩) y trivial h hok hs
 refine (RT h.er h.vr h.vk h.vs).mono _ _ _ (fun b hb => ?_) (h1.facts _ List.mem_cons_self)
 have hc : ¬ C.dom b := fun hc => hb.2.2 ⟨C, List.mem_cons_self, hc⟩
 subst hC
 exact Classical.byContradiction fun hn => hc ⟨hb.2.1, hn⟩
theorem St.A2o {b : Nat} {cs : List Value} {T : TypeId} {hBp : Prop} (hB : hBp) (hs : St B Γ (A1o b cs T :: Ms) w) : St B (At b 0 cs :: Γ) Ms w := by
 refine hs.B8k hB (fun ok hok hh => ⟨hok b rfl, fun j v hj => ?_⟩)
 have hh : w.heap[b]? = some (.cells cs.toArray T (0, 0)) := hh
 simp [World.cell?, hh, hj]
end
end Go.Hy
namespace Go.Hy
section
variable {B : A6z} {Γ : List Fact} {Ms K S : List Res} {w : World} {a b c : Res}
theorem St.F3u (hs : St B Γ (A4w (a :: b :: c :: (K ++ S)) :: Ms) w) : St B Γ (a :: b :: c :: A4w K :: A4w S :: Ms) w := by
 have h1 : St B Γ (a :: b :: c :: (K ++ (S ++ Ms))) w := by simpa only [List.cons_append, List.append_assoc] using hs.unpack
 have h2 : St B Γ (K ++ (S ++ (a :: b :: c :: Ms))) w := h1.perm ((B4c.trans ((B4c.trans (B4c.cons _)).cons _)).symm)
 have h3 : St B Γ (S ++ (A4w K :: a :: b :: c :: Ms)) w := (St.pack h2).perm List.perm_middle.symm
 exact ((((St.pack h3).perm A0y).perm A3m).perm A3m).perm A3m
def h0 : HT := .mk 0 0 (ByteArray.mk #[]) [] (none, 0) [] (none, 0) [] (none, 0)
def hb0 : HB := .mk [] (none, 0) [] (none, 0)
theorem A8u {α : Type} (d : α) {l : List α} {i : Nat} (h : i < l.length) : l.drop i = l.getD i d :: l.drop (i + 1) := by
 rw [List.drop_eq_getElem_cons h, List.getD_eq_getElem?_getD, List.getElem?_eq_getElem h]; rfl
theorem St.F2q {y : Tys} {k n : Int} {nm : ByteArray} {r : List Cl} {v u x : SH} {ks : List HT} {ss : List HB} (hs : St B Γ (A4w (A5i y (.mk k n nm r v ks u ss x)) :: Ms) w) :
  St B Γ (A1d 2 y.c v r.length (A0i r) :: A1d 6 y.t u ks.length (A2n (ks.map HT.tp)) :: A1d 2 y.b x ss.length (A6t (ss.map HB.bp)) :: A4w (A6c y ks) :: A4w (C3m y ss) :: Ms) w := by
 simp only [A5i] at hs
 exact hs.F3u
theorem St.F1w {sz n : Nat} {e : TypeId} {a : SH} {xs : List Value} (hs : St B Γ Ms w) (hm : A1d sz e a n xs ∈ Ms) : n ≤ 9223372036854775807 := by
 rcases Nat.eq_zero_or_pos n with h | h
 ·omega
 ·obtain ⟨g, cur, _, _, h3, h4, _⟩ := C2f (hs.res _ hm w (fun _ _ => rfl)) h
  have : maxLen = 9223372036854775807 := rfl
  omega
theorem Spec.conv {P : Program} {k : FuncId} {args args' : Array Value} {pre : List Fact} {Ms0 Ms0' : List Res} {X : Type} {val : X → Value} {N : X → List Fact} {Ms1 : X → List Res} (h : Spec P k args pre Ms0 val N Ms1) (ha : args = args') (hd : ∀ b, A2s Ms0' b ↔ A2s Ms0 b) (hs : ∀ B w, St B pre Ms0' w → St B pre Ms0 w) : Spec P k args' pre Ms0' val N Ms1 := by
 subst ha
 have e : A2s Ms0' = A2s Ms0 := funext fun b => propext (hd b)
 intro ok w hok hst
 rw [e] at hst ⊢
 exact h ok w (fun b hb => ⟨(hok b hb).1, fun hc => (hok b hb).2 ((hd b).2 hc)⟩) (hs _ _ hst)
mutual
theorem HT.G6r {P : HT → Prop} (h : ∀ k n nm r v ks u ss x, (∀ c, c ∈ ks → P c) → P (.mk k n nm r v ks u ss x)) : ∀ t, P t
 | .mk k n nm r v ks u ss x => h k n nm r v ks u ss x (HT.F7b h ks)
theorem HT.F7b {P : HT → Prop} (h : ∀ k n nm r v ks u ss x, (∀ c, c ∈ ks → P c) → P (.mk k n nm r v ks u ss x)) : ∀ ts : List HT, ∀ c, c ∈ ts → P c
 | [], _, hc => by cases hc
 | t :: ts, c, hc => by
  rcases List.mem_cons.mp hc with e | hc
  ·rw [e]; exact HT.G6r h t
  ·exact HT.F7b h ts c hc
end
end
end Go.Hy
namespace Go.Hy
theorem E5b {P : Program} {σ : Nat → Value} {op : Op} {ty : TypeId} {p q : Prop} [Decidable p] [Decidable q] (h : p ↔ q) (hp : A3f P σ op ty (.bool (decide p))) : A3f P σ op ty (.bool (decide q)) := by
 rwa [decide_eq_decide.mpr h] at hp
section
variable {tn : Bool} {pn : Nat} {P : Program} [Tab P] {f : FuncId} {R : Ending → World → Prop} {B : A6z} {n : Fz} {K : List Item} {ops : Array Oper} {i : Nat} {l fin : List Nat} {σ : Nat → Value} {Γ : List Fact} {Ms Ms2 : List Res}
variable {dst : Option Tmp} {op : Op} {ty : TypeId} {pos : String} {after : Array Edge} {v : Value} {x y z : Operand}
theorem E4o {t t' : TypeId} {k2 : IntKind} {a m : Nat} (k_ : RgT P f R B n K ops l (A1u σ dst (.int .u64 ((a * 2 ^ m : Nat) : Int))) Γ Ms) (hx : ev σ x = .int .u64 (a : Int) := by exact wn_) (hy : ev σ y = .int k2 (m : Int) := by exact wn_) (hm : m ≤ 64 := by first | assumption | omega) (hb : a * 2 ^ m < 18446744073709551616 := by first | assumption | omega) (hd : A0t n dst = true := by rfl) : OpT P f R B n K ops l (opr dst (.binOp .shl t x y t') ty) σ Γ Ms := A1l (F4x hx hy hm hb) hd k_
theorem F8v {t t' : TypeId} {a b : Nat} (k_ : RgT P f R B n K ops l (A1u σ dst (.int .u64 ((a - b : Nat) : Int))) Γ Ms) (hx : ev σ x = .int .u64 (a : Int) := by exact wn_) (hy : ev σ y = .int .u64 (b : Int) := by exact wn_) (h : b ≤ a := by first | assumption | omega) (ha : a < 18446744073709551616 := by first | assumption | omega) (hd : A0t n dst = true := by rfl) : OpT P f R B n K ops l (opr dst (.binOp .sub t x y t') ty) σ Γ Ms := A1l (F4v hx hy h ha) hd k_
theorem D6z {s d : TypeId} {a : Nat} (k_ : RgT P f R B n K ops l (A1u σ dst (.int .u32 (a : Int))) Γ Ms) (hx : ev σ x = .int .u64 (a : Int) := by exact wn_) (ha : a < 4294967296 := by first | assumption | omega) (hs : Tab.und P s = some (.int .u64) := by rfl) (hd' : Tab.und P d = some (.int .u32) := by rfl) (hd : A0t n dst = true := by rfl) : OpT P f R B n K ops l (opr dst (.convert s d x) ty) σ Γ Ms := A1l (E3w hs hd' hx ha) hd k_
theorem D6y {s d : TypeId} {a : Nat} (k_ : RgT P f R B n K ops l (A1u σ dst (.int .i64 (a : Int))) Γ Ms) (hx : ev σ x = .int .u32 (a : Int) := by exact wn_) (ha : a < 4294967296 := by first | assumption | omega) (hs : Tab.und P s = some (.int .u32) := by rfl) (hd' : Tab.und P d = some (.int .i64) := by rfl) (hd : A0t n dst = true := by rfl) : OpT P f R B n K ops l (opr dst (.convert s d x) ty) σ Γ Ms := A1l (E3r hs hd' hx ha) hd k_
theorem E9h {s d : TypeId} {a : Nat} (k_ : RgT P f R B n K ops l (A1u σ dst (.int .u32 (a : Int))) Γ Ms) (hx : ev σ x = .int .i64 (a : Int) := by exact wn_) (ha : a < 4294967296 := by first | assumption | omega) (hs : Tab.und P s = some (.int .i64) := by rfl) (hd' : Tab.und P d = some (.int .u32) := by rfl) (hd : A0t n dst = true := by rfl) : OpT P f R B n K ops l (opr dst (.convert s d x) ty) σ Γ Ms := A1l (E3t hs hd' hx ha) hd k_
theorem B1p {s d : TypeId} {a : Int} {m : Nat} (k_ : RgT P f R B n K ops l (A1u σ dst (.int .u64 (m : Int))) Γ Ms) (hx : ev σ x = .int .i64 a := by exact wn_) (ha : a = (m : Int) := by first | assumption | omega) (hm : m < 18446744073709551616 := by omega) (hs : Tab.und P s = some (.int .i64) := by rfl) (hd' : Tab.und P d = some (.int .u64) := by rfl) (hd : A0t n dst = true := by rfl) : OpT P f R B n K ops l (opr dst (.convert s d x) ty) σ Γ Ms := A1l (E3u hs hd' hx ha hm) hd k_
theorem E4u {t : TypeId} {d : TypeDesc} {bk o i' : Nat} {a : SH} {ls : List Int} (k_ : RgT P f R B n K ops l (A1u σ dst (.int .i64 (ls.getD i' 0))) Γ Ms) (hx : ev σ x = .pointer (some ⟨bk, o + i' * 1, none⟩) := by exact wn_) (hFa : IL ls a ∈ Γ ∧ a.1 = some ⟨bk, o, none⟩ := by exact ma0_) (hu : Tab.und P t = some d := by rfl) (hd' : (match d with | .struct _ | .array _ _ => true | _ => false) = false := by rfl) (hlt : i' < ls.length := by omega) (hd : A0t n dst = true := by rfl) : OpT P f R B n K ops l (opr dst (.load t x) ty) σ Γ Ms := A7x (F9u hx hFa.1 hFa.2 hu hd' hlt) hd k_
theorem E1m {t e : TypeId} {s bt m c k : Nat} {zv : Value} {A : Option Addr} (k_ : NV tn pn P f R B n K ops fin l (A1u σ dst (.slice A k c)) Γ Ms) (hx : ev σ x = .slice A m c := by exact wn_) (hy : ev σ y = .int .i64 (k : Int) := by exact wn_) (hk : k ≤ c := by omega) (hu : Tab.und P t = some (.slice e) := by rfl) (hi : Tab.inf P e = some (s, bt, zv) := by rfl) (hd : A0t n dst = true := by rfl) : NvT tn pn P f R B n K ops fin i l dst (.slice t x none (some y) none) ty σ Γ Ms := A4b (D9l hu hi hx hy hk) hd k_
theorem E1l {t e : TypeId} {s bt m k : Nat} {zv : Value} {a : SH} (k_ : NV tn pn P f R B n K ops fin l (A1u σ dst (sl (C3e a s k) (m - k))) Γ Ms) (hx : ev σ x = sl a m := by rfl) (hy : ev σ y = .int .i64 (k : Int) := by exact wn_) (hk : k ≤ m := by omega) (hu : Tab.und P t = some (.slice e) := by rfl) (hi : Tab.inf P e = some (s, bt, zv) := by rfl) (hd : A0t n dst = true := by rfl) : NvT tn pn P f R B n K ops fin i l dst (.slice t x (some y) none none) ty σ Γ Ms := A4b (D9k hu hi hx hy hk) hd k_
theorem F2t {t t' : TypeId} {a b : Nat} (k_ : RgT P f R B n K ops l (A1u σ dst (.bool (decide (a < b)))) Γ Ms) (hx : ev σ x = .int .u32 (a : Int) := by exact wn_) (hy : ev σ y = .int .u32 (b : Int) := by exact wn_) (hd : A0t n dst = true := by rfl) : OpT P f R B n K ops l (opr dst (.binOp .lss t x y t') ty) σ Γ Ms := A1l (E5b oo_ (E3o hx hy)) hd k_
theorem F5n {t t' : TypeId} {a b : Nat} (k_ : RgT P f R B n K ops l (A1u σ dst (.bool (decide (a = b)))) Γ Ms) (hx : ev σ x = .int .u32 (a : Int) := by exact wn_) (hy : ev σ y = .int .u32 (b : Int) := by exact wn_) (hd : A0t n dst = true := by rfl) : OpT P f R B n K ops l (opr dst (.binOp .eql t x y t') ty) σ Γ Ms := A1l (E5b oo_ (D6o hx hy)) hd k_
theorem F7q {t e T' : TypeId} {ts : Array TypeId} {sz bt n' m c b : Nat} {zv : Value} {a : SH} {xs cs : List Value} (k_ : ∀ a' : SH, NV tn pn P f R B n K ops fin l (A1u σ dst (sl a' (n' + m))) Γ (A1d sz e a' (n' + m) (xs ++ cs) :: A1o b cs T' :: Ms2)) (hm : Ms.Perm (A1d sz e a n' xs :: A1o b cs T' :: Ms2) := by first | exact C0m | exact A0y | exact A3o | exact A2x | exact A3m | exact A4i | exact A3e) (hx : ev σ x = sl a n' := by rfl) (hy : ev σ y = .slice (some ⟨b, 0, none⟩) m c := by exact wn_) (hts : ts = #[t, t] := by rfl) (hu : Tab.und P t = some (.slice e) := by rfl) (hi : Tab.inf P e = some (sz, bt, zv) := by rfl) (hzs : zv.cells.size = sz := by rfl) (hsz : 0 < sz := by exact Nat.le_of_ble_eq_true rfl) (hl : cs.length = m * sz := by rfl) (h1 : A9m cs = true := by rfl) (hb : (n' + m) * bt ≤ 140737488355328 := by first | omega | (unfold reach at *; omega) | (unfold reach A9a at *; omega)) (hnm : n' + m ≤ 9223372036854775807 := by first | omega | (unfold reach at *; omega) | (unfold reach A9a at *; omega)) (hd : A0t n dst = true := by rfl) : NvT tn pn P f R B n K ops fin i l dst (.call { callee := .builtin .append, args := #[x, y], argTypes := ts }) ty σ Γ Ms := E4z (r := [A1d sz e a n' xs, A1o b cs T']) (r' := fun a' => [A1d sz e a' (n' + m) (xs ++ cs), A1o b cs T']) (fun M => E1w (List.Perm.refl _) hx hy hts hu hi hzs hsz hl h1 hb hnm) rfl hd hm k_
theorem D3j {t e : TypeId} {ts : Array TypeId} {bt n' : Nat} {zv : Value} {a b : SH} {xs : List Value} {ls : List Cl} (k_ : ∀ a' : SH, NV tn pn P f R B n K ops fin l (A1u σ dst (sl a' (n' + ls.length))) Γ (A1d 2 e a' (n' + ls.length) (xs ++ A0i ls) :: Ms2)) (hF : CL ls b ∈ Γ) (hm : Ms.Perm (A1d 2 e a n' xs :: Ms2) := by first | exact C0m | exact A0y | exact A3o | exact A2x | exact A3m | exact A4i | exact A3e) (hx : ev σ x = sl a n' := by rfl) (hy : ev σ y = sl b ls.length := by rfl) (hts : ts = #[t, t] := by rfl) (hu : Tab.und P t = some (.slice e) := by rfl) (hi : Tab.inf P e = some (2, bt, zv) := by rfl) (hzs : zv.cells.size = 2 := by rfl) (hb : (n' + ls.length) * bt ≤ 140737488355328 := by first | omega | (unfold reach at *; omega) | (unfold reach A9a at *; omega)) (hnm : n' + ls.length ≤ 9223372036854775807 := by first | omega | (unfold reach at *; omega) | (unfold reach A9a at *; omega)) (hd : A0t n dst = true := by rfl) : NvT tn pn P f R B n K ops fin i l dst (.call { callee := .builtin .append, args := #[x, y], argTypes := ts }) ty σ Γ Ms := E4z (r := [A1d 2 e a n' xs]) (r' := fun a' => [A1d 2 e a' (n' + ls.length) (xs ++ A0i ls)]) (fun M => D5t (List.Perm.refl _) hF hx hy hts hu hi hzs hb hnm) rfl hd hm k_
end
section
variable {tn : Bool} {pn : Nat} {P : Program} [Tab P] {f : FuncId} {R : Ending → World → Prop} {B : A6z} {n : Fz} {K : List Item} {ops : Array Oper} {i : Nat} {l fin : List Nat} {σ : Nat → Value} {Γ : List Fact} {Ms Ms2 : List Res}
variable {dst : Option Tmp} {op : Op} {ty : TypeId} {pos : String} {after : Array Edge} {v : Value} {x y z : Operand}
theorem E3z {t t' : TypeId} {a b : Nat} (hx : ev σ x = .int .u32 (a : Int)) (hy : ev σ y = .int .u32 (b : Int)) : A3f P σ (.binOp .add t x y t') ty (.int .u32 (((a + b) % 4294967296 : Nat) : Int)) :=
 A4h hx hy (fun w => A1w w) (fun w => by
  have : IntKind.u32.wrap ((a : Int) + (b : Int)) = (((a + b) % 4294967296 : Nat) : Int) := by simp [IntKind.wrap, IntKind.bits, IntKind.signed]
  simp only [binOp, Op.intArith, ne_eq, not_true, if_false, this]; rfl)
theorem E9k {t t' : TypeId} {a b : Nat} (k_ : RgT P f R B n K ops l (A1u σ dst (.int .u32 (((a + b) % 4294967296 : Nat) : Int))) Γ Ms) (hx : ev σ x = .int .u32 (a : Int) := by exact wn_) (hy : ev σ y = .int .u32 (b : Int) := by exact wn_) (hd : A0t n dst = true := by rfl) : OpT P f R B n K ops l (opr dst (.binOp .add t x y t') ty) σ Γ Ms := A1l (E3z hx hy) hd k_
theorem F5l {t e : TypeId} {d : TypeDesc} {g i' k n' : Nat} {a : SH} {ls : List Cl} (k_ : RgT P f R B n K ops l (A1u σ dst v) Γ Ms) (hx : ev σ x = .pointer (some ⟨g, 0 + i' * 2 + k, none⟩) := by exact wn_) (hma : A1d 2 e a n' (ls.flatMap A0r) ∈ Ms ∧ a.1 = some ⟨g, 0, none⟩ := by exact ma1_) (hu : Tab.und P t = some d := by rfl) (hd' : (match d with | .struct _ | .array _ _ => true | _ => false) = false := by rfl) (hk : (A0r (ls.getD i' cl0))[k]? = some v := by exact wn_) (hlt : i' < ls.length := by first | omega | (simp only [List.length_map, List.length_set]; omega) | (simp; omega)) (hd : A0t n dst = true := by rfl) : OpT P f R B n K ops l (opr dst (.load t x) ty) σ Γ Ms := A7x (D7h A3w cl0 hx hma.1 hma.2 hu hd' hlt hk) hd k_
theorem F8x {t e : TypeId} {bt g i' k n' : Nat} {a : SH} {zv : Value} {ls : List Cl} (u : Cl) (k_ : RgT P f R B n K ops l σ Γ (A1d 2 e a n' ((ls.set i' u).flatMap A0r) :: Ms2)) (hx : ev σ x = .pointer (some ⟨g, 0 + i' * 2 + k, none⟩) := by exact wn_) (hm : Ms.Perm (A1d 2 e a n' (ls.flatMap A0r) :: Ms2) := by first | exact C0m | exact A0y | exact A3o | exact A2x | exact A3m | exact A4i | exact A3e | exact A9f | exact B2y) (ha : a.1 = some ⟨g, 0, none⟩ := by assumption) (hn : n' = ls.length := by first | rfl | omega | (simp; done) | (simp; omega)) (hy : ev σ y = v := by exact wn_) (hi : Tab.inf P t = some (1, bt, zv) := by rfl) (h1 : v.oneCell' = true := by rfl) (hlt : i' < ls.length := by first | omega | (simp only [List.length_map, List.length_set]; omega) | (simp; omega)) (hk : k < 2 := by decide) (hu : A0r u = (A0r (ls.getD i' cl0)).set k v := by rfl) : OpT P f R B n K ops l (opr none (.store t x y) ty) σ Γ Ms := B4u (D5u A3w cl0 u hx hm ha hn hy hi h1 hlt hk hu) k_
theorem F8y {t e : TypeId} {bt g i' k n' : Nat} {a : SH} {zv : Value} {ls : List BP} (u : BP) (k_ : RgT P f R B n K ops l σ Γ (A1d 2 e a n' ((ls.set i' u).flatMap A8b) :: Ms2)) (hx : ev σ x = .pointer (some ⟨g, 0 + i' * 2 + k, none⟩) := by exact wn_) (hm : Ms.Perm (A1d 2 e a n' (ls.flatMap A8b) :: Ms2) := by first | exact C0m | exact A0y | exact A3o | exact A2x | exact A3m | exact A4i | exact A3e | exact A9f | exact B2y) (ha : a.1 = some ⟨g, 0, none⟩ := by assumption) (hn : n' = ls.length := by first | rfl | omega | (simp; done) | (simp; omega)) (hy : ev σ y = v := by exact wn_) (hi : Tab.inf P t = some (1, bt, zv) := by rfl) (h1 : v.oneCell' = true := by rfl) (hlt : i' < ls.length := by first | omega | (simp only [List.length_map, List.length_set]; omega) | (simp; omega)) (hk : k < 2 := by decide) (hu : A8b u = (A8b (ls.getD i' bp0)).set k v := by rfl) : OpT P f R B n K ops l (opr none (.store t x y) ty) σ Γ Ms := B4u (D5u (F := A8b) (fun _ => rfl) bp0 u hx hm ha hn hy hi h1 hlt hk hu) k_
theorem G3j {t : TypeId} {d : TypeDesc} {bk k : Nat} {cs : List Value} (k_ : RgT P f R B n K ops l (A1u σ dst v) Γ Ms) (hx : ev σ x = .pointer (some ⟨bk, k, none⟩) := by exact wn_) (hF : At bk 0 cs ∈ Γ := by repeat (first | exact List.mem_cons_self | apply List.mem_cons_of_mem)) (hu : Tab.und P t = some d := by rfl) (hd' : (match d with | .struct _ | .array _ _ => true | _ => false) = false := by rfl) (hk : cs[k]? = some v := by exact wn_) (hd : A0t n dst = true := by rfl) : OpT P f R B n K ops l (opr dst (.load t x) ty) σ Γ Ms := A7x (F2z (o := 0) (by rw [Nat.zero_add]; exact hx) hF hu hd' hk) hd k_
theorem B4n {t : TypeId} {d : TypeDesc} {bk k : Nat} {cs : List Value} (k_ : NV tn pn P f R B n K ops fin l (A1u σ dst v) Γ Ms) (hx : ev σ x = .pointer (some ⟨bk, k, none⟩) := by exact wn_) (hF : At bk 0 cs ∈ Γ := by repeat (first | exact List.mem_cons_self | apply List.mem_cons_of_mem)) (hu : Tab.und P t = some d := by rfl) (hd' : (match d with | .struct _ | .array _ _ => true | _ => false) = false := by rfl) (hk : cs[k]? = some v := by exact wn_) (hd : A0t n dst = true := by rfl) : NvT tn pn P f R B n K ops fin i l dst (.load t x) ty σ Γ Ms := D7a (F2z (o := 0) (by rw [Nat.zero_add]; exact hx) hF hu hd' hk) rfl hd k_
theorem F2u {t : TypeId} {l' : List (Nat × Nat)} {s bt bk k : Nat} {zv : Value} {cs cs' : List Value} (k_ : RgT P f R B n K ops l (A1u σ dst (.agg cs'.toArray)) Γ Ms) (hx : ev σ x = .pointer (some ⟨bk, k, none⟩) := by exact wn_) (hF : At bk 0 cs ∈ Γ := by repeat (first | exact List.mem_cons_self | apply List.mem_cons_of_mem)) (hu : Tab.lay P t = some l' := by rfl) (hi : Tab.inf P t = some (s, bt, zv) := by rfl) (hk : (cs.drop k).take s = cs' := by rfl) (hl : cs'.length = s := by rfl) (hd : A0t n dst = true := by rfl) : OpT P f R B n K ops l (opr dst (.load t x) ty) σ Γ Ms := A7x (F9v (o := 0) (by rw [Nat.zero_add]; exact hx) hF hu hi hk hl) hd k_
end
section
variable {α : Type}
def G2e (E : α → Fact) (l : List α) : Fact := ⟨fun ok w => ∀ x, x ∈ l → (E x).f ok w, fun _ _ _ hs h x hx => (E x).mono _ _ _ hs (h x hx), fun _ _ _ h hs x hx => (E x).loc _ _ _ (h x hx) hs⟩
def E7o (sz bt : Nat) (F : α → List Value) (E : α → Fact) (d : α) (l : List α) (a : SH) : Fact := ⟨fun ok w => rowAt ok sz bt l.length a (fun i => F (l.getD i d)) w ∧ ∀ x, x ∈ l → (E x).f ok w,
 fun _ _ _ hs h => ⟨h.1.mono hs, fun x hx => (E x).mono _ _ _ hs (h.2 x hx)⟩, fun _ _ _ h hs => ⟨h.1.loc hs, fun x hx => (E x).loc _ _ _ (h.2 x hx) hs⟩⟩
variable {B : A6z} {Γ : List Fact} {Ms : List Res} {w : World} {E : α → Fact} {F : α → List Value} {sz bt n : Nat} {d : α} {l : List α} {a : SH}
theorem St.E7c (E : α → Fact) (hs : St B Γ Ms w) : St B (G2e E [] :: Γ) Ms w := hs.add (fun x hx => by cases hx)
theorem St.D2y {x : α} (hs : St B Γ Ms w) (h1 : G2e E l ∈ Γ) (h2 : E x ∈ Γ) : St B (G2e E (l ++ [x]) :: Γ) Ms w := by
 refine hs.add (fun y hy => ?_)
 rcases List.mem_append.mp hy with hy | hy
 ·exact hs.facts _ h1 y hy
 ·rw [List.mem_singleton] at hy; subst hy; exact hs.facts _ h2
theorem St.C1q {e : TypeId} {xs : List Value} (hF : ∀ x, (F x).length = sz) (hs : St B Γ (A1d sz e a n xs :: Ms) w) {hBp : Prop} (hB : hBp) (hA : G2e E l ∈ Γ) (hx : xs = l.flatMap F) (hn : n = l.length) (hb : n * bt ≤ reach) : St B (E7o sz bt F E d l a :: Γ) Ms w := by
 subst hx
 have hrow := hs.B8k (F := ⟨fun ok w => rowAt ok sz bt n a (fun i => F (l.getD i d)) w, fun _ _ _ hs h => h.mono hs, fun _ _ _ h hs => h.loc hs⟩) hB (fun ok hok hh => B4f (F := F) hF d (hh : World.ownsRow _ _ _ _ _ _ _) hn hb hok)
 have hr2 := hrow.facts _ List.mem_cons_self
 have h3 := hrow.facts _ (List.mem_cons_of_mem _ hA)
 exact hs.drop.add ⟨hn ▸ hr2, h3⟩
theorem St.F5f (hs : St B Γ Ms w) (hF : E7o sz bt F E d l a ∈ Γ) : l.length * bt ≤ reach ∧ (0 < l.length → ∃ b o, a.1 = some ⟨b, o, Option.none⟩) := by
 obtain ⟨h2, _⟩ := hs.facts _ hF
 exact ⟨h2.2.1, fun hn => by obtain ⟨b, o, h3, _⟩ := h2.2.2 hn; exact ⟨b, o, h3⟩⟩
theorem St.F4m {i : Nat} (hs : St B Γ Ms w) (hF : E7o sz bt F E d l a ∈ Γ) (hi : i < l.length) : St B (E (l.getD i d) :: Γ) Ms w := hs.add ((hs.facts _ hF).2 _ (A0l hi))
end
section
variable {α : Type} {P : Program} {f : FuncId} {R : Ending → World → Prop} {B : A6z} {n : Fz} {todo : List Item} {σ : Nat → Value} {Γ : List Fact} {Ms : List Res} {E : α → Fact} {F : α → List Value} {sz bt : Nat} {d : α} {l : List α} {a : SH}
theorem C5o (hF : E7o sz bt F E d l a ∈ Γ) (k : l.length * bt ≤ reach → (0 < l.length → ∃ b o, a.1 = some ⟨b, o, none⟩) → GoT P f R B n todo σ Γ Ms) : GoT P f R B n todo σ Γ Ms := A1n (p := l.length * bt ≤ reach ∧ (0 < l.length → ∃ b o, a.1 = some ⟨b, o, none⟩)) (fun w hs => hs.F5f hF) (fun h => k h.1 h.2)
theorem E5v (hF : E7o sz bt F E d l a ∈ Γ) (i : Nat) (hi : i < l.length) (k : GoT P f R B n todo σ (E (l.getD i d) :: Γ) Ms) : GoT P f R B n todo σ Γ Ms := A0a (fun w hs => hs.F4m hF hi) k
variable [Tab P] {x y : Operand} {v : Value} {ty : TypeId}
theorem F5w {t : TypeId} {lay : List (Nat × Nat)} {bt' bk o i : Nat} {zv : Value} (hFs : ∀ x, (F x).length = sz) (hx : ev σ x = .pointer (some ⟨bk, o + i * sz, none⟩)) (hF : E7o sz bt F E d l a ∈ Γ) (ha : a.1 = some ⟨bk, o, none⟩) (hu : Tab.lay P t = some lay) (hi : Tab.inf P t = some (sz, bt', zv)) (hlt : i < l.length) :
  B3q P B σ Γ Ms (.load t x) ty (.agg (F (l.getD i d)).toArray) := fun w hs => by
 have h3 := (A9s (hs.facts _ hF).1 ha hlt).2
 have h4 := A3z (P := P) (bk := bk) (off := o + i * sz) (w := w) hu hi (cs := F (l.getD i d)) (hFs _) h3
 simp [opr, execOp, hx, Instr.loadAt, Instr.sureAddr, h4]
theorem F5x {t : TypeId} {d' : TypeDesc} {bk o i k : Nat} (hx : ev σ x = .pointer (some ⟨bk, o + i * sz + k, none⟩)) (hF : E7o sz bt F E d l a ∈ Γ) (ha : a.1 = some ⟨bk, o, none⟩) (hu : Tab.und P t = some d') (hd : (match d' with | .struct _ | .array _ _ => true | _ => false) = false) (hk : (F (l.getD i d))[k]? = some v) (hlt : i < l.length) :
  B3q P B σ Γ Ms (.load t x) ty v := fun w hs => by
 have h3 := (A9s (hs.facts _ hF).1 ha hlt).2 k v hk
 simp [opr, execOp, hx, Instr.loadAt, Instr.sureAddr, A4z hu hd h3]
theorem F5y {t : TypeId} {d' : TypeDesc} {bk o i : Nat} (hx : ev σ x = .pointer (some ⟨bk, o + i * 1, none⟩)) (hF : E7o 1 bt F E d l a ∈ Γ) (ha : a.1 = some ⟨bk, o, none⟩) (hu : Tab.und P t = some d') (hd : (match d' with | .struct _ | .array _ _ => true | _ => false) = false) (hk : (F (l.getD i d))[0]? = some v) (hlt : i < l.length) :
  B3q P B σ Γ Ms (.load t x) ty v := F5x (k := 0) hx hF ha hu hd hk hlt
end
abbrev QP := TP × Int × Int
def qE (q : QP) : Fact := RT q.1.1 q.1.2.1 q.1.2.2.1 q.1.2.2.2
abbrev IP := List Int × SH
def ipE (p : IP) : Fact := IL p.1 p.2
abbrev CP := List Cl × SH
def B9e (p : CP) : List Value := [sl p.2 p.1.length]
def cp0 : CP := ([], (none, 0))
abbrev cpE (p : CP) : Fact := CL p.1 p.2
abbrev CCF (l : List CP) (a : SH) : Fact := E7o 1 24 B9e cpE cp0 l a
section
variable {B : A6z} {Γ : List Fact} {Ms : List Res} {w : World}
theorem St.F9q {e : TypeId} {b : Nat} {l : List Cl} {a : SH} (hs : St B Γ (A1o b [sl a l.length] e :: Ms) w) {hBp : Prop} (hB : hBp) (hF : CL l a ∈ Γ) : St B (CCF [(l, a)] (some ⟨b, 0, Option.none⟩, 1) :: Γ) Ms w :=
 ((((hs.A5o (sz := 1) (m := 1) rfl de_).E7c cpE).D2y (x := (l, a)) List.mem_cons_self (List.mem_cons_of_mem _ hF)).C1q (F := B9e) (E := cpE) (d := cp0) (bt := 24) (l := [(l, a)]) (fun _ => rfl) hB List.mem_cons_self rfl rfl de_).less sx_
end
section
variable {P : Program} [Tab P] {B : A6z} {σ : Nat → Value} {Γ : List Fact} {Ms Ms2 : List Res} {ty : TypeId} {x y z : Operand} {v : Value}
end
section
variable {P : Program} [Tab P] {f : FuncId} {fn : Func} {B : A6z} {n : Fz} {K : List Item} {σ : Nat → Value} {Γ : List Fact} {Ms : List Res} {X : Type} {val : X → Value} {N : X → List Fact} {Ms1 : X → List Res}
theorem A7z {r t T : Nat} {r2 : Tmp} {b s bt : Nat} {zv v2 : Value} {lay : List (Nat × Nat)} {cs : List Value} (hf : P.funcs[f]? = some fn) (hr : fn.results = #[.cell r t, .tmp r2]) (x : X) (hb : σ r = .pointer (some ⟨b, 0, none⟩)) (hm : A1o b cs T ∈ Ms) (hl : Tab.lay P t = some lay) (hi : Tab.inf P t = some (s, bt, zv)) (hcs : cs.length = s) (h2 : σ r2 = v2) (hv : Value.tuple #[.agg cs.toArray, v2] = val x) (hs : ∀ w, St B Γ Ms w → St B (N x) (Ms1 x) w) (hD : n.defs = [] := by rfl) (hK : okK n.kind := by first | exact .inl rfl | exact .inr rfl) : GoT P f (Ends B val N Ms1) B n (.code .ret :: K) σ Γ Ms :=
 go_ret hf (fun a w ha h => by
  have h1 := ha.get r
  rw [hb] at h1
  have h3 := ha.get r2
  rw [h2] at h3
  have h4 := A3z (P := P) (bk := b) (off := 0) (w := w) hl hi hcs (fun j v hj => by rw [Nat.zero_add]; exact B7w h hm j v hj)
  have h1' : (a.tmps[r]?.getD undef) = .pointer (some ⟨b, 0, none⟩) := by simpa [Array.getD_eq_getD_getElem?] using h1
  have h3' : (a.tmps[r2]?.getD undef) = v2 := by simpa [Array.getD_eq_getD_getElem?] using h3
  simp [results, hr, asAddr, h1', h4, h3', ← hv]) (fun w h => ⟨x, rfl, hs w h⟩) hD hK
theorem St.E1i {w : World} (hs : St B Γ Ms w) : St B (RT t0 (Option.none, 0) (Option.none, 0) (Option.none, 0) :: Γ) Ms w :=
 ((((hs.A4p 0).F5q 0).F5r 0).F5s (k := 0) (n := 0) (nm := ⟨#[]⟩) (r := []) (ks := []) (ss := []) (vr := (Option.none, 0)) (vk := (Option.none, 0)) (vs := (Option.none, 0)) (by unfold A2a; omega) (by unfold A2a; omega) (Nat.zero_le _) sp_ sp_ sp_).less (by simp +contextual [t0])
end
section
variable {tn : Bool} {pn : Nat} {P : Program} [Tab P] {f : FuncId} {R : Ending → World → Prop} {B : A6z} {n : Fz} {K : List Item} {ops : Array Oper} {i : Nat} {l fin : List Nat} {σ : Nat → Value} {Γ : List Fact} {Ms Ms2 : List Res}
variable {dst : Option Tmp} {op : Op} {ty : TypeId} {pos : String} {after : Array Edge} {v : Value} {x y z : Operand}
theorem F9f {t : TypeId} {d : TypeDesc} {bk o i' : Nat} {a : SH} {ls : List CP} (k_ : RgT P f R B n K ops l (A1u σ dst v) Γ Ms) (hx : ev σ x = .pointer (some ⟨bk, o + i' * 1, none⟩) := by exact wn_) (hFa : CCF ls a ∈ Γ ∧ a.1 = some ⟨bk, o, none⟩ := by exact ma0_) (hu : Tab.und P t = some d := by rfl) (hd' : (match d with | .struct _ | .array _ _ => true | _ => false) = false := by rfl) (hk : (B9e (ls.getD i' cp0))[0]? = some v := by exact wn_) (hlt : i' < ls.length := by first | omega | (simp only [List.length_map, List.length_set]; omega) | (simp; omega)) (hd : A0t n dst = true := by rfl) : OpT P f R B n K ops l (opr dst (.load t x) ty) σ Γ Ms := A7x (F5y hx hFa.1 hFa.2 hu hd' hk hlt) hd k_
end
section
variable {tn : Bool} {pn : Nat} {P : Program} [Tab P] {f : FuncId} {R : Ending → World → Prop} {B : A6z} {n : Fz} {K : List Item} {ops : Array Oper} {i : Nat} {l fin : List Nat} {σ : Nat → Value} {Γ : List Fact} {Ms Ms2 : List Res}
variable {dst : Option Tmp} {op : Op} {ty : TypeId} {pos : String} {after : Array Edge} {v : Value} {x y z : Operand}
theorem F2i {t : TypeId} {a : Int} (hx : ev σ x = .int .i64 a) (h : A2a (-a)) : A3f P σ (.unOp .neg t x) ty (.int .i64 (-a)) := fun w => by
 have e : IntKind.i64.wrap (0 - a) = -a := by rw [wrap64_in (by unfold A2a at *; omega)]; omega
 simp only [opr, execOp, hx, Op.unary, Op.intArith, e]
 rfl
theorem G3e {t : TypeId} {a : Int} (k_ : RgT P f R B n K ops l (A1u σ dst (.int .i64 (-a))) Γ Ms) (hx : ev σ x = .int .i64 a := by exact wn_) (h : A2a (-a) := by first | omega | (unfold A2a at *; omega)) (hd : A0t n dst = true := by rfl) : OpT P f R B n K ops l (opr dst (.unOp .neg t x) ty) σ Γ Ms := A1l (F2i hx h) hd k_
theorem G2f {t : TypeId} {a : Int} (k_ : NV tn pn P f R B n K ops fin l (A1u σ dst (.int .i64 (-a))) Γ Ms) (hx : ev σ x = .int .i64 a := by exact wn_) (h : A2a (-a) := by first | omega | (unfold A2a at *; omega)) (hd : A0t n dst = true := by rfl) : NvT tn pn P f R B n K ops fin i l dst (.unOp .neg t x) ty σ Γ Ms := A4b (F2i hx h) hd k_
theorem D1a {t t' : TypeId} {k : IntKind} {a b : Int} (k_ : RgT P f R B n K ops l (A1u σ dst (.bool true)) Γ Ms) (hx : ev σ x = .int k a := by exact wn_) (hy : ev σ y = .int k b := by exact wn_) (hp : a = b := by first | omega | (simp; done)) (hd : A0t n dst = true := by rfl) : OpT P f R B n K ops l (opr dst (.binOp .eql t x y t') ty) σ Γ Ms := A1l (show A3f P σ (.binOp .eql t x y t') ty (.bool true) from (decide_eq_true hp : decide (a = b) = true) ▸ D6o hx hy) hd k_
theorem F2s {t t' : TypeId} {k : IntKind} {a b : Int} (k_ : RgT P f R B n K ops l (A1u σ dst (.bool false)) Γ Ms) (hx : ev σ x = .int k a := by exact wn_) (hy : ev σ y = .int k b := by exact wn_) (hp : ¬ (a ≠ b) := by first | omega | (simp; done)) (hd : A0t n dst = true := by rfl) : OpT P f R B n K ops l (opr dst (.binOp .neq t x y t') ty) σ Γ Ms := A1l (show A3f P σ (.binOp .neq t x y t') ty (.bool false) from (decide_eq_false hp : decide (a ≠ b) = false) ▸ E3m hx hy) hd k_
theorem F7f {t T' : TypeId} {b s bt : Nat} {zv : Value} {cs cs' : List Value} (k_ : NV tn pn P f R B n K ops fin l σ Γ (A1o b cs' T' :: Ms2)) (hx : ev σ x = .pointer (some ⟨b, 0, none⟩) := by exact wn_) (hm : Ms.Perm (A1o b cs T' :: Ms2) := by first | exact C0m | exact A0y | exact A3o | exact A2x | exact A3m | exact A4i | exact A3e | exact A9f | exact B2y) (hy : (ev σ y).cells = cs'.toArray := by rfl) (hi : Tab.inf P t = some (s, bt, zv) := by rfl) (hl : cs'.length = s := by rfl) (hl2 : cs.length = s := by rfl) (h1 : A9m cs' = true := by rfl) : NvT tn pn P f R B n K ops fin i l none (.store t x y) ty σ Γ Ms := E9l (r := [A1o b cs T']) (r' := [A1o b cs' T']) (fun M => F1t hx hy (List.Perm.refl _) hi hl hl2 h1) rfl hm k_
end
inductive A2m (α : Type) where
 | ok (a : α)
 | bad (e : Int)
structure Tr (C : Type) where
 own : C → Int → Int → ByteArray → List Cl → A2m (T ⊕ (Int × List Cl))
 A1s : C → List Cl → A2m (Option (List Cl))
 kid : C → Int × Int → A2m C
section
variable {C : Type} (A : Tr C)
mutual
def A6n : T → C → A2m T
 | .mk k n nm r ks ss, c => match A.own c k n nm r with
  | .bad e => .bad e
  | .ok (.inl u) => .ok u
  | .ok (.inr p) => match A5t k 0 ks c with
   | .bad e => .bad e
   | .ok ks' => match A6b k ss c with
    | .bad e => .bad e
    | .ok ss' => .ok (.mk k p.1 nm p.2 ks' ss')
def A5t (k : Int) : Nat → List T → C → A2m (List T)
 | _, [], _ => .ok []
 | i, t :: ts, c => match A.kid c (binds k i) with
  | .bad e => .bad e
  | .ok c' => match A6n t c' with
   | .bad e => .bad e
   | .ok t' => match A5t k (i + 1) ts c with
    | .bad e => .bad e
    | .ok ts' => .ok (t' :: ts')
def A4u (k : Int) : List T → C → A2m (List T)
 | [], _ => .ok []
 | t :: ts, c => match A.kid c (0, more k) with
  | .bad e => .bad e
  | .ok c' => match A6n t c' with
   | .bad e => .bad e
   | .ok t' => match A4u k ts c with
    | .bad e => .bad e
    | .ok ts' => .ok (t' :: ts')
def A6b (k : Int) : List Br → C → A2m (List Br)
 | [], _ => .ok []
 | .mk f ks :: bs, c => match A.A1s c f with
  | .bad e => .bad e
  | .ok none => A6b k bs c
  | .ok (some f') => match A4u k ks c with
   | .bad e => .bad e
   | .ok ks' => match A6b k bs c with
    | .bad e => .bad e
    | .ok bs' => .ok (.mk f' ks' :: bs')
end
variable {A}
def A2m.bind {α β : Type} : A2m α → (α → A2m β) → A2m β
 | .ok a, f => f a
 | .bad e, _ => .bad e
theorem A2m.A0q {α β : Type} {x : A2m α} {f : α → A2m β} {b : β} (h : x.bind f = .ok b) : ∃ a, x = .ok a ∧ f a = .ok b := by
 cases x with
 | ok a => exact ⟨a, rfl, h⟩
 | bad e => cases h
theorem A8j (t : T) (c : C) : A6n A t c = (A.own c t.kind t.n t.name t.r).bind fun o => match o with
  | .inl u => .ok u
  | .inr p => (A5t A t.kind 0 t.kids c).bind fun ks' => (A6b A t.kind t.sys c).bind fun ss' => .ok (.mk t.kind p.1 t.name p.2 ks' ss') := by
 obtain ⟨k, n, nm, r, ks, ss⟩ := t
 rw [A6n]
 simp only [T.kind, T.n, T.name, T.r, T.kids, T.sys]
 cases A.own c k n nm r with
 | bad e => rfl
 | ok o =>
  cases o with
  | inl u => rfl
  | inr p =>
   simp only [A2m.bind]
   cases A5t A k 0 ks c with
   | bad e => rfl
   | ok ks' =>
    cases A6b A k ss c <;> rfl
theorem A4n (k : Int) (i : Nat) (c : C) : A5t A k i [] c = .ok [] := by rw [A5t]
theorem A3k (k : Int) (i : Nat) (t : T) (ts : List T) (c : C) : A5t A k i (t :: ts) c = (A.kid c (binds k i)).bind fun c' => (A6n A t c').bind fun t' => (A5t A k (i + 1) ts c).bind fun ts' => .ok (t' :: ts') := by
 rw [A5t]
 cases A.kid c (binds k i) with
 | bad e => rfl
 | ok c' =>
  simp only [A2m.bind]
  cases A6n A t c' with
  | bad e => rfl
  | ok t' => simp only; cases A5t A k (i + 1) ts c <;> rfl
theorem A4m (k : Int) (c : C) : A4u A k [] c = .ok [] := by rw [A4u]
theorem A3j (k : Int) (t : T) (ts : List T) (c : C) : A4u A k (t :: ts) c = (A.kid c (0, more k)).bind fun c' => (A6n A t c').bind fun t' => (A4u A k ts c).bind fun ts' => .ok (t' :: ts') := by
 rw [A4u]
 cases A.kid c (0, more k) with
 | bad e => rfl
 | ok c' =>
  simp only [A2m.bind]
  cases A6n A t c' with
  | bad e => rfl
  | ok t' => simp only; cases A4u A k ts c <;> rfl
theorem A4y (k : Int) (c : C) : A6b A k [] c = .ok [] := by rw [A6b]
theorem A3u (k : Int) (b : Br) (bs : List Br) (c : C) : A6b A k (b :: bs) c = (A.A1s c b.A1s).bind fun f => match f with
  | none => A6b A k bs c
  | some f' => (A4u A k b.kids c).bind fun ks' => (A6b A k bs c).bind fun bs' => .ok (.mk f' ks' :: bs') := by
 obtain ⟨f, ks⟩ := b
 rw [A6b]
 simp only [Br.A1s, Br.kids]
 cases A.A1s c f with
 | bad e => rfl
 | ok o =>
  cases o with
  | none => rfl
  | some f' =>
   simp only [A2m.bind]
   cases A4u A k ks c with
   | bad e => rfl
   | ok ks' => simp only; cases A6b A k bs c <;> rfl
theorem B8g (k : Int) (c : C) : ∀ (i : Nat) (l : List T) (t : T), A5t A k i (l ++ [t]) c = (A5t A k i l c).bind fun l' => (A.kid c (binds k ((i + l.length : Nat) : Int))).bind fun c' => (A6n A t c').bind fun t' => .ok (l' ++ [t'])
 | i, [], t => by
  simp only [List.nil_append, A3k, A4n, A2m.bind, List.length_nil, Nat.add_zero]
 | i, a :: l, t => by
  simp only [List.cons_append, A3k, B8g k c (i + 1) l t, List.length_cons]
  rw [show i + 1 + l.length = i + (l.length + 1) by omega]
  cases A.kid c (binds k i) with
  | bad e => rfl
  | ok c1 =>
   simp only [A2m.bind]
   cases A6n A a c1 with
   | bad e => rfl
   | ok a' =>
    simp only
    cases A5t A k (i + 1) l c with
    | bad e => rfl
    | ok l' =>
     simp only
     cases A.kid c (binds k ((i + (l.length + 1) : Nat) : Int)) with
     | bad e => rfl
     | ok c2 => simp only; cases A6n A t c2 <;> rfl
theorem B8f (k : Int) (c : C) : ∀ (l : List T) (t : T), A4u A k (l ++ [t]) c = (A4u A k l c).bind fun l' => (A.kid c (0, more k)).bind fun c' => (A6n A t c').bind fun t' => .ok (l' ++ [t'])
 | [], t => by simp only [List.nil_append, A3j, A4m, A2m.bind]
 | a :: l, t => by
  simp only [List.cons_append, A3j, B8f k c l t]
  cases A.kid c (0, more k) with
  | bad e => rfl
  | ok c1 =>
   simp only [A2m.bind]
   cases A6n A a c1 with
   | bad e => rfl
   | ok a' =>
    simp only
    cases A4u A k l c with
    | bad e => rfl
    | ok l' => simp only; cases A6n A t c1 <;> rfl
theorem B4t (k : Int) (c : C) : ∀ (l : List Br) (b : Br), A6b A k (l ++ [b]) c = (A6b A k l c).bind fun l' => (A.A1s c b.A1s).bind fun f => match f with
  | none => .ok l'
  | some f' => (A4u A k b.kids c).bind fun ks' => .ok (l' ++ [.mk f' ks'])
 | [], b => by
  simp only [List.nil_append, A3u, A4y, A2m.bind]
 | a :: l, b => by
  simp only [List.cons_append, A3u, B4t k c l b]
  cases A.A1s c a.A1s with
  | bad e => rfl
  | ok o =>
   cases o with
   | none => rfl
   | some f' =>
    simp only [A2m.bind]
    cases A4u A k a.kids c with
    | bad e => rfl
    | ok ks' =>
     simp only
     cases A6b A k l c with
     | bad e => rfl
     | ok l' =>
      simp only
      cases A.A1s c b.A1s with
      | bad e => rfl
      | ok o2 =>
       cases o2 with
       | none => rfl
       | some f2 => simp only; cases A4u A k b.kids c <;> rfl
theorem C8z {k e : Int} {c : C} : ∀ {l m : List T} {i : Nat}, A5t A k i l c = .bad e → A5t A k i (l ++ m) c = .bad e
 | [], m, i, h => by rw [A4n] at h; cases h
 | a :: l, m, i, h => by
  rw [List.cons_append, A3k]
  rw [A3k] at h
  cases h1 : A.kid c (binds k i) with
  | bad e' => rw [h1] at h; exact h
  | ok c1 =>
   rw [h1] at h
   simp only [A2m.bind] at h ⊢
   cases h2 : A6n A a c1 with
   | bad e' => rw [h2] at h; exact h
   | ok a' =>
    rw [h2] at h
    simp only at h ⊢
    cases h3 : A5t A k (i + 1) l c with
    | bad e' => rw [h3] at h; rw [C8z h3]; exact h
    | ok l' => rw [h3] at h; cases h
theorem C8w {k e : Int} {c : C} : ∀ {l m : List T}, A4u A k l c = .bad e → A4u A k (l ++ m) c = .bad e
 | [], m, h => by rw [A4m] at h; cases h
 | a :: l, m, h => by
  rw [List.cons_append, A3j]
  rw [A3j] at h
  cases h1 : A.kid c (0, more k) with
  | bad e' => rw [h1] at h; exact h
  | ok c1 =>
   rw [h1] at h
   simp only [A2m.bind] at h ⊢
   cases h2 : A6n A a c1 with
   | bad e' => rw [h2] at h; exact h
   | ok a' =>
    rw [h2] at h
    simp only at h ⊢
    cases h3 : A4u A k l c with
    | bad e' => rw [h3] at h; rw [C8w h3]; exact h
    | ok l' => rw [h3] at h; cases h
theorem C1k {k e : Int} {c : C} : ∀ {l m : List Br}, A6b A k l c = .bad e → A6b A k (l ++ m) c = .bad e
 | [], m, h => by rw [A4y] at h; cases h
 | a :: l, m, h => by
  rw [List.cons_append, A3u]
  rw [A3u] at h
  cases h1 : A.A1s c a.A1s with
  | bad e' => rw [h1] at h; exact h
  | ok o =>
   rw [h1] at h
   cases o with
   | none => exact C1k (l := l) h
   | some f' =>
    simp only [A2m.bind] at h ⊢
    cases h2 : A4u A k a.kids c with
    | bad e' => rw [h2] at h; exact h
    | ok a' =>
     rw [h2] at h
     simp only at h ⊢
     cases h3 : A6b A k l c with
     | bad e' => rw [h3] at h; rw [C1k h3]; exact h
     | ok l' => rw [h3] at h; cases h
theorem B3z {k : Int} {c : C} : ∀ {l l' : List T} {i : Nat}, A5t A k i l c = .ok l' → l'.length = l.length
 | [], l', i, h => by rw [A4n] at h; injection h with h; subst h; rfl
 | a :: l, l', i, h => by
  rw [A3k] at h
  obtain ⟨c1, _, h⟩ := A2m.A0q h
  obtain ⟨t', _, h⟩ := A2m.A0q h
  obtain ⟨ts', h3, h⟩ := A2m.A0q h
  injection h with h
  subst h
  simp [B3z h3]
theorem B3y {k : Int} {c : C} : ∀ {l l' : List T}, A4u A k l c = .ok l' → l'.length = l.length
 | [], l', h => by rw [A4m] at h; injection h with h; subst h; rfl
 | a :: l, l', h => by
  rw [A3j] at h
  obtain ⟨c1, _, h⟩ := A2m.A0q h
  obtain ⟨t', _, h⟩ := A2m.A0q h
  obtain ⟨ts', h3, h⟩ := A2m.A0q h
  injection h with h
  subst h
  simp [B3y h3]
theorem A8k {k : Int} {c : C} : ∀ {l l' : List Br}, A6b A k l c = .ok l' → l'.length ≤ l.length
 | [], l', h => by rw [A4y] at h; injection h with h; subst h; simp
 | a :: l, l', h => by
  rw [A3u] at h
  obtain ⟨o, _, h⟩ := A2m.A0q h
  cases o with
  | none => have := A8k (l := l) h; simp; omega
  | some f' =>
   obtain ⟨ks', _, h⟩ := A2m.A0q h
   obtain ⟨bs', h3, h⟩ := A2m.A0q h
   injection h with h
   subst h
   have := A8k h3
   simp; omega
end
end Go.Hy
