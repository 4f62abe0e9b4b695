/- Contracts of this program's functions and the laws that they need. -/
import Derived.WideShapes
import Derived.ArgAppend
import Derived.Test.YtibignmpjeemeaaGreatDoorP2
set_option linter.unusedVariables false
set_option linter.unusedSimpArgs false
set_option linter.unusedSectionVars false
namespace Go.Hy
section
variable {tn : Bool} {pn : Nat} {P : Program} [Tab P] {f : FuncId} {R : Ending → World → Prop} {B : By} {n : Fz} {K : List Item} {ops : Array Oper} {i : Nat} {l fin : List Nat} {σ : Nat → Value} {Γ : List Fact} {Ms Ms2 : List Az}
variable {dst : Option Tmp} {op : Op} {ty : TypeId} {pos : String} {after : Array Edge} {v : Value} {x y z : Operand}
theorem Ff  (k_ : De P f R B n K ops l (Ac σ dst v) Γ Ms) (h : ev σ x = v := by exact A8) (hd : Aa n dst = true := by rfl) : E9 P f R B n K ops l (C2 dst (.move x) ty) σ Γ Ms := B4 (A9y h) hd k_
theorem B5a  (k_ : NV tn pn P f R B n K ops fin l (Ac σ dst v) Γ Ms) (h : ev σ x = v := by exact A8) (hd : Aa n dst = true := by rfl) : Ib tn pn P f R B n K ops fin i l dst (.move x) ty σ Γ Ms := Cq (A9y h) hd k_
theorem B6z  (k_ : De P f R B n K ops l (Ac σ dst v) Γ Ms) (h : ev σ x = v := by exact A8) (hd : Aa n dst = true := by rfl) : E9 P f R B n K ops l (C2 dst (.assign x) ty) σ Γ Ms := B4 (Yj h) hd k_
theorem B5c  (k_ : NV tn pn P f R B n K ops fin l (Ac σ dst v) Γ Ms) (h : ev σ x = v := by exact A8) (hd : Aa n dst = true := by rfl) : Ib tn pn P f R B n K ops fin i l dst (.assign x) ty σ Γ Ms := Cq (Yj h) hd k_
theorem B0g  (k_ : De P f R B n K ops l (Ac σ dst v) Γ Ms) (hz : ev σ z = .bool true := by rfl) (h : ev σ x = v := by exact A8) (hd : Aa n dst = true := by rfl) : E9 P f R B n K ops l (C2 dst (.pick z x y) ty) σ Γ Ms := B4 (A3w hz h) hd k_
theorem A9j  (k_ : NV tn pn P f R B n K ops fin l (Ac σ dst v) Γ Ms) (hz : ev σ z = .bool true := by rfl) (h : ev σ x = v := by exact A8) (hd : Aa n dst = true := by rfl) : Ib tn pn P f R B n K ops fin i l dst (.pick z x y) ty σ Γ Ms := Cq (A3w hz h) hd k_
theorem B0h  (k_ : De P f R B n K ops l (Ac σ dst v) Γ Ms) (hz : ev σ z = .bool false := by rfl) (h : ev σ y = v := by exact A8) (hd : Aa n dst = true := by rfl) : E9 P f R B n K ops l (C2 dst (.pick z x y) ty) σ Γ Ms := B4 (A3x hz h) hd k_
theorem A9k  (k_ : NV tn pn P f R B n K ops fin l (Ac σ dst v) Γ Ms) (hz : ev σ z = .bool false := by rfl) (h : ev σ y = v := by exact A8) (hd : Aa n dst = true := by rfl) : Ib tn pn P f R B n K ops fin i l dst (.pick z x y) ty σ Γ Ms := Cq (A3x hz h) hd k_
theorem C8v {t t' : TypeId} {a b : Int} (k_ : De P f R B n K ops l (Ac σ dst (.int .i64 (a + b))) Γ Ms) (hx : ev σ x = .int .i64 a := by exact A8) (hy : ev σ y = .int .i64 b := by exact A8) (h : An (a + b) := by unfold An; first | omega | (unfold An at *; omega) | (unfold reach at *; omega) | (unfold Fp at *; omega) | (simp only [An, reach, Fp] at *; omega)) (hd : Aa n dst = true := by rfl) : E9 P f R B n K ops l (C2 dst (.binOp .add t x y t') ty) σ Γ Ms := B4 (B6m hx hy h) hd k_
theorem C7x {t t' : TypeId} {a b : Int} (k_ : NV tn pn P f R B n K ops fin l (Ac σ dst (.int .i64 (a + b))) Γ Ms) (hx : ev σ x = .int .i64 a := by exact A8) (hy : ev σ y = .int .i64 b := by exact A8) (h : An (a + b) := by unfold An; first | omega | (unfold An at *; omega) | (unfold reach at *; omega) | (unfold Fp at *; omega) | (simp only [An, reach, Fp] at *; omega)) (hd : Aa n dst = true := by rfl) : Ib tn pn P f R B n K ops fin i l dst (.binOp .add t x y t') ty σ Γ Ms := Cq (B6m hx hy h) hd k_
theorem C8m {t t' : TypeId} {a b : Int} (k_ : De P f R B n K ops l (Ac σ dst (.int .i64 (a - b))) Γ Ms) (hx : ev σ x = .int .i64 a := by exact A8) (hy : ev σ y = .int .i64 b := by exact A8) (h : An (a - b) := by unfold An; first | omega | (unfold An at *; omega) | (unfold reach at *; omega) | (unfold Fp at *; omega) | (simp only [An, reach, Fp] at *; omega)) (hd : Aa n dst = true := by rfl) : E9 P f R B n K ops l (C2 dst (.binOp .sub t x y t') ty) σ Γ Ms := B4 (B6c hx hy h) hd k_
theorem B4z {t t' : TypeId} {a b : Int} (k_ : NV tn pn P f R B n K ops fin l (Ac σ dst (.int .i64 (a - b))) Γ Ms) (hx : ev σ x = .int .i64 a := by exact A8) (hy : ev σ y = .int .i64 b := by exact A8) (h : An (a - b) := by unfold An; first | omega | (unfold An at *; omega) | (unfold reach at *; omega) | (unfold Fp at *; omega) | (simp only [An, reach, Fp] at *; omega)) (hd : Aa n dst = true := by rfl) : Ib tn pn P f R B n K ops fin i l dst (.binOp .sub t x y t') ty σ Γ Ms := Cq (B6c hx hy h) hd k_
theorem C7r {t t' : TypeId} {a b : Int} (k_ : NV tn pn P f R B n K ops fin l (Ac σ dst (.int .i64 (a * b))) Γ Ms) (hx : ev σ x = .int .i64 a := by exact A8) (hy : ev σ y = .int .i64 b := by exact A8) (h : An (a * b) := by unfold An; first | omega | (unfold An at *; omega) | (unfold reach at *; omega) | (unfold Fp at *; omega) | (simp only [An, reach, Fp] at *; omega)) (hd : Aa n dst = true := by rfl) : Ib tn pn P f R B n K ops fin i l dst (.binOp .mul t x y t') ty σ Γ Ms := Cq (C3s hx hy h) hd k_
theorem Yp {t t' : TypeId} {k : IntKind} {a b : Int} (k_ : De P f R B n K ops l (Ac σ dst (.bool (decide (a < b)))) Γ Ms) (hx : ev σ x = .int k a := by exact A8) (hy : ev σ y = .int k b := by exact A8) (hd : Aa n dst = true := by rfl) : E9 P f R B n K ops l (C2 dst (.binOp .lss t x y t') ty) σ Γ Ms := B4 (C3v hx hy) hd k_
theorem C8r {t t' : TypeId} {k : IntKind} {a b : Int} (k_ : De P f R B n K ops l (Ac σ dst (.bool (decide (a ≤ b)))) Γ Ms) (hx : ev σ x = .int k a := by exact A8) (hy : ev σ y = .int k b := by exact A8) (hd : Aa n dst = true := by rfl) : E9 P f R B n K ops l (C2 dst (.binOp .leq t x y t') ty) σ Γ Ms := B4 (C3w hx hy) hd k_
theorem A4q {t t' : TypeId} {k : IntKind} {a b : Int} (k_ : De P f R B n K ops l (Ac σ dst (.bool (decide (b < a)))) Γ Ms) (hx : ev σ x = .int k a := by exact A8) (hy : ev σ y = .int k b := by exact A8) (hd : Aa n dst = true := by rfl) : E9 P f R B n K ops l (C2 dst (.binOp .gtr t x y t') ty) σ Γ Ms := B4 (B6j hx hy) hd k_
theorem A2y {t t' : TypeId} {k : IntKind} {a b : Int} (k_ : NV tn pn P f R B n K ops fin l (Ac σ dst (.bool (decide (b < a)))) Γ Ms) (hx : ev σ x = .int k a := by exact A8) (hy : ev σ y = .int k b := by exact A8) (hd : Aa n dst = true := by rfl) : Ib tn pn P f R B n K ops fin i l dst (.binOp .gtr t x y t') ty σ Γ Ms := Cq (B6j hx hy) hd k_
theorem Yq {t t' : TypeId} {k : IntKind} {a b : Int} (k_ : De P f R B n K ops l (Ac σ dst (.bool (decide (b ≤ a)))) Γ Ms) (hx : ev σ x = .int k a := by exact A8) (hy : ev σ y = .int k b := by exact A8) (hd : Aa n dst = true := by rfl) : E9 P f R B n K ops l (C2 dst (.binOp .geq t x y t') ty) σ Γ Ms := B4 (C3x hx hy) hd k_
theorem Tj {t t' : TypeId} {k : IntKind} {a b : Int} (k_ : De P f R B n K ops l (Ac σ dst (.bool (decide (a = b)))) Γ Ms) (hx : ev σ x = .int k a := by exact A8) (hy : ev σ y = .int k b := by exact A8) (hd : Aa n dst = true := by rfl) : E9 P f R B n K ops l (C2 dst (.binOp .eql t x y t') ty) σ Γ Ms := B4 (A7n hx hy) hd k_
theorem A2z {t t' : TypeId} {k : IntKind} {a b : Int} (k_ : NV tn pn P f R B n K ops fin l (Ac σ dst (.bool (decide (a = b)))) Γ Ms) (hx : ev σ x = .int k a := by exact A8) (hy : ev σ y = .int k b := by exact A8) (hd : Aa n dst = true := by rfl) : Ib tn pn P f R B n K ops fin i l dst (.binOp .eql t x y t') ty σ Γ Ms := Cq (A7n hx hy) hd k_
theorem Vm {t t' : TypeId} {k : IntKind} {a b : Int} (k_ : De P f R B n K ops l (Ac σ dst (.bool (decide (a ≠ b)))) Γ Ms) (hx : ev σ x = .int k a := by exact A8) (hy : ev σ y = .int k b := by exact A8) (hd : Aa n dst = true := by rfl) : E9 P f R B n K ops l (C2 dst (.binOp .neq t x y t') ty) σ Γ Ms := B4 (B6f hx hy) hd k_
theorem Xp {t t' : TypeId} {k : IntKind} {a b : Int} (k_ : NV tn pn P f R B n K ops fin l (Ac σ dst (.bool (decide (a ≠ b)))) Γ Ms) (hx : ev σ x = .int k a := by exact A8) (hy : ev σ y = .int k b := by exact A8) (hd : Aa n dst = true := by rfl) : Ib tn pn P f R B n K ops fin i l dst (.binOp .neq t x y t') ty σ Γ Ms := Cq (B6f hx hy) hd k_
theorem C2g {t t' : TypeId} {s s' : ByteArray} (k_ : De P f R B n K ops l (Ac σ dst (.bool (!(s.toList == s'.toList)))) Γ Ms) (hx : ev σ x = .string s := by exact A8) (hy : ev σ y = .string s' := by exact A8) (hd : Aa n dst = true := by rfl) : E9 P f R B n K ops l (C2 dst (.binOp .neq t x y t') ty) σ Γ Ms := B4 (B6e hx hy) hd k_
theorem C1y {t t' : TypeId} {s s' : ByteArray} (k_ : NV tn pn P f R B n K ops fin l (Ac σ dst (.bool (!(s.toList == s'.toList)))) Γ Ms) (hx : ev σ x = .string s := by exact A8) (hy : ev σ y = .string s' := by exact A8) (hd : Aa n dst = true := by rfl) : Ib tn pn P f R B n K ops fin i l dst (.binOp .neq t x y t') ty σ Γ Ms := Cq (B6e hx hy) hd k_
theorem C2f {t : TypeId} {c : Bool} (k_ : De P f R B n K ops l (Ac σ dst (.bool (!c))) Γ Ms) (hx : ev σ x = .bool c := by exact A8) (hd : Aa n dst = true := by rfl) : E9 P f R B n K ops l (C2 dst (.unOp .not t x) ty) σ Γ Ms := B4 (B6d hx) hd k_
theorem T5 {t : TypeId} {c : Bool} (k_ : NV tn pn P f R B n K ops fin l (Ac σ dst (.bool (!c))) Γ Ms) (hx : ev σ x = .bool c := by exact A8) (hd : Aa n dst = true := by rfl) : Ib tn pn P f R B n K ops fin i l dst (.unOp .not t x) ty σ Γ Ms := Cq (B6d hx) hd k_
theorem B2z {vs : Array Value} {j : Nat} (k_ : De P f R B n K ops l (Ac σ dst v) Γ Ms) (hx : ev σ x = .tuple vs := by exact A8) (hj : vs[j]? = some v := by exact A8) (hd : Aa n dst = true := by rfl) : E9 P f R B n K ops l (C2 dst (.extract x j) ty) σ Γ Ms := B4 (Vb hx hj) hd k_
theorem B2a {vs : Array Value} {j : Nat} (k_ : NV tn pn P f R B n K ops fin l (Ac σ dst v) Γ Ms) (hx : ev σ x = .tuple vs := by exact A8) (hj : vs[j]? = some v := by exact A8) (hd : Aa n dst = true := by rfl) : Ib tn pn P f R B n K ops fin i l dst (.extract x j) ty σ Γ Ms := Cq (Vb hx hj) hd k_
theorem A7z {fn : Fn} {cap : Array Operand} {vs : List Value} (k_ : De P f R B n K ops l (Ac σ dst (.func fn #[] vs.toArray)) Γ Ms) (h : cap.toList.map (ev σ) = vs := by first | exact D2d (by first | ((conv => lhs; whnf); done) | rfl) | exact D2c (by first | ((conv => lhs; whnf); done) | rfl) (by first | ((conv => lhs; whnf); done) | rfl) | exact D2b (by first | ((conv => lhs; whnf); done) | rfl) (by first | ((conv => lhs; whnf); done) | rfl) (by first | ((conv => lhs; whnf); done) | rfl) | exact D2a (by first | ((conv => lhs; whnf); done) | rfl) (by first | ((conv => lhs; whnf); done) | rfl) (by first | ((conv => lhs; whnf); done) | rfl) (by first | ((conv => lhs; whnf); done) | rfl) | rfl) (hd : Aa n dst = true := by rfl) : E9 P f R B n K ops l (C2 dst (.makeFunc fn #[] cap) ty) σ Γ Ms := B4 (A3z h) hd k_
theorem B6v {ts : Array TypeId} {t e : TypeId} {A : Option Addr} {m c : Nat} (k_ : De P f R B n K ops l (Ac σ dst (.int .i64 (m : Int))) Γ Ms) (hx : ev σ x = .slice A m c := by exact A8) (ht : ts[0]? = some t := by rfl) (hu : Tab.und P t = some (.slice e) := by rfl) (hd : Aa n dst = true := by rfl) : E9 P f R B n K ops l (C2 dst (.call { callee := .builtin .len, args := #[x], argTypes := ts }) ty) σ Γ Ms := B4 (A9z ht hu hx) hd k_
theorem Xq {ts : Array TypeId} {t e : TypeId} {A : Option Addr} {m c : Nat} (k_ : NV tn pn P f R B n K ops fin l (Ac σ dst (.int .i64 (m : Int))) Γ Ms) (hx : ev σ x = .slice A m c := by exact A8) (ht : ts[0]? = some t := by rfl) (hu : Tab.und P t = some (.slice e) := by rfl) (hd : Aa n dst = true := by rfl) : Ib tn pn P f R B n K ops fin i l dst (.call { callee := .builtin .len, args := #[x], argTypes := ts }) ty σ Γ Ms := Cq (A9z ht hu hx) hd k_
theorem Vn {ts : Array TypeId} {t : TypeId} {s : ByteArray} (k_ : De P f R B n K ops l (Ac σ dst (.int .i64 (s.size : Int))) Γ Ms) (hx : ev σ x = .string s := by exact A8) (ht : ts[0]? = some t := by rfl) (hu : Tab.und P t = some .string := by rfl) (hd : Aa n dst = true := by rfl) : E9 P f R B n K ops l (C2 dst (.call { callee := .builtin .len, args := #[x], argTypes := ts }) ty) σ Γ Ms := B4 (B2o ht hu hx) hd k_
theorem C7s {ts : Array TypeId} {a b : Int} (k_ : NV tn pn P f R B n K ops fin l (Ac σ dst (.int .i64 (if b > a then b else a))) Γ Ms) (hx : ev σ x = .int .i64 a := by exact A8) (hy : ev σ y = .int .i64 b := by exact A8) (hd : Aa n dst = true := by rfl) : Ib tn pn P f R B n K ops fin i l dst (.call { callee := .builtin .max, args := #[x, y], argTypes := ts }) ty σ Γ Ms := Cq (C3u hx hy) hd k_
theorem C2h {ts : Array TypeId} {a b : Int} (k_ : De P f R B n K ops l (Ac σ dst (.int .i64 (if b < a then b else a))) Γ Ms) (hx : ev σ x = .int .i64 a := by exact A8) (hy : ev σ y = .int .i64 b := by exact A8) (hd : Aa n dst = true := by rfl) : E9 P f R B n K ops l (C2 dst (.call { callee := .builtin .min, args := #[x, y], argTypes := ts }) ty) σ Γ Ms := B4 (C3t hx hy) hd k_
theorem Mc {t : TypeId} {j bk off o : Nat} (k_ : De P f R B n K ops l (Ac σ dst (.pointer (some ⟨bk, off + o, none⟩))) Γ Ms) (hx : ev σ x = .pointer (some ⟨bk, off, none⟩) := by exact A8) (hf : Tab.foff P t j = some o := by rfl) (hd : Aa n dst = true := by rfl) : E9 P f R B n K ops l (C2 dst (.fieldAddr t x j) ty) σ Γ Ms := B4 (Qz hf hx) hd k_
theorem Oy {t : TypeId} {j bk off o : Nat} (k_ : NV tn pn P f R B n K ops fin l (Ac σ dst (.pointer (some ⟨bk, off + o, none⟩))) Γ Ms) (hx : ev σ x = .pointer (some ⟨bk, off, none⟩) := by exact A8) (hf : Tab.foff P t j = some o := by rfl) (hd : Aa n dst = true := by rfl) : Ib tn pn P f R B n K ops fin i l dst (.fieldAddr t x j) ty σ Γ Ms := Cq (Qz hf hx) hd k_
theorem Av {t : TypeId} {s bt : Nat} {zv : Value} {parts : Array (Nat × Operand)} {pv : List (Nat × Value)} {l' : List (Nat × Nat)} {cs : List Value} (k_ : De P f R B n K ops l (Ac σ dst (.agg cs.toArray)) Γ Ms) (hl : Tab.lay P t = some l' := by rfl) (hi : Tab.inf P t = some (s, bt, zv) := by rfl) (hp : parts.toList.map (fun (i, x) => (i, ev σ x)) = pv := by first | exact pv0  | exact pv1 (by first | ((conv => lhs; whnf); done) | rfl) | exact pv2 (by first | ((conv => lhs; whnf); done) | rfl) (by first | ((conv => lhs; whnf); done) | rfl) | exact pv3 (by first | ((conv => lhs; whnf); done) | rfl) (by first | ((conv => lhs; whnf); done) | rfl) (by first | ((conv => lhs; whnf); done) | rfl) | exact pv4 (by first | ((conv => lhs; whnf); done) | rfl) (by first | ((conv => lhs; whnf); done) | rfl) (by first | ((conv => lhs; whnf); done) | rfl) (by first | ((conv => lhs; whnf); done) | rfl) | exact pv5 (by first | ((conv => lhs; whnf); done) | rfl) (by first | ((conv => lhs; whnf); done) | rfl) (by first | ((conv => lhs; whnf); done) | rfl) (by first | ((conv => lhs; whnf); done) | rfl) (by first | ((conv => lhs; whnf); done) | rfl) | exact pv6 (by first | ((conv => lhs; whnf); done) | rfl) (by first | ((conv => lhs; whnf); done) | rfl) (by first | ((conv => lhs; whnf); done) | rfl) (by first | ((conv => lhs; whnf); done) | rfl) (by first | ((conv => lhs; whnf); done) | rfl) (by first | ((conv => lhs; whnf); done) | rfl) | rfl) (hb : Instr.fill (l'.toArray[·]?) zv.cells pv = some cs.toArray := by rfl) (hd : Aa n dst = true := by rfl) : E9 P f R B n K ops l (C2 dst (.build t parts) ty) σ Γ Ms := B4 (A4c hl hi hp hb) hd k_
theorem Gw {t : TypeId} {s bt : Nat} {zv : Value} {parts : Array (Nat × Operand)} {pv : List (Nat × Value)} {l' : List (Nat × Nat)} {cs : List Value} (k_ : NV tn pn P f R B n K ops fin l (Ac σ dst (.agg cs.toArray)) Γ Ms) (hl : Tab.lay P t = some l' := by rfl) (hi : Tab.inf P t = some (s, bt, zv) := by rfl) (hp : parts.toList.map (fun (i, x) => (i, ev σ x)) = pv := by first | exact pv0  | exact pv1 (by first | ((conv => lhs; whnf); done) | rfl) | exact pv2 (by first | ((conv => lhs; whnf); done) | rfl) (by first | ((conv => lhs; whnf); done) | rfl) | exact pv3 (by first | ((conv => lhs; whnf); done) | rfl) (by first | ((conv => lhs; whnf); done) | rfl) (by first | ((conv => lhs; whnf); done) | rfl) | exact pv4 (by first | ((conv => lhs; whnf); done) | rfl) (by first | ((conv => lhs; whnf); done) | rfl) (by first | ((conv => lhs; whnf); done) | rfl) (by first | ((conv => lhs; whnf); done) | rfl) | exact pv5 (by first | ((conv => lhs; whnf); done) | rfl) (by first | ((conv => lhs; whnf); done) | rfl) (by first | ((conv => lhs; whnf); done) | rfl) (by first | ((conv => lhs; whnf); done) | rfl) (by first | ((conv => lhs; whnf); done) | rfl) | exact pv6 (by first | ((conv => lhs; whnf); done) | rfl) (by first | ((conv => lhs; whnf); done) | rfl) (by first | ((conv => lhs; whnf); done) | rfl) (by first | ((conv => lhs; whnf); done) | rfl) (by first | ((conv => lhs; whnf); done) | rfl) (by first | ((conv => lhs; whnf); done) | rfl) | rfl) (hb : Instr.fill (l'.toArray[·]?) zv.cells pv = some cs.toArray := by rfl) (hd : Aa n dst = true := by rfl) : Ib tn pn P f R B n K ops fin i l dst (.build t parts) ty σ Γ Ms := Cq (A4c hl hi hp hb) hd k_
theorem Cb {t e : TypeId} {s bt bk o m c j : Nat} {zv : Value} {A : Option Addr} (k_ : De P f R B n K ops l (Ac σ dst (.pointer (some ⟨bk, o + j * s, none⟩))) Γ Ms) (hx : ev σ x = .slice A m c := by exact A8) (hA : A = some ⟨bk, o, none⟩ := by first | assumption | rfl) (hy : ev σ y = .int .i64 (j : Int) := by exact A8) (hu : Tab.und P t = some (.slice e) := by rfl) (hi : Tab.inf P e = some (s, bt, zv) := by rfl) (h1 : j < m := by omega) (hd : Aa n dst = true := by rfl) : E9 P f R B n K ops l (C2 dst (.indexAddr t x y) ty) σ Γ Ms := B4 (B6i hu hi hx hA hy h1) hd k_
theorem F1 {t e : TypeId} {s bt bk o m c j : Nat} {zv : Value} {A : Option Addr} (k_ : NV tn pn P f R B n K ops fin l (Ac σ dst (.pointer (some ⟨bk, o + j * s, none⟩))) Γ Ms) (hx : ev σ x = .slice A m c := by exact A8) (hA : A = some ⟨bk, o, none⟩ := by first | assumption | rfl) (hy : ev σ y = .int .i64 (j : Int) := by exact A8) (hu : Tab.und P t = some (.slice e) := by rfl) (hi : Tab.inf P e = some (s, bt, zv) := by rfl) (h1 : j < m := by omega) (hd : Aa n dst = true := by rfl) : Ib tn pn P f R B n K ops fin i l dst (.indexAddr t x y) ty σ Γ Ms := Cq (B6i hu hi hx hA hy h1) hd k_
theorem C0q {t t' e : TypeId} {A : Option Addr} {m c : Nat} (k_ : De P f R B n K ops l (Ac σ dst (.bool A.isNone)) Γ Ms) (hx : ev σ x = .slice A m c := by exact A8) (hy : ev σ y = .slice none 0 0 := by rfl) (hu : Tab.und P t = some (.slice e) := by rfl) (hd : Aa n dst = true := by rfl) : E9 P f R B n K ops l (C2 dst (.binOp .eql t x y t') ty) σ Γ Ms := B4 (A3y hu hx hy) hd k_
theorem C4k {t t' : TypeId} {a b : Int} (k_ : De P f R B n K ops l (Ac σ dst (.int .i64 (IntKind.i64.wrap (a + b)))) Γ Ms) (hx : ev σ x = .int .i64 a := by exact A8) (hy : ev σ y = .int .i64 b := by exact A8) (hd : Aa n dst = true := by rfl) : E9 P f R B n K ops l (C2 dst (.binOp .add t x y t') ty) σ Γ Ms := B4 (C0g hx hy) hd k_
theorem C4c {t t' : TypeId} {a b : Int} (k_ : De P f R B n K ops l (Ac σ dst (.int .i64 (IntKind.i64.wrap (a - b)))) Γ Ms) (hx : ev σ x = .int .i64 a := by exact A8) (hy : ev σ y = .int .i64 b := by exact A8) (hd : Aa n dst = true := by rfl) : E9 P f R B n K ops l (C2 dst (.binOp .sub t x y t') ty) σ Γ Ms := B4 (C0c hx hy) hd k_
theorem Ha {t t' : TypeId} {a b : Nat} (k_ : De P f R B n K ops l (Ac σ dst (.int .u32 ((a &&& b : Nat) : Int))) Γ Ms) (hx : ev σ x = .int .u32 (a : Int) := by exact A8) (hy : ev σ y = .int .u32 (b : Int) := by exact A8) (ha : a < 4294967296 := by first | assumption | omega) (hb : b < 4294967296 := by first | assumption | omega) (hd : Aa n dst = true := by rfl) : E9 P f R B n K ops l (C2 dst (.binOp .and t x y t') ty) σ Γ Ms := B4 (B0a hx hy ha hb) hd k_
theorem Ul {t t' : TypeId} {a b : Nat} (k_ : NV tn pn P f R B n K ops fin l (Ac σ dst (.int .u32 ((a &&& b : Nat) : Int))) Γ Ms) (hx : ev σ x = .int .u32 (a : Int) := by exact A8) (hy : ev σ y = .int .u32 (b : Int) := by exact A8) (ha : a < 4294967296 := by first | assumption | omega) (hb : b < 4294967296 := by first | assumption | omega) (hd : Aa n dst = true := by rfl) : Ib tn pn P f R B n K ops fin i l dst (.binOp .and t x y t') ty σ Γ Ms := Cq (B0a hx hy ha hb) hd k_
theorem Mb {t t' : TypeId} {a b : Nat} (k_ : De P f R B n K ops l (Ac σ dst (.int .u32 ((a ||| b : Nat) : Int))) Γ Ms) (hx : ev σ x = .int .u32 (a : Int) := by exact A8) (hy : ev σ y = .int .u32 (b : Int) := by exact A8) (ha : a < 4294967296 := by first | assumption | omega) (hb : b < 4294967296 := by first | assumption | omega) (hd : Aa n dst = true := by rfl) : E9 P f R B n K ops l (C2 dst (.binOp .or t x y t') ty) σ Γ Ms := B4 (C3r hx hy ha hb) hd k_
theorem No {t t' : TypeId} {a b : Nat} (k_ : De P f R B n K ops l (Ac σ dst (.int .u32 (Bh a b : Int))) Γ Ms) (hx : ev σ x = .int .u32 (a : Int) := by exact A8) (hy : ev σ y = .int .u32 (b : Int) := by exact A8) (hd : Aa n dst = true := by rfl) : E9 P f R B n K ops l (C2 dst (.binOp .andNot t x y t') ty) σ Γ Ms := B4 (A7o hx hy) hd k_
theorem Vl {t t' : TypeId} {k2 : IntKind} {a m : Nat} (k_ : De P f R B n K ops l (Ac σ dst (.int .u32 ((a * 2 ^ (min m 32) % 4294967296 : Nat) : Int))) Γ Ms) (hx : ev σ x = .int .u32 (a : Int) := by exact A8) (hy : ev σ y = .int k2 (m : Int) := by exact A8) (hd : Aa n dst = true := by rfl) : E9 P f R B n K ops l (C2 dst (.binOp .shl t x y t') ty) σ Γ Ms := B4 (C0e hx hy) hd k_
theorem Vk {t t' : TypeId} {k2 : IntKind} {a m : Nat} (k_ : De P f R B n K ops l (Ac σ dst (.int .u32 ((a / 2 ^ (min m 32) : Nat) : Int))) Γ Ms) (hx : ev σ x = .int .u32 (a : Int) := by exact A8) (hy : ev σ y = .int k2 (m : Int) := by exact A8) (hd : Aa n dst = true := by rfl) : E9 P f R B n K ops l (C2 dst (.binOp .shr t x y t') ty) σ Γ Ms := B4 (A9x hx hy) hd k_
theorem Uj {t t' : TypeId} {k2 : IntKind} {a m : Nat} (k_ : NV tn pn P f R B n K ops fin l (Ac σ dst (.int .u32 ((a / 2 ^ (min m 32) : Nat) : Int))) Γ Ms) (hx : ev σ x = .int .u32 (a : Int) := by exact A8) (hy : ev σ y = .int k2 (m : Int) := by exact A8) (hd : Aa n dst = true := by rfl) : Ib tn pn P f R B n K ops fin i l dst (.binOp .shr t x y t') ty σ Γ Ms := Cq (A9x hx hy) hd k_
theorem C2i {t t' : TypeId} {c c' : Cl} (k_ : De P f R B n K ops l (Ac σ dst (.bool (decide (c = c')))) Γ Ms) (hx : ev σ x = .agg (Ae c).toArray := by exact A8) (hy : ev σ y = .agg (Ae c').toArray := by exact A8) (ht : t = Tab.ceq P := by rfl) (hd : Aa n dst = true := by rfl) : E9 P f R B n K ops l (C2 dst (.binOp .eql t x y t') ty) σ Γ Ms := B4 (B6k ht hx hy) hd k_
theorem C7w {t t' : TypeId} {c c' : Cl} (k_ : NV tn pn P f R B n K ops fin l (Ac σ dst (.bool (decide (c = c')))) Γ Ms) (hx : ev σ x = .agg (Ae c).toArray := by exact A8) (hy : ev σ y = .agg (Ae c').toArray := by exact A8) (ht : t = Tab.ceq P := by rfl) (hd : Aa n dst = true := by rfl) : Ib tn pn P f R B n K ops fin i l dst (.binOp .eql t x y t') ty σ Γ Ms := Cq (B6k ht hx hy) hd k_
theorem C8p {t t' : TypeId} {c c' : Cl} (k_ : De P f R B n K ops l (Ac σ dst (.bool (!decide (c = c')))) Γ Ms) (hx : ev σ x = .agg (Ae c).toArray := by exact A8) (hy : ev σ y = .agg (Ae c').toArray := by exact A8) (ht : t = Tab.ceq P := by rfl) (hd : Aa n dst = true := by rfl) : E9 P f R B n K ops l (C2 dst (.binOp .neq t x y t') ty) σ Γ Ms := B4 (B6g ht hx hy) hd k_
theorem C1z {t t' : TypeId} {c c' : Cl} (k_ : NV tn pn P f R B n K ops fin l (Ac σ dst (.bool (!decide (c = c')))) Γ Ms) (hx : ev σ x = .agg (Ae c).toArray := by exact A8) (hy : ev σ y = .agg (Ae c').toArray := by exact A8) (ht : t = Tab.ceq P := by rfl) (hd : Aa n dst = true := by rfl) : Ib tn pn P f R B n K ops fin i l dst (.binOp .neq t x y t') ty σ Γ Ms := Cq (B6g ht hx hy) hd k_
theorem C0p {t : TypeId} {s : ByteArray} {j : Int} {c : UInt8} (k_ : De P f R B n K ops l (Ac σ dst (.int .u8 c.toNat)) Γ Ms) (hx : ev σ x = .string s := by exact A8) (hy : ev σ y = .int .i64 j := by exact A8) (hu : Tab.und P t = some .string := by rfl) (h0 : 0 ≤ j := by omega) (hc : s[j.toNat]? = some c := by assumption) (hd : Aa n dst = true := by rfl) : E9 P f R B n K ops l (C2 dst (.index t x y) ty) σ Γ Ms := B4 (A4a hu hx hy h0 hc) hd k_
theorem C4j {s d : TypeId} {k k' : IntKind} {ds : TypeDesc} {a : Int} (k_ : De P f R B n K ops l (Ac σ dst (.int k' (k'.wrap a))) Γ Ms) (hx : ev σ x = .int k a := by exact A8) (hs : Tab.und P s = some ds := by rfl) (hd' : Tab.und P d = some (.int k') := by rfl) (hd : Aa n dst = true := by rfl) : E9 P f R B n K ops l (C2 dst (.convert s d x) ty) σ Γ Ms := B4 (Kc hs hd' hx) hd k_
theorem C4i {t T' : TypeId} {bk k : Nat} {cs : List Value} {d : TypeDesc} (k_ : De P f R B n K ops l (Ac σ dst v) Γ Ms) (hx : ev σ x = .pointer (some ⟨bk, k, none⟩) := by exact A8) (hF : A7 bk cs T' ∈ Ms := by repeat (first | exact List.mem_cons_self | apply List.mem_cons_of_mem)) (hu : Tab.und P t = some d := by rfl) (hd' : (match d with | .struct _ | .array _ _ => true | _ => false) = false := by rfl) (hk : cs[k]? = some v := by exact A8) (hd : Aa n dst = true := by rfl) : E9 P f R B n K ops l (C2 dst (.load t x) ty) σ Γ Ms := Hf (B7q hx hF hu hd' hk) hd k_
theorem C7v {t T' : TypeId} {bk k : Nat} {cs : List Value} {d : TypeDesc} (k_ : NV false pn P f R B n K ops fin l (Ac σ dst v) Γ Ms) (hx : ev σ x = .pointer (some ⟨bk, k, none⟩) := by exact A8) (hF : A7 bk cs T' ∈ Ms := by repeat (first | exact List.mem_cons_self | apply List.mem_cons_of_mem)) (hu : Tab.und P t = some d := by rfl) (hd' : (match d with | .struct _ | .array _ _ => true | _ => false) = false := by rfl) (hk : cs[k]? = some v := by exact A8) (hd : Aa n dst = true := by rfl) : Ib false pn P f R B n K ops fin i l dst (.load t x) ty σ Γ Ms := Oj (B7q hx hF hu hd' hk) rfl hd k_
theorem Nn {t T' : TypeId} {bk k : Nat} {cs : List Value} {l' : List (Nat × Nat)} {s bt : Nat} {zv : Value} {cs' : List Value} (k_ : De P f R B n K ops l (Ac σ dst (.agg cs'.toArray)) Γ Ms) (hx : ev σ x = .pointer (some ⟨bk, k, none⟩) := by exact A8) (hF : A7 bk cs T' ∈ Ms := by repeat (first | exact List.mem_cons_self | apply List.mem_cons_of_mem)) (hu : Tab.lay P t = some l' := by rfl) (hi : Tab.inf P t = some (s, bt, zv) := by rfl) (hk : (cs.drop k).take s = cs' := by rfl) (hl : cs'.length = s := by rfl) (hd : Aa n dst = true := by rfl) : E9 P f R B n K ops l (C2 dst (.load t x) ty) σ Γ Ms := Hf (B7r hx hF hu hi hk hl) hd k_
theorem C7t {t T' : TypeId} {bk k : Nat} {cs : List Value} {l' : List (Nat × Nat)} {s bt : Nat} {zv : Value} {cs' : List Value} (k_ : NV false pn P f R B n K ops fin l (Ac σ dst (.agg cs'.toArray)) Γ Ms) (hx : ev σ x = .pointer (some ⟨bk, k, none⟩) := by exact A8) (hF : A7 bk cs T' ∈ Ms := by repeat (first | exact List.mem_cons_self | apply List.mem_cons_of_mem)) (hu : Tab.lay P t = some l' := by rfl) (hi : Tab.inf P t = some (s, bt, zv) := by rfl) (hk : (cs.drop k).take s = cs' := by rfl) (hl : cs'.length = s := by rfl) (hd : Aa n dst = true := by rfl) : Ib false pn P f R B n K ops fin i l dst (.load t x) ty σ Γ Ms := Oj (B7r hx hF hu hi hk hl) rfl hd k_
theorem B6x {t : TypeId} {l' : List (Nat × Nat)} {bt bk o i' : Nat} {a : SH} {zv : Value} {ls : List Cl} (k_ : De P f R B n K ops l (Ac σ dst (.agg (Ae (ls.getD i' B2)).toArray)) Γ Ms) (hx : ev σ x = .pointer (some ⟨bk, o + i' * 2, none⟩) := by exact A8) (hFa : CL ls a ∈ Γ ∧ a.1 = some ⟨bk, o, none⟩ := by exact ma0_) (hu : Tab.lay P t = some l' := by rfl) (hi : Tab.inf P t = some (2, bt, zv) := by rfl) (hlt : i' < ls.length := by omega) (hd : Aa n dst = true := by rfl) : E9 P f R B n K ops l (C2 dst (.load t x) ty) σ Γ Ms := Hf (C2m hx hFa.1 hFa.2 hu hi hlt) hd k_
theorem A9l {t : TypeId} {l' : List (Nat × Nat)} {bt bk o i' : Nat} {a : SH} {zv : Value} {ls : List Cl} (k_ : NV false pn P f R B n K ops fin l (Ac σ dst (.agg (Ae (ls.getD i' B2)).toArray)) Γ Ms) (hx : ev σ x = .pointer (some ⟨bk, o + i' * 2, none⟩) := by exact A8) (hFa : CL ls a ∈ Γ ∧ a.1 = some ⟨bk, o, none⟩ := by exact ma0_) (hu : Tab.lay P t = some l' := by rfl) (hi : Tab.inf P t = some (2, bt, zv) := by rfl) (hlt : i' < ls.length := by omega) (hd : Aa n dst = true := by rfl) : Ib false pn P f R B n K ops fin i l dst (.load t x) ty σ Γ Ms := Oj (C2m hx hFa.1 hFa.2 hu hi hlt) rfl hd k_
theorem C8t {t : TypeId} {l' : List (Nat × Nat)} {bt bk o i' : Nat} {a : SH} {zv : Value} {ts : List T} {VR VK VS : Nat → SH} (k_ : De P f R B n K ops l (Ac σ dst (.agg (tc (ts.getD i' t0) (VR i') (VK i') (VS i')).toArray)) Γ Ms) (hx : ev σ x = .pointer (some ⟨bk, o + i' * 6, none⟩) := by exact A8) (hFa : TLx ts a VR VK VS ∈ Γ ∧ a.1 = some ⟨bk, o, none⟩ := by exact ma0_) (hu : Tab.lay P t = some l' := by rfl) (hi : Tab.inf P t = some (6, bt, zv) := by rfl) (hlt : i' < ts.length := by omega) (hd : Aa n dst = true := by rfl) : E9 P f R B n K ops l (C2 dst (.load t x) ty) σ Γ Ms := Hf (B0s hx hFa.1 hFa.2 hu hi hlt) hd k_
theorem C7u {t : TypeId} {l' : List (Nat × Nat)} {bt bk o i' : Nat} {a : SH} {zv : Value} {ts : List T} {VR VK VS : Nat → SH} (k_ : NV false pn P f R B n K ops fin l (Ac σ dst (.agg (tc (ts.getD i' t0) (VR i') (VK i') (VS i')).toArray)) Γ Ms) (hx : ev σ x = .pointer (some ⟨bk, o + i' * 6, none⟩) := by exact A8) (hFa : TLx ts a VR VK VS ∈ Γ ∧ a.1 = some ⟨bk, o, none⟩ := by exact ma0_) (hu : Tab.lay P t = some l' := by rfl) (hi : Tab.inf P t = some (6, bt, zv) := by rfl) (hlt : i' < ts.length := by omega) (hd : Aa n dst = true := by rfl) : Ib false pn P f R B n K ops fin i l dst (.load t x) ty σ Γ Ms := Oj (B0s hx hFa.1 hFa.2 hu hi hlt) rfl hd k_
theorem C4g {t : TypeId} {d : TypeDesc} {bk o i' k : Nat} {a : SH} {ts : List T} {VR VK VS : Nat → SH} (k_ : De P f R B n K ops l (Ac σ dst v) Γ Ms) (hx : ev σ x = .pointer (some ⟨bk, o + i' * 6 + k, none⟩) := by exact A8) (hFa : TLx ts a VR VK VS ∈ Γ ∧ a.1 = some ⟨bk, o, none⟩ := by exact ma0_) (hu : Tab.und P t = some d := by rfl) (hd' : (match d with | .struct _ | .array _ _ => true | _ => false) = false := by rfl) (hk : (tc (ts.getD i' t0) (VR i') (VK i') (VS i'))[k]? = some v := by exact A8) (hlt : i' < ts.length := by omega) (hd : Aa n dst = true := by rfl) : E9 P f R B n K ops l (C2 dst (.load t x) ty) σ Γ Ms := Hf (A5f hx hFa.1 hFa.2 hu hd' hk hlt) hd k_
theorem Zu {t : TypeId} {d : TypeDesc} {bk o i' k : Nat} {a : SH} {ts : List T} {VR VK VS : Nat → SH} (k_ : NV false pn P f R B n K ops fin l (Ac σ dst v) Γ Ms) (hx : ev σ x = .pointer (some ⟨bk, o + i' * 6 + k, none⟩) := by exact A8) (hFa : TLx ts a VR VK VS ∈ Γ ∧ a.1 = some ⟨bk, o, none⟩ := by exact ma0_) (hu : Tab.und P t = some d := by rfl) (hd' : (match d with | .struct _ | .array _ _ => true | _ => false) = false := by rfl) (hk : (tc (ts.getD i' t0) (VR i') (VK i') (VS i'))[k]? = some v := by exact A8) (hlt : i' < ts.length := by omega) (hd : Aa n dst = true := by rfl) : Ib false pn P f R B n K ops fin i l dst (.load t x) ty σ Γ Ms := Oj (A5f hx hFa.1 hFa.2 hu hd' hk hlt) rfl hd k_
theorem C8u {t : TypeId} {l' : List (Nat × Nat)} {bt bk o i' : Nat} {a : SH} {zv : Value} {bs : List Br} {VF VK : Nat → SH} (k_ : De P f R B n K ops l (Ac σ dst (.agg (bc (bs.getD i' B5) (VF i') (VK i')).toArray)) Γ Ms) (hx : ev σ x = .pointer (some ⟨bk, o + i' * 2, none⟩) := by exact A8) (hFa : BLx bs a VF VK ∈ Γ ∧ a.1 = some ⟨bk, o, none⟩ := by exact ma0_) (hu : Tab.lay P t = some l' := by rfl) (hi : Tab.inf P t = some (2, bt, zv) := by rfl) (hlt : i' < bs.length := by omega) (hd : Aa n dst = true := by rfl) : E9 P f R B n K ops l (C2 dst (.load t x) ty) σ Γ Ms := Hf (C9i hx hFa.1 hFa.2 hu hi hlt) hd k_
theorem Vo {t : TypeId} {d : TypeDesc} {bk o i' k : Nat} {a : SH} {bs : List Br} {VF VK : Nat → SH} (k_ : De P f R B n K ops l (Ac σ dst v) Γ Ms) (hx : ev σ x = .pointer (some ⟨bk, o + i' * 2 + k, none⟩) := by exact A8) (hFa : BLx bs a VF VK ∈ Γ ∧ a.1 = some ⟨bk, o, none⟩ := by exact ma0_) (hu : Tab.und P t = some d := by rfl) (hd' : (match d with | .struct _ | .array _ _ => true | _ => false) = false := by rfl) (hk : (bc (bs.getD i' B5) (VF i') (VK i'))[k]? = some v := by exact A8) (hlt : i' < bs.length := by omega) (hd : Aa n dst = true := by rfl) : E9 P f R B n K ops l (C2 dst (.load t x) ty) σ Γ Ms := Hf (B7o hx hFa.1 hFa.2 hu hd' hk hlt) hd k_
theorem Zv {t : TypeId} {d : TypeDesc} {bk o i' k : Nat} {a : SH} {bs : List Br} {VF VK : Nat → SH} (k_ : NV false pn P f R B n K ops fin l (Ac σ dst v) Γ Ms) (hx : ev σ x = .pointer (some ⟨bk, o + i' * 2 + k, none⟩) := by exact A8) (hFa : BLx bs a VF VK ∈ Γ ∧ a.1 = some ⟨bk, o, none⟩ := by exact ma0_) (hu : Tab.und P t = some d := by rfl) (hd' : (match d with | .struct _ | .array _ _ => true | _ => false) = false := by rfl) (hk : (bc (bs.getD i' B5) (VF i') (VK i'))[k]? = some v := by exact A8) (hlt : i' < bs.length := by omega) (hd : Aa n dst = true := by rfl) : Ib false pn P f R B n K ops fin i l dst (.load t x) ty σ Γ Ms := Oj (B7o hx hFa.1 hFa.2 hu hd' hk hlt) rfl hd k_
theorem Ay {t : TypeId} {cs : List Value} (k_ : ∀ b, De P f R B n K ops l (Ac σ dst ((fun b => .pointer (some ⟨b, 0, none⟩)) b)) Γ (A7 b cs t :: Ms)) (hx : (ev σ x).cells = cs.toArray := by rfl) (hd : Aa n dst = true := by rfl) : E9 P f R B n K ops l (C2 dst (.box t x) ty) σ Γ Ms := K9 (C7i hx) hd k_
theorem Ax {t : TypeId} {s bt : Nat} {zv : Value} {cs : List Value} (k_ : ∀ b, De P f R B n K ops l (Ac σ dst ((fun b => .pointer (some ⟨b, 0, none⟩)) b)) Γ (A7 b cs t :: Ms)) (hi : Tab.inf P t = some (s, bt, zv) := by rfl) (hz : zv.cells = cs.toArray := by rfl) (hd : Aa n dst = true := by rfl) : E9 P f R B n K ops l (C2 dst (.alloc t) ty) σ Γ Ms := K9 (A6j hi hz) hd k_
theorem Uk {t : TypeId} {s bt : Nat} {zv : Value} {cs : List Value} (k_ : ∀ b, NV tn pn P f R B n K ops fin l (Ac σ dst ((fun b => .pointer (some ⟨b, 0, none⟩)) b)) Γ (A7 b cs t :: Ms)) (hi : Tab.inf P t = some (s, bt, zv) := by rfl) (hz : zv.cells = cs.toArray := by rfl) (hd : Aa n dst = true := by rfl) : Ib tn pn P f R B n K ops fin i l dst (.alloc t) ty σ Γ Ms := A4t (A6j hi hz) rfl hd k_
theorem C8q {t e : TypeId} {sz bt len : Nat} {zv : Value} {parts : Array (Nat × Operand)} {pv : List (Nat × Value)} {cs : List Value} (k_ : ∀ b, De P f R B n K ops l (Ac σ dst ((fun b => .slice (some ⟨b, 0, none⟩) len len) b)) Γ (A7 b cs e :: Ms)) (hu : Tab.und P t = some (.slice e) := by rfl) (hi : Tab.inf P e = some (sz, bt, zv) := by rfl) (hle : len * sz ≤ 16777216 := by decide) (hp : parts.toList.map (fun (i, x) => (i, ev σ x)) = pv := by first | exact pv0  | exact pv1 (by first | ((conv => lhs; whnf); done) | rfl) | exact pv2 (by first | ((conv => lhs; whnf); done) | rfl) (by first | ((conv => lhs; whnf); done) | rfl) | exact pv3 (by first | ((conv => lhs; whnf); done) | rfl) (by first | ((conv => lhs; whnf); done) | rfl) (by first | ((conv => lhs; whnf); done) | rfl) | exact pv4 (by first | ((conv => lhs; whnf); done) | rfl) (by first | ((conv => lhs; whnf); done) | rfl) (by first | ((conv => lhs; whnf); done) | rfl) (by first | ((conv => lhs; whnf); done) | rfl) | exact pv5 (by first | ((conv => lhs; whnf); done) | rfl) (by first | ((conv => lhs; whnf); done) | rfl) (by first | ((conv => lhs; whnf); done) | rfl) (by first | ((conv => lhs; whnf); done) | rfl) (by first | ((conv => lhs; whnf); done) | rfl) | exact pv6 (by first | ((conv => lhs; whnf); done) | rfl) (by first | ((conv => lhs; whnf); done) | rfl) (by first | ((conv => lhs; whnf); done) | rfl) (by first | ((conv => lhs; whnf); done) | rfl) (by first | ((conv => lhs; whnf); done) | rfl) (by first | ((conv => lhs; whnf); done) | rfl) | rfl) (hf : Instr.fill (fun i => some (i * sz, sz)) ((List.range (len * sz)).map (zv.cells[· % zv.cells.size]!)).toArray pv = some cs.toArray := by rfl) (hd : Aa n dst = true := by rfl) : E9 P f R B n K ops l (C2 dst (.buildSlice t len parts) ty) σ Γ Ms := K9 (Ww hu hi hle hp hf) hd k_
theorem Eg {t e : TypeId} {sz bt : Nat} {zv : Value} {cs : List Value} (k_ : ∀ b, De P f R B n K ops l (Ac σ dst ((fun b => .slice (some ⟨b, 0, none⟩) 1 1) b)) Γ (A7 b cs e :: Ms)) (hu : Tab.und P t = some (.slice e) := by rfl) (hi : Tab.inf P e = some (sz, bt, zv) := by rfl) (hle : sz ≤ 16777216 := by decide) (hx : (ev σ x).cells = cs.toArray := by rfl) (hl : cs.length = sz := by rfl) (hd : Aa n dst = true := by rfl) : E9 P f R B n K ops l (C2 dst (.buildSlice t 1 #[(0, x)]) ty) σ Γ Ms := K9 (A2i hu hi hle hx hl) hd k_
theorem Nb {t e : TypeId} {sz bt : Nat} {zv : Value} {cs : List Value} (k_ : ∀ b, NV tn pn P f R B n K ops fin l (Ac σ dst ((fun b => .slice (some ⟨b, 0, none⟩) 1 1) b)) Γ (A7 b cs e :: Ms)) (hu : Tab.und P t = some (.slice e) := by rfl) (hi : Tab.inf P e = some (sz, bt, zv) := by rfl) (hle : sz ≤ 16777216 := by decide) (hx : (ev σ x).cells = cs.toArray := by rfl) (hl : cs.length = sz := by rfl) (hd : Aa n dst = true := by rfl) : Ib tn pn P f R B n K ops fin i l dst (.buildSlice t 1 #[(0, x)]) ty σ Γ Ms := A4t (A2i hu hi hle hx hl) rfl hd k_
theorem B4y {t e : TypeId} {sz bt : Nat} {zv : Value} {cs : List Value} (F : Nat → List Fact) (hF : ∀ b M w, St B Γ (A7 b cs e :: M) w → St B (F b ++ Γ) M w) (k_ : ∀ b, NV tn pn P f R B n K ops fin l (Ac σ dst ((fun b => .slice (some ⟨b, 0, none⟩) 1 1) b)) (F b ++ Γ) Ms) (hu : Tab.und P t = some (.slice e) := by rfl) (hi : Tab.inf P e = some (sz, bt, zv) := by rfl) (hle : sz ≤ 16777216 := by decide) (hx : (ev σ x).cells = cs.toArray := by rfl) (hl : cs.length = sz := by rfl) (hd : Aa n dst = true := by rfl) (hz : Nat.beq pn 1000001 = true := by rfl) : Ib tn pn P f R B n K ops fin i l dst (.buildSlice t 1 #[(0, x)]) ty σ Γ Ms := Sj F (A2i hu hi hle hx hl) rfl rfl hF hd hz k_
theorem A7x {t e : TypeId} {sz bt : Nat} {zv : Value} {cs cs2 : List Value} (k_ : ∀ b, De P f R B n K ops l (Ac σ dst ((fun b => .slice (some ⟨b, 0, none⟩) 2 2) b)) Γ (A7 b (cs ++ cs2) e :: Ms)) (hu : Tab.und P t = some (.slice e) := by rfl) (hi : Tab.inf P e = some (sz, bt, zv) := by rfl) (hle : 2 * sz ≤ 16777216 := by decide) (hx : (ev σ x).cells = cs.toArray := by rfl) (hy : (ev σ y).cells = cs2.toArray := by rfl) (hl : cs.length = sz := by rfl) (hl2 : cs2.length = sz := by rfl) (hd : Aa n dst = true := by rfl) : E9 P f R B n K ops l (C2 dst (.buildSlice t 2 #[(0, x), (1, y)]) ty) σ Γ Ms := K9 (B1m hu hi hle hx hy hl hl2) hd k_
theorem A6v {t e : TypeId} {sz bt : Nat} {zv : Value} {cs cs2 : List Value} (F : Nat → List Fact) (hF : ∀ b M w, St B Γ (A7 b (cs ++ cs2) e :: M) w → St B (F b ++ Γ) M w) (k_ : ∀ b, NV tn pn P f R B n K ops fin l (Ac σ dst ((fun b => .slice (some ⟨b, 0, none⟩) 2 2) b)) (F b ++ Γ) Ms) (hu : Tab.und P t = some (.slice e) := by rfl) (hi : Tab.inf P e = some (sz, bt, zv) := by rfl) (hle : 2 * sz ≤ 16777216 := by decide) (hx : (ev σ x).cells = cs.toArray := by rfl) (hy : (ev σ y).cells = cs2.toArray := by rfl) (hl : cs.length = sz := by rfl) (hl2 : cs2.length = sz := by rfl) (hd : Aa n dst = true := by rfl) (hz : Nat.beq pn 1000001 = true := by rfl) : Ib tn pn P f R B n K ops fin i l dst (.buildSlice t 2 #[(0, x), (1, y)]) ty σ Γ Ms := Sj F (B1m hu hi hle hx hy hl hl2) rfl rfl hF hd hz k_
theorem A7y {t e : TypeId} {sz bt : Nat} {zv : Value} (k_ : ∀ b, De P f R B n K ops l (Ac σ dst ((fun b => .slice (some ⟨b, 0, none⟩) 0 0) b)) Γ (A7 b [] e :: Ms)) (hu : Tab.und P t = some (.slice e) := by rfl) (hi : Tab.inf P e = some (sz, bt, zv) := by rfl) (hd : Aa n dst = true := by rfl) : E9 P f R B n K ops l (C2 dst (.buildSlice t 0 #[]) ty) σ Γ Ms := K9 (C1s hu hi) hd k_
theorem D1p {t T' : TypeId} {b s bt : Nat} {zv : Value} {cs cs' : List Value} (k_ : De P f R B n K ops l σ Γ (A7 b cs' T' :: Ms2)) (hx : ev σ x = .pointer (some ⟨b, 0, none⟩) := by exact A8) (hm : Ms.Perm (A7 b cs T' :: Ms2) := by first | exact Va | exact Ad | exact B7 | exact F9 | exact Cx | exact Gk | exact C1) (hy : (ev σ y).cells = cs'.toArray := by rfl) (hi : Tab.inf P t = some (s, bt, zv) := by rfl) (hl : cs'.length = s := by rfl) (hl2 : cs.length = s := by rfl) (h1 : J3 cs' = true := by rfl) : E9 P f R B n K ops l (C2 none (.store t x y) ty) σ Γ Ms := Uv (B5n hx hy hm hi hl hl2 h1) k_
theorem C8n {t T' : TypeId} {b k bt : Nat} {zv : Value} {cs cs' : List Value} (k_ : De P f R B n K ops l σ Γ (A7 b cs' T' :: Ms2)) (hx : ev σ x = .pointer (some ⟨b, k, none⟩) := by exact A8) (hm : Ms.Perm (A7 b cs T' :: Ms2) := by first | exact Va | exact Ad | exact B7 | exact F9 | exact Cx | exact Gk | exact C1) (hy : ev σ y = v := by exact A8) (hi : Tab.inf P t = some (1, bt, zv) := by rfl) (h1 : v.oneCell' = true := by rfl) (hk : k < cs.length := by exact Nat.le_of_ble_eq_true rfl) (hc : cs.set k v = cs' := by rfl) : E9 P f R B n K ops l (C2 none (.store t x y) ty) σ Γ Ms := by
 subst hc
 exact Uv (B9x hx hy hm hi h1 hk) k_
theorem G1 {t e T' : TypeId} {ts : Array TypeId} {sz bt n' m c b : Nat} {zv : Value} {a : SH} {xs cs : List Value} (k_ : ∀ a' : SH, De P f R B n K ops l (Ac σ dst (sl a' (n' + m))) Γ (Ag sz e a' (n' + m) (xs ++ cs) :: A7 b cs T' :: Ms2)) (hm : Ms.Perm (Ag sz e a n' xs :: A7 b cs T' :: Ms2) := by first | exact Va | exact Ad | exact B7 | exact F9 | exact Cx | exact Gk | exact C1) (hx : ev σ x = sl a n' := by rfl) (hy : ev σ y = .slice (some ⟨b, 0, none⟩) m c := by exact A8) (hts : ts = #[t, t] := by rfl) (hu : Tab.und P t = some (.slice e) := by rfl) (hi : Tab.inf P e = some (sz, bt, zv) := by rfl) (hzs : zv.cells.size = sz := by rfl) (hsz : 0 < sz := by exact Nat.le_of_ble_eq_true rfl) (hl : cs.length = m * sz := by rfl) (h1 : J3 cs = true := by rfl) (hb : (n' + m) * bt ≤ 140737488355328 := by first | omega | (unfold reach at *; omega) | (unfold reach Fp at *; omega)) (hnm : n' + m ≤ 9223372036854775807 := by first | omega | (unfold reach at *; omega) | (unfold reach Fp at *; omega)) (hd : Aa n dst = true := by rfl) : E9 P f R B n K ops l (C2 dst (.call { callee := .builtin .append, args := #[x, y], argTypes := ts }) ty) σ Γ Ms := Zz (B9p hm hx hy hts hu hi hzs hsz hl h1 hb hnm) hd k_
theorem Jt {t e : TypeId} {ts : Array TypeId} {bt n' : Nat} {zv : Value} {a b : SH} {xs : List Value} {ls : List Cl} (k_ : ∀ a' : SH, De P f R B n K ops l (Ac σ dst (sl a' (n' + ls.length))) Γ (Ag 2 e a' (n' + ls.length) (xs ++ A5 ls) :: Ms2)) (hF : CL ls b ∈ Γ) (hm : Ms.Perm (Ag 2 e a n' xs :: Ms2) := by first | exact Va | exact Ad | exact B7 | exact F9 | exact Cx | exact Gk | exact C1) (hx : ev σ x = sl a n' := by rfl) (hy : ev σ y = sl b ls.length := by rfl) (hts : ts = #[t, t] := by rfl) (hu : Tab.und P t = some (.slice e) := by rfl) (hi : Tab.inf P e = some (2, bt, zv) := by rfl) (hzs : zv.cells.size = 2 := by rfl) (hb : (n' + ls.length) * bt ≤ 140737488355328 := by first | omega | (unfold reach at *; omega) | (unfold reach Fp at *; omega)) (hnm : n' + ls.length ≤ 9223372036854775807 := by first | omega | (unfold reach at *; omega) | (unfold reach Fp at *; omega)) (hd : Aa n dst = true := by rfl) : E9 P f R B n K ops l (C2 dst (.call { callee := .builtin .append, args := #[x, y], argTypes := ts }) ty) σ Γ Ms := Zz (A3g hm hF hx hy hts hu hi hzs hb hnm) hd k_
theorem B2x [TyF P] [TabM P] {t : TypeId} (k_ : ∀ b, De P f R B n K ops l (Ac σ dst (.map (some b))) Γ (Vs b [] :: Ms)) (hd : Aa n dst = true := by rfl) : E9 P f R B n K ops l (C2 dst (.makeMap t none) ty) σ Γ Ms := Zz A6z hd k_
theorem B2y [TyF P] [TabM P] {t e : TypeId} {s bt b : Nat} {c : Cl} {keys : List Cl} (k_ : De P f R B n K ops l (Ac σ dst (.bool (decide (c ∈ keys)))) Γ Ms) (hx : ev σ x = .map (some b) := by exact A8) (hm : Vs b keys ∈ Ms := by repeat (first | exact List.mem_cons_self | apply List.mem_cons_of_mem)) (hy : ev σ y = Gc c := by rfl) (hc : u32 c := by assumption) (hu : Tab.und P t = some (.map (TyF.tC P) e) := by rfl) (hi : Tab.inf P e = some (s, bt, .bool false) := by rfl) (hd : Aa n dst = true := by rfl) : E9 P f R B n K ops l (C2 dst (.lookup t x y false) ty) σ Γ Ms := Hf (B3j hx hm hc hy hu hi) hd k_
theorem B6u [TyF P] [TabM P] {t e : TypeId} {b : Nat} {c : Cl} {keys : List Cl} (k_ : De P f R B n K ops l σ Γ (Vs b (keys ++ [c]) :: Ms2)) (hx : ev σ x = .map (some b) := by exact A8) (hm : Ms.Perm (Vs b keys :: Ms2) := by first | exact Va | exact Ad | exact B7 | exact F9 | exact Cx | exact Gk | exact C1) (hy : ev σ y = Gc c := by rfl) (hc : u32 c := by assumption) (hn : c ∉ keys := by assumption) (hz : ev σ z = .bool true := by rfl) (hu : Tab.und P t = some (.map (TyF.tC P) e) := by rfl) : E9 P f R B n K ops l (C2 none (.mapUpdate t x y z) ty) σ Γ Ms := Uv (A0h hx hm hc hn hy hz hu) k_
theorem Wb {c : FuncId} {args : Array Value} {as : Array Operand} {ts : Array TypeId} {g : Operand} (hg : ev σ g = .func (.func c) #[] #[]) (ha : as.toList.map (ev σ) = args.toList) (hc : ∀ (args : Array Value) (w : World), (callFunc c args).run P w = .ok (.enter c args) w) : O7 P σ (.call { callee := .value g, args := as, argTypes := ts }) ty c args := fun w => by
 have ha : as.map (ev σ) = args := Array.ext' (by simpa using ha)
 subst ha
 simp [C2, execOp, resolve, hg, Deferred.ofValue, invoke, hc]
theorem A8q {c : FuncId} {args cap : List Value} {as : Array Operand} {ts : Array TypeId} {g : Operand} (hg : ev σ g = .func (.func c) #[] cap.toArray) (ha : as.toList.map (ev σ) = args) (hc : ∀ (args : Array Value) (w : World), (callFunc c args).run P w = .ok (.enter c args) w) : O7 P σ (.call { callee := .value g, args := as, argTypes := ts }) ty c (args ++ cap).toArray := fun w => by
 have ha : as.map (ev σ) = args.toArray := Array.ext' (by simpa using ha)
 simp [ha, C2, execOp, resolve, hg, Deferred.ofValue, invoke, hc]
theorem A0 {c : FuncId} {args : Array Value} {as : Array Operand} {ts : Array TypeId} {g : Operand} {pre : List Fact} {Ms0 : List Az} {X : Type} {val : X → Value} {N : X → List Fact} {Ms1 : X → List Az}
  (hc : ∀ (args : Array Value) (w : World), (callFunc c args).run P w = .ok (.enter c args) w) (hsp : Spec P c args pre Ms0 val N Ms1) (kk : ∀ x, De P f R B n K ops l (Ac σ dst (val x)) (N x ++ Γ) (Ms1 x ++ Ms2))
  (hg : ev σ g = .func (.func c) #[] #[] := by rfl) (ha : as.toList.map (ev σ) = args.toList := by rfl) (hpre : ∀ F, F ∈ pre → F ∈ Γ := by first | (simp; done) | (simp +contextual; done)) (hm : Ms.Perm (Ms0 ++ Ms2) := by first | exact List.Perm.refl _ | exact B6b | exact B6a | exact B5z | exact B5y | exact Ad | exact B7 | exact F9 | exact Cx | exact B5x) (hd : Aa n dst = true := by rfl) : E9 P f R B n K ops l (C2 dst (.call { callee := .value g, args := as, argTypes := ts }) ty) σ Γ Ms :=
 A9p (Wb hg ha hc) hsp hpre hm hd kk
theorem Dy {c : FuncId} {args cap al : List Value} {as : Array Operand} {ts : Array TypeId} {g : Operand} {pre : List Fact} {Ms0 : List Az} {X : Type} {val : X → Value} {N : X → List Fact} {Ms1 : X → List Az}
  (hc : ∀ (args : Array Value) (w : World), (callFunc c args).run P w = .ok (.enter c args) w) (hsp : Spec P c al.toArray pre Ms0 val N Ms1) (kk : ∀ x, De P f R B n K ops l (Ac σ dst (val x)) (N x ++ Γ) (Ms1 x ++ Ms2))
  (hg : ev σ g = .func (.func c) #[] cap.toArray := by rfl) (ha : as.toList.map (ev σ) = args := by rfl) (hal : args ++ cap = al := by rfl) (hpre : ∀ F, F ∈ pre → F ∈ Γ := by first | (simp; done) | (simp +contextual; done)) (hm : Ms.Perm (Ms0 ++ Ms2) := by first | exact List.Perm.refl _ | exact B6b | exact B6a | exact B5z | exact B5y | exact Ad | exact B7 | exact F9 | exact Cx | exact B5x) (hd : Aa n dst = true := by rfl) : E9 P f R B n K ops l (C2 dst (.call { callee := .value g, args := as, argTypes := ts }) ty) σ Γ Ms :=
 A9p (A8q hg ha hc) (hal ▸ hsp) hpre hm hd kk
theorem B1 {c : FuncId} {args : Array Value} {as : Array Operand} {ts : Array TypeId} {g : Operand} {pre : List Fact} {X : Type} {val : X → Value} {N : X → List Fact} {Ms1 : X → List Az}
  (hc : ∀ (args : Array Value) (w : World), (callFunc c args).run P w = .ok (.enter c args) w) (hsp : Spec P c args pre [] val N Ms1) (kk : ∀ x, NV tn pn P f R B n K ops fin l (Ac σ dst (val x)) (N x ++ Γ) (Ms1 x ++ Ms))
  (hg : ev σ g = .func (.func c) #[] #[] := by rfl) (ha : as.toList.map (ev σ) = args.toList := by rfl) (hpre : ∀ F, F ∈ pre → F ∈ Γ := by first | (simp; done) | (simp +contextual; done)) (hd : Aa n dst = true := by rfl) : Ib tn pn P f R B n K ops fin i l dst (.call { callee := .value g, args := as, argTypes := ts }) ty σ Γ Ms :=
 B0l (Wb hg ha hc) hsp hpre rfl rfl hd kk
theorem C8o {c : FuncId} {args : Array Value} {as : Array Operand} {ts : Array TypeId} {g : Operand} {pre : List Fact} {chain : List PanicEntry}
  (hc : ∀ (args : Array Value) (w : World), (callFunc c args).run P w = .ok (.enter c args) w) (hsp : O5 P c args pre chain) (hR : ∀ w, St B [] [] w → R (.panicked chain) w)
  (hg : ev σ g = .func (.func c) #[] #[] := by rfl) (ha : as.toList.map (ev σ) = args.toList := by rfl) (hpre : ∀ F, F ∈ pre → F ∈ Γ := by first | (simp; done) | (simp +contextual; done)) (hD : n.defs = [] := by rfl) (hK : okK n.kind := by first | exact .inl rfl | exact .inr rfl) : E9 P f R B n K ops l (C2 dst (.call { callee := .value g, args := as, argTypes := ts }) ty) σ Γ Ms :=
 C3l (Wb hg ha hc) hsp hpre hD hK hR
theorem Vr {c : FuncId} {args : Array Value} {as : Array Operand} {ts : Array TypeId} {g : Operand} {pre : List Fact} {chain : List PanicEntry} (ho : ops[i]? = some ⟨dst, .call { callee := .value g, args := as, argTypes := ts }, ty, pos, after, none⟩)
  (hc : ∀ (args : Array Value) (w : World), (callFunc c args).run P w = .ok (.enter c args) w) (hsp : O5 P c args pre chain) (hR : ∀ w, St B [] [] w → R (.panicked chain) w)
  (hg : ev σ g = .func (.func c) #[] #[] := by rfl) (ha : as.toList.map (ev σ) = args.toList := by rfl) (hpre : ∀ F, F ∈ pre → F ∈ Γ := by first | (simp; done) | (simp +contextual; done)) (hq : Nat.beq pn i = true := by rfl) (hD : n.defs = [] := by rfl) (hK : okK n.kind := by first | exact .inl rfl | exact .inr rfl) : NV tn pn P f R B n K ops fin (i :: l) σ Γ Ms :=
 C4l ho hq rfl rfl rfl (Wb hg ha hc) hsp hpre hD hK hR
theorem q0 (ho : ops[i]? = some ⟨dst, op, ty, pos, after, none⟩) (h : E9 P f R B n K ops l (C2 dst op ty) σ Γ Ms) : De P f R B n K ops (i :: l) σ Γ Ms := C8f ho h
theorem qT {g d : Nat} {want : Bool} {og : Oper} (ho : ops[i]? = some ⟨dst, op, ty, pos, after, some (g, want)⟩) (hog : ops[g]? = some og) (hgd : og.dst = some d) (h : E9 P f R B n K ops l (C2 dst op ty) σ Γ Ms) (ht : σ d = .bool want := by rfl) : De P f R B n K ops (i :: l) σ Γ Ms := C3o ho hog hgd ht h
theorem qF {g d : Nat} {want t : Bool} {og : Oper} (ho : ops[i]? = some ⟨dst, op, ty, pos, after, some (g, want)⟩) (hog : ops[g]? = some og) (hgd : og.dst = some d) (h : De P f R B n K ops l (Ac σ dst undef) Γ Ms) (ht : σ d = .bool t := by conv => lhs; whnf) (hne : (t == want) = false := by rfl) (hd : Aa n dst = true := by rfl) : De P f R B n K ops (i :: l) σ Γ Ms := C3p ho hog hgd ht hne hd h
theorem qU {g d : Nat} {want : Bool} {og : Oper} (ho : ops[i]? = some ⟨dst, op, ty, pos, after, some (g, want)⟩) (hog : ops[g]? = some og) (hgd : og.dst = some d) (h : De P f R B n K ops l (Ac σ dst undef) Γ Ms) (ht : σ d = undef := by rfl) (hd : Aa n dst = true := by rfl) : De P f R B n K ops (i :: l) σ Γ Ms := C3n ho hog hgd ht hd h
theorem nU {g d : Nat} {want : Bool} {og : Oper} (ho : ops[i]? = some ⟨dst, op, ty, pos, after, some (g, want)⟩) (hog : ops[g]? = some og) (hgd : og.dst = some d) (h : NV tn pn P f R B n K ops fin l (Ac σ dst undef) Γ Ms) (ht : σ d = undef := by rfl) (hd : Aa n dst = true := by rfl) (hn : Nat.beq pn i = false := by rfl) : NV tn pn P f R B n K ops fin (i :: l) σ Γ Ms := C4m ho hog hgd ht hd h hn
theorem qI {g d : Nat} {want t : Bool} {og : Oper} (ho : ops[i]? = some ⟨dst, op, ty, pos, after, some (g, want)⟩) (hog : ops[g]? = some og) (hgd : og.dst = some d) (ht : σ d = .bool t) (hon : t = want → E9 P f R B n K ops l (C2 dst op ty) (Oz σ d (.bool want)) Γ Ms) (hoff : t = !want → De P f R B n K ops l (Ac (Oz σ d (.bool !want)) dst undef) Γ Ms) (hd : Aa n dst = true := by rfl) : De P f R B n K ops (i :: l) σ Γ Ms := C8e ho hog hgd ht hd hon hoff
theorem n0 (ho : ops[i]? = some ⟨dst, op, ty, pos, after, none⟩) (h : Ib tn pn P f R B n K ops fin i l dst op ty σ Γ Ms) (hn : Nat.beq pn i = false := by rfl) : NV tn pn P f R B n K ops fin (i :: l) σ Γ Ms := C8x ho h hn
theorem nT {g d : Nat} {want : Bool} {og : Oper} (ho : ops[i]? = some ⟨dst, op, ty, pos, after, some (g, want)⟩) (hog : ops[g]? = some og) (hgd : og.dst = some d) (h : Ib tn pn P f R B n K ops fin i l dst op ty σ Γ Ms) (ht : σ d = .bool want := by rfl) (hn : Nat.beq pn i = false := by rfl) : NV tn pn P f R B n K ops fin (i :: l) σ Γ Ms := C4n ho hog hgd ht h hn
theorem nF {g d : Nat} {want t : Bool} {og : Oper} (ho : ops[i]? = some ⟨dst, op, ty, pos, after, some (g, want)⟩) (hog : ops[g]? = some og) (hgd : og.dst = some d) (h : NV tn pn P f R B n K ops fin l (Ac σ dst undef) Γ Ms) (ht : σ d = .bool t := by conv => lhs; whnf) (hne : (t == want) = false := by rfl) (hd : Aa n dst = true := by rfl) (hn : Nat.beq pn i = false := by rfl) : NV tn pn P f R B n K ops fin (i :: l) σ Γ Ms := C4o ho hog hgd ht hne hd h hn
theorem nI {g d : Nat} {want t : Bool} {og : Oper} (ho : ops[i]? = some ⟨dst, op, ty, pos, after, some (g, want)⟩) (hog : ops[g]? = some og) (hgd : og.dst = some d) (ht : σ d = .bool t) (hon : t = want → Ib tn pn P f R B n K ops fin i l dst op ty (Oz σ d (.bool want)) Γ Ms) (hoff : t = !want → NV tn pn P f R B n K ops fin l (Ac (Oz σ d (.bool !want)) dst undef) Γ Ms) (hd : Aa n dst = true := by rfl) (hn : Nat.beq pn i = false := by rfl) : NV tn pn P f R B n K ops fin (i :: l) σ Γ Ms := C8w ho hog hgd ht hd hon hoff hn
end
end Go.Hy
namespace Go.Hy
theorem G4 {a b c d e f g m : Az} {L : List Az} : (a :: b :: c :: d :: e :: f :: g :: m :: L).Perm (m :: a :: b :: c :: d :: e :: f :: g :: L) := (C1.cons a).trans Ad
theorem Ev {a b c d e f g h m : Az} {L : List Az} : (a :: b :: c :: d :: e :: f :: g :: h :: m :: L).Perm (m :: a :: b :: c :: d :: e :: f :: g :: h :: L) := (G4.cons a).trans Ad
theorem I6 {a b c d e f g h i m : Az} {L : List Az} : (a :: b :: c :: d :: e :: f :: g :: h :: i :: m :: L).Perm (m :: a :: b :: c :: d :: e :: f :: g :: h :: i :: L) := (Ev.cons a).trans Ad
theorem I7 {a b c d e f g h i j m : Az} {L : List Az} : (a :: b :: c :: d :: e :: f :: g :: h :: i :: j :: m :: L).Perm (m :: a :: b :: c :: d :: e :: f :: g :: h :: i :: j :: L) := (I6.cons a).trans Ad
theorem Gl {a b c d e f g h i j k m : Az} {L : List Az} : (a :: b :: c :: d :: e :: f :: g :: h :: i :: j :: k :: m :: L).Perm (m :: a :: b :: c :: d :: e :: f :: g :: h :: i :: j :: k :: L) := (I7.cons a).trans Ad
def Nw (x : Int) : List Value := [.int .i64 x]
abbrev On (l : List Int) : List Value := l.flatMap Nw
theorem Ri (x : Int) : (Nw x).length = 1 := rfl
def C5f (ok : Nat → Prop) (l : List Int) (a : SH) (w : World) : Prop := rowAt ok 1 8 l.length a (fun i => Nw (l.getD i 0)) w ∧ ∀ x, x ∈ l → An x
def IL (l : List Int) (a : SH) : Fact := ⟨fun ok w => C5f ok l a w, fun _ _ _ hs h => ⟨h.1.mono hs, h.2⟩, fun _ _ _ h hs => ⟨h.1.loc hs, h.2⟩⟩
section
variable {B : By} {Γ : List Fact} {Ms : List Az} {w : World}
theorem St.A3j {e : TypeId} {a : SH} {n : Nat} {xs : List Value} {l : List Int} (hs : St B Γ (Ag 1 e a n xs :: Ms) w) {hBp : Prop} (hB : hBp) (hx : xs = On l) (hn : n = l.length) (hb : n * 8 ≤ reach) (hu : ∀ c, c ∈ l → An c) : St B (IL l a :: Γ) Ms w := by
 subst hx
 subst hn
 refine hs.Oe hB (fun ok hok hh => ⟨?_, hu⟩)
 exact Lm (F := Nw) Ri 0 (hh : World.ownsRow _ _ _ _ _ _ _) rfl hb hok
theorem St.Uw {e : TypeId} {a : SH} {n : Nat} {l : List Cl} {c : Cl} (hs : St B Γ (Ag 2 e a n (A5 l ++ Ae c) :: Ms) w) : St B Γ (Ag 2 e a n (A5 (l ++ [c])) :: Ms) w := by
 have h : A5 (l ++ [c]) = A5 l ++ Ae c := by simp [A5]
 rw [h]; exact hs
theorem St.Y5 {e : TypeId} {a : SH} {n : Nat} {l : List TP} {t : T} {vr vk vs : SH} (hs : St B Γ (Ag 6 e a n (Bp l ++ tc t vr vk vs) :: Ms) w) : St B Γ (Ag 6 e a n (Bp (l ++ [(t, vr, vk, vs)])) :: Ms) w := by
 have h : Bp (l ++ [(t, vr, vk, vs)]) = Bp l ++ tc t vr vk vs := by simp [Bp, Gx]
 rw [h]; exact hs
theorem St.A9q {e : TypeId} {a : SH} {n : Nat} {l : List BP} {b : Br} {vf vk : SH} (hs : St B Γ (Ag 2 e a n (Gs l ++ bc b vf vk) :: Ms) w) : St B Γ (Ag 2 e a n (Gs (l ++ [(b, vf, vk)])) :: Ms) w := by
 have h : Gs (l ++ [(b, vf, vk)]) = Gs l ++ bc b vf vk := by simp [Gs, Iv]
 rw [h]; exact hs
theorem St.Hd {e : TypeId} {a : SH} {n : Nat} {l m : List Cl} (hs : St B Γ (Ag 2 e a n (A5 l ++ A5 m) :: Ms) w) : St B Γ (Ag 2 e a n (A5 (l ++ m)) :: Ms) w := by
 have h : A5 (l ++ m) = A5 l ++ A5 m := by simp [A5]
 rw [h]; exact hs
theorem St.C3z {l : List Int} {a : SH} (hs : St B Γ Ms w) (hF : IL l a ∈ Γ) : l.length * 8 ≤ reach ∧ (0 < l.length → ∃ b o, a.1 = some ⟨b, o, Option.none⟩) ∧ ∀ c, c ∈ l → An c := by
 obtain ⟨h2, h4⟩ := hs.facts _ hF
 exact ⟨h2.2.1, fun hn => by obtain ⟨b, o, h3, _⟩ := h2.2.2 hn; exact ⟨b, o, h3⟩, h4⟩
end
section
variable {P : Program} {f : FuncId} {R : Ending → World → Prop} {B : By} {n : Fz} {todo : List Item} {σ : Nat → Value} {Γ : List Fact} {Ms : List Az}
theorem Sm {l : List Int} {a : SH} (k : l.length * 8 ≤ reach → (0 < l.length → ∃ b o, a.1 = some ⟨b, o, none⟩) → (∀ c, c ∈ l → An c) → Ec P f R B n todo σ Γ Ms) (hF : IL l a ∈ Γ := by repeat (first | exact List.mem_cons_self | apply List.mem_cons_of_mem)) : Ec P f R B n todo σ Γ Ms :=
 Ca (p := l.length * 8 ≤ reach ∧ (0 < l.length → ∃ b o, a.1 = some ⟨b, o, none⟩) ∧ ∀ c, c ∈ l → An c) (fun w hs => hs.C3z hF) (fun h => k h.1 h.2.1 h.2.2)
theorem Bf {K : List Item} {c : Code} {X : Type} (Inv : X → Prop) (live : X → List (Nat × Value)) (E : X → List Fact → List Fact) (Mf : X → List Az) (μ : X → Nat) (x0 : X) (h0 : Inv x0)
  (hl : My σ (live x0)) (hΓ : ∀ w, St B Γ Ms w → St B (E x0 Γ) (Mf x0) w)
  (round : ∀ x base, Inv x → (∀ x' σ', Inv x' → μ x' < μ x → My σ' (live x') → Ec P f R B n (.inLoop c :: K) σ' (E x' Γ) (Mf x')) →
   Ec P f R B n (.code c :: .inLoop c :: K) (stL base (live x)) (E x Γ) (Mf x)) :
  Ec P f R B n (.code (.loop c) :: K) σ Γ Ms := F3 Inv live (fun x => E x Γ) Mf μ x0 h0 hl hΓ round
end
theorem NV.conv {tn : Bool} {pn : Nat} {P : Program} {f : FuncId} {R : Ending → World → Prop} {B : By} {n : Fz} {K : List Item} {ops : Array Oper} {l fin : List Nat} {σ : Nat → Value} {Γ : List Fact} {Ms' : List Az} (h : NV tn pn P f R B n K ops fin l σ Γ Ms') :
  ∀ {Ms : List Az}, (∀ Γ M w, St B Γ (M ++ Ms) w → St B Γ (M ++ Ms') w) → NV tn pn P f R B n K ops fin l σ Γ Ms := by
 induction h with
 | done h => exact fun hc => .done (fun a w hr hs => h a w hr (hc _ [] w hs))
 | no h => exact fun hc => .no (fun ⟨w, hw⟩ => h ⟨w, hc _ [] w hw⟩)
 | pure ho hw hd h k ih => exact fun hc => .pure ho hw hd h (ih hc)
 | load ht ho hm hw hd h k ih => exact fun hc => .load ht ho hm hw hd (fun w hs => h w (hc _ [] w hs)) (ih hc)
 | off ho hw hd k ih => exact fun hc => .off ho hw hd (ih hc)
 | alloc ho hg hw hd h k ih => exact fun hc => .alloc ho hg hw hd h (fun b => ih b (fun Γ M w hs => by
   have := hc Γ (M ++ [A7 b _ _]) w (by simpa using hs)
   simpa using this))
 | allocF hz ho hg hgm hw hd h hF k ih => exact fun hc => .allocF hz ho hg hgm hw hd h hF (fun b => ih b hc)
 | call ht ho hg hm hw hd he hsp hpre k ih => exact fun hc => .call ht ho hg hm hw hd he hsp hpre (fun x => ih x (fun Γ M w hs => by
   have := hc Γ (M ++ _) w (by simpa using hs)
   simpa using this))
 | loadF ho hm hw hd h k ih => exact fun hc => .loadF ho hm hw hd h (ih hc)
 | pan ht ho hq hg hm hw he hsp hpre hR => exact fun hc => .pan ht ho hq hg hm hw he hsp hpre hR
 | @Dl i l o X val F r r' σ Γ Ms0 Ms2 ht ho hb hw hd hp h k hz ih =>
  intro Ms hc
  refine NV.Dl (F := F) (r := Ms) (r' := fun x => r' x ++ Ms2) (Ms2 := []) ht ho hb hw hd (by rw [List.append_nil]) (fun M w hs => ?_) (fun x => by rw [List.append_nil]; exact k x) hz
  have h0 : St B Γ (M ++ Ms0) w := hc _ M w (hs.perm List.perm_append_comm)
  have h1 : St B Γ (r ++ (Ms2 ++ M)) w := by
   rw [← List.append_assoc]
   exact h0.perm (List.perm_append_comm.trans (hp.append_right M))
  obtain ⟨x, w', h2, h3⟩ := h (Ms2 ++ M) w h1
  exact ⟨x, w', h2, by rw [List.append_assoc]; exact h3⟩
 | @sto i l o r r' σ Γ Ms0 Ms2 ho hb hw hd hp h k ih =>
  intro Ms hc
  refine NV.sto (r := Ms) (r' := r' ++ Ms2) (Ms2 := []) ho hb hw hd (by rw [List.append_nil]) (fun M w hs => ?_) (by rw [List.append_nil]; exact k)
  have h0 : St B Γ (M ++ Ms0) w := hc _ M w (hs.perm List.perm_append_comm)
  have h1 : St B Γ (r ++ (Ms2 ++ M)) w := by
   rw [← List.append_assoc]
   exact h0.perm (List.perm_append_comm.trans (hp.append_right M))
  obtain ⟨w', h2, h3⟩ := h (Ms2 ++ M) w h1
  exact ⟨w', h2, by rw [List.append_assoc]; exact h3⟩
theorem B0k {tn : Bool} {pn : Nat} {P : Program} {f : FuncId} {R : Ending → World → Prop} {B : By} {n : Fz} {K : List Item} {ops : Array Oper} {l fin : List Nat} {σ : Nat → Value} {Γ : List Fact} {Ms : List Az} (A A' : List Az) (hc : ∀ Γ L w, St B Γ (A ++ L) w → St B Γ (A' ++ L) w) (h : NV tn pn P f R B n K ops fin l σ Γ (A' ++ Ms)) : NV tn pn P f R B n K ops fin l σ Γ (A ++ Ms) :=
 h.conv (fun Γ M w hs => by
  have h1 := hc Γ (Ms ++ M) w (by simpa using hs.perm List.perm_append_comm)
  have h2 : St B Γ ((A' ++ Ms) ++ M) w := by simpa using h1
  exact h2.perm List.perm_append_comm)
section
variable {P : Program} [Tab P] {B : By} {σ : Nat → Value} {Γ : List Fact} {Ms : List Az} {ty : TypeId} {x y : Operand} {k : IntKind} {a : Int} {v : Value}
theorem C4w {t : TypeId} {d : TypeDesc} {bk o i : Nat} {a : SH} {l : List Int} (hx : ev σ x = .pointer (some ⟨bk, o + i * 1, none⟩)) (hF : IL l a ∈ Γ) (ha : a.1 = some ⟨bk, o, none⟩) (hu : Tab.und P t = some d) (hd : (match d with | .struct _ | .array _ _ => true | _ => false) = false) (hlt : i < l.length) :
  Jm P B σ Γ Ms (.load t x) ty (.int .i64 (l.getD i 0)) := fun w hs => by
 have h3 := (Ij (hs.facts _ hF).1 ha hlt).2 0 (.int .i64 (l.getD i 0)) rfl
 rw [Nat.add_zero] at h3
 have h4 := E6 (P := P) hu hd h3
 generalize hv : l.getD i 0 = u at h4 ⊢
 simp only [C2, execOp, hx, Instr.loadAt, Instr.sureAddr]
 rw [Nat.mul_one] at h4 ⊢
 simp [h4]
theorem B2q {s d : TypeId} {a : Int} {m : Nat} (hs : Tab.und P s = some (.int .i64)) (hd : Tab.und P d = some (.int .u64)) (hx : ev σ x = .int .i64 a) (ha : a = (m : Int)) (hm : m < 18446744073709551616) : C8 P σ (.convert s d x) ty (.int .u64 (m : Int)) := by
 have e : IntKind.u64.wrap a = (m : Int) := by
  have : IntKind.u64.wrap a = a % 18446744073709551616 := by simp [IntKind.wrap, IntKind.bits, IntKind.signed]
  rw [this]; omega
 have := Kc (P := P) (ty := ty) hs hd hx
 rwa [e] at this
end
end Go.Hy
namespace Go.Hy
section
variable {P : Program} [Tab P] {B : By} {σ : Nat → Value} {Γ : List Fact} {Ms : List Az} {ty : TypeId} {x y : Operand}
end
section
variable {B : By} {Γ : List Fact} {Ms : List Az} {w : World}
end
end Go.Hy
namespace Go.Hy
section
variable {P : Program} [Tab P] {σ : Nat → Value} {ty : TypeId} {x y : Operand}
theorem A9i (n : Int) : IntKind.u64.wrap n = n % 18446744073709551616 := by simp [IntKind.wrap, IntKind.bits, IntKind.signed]
theorem C0f {t t' : TypeId} {k2 : IntKind} {a m : Nat} (hx : ev σ x = .int .u64 (a : Int)) (hy : ev σ y = .int k2 (m : Int)) (hm : m ≤ 64) (hb : a * 2 ^ m < 18446744073709551616) : C8 P σ (.binOp .shl t x y t') ty (.int .u64 ((a * 2 ^ m : Nat) : Int)) :=
 Cw hx hy (fun w => Bl w) (fun w => by
  have e : IntKind.u64.wrap ((a : Int) * 2 ^ min (m : Int).toNat 64) = ((a * 2 ^ m : Nat) : Int) := by
   rw [A9i, Int.toNat_natCast, Nat.min_eq_left hm]
   have : ((a : Int) * 2 ^ m) = ((a * 2 ^ m : Nat) : Int) := by rw [Int.natCast_mul, Int.natCast_pow]; rfl
   rw [this]; omega
  have h0 : ¬ ((m : Int) < 0) := by omega
  simp only [binOp, Op.shift, if_neg h0]
  show Result.ok (Value.int .u64 (IntKind.u64.wrap ((a : Int) * 2 ^ min (m : Int).toNat 64))) w = _
  rw [e])
theorem C0d {t t' : TypeId} {a b : Nat} (hx : ev σ x = .int .u64 (a : Int)) (hy : ev σ y = .int .u64 (b : Int)) (h : b ≤ a) (ha : a < 18446744073709551616) : C8 P σ (.binOp .sub t x y t') ty (.int .u64 ((a - b : Nat) : Int)) :=
 Cw hx hy (fun w => Bl w) (fun w => by
  have e : IntKind.u64.wrap ((a : Int) - (b : Int)) = ((a - b : Nat) : Int) := by rw [A9i]; omega
  simp only [binOp, Op.intArith, ne_eq, not_true, if_false]
  show Result.ok (Value.int .u64 (IntKind.u64.wrap ((a : Int) - (b : Int)))) w = _
  rw [e])
theorem B2s {s d : TypeId} {a : Nat} (hs : Tab.und P s = some (.int .u64)) (hd : Tab.und P d = some (.int .u32)) (hx : ev σ x = .int .u64 (a : Int)) (ha : a < 4294967296) : C8 P σ (.convert s d x) ty (.int .u32 (a : Int)) := by
 have e : IntKind.u32.wrap (a : Int) = (a : Int) := by rw [B4v]; omega
 have := Kc (P := P) (ty := ty) hs hd hx
 rwa [e] at this
end
end Go.Hy
namespace Go.Hy
section
variable {P : Program} [Tab P] {σ : Nat → Value} {ty : TypeId} {x y : Operand}
end
end Go.Hy
namespace Go.Hy
open Go Go.ChangeShapes Go.WideShapes Go.RowKit
variable {P : Program} {H : Type} {enc : TypeId × Value → H} {W : World} {base : Nat} {v : Value} {d : DataW H} {ps : List MemPlace}
theorem P5 {t : TypeId} {ts : List TypeId} {ds : List (DataW H)} (h : ∀ x, x ∈ DataW.weightsEach P (t :: ts) (d :: ds) → x ≤ reach) : Ky P t d ∧ ∀ x, x ∈ DataW.weightsEach P ts ds → x ≤ reach :=
 ⟨fun x hx => h x (by simp only [DataW.weightsEach, List.mem_append]; exact .inl hx), fun x hx => h x (by simp only [DataW.weightsEach, List.mem_append]; exact .inr hx)⟩
theorem Un {t : TypeId} {ts : List TypeId} {vs : List Value} {ds : List (DataW H)} (h : DataW.TrodAll enc P W 0 (fun _ => true) true (t :: ts) vs ds ps) :
  ∃ v vs' d ds' p q, vs = v :: vs' ∧ ds = d :: ds' ∧ DataW.Trod enc P W 0 (fun _ => true) true t v d p ∧ DataW.TrodAll enc P W 0 (fun _ => true) true ts vs' ds' q := by
 obtain ⟨v, vs1, d, ds1, a, b, h1, h2, h3, h4, h5⟩ := trodAll_cons h
 exact ⟨v, vs1, d, ds1, a, b, h1, h2, h4, h5⟩
theorem B2b {vs : List Value} {ds : List (DataW H)} (h : DataW.TrodAll enc P W 0 (fun _ => true) true [] vs ds ps) : vs = [] := by
 obtain ⟨h1, _, _⟩ := trodAll_nil h
 exact h1
variable [TyF P]
theorem C2x {t : TypeId} (ht : t = TyF.tT P) (hval : Value.okWide P W .any base t v) (h : DataW.Trod enc P W 0 (fun _ => true) true t v d ps) (hl : Ky P t d) : ∃ (u : T) (vr vk vs : SH), v = .agg (tc u vr vk vs).toArray ∧ Ep (okw W) u vr vk vs W := by
 subst ht
 obtain ⟨cs, rfl, _⟩ := okWide_struct TyF.uT hval
 obtain ⟨fuel, hf⟩ := h
 obtain ⟨⟨u, vr, vk, vs⟩, h1, h2⟩ := (Ym fuel).1 _ _ _ hf hl
 exact ⟨u, vr, vk, vs, by
  have h3 : (Value.agg cs).cells.toList = tc u vr vk vs := h1
  rw [← h3]; simp [Value.cells], h2⟩
end Go.Hy
namespace Go.Hy
def Cc (L : List Az) : Az := ⟨B3 L, fun w => (∀ m, m ∈ L → ∀ w', (∀ b, m.dom b → w'.heap[b]? = w.heap[b]?) → m.holds w') ∧ (L.Pairwise fun m m' => ∀ b, m.dom b → m'.dom b → False)⟩
section
variable {B : By} {Γ : List Fact} {Ms L L' : List Az} {w : World}
theorem St.pack (hs : St B Γ (L ++ Ms) w) : St B Γ (Cc L :: Ms) w := by
 have hd : ∀ b, B3 (Cc L :: Ms) b ↔ B3 (L ++ Ms) b := fun b => by rw [F5, D6]; exact Iff.rfl
 refine ⟨hs.chg, fun F hF => F.mono _ _ _ (fun b hb => ⟨hb.1, hb.2.1, fun hc => hb.2.2 ((hd b).mp hc)⟩) (hs.facts F hF), ?_, ?_, ?_⟩
 ·intro m hm w' hw
  rcases List.mem_cons.mp hm with e | hm
  ·subst e
   exact ⟨fun m hm w2 hw2 => hs.res m (List.mem_append_left _ hm) w2 (fun b hb => (hw2 b hb).trans (hw b ⟨m, hm, hb⟩)), (List.pairwise_append.mp hs.disj).1⟩
  ·exact hs.res m (List.mem_append_right _ hm) w' hw
 ·intro m hm b hb
  rcases List.mem_cons.mp hm with e | hm
  ·subst e
   obtain ⟨m', hm', hb'⟩ := hb
   exact hs.lt m' (List.mem_append_left _ hm') b hb'
  ·exact hs.lt m (List.mem_append_right _ hm) b hb
 ·refine List.pairwise_cons.mpr ⟨fun m hm b hb hb2 => ?_, (List.pairwise_append.mp hs.disj).2.1⟩
  obtain ⟨m', hm', hb'⟩ := hb
  exact (List.pairwise_append.mp hs.disj).2.2 m' hm' m hm b hb' hb2
theorem St.unpack (hs : St B Γ (Cc L :: Ms) w) : St B Γ (L ++ Ms) w := by
 have hd : ∀ b, B3 (Cc L :: Ms) b ↔ B3 (L ++ Ms) b := fun b => by rw [F5, D6]; exact Iff.rfl
 have Xg := hs.res (Cc L) List.mem_cons_self w (fun _ _ => rfl)
 refine ⟨hs.chg, fun F hF => F.mono _ _ _ (fun b hb => ⟨hb.1, hb.2.1, fun hc => hb.2.2 ((hd b).mpr hc)⟩) (hs.facts F hF), ?_, ?_, ?_⟩
 ·intro m hm w' hw
  rcases List.mem_append.mp hm with hm | hm
  ·exact Xg.1 m hm w' hw
  ·exact hs.res m (List.mem_cons_of_mem _ hm) w' hw
 ·intro m hm b hb
  rcases List.mem_append.mp hm with hm | hm
  ·exact hs.lt (Cc L) List.mem_cons_self b ⟨m, hm, hb⟩
  ·exact hs.lt m (List.mem_cons_of_mem _ hm) b hb
 ·exact List.pairwise_append.mpr ⟨Xg.2, (List.pairwise_cons.mp hs.disj).2, fun m hm m' hm' b hb hb' => (List.pairwise_cons.mp hs.disj).1 m' hm' b ⟨m, hm, hb⟩ hb'⟩
theorem St.Lc (hs : St B Γ Ms w) : St B Γ (Cc [] :: Ms) w := St.pack (L := []) hs
theorem St.C1l (hs : St B Γ (Cc L :: Cc L' :: Ms) w) : St B Γ (Cc (L' ++ L) :: Ms) w := by
 have h1 := (hs.unpack.perm List.perm_middle).unpack
 exact St.pack (by rw [List.append_assoc]; exact h1)
end
mutual
inductive HT where
 | mk (kind n : Int) (name : ByteArray) (r : List Cl) (vr : SH) (kids : List HT) (vk : SH) (sys : List HB) (vs : SH)
inductive HB where
 | mk (Ap : List Cl) (vf : SH) (kids : List HT) (vk : SH)
end
mutual
def HT.er : HT → T
 | .mk k n nm r _ ks _ ss _ => .mk k n nm r (HT.erL ks) (HT.erB ss)
def HT.erL : List HT → List T
 | [] => []
 | h :: hs => h.er :: HT.erL hs
def HT.erB : List HB → List Br
 | [] => []
 | .mk f _ ks _ :: bs => .mk f (HT.erL ks) :: HT.erB bs
end
def HB.er : HB → Br
 | .mk f _ ks _ => .mk f (HT.erL ks)
theorem HT.H0 : ∀ l : List HT, HT.erL l = l.map HT.er
 | [] => by simp [HT.erL]
 | h :: hs => by simp [HT.erL, HT.H0 hs]
theorem HT.Py : ∀ l : List HB, HT.erB l = l.map HB.er
 | [] => by simp [HT.erB]
 | .mk f v ks u :: bs => by simp [HT.erB, HB.er, HT.Py bs]
namespace HT
def vr : HT → SH | .mk _ _ _ _ v _ _ _ _ => v
def vk : HT → SH | .mk _ _ _ _ _ _ v _ _ => v
def vs : HT → SH | .mk _ _ _ _ _ _ _ _ v => v
def kids : HT → List HT | .mk _ _ _ _ _ ks _ _ _ => ks
def sys : HT → List HB | .mk _ _ _ _ _ _ _ ss _ => ss
def tp (h : HT) : TP := (h.er, h.vr, h.vk, h.vs)
end HT
namespace HB
def Ap : HB → List Cl | .mk f _ _ _ => f
def vf : HB → SH | .mk _ v _ _ => v
def kids : HB → List HT | .mk _ _ ks _ => ks
def vk : HB → SH | .mk _ _ _ v => v
def bp (b : HB) : BP := (b.er, b.vf, b.vk)
end HB
structure Tys where
 c : TypeId
 t : TypeId
 b : TypeId
mutual
def Eo (y : Tys) : HT → List Az
 | .mk _ _ _ r v ks u ss x => Ag 2 y.c v r.length (A5 r) :: Ag 6 y.t u ks.length (Bp (ks.map HT.tp)) :: Ag 2 y.b x ss.length (Gs (ss.map HB.bp)) :: (Dh y ks ++ La y ss)
def Dh (y : Tys) : List HT → List Az
 | [] => []
 | h :: hs => Eo y h ++ Dh y hs
def La (y : Tys) : List HB → List Az
 | [] => []
 | .mk f v ks u :: bs => (Ag 2 y.c v f.length (A5 f) :: Ag 6 y.t u ks.length (Bp (ks.map HT.tp)) :: Dh y ks) ++ La y bs
end
def brR (y : Tys) : HB → List Az
 | .mk f v ks u => Ag 2 y.c v f.length (A5 f) :: Ag 6 y.t u ks.length (Bp (ks.map HT.tp)) :: Dh y ks
theorem A5h (y : Tys) : ∀ l, Dh y l = l.flatMap (Eo y)
 | [] => by simp [Dh]
 | h :: hs => by simp [Dh, A5h y hs]
theorem B1e (y : Tys) : ∀ l, La y l = l.flatMap (brR y)
 | [] => by simp [La]
 | .mk f v ks u :: bs => by simp [La, brR, B1e y bs]
mutual
def Lp : T → Prop
 | .mk k n nm r ks ss => An k ∧ An n ∧ nm.size ≤ Fp ∧ ((∀ c, c ∈ r → u32 c) ∧ r.length * 8 ≤ reach) ∧ ks.length * 104 ≤ reach ∧ ss.length * 48 ≤ reach ∧ okL ks ∧ okB ss
def okL : List T → Prop
 | [] => True
 | t :: ts => Lp t ∧ okL ts
def okB : List Br → Prop
 | [] => True
 | .mk f ks :: bs => ((∀ c, c ∈ f → u32 c) ∧ f.length * 8 ≤ reach) ∧ ks.length * 104 ≤ reach ∧ okL ks ∧ okB bs
end
mutual
theorem Vh {ok : Nat → Prop} {w : World} : ∀ {t : T} {vr vk vs : SH}, Ep ok t vr vk vs w → Lp t
 | .mk k n nm r ks ss, vr, vk, vs, h => by
  simp only [Ep] at h
  simp only [Lp]
  obtain ⟨h1, h2, h3, h4, ⟨VR, VK, VS, h6, h7⟩, ⟨VF, VK', h9, h10⟩⟩ := h
  exact ⟨h1, h2, h3, ⟨h4.2, h4.1.2.1⟩, h6.2.1, h9.2.1, A7s h7, B6t h10⟩
theorem A7s {ok : Nat → Prop} {w : World} : ∀ {ts : List T} {VR VK VS : Nat → SH}, F6 ok ts VR VK VS w → okL ts
 | [], _, _, _, _ => by simp only [okL]
 | t :: ts, _, _, _, h => by
  simp only [F6] at h
  simp only [okL]
  exact ⟨Vh h.1, A7s h.2⟩
theorem B6t {ok : Nat → Prop} {w : World} : ∀ {bs : List Br} {VF VK : Nat → SH}, Fv ok bs VF VK w → okB bs
 | [], _, _, _ => by simp only [okB]
 | .mk f ks :: bs, _, _, h => by
  simp only [Fv, Lb] at h
  simp only [okB]
  obtain ⟨⟨h1, ⟨VR, VK, VS, h2, h3⟩⟩, h4⟩ := h
  exact ⟨⟨h1.2, h1.1.2.1⟩, h2.2.1, A7s h3, B6t h4⟩
end
theorem Qy {K S M : List Az} {a : Az} : (K ++ (S ++ a :: M)).Perm (a :: (K ++ (S ++ M))) := (List.perm_middle.append_left K).trans List.perm_middle
section
variable {B : By} {Γ : List Fact} {Ms : List Az} {w : World}
mutual
theorem St.I5 (y : Tys) {hBp : Prop} (hB : hBp) : ∀ (h : HT) {Γ : List Fact} {Ms : List Az}, Lp h.er → St B Γ (Eo y h ++ Ms) w → St B (RT h.er h.vr h.vk h.vs :: Γ) Ms w
 | .mk k n nm r v ks u ss x, Γ, Ms, hok, hs => by
  simp only [HT.er, Lp] at hok
  obtain ⟨o1, o2, o3, o4, o5, o6, o7, o8⟩ := hok
  simp only [Eo, List.cons_append, List.append_assoc] at hs
  have h1 := hs.Bo (l := r) hB rfl rfl o4.2 o4.1
  -- the rows of kids and branches wait behind the parts
  have h2 : St B (CL r v :: Γ) (Dh y ks ++ (La y ss ++ (Ag 6 y.t u ks.length (Bp (ks.map HT.tp)) :: Ag 2 y.b x ss.length (Gs (ss.map HB.bp)) :: Ms))) w := by
   exact h1.perm (((Qy.trans (Qy.cons _))).symm)
  have h3 := St.Ux y hB ks [] (by rw [HT.H0] at o7; exact o7) (by simpa using h2.Ws)
  have h4 := St.A3k y hB ss [] (by rw [HT.Py] at o8; exact o8) (h3.C2s)
  have h5 := h4.Ka (ps := ks.map HT.tp) (ts := ks.map HT.er) hB Cf rfl (by simp [HT.tp, Function.comp_def]) Cf (by rw [HT.H0, List.length_map] at o5; exact o5)
  have h6 := h5.A3l (ps := ss.map HB.bp) (bs := ss.map HB.er) hB Cf rfl (by simp [HB.bp, Function.comp_def]) Cf (by rw [HT.Py, List.length_map] at o6; exact o6)
  have h7 := h6.B3b (k := k) (n := n) (nm := nm) (r := r) (vr := v) (ks := ks.map HT.er) (vk := u) (ss := ss.map HB.er) (vs := x) o1 o2 o3 Cf Cf Cf
  simp only [HT.er, HT.H0, HT.Py, HT.vr, HT.vk, HT.vs]
  exact h7.less sx_
theorem St.Ux (y : Tys) {hBp : Prop} (hB : hBp) : ∀ (ks : List HT) (ps : List TP) {Γ : List Fact} {Ms : List Az}, okL (ks.map HT.er) → St B (AP ps :: Γ) (Dh y ks ++ Ms) w → St B (AP (ps ++ ks.map HT.tp) :: Γ) Ms w
 | [], ps, Γ, Ms, hok, hs => by simpa [Dh] using hs
 | h :: hs', ps, Γ, Ms, hok, hs => by
  simp only [List.map_cons, okL] at hok
  simp only [Dh, List.append_assoc] at hs
  have h1 := St.I5 y hB h hok.1 hs
  have h2 := h1.Ru (ps := ps) (t := h.er) (vr := h.vr) (vk := h.vk) (vs := h.vs) Cf Cf
  have h3 := St.Ux y hB hs' (ps ++ [h.tp]) (Γ := Γ) hok.2 (h2.less (by simp +contextual [HT.tp]))
  simpa using h3
theorem St.A3k (y : Tys) {hBp : Prop} (hB : hBp) : ∀ (bs : List HB) (ps : List BP) {Γ : List Fact} {Ms : List Az}, okB (bs.map HB.er) → St B (BPs ps :: Γ) (La y bs ++ Ms) w → St B (BPs (ps ++ bs.map HB.bp) :: Γ) Ms w
 | [], ps, Γ, Ms, hok, hs => by simpa [La] using hs
 | .mk f v ks u :: bs, ps, Γ, Ms, hok, hs => by
  simp only [List.map_cons, HB.er, okB] at hok
  obtain ⟨o1, o2, o3, o4⟩ := hok
  simp only [La, List.cons_append, List.append_assoc] at hs
  have h1 := hs.Bo (l := f) hB rfl rfl o1.2 o1.1
  have h2 : St B (CL f v :: BPs ps :: Γ) (Dh y ks ++ (Ag 6 y.t u ks.length (Bp (ks.map HT.tp)) :: (La y bs ++ Ms))) w := h1.perm (by exact List.perm_middle.symm)
  have h3 := St.Ux y hB ks [] (by rw [HT.H0] at o3; exact o3) (by simpa using h2.Ws)
  have h4 := h3.Ka (ps := ks.map HT.tp) (ts := ks.map HT.er) hB Cf rfl (by simp [HT.tp, Function.comp_def]) Cf (by rw [HT.H0, List.length_map] at o2; exact o2)
  have h5 := h4.C2t (ps := ps) (f := f) (ks := ks.map HT.er) (vf := v) (vk := u) Cf Cf Cf
  have h6 := St.A3k y hB bs (ps ++ [(.mk f (ks.map HT.er), v, u)]) (Γ := Γ) o4 (h5.less sx_)
  simpa [HB.bp, HB.er, HB.vf, HB.vk, HT.H0] using h6
end
end
end Go.Hy
namespace Go.Hy
section
variable {B : By} {Γ : List Fact} {Ms K S : List Az} {w : World} {a b c : Az}
theorem St.C8i (hs : St B Γ (a :: b :: c :: Cc K :: Cc S :: Ms) w) : St B Γ (Cc (a :: b :: c :: (K ++ S)) :: Ms) w := by
 have h1 : St B Γ (Cc K :: Cc S :: a :: b :: c :: Ms) w := hs.perm (F9.trans (F9.cons _))
 have h2 : St B Γ (Cc S :: (K ++ a :: b :: c :: Ms)) w := h1.unpack.perm List.perm_middle
 have h3 : St B Γ (K ++ (S ++ a :: b :: c :: Ms)) w := h2.unpack.perm (by rw [← List.append_assoc, ← List.append_assoc]; exact List.perm_append_comm.append_right _)
 exact St.pack (L := a :: b :: c :: (K ++ S)) (by
  simp only [List.cons_append, List.append_assoc]
  exact h3.perm (Qy.trans ((Qy.trans (Qy.cons _)).cons _)))
theorem St.C8j (hs : St B Γ (a :: b :: Cc K :: Cc S :: Ms) w) : St B Γ (Cc (S ++ (a :: b :: K)) :: Ms) w := by
 have h1 : St B Γ (Cc K :: Cc S :: a :: b :: Ms) w := hs.perm (B7.trans (B7.cons _))
 have h2 : St B Γ (Cc S :: (K ++ a :: b :: Ms)) w := h1.unpack.perm List.perm_middle
 have h3 : St B Γ (S ++ (K ++ a :: b :: Ms)) w := h2.unpack
 exact St.pack (L := S ++ (a :: b :: K)) (by
  have : (S ++ a :: b :: K) ++ Ms = S ++ (a :: b :: (K ++ Ms)) := by simp
  rw [this]
  exact h3.perm ((List.perm_middle.trans (List.perm_middle.cons _)).append_left S))
theorem St.B0w {y : Tys} {hs : List HT} {h : HT} (h0 : St B Γ (Cc (Eo y h) :: Cc (Dh y hs) :: Ms) w) : St B Γ (Cc (Dh y (hs ++ [h])) :: Ms) w := by
 have := h0.C1l
 rwa [show Dh y hs ++ Eo y h = Dh y (hs ++ [h]) by simp [A5h]] at this
theorem St.B7w {y : Tys} {bs : List HB} {f : List Cl} {v u : SH} {ks : List HT} {n m : Nat} {fl tl : List Value} (hn : n = f.length) (hm : m = ks.length) (hf : fl = A5 f) (ht : tl = Bp (ks.map HT.tp)) (h0 : St B Γ (Ag 2 y.c v n fl :: Ag 6 y.t u m tl :: Cc (Dh y ks) :: Cc (La y bs) :: Ms) w) : St B Γ (Cc (La y (bs ++ [.mk f v ks u])) :: Ms) w := by
 subst hn; subst hm; subst hf; subst ht
 have := h0.C8j
 rwa [show La y bs ++ (Ag 2 y.c v f.length (A5 f) :: Ag 6 y.t u ks.length (Bp (ks.map HT.tp)) :: Dh y ks) = La y (bs ++ [.mk f v ks u]) by simp [B1e, brR]] at this
theorem St.B0u {y : Tys} {k n : Int} {nm : ByteArray} {r : List Cl} {v u x : SH} {ks : List HT} {ss : List HB} {n1 n2 n3 : Nat} {l1 l2 l3 : List Value} (e1 : n1 = r.length) (e2 : n2 = ks.length) (e3 : n3 = ss.length) (f1 : l1 = A5 r) (f2 : l2 = Bp (ks.map HT.tp)) (f3 : l3 = Gs (ss.map HB.bp))
  (h0 : St B Γ (Ag 2 y.c v n1 l1 :: Ag 6 y.t u n2 l2 :: Ag 2 y.b x n3 l3 :: Cc (Dh y ks) :: Cc (La y ss) :: Ms) w) : St B Γ (Cc (Eo y (.mk k n nm r v ks u ss x)) :: Ms) w := by
 subst e1; subst e2; subst e3; subst f1; subst f2; subst f3
 simpa only [Eo] using h0.C8i
end
end Go.Hy
namespace Go.Hy
section
variable {P : Program} {f : FuncId} {R : Ending → World → Prop} {B : By} {n : Fz} {K : List Item} {σ : Nat → Value} {Γ LF : List Fact} {Ms Ms2 Ms' : List Az} {todo : List Item} {w : World}
theorem Kk (h : Ms = Ms') (k : Ec P f R B n todo σ Γ Ms') : Ec P f R B n todo σ Γ Ms := h ▸ k
theorem St.Ci {b : Nat} {cs : List Value} {T : TypeId} {hBp : Prop} (hB : hBp) (hs : St B Γ (A7 b cs T :: Ms) w) : St B (At b 0 cs :: Γ) Ms w := by
 refine hs.Oe hB (fun ok hok hh => ⟨hok b rfl, fun j v hj => ?_⟩)
 have hh : w.heap[b]? = some (.cells cs.toArray T (0, 0)) := hh
 simp [World.cell?, hh, hj]
end
end Go.Hy
namespace Go.Hy
section
variable {B : By} {Γ : List Fact} {Ms K S : List Az} {w : World} {a b c : Az}
def h0 : HT := .mk 0 0 (ByteArray.mk #[]) [] (none, 0) [] (none, 0) [] (none, 0)
def Xg : HB := .mk [] (none, 0) [] (none, 0)
theorem Spec.conv {P : Program} {k : FuncId} {args args' : Array Value} {pre : List Fact} {Ms0 Ms0' : List Az} {X : Type} {val : X → Value} {N : X → List Fact} {Ms1 : X → List Az} (h : Spec P k args pre Ms0 val N Ms1) (ha : args = args') (hd : ∀ b, B3 Ms0' b ↔ B3 Ms0 b) (hs : ∀ B w, St B pre Ms0' w → St B pre Ms0 w) : Spec P k args' pre Ms0' val N Ms1 := by
 subst ha
 have e : B3 Ms0' = B3 Ms0 := funext fun b => propext (hd b)
 intro ok w hok hst
 rw [e] at hst ⊢
 exact h ok w (fun b hb => ⟨(hok b hb).1, fun hc => (hok b hb).2 ((hd b).2 hc)⟩) (hs _ _ hst)
mutual
theorem HT.D1x {P : HT → Prop} (h : ∀ k n nm r v ks u ss x, (∀ c, c ∈ ks → P c) → P (.mk k n nm r v ks u ss x)) : ∀ t, P t
 | .mk k n nm r v ks u ss x => h k n nm r v ks u ss x (HT.B3l h ks)
theorem HT.B3l {P : HT → Prop} (h : ∀ k n nm r v ks u ss x, (∀ c, c ∈ ks → P c) → P (.mk k n nm r v ks u ss x)) : ∀ ts : List HT, ∀ c, c ∈ ts → P c
 | [], _, hc => by cases hc
 | t :: ts, c, hc => by
  rcases List.mem_cons.mp hc with e | hc
  ·rw [e]; exact HT.D1x h t
  ·exact HT.B3l h ts c hc
end
end
end Go.Hy
namespace Go.Hy
section
variable {tn : Bool} {pn : Nat} {P : Program} [Tab P] {f : FuncId} {R : Ending → World → Prop} {B : By} {n : Fz} {K : List Item} {ops : Array Oper} {i : Nat} {l fin : List Nat} {σ : Nat → Value} {Γ : List Fact} {Ms Ms2 : List Az}
variable {dst : Option Tmp} {op : Op} {ty : TypeId} {pos : String} {after : Array Edge} {v : Value} {x y z : Operand}
theorem A7w {t t' : TypeId} {k2 : IntKind} {a m : Nat} (k_ : De P f R B n K ops l (Ac σ dst (.int .u64 ((a * 2 ^ m : Nat) : Int))) Γ Ms) (hx : ev σ x = .int .u64 (a : Int) := by exact A8) (hy : ev σ y = .int k2 (m : Int) := by exact A8) (hm : m ≤ 64 := by first | assumption | omega) (hb : a * 2 ^ m < 18446744073709551616 := by first | assumption | omega) (hd : Aa n dst = true := by rfl) : E9 P f R B n K ops l (C2 dst (.binOp .shl t x y t') ty) σ Γ Ms := B4 (C0f hx hy hm hb) hd k_
theorem C4d {t t' : TypeId} {a b : Nat} (k_ : De P f R B n K ops l (Ac σ dst (.int .u64 ((a - b : Nat) : Int))) Γ Ms) (hx : ev σ x = .int .u64 (a : Int) := by exact A8) (hy : ev σ y = .int .u64 (b : Int) := by exact A8) (h : b ≤ a := by first | assumption | omega) (ha : a < 18446744073709551616 := by first | assumption | omega) (hd : Aa n dst = true := by rfl) : E9 P f R B n K ops l (C2 dst (.binOp .sub t x y t') ty) σ Γ Ms := B4 (C0d hx hy h ha) hd k_
theorem A4r {s d : TypeId} {a : Nat} (k_ : De P f R B n K ops l (Ac σ dst (.int .u32 (a : Int))) Γ Ms) (hx : ev σ x = .int .u64 (a : Int) := by exact A8) (ha : a < 4294967296 := by first | assumption | omega) (hs : Tab.und P s = some (.int .u64) := by rfl) (hd' : Tab.und P d = some (.int .u32) := by rfl) (hd : Aa n dst = true := by rfl) : E9 P f R B n K ops l (C2 dst (.convert s d x) ty) σ Γ Ms := B4 (B2s hs hd' hx ha) hd k_
theorem J4 {s d : TypeId} {a : Int} {m : Nat} (k_ : De P f R B n K ops l (Ac σ dst (.int .u64 (m : Int))) Γ Ms) (hx : ev σ x = .int .i64 a := by exact A8) (ha : a = (m : Int) := by first | assumption | omega) (hm : m < 18446744073709551616 := by omega) (hs : Tab.und P s = some (.int .i64) := by rfl) (hd' : Tab.und P d = some (.int .u64) := by rfl) (hd : Aa n dst = true := by rfl) : E9 P f R B n K ops l (C2 dst (.convert s d x) ty) σ Γ Ms := B4 (B2q hs hd' hx ha hm) hd k_
theorem B6w {t : TypeId} {d : TypeDesc} {bk o i' : Nat} {a : SH} {ls : List Int} (k_ : De P f R B n K ops l (Ac σ dst (.int .i64 (ls.getD i' 0))) Γ Ms) (hx : ev σ x = .pointer (some ⟨bk, o + i' * 1, none⟩) := by exact A8) (hFa : IL ls a ∈ Γ ∧ a.1 = some ⟨bk, o, none⟩ := by exact ma0_) (hu : Tab.und P t = some d := by rfl) (hd' : (match d with | .struct _ | .array _ _ => true | _ => false) = false := by rfl) (hlt : i' < ls.length := by omega) (hd : Aa n dst = true := by rfl) : E9 P f R B n K ops l (C2 dst (.load t x) ty) σ Γ Ms := Hf (C4w hx hFa.1 hFa.2 hu hd' hlt) hd k_
theorem B9t {t e : TypeId} {ts : Array TypeId} {bt n' : Nat} {zv : Value} {a b : SH} {xs : List Value} {ls : List Cl} (k_ : ∀ a' : SH, NV tn pn P f R B n K ops fin l (Ac σ dst (sl a' (n' + ls.length))) Γ (Ag 2 e a' (n' + ls.length) (xs ++ A5 ls) :: Ms2)) (hF : CL ls b ∈ Γ) (hm : Ms.Perm (Ag 2 e a n' xs :: Ms2) := by first | exact Va | exact Ad | exact B7 | exact F9 | exact Cx | exact Gk | exact C1) (hx : ev σ x = sl a n' := by rfl) (hy : ev σ y = sl b ls.length := by rfl) (hts : ts = #[t, t] := by rfl) (hu : Tab.und P t = some (.slice e) := by rfl) (hi : Tab.inf P e = some (2, bt, zv) := by rfl) (hzs : zv.cells.size = 2 := by rfl) (hb : (n' + ls.length) * bt ≤ 140737488355328 := by first | omega | (unfold reach at *; omega) | (unfold reach Fp at *; omega)) (hnm : n' + ls.length ≤ 9223372036854775807 := by first | omega | (unfold reach at *; omega) | (unfold reach Fp at *; omega)) (hd : Aa n dst = true := by rfl) : Ib tn pn P f R B n K ops fin i l dst (.call { callee := .builtin .append, args := #[x, y], argTypes := ts }) ty σ Γ Ms := C0r (r := [Ag 2 e a n' xs]) (r' := fun a' => [Ag 2 e a' (n' + ls.length) (xs ++ A5 ls)]) (fun M => A3g (List.Perm.refl _) hF hx hy hts hu hi hzs hb hnm) rfl hd hm k_
end
section
variable {tn : Bool} {pn : Nat} {P : Program} [Tab P] {f : FuncId} {R : Ending → World → Prop} {B : By} {n : Fz} {K : List Item} {ops : Array Oper} {i : Nat} {l fin : List Nat} {σ : Nat → Value} {Γ : List Fact} {Ms Ms2 : List Az}
variable {dst : Option Tmp} {op : Op} {ty : TypeId} {pos : String} {after : Array Edge} {v : Value} {x y z : Operand}
theorem C8s {t : TypeId} {d : TypeDesc} {bk k : Nat} {cs : List Value} (k_ : De P f R B n K ops l (Ac σ dst v) Γ Ms) (hx : ev σ x = .pointer (some ⟨bk, k, none⟩) := by exact A8) (hF : At bk 0 cs ∈ Γ := by repeat (first | exact List.mem_cons_self | apply List.mem_cons_of_mem)) (hu : Tab.und P t = some d := by rfl) (hd' : (match d with | .struct _ | .array _ _ => true | _ => false) = false := by rfl) (hk : cs[k]? = some v := by exact A8) (hd : Aa n dst = true := by rfl) : E9 P f R B n K ops l (C2 dst (.load t x) ty) σ Γ Ms := Hf (B7n (o := 0) (by rw [Nat.zero_add]; exact hx) hF hu hd' hk) hd k_
theorem Jj {t : TypeId} {d : TypeDesc} {bk k : Nat} {cs : List Value} (k_ : NV tn pn P f R B n K ops fin l (Ac σ dst v) Γ Ms) (hx : ev σ x = .pointer (some ⟨bk, k, none⟩) := by exact A8) (hF : At bk 0 cs ∈ Γ := by repeat (first | exact List.mem_cons_self | apply List.mem_cons_of_mem)) (hu : Tab.und P t = some d := by rfl) (hd' : (match d with | .struct _ | .array _ _ => true | _ => false) = false := by rfl) (hk : cs[k]? = some v := by exact A8) (hd : Aa n dst = true := by rfl) : Ib tn pn P f R B n K ops fin i l dst (.load t x) ty σ Γ Ms := A4s (B7n (o := 0) (by rw [Nat.zero_add]; exact hx) hF hu hd' hk) rfl hd k_
theorem A1a {t : TypeId} {l' : List (Nat × Nat)} {s bt bk k : Nat} {zv : Value} {cs cs' : List Value} (k_ : De P f R B n K ops l (Ac σ dst (.agg cs'.toArray)) Γ Ms) (hx : ev σ x = .pointer (some ⟨bk, k, none⟩) := by exact A8) (hF : At bk 0 cs ∈ Γ := by repeat (first | exact List.mem_cons_self | apply List.mem_cons_of_mem)) (hu : Tab.lay P t = some l' := by rfl) (hi : Tab.inf P t = some (s, bt, zv) := by rfl) (hk : (cs.drop k).take s = cs' := by rfl) (hl : cs'.length = s := by rfl) (hd : Aa n dst = true := by rfl) : E9 P f R B n K ops l (C2 dst (.load t x) ty) σ Γ Ms := Hf (B7p (o := 0) (by rw [Nat.zero_add]; exact hx) hF hu hi hk hl) hd k_
theorem L9 {t : TypeId} {l' : List (Nat × Nat)} {s bt bk k : Nat} {zv : Value} {cs cs' : List Value} (k_ : NV tn pn P f R B n K ops fin l (Ac σ dst (.agg cs'.toArray)) Γ Ms) (hx : ev σ x = .pointer (some ⟨bk, k, none⟩) := by exact A8) (hF : At bk 0 cs ∈ Γ := by repeat (first | exact List.mem_cons_self | apply List.mem_cons_of_mem)) (hu : Tab.lay P t = some l' := by rfl) (hi : Tab.inf P t = some (s, bt, zv) := by rfl) (hk : (cs.drop k).take s = cs' := by rfl) (hl : cs'.length = s := by rfl) (hd : Aa n dst = true := by rfl) : Ib tn pn P f R B n K ops fin i l dst (.load t x) ty σ Γ Ms := A4s (B7p (o := 0) (by rw [Nat.zero_add]; exact hx) hF hu hi hk hl) rfl hd k_
end
section
variable {α : Type}
def C1u (E : α → Fact) (l : List α) : Fact := ⟨fun ok w => ∀ x, x ∈ l → (E x).f ok w, fun _ _ _ hs h x hx => (E x).mono _ _ _ hs (h x hx), fun _ _ _ h hs x hx => (E x).loc _ _ _ (h x hx) hs⟩
def A6k (sz bt : Nat) (F : α → List Value) (E : α → Fact) (d : α) (l : List α) (a : SH) : Fact := ⟨fun ok w => rowAt ok sz bt l.length a (fun i => F (l.getD i d)) w ∧ ∀ x, x ∈ l → (E x).f ok w,
 fun _ _ _ hs h => ⟨h.1.mono hs, fun x hx => (E x).mono _ _ _ hs (h.2 x hx)⟩, fun _ _ _ h hs => ⟨h.1.loc hs, fun x hx => (E x).loc _ _ _ (h.2 x hx) hs⟩⟩
variable {B : By} {Γ : List Fact} {Ms : List Az} {w : World} {E : α → Fact} {F : α → List Value} {sz bt n : Nat} {d : α} {l : List α} {a : SH}
theorem St.B9c (E : α → Fact) (hs : St B Γ Ms w) : St B (C1u E [] :: Γ) Ms w := hs.add (fun x hx => by cases hx)
theorem St.A9g {x : α} (hs : St B Γ Ms w) (h1 : C1u E l ∈ Γ) (h2 : E x ∈ Γ) : St B (C1u E (l ++ [x]) :: Γ) Ms w := by
 refine hs.add (fun y hy => ?_)
 rcases List.mem_append.mp hy with hy | hy
 ·exact hs.facts _ h1 y hy
 ·rw [List.mem_singleton] at hy; subst hy; exact hs.facts _ h2
theorem St.Y7 {e : TypeId} {xs : List Value} (hF : ∀ x, (F x).length = sz) (hs : St B Γ (Ag sz e a n xs :: Ms) w) {hBp : Prop} (hB : hBp) (hA : C1u E l ∈ Γ) (hx : xs = l.flatMap F) (hn : n = l.length) (hb : n * bt ≤ reach) : St B (A6k sz bt F E d l a :: Γ) Ms w := by
 subst hx
 have hrow := hs.Oe (F := ⟨fun ok w => rowAt ok sz bt n a (fun i => F (l.getD i d)) w, fun _ _ _ hs h => h.mono hs, fun _ _ _ h hs => h.loc hs⟩) hB (fun ok hok hh => Lm (F := F) hF d (hh : World.ownsRow _ _ _ _ _ _ _) hn hb hok)
 have hr2 := hrow.facts _ List.mem_cons_self
 have h3 := hrow.facts _ (List.mem_cons_of_mem _ hA)
 exact hs.drop.add ⟨hn ▸ hr2, h3⟩
theorem St.C0i (hs : St B Γ Ms w) (hF : A6k sz bt F E d l a ∈ Γ) : l.length * bt ≤ reach ∧ (0 < l.length → ∃ b o, a.1 = some ⟨b, o, Option.none⟩) := by
 obtain ⟨h2, _⟩ := hs.facts _ hF
 exact ⟨h2.2.1, fun hn => by obtain ⟨b, o, h3, _⟩ := h2.2.2 hn; exact ⟨b, o, h3⟩⟩
theorem St.B9y {i : Nat} (hs : St B Γ Ms w) (hF : A6k sz bt F E d l a ∈ Γ) (hi : i < l.length) : St B (E (l.getD i d) :: Γ) Ms w := hs.add ((hs.facts _ hF).2 _ (Am hi))
end
section
variable {α : Type} {P : Program} {f : FuncId} {R : Ending → World → Prop} {B : By} {n : Fz} {todo : List Item} {σ : Nat → Value} {Γ : List Fact} {Ms : List Az} {E : α → Fact} {F : α → List Value} {sz bt : Nat} {d : α} {l : List α} {a : SH}
theorem A8m (hF : A6k sz bt F E d l a ∈ Γ) (k : l.length * bt ≤ reach → (0 < l.length → ∃ b o, a.1 = some ⟨b, o, none⟩) → Ec P f R B n todo σ Γ Ms) : Ec P f R B n todo σ Γ Ms := Ca (p := l.length * bt ≤ reach ∧ (0 < l.length → ∃ b o, a.1 = some ⟨b, o, none⟩)) (fun w hs => hs.C0i hF) (fun h => k h.1 h.2)
theorem C1e (hF : A6k sz bt F E d l a ∈ Γ) (i : Nat) (hi : i < l.length) (k : Ec P f R B n todo σ (E (l.getD i d) :: Γ) Ms) : Ec P f R B n todo σ Γ Ms := A1 (fun w hs => hs.B9y hF hi) k
variable [Tab P] {x y : Operand} {v : Value} {ty : TypeId}
theorem C0v {t : TypeId} {d' : TypeDesc} {bk o i k : Nat} (hx : ev σ x = .pointer (some ⟨bk, o + i * sz + k, none⟩)) (hF : A6k sz bt F E d l a ∈ Γ) (ha : a.1 = some ⟨bk, o, none⟩) (hu : Tab.und P t = some d') (hd : (match d' with | .struct _ | .array _ _ => true | _ => false) = false) (hk : (F (l.getD i d))[k]? = some v) (hlt : i < l.length) :
  Jm P B σ Γ Ms (.load t x) ty v := fun w hs => by
 have h3 := (Ij (hs.facts _ hF).1 ha hlt).2 k v hk
 simp [C2, execOp, hx, Instr.loadAt, Instr.sureAddr, E6 hu hd h3]
theorem C0w {t : TypeId} {d' : TypeDesc} {bk o i : Nat} (hx : ev σ x = .pointer (some ⟨bk, o + i * 1, none⟩)) (hF : A6k 1 bt F E d l a ∈ Γ) (ha : a.1 = some ⟨bk, o, none⟩) (hu : Tab.und P t = some d') (hd : (match d' with | .struct _ | .array _ _ => true | _ => false) = false) (hk : (F (l.getD i d))[0]? = some v) (hlt : i < l.length) :
  Jm P B σ Γ Ms (.load t x) ty v := C0v (k := 0) hx hF ha hu hd hk hlt
end
abbrev QP := TP × Int × Int
def qE (q : QP) : Fact := RT q.1.1 q.1.2.1 q.1.2.2.1 q.1.2.2.2
abbrev IP := List Int × SH
def ipE (p : IP) : Fact := IL p.1 p.2
abbrev CP := List Cl × SH
def Oq (p : CP) : List Value := [sl p.2 p.1.length]
def cp0 : CP := ([], (none, 0))
abbrev cpE (p : CP) : Fact := CL p.1 p.2
abbrev CCF (l : List CP) (a : SH) : Fact := A6k 1 24 Oq cpE cp0 l a
section
variable {B : By} {Γ : List Fact} {Ms : List Az} {w : World}
theorem St.C2j {e : TypeId} {b : Nat} {l : List Cl} {a : SH} (hs : St B Γ (A7 b [sl a l.length] e :: Ms) w) {hBp : Prop} (hB : hBp) (hF : CL l a ∈ Γ) : St B (CCF [(l, a)] (some ⟨b, 0, Option.none⟩, 1) :: Γ) Ms w :=
 ((((hs.Hi (sz := 1) (m := 1) rfl Gu).B9c cpE).A9g (x := (l, a)) List.mem_cons_self (List.mem_cons_of_mem _ hF)).Y7 (F := Oq) (E := cpE) (d := cp0) (bt := 24) (l := [(l, a)]) (fun _ => rfl) hB List.mem_cons_self rfl rfl Gu).less sx_
end
section
variable {P : Program} [Tab P] {B : By} {σ : Nat → Value} {Γ : List Fact} {Ms Ms2 : List Az} {ty : TypeId} {x y z : Operand} {v : Value}
theorem Tf {ad : Addr} (hx : ev σ x = .pointer (some ad)) : C8 P σ (.nilCheck x) ty (.pointer (some ad)) := fun w => by
 simp [C2, execOp, hx]
end
section
variable {P : Program} [Tab P] {f : FuncId} {fn : Func} {B : By} {n : Fz} {K : List Item} {σ : Nat → Value} {Γ : List Fact} {Ms : List Az} {X : Type} {val : X → Value} {N : X → List Fact} {Ms1 : X → List Az}
theorem C0 {r t T : Nat} {r2 : Tmp} {b s bt : Nat} {zv v2 : Value} {lay : List (Nat × Nat)} {cs : List Value} (hf : P.funcs[f]? = some fn) (hr : fn.results = #[.cell r t, .tmp r2]) (x : X) (hb : σ r = .pointer (some ⟨b, 0, none⟩)) (hm : A7 b cs T ∈ Ms) (hl : Tab.lay P t = some lay) (hi : Tab.inf P t = some (s, bt, zv)) (hcs : cs.length = s) (h2 : σ r2 = v2) (hv : Value.tuple #[.agg cs.toArray, v2] = val x) (hs : ∀ w, St B Γ Ms w → St B (N x) (Ms1 x) w) (hD : n.defs = [] := by rfl) (hK : okK n.kind := by first | exact .inl rfl | exact .inr rfl) : Ec P f (Ends B val N Ms1) B n (.code .ret :: K) σ Γ Ms :=
 go_ret hf (fun a w ha h => by
  have h1 := ha.get r
  rw [hb] at h1
  have h3 := ha.get r2
  rw [h2] at h3
  have h4 := Cv (P := P) (bk := b) (off := 0) (w := w) hl hi hcs (fun j v hj => by rw [Nat.zero_add]; exact Ja h hm j v hj)
  have h1' : (a.tmps[r]?.getD undef) = .pointer (some ⟨b, 0, none⟩) := by simpa [Array.getD_eq_getD_getElem?] using h1
  have h3' : (a.tmps[r2]?.getD undef) = v2 := by simpa [Array.getD_eq_getD_getElem?] using h3
  simp [results, hr, asAddr, h1', h4, h3', ← hv]) (fun w h => ⟨x, rfl, hs w h⟩) hD hK
theorem St.Ih {w : World} (hs : St B Γ Ms w) : St B (RT t0 (Option.none, 0) (Option.none, 0) (Option.none, 0) :: Γ) Ms w :=
 ((((hs.Yr 0).B7b 0).B0m 0).B3b (k := 0) (n := 0) (nm := ⟨#[]⟩) (r := []) (ks := []) (ss := []) (vr := (Option.none, 0)) (vk := (Option.none, 0)) (vs := (Option.none, 0)) (by unfold An; omega) (by unfold An; omega) (Nat.zero_le _) Cf Cf Cf).less (by simp +contextual [t0])
end
section
variable {tn : Bool} {pn : Nat} {P : Program} [Tab P] {f : FuncId} {R : Ending → World → Prop} {B : By} {n : Fz} {K : List Item} {ops : Array Oper} {i : Nat} {l fin : List Nat} {σ : Nat → Value} {Γ : List Fact} {Ms Ms2 : List Az}
variable {dst : Option Tmp} {op : Op} {ty : TypeId} {pos : String} {after : Array Edge} {v : Value} {x y z : Operand}
theorem C4e {ad : Addr} (k_ : De P f R B n K ops l (Ac σ dst (.pointer (some ad))) Γ Ms) (hx : ev σ x = .pointer (some ad) := by exact A8) (hd : Aa n dst = true := by rfl) : E9 P f R B n K ops l (C2 dst (.nilCheck x) ty) σ Γ Ms := B4 (Tf hx) hd k_
theorem C3g {ad : Addr} (k_ : NV tn pn P f R B n K ops fin l (Ac σ dst (.pointer (some ad))) Γ Ms) (hx : ev σ x = .pointer (some ad) := by exact A8) (hd : Aa n dst = true := by rfl) : Ib tn pn P f R B n K ops fin i l dst (.nilCheck x) ty σ Γ Ms := Cq (Tf hx) hd k_
theorem C4h {t : TypeId} {d : TypeDesc} {bk o i' : Nat} {a : SH} {ls : List CP} (k_ : De P f R B n K ops l (Ac σ dst v) Γ Ms) (hx : ev σ x = .pointer (some ⟨bk, o + i' * 1, none⟩) := by exact A8) (hFa : CCF ls a ∈ Γ ∧ a.1 = some ⟨bk, o, none⟩ := by exact ma0_) (hu : Tab.und P t = some d := by rfl) (hd' : (match d with | .struct _ | .array _ _ => true | _ => false) = false := by rfl) (hk : (Oq (ls.getD i' cp0))[0]? = some v := by exact A8) (hlt : i' < ls.length := by first | omega | (simp only [List.length_map, List.length_set]; omega) | (simp; omega)) (hd : Aa n dst = true := by rfl) : E9 P f R B n K ops l (C2 dst (.load t x) ty) σ Γ Ms := Hf (C0w hx hFa.1 hFa.2 hu hd' hk hlt) hd k_
end
section
variable {tn : Bool} {pn : Nat} {P : Program} [Tab P] {f : FuncId} {R : Ending → World → Prop} {B : By} {n : Fz} {K : List Item} {ops : Array Oper} {i : Nat} {l fin : List Nat} {σ : Nat → Value} {Γ : List Fact} {Ms Ms2 : List Az}
variable {dst : Option Tmp} {op : Op} {ty : TypeId} {pos : String} {after : Array Edge} {v : Value} {x y z : Operand}
theorem Vp {t t' : TypeId} {k : IntKind} {a b : Int} (k_ : De P f R B n K ops l (Ac σ dst (.bool true)) Γ Ms) (hx : ev σ x = .int k a := by exact A8) (hy : ev σ y = .int k b := by exact A8) (hp : a = b := by first | omega | (simp; done)) (hd : Aa n dst = true := by rfl) : E9 P f R B n K ops l (C2 dst (.binOp .eql t x y t') ty) σ Γ Ms := B4 (show C8 P σ (.binOp .eql t x y t') ty (.bool true) from (decide_eq_true hp : decide (a = b) = true) ▸ A7n hx hy) hd k_
theorem D1b {t T' : TypeId} {b s bt : Nat} {zv : Value} {cs cs' : List Value} (k_ : NV tn pn P f R B n K ops fin l σ Γ (A7 b cs' T' :: Ms2)) (hx : ev σ x = .pointer (some ⟨b, 0, none⟩) := by exact A8) (hm : Ms.Perm (A7 b cs T' :: Ms2) := by first | exact Va | exact Ad | exact B7 | exact F9 | exact Cx | exact Gk | exact C1 | exact G4 | exact Ev) (hy : (ev σ y).cells = cs'.toArray := by rfl) (hi : Tab.inf P t = some (s, bt, zv) := by rfl) (hl : cs'.length = s := by rfl) (hl2 : cs.length = s := by rfl) (h1 : J3 cs' = true := by rfl) : Ib tn pn P f R B n K ops fin i l none (.store t x y) ty σ Γ Ms := B7a (r := [A7 b cs T']) (r' := [A7 b cs' T']) (fun M => B5n hx hy (List.Perm.refl _) hi hl hl2 h1) rfl hm k_
end
inductive Af (α : Type) where
 | ok (a : α)
 | bad (e : Int)
structure Tr (C : Type) where
 own : C → Int → Int → ByteArray → List Cl → Af (T ⊕ (Int × List Cl))
 Ap : C → List Cl → Af (Option (List Cl))
 Nv : C → Int × Int → Af C
section
variable {C : Type} (A : Tr C)
mutual
def Bm : T → C → Af T
 | .mk k n nm r ks ss, c => match A.own c k n nm r with
  | .bad e => .bad e
  | .ok (.inl u) => .ok u
  | .ok (.inr p) => match Dc k 0 ks c with
   | .bad e => .bad e
   | .ok ks' => match D7 k ss c with
    | .bad e => .bad e
    | .ok ss' => .ok (.mk k p.1 nm p.2 ks' ss')
def Dc (k : Int) : Nat → List T → C → Af (List T)
 | _, [], _ => .ok []
 | i, t :: ts, c => match A.Nv c (binds k i) with
  | .bad e => .bad e
  | .ok c' => match Bm t c' with
   | .bad e => .bad e
   | .ok t' => match Dc k (i + 1) ts c with
    | .bad e => .bad e
    | .ok ts' => .ok (t' :: ts')
def Co (k : Int) : List T → C → Af (List T)
 | [], _ => .ok []
 | t :: ts, c => match A.Nv c (0, more k) with
  | .bad e => .bad e
  | .ok c' => match Bm t c' with
   | .bad e => .bad e
   | .ok t' => match Co k ts c with
    | .bad e => .bad e
    | .ok ts' => .ok (t' :: ts')
def D7 (k : Int) : List Br → C → Af (List Br)
 | [], _ => .ok []
 | .mk f ks :: bs, c => match A.Ap c f with
  | .bad e => .bad e
  | .ok none => D7 k bs c
  | .ok (some f') => match Co k ks c with
   | .bad e => .bad e
   | .ok ks' => match D7 k bs c with
    | .bad e => .bad e
    | .ok bs' => .ok (.mk f' ks' :: bs')
end
variable {A}
def Af.bind {α β : Type} : Af α → (α → Af β) → Af β
 | .ok a, f => f a
 | .bad e, _ => .bad e
theorem Af.A9 {α β : Type} {x : Af α} {f : α → Af β} {b : β} (h : x.bind f = .ok b) : ∃ a, x = .ok a ∧ f a = .ok b := by
 cases x with
 | ok a => exact ⟨a, rfl, h⟩
 | bad e => cases h
theorem Fx (t : T) (c : C) : Bm A t c = (A.own c t.kind t.n t.name t.r).bind fun o => match o with
  | .inl u => .ok u
  | .inr p => (Dc A t.kind 0 t.kids c).bind fun ks' => (D7 A t.kind t.sys c).bind fun ss' => .ok (.mk t.kind p.1 t.name p.2 ks' ss') := by
 obtain ⟨k, n, nm, r, ks, ss⟩ := t
 rw [Bm]
 simp only [T.kind, T.n, T.name, T.r, T.kids, T.sys]
 cases A.own c k n nm r with
 | bad e => rfl
 | ok o =>
  cases o with
  | inl u => rfl
  | inr p =>
   simp only [Af.bind]
   cases Dc A k 0 ks c with
   | bad e => rfl
   | ok ks' =>
    cases D7 A k ss c <;> rfl
theorem Em (k : Int) (i : Nat) (c : C) : Dc A k i [] c = .ok [] := by rw [Dc]
theorem E5 (k : Int) (i : Nat) (t : T) (ts : List T) (c : C) : Dc A k i (t :: ts) c = (A.Nv c (binds k i)).bind fun c' => (Bm A t c').bind fun t' => (Dc A k (i + 1) ts c).bind fun ts' => .ok (t' :: ts') := by
 rw [Dc]
 cases A.Nv c (binds k i) with
 | bad e => rfl
 | ok c' =>
  simp only [Af.bind]
  cases Bm A t c' with
  | bad e => rfl
  | ok t' => simp only; cases Dc A k (i + 1) ts c <;> rfl
theorem Ey (k : Int) (c : C) : Co A k [] c = .ok [] := by rw [Co]
theorem E4 (k : Int) (t : T) (ts : List T) (c : C) : Co A k (t :: ts) c = (A.Nv c (0, more k)).bind fun c' => (Bm A t c').bind fun t' => (Co A k ts c).bind fun ts' => .ok (t' :: ts') := by
 rw [Co]
 cases A.Nv c (0, more k) with
 | bad e => rfl
 | ok c' =>
  simp only [Af.bind]
  cases Bm A t c' with
  | bad e => rfl
  | ok t' => simp only; cases Co A k ts c <;> rfl
theorem Di (k : Int) (c : C) : D7 A k [] c = .ok [] := by rw [D7]
theorem Dj (k : Int) (b : Br) (bs : List Br) (c : C) : D7 A k (b :: bs) c = (A.Ap c b.Ap).bind fun f => match f with
  | none => D7 A k bs c
  | some f' => (Co A k b.kids c).bind fun ks' => (D7 A k bs c).bind fun bs' => .ok (.mk f' ks' :: bs') := by
 obtain ⟨f, ks⟩ := b
 rw [D7]
 simp only [Br.Ap, Br.kids]
 cases A.Ap c f with
 | bad e => rfl
 | ok o =>
  cases o with
  | none => rfl
  | some f' =>
   simp only [Af.bind]
   cases Co A k ks c with
   | bad e => rfl
   | ok ks' => simp only; cases D7 A k bs c <;> rfl
theorem Po (k : Int) (c : C) : ∀ (i : Nat) (l : List T) (t : T), Dc A k i (l ++ [t]) c = (Dc A k i l c).bind fun l' => (A.Nv c (binds k ((i + l.length : Nat) : Int))).bind fun c' => (Bm A t c').bind fun t' => .ok (l' ++ [t'])
 | i, [], t => by
  simp only [List.nil_append, E5, Em, Af.bind, List.length_nil, Nat.add_zero]
 | i, a :: l, t => by
  simp only [List.cons_append, E5, Po k c (i + 1) l t, List.length_cons]
  rw [show i + 1 + l.length = i + (l.length + 1) by omega]
  cases A.Nv c (binds k i) with
  | bad e => rfl
  | ok c1 =>
   simp only [Af.bind]
   cases Bm A a c1 with
   | bad e => rfl
   | ok a' =>
    simp only
    cases Dc A k (i + 1) l c with
    | bad e => rfl
    | ok l' =>
     simp only
     cases A.Nv c (binds k ((i + (l.length + 1) : Nat) : Int)) with
     | bad e => rfl
     | ok c2 => simp only; cases Bm A t c2 <;> rfl
theorem Pn (k : Int) (c : C) : ∀ (l : List T) (t : T), Co A k (l ++ [t]) c = (Co A k l c).bind fun l' => (A.Nv c (0, more k)).bind fun c' => (Bm A t c').bind fun t' => .ok (l' ++ [t'])
 | [], t => by simp only [List.nil_append, E4, Ey, Af.bind]
 | a :: l, t => by
  simp only [List.cons_append, E4, Pn k c l t]
  cases A.Nv c (0, more k) with
  | bad e => rfl
  | ok c1 =>
   simp only [Af.bind]
   cases Bm A a c1 with
   | bad e => rfl
   | ok a' =>
    simp only
    cases Co A k l c with
    | bad e => rfl
    | ok l' => simp only; cases Bm A t c1 <;> rfl
theorem M0 (k : Int) (c : C) : ∀ (l : List Br) (b : Br), D7 A k (l ++ [b]) c = (D7 A k l c).bind fun l' => (A.Ap c b.Ap).bind fun f => match f with
  | none => .ok l'
  | some f' => (Co A k b.kids c).bind fun ks' => .ok (l' ++ [.mk f' ks'])
 | [], b => by
  simp only [List.nil_append, Dj, Di, Af.bind]
 | a :: l, b => by
  simp only [List.cons_append, Dj, M0 k c l b]
  cases A.Ap c a.Ap with
  | bad e => rfl
  | ok o =>
   cases o with
   | none => rfl
   | some f' =>
    simp only [Af.bind]
    cases Co A k a.kids c with
    | bad e => rfl
    | ok ks' =>
     simp only
     cases D7 A k l c with
     | bad e => rfl
     | ok l' =>
      simp only
      cases A.Ap c b.Ap with
      | bad e => rfl
      | ok o2 =>
       cases o2 with
       | none => rfl
       | some f2 => simp only; cases Co A k b.kids c <;> rfl
theorem Xy {k e : Int} {c : C} : ∀ {l m : List T} {i : Nat}, Dc A k i l c = .bad e → Dc A k i (l ++ m) c = .bad e
 | [], m, i, h => by rw [Em] at h; cases h
 | a :: l, m, i, h => by
  rw [List.cons_append, E5]
  rw [E5] at h
  cases h1 : A.Nv c (binds k i) with
  | bad e' => rw [h1] at h; exact h
  | ok c1 =>
   rw [h1] at h
   simp only [Af.bind] at h ⊢
   cases h2 : Bm A a c1 with
   | bad e' => rw [h2] at h; exact h
   | ok a' =>
    rw [h2] at h
    simp only at h ⊢
    cases h3 : Dc A k (i + 1) l c with
    | bad e' => rw [h3] at h; rw [Xy h3]; exact h
    | ok l' => rw [h3] at h; cases h
theorem Xv {k e : Int} {c : C} : ∀ {l m : List T}, Co A k l c = .bad e → Co A k (l ++ m) c = .bad e
 | [], m, h => by rw [Ey] at h; cases h
 | a :: l, m, h => by
  rw [List.cons_append, E4]
  rw [E4] at h
  cases h1 : A.Nv c (0, more k) with
  | bad e' => rw [h1] at h; exact h
  | ok c1 =>
   rw [h1] at h
   simp only [Af.bind] at h ⊢
   cases h2 : Bm A a c1 with
   | bad e' => rw [h2] at h; exact h
   | ok a' =>
    rw [h2] at h
    simp only at h ⊢
    cases h3 : Co A k l c with
    | bad e' => rw [h3] at h; rw [Xv h3]; exact h
    | ok l' => rw [h3] at h; cases h
theorem S9 {k e : Int} {c : C} : ∀ {l m : List Br}, D7 A k l c = .bad e → D7 A k (l ++ m) c = .bad e
 | [], m, h => by rw [Di] at h; cases h
 | a :: l, m, h => by
  rw [List.cons_append, Dj]
  rw [Dj] at h
  cases h1 : A.Ap c a.Ap with
  | bad e' => rw [h1] at h; exact h
  | ok o =>
   rw [h1] at h
   cases o with
   | none => exact S9 (l := l) h
   | some f' =>
    simp only [Af.bind] at h ⊢
    cases h2 : Co A k a.kids c with
    | bad e' => rw [h2] at h; exact h
    | ok a' =>
     rw [h2] at h
     simp only at h ⊢
     cases h3 : D7 A k l c with
     | bad e' => rw [h3] at h; rw [S9 h3]; exact h
     | ok l' => rw [h3] at h; cases h
theorem Ob {k : Int} {c : C} : ∀ {l l' : List T} {i : Nat}, Dc A k i l c = .ok l' → l'.length = l.length
 | [], l', i, h => by rw [Em] at h; injection h with h; subst h; rfl
 | a :: l, l', i, h => by
  rw [E5] at h
  obtain ⟨c1, _, h⟩ := Af.A9 h
  obtain ⟨t', _, h⟩ := Af.A9 h
  obtain ⟨ts', h3, h⟩ := Af.A9 h
  injection h with h
  subst h
  simp [Ob h3]
theorem Oa {k : Int} {c : C} : ∀ {l l' : List T}, Co A k l c = .ok l' → l'.length = l.length
 | [], l', h => by rw [Ey] at h; injection h with h; subst h; rfl
 | a :: l, l', h => by
  rw [E4] at h
  obtain ⟨c1, _, h⟩ := Af.A9 h
  obtain ⟨t', _, h⟩ := Af.A9 h
  obtain ⟨ts', h3, h⟩ := Af.A9 h
  injection h with h
  subst h
  simp [Oa h3]
theorem Oc {k : Int} {c : C} : ∀ {l l' : List Br}, D7 A k l c = .ok l' → l'.length ≤ l.length
 | [], l', h => by rw [Di] at h; injection h with h; subst h; simp
 | a :: l, l', h => by
  rw [Dj] at h
  obtain ⟨o, _, h⟩ := Af.A9 h
  cases o with
  | none => have := Oc (l := l) h; simp; omega
  | some f' =>
   obtain ⟨ks', _, h⟩ := Af.A9 h
   obtain ⟨bs', h3, h⟩ := Af.A9 h
   injection h with h
   subst h
   have := Oc h3
   simp; omega
end
theorem A0p {a0 a1 a2 a3 a4 a5 a6 a7 a8 a9 a10 a11 m : Az} {L : List Az} : (a0 :: a1 :: a2 :: a3 :: a4 :: a5 :: a6 :: a7 :: a8 :: a9 :: a10 :: a11 :: m :: L).Perm (m :: a0 :: a1 :: a2 :: a3 :: a4 :: a5 :: a6 :: a7 :: a8 :: a9 :: a10 :: a11 :: L) := (Gl.cons a0).trans Ad
theorem Io {a0 a1 a2 a3 a4 a5 a6 a7 a8 a9 a10 a11 a12 m : Az} {L : List Az} : (a0 :: a1 :: a2 :: a3 :: a4 :: a5 :: a6 :: a7 :: a8 :: a9 :: a10 :: a11 :: a12 :: m :: L).Perm (m :: a0 :: a1 :: a2 :: a3 :: a4 :: a5 :: a6 :: a7 :: a8 :: a9 :: a10 :: a11 :: a12 :: L) := (A0p.cons a0).trans Ad
theorem Im {a0 a1 a2 a3 a4 a5 a6 a7 a8 a9 a10 a11 a12 a13 m : Az} {L : List Az} : (a0 :: a1 :: a2 :: a3 :: a4 :: a5 :: a6 :: a7 :: a8 :: a9 :: a10 :: a11 :: a12 :: a13 :: m :: L).Perm (m :: a0 :: a1 :: a2 :: a3 :: a4 :: a5 :: a6 :: a7 :: a8 :: a9 :: a10 :: a11 :: a12 :: a13 :: L) := (Io.cons a0).trans Ad
theorem Il {a0 a1 a2 a3 a4 a5 a6 a7 a8 a9 a10 a11 a12 a13 a14 m : Az} {L : List Az} : (a0 :: a1 :: a2 :: a3 :: a4 :: a5 :: a6 :: a7 :: a8 :: a9 :: a10 :: a11 :: a12 :: a13 :: a14 :: m :: L).Perm (m :: a0 :: a1 :: a2 :: a3 :: a4 :: a5 :: a6 :: a7 :: a8 :: a9 :: a10 :: a11 :: a12 :: a13 :: a14 :: L) := (Im.cons a0).trans Ad
def Rn (T : TypeId) (e : Int) : List PanicEntry := [{ v := .iface T (.int .i64 e), recovered := false }]
def Jl (P : Program) (T : TypeId) (k : FuncId) (args : Array Value) (pre : List Fact) {α : Type} (r : Af α) {X : α → Type} (val : ∀ a : α, X a → Value) (N : ∀ a : α, X a → List Fact) (Ms1 : ∀ a : α, X a → List Az) : Prop :=
 (∀ a, r = .ok a → Spec P k args pre [] (val a) (N a) (Ms1 a)) ∧ (∀ e, r = .bad e → O5 P k args pre (Rn T e))
def B1o (B : By) (T : TypeId) {α : Type} (r : Af α) {X : α → Type} (val : ∀ a : α, X a → Value) (N : ∀ a : α, X a → List Fact) (Ms1 : ∀ a : α, X a → List Az) (e : Ending) (w' : World) : Prop :=
 (∀ a, r = .ok a → Ends B (val a) (N a) (Ms1 a) e w') ∧ (∀ x, r = .bad x → e = .panicked (Rn T x) ∧ St B [] [] w')
section
variable {P : Program} {f : FuncId} {B : By} {n : Fz} {K : List Item} {σ : Nat → Value} {Γ : List Fact} {Ms : List Az} {todo : List Item} {T : TypeId} {α : Type} {X : α → Type} {r : Af α} {val : ∀ a : α, X a → Value} {N : ∀ a : α, X a → List Fact} {Ms1 : ∀ a : α, X a → List Az}
theorem Ec.C9a {R R' : Ending → World → Prop} (hm : ∀ e w, R e w → R' e w) (h : Ec P f R B n todo σ Γ Ms) : Ec P f R' B n todo σ Γ Ms := fun a w hr hs b cs hb hk => by
 obtain ⟨e, w', fr, hR, hc, hf, hl⟩ := h a w hr hs b cs hb hk
 exact ⟨e, w', fr, hm _ _ hR, hc, hf, hl⟩
theorem go_ok {a : α} (hr : r = .ok a) (h : Ec P f (Ends B (val a) (N a) (Ms1 a)) B n todo σ Γ Ms) : Ec P f (B1o B T r val N Ms1) B n todo σ Γ Ms :=
 Ec.C9a (fun e w he => ⟨fun b hb => by rw [hr] at hb; injection hb with hb; subst hb; exact he, fun x hx => by rw [hr] at hx; cases hx⟩) h
theorem L8 {β : Type} (q : Af β) {R : Ending → World → Prop} (h1 : ∀ a, q = .ok a → Ec P f R B n todo σ Γ Ms) (h2 : ∀ e, q = .bad e → Ec P f R B n todo σ Γ Ms) : Ec P f R B n todo σ Γ Ms := by
 cases hq : q with
 | ok a => exact h1 a hq
 | bad e => exact h2 e hq
theorem B0y {K : List Item} {it : Item} {R : Ending → World → Prop} {Ms' : List Az} (p : Prop) (live : List (Nat × Value)) (h1 : (p → ∀ σ', My σ' live → Ec P f R B n K σ' Γ Ms') → Ec P f R B n (it :: K) σ Γ Ms) (h2 : p → ∀ base, Ec P f R B n K (stL base live) Γ Ms') : Ec P f R B n (it :: K) σ Γ Ms :=
 h1 (fun hp σ' hl => go_slots live hl (h2 hp))
theorem Fm {e : Int} (hr : r = .bad e) : ∀ w, St B [] [] w → B1o B T r val N Ms1 (.panicked (Rn T e)) w := fun w hs =>
 ⟨fun a ha => (by rw [hr] at ha; cases ha), fun x hx => (by rw [hr] at hx; injection hx with hx; subst hx; exact ⟨rfl, hs⟩)⟩
theorem Qp {k : FuncId} {fn : Func} {c : Code} {args : List Value} {pre : List Fact} {n : Nat} (hf : P.funcs[k]? = some fn) (hn : fn.ntmps = n) (hb : fn.body = some c) (ha : args.length ≤ n)
  (h : ∀ B : By, (∀ b, B.S0 b ↔ B3 [] b) → Ec P k (B1o B T r val N Ms1) B ⟨n, [], .normal⟩ [.code c] (fun t => args.getD t undef) pre []) : Jl P T k args.toArray pre r val N Ms1 := by
 have he : (fun t => args.toArray.getD t undef) = fun t => args.getD t undef := by
  funext t
  simp [Array.getD_eq_getD_getElem?, List.getD_eq_getElem?_getD]
 have key : ∀ ok w, (∀ b, ok b → b < w.heap.size ∧ ¬ B3 [] b) → St ⟨ok, B3 [], w⟩ pre [] w → Calls P k args.toArray w (B1o ⟨ok, B3 [], w⟩ T r val N Ms1) := by
  intro ok w hok hs
  refine A6c (n := ⟨n, [], .normal⟩) hf hb hn rfl rfl (by simpa using ha) hs ?_
  have := h ⟨ok, B3 [], w⟩ (fun _ => Iff.rfl)
  rw [he]
  exact this
 exact ⟨fun a hr ok w hok hs => (key ok w hok hs).mono fun e w' h => h.1 a hr, fun x hr ok w hok hs => (key ok w hok hs).mono fun e w' h => h.2 x hr⟩
end
def Jn (L : List Fact) : Fact := ⟨fun ok w => ∀ F, F ∈ L → F.f ok w, fun ok ok' w hs h F hF => F.mono ok ok' w hs (h F hF), fun ok w w' h hs F hF => F.loc ok w w' (h F hF) hs⟩
section
variable {B : By} {Γ : List Fact} {Ms : List Az} {w : World} {L : List Fact}
theorem St.U4 (hs : St B Γ Ms w) (h : ∀ F, F ∈ L → F ∈ Γ) : St B (Jn L :: Γ) Ms w := hs.add (fun F hF => hs.facts F (h F hF))
theorem St.B5d (hs : St B [Jn L] Ms w) : St B L Ms w := ⟨hs.chg, fun F hF => hs.facts _ List.mem_cons_self F hF, hs.res, hs.lt, hs.disj⟩
theorem Spec.U4 {P : Program} {k : FuncId} {args : Array Value} {Ms0 : List Az} {X : Type} {val : X → Value} {N : X → List Fact} {Ms1 : X → List Az} (h : Spec P k args L Ms0 val N Ms1) : Spec P k args [Jn L] Ms0 val N Ms1 := fun ok w hok hs => h ok w hok hs.B5d
theorem O5.U4 {P : Program} {k : FuncId} {args : Array Value} {chain : List PanicEntry} (h : O5 P k args L chain) : O5 P k args [Jn L] chain := fun ok w hok hs => h ok w hok hs.B5d
theorem Jl.U4 {P : Program} {T : TypeId} {k : FuncId} {args : Array Value} {α : Type} {r : Af α} {X : α → Type} {val : ∀ a : α, X a → Value} {N : ∀ a : α, X a → List Fact} {Ms1 : ∀ a : α, X a → List Az} (h : Jl P T k args L r val N Ms1) : Jl P T k args [Jn L] r val N Ms1 := ⟨fun a ha => (h.1 a ha).U4, fun e he => (h.2 e he).U4⟩
end
section
variable {P : Program} [Tab P] {f : FuncId} {R : Ending → World → Prop} {B : By} {n : Fz} {K : List Item} {ops : Array Oper} {i : Nat} {l : List Nat} {σ : Nat → Value} {Γ : List Fact} {Ms : List Az}
variable {dst : Option Tmp} {ty : TypeId} {v : Value} {x y : Operand}
theorem B6h {t : TypeId} {d : TypeDesc} (hu : Tab.und P t = some d) (hd : (match d with | .interface _ => true | _ => false) = false) (hx : ev σ x = v) : C8 P σ (.makeInterface t x) ty (.iface t v) := fun w => by
 cases d <;> first | (simp at hd; done) | simp [C2, execOp, hx, Instr.makeInterface, D9 hu]
theorem A0z {t : TypeId} {d : TypeDesc} (k_ : De P f R B n K ops l (Ac σ dst (.iface t v)) Γ Ms) (hx : ev σ x = v := by exact A8) (hu : Tab.und P t = some d := by rfl) (hdd : (match d with | .interface _ => true | _ => false) = false := by rfl) (hd : Aa n dst = true := by rfl) : E9 P f R B n K ops l (C2 dst (.makeInterface t x) ty) σ Γ Ms := B4 (B6h hu hdd hx) hd k_
theorem A0y {T : TypeId} {e : Int} (hR : ∀ w, St B [] [] w → R (.panicked (Rn T e)) w) (hx : ev σ x = .iface T (.int .i64 e) := by exact A8) (hD : n.defs = [] := by rfl) (hK : okK n.kind := by first | exact .inl rfl | exact .inr rfl) : E9 P f R B n K ops l (C2 dst (.panic x) ty) σ Γ Ms := fun a w hr hs => by
 unfold Oper.wp
 rw [hr.eval]
 have e1 : (execOp (ev σ) (C2 dst (.panic x) ty)).run P w = .halt (.panic (.iface T (.int .i64 e))) w := by
  simp only [C2, execOp, hx]
  rfl
 rw [e1, Oper.upon_panic]
 refine ⟨hK.imp id (fun h => ⟨h, hr.defs.trans hD⟩), fun fn hfn => ?_⟩
 rw [hr.defs, hD]
 exact hR w (St.L0 (A := Ms) (Ms := []) (by rw [List.append_nil]; exact hs.less (fun F hF => by cases hF)))
theorem B0j {c : FuncId} {cap : List Value} {ts : Array TypeId} {g : Operand} (k_ : De P f R B ⟨n.sz, ⟨.fn (.func c) cap.toArray, #[]⟩ :: n.defs, n.kind⟩ K ops l σ Γ Ms) (hg : ev σ g = .func (.func c) #[] cap.toArray := by rfl) : E9 P f R B n K ops l (C2 none (.defer { callee := .value g, args := #[], argTypes := ts }) ty) σ Γ Ms := fun a w hr hs => by
 unfold Oper.wp
 rw [hr.eval]
 have e1 : (execOp (ev σ) (C2 none (.defer { callee := .value g, args := #[], argTypes := ts }) ty)).run P w = .ok (.defer ⟨.fn (.func c) cap.toArray, #[]⟩) w := by
  simp [C2, execOp, resolve, hg, Deferred.ofValue]
 rw [e1, Oper.upon_defer]
 exact k_ _ _ ⟨hr.size, hr.get, by show _ :: a.defers = _; rw [hr.defs]⟩ hs
end
def O6 (P : Program) (k : FuncId) (args : Array Value) (pre : List Fact) (Ms0 : List Az) (u u' : FrameMode) (N : List Fact) (Ms1 : List Az) : Prop :=
 ∀ ok w, (∀ b, ok b → b < w.heap.size ∧ ¬ B3 Ms0 b) → St ⟨ok, B3 Ms0, w⟩ pre Ms0 w → CallsD P k args u w fun e v w' => e = .returned (.tuple #[]) ∧ v = u' ∧ St ⟨ok, B3 Ms0, w⟩ N Ms1 w'
section
variable {P : Program} {f : FuncId} {fn : Func} {R : Ending → World → Prop} {B : By} {n : Fz} {K : List Item} {σ : Nat → Value} {Γ : List Fact} {Ms : List Az}
theorem B0r {k : FuncId} {cap : List Value} {pre N : List Fact} {Ms0 Ms1 Ms2 : List Az} {u u' : FrameMode} {tmps : Array Value} {w : World} (hu : u ≠ .run) (hc : ∀ (args : Array Value) (w : World), (callFunc k args).run P w = .ok (.enter k args) w) (hsp : O6 P k cap.toArray pre Ms0 u u' N Ms1) (hpre : ∀ F, F ∈ pre → F ∈ Γ) (hm : Ms.Perm (Ms0 ++ Ms2)) (hset : settle u' = .returning)
  (hs : St B Γ Ms w) (hres : ∀ w', St B (N ++ Γ) (Ms1 ++ Ms2) w' → ∃ v, (results fn tmps).run P w' = .ok v w' ∧ R (.returned v) w') : Leaves P fn tmps R [⟨.fn (.func k) cap.toArray, #[]⟩] u w := by
 refine leaves_cons (f := k) (args := cap.toArray) hu (by simp [invoke, hc]) ?_
 have hs' := hs.perm hm
 refine (hsp (M9 B (Ms0 ++ Ms2) w) w ?_ (hs'.hand hpre)).mono ?_
 ·intro b hb
  exact ⟨hb.2.1, fun hc => hb.2.2 (D6.2 (.inl hc))⟩
 ·rintro e v w' ⟨rfl, rfl, hx⟩
  show Leaves P fn tmps R [] (settle v) w'
  rw [hset]
  obtain ⟨v', h1, h2⟩ := hres w' (hs'.frame hx)
  exact ⟨v', h1, h2⟩
theorem C1c {k : FuncId} {cap : List Value} {pre N : List Fact} {Ms0 Ms1 Ms2 : List Az} (hf : P.funcs[f]? = some fn) (hc : ∀ (args : Array Value) (w : World), (callFunc k args).run P w = .ok (.enter k args) w) (hsp : O6 P k cap.toArray pre Ms0 .returning .returning N Ms1) (hpre : ∀ F, F ∈ pre → F ∈ Γ) (hm : Ms.Perm (Ms0 ++ Ms2))
  (hres : ∀ a w', Rel n a σ → St B (N ++ Γ) (Ms1 ++ Ms2) w' → ∃ v, (results fn a.tmps).run P w' = .ok v w' ∧ R (.returned v) w') (hD : n.defs = [⟨.fn (.func k) cap.toArray, #[]⟩] := by rfl) (hK : n.kind = .normal := by rfl) : Ec P f R B n (.code .ret :: K) σ Γ Ms := by
 intro a w hr hs b cs hb hk
 have hfn : P.funcs[b.fn]? = some fn := by rw [hb]; exact hf
 have hL : Leaves P fn a.tmps R a.defers .returning w := by
  rw [hr.defs, hD]
  exact B0r Cf hc hsp hpre hm rfl hs (fun w' h => hres a w' hr h)
 obtain ⟨e, w', fr, hR, hs', hf', hl⟩ := leaves_steps a.defers .returning w { b.at a (.code .ret :: K) with mode := .returning } cs rfl rfl rfl hfn (hk.trans hK) hL
 exact ⟨e, w', fr, hR, hs'.of_steps (.one step_ret), hf'.trans hb, .inl ⟨hK, hl⟩⟩
theorem C0l {ops : Array Oper} {l : List Nat} {dst : Option Tmp} {op : Op} {ty : TypeId} {c k : FuncId} {args : Array Value} {cap : List Value} {pre pre2 N : List Fact} {chain : List PanicEntry} {Ms0 Ms1 Ms2 : List Az} {u' : FrameMode} (he : O7 P σ op ty c args) (hsp : O5 P c args pre chain) (hpre : ∀ F, F ∈ pre → F ∈ Γ) (hf : P.funcs[f]? = some fn)
  (hc : ∀ (args : Array Value) (w : World), (callFunc k args).run P w = .ok (.enter k args) w) (hsd : O6 P k cap.toArray pre2 Ms0 (.panicking chain) u' N Ms1) (hpre2 : ∀ F, F ∈ pre2 → F ∈ Γ) (hm : Ms.Perm (Ms0 ++ Ms2)) (hset : settle u' = .returning)
  (hres : ∀ a w', Rel n a σ → St B (N ++ Γ) (Ms1 ++ Ms2) w' → ∃ v, (results fn a.tmps).run P w' = .ok v w' ∧ R (.returned v) w') (hD : n.defs = [⟨.fn (.func k) cap.toArray, #[]⟩] := by rfl) (hK : n.kind = .normal := by rfl) : E9 P f R B n K ops l (C2 dst op ty) σ Γ Ms := by
 intro a w hr hs
 unfold Oper.wp
 rw [hr.eval, show (execOp (ev σ) (C2 dst op ty)).run P w = .ok (.enter c args) w by rw [C2, Dt (d' := none)]; exact he w]
 have hs' : St B Γ ([] ++ Ms) w := hs
 refine (hsp (M9 B ([] ++ Ms) w) w (fun b hb => ⟨hb.2.1, Gq b⟩) (hs'.hand hpre)).mono ?_
 rintro e w' ⟨rfl, hx⟩
 refine ⟨.inl hK, fun fn' hfn' => ?_⟩
 rw [hf] at hfn'
 injection hfn' with hfn'
 subst hfn'
 rw [hr.defs, hD]
 have h1 : St B Γ Ms w' := by have := hs'.frame hx; simpa using this
 exact B0r Cf hc hsd hpre2 hm hset h1 (fun w' h => hres a w' hr h)
end
section
variable {P : Program} {f : FuncId} {fn : Func} {B : By} {Γ : List Fact} {Ms : List Az}
theorem A9a {R : Ending → World → Prop} {n : Fz} {args : Array Value} {c : Code} {w : World} {d d2 : Tmp} {o1 o2 : Oper} {id : Nat} (hf : P.funcs[f]? = some fn) (hb : fn.body = some (.seq (.region id #[o1, o2] false) c)) (hn : fn.ntmps = n.sz) (hD : n.defs = []) (hk : n.kind = .deferred) (ha : args.size ≤ n.sz) (hs : St B Γ Ms w)
  (h1 : ∀ ρ w, (execOp ρ o1).run P w = .ok .recover w) (hd1 : o1.dst = some d) (hg1 : o1.guard = none) (h2 : ∀ ρ : Operand → Value, execOp ρ o2 = pure (.value (ρ (.tmp d)))) (hd2 : o2.dst = some d2) (hg2 : o2.guard = none) (hl1 : Nat.blt d n.sz = true) (hl2 : Nat.blt d2 n.sz = true)
  (h : Ec P f R B n [.code c] (Oz (Oz (fun t => args.getD t undef) d .nilIface) d2 .nilIface) Γ Ms) : CallsD P f args .returning w fun e u' w' => u' = .returning ∧ R e w' := by
 intro c0 cs hu
 let b : Frame := { (default : Frame) with fn := f, kind := .deferred }
 have henter : Frame.enter P f args .deferred = b.at { tmps := args ++ Array.replicate (fn.ntmps - args.size) undef, defers := [] } [.code (.seq (.region id #[o1, o2] false) c)] := by
  simp [Frame.enter, Frame.at, hf, hb, b]
 have hr0 := Se (fn := fn) hn hD ha
 have hr1 := hr0.put (dst := some d) hl1 .nilIface
 have hr2 := hr1.put (dst := some d2) hl2 .nilIface
 have hS : wpOpsS P #[o1, o2] (fun e a' cs' w' => e = .normal ∧ a' = (({ tmps := args ++ Array.replicate (fn.ntmps - args.size) undef, defers := [] } : Act).put (some d) .nilIface).put (some d2) .nilIface ∧ cs' = c0 :: cs ∧ w' = w) [0, 1] { tmps := args ++ Array.replicate (fn.ntmps - args.size) undef, defers := [] } (c0 :: cs) w := by
  have e1 : (#[o1, o2])[0]? = some o1 := rfl
  have e2 : (#[o1, o2])[1]? = some o2 := rfl
  have hrec : recoverD (c0 :: cs) = none := by simp [recoverD, hu]
  have hput : ((({ tmps := args ++ Array.replicate (fn.ntmps - args.size) undef, defers := [] } : Act).put (some d) .nilIface).eval (.tmp d)) = .nilIface := by
   rw [hr1.eval]; simp [ev, Ac, I1]
  simp only [wpOpsS, e1, e2, Region.wanted, hg1, hg2, if_true, h1, hrec, hd1, h2]
  rw [hput]
  show Oper.upon P o2 _ _ _ (.ok (.value .nilIface) w)
  simp only [Oper.upon_value, hd2, and_self]
 obtain ⟨e, a', cs', w', ⟨rfl, rfl, rfl, rfl⟩, harr⟩ := wp_opsS [0, 1] _ _ _ hS b [.code c] rfl rfl
 obtain ⟨e, w2, fr, hR, hc, hf', hl⟩ := h _ w' hr2 hs b (c0 :: cs) rfl hk.symm
 rcases hl with ⟨h9, _⟩ | ⟨_, hk2, hgo⟩
 ·rw [hk] at h9; cases h9
 ·refine ⟨e, .returning, w2, fr, ⟨rfl, hR⟩, ?_, hk2, hgo⟩
  have hc0 : ({ c0 with mode := .returning } : Frame) = c0 := by rw [← hu]
  rw [henter, hc0]
  exact hc.of_steps (.head step_seq (.head step_region harr))
theorem Zi {args : List Value} {d d2 : Nat} {v : Value} : (Oz (Oz (fun t => args.toArray.getD t undef) d v) d2 v) = Oz (Oz (fun t => args.getD t undef) d v) d2 v := by
 have he : (fun t => args.toArray.getD t undef) = fun t => args.getD t undef := by
  funext t
  simp [Array.getD_eq_getD_getElem?, List.getD_eq_getElem?_getD]
 rw [he]
theorem A3h {args : List Value} {c : Code} {d d2 sz : Nat} {o1 o2 : Oper} {id : Nat} {v : Value} {older : List PanicEntry} {N pre : List Fact} {Ms0 Ms1 : List Az} (hf : P.funcs[f]? = some fn) (hb : fn.body = some (.seq (.region id #[o1, o2] false) c)) (hn : fn.ntmps = sz) (ha : args.length ≤ sz)
  (h1 : ∀ ρ w, (execOp ρ o1).run P w = .ok .recover w) (hd1 : o1.dst = some d) (hg1 : o1.guard = none) (h2 : ∀ ρ : Operand → Value, execOp ρ o2 = pure (.value (ρ (.tmp d)))) (hd2 : o2.dst = some d2) (hg2 : o2.guard = none) (hl1 : Nat.blt d sz = true) (hl2 : Nat.blt d2 sz = true)
  (h : ∀ B : By, (∀ b, B.S0 b ↔ B3 Ms0 b) → Ec P f (Ends B (fun _ : Unit => .tuple #[]) (fun _ => N) (fun _ => Ms1)) B ⟨sz, [], .deferred⟩ [.code c] (Oz (Oz (fun t => args.getD t undef) d v) d2 v) pre Ms0) :
  O6 P f args.toArray pre Ms0 (.panicking ({ v, recovered := false } :: older)) (.panicking ({ v, recovered := true } :: older)) N Ms1 := by
 intro ok w hok hs
 refine (B4f (n := ⟨sz, [], .deferred⟩) hf hb hn rfl rfl (by simpa using ha) hs h1 hd1 hg1 h2 hd2 hg2 hl1 hl2 (by rw [Zi]; exact h ⟨ok, B3 Ms0, w⟩ (fun _ => Iff.rfl))).mono ?_
 rintro e u w' ⟨rfl, _, he, hx⟩
 exact ⟨he, rfl, hx⟩
theorem Y2 {args : List Value} {c : Code} {d d2 sz : Nat} {o1 o2 : Oper} {id : Nat} {N pre : List Fact} {Ms0 Ms1 : List Az} (hf : P.funcs[f]? = some fn) (hb : fn.body = some (.seq (.region id #[o1, o2] false) c)) (hn : fn.ntmps = sz) (ha : args.length ≤ sz)
  (h1 : ∀ ρ w, (execOp ρ o1).run P w = .ok .recover w) (hd1 : o1.dst = some d) (hg1 : o1.guard = none) (h2 : ∀ ρ : Operand → Value, execOp ρ o2 = pure (.value (ρ (.tmp d)))) (hd2 : o2.dst = some d2) (hg2 : o2.guard = none) (hl1 : Nat.blt d sz = true) (hl2 : Nat.blt d2 sz = true)
  (h : ∀ B : By, (∀ b, B.S0 b ↔ B3 Ms0 b) → Ec P f (Ends B (fun _ : Unit => .tuple #[]) (fun _ => N) (fun _ => Ms1)) B ⟨sz, [], .deferred⟩ [.code c] (Oz (Oz (fun t => args.getD t undef) d .nilIface) d2 .nilIface) pre Ms0) :
  O6 P f args.toArray pre Ms0 .returning .returning N Ms1 := by
 intro ok w hok hs
 refine (A9a (n := ⟨sz, [], .deferred⟩) hf hb hn rfl rfl (by simpa using ha) hs h1 hd1 hg1 h2 hd2 hg2 hl1 hl2 (by rw [Zi]; exact h ⟨ok, B3 Ms0, w⟩ (fun _ => Iff.rfl))).mono ?_
 rintro e u w' ⟨rfl, _, he, hx⟩
 exact ⟨he, rfl, hx⟩
end
section
variable {P : Program} [Tab P] {f : FuncId} {R : Ending → World → Prop} {B : By} {n : Fz} {K : List Item} {ops : Array Oper} {i : Nat} {l : List Nat} {σ : Nat → Value} {Γ : List Fact} {Ms : List Az}
variable {dst : Option Tmp} {ty : TypeId} {v : Value} {x y : Operand}
theorem Xr {t : TypeId} (hu : (match Tab.und P t with | some (.interface _) => true | _ => false) = true) : ∃ m, Tab.und P t = some (.interface m) := by
 cases h : Tab.und P t with
 | none => rw [h] at hu; cases hu
 | some d => cases d <;> rw [h] at hu <;> first | exact ⟨_, rfl⟩ | cases hu
theorem B5p {t T : TypeId} {v : Value} (hu : (match Tab.und P t with | some (.interface _) => true | _ => false) = true) (w : World) : (Op.equal t (.iface T v) .nilIface).run P w = .ok false w := by
 obtain ⟨m, hu'⟩ := Xr hu
 have h1 : (Op.equalIn (9999 + 1) t (.iface T v) .nilIface).run P w = .ok false w := by
  unfold Op.equalIn
  rw [A9 (D9 hu' w)]
  rfl
 exact h1
theorem B5o {t : TypeId} (hu : (match Tab.und P t with | some (.interface _) => true | _ => false) = true) (w : World) : (Op.equal t .nilIface .nilIface).run P w = .ok true w := by
 obtain ⟨m, hu'⟩ := Xr hu
 have h1 : (Op.equalIn (9999 + 1) t .nilIface .nilIface).run P w = .ok true w := by
  unfold Op.equalIn
  rw [A9 (D9 hu' w)]
  rfl
 exact h1
theorem Yo {t t' T : TypeId} (k_ : De P f R B n K ops l (Ac σ dst (.bool true)) Γ Ms) (hx : ev σ x = .iface T v := by exact A8) (hu : (match Tab.und P t with | some (.interface _) => true | _ => false) = true := by rfl) (hd : Aa n dst = true := by rfl) : E9 P f R B n K ops l (C2 dst (.binOp .neq t x (.const .nilIface) t') ty) σ Γ Ms := B4 (Cw hx (show ev σ (.const .nilIface) = Value.nilIface from rfl) (fun w => by simp [eqGuard_at_iface]) (fun w => by
 simp only [binOp]
 rw [A9 (B5p hu w)]; rfl)) hd k_
theorem B0i {t t' : TypeId} (k_ : De P f R B n K ops l (Ac σ dst (.bool false)) Γ Ms) (hx : ev σ x = .nilIface := by exact A8) (hu : (match Tab.und P t with | some (.interface _) => true | _ => false) = true := by rfl) (hd : Aa n dst = true := by rfl) : E9 P f R B n K ops l (C2 dst (.binOp .neq t x (.const .nilIface) t') ty) σ Γ Ms := B4 (Cw hx (show ev σ (.const .nilIface) = Value.nilIface from rfl) (fun w => by cases x <;> rfl) (fun w => by
 simp only [binOp]
 rw [A9 (B5o hu w)]; rfl)) hd k_
theorem Yn {t T : TypeId} {d : TypeDesc} (k_ : De P f R B n K ops l (Ac σ dst (.tuple #[v, .bool true])) Γ Ms) (hx : ev σ x = .iface T v := by exact A8) (hu : Tab.und P T = some d := by rfl) (hdd : (match d with | .interface _ => true | _ => false) = false := by rfl) (hd : Aa n dst = true := by rfl) : E9 P f R B n K ops l (C2 dst (.typeAssert x t T true) ty) σ Γ Ms := B4 (fun w => by
 cases d <;> first | (simp at hdd; done) | simp [C2, execOp, hx, Instr.typeAssert, D9 hu]) hd k_
end
section
variable {P : Program} [Tab P] {f : FuncId} {fn : Func} {B : By} {n : Fz} {K : List Item} {σ : Nat → Value} {Γ : List Fact} {Ms : List Az} {X : Type} {val : X → Value} {N : X → List Fact} {Ms1 : X → List Az}
theorem Pt {r t T r2 t2 T2 b b2 s bt : Nat} {zv v2 : Value} {d : TypeDesc} {lay : List (Nat × Nat)} {cs : List Value} {a : Act} {w : World} (hr : fn.results = #[.cell r t, .cell r2 t2]) (ha : Rel n a σ) (hs : St B Γ Ms w) (hb : σ r = .pointer (some ⟨b, 0, none⟩)) (hb2 : σ r2 = .pointer (some ⟨b2, 0, none⟩)) (hm : A7 b cs T ∈ Ms) (hm2 : A7 b2 [v2] T2 ∈ Ms)
  (hl : Tab.lay P t = some lay) (hi : Tab.inf P t = some (s, bt, zv)) (hcs : cs.length = s) (hu : Tab.und P t2 = some d) (hd : (match d with | .struct _ | .array _ _ => true | _ => false) = false) : (results fn a.tmps).run P w = .ok (.tuple #[.agg cs.toArray, v2]) w := by
 have h1 := ha.get r
 rw [hb] at h1
 have h3 := ha.get r2
 rw [hb2] at h3
 have h2 := Cv (P := P) (bk := b) (off := 0) (w := w) hl hi hcs (fun j v hj => by rw [Nat.zero_add]; exact Ja hs hm j v hj)
 have h4 : (loadVar t2 ⟨b2, 0, none⟩).run P w = .ok v2 w := E6 (P := P) (off := 0) (w := w) hu hd (Ja hs hm2 0 v2 rfl)
 have h1' : (a.tmps[r]?.getD undef) = .pointer (some ⟨b, 0, none⟩) := by simpa [Array.getD_eq_getD_getElem?] using h1
 have h3' : (a.tmps[r2]?.getD undef) = .pointer (some ⟨b2, 0, none⟩) := by simpa [Array.getD_eq_getD_getElem?] using h3
 simp [results, hr, asAddr, h1', h2, h3', h4]
theorem Y9 {r t T r2 t2 T2 b b2 s bt : Nat} {zv v2 : Value} {d : TypeDesc} {lay : List (Nat × Nat)} {cs : List Value} (hf : P.funcs[f]? = some fn) (hr : fn.results = #[.cell r t, .cell r2 t2]) (x : X) (hb : σ r = .pointer (some ⟨b, 0, none⟩)) (hb2 : σ r2 = .pointer (some ⟨b2, 0, none⟩)) (hm : A7 b cs T ∈ Ms) (hm2 : A7 b2 [v2] T2 ∈ Ms)
  (hl : Tab.lay P t = some lay) (hi : Tab.inf P t = some (s, bt, zv)) (hcs : cs.length = s) (hu : Tab.und P t2 = some d) (hd : (match d with | .struct _ | .array _ _ => true | _ => false) = false) (hv : Value.tuple #[.agg cs.toArray, v2] = val x) (hs : ∀ w, St B Γ Ms w → St B (N x) (Ms1 x) w) (hD : n.defs = [] := by rfl) (hK : okK n.kind := by first | exact .inl rfl | exact .inr rfl) : Ec P f (Ends B val N Ms1) B n (.code .ret :: K) σ Γ Ms :=
 go_ret hf (fun a w ha h => (Pt hr ha h hb hb2 hm hm2 hl hi hcs hu hd).trans (by rw [hv])) (fun w h => ⟨x, rfl, hs w h⟩) hD hK
end
section
variable {P : Program} [Tab P] {f : FuncId} {fn : Func} {B : By} {n : Fz} {K : List Item} {σ : Nat → Value} {Γ : List Fact} {Ms : List Az} {X : Type} {val : X → Value} {N : X → List Fact} {Ms1 : X → List Az}
theorem A7i {r t T r2 t2 T2 b b2 s bt : Nat} {zv v2 : Value} {d : TypeDesc} {lay : List (Nat × Nat)} {cs : List Value} {k : FuncId} {cap : List Value} (hf : P.funcs[f]? = some fn) (hr : fn.results = #[.cell r t, .cell r2 t2]) (hc : ∀ (args : Array Value) (w : World), (callFunc k args).run P w = .ok (.enter k args) w) (hsp : O6 P k cap.toArray [] [] .returning .returning [] [])
  (x : X) (hb : σ r = .pointer (some ⟨b, 0, none⟩)) (hb2 : σ r2 = .pointer (some ⟨b2, 0, none⟩)) (hm : A7 b cs T ∈ Ms) (hm2 : A7 b2 [v2] T2 ∈ Ms)
  (hl : Tab.lay P t = some lay) (hi : Tab.inf P t = some (s, bt, zv)) (hcs : cs.length = s) (hu : Tab.und P t2 = some d) (hd : (match d with | .struct _ | .array _ _ => true | _ => false) = false) (hv : Value.tuple #[.agg cs.toArray, v2] = val x) (hs : ∀ w, St B Γ Ms w → St B (N x) (Ms1 x) w) (hD : n.defs = [⟨.fn (.func k) cap.toArray, #[]⟩] := by rfl) (hK : n.kind = .normal := by rfl) : Ec P f (Ends B val N Ms1) B n (.code .ret :: K) σ Γ Ms :=
 C1c (Ms2 := Ms) hf hc hsp (fun F hF => by cases hF) (List.Perm.refl _) (fun a w' ha h => ⟨_, Pt hr ha h hb hb2 hm hm2 hl hi hcs hu hd, ⟨x, by rw [hv], hs w' h⟩⟩) hD hK
theorem B6o {r t T r2 t2 T2 b b2 s bt : Nat} {zv v2 : Value} {d : TypeDesc} {lay : List (Nat × Nat)} {cs cs0 : List Value} {v0 : Value} {k c : FuncId} {cap : List Value} {ops : Array Oper} {l : List Nat} {dst : Option Tmp} {op : Op} {ty : TypeId} {args : Array Value} {pre : List Fact} {chain : List PanicEntry} {u' : FrameMode} {Ms2 : List Az} (he : O7 P σ op ty c args) (hspp : O5 P c args pre chain) (hpre : ∀ F, F ∈ pre → F ∈ Γ)
  (hf : P.funcs[f]? = some fn) (hr : fn.results = #[.cell r t, .cell r2 t2]) (hc : ∀ (args : Array Value) (w : World), (callFunc k args).run P w = .ok (.enter k args) w) (hsp : O6 P k cap.toArray [] [A7 b cs0 T, A7 b2 [v0] T2] (.panicking chain) u' [] [A7 b cs T, A7 b2 [v2] T2]) (hset : settle u' = .returning) (hm : Ms.Perm (A7 b cs0 T :: A7 b2 [v0] T2 :: Ms2))
  (x : X) (hb : σ r = .pointer (some ⟨b, 0, none⟩)) (hb2 : σ r2 = .pointer (some ⟨b2, 0, none⟩))
  (hl : Tab.lay P t = some lay) (hi : Tab.inf P t = some (s, bt, zv)) (hcs : cs.length = s) (hu : Tab.und P t2 = some d) (hd : (match d with | .struct _ | .array _ _ => true | _ => false) = false) (hv : Value.tuple #[.agg cs.toArray, v2] = val x) (hs : ∀ w, St B Γ [] w → St B (N x) (Ms1 x) w) (hD : n.defs = [⟨.fn (.func k) cap.toArray, #[]⟩] := by rfl) (hK : n.kind = .normal := by rfl) : E9 P f (Ends B val N Ms1) B n K ops l (C2 dst op ty) σ Γ Ms :=
 C0l (Ms0 := [A7 b cs0 T, A7 b2 [v0] T2]) (Ms2 := Ms2) he hspp hpre hf hc hsp (fun F hF => by cases hF) hm hset (fun a w' ha h => ⟨_, Pt hr ha h hb hb2 (List.mem_cons_self) (List.mem_cons_of_mem _ List.mem_cons_self) hl hi hcs hu hd, ⟨x, by rw [hv], hs w' (St.L0 (A := A7 b cs T :: A7 b2 [v2] T2 :: Ms2) (Ms := []) (by rw [List.append_nil]; exact h))⟩⟩) hD hK
end
section
variable {P : Program} [Tab P] {f : FuncId} {R : Ending → World → Prop} {B : By} {n : Fz} {K : List Item} {ops : Array Oper} {i : Nat} {l : List Nat} {σ : Nat → Value} {Γ : List Fact} {Ms : List Az}
variable {dst : Option Tmp} {ty : TypeId} {v : Value} {x y : Operand}
theorem B2p {s d : TypeId} {a : Nat} (hs : Tab.und P s = some (.int .u32)) (hd : Tab.und P d = some (.int .u64)) (hx : ev σ x = .int .u32 (a : Int)) (ha : a < 4294967296) : C8 P σ (.convert s d x) ty (.int .u64 (a : Int)) := by
 have e : IntKind.u64.wrap (a : Int) = (a : Int) := by
  have : IntKind.u64.wrap (a : Int) = (a : Int) % 18446744073709551616 := by simp [IntKind.wrap, IntKind.bits, IntKind.signed]
  rw [this]; omega
 have := Kc (P := P) (ty := ty) hs hd hx
 rwa [e] at this
theorem B6y {s d : TypeId} {a : Nat} (k_ : De P f R B n K ops l (Ac σ dst (.int .u64 (a : Int))) Γ Ms) (hx : ev σ x = .int .u32 (a : Int) := by exact A8) (ha : a < 4294967296 := by first | assumption | omega) (hs : Tab.und P s = some (.int .u32) := by rfl) (hd' : Tab.und P d = some (.int .u64) := by rfl) (hd : Aa n dst = true := by rfl) : E9 P f R B n K ops l (C2 dst (.convert s d x) ty) σ Γ Ms := B4 (B2p hs hd' hx ha) hd k_
end
end Go.Hy
