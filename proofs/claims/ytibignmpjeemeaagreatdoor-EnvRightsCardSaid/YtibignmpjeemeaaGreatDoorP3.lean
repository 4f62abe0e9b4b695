/- Contracts of this program's functions and the laws that they need. -/
import Derived.WideShapes
import Derived.ArgAppend
import Derived.Test.YtibignmpjeemeaaGreatDoorP2
set_option linter.unusedVariables false
set_option linter.unusedSimpArgs false
set_option linter.unusedSectionVars false
namespace Go.Hy
section
variable {tn : Bool} {pn : Nat} {P : Program} [Tab P] {f : FuncId} {R : Ending → World → Prop} {B : C2} {n : Fz} {K : List Item} {ops : Array Oper} {i : Nat} {l fin : List Nat} {σ : Nat → Value} {Γ : List Fact} {Ms Ms2 : List B2}
variable {dst : Option Tmp} {op : Op} {ty : TypeId} {pos : String} {after : Array Edge} {v : Value} {x y z : Operand}
theorem Bs  (k_ : D9 P f R B n K ops l (Ai σ dst v) Γ Ms) (h : ev σ x = v := by exact A4) (hd : A8 n dst = true := by rfl) : Ds P f R B n K ops l (C3 dst (.move x) ty) σ Γ Ms := Ay (B0y h) hd k_
theorem Ue  (k_ : NV tn pn P f R B n K ops fin l (Ai σ dst v) Γ Ms) (h : ev σ x = v := by exact A4) (hd : A8 n dst = true := by rfl) : I4 tn pn P f R B n K ops fin i l dst (.move x) ty σ Γ Ms := Cy (B0y h) hd k_
theorem B9p  (k_ : D9 P f R B n K ops l (Ai σ dst v) Γ Ms) (h : ev σ x = v := by exact A4) (hd : A8 n dst = true := by rfl) : Ds P f R B n K ops l (C3 dst (.assign x) ty) σ Γ Ms := Ay (Ye h) hd k_
theorem B7f  (k_ : NV tn pn P f R B n K ops fin l (Ai σ dst v) Γ Ms) (h : ev σ x = v := by exact A4) (hd : A8 n dst = true := by rfl) : I4 tn pn P f R B n K ops fin i l dst (.assign x) ty σ Γ Ms := Cy (Ye h) hd k_
theorem B1h  (k_ : D9 P f R B n K ops l (Ai σ dst v) Γ Ms) (hz : ev σ z = .bool true := by rfl) (h : ev σ x = v := by exact A4) (hd : A8 n dst = true := by rfl) : Ds P f R B n K ops l (C3 dst (.pick z x y) ty) σ Γ Ms := Ay (A3v hz h) hd k_
theorem B0f  (k_ : NV tn pn P f R B n K ops fin l (Ai σ dst v) Γ Ms) (hz : ev σ z = .bool true := by rfl) (h : ev σ x = v := by exact A4) (hd : A8 n dst = true := by rfl) : I4 tn pn P f R B n K ops fin i l dst (.pick z x y) ty σ Γ Ms := Cy (A3v hz h) hd k_
theorem B1i  (k_ : D9 P f R B n K ops l (Ai σ dst v) Γ Ms) (hz : ev σ z = .bool false := by rfl) (h : ev σ y = v := by exact A4) (hd : A8 n dst = true := by rfl) : Ds P f R B n K ops l (C3 dst (.pick z x y) ty) σ Γ Ms := Ay (A3w hz h) hd k_
theorem B0g  (k_ : NV tn pn P f R B n K ops fin l (Ai σ dst v) Γ Ms) (hz : ev σ z = .bool false := by rfl) (h : ev σ y = v := by exact A4) (hd : A8 n dst = true := by rfl) : I4 tn pn P f R B n K ops fin i l dst (.pick z x y) ty σ Γ Ms := Cy (A3w hz h) hd k_
theorem D3q {t t' : TypeId} {a b : Int} (k_ : D9 P f R B n K ops l (Ai σ dst (.int .i64 (a + b))) Γ Ms) (hx : ev σ x = .int .i64 a := by exact A4) (hy : ev σ y = .int .i64 b := by exact A4) (h : Ap (a + b) := by unfold Ap; first | omega | (unfold Ap at *; omega) | (unfold reach at *; omega) | (unfold Er at *; omega) | (simp only [Ap, reach, Er] at *; omega)) (hd : A8 n dst = true := by rfl) : Ds P f R B n K ops l (C3 dst (.binOp .add t x y t') ty) σ Γ Ms := Ay (B8q hx hy h) hd k_
theorem D2q {t t' : TypeId} {a b : Int} (k_ : NV tn pn P f R B n K ops fin l (Ai σ dst (.int .i64 (a + b))) Γ Ms) (hx : ev σ x = .int .i64 a := by exact A4) (hy : ev σ y = .int .i64 b := by exact A4) (h : Ap (a + b) := by unfold Ap; first | omega | (unfold Ap at *; omega) | (unfold reach at *; omega) | (unfold Er at *; omega) | (simp only [Ap, reach, Er] at *; omega)) (hd : A8 n dst = true := by rfl) : I4 tn pn P f R B n K ops fin i l dst (.binOp .add t x y t') ty σ Γ Ms := Cy (B8q hx hy h) hd k_
theorem Vc {t t' : TypeId} {a b : Int} (k_ : D9 P f R B n K ops l (Ai σ dst (.int .i64 (a - b))) Γ Ms) (hx : ev σ x = .int .i64 a := by exact A4) (hy : ev σ y = .int .i64 b := by exact A4) (h : Ap (a - b) := by unfold Ap; first | omega | (unfold Ap at *; omega) | (unfold reach at *; omega) | (unfold Er at *; omega) | (simp only [Ap, reach, Er] at *; omega)) (hd : A8 n dst = true := by rfl) : Ds P f R B n K ops l (C3 dst (.binOp .sub t x y t') ty) σ Γ Ms := Ay (C8b hx hy h) hd k_
theorem D3j {t t' : TypeId} {a b : Int} (k_ : D9 P f R B n K ops l (Ai σ dst (.int .i64 (a * b))) Γ Ms) (hx : ev σ x = .int .i64 a := by exact A4) (hy : ev σ y = .int .i64 b := by exact A4) (h : Ap (a * b) := by unfold Ap; first | omega | (unfold Ap at *; omega) | (unfold reach at *; omega) | (unfold Er at *; omega) | (simp only [Ap, reach, Er] at *; omega)) (hd : A8 n dst = true := by rfl) : Ds P f R B n K ops l (C3 dst (.binOp .mul t x y t') ty) σ Γ Ms := Ay (C8d hx hy h) hd k_
theorem C6d {t t' : TypeId} {k : IntKind} {a b : Int} (k_ : D9 P f R B n K ops l (Ai σ dst (.bool (decide (a < b)))) Γ Ms) (hx : ev σ x = .int k a := by exact A4) (hy : ev σ y = .int k b := by exact A4) (hd : A8 n dst = true := by rfl) : Ds P f R B n K ops l (C3 dst (.binOp .lss t x y t') ty) σ Γ Ms := Ay (A7y hx hy) hd k_
theorem D2m {t t' : TypeId} {k : IntKind} {a b : Int} (k_ : NV tn pn P f R B n K ops fin l (Ai σ dst (.bool (decide (a < b)))) Γ Ms) (hx : ev σ x = .int k a := by exact A4) (hy : ev σ y = .int k b := by exact A4) (hd : A8 n dst = true := by rfl) : I4 tn pn P f R B n K ops fin i l dst (.binOp .lss t x y t') ty σ Γ Ms := Cy (A7y hx hy) hd k_
theorem B9h {t t' : TypeId} {k : IntKind} {a b : Int} (k_ : D9 P f R B n K ops l (Ai σ dst (.bool (decide (a ≤ b)))) Γ Ms) (hx : ev σ x = .int k a := by exact A4) (hy : ev σ y = .int k b := by exact A4) (hd : A8 n dst = true := by rfl) : Ds P f R B n K ops l (C3 dst (.binOp .leq t x y t') ty) σ Γ Ms := Ay (C8f hx hy) hd k_
theorem B9k {t t' : TypeId} {k : IntKind} {a b : Int} (k_ : D9 P f R B n K ops l (Ai σ dst (.bool (decide (b < a)))) Γ Ms) (hx : ev σ x = .int k a := by exact A4) (hy : ev σ y = .int k b := by exact A4) (hd : A8 n dst = true := by rfl) : Ds P f R B n K ops l (C3 dst (.binOp .gtr t x y t') ty) σ Γ Ms := Ay (B8o hx hy) hd k_
theorem D2o {t t' : TypeId} {k : IntKind} {a b : Int} (k_ : NV tn pn P f R B n K ops fin l (Ai σ dst (.bool (decide (b < a)))) Γ Ms) (hx : ev σ x = .int k a := by exact A4) (hy : ev σ y = .int k b := by exact A4) (hd : A8 n dst = true := by rfl) : I4 tn pn P f R B n K ops fin i l dst (.binOp .gtr t x y t') ty σ Γ Ms := Cy (B8o hx hy) hd k_
theorem C6f {t t' : TypeId} {k : IntKind} {a b : Int} (k_ : D9 P f R B n K ops l (Ai σ dst (.bool (decide (b ≤ a)))) Γ Ms) (hx : ev σ x = .int k a := by exact A4) (hy : ev σ y = .int k b := by exact A4) (hd : A8 n dst = true := by rfl) : Ds P f R B n K ops l (C3 dst (.binOp .geq t x y t') ty) σ Γ Ms := Ay (C8h hx hy) hd k_
theorem Yi {t t' : TypeId} {k : IntKind} {a b : Int} (k_ : D9 P f R B n K ops l (Ai σ dst (.bool (decide (a = b)))) Γ Ms) (hx : ev σ x = .int k a := by exact A4) (hy : ev σ y = .int k b := by exact A4) (hd : A8 n dst = true := by rfl) : Ds P f R B n K ops l (C3 dst (.binOp .eql t x y t') ty) σ Γ Ms := Ay (A0o hx hy) hd k_
theorem B7d {t t' : TypeId} {k : IntKind} {a b : Int} (k_ : NV tn pn P f R B n K ops fin l (Ai σ dst (.bool (decide (a = b)))) Γ Ms) (hx : ev σ x = .int k a := by exact A4) (hy : ev σ y = .int k b := by exact A4) (hd : A8 n dst = true := by rfl) : I4 tn pn P f R B n K ops fin i l dst (.binOp .eql t x y t') ty σ Γ Ms := Cy (A0o hx hy) hd k_
theorem Vd {t t' : TypeId} {k : IntKind} {a b : Int} (k_ : D9 P f R B n K ops l (Ai σ dst (.bool (decide (a ≠ b)))) Γ Ms) (hx : ev σ x = .int k a := by exact A4) (hy : ev σ y = .int k b := by exact A4) (hd : A8 n dst = true := by rfl) : Ds P f R B n K ops l (C3 dst (.binOp .neq t x y t') ty) σ Γ Ms := Ay (A7x hx hy) hd k_
theorem B0h {t t' : TypeId} {k : IntKind} {a b : Int} (k_ : NV tn pn P f R B n K ops fin l (Ai σ dst (.bool (decide (a ≠ b)))) Γ Ms) (hx : ev σ x = .int k a := by exact A4) (hy : ev σ y = .int k b := by exact A4) (hd : A8 n dst = true := by rfl) : I4 tn pn P f R B n K ops fin i l dst (.binOp .neq t x y t') ty σ Γ Ms := Cy (A7x hx hy) hd k_
theorem B1k {t t' : TypeId} {s s' : ByteArray} (k_ : D9 P f R B n K ops l (Ai σ dst (.bool (!(s.toList == s'.toList)))) Γ Ms) (hx : ev σ x = .string s := by exact A4) (hy : ev σ y = .string s' := by exact A4) (hd : A8 n dst = true := by rfl) : Ds P f R B n K ops l (C3 dst (.binOp .neq t x y t') ty) σ Γ Ms := Ay (B8k hx hy) hd k_
theorem C5r {t t' : TypeId} {s s' : ByteArray} (k_ : NV tn pn P f R B n K ops fin l (Ai σ dst (.bool (!(s.toList == s'.toList)))) Γ Ms) (hx : ev σ x = .string s := by exact A4) (hy : ev σ y = .string s' := by exact A4) (hd : A8 n dst = true := by rfl) : I4 tn pn P f R B n K ops fin i l dst (.binOp .neq t x y t') ty σ Γ Ms := Cy (B8k hx hy) hd k_
theorem C6c {t : TypeId} {c : Bool} (k_ : D9 P f R B n K ops l (Ai σ dst (.bool (!c))) Γ Ms) (hx : ev σ x = .bool c := by exact A4) (hd : A8 n dst = true := by rfl) : Ds P f R B n K ops l (C3 dst (.unOp .not t x) ty) σ Γ Ms := Ay (B8j hx) hd k_
theorem Xs {t : TypeId} {c : Bool} (k_ : NV tn pn P f R B n K ops fin l (Ai σ dst (.bool (!c))) Γ Ms) (hx : ev σ x = .bool c := by exact A4) (hd : A8 n dst = true := by rfl) : I4 tn pn P f R B n K ops fin i l dst (.unOp .not t x) ty σ Γ Ms := Cy (B8j hx) hd k_
theorem B4n {vs : Array Value} {j : Nat} (k_ : D9 P f R B n K ops l (Ai σ dst v) Γ Ms) (hx : ev σ x = .tuple vs := by exact A4) (hj : vs[j]? = some v := by exact A4) (hd : A8 n dst = true := by rfl) : Ds P f R B n K ops l (C3 dst (.extract x j) ty) σ Γ Ms := Ay (V5 hx hj) hd k_
theorem B3f {vs : Array Value} {j : Nat} (k_ : NV tn pn P f R B n K ops fin l (Ai σ dst v) Γ Ms) (hx : ev σ x = .tuple vs := by exact A4) (hj : vs[j]? = some v := by exact A4) (hd : A8 n dst = true := by rfl) : I4 tn pn P f R B n K ops fin i l dst (.extract x j) ty σ Γ Ms := Cy (V5 hx hj) hd k_
theorem A8i {fn : Fn} {cap : Array Operand} {vs : List Value} (k_ : D9 P f R B n K ops l (Ai σ dst (.func fn #[] vs.toArray)) Γ Ms) (h : cap.toList.map (ev σ) = vs := by first | exact D7r (by first | ((conv => lhs; whnf); done) | rfl) | exact D7q (by first | ((conv => lhs; whnf); done) | rfl) (by first | ((conv => lhs; whnf); done) | rfl) | exact D7p (by first | ((conv => lhs; whnf); done) | rfl) (by first | ((conv => lhs; whnf); done) | rfl) (by first | ((conv => lhs; whnf); done) | rfl) | exact D7o (by first | ((conv => lhs; whnf); done) | rfl) (by first | ((conv => lhs; whnf); done) | rfl) (by first | ((conv => lhs; whnf); done) | rfl) (by first | ((conv => lhs; whnf); done) | rfl) | rfl) (hd : A8 n dst = true := by rfl) : Ds P f R B n K ops l (C3 dst (.makeFunc fn #[] cap) ty) σ Γ Ms := Ay (A3y h) hd k_
theorem C6e {ts : Array TypeId} {t e : TypeId} {A : Option Addr} {m c : Nat} (k_ : D9 P f R B n K ops l (Ai σ dst (.int .i64 (m : Int))) Γ Ms) (hx : ev σ x = .slice A m c := by exact A4) (ht : ts[0]? = some t := by rfl) (hu : Tab.und P t = some (.slice e) := by rfl) (hd : A8 n dst = true := by rfl) : Ds P f R B n K ops l (C3 dst (.call { callee := .builtin .len, args := #[x], argTypes := ts }) ty) σ Γ Ms := Ay (B0z ht hu hx) hd k_
theorem Xt {ts : Array TypeId} {t e : TypeId} {A : Option Addr} {m c : Nat} (k_ : NV tn pn P f R B n K ops fin l (Ai σ dst (.int .i64 (m : Int))) Γ Ms) (hx : ev σ x = .slice A m c := by exact A4) (ht : ts[0]? = some t := by rfl) (hu : Tab.und P t = some (.slice e) := by rfl) (hd : A8 n dst = true := by rfl) : I4 tn pn P f R B n K ops fin i l dst (.call { callee := .builtin .len, args := #[x], argTypes := ts }) ty σ Γ Ms := Cy (B0z ht hu hx) hd k_
theorem Np {ts : Array TypeId} {t : TypeId} {s : ByteArray} (k_ : D9 P f R B n K ops l (Ai σ dst (.int .i64 (s.size : Int))) Γ Ms) (hx : ev σ x = .string s := by exact A4) (ht : ts[0]? = some t := by rfl) (hu : Tab.und P t = some .string := by rfl) (hd : A8 n dst = true := by rfl) : Ds P f R B n K ops l (C3 dst (.call { callee := .builtin .len, args := #[x], argTypes := ts }) ty) σ Γ Ms := Ay (B3v ht hu hx) hd k_
theorem A4m {ts : Array TypeId} {a b : Int} (k_ : D9 P f R B n K ops l (Ai σ dst (.int .i64 (if b < a then b else a))) Γ Ms) (hx : ev σ x = .int .i64 a := by exact A4) (hy : ev σ y = .int .i64 b := by exact A4) (hd : A8 n dst = true := by rfl) : Ds P f R B n K ops l (C3 dst (.call { callee := .builtin .min, args := #[x, y], argTypes := ts }) ty) σ Γ Ms := Ay (C8e hx hy) hd k_
theorem Ty {t : TypeId} {j bk off o : Nat} (k_ : D9 P f R B n K ops l (Ai σ dst (.pointer (some ⟨bk, off + o, none⟩))) Γ Ms) (hx : ev σ x = .pointer (some ⟨bk, off, none⟩) := by exact A4) (hf : Tab.foff P t j = some o := by rfl) (hd : A8 n dst = true := by rfl) : Ds P f R B n K ops l (C3 dst (.fieldAddr t x j) ty) σ Γ Ms := Ay (R2 hf hx) hd k_
theorem Jw {t : TypeId} {j bk off o : Nat} (k_ : NV tn pn P f R B n K ops fin l (Ai σ dst (.pointer (some ⟨bk, off + o, none⟩))) Γ Ms) (hx : ev σ x = .pointer (some ⟨bk, off, none⟩) := by exact A4) (hf : Tab.foff P t j = some o := by rfl) (hd : A8 n dst = true := by rfl) : I4 tn pn P f R B n K ops fin i l dst (.fieldAddr t x j) ty σ Γ Ms := Cy (R2 hf hx) hd k_
theorem B7 {t : TypeId} {s bt : Nat} {zv : Value} {parts : Array (Nat × Operand)} {pv : List (Nat × Value)} {l' : List (Nat × Nat)} {cs : List Value} (k_ : D9 P f R B n K ops l (Ai σ dst (.agg cs.toArray)) Γ Ms) (hl : Tab.lay P t = some l' := by rfl) (hi : Tab.inf P t = some (s, bt, zv) := by rfl) (hp : parts.toList.map (fun (i, x) => (i, ev σ x)) = pv := by first | exact pv0  | exact pv1 (by first | ((conv => lhs; whnf); done) | rfl) | exact pv2 (by first | ((conv => lhs; whnf); done) | rfl) (by first | ((conv => lhs; whnf); done) | rfl) | exact pv3 (by first | ((conv => lhs; whnf); done) | rfl) (by first | ((conv => lhs; whnf); done) | rfl) (by first | ((conv => lhs; whnf); done) | rfl) | exact pv4 (by first | ((conv => lhs; whnf); done) | rfl) (by first | ((conv => lhs; whnf); done) | rfl) (by first | ((conv => lhs; whnf); done) | rfl) (by first | ((conv => lhs; whnf); done) | rfl) | exact pv5 (by first | ((conv => lhs; whnf); done) | rfl) (by first | ((conv => lhs; whnf); done) | rfl) (by first | ((conv => lhs; whnf); done) | rfl) (by first | ((conv => lhs; whnf); done) | rfl) (by first | ((conv => lhs; whnf); done) | rfl) | exact pv6 (by first | ((conv => lhs; whnf); done) | rfl) (by first | ((conv => lhs; whnf); done) | rfl) (by first | ((conv => lhs; whnf); done) | rfl) (by first | ((conv => lhs; whnf); done) | rfl) (by first | ((conv => lhs; whnf); done) | rfl) (by first | ((conv => lhs; whnf); done) | rfl) | rfl) (hb : Instr.fill (l'.toArray[·]?) zv.cells pv = some cs.toArray := by rfl) (hd : A8 n dst = true := by rfl) : Ds P f R B n K ops l (C3 dst (.build t parts) ty) σ Γ Ms := Ay (A4b hl hi hp hb) hd k_
theorem Zs {t : TypeId} {s bt : Nat} {zv : Value} {parts : Array (Nat × Operand)} {pv : List (Nat × Value)} {l' : List (Nat × Nat)} {cs : List Value} (k_ : NV tn pn P f R B n K ops fin l (Ai σ dst (.agg cs.toArray)) Γ Ms) (hl : Tab.lay P t = some l' := by rfl) (hi : Tab.inf P t = some (s, bt, zv) := by rfl) (hp : parts.toList.map (fun (i, x) => (i, ev σ x)) = pv := by first | exact pv0  | exact pv1 (by first | ((conv => lhs; whnf); done) | rfl) | exact pv2 (by first | ((conv => lhs; whnf); done) | rfl) (by first | ((conv => lhs; whnf); done) | rfl) | exact pv3 (by first | ((conv => lhs; whnf); done) | rfl) (by first | ((conv => lhs; whnf); done) | rfl) (by first | ((conv => lhs; whnf); done) | rfl) | exact pv4 (by first | ((conv => lhs; whnf); done) | rfl) (by first | ((conv => lhs; whnf); done) | rfl) (by first | ((conv => lhs; whnf); done) | rfl) (by first | ((conv => lhs; whnf); done) | rfl) | exact pv5 (by first | ((conv => lhs; whnf); done) | rfl) (by first | ((conv => lhs; whnf); done) | rfl) (by first | ((conv => lhs; whnf); done) | rfl) (by first | ((conv => lhs; whnf); done) | rfl) (by first | ((conv => lhs; whnf); done) | rfl) | exact pv6 (by first | ((conv => lhs; whnf); done) | rfl) (by first | ((conv => lhs; whnf); done) | rfl) (by first | ((conv => lhs; whnf); done) | rfl) (by first | ((conv => lhs; whnf); done) | rfl) (by first | ((conv => lhs; whnf); done) | rfl) (by first | ((conv => lhs; whnf); done) | rfl) | rfl) (hb : Instr.fill (l'.toArray[·]?) zv.cells pv = some cs.toArray := by rfl) (hd : A8 n dst = true := by rfl) : I4 tn pn P f R B n K ops fin i l dst (.build t parts) ty σ Γ Ms := Cy (A4b hl hi hp hb) hd k_
theorem Cq {t e : TypeId} {s bt bk o m c j : Nat} {zv : Value} {A : Option Addr} (k_ : D9 P f R B n K ops l (Ai σ dst (.pointer (some ⟨bk, o + j * s, none⟩))) Γ Ms) (hx : ev σ x = .slice A m c := by exact A4) (hA : A = some ⟨bk, o, none⟩ := by first | assumption | rfl) (hy : ev σ y = .int .i64 (j : Int) := by exact A4) (hu : Tab.und P t = some (.slice e) := by rfl) (hi : Tab.inf P e = some (s, bt, zv) := by rfl) (h1 : j < m := by omega) (hd : A8 n dst = true := by rfl) : Ds P f R B n K ops l (C3 dst (.indexAddr t x y) ty) σ Γ Ms := Ay (B8n hu hi hx hA hy h1) hd k_
theorem F8 {t e : TypeId} {s bt bk o m c j : Nat} {zv : Value} {A : Option Addr} (k_ : NV tn pn P f R B n K ops fin l (Ai σ dst (.pointer (some ⟨bk, o + j * s, none⟩))) Γ Ms) (hx : ev σ x = .slice A m c := by exact A4) (hA : A = some ⟨bk, o, none⟩ := by first | assumption | rfl) (hy : ev σ y = .int .i64 (j : Int) := by exact A4) (hu : Tab.und P t = some (.slice e) := by rfl) (hi : Tab.inf P e = some (s, bt, zv) := by rfl) (h1 : j < m := by omega) (hd : A8 n dst = true := by rfl) : I4 tn pn P f R B n K ops fin i l dst (.indexAddr t x y) ty σ Γ Ms := Cy (B8n hu hi hx hA hy h1) hd k_
theorem C4c {t t' e : TypeId} {A : Option Addr} {m c : Nat} (k_ : D9 P f R B n K ops l (Ai σ dst (.bool A.isNone)) Γ Ms) (hx : ev σ x = .slice A m c := by exact A4) (hy : ev σ y = .slice none 0 0 := by rfl) (hu : Tab.und P t = some (.slice e) := by rfl) (hd : A8 n dst = true := by rfl) : Ds P f R B n K ops l (C3 dst (.binOp .eql t x y t') ty) σ Γ Ms := Ay (A3x hu hx hy) hd k_
theorem B9o {t e : TypeId} {m s bt s' bt' : Nat} {zv zv' : Value} {parts : Array (Nat × Operand)} {pv : List (Nat × Value)} {cs : List Value} (k_ : D9 P f R B n K ops l (Ai σ dst (.agg cs.toArray)) Γ Ms) (hu : Tab.und P t = some (.array m e) := by rfl) (hi : Tab.inf P t = some (s, bt, zv) := by rfl) (he : Tab.inf P e = some (s', bt', zv') := by rfl) (hp : parts.toList.map (fun (i, x) => (i, ev σ x)) = pv := by first | exact pv0  | exact pv1 (by first | ((conv => lhs; whnf); done) | rfl) | exact pv2 (by first | ((conv => lhs; whnf); done) | rfl) (by first | ((conv => lhs; whnf); done) | rfl) | exact pv3 (by first | ((conv => lhs; whnf); done) | rfl) (by first | ((conv => lhs; whnf); done) | rfl) (by first | ((conv => lhs; whnf); done) | rfl) | exact pv4 (by first | ((conv => lhs; whnf); done) | rfl) (by first | ((conv => lhs; whnf); done) | rfl) (by first | ((conv => lhs; whnf); done) | rfl) (by first | ((conv => lhs; whnf); done) | rfl) | exact pv5 (by first | ((conv => lhs; whnf); done) | rfl) (by first | ((conv => lhs; whnf); done) | rfl) (by first | ((conv => lhs; whnf); done) | rfl) (by first | ((conv => lhs; whnf); done) | rfl) (by first | ((conv => lhs; whnf); done) | rfl) | exact pv6 (by first | ((conv => lhs; whnf); done) | rfl) (by first | ((conv => lhs; whnf); done) | rfl) (by first | ((conv => lhs; whnf); done) | rfl) (by first | ((conv => lhs; whnf); done) | rfl) (by first | ((conv => lhs; whnf); done) | rfl) (by first | ((conv => lhs; whnf); done) | rfl) | rfl) (hb : Instr.fill (fun i => some (i * s', s')) zv.cells pv = some cs.toArray := by rfl) (hd : A8 n dst = true := by rfl) : Ds P f R B n K ops l (C3 dst (.build t parts) ty) σ Γ Ms := Ay (B4c hu hi he hp hb) hd k_
theorem D3p {t e : TypeId} {s bt b o m : Nat} {zv : Value} {j : Int} (k_ : D9 P f R B n K ops l (Ai σ dst (.pointer (some ⟨b, o + j.toNat * s, none⟩))) Γ Ms) (hx : ev σ x = .pointer (some ⟨b, o, none⟩) := by exact A4) (hy : ev σ y = .int .i64 j := by exact A4) (hu : Tab.und P t = some (.array m e) := by rfl) (hi : Tab.inf P e = some (s, bt, zv) := by rfl) (h0 : 0 ≤ j := by omega) (h1 : j < m := by omega) (hd : A8 n dst = true := by rfl) : Ds P f R B n K ops l (C3 dst (.indexAddr t x y) ty) σ Γ Ms := Ay (C8g hu hi hx hy h0 h1) hd k_
theorem B9q {t t' : TypeId} {a b : Int} (k_ : D9 P f R B n K ops l (Ai σ dst (.int .i64 (IntKind.i64.wrap (a + b)))) Γ Ms) (hx : ev σ x = .int .i64 a := by exact A4) (hy : ev σ y = .int .i64 b := by exact A4) (hd : A8 n dst = true := by rfl) : Ds P f R B n K ops l (C3 dst (.binOp .add t x y t') ty) σ Γ Ms := Ay (C3r hx hy) hd k_
theorem C8o {t t' : TypeId} {a b : Int} (k_ : D9 P f R B n K ops l (Ai σ dst (.int .i64 (IntKind.i64.wrap (a - b)))) Γ Ms) (hx : ev σ x = .int .i64 a := by exact A4) (hy : ev σ y = .int .i64 b := by exact A4) (hd : A8 n dst = true := by rfl) : Ds P f R B n K ops l (C3 dst (.binOp .sub t x y t') ty) σ Γ Ms := Ay (C3l hx hy) hd k_
theorem Lj {t t' : TypeId} {a b : Nat} (k_ : D9 P f R B n K ops l (Ai σ dst (.int .u32 ((a &&& b : Nat) : Int))) Γ Ms) (hx : ev σ x = .int .u32 (a : Int) := by exact A4) (hy : ev σ y = .int .u32 (b : Int) := by exact A4) (ha : a < 4294967296 := by first | assumption | omega) (hb : b < 4294967296 := by first | assumption | omega) (hd : A8 n dst = true := by rfl) : Ds P f R B n K ops l (C3 dst (.binOp .and t x y t') ty) σ Γ Ms := Ay (B1a hx hy ha hb) hd k_
theorem Uf {t t' : TypeId} {a b : Nat} (k_ : NV tn pn P f R B n K ops fin l (Ai σ dst (.int .u32 ((a &&& b : Nat) : Int))) Γ Ms) (hx : ev σ x = .int .u32 (a : Int) := by exact A4) (hy : ev σ y = .int .u32 (b : Int) := by exact A4) (ha : a < 4294967296 := by first | assumption | omega) (hb : b < 4294967296 := by first | assumption | omega) (hd : A8 n dst = true := by rfl) : I4 tn pn P f R B n K ops fin i l dst (.binOp .and t x y t') ty σ Γ Ms := Cy (B1a hx hy ha hb) hd k_
theorem Kh {t t' : TypeId} {a b : Nat} (k_ : D9 P f R B n K ops l (Ai σ dst (.int .u32 ((a ||| b : Nat) : Int))) Γ Ms) (hx : ev σ x = .int .u32 (a : Int) := by exact A4) (hy : ev σ y = .int .u32 (b : Int) := by exact A4) (ha : a < 4294967296 := by first | assumption | omega) (hb : b < 4294967296 := by first | assumption | omega) (hd : A8 n dst = true := by rfl) : Ds P f R B n K ops l (C3 dst (.binOp .or t x y t') ty) σ Γ Ms := Ay (C8c hx hy ha hb) hd k_
theorem Th {t t' : TypeId} {a b : Nat} (k_ : D9 P f R B n K ops l (Ai σ dst (.int .u32 (Bf a b : Int))) Γ Ms) (hx : ev σ x = .int .u32 (a : Int) := by exact A4) (hy : ev σ y = .int .u32 (b : Int) := by exact A4) (hd : A8 n dst = true := by rfl) : Ds P f R B n K ops l (C3 dst (.binOp .andNot t x y t') ty) σ Γ Ms := Ay (A7z hx hy) hd k_
theorem B9d {t t' : TypeId} {k2 : IntKind} {a m : Nat} (k_ : D9 P f R B n K ops l (Ai σ dst (.int .u32 ((a * 2 ^ (min m 32) % 4294967296 : Nat) : Int))) Γ Ms) (hx : ev σ x = .int .u32 (a : Int) := by exact A4) (hy : ev σ y = .int k2 (m : Int) := by exact A4) (hd : A8 n dst = true := by rfl) : Ds P f R B n K ops l (C3 dst (.binOp .shl t x y t') ty) σ Γ Ms := Ay (C3n hx hy) hd k_
theorem A4l {t t' : TypeId} {k2 : IntKind} {a m : Nat} (k_ : D9 P f R B n K ops l (Ai σ dst (.int .u32 ((a / 2 ^ (min m 32) : Nat) : Int))) Γ Ms) (hx : ev σ x = .int .u32 (a : Int) := by exact A4) (hy : ev σ y = .int k2 (m : Int) := by exact A4) (hd : A8 n dst = true := by rfl) : Ds P f R B n K ops l (C3 dst (.binOp .shr t x y t') ty) σ Γ Ms := Ay (B0x hx hy) hd k_
theorem Ud {t t' : TypeId} {k2 : IntKind} {a m : Nat} (k_ : NV tn pn P f R B n K ops fin l (Ai σ dst (.int .u32 ((a / 2 ^ (min m 32) : Nat) : Int))) Γ Ms) (hx : ev σ x = .int .u32 (a : Int) := by exact A4) (hy : ev σ y = .int k2 (m : Int) := by exact A4) (hd : A8 n dst = true := by rfl) : I4 tn pn P f R B n K ops fin i l dst (.binOp .shr t x y t') ty σ Γ Ms := Cy (B0x hx hy) hd k_
theorem D2p {t t' : TypeId} {c c' : Cl} (k_ : NV tn pn P f R B n K ops fin l (Ai σ dst (.bool (decide (c = c')))) Γ Ms) (hx : ev σ x = .agg (Ak c).toArray := by exact A4) (hy : ev σ y = .agg (Ak c').toArray := by exact A4) (ht : t = Tab.ceq P := by rfl) (hd : A8 n dst = true := by rfl) : I4 tn pn P f R B n K ops fin i l dst (.binOp .eql t x y t') ty σ Γ Ms := Cy (C8i ht hx hy) hd k_
theorem D3i {t t' : TypeId} {c c' : Cl} (k_ : D9 P f R B n K ops l (Ai σ dst (.bool (!decide (c = c')))) Γ Ms) (hx : ev σ x = .agg (Ak c).toArray := by exact A4) (hy : ev σ y = .agg (Ak c').toArray := by exact A4) (ht : t = Tab.ceq P := by rfl) (hd : A8 n dst = true := by rfl) : Ds P f R B n K ops l (C3 dst (.binOp .neq t x y t') ty) σ Γ Ms := Ay (B8l ht hx hy) hd k_
theorem B0i {t t' : TypeId} {c c' : Cl} (k_ : NV tn pn P f R B n K ops fin l (Ai σ dst (.bool (!decide (c = c')))) Γ Ms) (hx : ev σ x = .agg (Ak c).toArray := by exact A4) (hy : ev σ y = .agg (Ak c').toArray := by exact A4) (ht : t = Tab.ceq P := by rfl) (hd : A8 n dst = true := by rfl) : I4 tn pn P f R B n K ops fin i l dst (.binOp .neq t x y t') ty σ Γ Ms := Cy (B8l ht hx hy) hd k_
theorem C8r {t t' : TypeId} {a b : Nat} (k_ : D9 P f R B n K ops l (Ai σ dst (.int .i64 ((a / b : Nat) : Int))) Γ Ms) (hx : ev σ x = .int .i64 (a : Int) := by exact A4) (hy : ev σ y = .int .i64 (b : Int) := by exact A4) (ha : a < 9223372036854775808 := by omega) (hb : 0 < b := by first | omega | exact Nat.pow_pos A2) (hd : A8 n dst = true := by rfl) : Ds P f R B n K ops l (C3 dst (.binOp .quo t x y t') ty) σ Γ Ms := Ay (C3q hx hy ha hb) hd k_
theorem C8q {t t' : TypeId} {a b : Nat} (k_ : D9 P f R B n K ops l (Ai σ dst (.int .i64 ((a % b : Nat) : Int))) Γ Ms) (hx : ev σ x = .int .i64 (a : Int) := by exact A4) (hy : ev σ y = .int .i64 (b : Int) := by exact A4) (hb : 0 < b := by omega) (hd : A8 n dst = true := by rfl) : Ds P f R B n K ops l (C3 dst (.binOp .rem t x y t') ty) σ Γ Ms := Ay (C3p hx hy hb) hd k_
theorem B1m {t : TypeId} {s : ByteArray} {j : Int} {c : UInt8} (k_ : D9 P f R B n K ops l (Ai σ dst (.int .u8 c.toNat)) Γ Ms) (hx : ev σ x = .string s := by exact A4) (hy : ev σ y = .int .i64 j := by exact A4) (hu : Tab.und P t = some .string := by rfl) (h0 : 0 ≤ j := by omega) (hc : s[j.toNat]? = some c := by assumption) (hd : A8 n dst = true := by rfl) : Ds P f R B n K ops l (C3 dst (.index t x y) ty) σ Γ Ms := Ay (A3z hu hx hy h0 hc) hd k_
theorem C8v {s d : TypeId} {k k' : IntKind} {ds : TypeDesc} {a : Int} (k_ : D9 P f R B n K ops l (Ai σ dst (.int k' (k'.wrap a))) Γ Ms) (hx : ev σ x = .int k a := by exact A4) (hs : Tab.und P s = some ds := by rfl) (hd' : Tab.und P d = some (.int k') := by rfl) (hd : A8 n dst = true := by rfl) : Ds P f R B n K ops l (C3 dst (.convert s d x) ty) σ Γ Ms := Ay (Hd hs hd' hx) hd k_
theorem C4b {t T' : TypeId} {bk k : Nat} {cs : List Value} {d : TypeDesc} (k_ : D9 P f R B n K ops l (Ai σ dst v) Γ Ms) (hx : ev σ x = .pointer (some ⟨bk, k, none⟩) := by exact A4) (hF : Aa bk cs T' ∈ Ms := by repeat (first | exact List.mem_cons_self | apply List.mem_cons_of_mem)) (hu : Tab.und P t = some d := by rfl) (hd' : (match d with | .struct _ | .array _ _ => true | _ => false) = false := by rfl) (hk : cs[k]? = some v := by exact A4) (hd : A8 n dst = true := by rfl) : Ds P f R B n K ops l (C3 dst (.load t x) ty) σ Γ Ms := Ha (C0l hx hF hu hd' hk) hd k_
theorem D2n {t T' : TypeId} {bk k : Nat} {cs : List Value} {d : TypeDesc} (k_ : NV false pn P f R B n K ops fin l (Ai σ dst v) Γ Ms) (hx : ev σ x = .pointer (some ⟨bk, k, none⟩) := by exact A4) (hF : Aa bk cs T' ∈ Ms := by repeat (first | exact List.mem_cons_self | apply List.mem_cons_of_mem)) (hu : Tab.und P t = some d := by rfl) (hd' : (match d with | .struct _ | .array _ _ => true | _ => false) = false := by rfl) (hk : cs[k]? = some v := by exact A4) (hd : A8 n dst = true := by rfl) : I4 false pn P f R B n K ops fin i l dst (.load t x) ty σ Γ Ms := R8 (C0l hx hF hu hd' hk) rfl hd k_
theorem Nq {t T' : TypeId} {bk k : Nat} {cs : List Value} {l' : List (Nat × Nat)} {s bt : Nat} {zv : Value} {cs' : List Value} (k_ : D9 P f R B n K ops l (Ai σ dst (.agg cs'.toArray)) Γ Ms) (hx : ev σ x = .pointer (some ⟨bk, k, none⟩) := by exact A4) (hF : Aa bk cs T' ∈ Ms := by repeat (first | exact List.mem_cons_self | apply List.mem_cons_of_mem)) (hu : Tab.lay P t = some l' := by rfl) (hi : Tab.inf P t = some (s, bt, zv) := by rfl) (hk : (cs.drop k).take s = cs' := by rfl) (hl : cs'.length = s := by rfl) (hd : A8 n dst = true := by rfl) : Ds P f R B n K ops l (C3 dst (.load t x) ty) σ Γ Ms := Ha (C0m hx hF hu hi hk hl) hd k_
theorem Xu {t T' : TypeId} {bk k : Nat} {cs : List Value} {l' : List (Nat × Nat)} {s bt : Nat} {zv : Value} {cs' : List Value} (k_ : NV false pn P f R B n K ops fin l (Ai σ dst (.agg cs'.toArray)) Γ Ms) (hx : ev σ x = .pointer (some ⟨bk, k, none⟩) := by exact A4) (hF : Aa bk cs T' ∈ Ms := by repeat (first | exact List.mem_cons_self | apply List.mem_cons_of_mem)) (hu : Tab.lay P t = some l' := by rfl) (hi : Tab.inf P t = some (s, bt, zv) := by rfl) (hk : (cs.drop k).take s = cs' := by rfl) (hl : cs'.length = s := by rfl) (hd : A8 n dst = true := by rfl) : I4 false pn P f R B n K ops fin i l dst (.load t x) ty σ Γ Ms := R8 (C0m hx hF hu hi hk hl) rfl hd k_
theorem D3n {t : TypeId} {l' : List (Nat × Nat)} {bt bk o i' : Nat} {a : SH} {zv : Value} {ls : List Cl} (k_ : D9 P f R B n K ops l (Ai σ dst (.agg (Ak (ls.getD i' B8)).toArray)) Γ Ms) (hx : ev σ x = .pointer (some ⟨bk, o + i' * 2, none⟩) := by exact A4) (hFa : CL ls a ∈ Γ ∧ a.1 = some ⟨bk, o, none⟩ := by exact ma0_) (hu : Tab.lay P t = some l' := by rfl) (hi : Tab.inf P t = some (2, bt, zv) := by rfl) (hlt : i' < ls.length := by omega) (hd : A8 n dst = true := by rfl) : Ds P f R B n K ops l (C3 dst (.load t x) ty) σ Γ Ms := Ha (C0j hx hFa.1 hFa.2 hu hi hlt) hd k_
theorem P6 {t : TypeId} {l' : List (Nat × Nat)} {bt bk o i' : Nat} {a : SH} {zv : Value} {ls : List Cl} (k_ : NV false pn P f R B n K ops fin l (Ai σ dst (.agg (Ak (ls.getD i' B8)).toArray)) Γ Ms) (hx : ev σ x = .pointer (some ⟨bk, o + i' * 2, none⟩) := by exact A4) (hFa : CL ls a ∈ Γ ∧ a.1 = some ⟨bk, o, none⟩ := by exact ma0_) (hu : Tab.lay P t = some l' := by rfl) (hi : Tab.inf P t = some (2, bt, zv) := by rfl) (hlt : i' < ls.length := by omega) (hd : A8 n dst = true := by rfl) : I4 false pn P f R B n K ops fin i l dst (.load t x) ty σ Γ Ms := R8 (C0j hx hFa.1 hFa.2 hu hi hlt) rfl hd k_
theorem D5z {t : TypeId} {l' : List (Nat × Nat)} {bt bk o i' : Nat} {a : SH} {zv : Value} {ls : List Cl} (k_ : NV tn pn P f R B n K ops fin l (Ai σ dst (.agg (Ak (ls.getD i' B8)).toArray)) Γ Ms) (hx : ev σ x = .pointer (some ⟨bk, o + i' * 2, none⟩) := by exact A4) (hFa : CL ls a ∈ Γ ∧ a.1 = some ⟨bk, o, none⟩ := by exact ma0_) (hu : Tab.lay P t = some l' := by rfl) (hi : Tab.inf P t = some (2, bt, zv) := by rfl) (hlt : i' < ls.length := by omega) (hd : A8 n dst = true := by rfl) : I4 tn pn P f R B n K ops fin i l dst (.load t x) ty σ Γ Ms := Ve (C0j hx hFa.1 hFa.2 hu hi hlt) rfl hd k_
theorem B9j {t : TypeId} {d : TypeDesc} {bk o i' k : Nat} {a : SH} {ls : List Cl} (k_ : D9 P f R B n K ops l (Ai σ dst v) Γ Ms) (hx : ev σ x = .pointer (some ⟨bk, o + i' * 2 + k, none⟩) := by exact A4) (hFa : CL ls a ∈ Γ ∧ a.1 = some ⟨bk, o, none⟩ := by exact ma0_) (hu : Tab.und P t = some d := by rfl) (hd' : (match d with | .struct _ | .array _ _ => true | _ => false) = false := by rfl) (hk : (Ak (ls.getD i' B8))[k]? = some v := by exact A4) (hlt : i' < ls.length := by omega) (hd : A8 n dst = true := by rfl) : Ds P f R B n K ops l (C3 dst (.load t x) ty) σ Γ Ms := Ha (C9q hx hFa.1 hFa.2 hu hd' hk hlt) hd k_
theorem D3m {t : TypeId} {l' : List (Nat × Nat)} {bt bk o i' : Nat} {a : SH} {zv : Value} {ts : List T} {VR VK VS : Nat → SH} (k_ : D9 P f R B n K ops l (Ai σ dst (.agg (tc (ts.getD i' t0) (VR i') (VK i') (VS i')).toArray)) Γ Ms) (hx : ev σ x = .pointer (some ⟨bk, o + i' * 6, none⟩) := by exact A4) (hFa : Wy ts a VR VK VS ∈ Γ ∧ a.1 = some ⟨bk, o, none⟩ := by exact ma0_) (hu : Tab.lay P t = some l' := by rfl) (hi : Tab.inf P t = some (6, bt, zv) := by rfl) (hlt : i' < ts.length := by omega) (hd : A8 n dst = true := by rfl) : Ds P f R B n K ops l (C3 dst (.load t x) ty) σ Γ Ms := Ha (B1v hx hFa.1 hFa.2 hu hi hlt) hd k_
theorem A3b {t : TypeId} {l' : List (Nat × Nat)} {bt bk o i' : Nat} {a : SH} {zv : Value} {ts : List T} {VR VK VS : Nat → SH} (k_ : NV false pn P f R B n K ops fin l (Ai σ dst (.agg (tc (ts.getD i' t0) (VR i') (VK i') (VS i')).toArray)) Γ Ms) (hx : ev σ x = .pointer (some ⟨bk, o + i' * 6, none⟩) := by exact A4) (hFa : Wy ts a VR VK VS ∈ Γ ∧ a.1 = some ⟨bk, o, none⟩ := by exact ma0_) (hu : Tab.lay P t = some l' := by rfl) (hi : Tab.inf P t = some (6, bt, zv) := by rfl) (hlt : i' < ts.length := by omega) (hd : A8 n dst = true := by rfl) : I4 false pn P f R B n K ops fin i l dst (.load t x) ty σ Γ Ms := R8 (B1v hx hFa.1 hFa.2 hu hi hlt) rfl hd k_
theorem D3o {t : TypeId} {l' : List (Nat × Nat)} {bt bk o i' : Nat} {a : SH} {zv : Value} {bs : List Br} {VF VK : Nat → SH} (k_ : D9 P f R B n K ops l (Ai σ dst (.agg (bc (bs.getD i' Bd) (VF i') (VK i')).toArray)) Γ Ms) (hx : ev σ x = .pointer (some ⟨bk, o + i' * 2, none⟩) := by exact A4) (hFa : U2 bs a VF VK ∈ Γ ∧ a.1 = some ⟨bk, o, none⟩ := by exact ma0_) (hu : Tab.lay P t = some l' := by rfl) (hi : Tab.inf P t = some (2, bt, zv) := by rfl) (hlt : i' < bs.length := by omega) (hd : A8 n dst = true := by rfl) : Ds P f R B n K ops l (C3 dst (.load t x) ty) σ Γ Ms := Ha (D4c hx hFa.1 hFa.2 hu hi hlt) hd k_
theorem C8u {t : TypeId} {d : TypeDesc} {bk o i' k : Nat} {a : SH} {bs : List Br} {VF VK : Nat → SH} (k_ : D9 P f R B n K ops l (Ai σ dst v) Γ Ms) (hx : ev σ x = .pointer (some ⟨bk, o + i' * 2 + k, none⟩) := by exact A4) (hFa : U2 bs a VF VK ∈ Γ ∧ a.1 = some ⟨bk, o, none⟩ := by exact ma0_) (hu : Tab.und P t = some d := by rfl) (hd' : (match d with | .struct _ | .array _ _ => true | _ => false) = false := by rfl) (hk : (bc (bs.getD i' Bd) (VF i') (VK i'))[k]? = some v := by exact A4) (hlt : i' < bs.length := by omega) (hd : A8 n dst = true := by rfl) : Ds P f R B n K ops l (C3 dst (.load t x) ty) σ Γ Ms := Ha (C0k hx hFa.1 hFa.2 hu hd' hk hlt) hd k_
theorem Zr {t : TypeId} {d : TypeDesc} {bk o i' k : Nat} {a : SH} {bs : List Br} {VF VK : Nat → SH} (k_ : NV false pn P f R B n K ops fin l (Ai σ dst v) Γ Ms) (hx : ev σ x = .pointer (some ⟨bk, o + i' * 2 + k, none⟩) := by exact A4) (hFa : U2 bs a VF VK ∈ Γ ∧ a.1 = some ⟨bk, o, none⟩ := by exact ma0_) (hu : Tab.und P t = some d := by rfl) (hd' : (match d with | .struct _ | .array _ _ => true | _ => false) = false := by rfl) (hk : (bc (bs.getD i' Bd) (VF i') (VK i'))[k]? = some v := by exact A4) (hlt : i' < bs.length := by omega) (hd : A8 n dst = true := by rfl) : I4 false pn P f R B n K ops fin i l dst (.load t x) ty σ Γ Ms := R8 (C0k hx hFa.1 hFa.2 hu hd' hk hlt) rfl hd k_
theorem Au {t : TypeId} {cs : List Value} (k_ : ∀ b, D9 P f R B n K ops l (Ai σ dst ((fun b => .pointer (some ⟨b, 0, none⟩)) b)) Γ (Aa b cs t :: Ms)) (hx : (ev σ x).cells = cs.toArray := by rfl) (hd : A8 n dst = true := by rfl) : Ds P f R B n K ops l (C3 dst (.box t x) ty) σ Γ Ms := Lc (D2b hx) hd k_
theorem Ba {t : TypeId} {s bt : Nat} {zv : Value} {cs : List Value} (k_ : ∀ b, D9 P f R B n K ops l (Ai σ dst ((fun b => .pointer (some ⟨b, 0, none⟩)) b)) Γ (Aa b cs t :: Ms)) (hi : Tab.inf P t = some (s, bt, zv) := by rfl) (hz : zv.cells = cs.toArray := by rfl) (hd : A8 n dst = true := by rfl) : Ds P f R B n K ops l (C3 dst (.alloc t) ty) σ Γ Ms := Lc (A6m hi hz) hd k_
theorem B7b {t : TypeId} {s bt : Nat} {zv : Value} {cs : List Value} (k_ : ∀ b, NV tn pn P f R B n K ops fin l (Ai σ dst ((fun b => .pointer (some ⟨b, 0, none⟩)) b)) Γ (Aa b cs t :: Ms)) (hi : Tab.inf P t = some (s, bt, zv) := by rfl) (hz : zv.cells = cs.toArray := by rfl) (hd : A8 n dst = true := by rfl) : I4 tn pn P f R B n K ops fin i l dst (.alloc t) ty σ Γ Ms := Vf (A6m hi hz) rfl hd k_
theorem D3k {t e : TypeId} {sz bt len : Nat} {zv : Value} {parts : Array (Nat × Operand)} {pv : List (Nat × Value)} {cs : List Value} (k_ : ∀ b, D9 P f R B n K ops l (Ai σ dst ((fun b => .slice (some ⟨b, 0, none⟩) len len) b)) Γ (Aa b cs e :: Ms)) (hu : Tab.und P t = some (.slice e) := by rfl) (hi : Tab.inf P e = some (sz, bt, zv) := by rfl) (hle : len * sz ≤ 16777216 := by decide) (hp : parts.toList.map (fun (i, x) => (i, ev σ x)) = pv := by first | exact pv0  | exact pv1 (by first | ((conv => lhs; whnf); done) | rfl) | exact pv2 (by first | ((conv => lhs; whnf); done) | rfl) (by first | ((conv => lhs; whnf); done) | rfl) | exact pv3 (by first | ((conv => lhs; whnf); done) | rfl) (by first | ((conv => lhs; whnf); done) | rfl) (by first | ((conv => lhs; whnf); done) | rfl) | exact pv4 (by first | ((conv => lhs; whnf); done) | rfl) (by first | ((conv => lhs; whnf); done) | rfl) (by first | ((conv => lhs; whnf); done) | rfl) (by first | ((conv => lhs; whnf); done) | rfl) | exact pv5 (by first | ((conv => lhs; whnf); done) | rfl) (by first | ((conv => lhs; whnf); done) | rfl) (by first | ((conv => lhs; whnf); done) | rfl) (by first | ((conv => lhs; whnf); done) | rfl) (by first | ((conv => lhs; whnf); done) | rfl) | exact pv6 (by first | ((conv => lhs; whnf); done) | rfl) (by first | ((conv => lhs; whnf); done) | rfl) (by first | ((conv => lhs; whnf); done) | rfl) (by first | ((conv => lhs; whnf); done) | rfl) (by first | ((conv => lhs; whnf); done) | rfl) (by first | ((conv => lhs; whnf); done) | rfl) | rfl) (hf : Instr.fill (fun i => some (i * sz, sz)) ((List.range (len * sz)).map (zv.cells[· % zv.cells.size]!)).toArray pv = some cs.toArray := by rfl) (hd : A8 n dst = true := by rfl) : Ds P f R B n K ops l (C3 dst (.buildSlice t len parts) ty) σ Γ Ms := Lc (A2i hu hi hle hp hf) hd k_
theorem D0 {t e : TypeId} {sz bt : Nat} {zv : Value} {cs : List Value} (k_ : ∀ b, D9 P f R B n K ops l (Ai σ dst ((fun b => .slice (some ⟨b, 0, none⟩) 1 1) b)) Γ (Aa b cs e :: Ms)) (hu : Tab.und P t = some (.slice e) := by rfl) (hi : Tab.inf P e = some (sz, bt, zv) := by rfl) (hle : sz ≤ 16777216 := by decide) (hx : (ev σ x).cells = cs.toArray := by rfl) (hl : cs.length = sz := by rfl) (hd : A8 n dst = true := by rfl) : Ds P f R B n K ops l (C3 dst (.buildSlice t 1 #[(0, x)]) ty) σ Γ Ms := Lc (A2h hu hi hle hx hl) hd k_
theorem Zq {t e : TypeId} {sz bt : Nat} {zv : Value} {cs : List Value} (k_ : ∀ b, NV tn pn P f R B n K ops fin l (Ai σ dst ((fun b => .slice (some ⟨b, 0, none⟩) 1 1) b)) Γ (Aa b cs e :: Ms)) (hu : Tab.und P t = some (.slice e) := by rfl) (hi : Tab.inf P e = some (sz, bt, zv) := by rfl) (hle : sz ≤ 16777216 := by decide) (hx : (ev σ x).cells = cs.toArray := by rfl) (hl : cs.length = sz := by rfl) (hd : A8 n dst = true := by rfl) : I4 tn pn P f R B n K ops fin i l dst (.buildSlice t 1 #[(0, x)]) ty σ Γ Ms := Vf (A2h hu hi hle hx hl) rfl hd k_
theorem C7d {t e : TypeId} {sz bt : Nat} {zv : Value} {cs : List Value} (F : Nat → List Fact) (hF : ∀ b M w, St B Γ (Aa b cs e :: M) w → St B (F b ++ Γ) M w) (k_ : ∀ b, NV tn pn P f R B n K ops fin l (Ai σ dst ((fun b => .slice (some ⟨b, 0, none⟩) 1 1) b)) (F b ++ Γ) Ms) (hu : Tab.und P t = some (.slice e) := by rfl) (hi : Tab.inf P e = some (sz, bt, zv) := by rfl) (hle : sz ≤ 16777216 := by decide) (hx : (ev σ x).cells = cs.toArray := by rfl) (hl : cs.length = sz := by rfl) (hd : A8 n dst = true := by rfl) (hz : Nat.beq pn 1000001 = true := by rfl) : I4 tn pn P f R B n K ops fin i l dst (.buildSlice t 1 #[(0, x)]) ty σ Γ Ms := Yj F (A2h hu hi hle hx hl) rfl rfl hF hd hz k_
theorem No {t e : TypeId} {sz bt : Nat} {zv : Value} {cs cs2 : List Value} (k_ : ∀ b, D9 P f R B n K ops l (Ai σ dst ((fun b => .slice (some ⟨b, 0, none⟩) 2 2) b)) Γ (Aa b (cs ++ cs2) e :: Ms)) (hu : Tab.und P t = some (.slice e) := by rfl) (hi : Tab.inf P e = some (sz, bt, zv) := by rfl) (hle : 2 * sz ≤ 16777216 := by decide) (hx : (ev σ x).cells = cs.toArray := by rfl) (hy : (ev σ y).cells = cs2.toArray := by rfl) (hl : cs.length = sz := by rfl) (hl2 : cs2.length = sz := by rfl) (hd : A8 n dst = true := by rfl) : Ds P f R B n K ops l (C3 dst (.buildSlice t 2 #[(0, x), (1, y)]) ty) σ Γ Ms := Lc (B2r hu hi hle hx hy hl hl2) hd k_
theorem B6y {t e : TypeId} {sz bt : Nat} {zv : Value} {cs cs2 : List Value} (F : Nat → List Fact) (hF : ∀ b M w, St B Γ (Aa b (cs ++ cs2) e :: M) w → St B (F b ++ Γ) M w) (k_ : ∀ b, NV tn pn P f R B n K ops fin l (Ai σ dst ((fun b => .slice (some ⟨b, 0, none⟩) 2 2) b)) (F b ++ Γ) Ms) (hu : Tab.und P t = some (.slice e) := by rfl) (hi : Tab.inf P e = some (sz, bt, zv) := by rfl) (hle : 2 * sz ≤ 16777216 := by decide) (hx : (ev σ x).cells = cs.toArray := by rfl) (hy : (ev σ y).cells = cs2.toArray := by rfl) (hl : cs.length = sz := by rfl) (hl2 : cs2.length = sz := by rfl) (hd : A8 n dst = true := by rfl) (hz : Nat.beq pn 1000001 = true := by rfl) : I4 tn pn P f R B n K ops fin i l dst (.buildSlice t 2 #[(0, x), (1, y)]) ty σ Γ Ms := Yj F (B2r hu hi hle hx hy hl hl2) rfl rfl hF hd hz k_
theorem A8h {t e : TypeId} {sz bt : Nat} {zv : Value} (k_ : ∀ b, D9 P f R B n K ops l (Ai σ dst ((fun b => .slice (some ⟨b, 0, none⟩) 0 0) b)) Γ (Aa b [] e :: Ms)) (hu : Tab.und P t = some (.slice e) := by rfl) (hi : Tab.inf P e = some (sz, bt, zv) := by rfl) (hd : A8 n dst = true := by rfl) : Ds P f R B n K ops l (C3 dst (.buildSlice t 0 #[]) ty) σ Γ Ms := Lc (B2s hu hi) hd k_
theorem C7e {t e : TypeId} {sz bt : Nat} {zv : Value} (k_ : ∀ b, NV tn pn P f R B n K ops fin l (Ai σ dst ((fun b => .slice (some ⟨b, 0, none⟩) 0 0) b)) Γ (Aa b [] e :: Ms)) (hu : Tab.und P t = some (.slice e) := by rfl) (hi : Tab.inf P e = some (sz, bt, zv) := by rfl) (hd : A8 n dst = true := by rfl) : I4 tn pn P f R B n K ops fin i l dst (.buildSlice t 0 #[]) ty σ Γ Ms := Vf (B2s hu hi) rfl hd k_
theorem D7b {t T' : TypeId} {b s bt : Nat} {zv : Value} {cs cs' : List Value} (k_ : D9 P f R B n K ops l σ Γ (Aa b cs' T' :: Ms2)) (hx : ev σ x = .pointer (some ⟨b, 0, none⟩) := by exact A4) (hm : Ms.Perm (Aa b cs T' :: Ms2) := by first | exact Tc | exact Ao | exact Bi | exact Dk | exact Ez | exact Ic | exact K0) (hy : (ev σ y).cells = cs'.toArray := by rfl) (hi : Tab.inf P t = some (s, bt, zv) := by rfl) (hl : cs'.length = s := by rfl) (hl2 : cs.length = s := by rfl) (h1 : Hw cs' = true := by rfl) : Ds P f R B n K ops l (C3 none (.store t x y) ty) σ Γ Ms := Uo (B7p hx hy hm hi hl hl2 h1) k_
theorem D3g {t T' : TypeId} {b k bt : Nat} {zv : Value} {cs cs' : List Value} (k_ : D9 P f R B n K ops l σ Γ (Aa b cs' T' :: Ms2)) (hx : ev σ x = .pointer (some ⟨b, k, none⟩) := by exact A4) (hm : Ms.Perm (Aa b cs T' :: Ms2) := by first | exact Tc | exact Ao | exact Bi | exact Dk | exact Ez | exact Ic | exact K0) (hy : ev σ y = v := by exact A4) (hi : Tab.inf P t = some (1, bt, zv) := by rfl) (h1 : v.oneCell' = true := by rfl) (hk : k < cs.length := by exact Nat.le_of_ble_eq_true rfl) (hc : cs.set k v = cs' := by rfl) : Ds P f R B n K ops l (C3 none (.store t x y) ty) σ Γ Ms := by
 subst hc
 exact Uo (C2z hx hy hm hi h1 hk) k_
theorem E0 {t e T' : TypeId} {ts : Array TypeId} {sz bt n' m c b : Nat} {zv : Value} {a : SH} {xs cs : List Value} (k_ : ∀ a' : SH, D9 P f R B n K ops l (Ai σ dst (sl a' (n' + m))) Γ (Am sz e a' (n' + m) (xs ++ cs) :: Aa b cs T' :: Ms2)) (hm : Ms.Perm (Am sz e a n' xs :: Aa b cs T' :: Ms2) := by first | exact Tc | exact Ao | exact Bi | exact Dk | exact Ez | exact Ic | exact K0) (hx : ev σ x = sl a n' := by rfl) (hy : ev σ y = .slice (some ⟨b, 0, none⟩) m c := by exact A4) (hts : ts = #[t, t] := by rfl) (hu : Tab.und P t = some (.slice e) := by rfl) (hi : Tab.inf P e = some (sz, bt, zv) := by rfl) (hzs : zv.cells.size = sz := by rfl) (hsz : 0 < sz := by exact Nat.le_of_ble_eq_true rfl) (hl : cs.length = m * sz := by rfl) (h1 : Hw cs = true := by rfl) (hb : (n' + m) * bt ≤ 140737488355328 := by first | omega | (unfold reach at *; omega) | (unfold reach Er at *; omega)) (hnm : n' + m ≤ 9223372036854775807 := by first | omega | (unfold reach at *; omega) | (unfold reach Er at *; omega)) (hd : A8 n dst = true := by rfl) : Ds P f R B n K ops l (C3 dst (.call { callee := .builtin .append, args := #[x, y], argTypes := ts }) ty) σ Γ Ms := Zw (B0k hm hx hy hts hu hi hzs hsz hl h1 hb hnm) hd k_
theorem M6 {t e : TypeId} {ts : Array TypeId} {bt n' : Nat} {zv : Value} {a b : SH} {xs : List Value} {ls : List Cl} (k_ : ∀ a' : SH, D9 P f R B n K ops l (Ai σ dst (sl a' (n' + ls.length))) Γ (Am 2 e a' (n' + ls.length) (xs ++ A6 ls) :: Ms2)) (hF : CL ls b ∈ Γ) (hm : Ms.Perm (Am 2 e a n' xs :: Ms2) := by first | exact Tc | exact Ao | exact Bi | exact Dk | exact Ez | exact Ic | exact K0) (hx : ev σ x = sl a n' := by rfl) (hy : ev σ y = sl b ls.length := by rfl) (hts : ts = #[t, t] := by rfl) (hu : Tab.und P t = some (.slice e) := by rfl) (hi : Tab.inf P e = some (2, bt, zv) := by rfl) (hzs : zv.cells.size = 2 := by rfl) (hb : (n' + ls.length) * bt ≤ 140737488355328 := by first | omega | (unfold reach at *; omega) | (unfold reach Er at *; omega)) (hnm : n' + ls.length ≤ 9223372036854775807 := by first | omega | (unfold reach at *; omega) | (unfold reach Er at *; omega)) (hd : A8 n dst = true := by rfl) : Ds P f R B n K ops l (C3 dst (.call { callee := .builtin .append, args := #[x, y], argTypes := ts }) ty) σ Γ Ms := Zw (A3e hm hF hx hy hts hu hi hzs hb hnm) hd k_
theorem B4l [TyF P] [TabM P] {t : TypeId} (k_ : ∀ b, D9 P f R B n K ops l (Ai σ dst (.map (some b))) Γ (Vl b [] :: Ms)) (hd : A8 n dst = true := by rfl) : Ds P f R B n K ops l (C3 dst (.makeMap t none) ty) σ Γ Ms := Zw A6x hd k_
theorem B4m [TyF P] [TabM P] {t e : TypeId} {s bt b : Nat} {c : Cl} {keys : List Cl} (k_ : D9 P f R B n K ops l (Ai σ dst (.bool (decide (c ∈ keys)))) Γ Ms) (hx : ev σ x = .map (some b) := by exact A4) (hm : Vl b keys ∈ Ms := by repeat (first | exact List.mem_cons_self | apply List.mem_cons_of_mem)) (hy : ev σ y = Ei c := by rfl) (hc : u32 c := by assumption) (hu : Tab.und P t = some (.map (TyF.tC P) e) := by rfl) (hi : Tab.inf P e = some (s, bt, .bool false) := by rfl) (hd : A8 n dst = true := by rfl) : Ds P f R B n K ops l (C3 dst (.lookup t x y false) ty) σ Γ Ms := Ha (B5c hx hm hc hy hu hi) hd k_
theorem B9f [TyF P] [TabM P] {t e : TypeId} {b : Nat} {c : Cl} {keys : List Cl} (k_ : D9 P f R B n K ops l σ Γ (Vl b (keys ++ [c]) :: Ms2)) (hx : ev σ x = .map (some b) := by exact A4) (hm : Ms.Perm (Vl b keys :: Ms2) := by first | exact Tc | exact Ao | exact Bi | exact Dk | exact Ez | exact Ic | exact K0) (hy : ev σ y = Ei c := by rfl) (hc : u32 c := by assumption) (hn : c ∉ keys := by assumption) (hz : ev σ z = .bool true := by rfl) (hu : Tab.und P t = some (.map (TyF.tC P) e) := by rfl) : Ds P f R B n K ops l (C3 none (.mapUpdate t x y z) ty) σ Γ Ms := Uo (A0d hx hm hc hn hy hz hu) k_
theorem A1v {c : FuncId} {args : Array Value} {as : Array Operand} {ts : Array TypeId} {g : Operand} (hg : ev σ g = .func (.func c) #[] #[]) (ha : as.toList.map (ev σ) = args.toList) (hc : ∀ (args : Array Value) (w : World), (callFunc c args).run P w = .ok (.enter c args) w) : O7 P σ (.call { callee := .value g, args := as, argTypes := ts }) ty c args := fun w => by
 have ha : as.map (ev σ) = args := Array.ext' (by simpa using ha)
 subst ha
 simp [C3, execOp, resolve, hg, Deferred.ofValue, invoke, hc]
theorem A9c {c : FuncId} {args cap : List Value} {as : Array Operand} {ts : Array TypeId} {g : Operand} (hg : ev σ g = .func (.func c) #[] cap.toArray) (ha : as.toList.map (ev σ) = args) (hc : ∀ (args : Array Value) (w : World), (callFunc c args).run P w = .ok (.enter c args) w) : O7 P σ (.call { callee := .value g, args := as, argTypes := ts }) ty c (args ++ cap).toArray := fun w => by
 have ha : as.map (ev σ) = args.toArray := Array.ext' (by simpa using ha)
 simp [ha, C3, execOp, resolve, hg, Deferred.ofValue, invoke, hc]
theorem A0 {c : FuncId} {args : Array Value} {as : Array Operand} {ts : Array TypeId} {g : Operand} {pre : List Fact} {Ms0 : List B2} {X : Type} {val : X → Value} {N : X → List Fact} {Ms1 : X → List B2}
  (hc : ∀ (args : Array Value) (w : World), (callFunc c args).run P w = .ok (.enter c args) w) (hsp : Spec P c args pre Ms0 val N Ms1) (kk : ∀ x, D9 P f R B n K ops l (Ai σ dst (val x)) (N x ++ Γ) (Ms1 x ++ Ms2))
  (hg : ev σ g = .func (.func c) #[] #[] := by rfl) (ha : as.toList.map (ev σ) = args.toList := by rfl) (hpre : ∀ F, F ∈ pre → F ∈ Γ := by first | (simp; done) | (simp +contextual; done)) (hm : Ms.Perm (Ms0 ++ Ms2) := by first | exact List.Perm.refl _ | exact B8i | exact B8h | exact B8g | exact B8f | exact Ao | exact Bi | exact Dk | exact Ez | exact B8e) (hd : A8 n dst = true := by rfl) : Ds P f R B n K ops l (C3 dst (.call { callee := .value g, args := as, argTypes := ts }) ty) σ Γ Ms :=
 B0o (A1v hg ha hc) hsp hpre hm hd kk
theorem Cn {c : FuncId} {args cap al : List Value} {as : Array Operand} {ts : Array TypeId} {g : Operand} {pre : List Fact} {Ms0 : List B2} {X : Type} {val : X → Value} {N : X → List Fact} {Ms1 : X → List B2}
  (hc : ∀ (args : Array Value) (w : World), (callFunc c args).run P w = .ok (.enter c args) w) (hsp : Spec P c al.toArray pre Ms0 val N Ms1) (kk : ∀ x, D9 P f R B n K ops l (Ai σ dst (val x)) (N x ++ Γ) (Ms1 x ++ Ms2))
  (hg : ev σ g = .func (.func c) #[] cap.toArray := by rfl) (ha : as.toList.map (ev σ) = args := by rfl) (hal : args ++ cap = al := by rfl) (hpre : ∀ F, F ∈ pre → F ∈ Γ := by first | (simp; done) | (simp +contextual; done)) (hm : Ms.Perm (Ms0 ++ Ms2) := by first | exact List.Perm.refl _ | exact B8i | exact B8h | exact B8g | exact B8f | exact Ao | exact Bi | exact Dk | exact Ez | exact B8e) (hd : A8 n dst = true := by rfl) : Ds P f R B n K ops l (C3 dst (.call { callee := .value g, args := as, argTypes := ts }) ty) σ Γ Ms :=
 B0o (A9c hg ha hc) (hal ▸ hsp) hpre hm hd kk
theorem B6 {c : FuncId} {args : Array Value} {as : Array Operand} {ts : Array TypeId} {g : Operand} {pre : List Fact} {X : Type} {val : X → Value} {N : X → List Fact} {Ms1 : X → List B2}
  (hc : ∀ (args : Array Value) (w : World), (callFunc c args).run P w = .ok (.enter c args) w) (hsp : Spec P c args pre [] val N Ms1) (kk : ∀ x, NV tn pn P f R B n K ops fin l (Ai σ dst (val x)) (N x ++ Γ) (Ms1 x ++ Ms))
  (hg : ev σ g = .func (.func c) #[] #[] := by rfl) (ha : as.toList.map (ev σ) = args.toList := by rfl) (hpre : ∀ F, F ∈ pre → F ∈ Γ := by first | (simp; done) | (simp +contextual; done)) (hd : A8 n dst = true := by rfl) : I4 tn pn P f R B n K ops fin i l dst (.call { callee := .value g, args := as, argTypes := ts }) ty σ Γ Ms :=
 B1o (A1v hg ha hc) hsp hpre rfl rfl hd kk
theorem B9e {c : FuncId} {args : Array Value} {as : Array Operand} {ts : Array TypeId} {g : Operand} {pre : List Fact} {chain : List PanicEntry}
  (hc : ∀ (args : Array Value) (w : World), (callFunc c args).run P w = .ok (.enter c args) w) (hsp : O6 P c args pre chain) (hR : ∀ w, St B [] [] w → R (.panicked chain) w)
  (hg : ev σ g = .func (.func c) #[] #[] := by rfl) (ha : as.toList.map (ev σ) = args.toList := by rfl) (hpre : ∀ F, F ∈ pre → F ∈ Γ := by first | (simp; done) | (simp +contextual; done)) (hD : n.defs = [] := by rfl) (hK : okK n.kind := by first | exact .inl rfl | exact .inr rfl) : Ds P f R B n K ops l (C3 dst (.call { callee := .value g, args := as, argTypes := ts }) ty) σ Γ Ms :=
 C7l (A1v hg ha hc) hsp hpre hD hK hR
theorem B9s {c : FuncId} {args : Array Value} {as : Array Operand} {ts : Array TypeId} {g : Operand} {pre : List Fact} {chain : List PanicEntry} (ho : ops[i]? = some ⟨dst, .call { callee := .value g, args := as, argTypes := ts }, ty, pos, after, none⟩)
  (hc : ∀ (args : Array Value) (w : World), (callFunc c args).run P w = .ok (.enter c args) w) (hsp : O6 P c args pre chain) (hR : ∀ w, St B [] [] w → R (.panicked chain) w)
  (hg : ev σ g = .func (.func c) #[] #[] := by rfl) (ha : as.toList.map (ev σ) = args.toList := by rfl) (hpre : ∀ F, F ∈ pre → F ∈ Γ := by first | (simp; done) | (simp +contextual; done)) (hq : Nat.beq pn i = true := by rfl) (hD : n.defs = [] := by rfl) (hK : okK n.kind := by first | exact .inl rfl | exact .inr rfl) : NV tn pn P f R B n K ops fin (i :: l) σ Γ Ms :=
 C8w ho hq rfl rfl rfl (A1v hg ha hc) hsp hpre hD hK hR
theorem q0 (ho : ops[i]? = some ⟨dst, op, ty, pos, after, none⟩) (h : Ds P f R B n K ops l (C3 dst op ty) σ Γ Ms) : D9 P f R B n K ops (i :: l) σ Γ Ms := D3a ho h
theorem qT {g d : Nat} {want : Bool} {og : Oper} (ho : ops[i]? = some ⟨dst, op, ty, pos, after, some (g, want)⟩) (hog : ops[g]? = some og) (hgd : og.dst = some d) (h : Ds P f R B n K ops l (C3 dst op ty) σ Γ Ms) (ht : σ d = .bool want := by rfl) : D9 P f R B n K ops (i :: l) σ Γ Ms := C7s ho hog hgd ht h
theorem qF {g d : Nat} {want t : Bool} {og : Oper} (ho : ops[i]? = some ⟨dst, op, ty, pos, after, some (g, want)⟩) (hog : ops[g]? = some og) (hgd : og.dst = some d) (h : D9 P f R B n K ops l (Ai σ dst undef) Γ Ms) (ht : σ d = .bool t := by conv => lhs; whnf) (hne : (t == want) = false := by rfl) (hd : A8 n dst = true := by rfl) : D9 P f R B n K ops (i :: l) σ Γ Ms := C7t ho hog hgd ht hne hd h
theorem qU {g d : Nat} {want : Bool} {og : Oper} (ho : ops[i]? = some ⟨dst, op, ty, pos, after, some (g, want)⟩) (hog : ops[g]? = some og) (hgd : og.dst = some d) (h : D9 P f R B n K ops l (Ai σ dst undef) Γ Ms) (ht : σ d = undef := by rfl) (hd : A8 n dst = true := by rfl) : D9 P f R B n K ops (i :: l) σ Γ Ms := C7r ho hog hgd ht hd h
theorem nU {g d : Nat} {want : Bool} {og : Oper} (ho : ops[i]? = some ⟨dst, op, ty, pos, after, some (g, want)⟩) (hog : ops[g]? = some og) (hgd : og.dst = some d) (h : NV tn pn P f R B n K ops fin l (Ai σ dst undef) Γ Ms) (ht : σ d = undef := by rfl) (hd : A8 n dst = true := by rfl) (hn : Nat.beq pn i = false := by rfl) : NV tn pn P f R B n K ops fin (i :: l) σ Γ Ms := C8x ho hog hgd ht hd h hn
theorem qI {g d : Nat} {want t : Bool} {og : Oper} (ho : ops[i]? = some ⟨dst, op, ty, pos, after, some (g, want)⟩) (hog : ops[g]? = some og) (hgd : og.dst = some d) (ht : σ d = .bool t) (hon : t = want → Ds P f R B n K ops l (C3 dst op ty) (Ot σ d (.bool want)) Γ Ms) (hoff : t = !want → D9 P f R B n K ops l (Ai (Ot σ d (.bool !want)) dst undef) Γ Ms) (hd : A8 n dst = true := by rfl) : D9 P f R B n K ops (i :: l) σ Γ Ms := D2z ho hog hgd ht hd hon hoff
theorem n0 (ho : ops[i]? = some ⟨dst, op, ty, pos, after, none⟩) (h : I4 tn pn P f R B n K ops fin i l dst op ty σ Γ Ms) (hn : Nat.beq pn i = false := by rfl) : NV tn pn P f R B n K ops fin (i :: l) σ Γ Ms := D3s ho h hn
theorem nT {g d : Nat} {want : Bool} {og : Oper} (ho : ops[i]? = some ⟨dst, op, ty, pos, after, some (g, want)⟩) (hog : ops[g]? = some og) (hgd : og.dst = some d) (h : I4 tn pn P f R B n K ops fin i l dst op ty σ Γ Ms) (ht : σ d = .bool want := by rfl) (hn : Nat.beq pn i = false := by rfl) : NV tn pn P f R B n K ops fin (i :: l) σ Γ Ms := C8y ho hog hgd ht h hn
theorem nF {g d : Nat} {want t : Bool} {og : Oper} (ho : ops[i]? = some ⟨dst, op, ty, pos, after, some (g, want)⟩) (hog : ops[g]? = some og) (hgd : og.dst = some d) (h : NV tn pn P f R B n K ops fin l (Ai σ dst undef) Γ Ms) (ht : σ d = .bool t := by conv => lhs; whnf) (hne : (t == want) = false := by rfl) (hd : A8 n dst = true := by rfl) (hn : Nat.beq pn i = false := by rfl) : NV tn pn P f R B n K ops fin (i :: l) σ Γ Ms := C8z ho hog hgd ht hne hd h hn
theorem nI {g d : Nat} {want t : Bool} {og : Oper} (ho : ops[i]? = some ⟨dst, op, ty, pos, after, some (g, want)⟩) (hog : ops[g]? = some og) (hgd : og.dst = some d) (ht : σ d = .bool t) (hon : t = want → I4 tn pn P f R B n K ops fin i l dst op ty (Ot σ d (.bool want)) Γ Ms) (hoff : t = !want → NV tn pn P f R B n K ops fin l (Ai (Ot σ d (.bool !want)) dst undef) Γ Ms) (hd : A8 n dst = true := by rfl) (hn : Nat.beq pn i = false := by rfl) : NV tn pn P f R B n K ops fin (i :: l) σ Γ Ms := D3r ho hog hgd ht hd hon hoff hn
end
end Go.Hy
namespace Go.Hy
theorem Kf {a b c d e f g m : B2} {L : List B2} : (a :: b :: c :: d :: e :: f :: g :: m :: L).Perm (m :: a :: b :: c :: d :: e :: f :: g :: L) := (K0.cons a).trans Ao
theorem Le {a b c d e f g h m : B2} {L : List B2} : (a :: b :: c :: d :: e :: f :: g :: h :: m :: L).Perm (m :: a :: b :: c :: d :: e :: f :: g :: h :: L) := (Kf.cons a).trans Ao
theorem B0w {a b c d e f g h i m : B2} {L : List B2} : (a :: b :: c :: d :: e :: f :: g :: h :: i :: m :: L).Perm (m :: a :: b :: c :: d :: e :: f :: g :: h :: i :: L) := (Le.cons a).trans Ao
theorem Pr {a b c d e f g h i j m : B2} {L : List B2} : (a :: b :: c :: d :: e :: f :: g :: h :: i :: j :: m :: L).Perm (m :: a :: b :: c :: d :: e :: f :: g :: h :: i :: j :: L) := (B0w.cons a).trans Ao
theorem A7u {a b c d e f g h i j k m : B2} {L : List B2} : (a :: b :: c :: d :: e :: f :: g :: h :: i :: j :: k :: m :: L).Perm (m :: a :: b :: c :: d :: e :: f :: g :: h :: i :: j :: k :: L) := (Pr.cons a).trans Ao
def Lp (x : Int) : List Value := [.int .i64 x]
abbrev G4 (l : List Int) : List Value := l.flatMap Lp
theorem Rl (x : Int) : (Lp x).length = 1 := rfl
def D0d (ok : Nat → Prop) (l : List Int) (a : SH) (w : World) : Prop := rowAt ok 1 8 l.length a (fun i => Lp (l.getD i 0)) w ∧ ∀ x, x ∈ l → Ap x
def IL (l : List Int) (a : SH) : Fact := ⟨fun ok w => D0d ok l a w, fun _ _ _ hs h => ⟨h.1.mono hs, h.2⟩, fun _ _ _ h hs => ⟨h.1.loc hs, h.2⟩⟩
section
variable {B : C2} {Γ : List Fact} {Ms : List B2} {w : World}
theorem St.Ng {e : TypeId} {a : SH} {n : Nat} {xs : List Value} {l : List Int} (hs : St B Γ (Am 1 e a n xs :: Ms) w) {hBp : Prop} (hB : hBp) (hx : xs = G4 l) (hn : n = l.length) (hb : n * 8 ≤ reach) (hu : ∀ c, c ∈ l → Ap c) : St B (IL l a :: Γ) Ms w := by
 subst hx
 subst hn
 refine hs.Oe hB (fun ok hok hh => ⟨?_, hu⟩)
 exact Lf (F := Lp) Rl 0 (hh : World.ownsRow _ _ _ _ _ _ _) rfl hb hok
theorem St.Up {e : TypeId} {a : SH} {n : Nat} {l : List Cl} {c : Cl} (hs : St B Γ (Am 2 e a n (A6 l ++ Ak c) :: Ms) w) : St B Γ (Am 2 e a n (A6 (l ++ [c])) :: Ms) w := by
 have h : A6 (l ++ [c]) = A6 l ++ Ak c := by simp [A6]
 rw [h]; exact hs
theorem St.C5x {e : TypeId} {a : SH} {n : Nat} {l : List Int} {c : Int} (hs : St B Γ (Am 1 e a n (G4 l ++ [.int .i64 c]) :: Ms) w) : St B Γ (Am 1 e a n (G4 (l ++ [c])) :: Ms) w := by
 have h : G4 (l ++ [c]) = G4 l ++ [.int .i64 c] := by simp [G4, Lp]
 rw [h]; exact hs
theorem St.T5 {e : TypeId} {a : SH} {n : Nat} {l : List TP} {t : T} {vr vk vs : SH} (hs : St B Γ (Am 6 e a n (By l ++ tc t vr vk vs) :: Ms) w) : St B Γ (Am 6 e a n (By (l ++ [(t, vr, vk, vs)])) :: Ms) w := by
 have h : By (l ++ [(t, vr, vk, vs)]) = By l ++ tc t vr vk vs := by simp [By, Gn]
 rw [h]; exact hs
theorem St.C5y {e : TypeId} {a : SH} {n : Nat} {l : List BP} {b : Br} {vf vk : SH} (hs : St B Γ (Am 2 e a n (Fk l ++ bc b vf vk) :: Ms) w) : St B Γ (Am 2 e a n (Fk (l ++ [(b, vf, vk)])) :: Ms) w := by
 have h : Fk (l ++ [(b, vf, vk)]) = Fk l ++ bc b vf vk := by simp [Fk, I0]
 rw [h]; exact hs
theorem St.J3 {e : TypeId} {a : SH} {n : Nat} {l m : List Cl} (hs : St B Γ (Am 2 e a n (A6 l ++ A6 m) :: Ms) w) : St B Γ (Am 2 e a n (A6 (l ++ m)) :: Ms) w := by
 have h : A6 (l ++ m) = A6 l ++ A6 m := by simp [A6]
 rw [h]; exact hs
theorem St.C8l {l : List Int} {a : SH} (hs : St B Γ Ms w) (hF : IL l a ∈ Γ) : l.length * 8 ≤ reach ∧ (0 < l.length → ∃ b o, a.1 = some ⟨b, o, Option.none⟩) ∧ ∀ c, c ∈ l → Ap c := by
 obtain ⟨h2, h4⟩ := hs.facts _ hF
 exact ⟨h2.2.1, fun hn => by obtain ⟨b, o, h3, _⟩ := h2.2.2 hn; exact ⟨b, o, h3⟩, h4⟩
end
section
variable {P : Program} {f : FuncId} {R : Ending → World → Prop} {B : C2} {n : Fz} {todo : List Item} {σ : Nat → Value} {Γ : List Fact} {Ms : List B2}
theorem G0 {l : List Int} {a : SH} (k : l.length * 8 ≤ reach → (0 < l.length → ∃ b o, a.1 = some ⟨b, o, none⟩) → (∀ c, c ∈ l → Ap c) → Dx P f R B n todo σ Γ Ms) (hF : IL l a ∈ Γ := by repeat (first | exact List.mem_cons_self | apply List.mem_cons_of_mem)) : Dx P f R B n todo σ Γ Ms :=
 C8 (p := l.length * 8 ≤ reach ∧ (0 < l.length → ∃ b o, a.1 = some ⟨b, o, none⟩) ∧ ∀ c, c ∈ l → Ap c) (fun w hs => hs.C8l hF) (fun h => k h.1 h.2.1 h.2.2)
theorem B2c {K : List Item} {it : Item} (p : Prop) (live : List (Nat × Value)) (h1 : (p → ∀ σ', Lv σ' live → Dx P f R B n K σ' Γ Ms) → Dx P f R B n (it :: K) σ Γ Ms) (h2 : p → ∀ base, Dx P f R B n K (stL base live) Γ Ms) : Dx P f R B n (it :: K) σ Γ Ms :=
 h1 (fun hp σ' hl => go_slots live hl (h2 hp))
theorem Aj {K : List Item} {c : Code} {X : Type} (Inv : X → Prop) (live : X → List (Nat × Value)) (E : X → List Fact → List Fact) (Mf : X → List B2) (μ : X → Nat) (x0 : X) (h0 : Inv x0)
  (hl : Lv σ (live x0)) (hΓ : ∀ w, St B Γ Ms w → St B (E x0 Γ) (Mf x0) w)
  (round : ∀ x base, Inv x → (∀ x' σ', Inv x' → μ x' < μ x → Lv σ' (live x') → Dx P f R B n (.inLoop c :: K) σ' (E x' Γ) (Mf x')) →
   Dx P f R B n (.code c :: .inLoop c :: K) (stL base (live x)) (E x Γ) (Mf x)) :
  Dx P f R B n (.code (.loop c) :: K) σ Γ Ms := Cv Inv live (fun x => E x Γ) Mf μ x0 h0 hl hΓ round
end
theorem NV.conv {tn : Bool} {pn : Nat} {P : Program} {f : FuncId} {R : Ending → World → Prop} {B : C2} {n : Fz} {K : List Item} {ops : Array Oper} {l fin : List Nat} {σ : Nat → Value} {Γ : List Fact} {Ms' : List B2} (h : NV tn pn P f R B n K ops fin l σ Γ Ms') :
  ∀ {Ms : List B2}, (∀ Γ M w, St B Γ (M ++ Ms) w → St B Γ (M ++ Ms') w) → NV tn pn P f R B n K ops fin l σ Γ Ms := by
 induction h with
 | done h => exact fun hc => .done (fun a w hr hs => h a w hr (hc _ [] w hs))
 | no h => exact fun hc => .no (fun ⟨w, hw⟩ => h ⟨w, hc _ [] w hw⟩)
 | pure ho hw hd h k ih => exact fun hc => .pure ho hw hd h (ih hc)
 | load ht ho hm hw hd h k ih => exact fun hc => .load ht ho hm hw hd (fun w hs => h w (hc _ [] w hs)) (ih hc)
 | off ho hw hd k ih => exact fun hc => .off ho hw hd (ih hc)
 | alloc ho hg hw hd h k ih => exact fun hc => .alloc ho hg hw hd h (fun b => ih b (fun Γ M w hs => by
   have := hc Γ (M ++ [Aa b _ _]) w (by simpa using hs)
   simpa using this))
 | allocF hz ho hg hgm hw hd h hF k ih => exact fun hc => .allocF hz ho hg hgm hw hd h hF (fun b => ih b hc)
 | call ht ho hg hm hw hd he hsp hpre k ih => exact fun hc => .call ht ho hg hm hw hd he hsp hpre (fun x => ih x (fun Γ M w hs => by
   have := hc Γ (M ++ _) w (by simpa using hs)
   simpa using this))
 | loadF ho hm hw hd h k ih => exact fun hc => .loadF ho hm hw hd h (ih hc)
 | pan ht ho hq hg hm hw he hsp hpre hR => exact fun hc => .pan ht ho hq hg hm hw he hsp hpre hR
 | @Dr i l o X val F r r' σ Γ Ms0 Ms2 ht ho hb hw hd hp h k hz ih =>
  intro Ms hc
  refine NV.Dr (F := F) (r := Ms) (r' := fun x => r' x ++ Ms2) (Ms2 := []) ht ho hb hw hd (by rw [List.append_nil]) (fun M w hs => ?_) (fun x => by rw [List.append_nil]; exact k x) hz
  have h0 : St B Γ (M ++ Ms0) w := hc _ M w (hs.perm List.perm_append_comm)
  have h1 : St B Γ (r ++ (Ms2 ++ M)) w := by
   rw [← List.append_assoc]
   exact h0.perm (List.perm_append_comm.trans (hp.append_right M))
  obtain ⟨x, w', h2, h3⟩ := h (Ms2 ++ M) w h1
  exact ⟨x, w', h2, by rw [List.append_assoc]; exact h3⟩
 | @sto i l o r r' σ Γ Ms0 Ms2 ho hb hw hd hp h k ih =>
  intro Ms hc
  refine NV.sto (r := Ms) (r' := r' ++ Ms2) (Ms2 := []) ho hb hw hd (by rw [List.append_nil]) (fun M w hs => ?_) (by rw [List.append_nil]; exact k)
  have h0 : St B Γ (M ++ Ms0) w := hc _ M w (hs.perm List.perm_append_comm)
  have h1 : St B Γ (r ++ (Ms2 ++ M)) w := by
   rw [← List.append_assoc]
   exact h0.perm (List.perm_append_comm.trans (hp.append_right M))
  obtain ⟨w', h2, h3⟩ := h (Ms2 ++ M) w h1
  exact ⟨w', h2, by rw [List.append_assoc]; exact h3⟩
theorem U6 {tn : Bool} {pn : Nat} {P : Program} {f : FuncId} {R : Ending → World → Prop} {B : C2} {n : Fz} {K : List Item} {ops : Array Oper} {l fin : List Nat} {σ : Nat → Value} {Γ : List Fact} {Ms : List B2} (A A' : List B2) (hc : ∀ Γ L w, St B Γ (A ++ L) w → St B Γ (A' ++ L) w) (h : NV tn pn P f R B n K ops fin l σ Γ (A' ++ Ms)) : NV tn pn P f R B n K ops fin l σ Γ (A ++ Ms) :=
 h.conv (fun Γ M w hs => by
  have h1 := hc Γ (Ms ++ M) w (by simpa using hs.perm List.perm_append_comm)
  have h2 : St B Γ ((A' ++ Ms) ++ M) w := by simpa using h1
  exact h2.perm List.perm_append_comm)
section
variable {P : Program} [Tab P] {B : C2} {σ : Nat → Value} {Γ : List Fact} {Ms : List B2} {ty : TypeId} {x y : Operand} {k : IntKind} {a : Int} {v : Value}
theorem C9p {t : TypeId} {d : TypeDesc} {bk o i : Nat} {a : SH} {l : List Int} (hx : ev σ x = .pointer (some ⟨bk, o + i * 1, none⟩)) (hF : IL l a ∈ Γ) (ha : a.1 = some ⟨bk, o, none⟩) (hu : Tab.und P t = some d) (hd : (match d with | .struct _ | .array _ _ => true | _ => false) = false) (hlt : i < l.length) :
  Jf P B σ Γ Ms (.load t x) ty (.int .i64 (l.getD i 0)) := fun w hs => by
 have h3 := (Ii (hs.facts _ hF).1 ha hlt).2 0 (.int .i64 (l.getD i 0)) rfl
 rw [Nat.add_zero] at h3
 have h4 := Dz (P := P) hu hd h3
 generalize hv : l.getD i 0 = u at h4 ⊢
 simp only [C3, execOp, hx, Instr.loadAt, Instr.sureAddr]
 rw [Nat.mul_one] at h4 ⊢
 simp [h4]
theorem B3w {s d : TypeId} {a : Nat} (hs : Tab.und P s = some (.int .u32)) (hd : Tab.und P d = some (.int .i64)) (hx : ev σ x = .int .u32 (a : Int)) (ha : a < 4294967296) : Bx P σ (.convert s d x) ty (.int .i64 (a : Int)) := by
 have e : IntKind.i64.wrap (a : Int) = (a : Int) := by rw [IntKind.wrap_i64]; omega
 have := Hd (P := P) (ty := ty) hs hd hx
 rwa [e] at this
theorem B3y {s d : TypeId} {a : Nat} (hs : Tab.und P s = some (.int .i64)) (hd : Tab.und P d = some (.int .u32)) (hx : ev σ x = .int .i64 (a : Int)) (ha : a < 4294967296) : Bx P σ (.convert s d x) ty (.int .u32 (a : Int)) := by
 have e : IntKind.u32.wrap (a : Int) = (a : Int) := by
  have : IntKind.u32.wrap (a : Int) = (a : Int) % 4294967296 := by simp [IntKind.wrap, IntKind.bits, IntKind.signed]
  rw [this]; omega
 have := Hd (P := P) (ty := ty) hs hd hx
 rwa [e] at this
theorem B3z {s d : TypeId} {a : Int} {m : Nat} (hs : Tab.und P s = some (.int .i64)) (hd : Tab.und P d = some (.int .u64)) (hx : ev σ x = .int .i64 a) (ha : a = (m : Int)) (hm : m < 18446744073709551616) : Bx P σ (.convert s d x) ty (.int .u64 (m : Int)) := by
 have e : IntKind.u64.wrap a = (m : Int) := by
  have : IntKind.u64.wrap a = a % 18446744073709551616 := by simp [IntKind.wrap, IntKind.bits, IntKind.signed]
  rw [this]; omega
 have := Hd (P := P) (ty := ty) hs hd hx
 rwa [e] at this
end
end Go.Hy
namespace Go.Hy
def Pw (a : SH) (sz k : Nat) : SH := (if a.2 = k then a.1 else a.1.map (·.add (k * sz)), a.2 - k)
section
variable {P : Program} [Tab P] {B : C2} {σ : Nat → Value} {Γ : List Fact} {Ms : List B2} {ty : TypeId} {x y : Operand}
theorem A7w {t e : TypeId} {s bt m c k : Nat} {zv : Value} {A : Option Addr} (hu : Tab.und P t = some (.slice e)) (hi : Tab.inf P e = some (s, bt, zv)) (hx : ev σ x = .slice A m c) (hy : ev σ y = .int .i64 (k : Int)) (hk : k ≤ c) : Bx P σ (.slice t x none (some y) none) ty (.slice A k c) := fun w => by
 have h0 : ∀ a : Option Addr, (a.map fun b : Addr => b.add 0) = a := fun a => by cases a <;> simp [Addr.add_zero']
 simp [C3, execOp, hx, hy, Instr.sliceAt, Instr.slice, Instr.sliceBounds, Instr.sliceBound, asIntOf, Cs hu, hk, Ey hi, h0]
theorem A7v {t e : TypeId} {s bt m k : Nat} {zv : Value} {a : SH} (hu : Tab.und P t = some (.slice e)) (hi : Tab.inf P e = some (s, bt, zv)) (hx : ev σ x = sl a m) (hy : ev σ y = .int .i64 (k : Int)) (hk : k ≤ m) : Bx P σ (.slice t x (some y) none none) ty (sl (Pw a s k) (m - k)) := fun w => by
 have hx' : ev σ x = .slice a.1 m a.2 := hx
 simp [C3, execOp, hx', hy, Instr.sliceAt, Instr.slice, Instr.sliceBounds, Instr.sliceBound, asIntOf, Cs hu, hk, Ey hi, sl, Pw]
end
theorem A7j {ok : Nat → Prop} {sz bt n k : Nat} {a : SH} {E : Nat → List Value} {w : World} (h : rowAt ok sz bt n a E w) (hk : k ≤ n) : rowAt ok sz bt k a E w :=
 ⟨Nat.le_trans hk h.1, Nat.le_trans (Nat.mul_le_mul_right bt hk) h.2.1, fun h0 => by
  obtain ⟨b, o, h1, h2, h3⟩ := h.2.2 A2
  exact ⟨b, o, h1, h2, fun i hi => h3 i A2⟩⟩
theorem A7k {ok : Nat → Prop} {sz bt n k : Nat} {a : SH} {E : Nat → List Value} {w : World} (h : rowAt ok sz bt n a E w) (hk : k ≤ n) : rowAt ok sz bt (n - k) (Pw a sz k) (fun i => E (i + k)) w := by
 refine ⟨Nat.sub_le_sub_right h.1 k, Nat.le_trans (Nat.mul_le_mul_right bt (Nat.sub_le n k)) h.2.1, fun h0 => ?_⟩
 obtain ⟨b, o, h1, h2, h3⟩ := h.2.2 A2
 have hne : a.2 ≠ k := by have := h.1; omega
 refine ⟨b, o + k * sz, by simp [Pw, hne, h1, Addr.add_lit], h2, fun i hi j v hv => ?_⟩
 have := h3 (i + k) A2 j v hv
 rwa [show o + k * sz + i * sz + j = o + (i + k) * sz + j by rw [Nat.add_mul]; omega]
theorem Tb {ok : Nat → Prop} {sz bt n : Nat} {a : SH} {E E' : Nat → List Value} {w : World} (h : rowAt ok sz bt n a E w) (he : ∀ i, i < n → E i = E' i) : rowAt ok sz bt n a E' w :=
 ⟨h.1, h.2.1, fun h0 => by
  obtain ⟨b, o, h1, h2, h3⟩ := h.2.2 h0
  exact ⟨b, o, h1, h2, fun i hi => by rw [← he i hi]; exact h3 i hi⟩⟩
theorem getD_take' {α : Type} {d : α} {l : List α} {k i : Nat} (h : i < k) : (l.take k).getD i d = l.getD i d := by
 simp [List.getD_eq_getElem?_getD, h]
theorem getD_drop' {α : Type} {d : α} {l : List α} {k i : Nat} : (l.drop k).getD i d = l.getD (i + k) d := by
 simp [List.getD_eq_getElem?_getD, Nat.add_comm]
section
variable {B : C2} {Γ : List Fact} {Ms : List B2} {w : World}
theorem St.C7f {l : List Cl} {a : SH} (k : Nat) (hs : St B Γ Ms w) (hF : CL l a ∈ Γ) (hk : k ≤ l.length) : St B (CL (l.take k) a :: Γ) Ms w := by
 obtain ⟨h2, h4⟩ := hs.facts _ hF
 refine hs.add ⟨?_, fun c hc => h4 c (List.mem_of_mem_take hc)⟩
 have e : (l.take k).length = k := by simp; omega
 rw [e]
 exact Tb (A7j h2 hk) (fun i hi => by rw [getD_take' hi])
theorem St.D1w {l : List Cl} {a : SH} (k : Nat) (hs : St B Γ Ms w) (hF : CL l a ∈ Γ) (hk : k ≤ l.length) : St B (CL (l.drop k) (Pw a 2 k) :: Γ) Ms w := by
 obtain ⟨h2, h4⟩ := hs.facts _ hF
 refine hs.add ⟨?_, fun c hc => h4 c (List.mem_of_mem_drop hc)⟩
 rw [List.length_drop]
 exact Tb (A7k h2 hk) (fun i hi => by rw [getD_drop'])
theorem St.D6e {l : List Cl} {a : SH} (hs : St B Γ Ms w) (hF : CL l a ∈ Γ) : l.length ≤ a.2 := (hs.facts _ hF).1.1
end
end Go.Hy
namespace Go.Hy
section
variable {P : Program} [Tab P] {σ : Nat → Value} {ty : TypeId} {x y : Operand}
theorem B0d (n : Int) : IntKind.u64.wrap n = n % 18446744073709551616 := by simp [IntKind.wrap, IntKind.bits, IntKind.signed]
theorem C3o {t t' : TypeId} {k2 : IntKind} {a m : Nat} (hx : ev σ x = .int .u64 (a : Int)) (hy : ev σ y = .int k2 (m : Int)) (hm : m ≤ 64) (hb : a * 2 ^ m < 18446744073709551616) : Bx P σ (.binOp .shl t x y t') ty (.int .u64 ((a * 2 ^ m : Nat) : Int)) :=
 Cr hx hy (fun w => Bk w) (fun w => by
  have e : IntKind.u64.wrap ((a : Int) * 2 ^ min (m : Int).toNat 64) = ((a * 2 ^ m : Nat) : Int) := by
   rw [B0d, Int.toNat_natCast, Nat.min_eq_left hm]
   have : ((a : Int) * 2 ^ m) = ((a * 2 ^ m : Nat) : Int) := by rw [Int.natCast_mul, Int.natCast_pow]; rfl
   rw [this]; omega
  have h0 : ¬ ((m : Int) < 0) := by omega
  simp only [binOp, Op.shift, if_neg h0]
  show Result.ok (Value.int .u64 (IntKind.u64.wrap ((a : Int) * 2 ^ min (m : Int).toNat 64))) w = _
  rw [e])
theorem C3m {t t' : TypeId} {a b : Nat} (hx : ev σ x = .int .u64 (a : Int)) (hy : ev σ y = .int .u64 (b : Int)) (h : b ≤ a) (ha : a < 18446744073709551616) : Bx P σ (.binOp .sub t x y t') ty (.int .u64 ((a - b : Nat) : Int)) :=
 Cr hx hy (fun w => Bk w) (fun w => by
  have e : IntKind.u64.wrap ((a : Int) - (b : Int)) = ((a - b : Nat) : Int) := by rw [B0d]; omega
  simp only [binOp, Op.intArith, ne_eq, not_true, if_false]
  show Result.ok (Value.int .u64 (IntKind.u64.wrap ((a : Int) - (b : Int)))) w = _
  rw [e])
theorem B4b {s d : TypeId} {a : Nat} (hs : Tab.und P s = some (.int .u64)) (hd : Tab.und P d = some (.int .u32)) (hx : ev σ x = .int .u64 (a : Int)) (ha : a < 4294967296) : Bx P σ (.convert s d x) ty (.int .u32 (a : Int)) := by
 have e : IntKind.u32.wrap (a : Int) = (a : Int) := by rw [B6x]; omega
 have := Hd (P := P) (ty := ty) hs hd hx
 rwa [e] at this
end
end Go.Hy
namespace Go.Hy
section
variable {P : Program} [Tab P] {σ : Nat → Value} {ty : TypeId} {x y : Operand}
end
end Go.Hy
namespace Go.Hy
open Go Go.ChangeShapes Go.WideShapes Go.RowKit
variable {P : Program} {H : Type} {enc : TypeId × Value → H} {W : World} {base : Nat} {v : Value} {d : DataW H} {ps : List MemPlace}
theorem Kv {t : TypeId} {ts : List TypeId} {ds : List (DataW H)} (h : ∀ x, x ∈ DataW.weightsEach P (t :: ts) (d :: ds) → x ≤ reach) : Kn P t d ∧ ∀ x, x ∈ DataW.weightsEach P ts ds → x ≤ reach :=
 ⟨fun x hx => h x (by simp only [DataW.weightsEach, List.mem_append]; exact .inl hx), fun x hx => h x (by simp only [DataW.weightsEach, List.mem_append]; exact .inr hx)⟩
theorem Pl {t : TypeId} {ts : List TypeId} {vs : List Value} {ds : List (DataW H)} (h : DataW.TrodAll enc P W 0 (fun _ => true) true (t :: ts) vs ds ps) :
  ∃ v vs' d ds' p q, vs = v :: vs' ∧ ds = d :: ds' ∧ DataW.Trod enc P W 0 (fun _ => true) true t v d p ∧ DataW.TrodAll enc P W 0 (fun _ => true) true ts vs' ds' q := by
 obtain ⟨v, vs1, d, ds1, a, b, h1, h2, h3, h4, h5⟩ := trodAll_cons h
 exact ⟨v, vs1, d, ds1, a, b, h1, h2, h4, h5⟩
theorem B3g {vs : List Value} {ds : List (DataW H)} (h : DataW.TrodAll enc P W 0 (fun _ => true) true [] vs ds ps) : vs = [] := by
 obtain ⟨h1, _, _⟩ := trodAll_nil h
 exact h1
theorem C6y {t : TypeId} (ht : P.underlying t = some (.int .i64)) (hval : Value.okWide P W .any base t v) (h : DataW.Trod enc P W 0 (fun _ => true) true t v d ps) : ∃ n : Int, v = .int .i64 n ∧ Ap n := by
 obtain ⟨n, rfl, _, _, hw⟩ := open_int ht hval h
 simp only [Lit.wf, Bool.and_eq_true, decide_eq_true_eq] at hw
 exact ⟨n, rfl, hw.1, hw.2⟩
variable [TyF P]
end Go.Hy
namespace Go.Hy
def E2 (L : List B2) : B2 := ⟨Bb L, fun w => (∀ m, m ∈ L → ∀ w', (∀ b, m.dom b → w'.heap[b]? = w.heap[b]?) → m.holds w') ∧ (L.Pairwise fun m m' => ∀ b, m.dom b → m'.dom b → False)⟩
section
variable {B : C2} {Γ : List Fact} {Ms L L' : List B2} {w : World}
theorem St.pack (hs : St B Γ (L ++ Ms) w) : St B Γ (E2 L :: Ms) w := by
 have hd : ∀ b, Bb (E2 L :: Ms) b ↔ Bb (L ++ Ms) b := fun b => by rw [Ek, Da]; exact Iff.rfl
 refine ⟨hs.chg, fun F hF => F.mono _ _ _ (fun b hb => ⟨hb.1, hb.2.1, fun hc => hb.2.2 ((hd b).mp hc)⟩) (hs.facts F hF), ?_, ?_, ?_⟩
 ·intro m hm w' hw
  rcases List.mem_cons.mp hm with e | hm
  ·subst e
   exact ⟨fun m hm w2 hw2 => hs.res m (List.mem_append_left _ hm) w2 (fun b hb => (hw2 b hb).trans (hw b ⟨m, hm, hb⟩)), (List.pairwise_append.mp hs.disj).1⟩
  ·exact hs.res m (List.mem_append_right _ hm) w' hw
 ·intro m hm b hb
  rcases List.mem_cons.mp hm with e | hm
  ·subst e
   obtain ⟨m', hm', hb'⟩ := hb
   exact hs.lt m' (List.mem_append_left _ hm') b hb'
  ·exact hs.lt m (List.mem_append_right _ hm) b hb
 ·refine List.pairwise_cons.mpr ⟨fun m hm b hb hb2 => ?_, (List.pairwise_append.mp hs.disj).2.1⟩
  obtain ⟨m', hm', hb'⟩ := hb
  exact (List.pairwise_append.mp hs.disj).2.2 m' hm' m hm b hb' hb2
theorem St.unpack (hs : St B Γ (E2 L :: Ms) w) : St B Γ (L ++ Ms) w := by
 have hd : ∀ b, Bb (E2 L :: Ms) b ↔ Bb (L ++ Ms) b := fun b => by rw [Ek, Da]; exact Iff.rfl
 have hb0 := hs.res (E2 L) List.mem_cons_self w (fun _ _ => rfl)
 refine ⟨hs.chg, fun F hF => F.mono _ _ _ (fun b hb => ⟨hb.1, hb.2.1, fun hc => hb.2.2 ((hd b).mpr hc)⟩) (hs.facts F hF), ?_, ?_, ?_⟩
 ·intro m hm w' hw
  rcases List.mem_append.mp hm with hm | hm
  ·exact hb0.1 m hm w' hw
  ·exact hs.res m (List.mem_cons_of_mem _ hm) w' hw
 ·intro m hm b hb
  rcases List.mem_append.mp hm with hm | hm
  ·exact hs.lt (E2 L) List.mem_cons_self b ⟨m, hm, hb⟩
  ·exact hs.lt m (List.mem_cons_of_mem _ hm) b hb
 ·exact List.pairwise_append.mpr ⟨hb0.2, (List.pairwise_cons.mp hs.disj).2, fun m hm m' hm' b hb hb' => (List.pairwise_cons.mp hs.disj).1 m' hm' b ⟨m, hm, hb⟩ hb'⟩
theorem St.Wm (hs : St B Γ Ms w) : St B Γ (E2 [] :: Ms) w := St.pack (L := []) hs
theorem St.C5k (hs : St B Γ (E2 L :: E2 L' :: Ms) w) : St B Γ (E2 (L' ++ L) :: Ms) w := by
 have h1 := (hs.unpack.perm List.perm_middle).unpack
 exact St.pack (by rw [List.append_assoc]; exact h1)
end
mutual
inductive HT where
 | mk (kind n : Int) (name : ByteArray) (r : List Cl) (vr : SH) (kids : List HT) (vk : SH) (sys : List HB) (vs : SH)
inductive HB where
 | mk (B4 : List Cl) (vf : SH) (kids : List HT) (vk : SH)
end
mutual
def HT.er : HT → T
 | .mk k n nm r _ ks _ ss _ => .mk k n nm r (HT.erL ks) (HT.erB ss)
def HT.erL : List HT → List T
 | [] => []
 | h :: hs => h.er :: HT.erL hs
def HT.erB : List HB → List Br
 | [] => []
 | .mk f _ ks _ :: bs => .mk f (HT.erL ks) :: HT.erB bs
end
def HB.er : HB → Br
 | .mk f _ ks _ => .mk f (HT.erL ks)
theorem HT.L0 : ∀ l : List HT, HT.erL l = l.map HT.er
 | [] => by simp [HT.erL]
 | h :: hs => by simp [HT.erL, HT.L0 hs]
theorem HT.Wb : ∀ l : List HB, HT.erB l = l.map HB.er
 | [] => by simp [HT.erB]
 | .mk f v ks u :: bs => by simp [HT.erB, HB.er, HT.Wb bs]
namespace HT
def vr : HT → SH | .mk _ _ _ _ v _ _ _ _ => v
def vk : HT → SH | .mk _ _ _ _ _ _ v _ _ => v
def vs : HT → SH | .mk _ _ _ _ _ _ _ _ v => v
def kids : HT → List HT | .mk _ _ _ _ _ ks _ _ _ => ks
def sys : HT → List HB | .mk _ _ _ _ _ _ _ ss _ => ss
def tp (h : HT) : TP := (h.er, h.vr, h.vk, h.vs)
end HT
namespace HB
def B4 : HB → List Cl | .mk f _ _ _ => f
def vf : HB → SH | .mk _ v _ _ => v
def kids : HB → List HT | .mk _ _ ks _ => ks
def vk : HB → SH | .mk _ _ _ v => v
def bp (b : HB) : BP := (b.er, b.vf, b.vk)
end HB
structure Tys where
 c : TypeId
 t : TypeId
 b : TypeId
mutual
def Hh (y : Tys) : HT → List B2
 | .mk _ _ _ r v ks u ss x => Am 2 y.c v r.length (A6 r) :: Am 6 y.t u ks.length (By (ks.map HT.tp)) :: Am 2 y.b x ss.length (Fk (ss.map HB.bp)) :: (Fa y ks ++ Mh y ss)
def Fa (y : Tys) : List HT → List B2
 | [] => []
 | h :: hs => Hh y h ++ Fa y hs
def Mh (y : Tys) : List HB → List B2
 | [] => []
 | .mk f v ks u :: bs => (Am 2 y.c v f.length (A6 f) :: Am 6 y.t u ks.length (By (ks.map HT.tp)) :: Fa y ks) ++ Mh y bs
end
def brR (y : Tys) : HB → List B2
 | .mk f v ks u => Am 2 y.c v f.length (A6 f) :: Am 6 y.t u ks.length (By (ks.map HT.tp)) :: Fa y ks
theorem A5d (y : Tys) : ∀ l, Fa y l = l.flatMap (Hh y)
 | [] => by simp [Fa]
 | h :: hs => by simp [Fa, A5d y hs]
theorem B2k (y : Tys) : ∀ l, Mh y l = l.flatMap (brR y)
 | [] => by simp [Mh]
 | .mk f v ks u :: bs => by simp [Mh, brR, B2k y bs]
mutual
def Tx : T → Prop
 | .mk k n nm r ks ss => Ap k ∧ Ap n ∧ nm.size ≤ Er ∧ ((∀ c, c ∈ r → u32 c) ∧ r.length * 8 ≤ reach) ∧ ks.length * 104 ≤ reach ∧ ss.length * 48 ≤ reach ∧ okL ks ∧ okB ss
def okL : List T → Prop
 | [] => True
 | t :: ts => Tx t ∧ okL ts
def okB : List Br → Prop
 | [] => True
 | .mk f ks :: bs => ((∀ c, c ∈ f → u32 c) ∧ f.length * 8 ≤ reach) ∧ ks.length * 104 ≤ reach ∧ okL ks ∧ okB bs
end
mutual
theorem B8y {ok : Nat → Prop} {w : World} : ∀ {t : T} {vr vk vs : SH}, Ea ok t vr vk vs w → Tx t
 | .mk k n nm r ks ss, vr, vk, vs, h => by
  simp only [Ea] at h
  simp only [Tx]
  obtain ⟨h1, h2, h3, h4, ⟨VR, VK, VS, h6, h7⟩, ⟨VF, VK', h9, h10⟩⟩ := h
  exact ⟨h1, h2, h3, ⟨h4.2, h4.1.2.1⟩, h6.2.1, h9.2.1, A8d h7, B9c h10⟩
theorem A8d {ok : Nat → Prop} {w : World} : ∀ {ts : List T} {VR VK VS : Nat → SH}, El ok ts VR VK VS w → okL ts
 | [], _, _, _, _ => by simp only [okL]
 | t :: ts, _, _, _, h => by
  simp only [El] at h
  simp only [okL]
  exact ⟨B8y h.1, A8d h.2⟩
theorem B9c {ok : Nat → Prop} {w : World} : ∀ {bs : List Br} {VF VK : Nat → SH}, Fe ok bs VF VK w → okB bs
 | [], _, _, _ => by simp only [okB]
 | .mk f ks :: bs, _, _, h => by
  simp only [Fe, L1] at h
  simp only [okB]
  obtain ⟨⟨h1, ⟨VR, VK, VS, h2, h3⟩⟩, h4⟩ := h
  exact ⟨⟨h1.2, h1.1.2.1⟩, h2.2.1, A8d h3, B9c h4⟩
end
theorem R1 {K S M : List B2} {a : B2} : (K ++ (S ++ a :: M)).Perm (a :: (K ++ (S ++ M))) := (List.perm_middle.append_left K).trans List.perm_middle
section
variable {B : C2} {Γ : List Fact} {Ms : List B2} {w : World}
mutual
theorem St.M3 (y : Tys) {hBp : Prop} (hB : hBp) : ∀ (h : HT) {Γ : List Fact} {Ms : List B2}, Tx h.er → St B Γ (Hh y h ++ Ms) w → St B (RT h.er h.vr h.vk h.vs :: Γ) Ms w
 | .mk k n nm r v ks u ss x, Γ, Ms, hok, hs => by
  simp only [HT.er, Tx] at hok
  obtain ⟨o1, o2, o3, o4, o5, o6, o7, o8⟩ := hok
  simp only [Hh, List.cons_append, List.append_assoc] at hs
  have h1 := hs.D5 (l := r) hB rfl rfl o4.2 o4.1
  -- the rows of kids and branches wait behind the parts
  have h2 : St B (CL r v :: Γ) (Fa y ks ++ (Mh y ss ++ (Am 6 y.t u ks.length (By (ks.map HT.tp)) :: Am 2 y.b x ss.length (Fk (ss.map HB.bp)) :: Ms))) w := by
   exact h1.perm (((R1.trans (R1.cons _))).symm)
  have h3 := St.Us y hB ks [] (by rw [HT.L0] at o7; exact o7) (by simpa using h2.O5)
  have h4 := St.A3j y hB ss [] (by rw [HT.Wb] at o8; exact o8) (h3.C1x)
  have h5 := h4.Ge (ps := ks.map HT.tp) (ts := ks.map HT.er) hB D7 rfl (by simp [HT.tp, Function.comp_def]) D7 (by rw [HT.L0, List.length_map] at o5; exact o5)
  have h6 := h5.Ut (ps := ss.map HB.bp) (bs := ss.map HB.er) hB D7 rfl (by simp [HB.bp, Function.comp_def]) D7 (by rw [HT.Wb, List.length_map] at o6; exact o6)
  have h7 := h6.A8j (k := k) (n := n) (nm := nm) (r := r) (vr := v) (ks := ks.map HT.er) (vk := u) (ss := ss.map HB.er) (vs := x) o1 o2 o3 D7 D7 D7
  simp only [HT.er, HT.L0, HT.Wb, HT.vr, HT.vk, HT.vs]
  exact h7.less sx_
theorem St.Us (y : Tys) {hBp : Prop} (hB : hBp) : ∀ (ks : List HT) (ps : List TP) {Γ : List Fact} {Ms : List B2}, okL (ks.map HT.er) → St B (AP ps :: Γ) (Fa y ks ++ Ms) w → St B (AP (ps ++ ks.map HT.tp) :: Γ) Ms w
 | [], ps, Γ, Ms, hok, hs => by simpa [Fa] using hs
 | h :: hs', ps, Γ, Ms, hok, hs => by
  simp only [List.map_cons, okL] at hok
  simp only [Fa, List.append_assoc] at hs
  have h1 := St.M3 y hB h hok.1 hs
  have h2 := h1.Mu (ps := ps) (t := h.er) (vr := h.vr) (vk := h.vk) (vs := h.vs) D7 D7
  have h3 := St.Us y hB hs' (ps ++ [h.tp]) (Γ := Γ) hok.2 (h2.less (by simp +contextual [HT.tp]))
  simpa using h3
theorem St.A3j (y : Tys) {hBp : Prop} (hB : hBp) : ∀ (bs : List HB) (ps : List BP) {Γ : List Fact} {Ms : List B2}, okB (bs.map HB.er) → St B (BPs ps :: Γ) (Mh y bs ++ Ms) w → St B (BPs (ps ++ bs.map HB.bp) :: Γ) Ms w
 | [], ps, Γ, Ms, hok, hs => by simpa [Mh] using hs
 | .mk f v ks u :: bs, ps, Γ, Ms, hok, hs => by
  simp only [List.map_cons, HB.er, okB] at hok
  obtain ⟨o1, o2, o3, o4⟩ := hok
  simp only [Mh, List.cons_append, List.append_assoc] at hs
  have h1 := hs.D5 (l := f) hB rfl rfl o1.2 o1.1
  have h2 : St B (CL f v :: BPs ps :: Γ) (Fa y ks ++ (Am 6 y.t u ks.length (By (ks.map HT.tp)) :: (Mh y bs ++ Ms))) w := h1.perm (by exact List.perm_middle.symm)
  have h3 := St.Us y hB ks [] (by rw [HT.L0] at o3; exact o3) (by simpa using h2.O5)
  have h4 := h3.Ge (ps := ks.map HT.tp) (ts := ks.map HT.er) hB D7 rfl (by simp [HT.tp, Function.comp_def]) D7 (by rw [HT.L0, List.length_map] at o2; exact o2)
  have h5 := h4.C1y (ps := ps) (f := f) (ks := ks.map HT.er) (vf := v) (vk := u) D7 D7 D7
  have h6 := St.A3j y hB bs (ps ++ [(.mk f (ks.map HT.er), v, u)]) (Γ := Γ) o4 (h5.less sx_)
  simpa [HB.bp, HB.er, HB.vf, HB.vk, HT.L0] using h6
end
end
end Go.Hy
namespace Go.Hy
section
variable {B : C2} {Γ : List Fact} {Ms K S : List B2} {w : World} {a b c : B2}
theorem St.D3c (hs : St B Γ (a :: b :: c :: E2 K :: E2 S :: Ms) w) : St B Γ (E2 (a :: b :: c :: (K ++ S)) :: Ms) w := by
 have h1 : St B Γ (E2 K :: E2 S :: a :: b :: c :: Ms) w := hs.perm (Dk.trans (Dk.cons _))
 have h2 : St B Γ (E2 S :: (K ++ a :: b :: c :: Ms)) w := h1.unpack.perm List.perm_middle
 have h3 : St B Γ (K ++ (S ++ a :: b :: c :: Ms)) w := h2.unpack.perm (by rw [← List.append_assoc, ← List.append_assoc]; exact List.perm_append_comm.append_right _)
 exact St.pack (L := a :: b :: c :: (K ++ S)) (by
  simp only [List.cons_append, List.append_assoc]
  exact h3.perm (R1.trans ((R1.trans (R1.cons _)).cons _)))
theorem St.D3d (hs : St B Γ (a :: b :: E2 K :: E2 S :: Ms) w) : St B Γ (E2 (S ++ (a :: b :: K)) :: Ms) w := by
 have h1 : St B Γ (E2 K :: E2 S :: a :: b :: Ms) w := hs.perm (Bi.trans (Bi.cons _))
 have h2 : St B Γ (E2 S :: (K ++ a :: b :: Ms)) w := h1.unpack.perm List.perm_middle
 have h3 : St B Γ (S ++ (K ++ a :: b :: Ms)) w := h2.unpack
 exact St.pack (L := S ++ (a :: b :: K)) (by
  have : (S ++ a :: b :: K) ++ Ms = S ++ (a :: b :: (K ++ Ms)) := by simp
  rw [this]
  exact h3.perm ((List.perm_middle.trans (List.perm_middle.cons _)).append_left S))
theorem St.C6l {y : Tys} {hs : List HT} {h : HT} (h0 : St B Γ (E2 (Hh y h) :: E2 (Fa y hs) :: Ms) w) : St B Γ (E2 (Fa y (hs ++ [h])) :: Ms) w := by
 have := h0.C5k
 rwa [show Fa y hs ++ Hh y h = Fa y (hs ++ [h]) by simp [A5d]] at this
theorem St.D4o {y : Tys} {bs : List HB} {f : List Cl} {v u : SH} {ks : List HT} {n m : Nat} {fl tl : List Value} (hn : n = f.length) (hm : m = ks.length) (hf : fl = A6 f) (ht : tl = By (ks.map HT.tp)) (h0 : St B Γ (Am 2 y.c v n fl :: Am 6 y.t u m tl :: E2 (Fa y ks) :: E2 (Mh y bs) :: Ms) w) : St B Γ (E2 (Mh y (bs ++ [.mk f v ks u])) :: Ms) w := by
 subst hn; subst hm; subst hf; subst ht
 have := h0.D3d
 rwa [show Mh y bs ++ (Am 2 y.c v f.length (A6 f) :: Am 6 y.t u ks.length (By (ks.map HT.tp)) :: Fa y ks) = Mh y (bs ++ [.mk f v ks u]) by simp [B2k, brR]] at this
theorem St.C6k {y : Tys} {k n : Int} {nm : ByteArray} {r : List Cl} {v u x : SH} {ks : List HT} {ss : List HB} {n1 n2 n3 : Nat} {l1 l2 l3 : List Value} (e1 : n1 = r.length) (e2 : n2 = ks.length) (e3 : n3 = ss.length) (f1 : l1 = A6 r) (f2 : l2 = By (ks.map HT.tp)) (f3 : l3 = Fk (ss.map HB.bp))
  (h0 : St B Γ (Am 2 y.c v n1 l1 :: Am 6 y.t u n2 l2 :: Am 2 y.b x n3 l3 :: E2 (Fa y ks) :: E2 (Mh y ss) :: Ms) w) : St B Γ (E2 (Hh y (.mk k n nm r v ks u ss x)) :: Ms) w := by
 subst e1; subst e2; subst e3; subst f1; subst f2; subst f3
 simpa only [Hh] using h0.D3c
end
end Go.Hy
namespace Go.Hy
section
variable {P : Program} {f : FuncId} {R : Ending → World → Prop} {B : C2} {n : Fz} {K : List Item} {σ : Nat → Value} {Γ LF : List Fact} {Ms Ms2 Ms' : List B2} {todo : List Item} {w : World}
theorem Mr (h : Ms = Ms') (k : Dx P f R B n todo σ Γ Ms') : Dx P f R B n todo σ Γ Ms := h ▸ k
theorem St.Ch {b : Nat} {cs : List Value} {T : TypeId} {hBp : Prop} (hB : hBp) (hs : St B Γ (Aa b cs T :: Ms) w) : St B (At b 0 cs :: Γ) Ms w := by
 refine hs.Oe hB (fun ok hok hh => ⟨hok b rfl, fun j v hj => ?_⟩)
 have hh : w.heap[b]? = some (.cells cs.toArray T (0, 0)) := hh
 simp [World.cell?, hh, hj]
end
end Go.Hy
namespace Go.Hy
section
variable {B : C2} {Γ : List Fact} {Ms K S : List B2} {w : World} {a b c : B2}
def h0 : HT := .mk 0 0 (ByteArray.mk #[]) [] (none, 0) [] (none, 0) [] (none, 0)
def hb0 : HB := .mk [] (none, 0) [] (none, 0)
theorem Spec.conv {P : Program} {k : FuncId} {args args' : Array Value} {pre : List Fact} {Ms0 Ms0' : List B2} {X : Type} {val : X → Value} {N : X → List Fact} {Ms1 : X → List B2} (h : Spec P k args pre Ms0 val N Ms1) (ha : args = args') (hd : ∀ b, Bb Ms0' b ↔ Bb Ms0 b) (hs : ∀ B w, St B pre Ms0' w → St B pre Ms0 w) : Spec P k args' pre Ms0' val N Ms1 := by
 subst ha
 have e : Bb Ms0' = Bb Ms0 := funext fun b => propext (hd b)
 intro ok w hok hst
 rw [e] at hst ⊢
 exact h ok w (fun b hb => ⟨(hok b hb).1, fun hc => (hok b hb).2 ((hd b).2 hc)⟩) (hs _ _ hst)
mutual
theorem HT.D7k {P : HT → Prop} (h : ∀ k n nm r v ks u ss x, (∀ c, c ∈ ks → P c) → P (.mk k n nm r v ks u ss x)) : ∀ t, P t
 | .mk k n nm r v ks u ss x => h k n nm r v ks u ss x (HT.B5g h ks)
theorem HT.B5g {P : HT → Prop} (h : ∀ k n nm r v ks u ss x, (∀ c, c ∈ ks → P c) → P (.mk k n nm r v ks u ss x)) : ∀ ts : List HT, ∀ c, c ∈ ts → P c
 | [], _, hc => by cases hc
 | t :: ts, c, hc => by
  rcases List.mem_cons.mp hc with e | hc
  ·rw [e]; exact HT.D7k h t
  ·exact HT.B5g h ts c hc
end
end
end Go.Hy
namespace Go.Hy
theorem A0w {P : Program} {σ : Nat → Value} {op : Op} {ty : TypeId} {p q : Prop} [Decidable p] [Decidable q] (h : p ↔ q) (hp : Bx P σ op ty (.bool (decide p))) : Bx P σ op ty (.bool (decide q)) := by
 rwa [decide_eq_decide.mpr h] at hp
section
variable {tn : Bool} {pn : Nat} {P : Program} [Tab P] {f : FuncId} {R : Ending → World → Prop} {B : C2} {n : Fz} {K : List Item} {ops : Array Oper} {i : Nat} {l fin : List Nat} {σ : Nat → Value} {Γ : List Fact} {Ms Ms2 : List B2}
variable {dst : Option Tmp} {op : Op} {ty : TypeId} {pos : String} {after : Array Edge} {v : Value} {x y z : Operand}
theorem A8g {t t' : TypeId} {k2 : IntKind} {a m : Nat} (k_ : D9 P f R B n K ops l (Ai σ dst (.int .u64 ((a * 2 ^ m : Nat) : Int))) Γ Ms) (hx : ev σ x = .int .u64 (a : Int) := by exact A4) (hy : ev σ y = .int k2 (m : Int) := by exact A4) (hm : m ≤ 64 := by first | assumption | omega) (hb : a * 2 ^ m < 18446744073709551616 := by first | assumption | omega) (hd : A8 n dst = true := by rfl) : Ds P f R B n K ops l (C3 dst (.binOp .shl t x y t') ty) σ Γ Ms := Ay (C3o hx hy hm hb) hd k_
theorem C8p {t t' : TypeId} {a b : Nat} (k_ : D9 P f R B n K ops l (Ai σ dst (.int .u64 ((a - b : Nat) : Int))) Γ Ms) (hx : ev σ x = .int .u64 (a : Int) := by exact A4) (hy : ev σ y = .int .u64 (b : Int) := by exact A4) (h : b ≤ a := by first | assumption | omega) (ha : a < 18446744073709551616 := by first | assumption | omega) (hd : A8 n dst = true := by rfl) : Ds P f R B n K ops l (C3 dst (.binOp .sub t x y t') ty) σ Γ Ms := Ay (C3m hx hy h ha) hd k_
theorem A4o {s d : TypeId} {a : Nat} (k_ : D9 P f R B n K ops l (Ai σ dst (.int .u32 (a : Int))) Γ Ms) (hx : ev σ x = .int .u64 (a : Int) := by exact A4) (ha : a < 4294967296 := by first | assumption | omega) (hs : Tab.und P s = some (.int .u64) := by rfl) (hd' : Tab.und P d = some (.int .u32) := by rfl) (hd : A8 n dst = true := by rfl) : Ds P f R B n K ops l (C3 dst (.convert s d x) ty) σ Γ Ms := Ay (B4b hs hd' hx ha) hd k_
theorem A4n {s d : TypeId} {a : Nat} (k_ : D9 P f R B n K ops l (Ai σ dst (.int .i64 (a : Int))) Γ Ms) (hx : ev σ x = .int .u32 (a : Int) := by exact A4) (ha : a < 4294967296 := by first | assumption | omega) (hs : Tab.und P s = some (.int .u32) := by rfl) (hd' : Tab.und P d = some (.int .i64) := by rfl) (hd : A8 n dst = true := by rfl) : Ds P f R B n K ops l (C3 dst (.convert s d x) ty) σ Γ Ms := Ay (B3w hs hd' hx ha) hd k_
theorem B9n {s d : TypeId} {a : Nat} (k_ : D9 P f R B n K ops l (Ai σ dst (.int .u32 (a : Int))) Γ Ms) (hx : ev σ x = .int .i64 (a : Int) := by exact A4) (ha : a < 4294967296 := by first | assumption | omega) (hs : Tab.und P s = some (.int .i64) := by rfl) (hd' : Tab.und P d = some (.int .u32) := by rfl) (hd : A8 n dst = true := by rfl) : Ds P f R B n K ops l (C3 dst (.convert s d x) ty) σ Γ Ms := Ay (B3y hs hd' hx ha) hd k_
theorem Nr {s d : TypeId} {a : Int} {m : Nat} (k_ : D9 P f R B n K ops l (Ai σ dst (.int .u64 (m : Int))) Γ Ms) (hx : ev σ x = .int .i64 a := by exact A4) (ha : a = (m : Int) := by first | assumption | omega) (hm : m < 18446744073709551616 := by omega) (hs : Tab.und P s = some (.int .i64) := by rfl) (hd' : Tab.und P d = some (.int .u64) := by rfl) (hd : A8 n dst = true := by rfl) : Ds P f R B n K ops l (C3 dst (.convert s d x) ty) σ Γ Ms := Ay (B3z hs hd' hx ha hm) hd k_
theorem B9i {t : TypeId} {d : TypeDesc} {bk o i' : Nat} {a : SH} {ls : List Int} (k_ : D9 P f R B n K ops l (Ai σ dst (.int .i64 (ls.getD i' 0))) Γ Ms) (hx : ev σ x = .pointer (some ⟨bk, o + i' * 1, none⟩) := by exact A4) (hFa : IL ls a ∈ Γ ∧ a.1 = some ⟨bk, o, none⟩ := by exact ma0_) (hu : Tab.und P t = some d := by rfl) (hd' : (match d with | .struct _ | .array _ _ => true | _ => false) = false := by rfl) (hlt : i' < ls.length := by omega) (hd : A8 n dst = true := by rfl) : Ds P f R B n K ops l (C3 dst (.load t x) ty) σ Γ Ms := Ha (C9p hx hFa.1 hFa.2 hu hd' hlt) hd k_
theorem B3e {t e : TypeId} {s bt m c k : Nat} {zv : Value} {A : Option Addr} (k_ : NV tn pn P f R B n K ops fin l (Ai σ dst (.slice A k c)) Γ Ms) (hx : ev σ x = .slice A m c := by exact A4) (hy : ev σ y = .int .i64 (k : Int) := by exact A4) (hk : k ≤ c := by omega) (hu : Tab.und P t = some (.slice e) := by rfl) (hi : Tab.inf P e = some (s, bt, zv) := by rfl) (hd : A8 n dst = true := by rfl) : I4 tn pn P f R B n K ops fin i l dst (.slice t x none (some y) none) ty σ Γ Ms := Cy (A7w hu hi hx hy hk) hd k_
theorem B3d {t e : TypeId} {s bt m k : Nat} {zv : Value} {a : SH} (k_ : NV tn pn P f R B n K ops fin l (Ai σ dst (sl (Pw a s k) (m - k))) Γ Ms) (hx : ev σ x = sl a m := by rfl) (hy : ev σ y = .int .i64 (k : Int) := by exact A4) (hk : k ≤ m := by omega) (hu : Tab.und P t = some (.slice e) := by rfl) (hi : Tab.inf P e = some (s, bt, zv) := by rfl) (hd : A8 n dst = true := by rfl) : I4 tn pn P f R B n K ops fin i l dst (.slice t x (some y) none none) ty σ Γ Ms := Cy (A7v hu hi hx hy hk) hd k_
theorem B9g {t t' : TypeId} {a b : Nat} (k_ : D9 P f R B n K ops l (Ai σ dst (.bool (decide (a < b)))) Γ Ms) (hx : ev σ x = .int .u32 (a : Int) := by exact A4) (hy : ev σ y = .int .u32 (b : Int) := by exact A4) (hd : A8 n dst = true := by rfl) : Ds P f R B n K ops l (C3 dst (.binOp .lss t x y t') ty) σ Γ Ms := Ay (A0w A2 (A7y hx hy)) hd k_
theorem B9l {t t' : TypeId} {a b : Nat} (k_ : D9 P f R B n K ops l (Ai σ dst (.bool (decide (a = b)))) Γ Ms) (hx : ev σ x = .int .u32 (a : Int) := by exact A4) (hy : ev σ y = .int .u32 (b : Int) := by exact A4) (hd : A8 n dst = true := by rfl) : Ds P f R B n K ops l (C3 dst (.binOp .eql t x y t') ty) σ Γ Ms := Ay (A0w A2 (A0o hx hy)) hd k_
theorem D3h {t t' : TypeId} {a b : Nat} (k_ : D9 P f R B n K ops l (Ai σ dst (.bool (decide (a ≠ b)))) Γ Ms) (hx : ev σ x = .int .u32 (a : Int) := by exact A4) (hy : ev σ y = .int .u32 (b : Int) := by exact A4) (hd : A8 n dst = true := by rfl) : Ds P f R B n K ops l (C3 dst (.binOp .neq t x y t') ty) σ Γ Ms := Ay (A0w A2 (A7x hx hy)) hd k_
theorem C7k {t e T' : TypeId} {ts : Array TypeId} {sz bt n' m c b : Nat} {zv : Value} {a : SH} {xs cs : List Value} (k_ : ∀ a' : SH, NV tn pn P f R B n K ops fin l (Ai σ dst (sl a' (n' + m))) Γ (Am sz e a' (n' + m) (xs ++ cs) :: Aa b cs T' :: Ms2)) (hm : Ms.Perm (Am sz e a n' xs :: Aa b cs T' :: Ms2) := by first | exact Tc | exact Ao | exact Bi | exact Dk | exact Ez | exact Ic | exact K0) (hx : ev σ x = sl a n' := by rfl) (hy : ev σ y = .slice (some ⟨b, 0, none⟩) m c := by exact A4) (hts : ts = #[t, t] := by rfl) (hu : Tab.und P t = some (.slice e) := by rfl) (hi : Tab.inf P e = some (sz, bt, zv) := by rfl) (hzs : zv.cells.size = sz := by rfl) (hsz : 0 < sz := by exact Nat.le_of_ble_eq_true rfl) (hl : cs.length = m * sz := by rfl) (h1 : Hw cs = true := by rfl) (hb : (n' + m) * bt ≤ 140737488355328 := by first | omega | (unfold reach at *; omega) | (unfold reach Er at *; omega)) (hnm : n' + m ≤ 9223372036854775807 := by first | omega | (unfold reach at *; omega) | (unfold reach Er at *; omega)) (hd : A8 n dst = true := by rfl) : I4 tn pn P f R B n K ops fin i l dst (.call { callee := .builtin .append, args := #[x, y], argTypes := ts }) ty σ Γ Ms := B1n (r := [Am sz e a n' xs, Aa b cs T']) (r' := fun a' => [Am sz e a' (n' + m) (xs ++ cs), Aa b cs T']) (fun M => B0k (List.Perm.refl _) hx hy hts hu hi hzs hsz hl h1 hb hnm) rfl hd hm k_
theorem B0m {t e : TypeId} {ts : Array TypeId} {bt n' : Nat} {zv : Value} {a b : SH} {xs : List Value} {ls : List Cl} (k_ : ∀ a' : SH, NV tn pn P f R B n K ops fin l (Ai σ dst (sl a' (n' + ls.length))) Γ (Am 2 e a' (n' + ls.length) (xs ++ A6 ls) :: Ms2)) (hF : CL ls b ∈ Γ) (hm : Ms.Perm (Am 2 e a n' xs :: Ms2) := by first | exact Tc | exact Ao | exact Bi | exact Dk | exact Ez | exact Ic | exact K0) (hx : ev σ x = sl a n' := by rfl) (hy : ev σ y = sl b ls.length := by rfl) (hts : ts = #[t, t] := by rfl) (hu : Tab.und P t = some (.slice e) := by rfl) (hi : Tab.inf P e = some (2, bt, zv) := by rfl) (hzs : zv.cells.size = 2 := by rfl) (hb : (n' + ls.length) * bt ≤ 140737488355328 := by first | omega | (unfold reach at *; omega) | (unfold reach Er at *; omega)) (hnm : n' + ls.length ≤ 9223372036854775807 := by first | omega | (unfold reach at *; omega) | (unfold reach Er at *; omega)) (hd : A8 n dst = true := by rfl) : I4 tn pn P f R B n K ops fin i l dst (.call { callee := .builtin .append, args := #[x, y], argTypes := ts }) ty σ Γ Ms := B1n (r := [Am 2 e a n' xs]) (r' := fun a' => [Am 2 e a' (n' + ls.length) (xs ++ A6 ls)]) (fun M => A3e (List.Perm.refl _) hF hx hy hts hu hi hzs hb hnm) rfl hd hm k_
end
section
variable {tn : Bool} {pn : Nat} {P : Program} [Tab P] {f : FuncId} {R : Ending → World → Prop} {B : C2} {n : Fz} {K : List Item} {ops : Array Oper} {i : Nat} {l fin : List Nat} {σ : Nat → Value} {Γ : List Fact} {Ms Ms2 : List B2}
variable {dst : Option Tmp} {op : Op} {ty : TypeId} {pos : String} {after : Array Edge} {v : Value} {x y z : Operand}
theorem D3l {t : TypeId} {d : TypeDesc} {bk k : Nat} {cs : List Value} (k_ : D9 P f R B n K ops l (Ai σ dst v) Γ Ms) (hx : ev σ x = .pointer (some ⟨bk, k, none⟩) := by exact A4) (hF : At bk 0 cs ∈ Γ := by repeat (first | exact List.mem_cons_self | apply List.mem_cons_of_mem)) (hu : Tab.und P t = some d := by rfl) (hd' : (match d with | .struct _ | .array _ _ => true | _ => false) = false := by rfl) (hk : cs[k]? = some v := by exact A4) (hd : A8 n dst = true := by rfl) : Ds P f R B n K ops l (C3 dst (.load t x) ty) σ Γ Ms := Ha (C0i (o := 0) (by rw [Nat.zero_add]; exact hx) hF hu hd' hk) hd k_
theorem Lr {t : TypeId} {d : TypeDesc} {bk k : Nat} {cs : List Value} (k_ : NV tn pn P f R B n K ops fin l (Ai σ dst v) Γ Ms) (hx : ev σ x = .pointer (some ⟨bk, k, none⟩) := by exact A4) (hF : At bk 0 cs ∈ Γ := by repeat (first | exact List.mem_cons_self | apply List.mem_cons_of_mem)) (hu : Tab.und P t = some d := by rfl) (hd' : (match d with | .struct _ | .array _ _ => true | _ => false) = false := by rfl) (hk : cs[k]? = some v := by exact A4) (hd : A8 n dst = true := by rfl) : I4 tn pn P f R B n K ops fin i l dst (.load t x) ty σ Γ Ms := Ve (C0i (o := 0) (by rw [Nat.zero_add]; exact hx) hF hu hd' hk) rfl hd k_
theorem C8s {t : TypeId} {l' : List (Nat × Nat)} {s bt bk k : Nat} {zv : Value} {cs cs' : List Value} (k_ : D9 P f R B n K ops l (Ai σ dst (.agg cs'.toArray)) Γ Ms) (hx : ev σ x = .pointer (some ⟨bk, k, none⟩) := by exact A4) (hF : At bk 0 cs ∈ Γ := by repeat (first | exact List.mem_cons_self | apply List.mem_cons_of_mem)) (hu : Tab.lay P t = some l' := by rfl) (hi : Tab.inf P t = some (s, bt, zv) := by rfl) (hk : (cs.drop k).take s = cs' := by rfl) (hl : cs'.length = s := by rfl) (hd : A8 n dst = true := by rfl) : Ds P f R B n K ops l (C3 dst (.load t x) ty) σ Γ Ms := Ha (C9r (o := 0) (by rw [Nat.zero_add]; exact hx) hF hu hi hk hl) hd k_
end
section
variable {α : Type}
def Ww (E : α → Fact) (l : List α) : Fact := ⟨fun ok w => ∀ x, x ∈ l → (E x).f ok w, fun _ _ _ hs h x hx => (E x).mono _ _ _ hs (h x hx), fun _ _ _ h hs x hx => (E x).loc _ _ _ (h x hx) hs⟩
def A6n (sz bt : Nat) (F : α → List Value) (E : α → Fact) (d : α) (l : List α) (a : SH) : Fact := ⟨fun ok w => rowAt ok sz bt l.length a (fun i => F (l.getD i d)) w ∧ ∀ x, x ∈ l → (E x).f ok w,
 fun _ _ _ hs h => ⟨h.1.mono hs, fun x hx => (E x).mono _ _ _ hs (h.2 x hx)⟩, fun _ _ _ h hs => ⟨h.1.loc hs, fun x hx => (E x).loc _ _ _ (h.2 x hx) hs⟩⟩
variable {B : C2} {Γ : List Fact} {Ms : List B2} {w : World} {E : α → Fact} {F : α → List Value} {sz bt n : Nat} {d : α} {l : List α} {a : SH}
theorem St.Sx (E : α → Fact) (hs : St B Γ Ms w) : St B (Ww E [] :: Γ) Ms w := hs.add (fun x hx => by cases hx)
theorem St.Q3 {x : α} (hs : St B Γ Ms w) (h1 : Ww E l ∈ Γ) (h2 : E x ∈ Γ) : St B (Ww E (l ++ [x]) :: Γ) Ms w := by
 refine hs.add (fun y hy => ?_)
 rcases List.mem_append.mp hy with hy | hy
 ·exact hs.facts _ h1 y hy
 ·rw [List.mem_singleton] at hy; subst hy; exact hs.facts _ h2
theorem St.Jl {e : TypeId} {xs : List Value} (hF : ∀ x, (F x).length = sz) (hs : St B Γ (Am sz e a n xs :: Ms) w) {hBp : Prop} (hB : hBp) (hA : Ww E l ∈ Γ) (hx : xs = l.flatMap F) (hn : n = l.length) (hb : n * bt ≤ reach) : St B (A6n sz bt F E d l a :: Γ) Ms w := by
 subst hx
 have hrow := hs.Oe (F := ⟨fun ok w => rowAt ok sz bt n a (fun i => F (l.getD i d)) w, fun _ _ _ hs h => h.mono hs, fun _ _ _ h hs => h.loc hs⟩) hB (fun ok hok hh => Lf (F := F) hF d (hh : World.ownsRow _ _ _ _ _ _ _) hn hb hok)
 have hr2 := hrow.facts _ List.mem_cons_self
 have h3 := hrow.facts _ (List.mem_cons_of_mem _ hA)
 exact hs.drop.add ⟨hn ▸ hr2, h3⟩
theorem St.C3t (hs : St B Γ Ms w) (hF : A6n sz bt F E d l a ∈ Γ) : l.length * bt ≤ reach ∧ (0 < l.length → ∃ b o, a.1 = some ⟨b, o, Option.none⟩) := by
 obtain ⟨h2, _⟩ := hs.facts _ hF
 exact ⟨h2.2.1, fun hn => by obtain ⟨b, o, h3, _⟩ := h2.2.2 hn; exact ⟨b, o, h3⟩⟩
theorem St.C3c {i : Nat} (hs : St B Γ Ms w) (hF : A6n sz bt F E d l a ∈ Γ) (hi : i < l.length) : St B (E (l.getD i d) :: Γ) Ms w := hs.add ((hs.facts _ hF).2 _ (A9 hi))
end
section
variable {α : Type} {P : Program} {f : FuncId} {R : Ending → World → Prop} {B : C2} {n : Fz} {todo : List Item} {σ : Nat → Value} {Γ : List Fact} {Ms : List B2} {E : α → Fact} {F : α → List Value} {sz bt : Nat} {d : α} {l : List α} {a : SH}
theorem Dh (hF : A6n sz bt F E d l a ∈ Γ) (k : l.length * bt ≤ reach → (0 < l.length → ∃ b o, a.1 = some ⟨b, o, none⟩) → Dx P f R B n todo σ Γ Ms) : Dx P f R B n todo σ Γ Ms := C8 (p := l.length * bt ≤ reach ∧ (0 < l.length → ∃ b o, a.1 = some ⟨b, o, none⟩)) (fun w hs => hs.C3t hF) (fun h => k h.1 h.2)
theorem G5 (hF : A6n sz bt F E d l a ∈ Γ) (i : Nat) (hi : i < l.length) (k : Dx P f R B n todo σ (E (l.getD i d) :: Γ) Ms) : Dx P f R B n todo σ Γ Ms := A1 (fun w hs => hs.C3c hF hi) k
variable [Tab P] {x y : Operand} {v : Value} {ty : TypeId}
theorem C4i {t : TypeId} {d' : TypeDesc} {bk o i k : Nat} (hx : ev σ x = .pointer (some ⟨bk, o + i * sz + k, none⟩)) (hF : A6n sz bt F E d l a ∈ Γ) (ha : a.1 = some ⟨bk, o, none⟩) (hu : Tab.und P t = some d') (hd : (match d' with | .struct _ | .array _ _ => true | _ => false) = false) (hk : (F (l.getD i d))[k]? = some v) (hlt : i < l.length) :
  Jf P B σ Γ Ms (.load t x) ty v := fun w hs => by
 have h3 := (Ii (hs.facts _ hF).1 ha hlt).2 k v hk
 simp [C3, execOp, hx, Instr.loadAt, Instr.sureAddr, Dz hu hd h3]
theorem B1w {t : TypeId} {d' : TypeDesc} {bk o i : Nat} (hx : ev σ x = .pointer (some ⟨bk, o + i * 1, none⟩)) (hF : A6n 1 bt F E d l a ∈ Γ) (ha : a.1 = some ⟨bk, o, none⟩) (hu : Tab.und P t = some d') (hd : (match d' with | .struct _ | .array _ _ => true | _ => false) = false) (hk : (F (l.getD i d))[0]? = some v) (hlt : i < l.length) :
  Jf P B σ Γ Ms (.load t x) ty v := C4i (k := 0) hx hF ha hu hd hk hlt
end
abbrev QP := TP × Int × Int
def qE (q : QP) : Fact := RT q.1.1 q.1.2.1 q.1.2.2.1 q.1.2.2.2
abbrev IP := List Int × SH
def ipE (p : IP) : Fact := IL p.1 p.2
abbrev CP := List Cl × SH
def Be (p : CP) : List Value := [sl p.2 p.1.length]
abbrev K6 (l : List CP) : List Value := l.flatMap Be
def Bv : CP := ([], (none, 0))
abbrev J6 (p : CP) : Fact := CL p.1 p.2
abbrev Ir (l : List CP) (a : SH) : Fact := A6n 1 24 Be J6 Bv l a
section
variable {B : C2} {Γ : List Fact} {Ms : List B2} {w : World}
theorem St.A6z {e : TypeId} {a : SH} {n : Nat} {l : List CP} {q : CP} {cs : List Value} (hc : cs = Be q) (hs : St B Γ (Am 1 e a n (K6 l ++ cs) :: Ms) w) : St B Γ (Am 1 e a n (K6 (l ++ [q])) :: Ms) w := by
 subst hc
 have h : K6 (l ++ [q]) = K6 l ++ Be q := by simp [K6]
 rw [h]; exact hs
theorem St.C6i {e : TypeId} {b : Nat} {l : List Cl} {a : SH} (hs : St B Γ (Aa b [sl a l.length] e :: Ms) w) {hBp : Prop} (hB : hBp) (hF : CL l a ∈ Γ) : St B (Ir [(l, a)] (some ⟨b, 0, Option.none⟩, 1) :: Γ) Ms w :=
 ((((hs.He (sz := 1) (m := 1) rfl Jk).Sx J6).Q3 (x := (l, a)) List.mem_cons_self (List.mem_cons_of_mem _ hF)).Jl (F := Be) (E := J6) (d := Bv) (bt := 24) (l := [(l, a)]) (fun _ => rfl) hB List.mem_cons_self rfl rfl Jk).less sx_
end
section
variable {P : Program} [Tab P] {B : C2} {σ : Nat → Value} {Γ : List Fact} {Ms Ms2 : List B2} {ty : TypeId} {x y z : Operand} {v : Value}
end
section
variable {P : Program} [Tab P] {f : FuncId} {fn : Func} {B : C2} {n : Fz} {K : List Item} {σ : Nat → Value} {Γ : List Fact} {Ms : List B2} {X : Type} {val : X → Value} {N : X → List Fact} {Ms1 : X → List B2}
theorem E4 {r t T : Nat} {r2 : Tmp} {b s bt : Nat} {zv v2 : Value} {lay : List (Nat × Nat)} {cs : List Value} (hf : P.funcs[f]? = some fn) (hr : fn.results = #[.cell r t, .tmp r2]) (x : X) (hb : σ r = .pointer (some ⟨b, 0, none⟩)) (hm : Aa b cs T ∈ Ms) (hl : Tab.lay P t = some lay) (hi : Tab.inf P t = some (s, bt, zv)) (hcs : cs.length = s) (h2 : σ r2 = v2) (hv : Value.tuple #[.agg cs.toArray, v2] = val x) (hs : ∀ w, St B Γ Ms w → St B (N x) (Ms1 x) w) (hD : n.defs = [] := by rfl) (hK : okK n.kind := by first | exact .inl rfl | exact .inr rfl) : Dx P f (Ends B val N Ms1) B n (.code .ret :: K) σ Γ Ms :=
 go_ret hf (fun a w ha h => by
  have h1 := ha.get r
  rw [hb] at h1
  have h3 := ha.get r2
  rw [h2] at h3
  have h4 := Dj (P := P) (bk := b) (off := 0) (w := w) hl hi hcs (fun j v hj => by rw [Nat.zero_add]; exact K7 h hm j v hj)
  have h1' : (a.tmps[r]?.getD undef) = .pointer (some ⟨b, 0, none⟩) := by simpa [Array.getD_eq_getD_getElem?] using h1
  have h3' : (a.tmps[r2]?.getD undef) = v2 := by simpa [Array.getD_eq_getD_getElem?] using h3
  simp [results, hr, asAddr, h1', h4, h3', ← hv]) (fun w h => ⟨x, rfl, hs w h⟩) hD hK
theorem St.Jv {w : World} (hs : St B Γ Ms w) : St B (RT t0 (Option.none, 0) (Option.none, 0) (Option.none, 0) :: Γ) Ms w :=
 ((((hs.Mp 0).Vg 0).B1p 0).A8j (k := 0) (n := 0) (nm := ⟨#[]⟩) (r := []) (ks := []) (ss := []) (vr := (Option.none, 0)) (vk := (Option.none, 0)) (vs := (Option.none, 0)) (by unfold Ap; omega) (by unfold Ap; omega) (Nat.zero_le _) D7 D7 D7).less (by simp +contextual [t0])
end
section
variable {tn : Bool} {pn : Nat} {P : Program} [Tab P] {f : FuncId} {R : Ending → World → Prop} {B : C2} {n : Fz} {K : List Item} {ops : Array Oper} {i : Nat} {l fin : List Nat} {σ : Nat → Value} {Γ : List Fact} {Ms Ms2 : List B2}
variable {dst : Option Tmp} {op : Op} {ty : TypeId} {pos : String} {after : Array Edge} {v : Value} {x y z : Operand}
theorem C8t {t : TypeId} {d : TypeDesc} {bk o i' : Nat} {a : SH} {ls : List CP} (k_ : D9 P f R B n K ops l (Ai σ dst v) Γ Ms) (hx : ev σ x = .pointer (some ⟨bk, o + i' * 1, none⟩) := by exact A4) (hFa : Ir ls a ∈ Γ ∧ a.1 = some ⟨bk, o, none⟩ := by exact ma0_) (hu : Tab.und P t = some d := by rfl) (hd' : (match d with | .struct _ | .array _ _ => true | _ => false) = false := by rfl) (hk : (Be (ls.getD i' Bv))[0]? = some v := by exact A4) (hlt : i' < ls.length := by first | omega | (simp only [List.length_map, List.length_set]; omega) | (simp; omega)) (hd : A8 n dst = true := by rfl) : Ds P f R B n K ops l (C3 dst (.load t x) ty) σ Γ Ms := Ha (B1w hx hFa.1 hFa.2 hu hd' hk hlt) hd k_
theorem Sq {t : TypeId} {d : TypeDesc} {bk o i' : Nat} {a : SH} {ls : List CP} (k_ : NV tn pn P f R B n K ops fin l (Ai σ dst v) Γ Ms) (hx : ev σ x = .pointer (some ⟨bk, o + i' * 1, none⟩) := by exact A4) (hFa : Ir ls a ∈ Γ ∧ a.1 = some ⟨bk, o, none⟩ := by exact ma0_) (hu : Tab.und P t = some d := by rfl) (hd' : (match d with | .struct _ | .array _ _ => true | _ => false) = false := by rfl) (hk : (Be (ls.getD i' Bv))[0]? = some v := by exact A4) (hlt : i' < ls.length := by first | omega | (simp only [List.length_map, List.length_set]; omega) | (simp; omega)) (hd : A8 n dst = true := by rfl) : I4 tn pn P f R B n K ops fin i l dst (.load t x) ty σ Γ Ms := Ve (B1w hx hFa.1 hFa.2 hu hd' hk hlt) rfl hd k_
end
section
variable {tn : Bool} {pn : Nat} {P : Program} [Tab P] {f : FuncId} {R : Ending → World → Prop} {B : C2} {n : Fz} {K : List Item} {ops : Array Oper} {i : Nat} {l fin : List Nat} {σ : Nat → Value} {Γ : List Fact} {Ms Ms2 : List B2}
variable {dst : Option Tmp} {op : Op} {ty : TypeId} {pos : String} {after : Array Edge} {v : Value} {x y z : Operand}
theorem B7c {t t' : TypeId} {k : IntKind} {a b : Int} (k_ : NV tn pn P f R B n K ops fin l (Ai σ dst (.bool true)) Γ Ms) (hx : ev σ x = .int k a := by exact A4) (hy : ev σ y = .int k b := by exact A4) (hp : a = b := by first | omega | (simp; done)) (hd : A8 n dst = true := by rfl) : I4 tn pn P f R B n K ops fin i l dst (.binOp .eql t x y t') ty σ Γ Ms := Cy (show Bx P σ (.binOp .eql t x y t') ty (.bool true) from (decide_eq_true hp : decide (a = b) = true) ▸ A0o hx hy) hd k_
theorem D6r {t T' : TypeId} {b s bt : Nat} {zv : Value} {cs cs' : List Value} (k_ : NV tn pn P f R B n K ops fin l σ Γ (Aa b cs' T' :: Ms2)) (hx : ev σ x = .pointer (some ⟨b, 0, none⟩) := by exact A4) (hm : Ms.Perm (Aa b cs T' :: Ms2) := by first | exact Tc | exact Ao | exact Bi | exact Dk | exact Ez | exact Ic | exact K0 | exact Kf | exact Le) (hy : (ev σ y).cells = cs'.toArray := by rfl) (hi : Tab.inf P t = some (s, bt, zv) := by rfl) (hl : cs'.length = s := by rfl) (hl2 : cs.length = s := by rfl) (h1 : Hw cs' = true := by rfl) : I4 tn pn P f R B n K ops fin i l none (.store t x y) ty σ Γ Ms := B9r (r := [Aa b cs T']) (r' := [Aa b cs' T']) (fun M => B7p hx hy (List.Perm.refl _) hi hl hl2 h1) rfl hm k_
end
inductive Aw (α : Type) where
 | ok (a : α)
 | bad (e : Int)
structure Tr (C : Type) where
 own : C → Int → Int → ByteArray → List Cl → Aw (T ⊕ (Int × List Cl))
 B4 : C → List Cl → Aw (Option (List Cl))
 Mz : C → Int × Int → Aw C
section
variable {C : Type} (A : Tr C)
mutual
def D8 : T → C → Aw T
 | .mk k n nm r ks ss, c => match A.own c k n nm r with
  | .bad e => .bad e
  | .ok (.inl u) => .ok u
  | .ok (.inr p) => match Dt k 0 ks c with
   | .bad e => .bad e
   | .ok ks' => match Dd k ss c with
    | .bad e => .bad e
    | .ok ss' => .ok (.mk k p.1 nm p.2 ks' ss')
def Dt (k : Int) : Nat → List T → C → Aw (List T)
 | _, [], _ => .ok []
 | i, t :: ts, c => match A.Mz c (binds k i) with
  | .bad e => .bad e
  | .ok c' => match D8 t c' with
   | .bad e => .bad e
   | .ok t' => match Dt k (i + 1) ts c with
    | .bad e => .bad e
    | .ok ts' => .ok (t' :: ts')
def D4 (k : Int) : List T → C → Aw (List T)
 | [], _ => .ok []
 | t :: ts, c => match A.Mz c (0, more k) with
  | .bad e => .bad e
  | .ok c' => match D8 t c' with
   | .bad e => .bad e
   | .ok t' => match D4 k ts c with
    | .bad e => .bad e
    | .ok ts' => .ok (t' :: ts')
def Dd (k : Int) : List Br → C → Aw (List Br)
 | [], _ => .ok []
 | .mk f ks :: bs, c => match A.B4 c f with
  | .bad e => .bad e
  | .ok none => Dd k bs c
  | .ok (some f') => match D4 k ks c with
   | .bad e => .bad e
   | .ok ks' => match Dd k bs c with
    | .bad e => .bad e
    | .ok bs' => .ok (.mk f' ks' :: bs')
end
variable {A}
def Aw.bind {α β : Type} : Aw α → (α → Aw β) → Aw β
 | .ok a, f => f a
 | .bad e, _ => .bad e
theorem Aw.Ac {α β : Type} {x : Aw α} {f : α → Aw β} {b : β} (h : x.bind f = .ok b) : ∃ a, x = .ok a ∧ f a = .ok b := by
 cases x with
 | ok a => exact ⟨a, rfl, h⟩
 | bad e => cases h
theorem Hs (t : T) (c : C) : D8 A t c = (A.own c t.kind t.n t.name t.r).bind fun o => match o with
  | .inl u => .ok u
  | .inr p => (Dt A t.kind 0 t.kids c).bind fun ks' => (Dd A t.kind t.sys c).bind fun ss' => .ok (.mk t.kind p.1 t.name p.2 ks' ss') := by
 obtain ⟨k, n, nm, r, ks, ss⟩ := t
 rw [D8]
 simp only [T.kind, T.n, T.name, T.r, T.kids, T.sys]
 cases A.own c k n nm r with
 | bad e => rfl
 | ok o =>
  cases o with
  | inl u => rfl
  | inr p =>
   simp only [Aw.bind]
   cases Dt A k 0 ks c with
   | bad e => rfl
   | ok ks' =>
    cases Dd A k ss c <;> rfl
theorem Gm (k : Int) (i : Nat) (c : C) : Dt A k i [] c = .ok [] := by rw [Dt]
theorem Fh (k : Int) (i : Nat) (t : T) (ts : List T) (c : C) : Dt A k i (t :: ts) c = (A.Mz c (binds k i)).bind fun c' => (D8 A t c').bind fun t' => (Dt A k (i + 1) ts c).bind fun ts' => .ok (t' :: ts') := by
 rw [Dt]
 cases A.Mz c (binds k i) with
 | bad e => rfl
 | ok c' =>
  simp only [Aw.bind]
  cases D8 A t c' with
  | bad e => rfl
  | ok t' => simp only; cases Dt A k (i + 1) ts c <;> rfl
theorem Gl (k : Int) (c : C) : D4 A k [] c = .ok [] := by rw [D4]
theorem Fg (k : Int) (t : T) (ts : List T) (c : C) : D4 A k (t :: ts) c = (A.Mz c (0, more k)).bind fun c' => (D8 A t c').bind fun t' => (D4 A k ts c).bind fun ts' => .ok (t' :: ts') := by
 rw [D4]
 cases A.Mz c (0, more k) with
 | bad e => rfl
 | ok c' =>
  simp only [Aw.bind]
  cases D8 A t c' with
  | bad e => rfl
  | ok t' => simp only; cases D4 A k ts c <;> rfl
theorem Fv (k : Int) (c : C) : Dd A k [] c = .ok [] := by rw [Dd]
theorem Em (k : Int) (b : Br) (bs : List Br) (c : C) : Dd A k (b :: bs) c = (A.B4 c b.B4).bind fun f => match f with
  | none => Dd A k bs c
  | some f' => (D4 A k b.kids c).bind fun ks' => (Dd A k bs c).bind fun bs' => .ok (.mk f' ks' :: bs') := by
 obtain ⟨f, ks⟩ := b
 rw [Dd]
 simp only [Br.B4, Br.kids]
 cases A.B4 c f with
 | bad e => rfl
 | ok o =>
  cases o with
  | none => rfl
  | some f' =>
   simp only [Aw.bind]
   cases D4 A k ks c with
   | bad e => rfl
   | ok ks' => simp only; cases Dd A k bs c <;> rfl
theorem Lz (k : Int) (c : C) : ∀ (i : Nat) (l : List T) (t : T), Dt A k i (l ++ [t]) c = (Dt A k i l c).bind fun l' => (A.Mz c (binds k ((i + l.length : Nat) : Int))).bind fun c' => (D8 A t c').bind fun t' => .ok (l' ++ [t'])
 | i, [], t => by
  simp only [List.nil_append, Fh, Gm, Aw.bind, List.length_nil, Nat.add_zero]
 | i, a :: l, t => by
  simp only [List.cons_append, Fh, Lz k c (i + 1) l t, List.length_cons]
  rw [show i + 1 + l.length = i + (l.length + 1) by omega]
  cases A.Mz c (binds k i) with
  | bad e => rfl
  | ok c1 =>
   simp only [Aw.bind]
   cases D8 A a c1 with
   | bad e => rfl
   | ok a' =>
    simp only
    cases Dt A k (i + 1) l c with
    | bad e => rfl
    | ok l' =>
     simp only
     cases A.Mz c (binds k ((i + (l.length + 1) : Nat) : Int)) with
     | bad e => rfl
     | ok c2 => simp only; cases D8 A t c2 <;> rfl
theorem Ly (k : Int) (c : C) : ∀ (l : List T) (t : T), D4 A k (l ++ [t]) c = (D4 A k l c).bind fun l' => (A.Mz c (0, more k)).bind fun c' => (D8 A t c').bind fun t' => .ok (l' ++ [t'])
 | [], t => by simp only [List.nil_append, Fg, Gl, Aw.bind]
 | a :: l, t => by
  simp only [List.cons_append, Fg, Ly k c l t]
  cases A.Mz c (0, more k) with
  | bad e => rfl
  | ok c1 =>
   simp only [Aw.bind]
   cases D8 A a c1 with
   | bad e => rfl
   | ok a' =>
    simp only
    cases D4 A k l c with
    | bad e => rfl
    | ok l' => simp only; cases D8 A t c1 <;> rfl
theorem Jy (k : Int) (c : C) : ∀ (l : List Br) (b : Br), Dd A k (l ++ [b]) c = (Dd A k l c).bind fun l' => (A.B4 c b.B4).bind fun f => match f with
  | none => .ok l'
  | some f' => (D4 A k b.kids c).bind fun ks' => .ok (l' ++ [.mk f' ks'])
 | [], b => by
  simp only [List.nil_append, Em, Fv, Aw.bind]
 | a :: l, b => by
  simp only [List.cons_append, Em, Jy k c l b]
  cases A.B4 c a.B4 with
  | bad e => rfl
  | ok o =>
   cases o with
   | none => rfl
   | some f' =>
    simp only [Aw.bind]
    cases D4 A k a.kids c with
    | bad e => rfl
    | ok ks' =>
     simp only
     cases Dd A k l c with
     | bad e => rfl
     | ok l' =>
      simp only
      cases A.B4 c b.B4 with
      | bad e => rfl
      | ok o2 =>
       cases o2 with
       | none => rfl
       | some f2 => simp only; cases D4 A k b.kids c <;> rfl
theorem S5 {k e : Int} {c : C} : ∀ {l m : List T} {i : Nat}, Dt A k i l c = .bad e → Dt A k i (l ++ m) c = .bad e
 | [], m, i, h => by rw [Gm] at h; cases h
 | a :: l, m, i, h => by
  rw [List.cons_append, Fh]
  rw [Fh] at h
  cases h1 : A.Mz c (binds k i) with
  | bad e' => rw [h1] at h; exact h
  | ok c1 =>
   rw [h1] at h
   simp only [Aw.bind] at h ⊢
   cases h2 : D8 A a c1 with
   | bad e' => rw [h2] at h; exact h
   | ok a' =>
    rw [h2] at h
    simp only at h ⊢
    cases h3 : Dt A k (i + 1) l c with
    | bad e' => rw [h3] at h; rw [S5 h3]; exact h
    | ok l' => rw [h3] at h; cases h
theorem S4 {k e : Int} {c : C} : ∀ {l m : List T}, D4 A k l c = .bad e → D4 A k (l ++ m) c = .bad e
 | [], m, h => by rw [Gl] at h; cases h
 | a :: l, m, h => by
  rw [List.cons_append, Fg]
  rw [Fg] at h
  cases h1 : A.Mz c (0, more k) with
  | bad e' => rw [h1] at h; exact h
  | ok c1 =>
   rw [h1] at h
   simp only [Aw.bind] at h ⊢
   cases h2 : D8 A a c1 with
   | bad e' => rw [h2] at h; exact h
   | ok a' =>
    rw [h2] at h
    simp only at h ⊢
    cases h3 : D4 A k l c with
    | bad e' => rw [h3] at h; rw [S4 h3]; exact h
    | ok l' => rw [h3] at h; cases h
theorem Od {k e : Int} {c : C} : ∀ {l m : List Br}, Dd A k l c = .bad e → Dd A k (l ++ m) c = .bad e
 | [], m, h => by rw [Fv] at h; cases h
 | a :: l, m, h => by
  rw [List.cons_append, Em]
  rw [Em] at h
  cases h1 : A.B4 c a.B4 with
  | bad e' => rw [h1] at h; exact h
  | ok o =>
   rw [h1] at h
   cases o with
   | none => exact Od (l := l) h
   | some f' =>
    simp only [Aw.bind] at h ⊢
    cases h2 : D4 A k a.kids c with
    | bad e' => rw [h2] at h; exact h
    | ok a' =>
     rw [h2] at h
     simp only at h ⊢
     cases h3 : Dd A k l c with
     | bad e' => rw [h3] at h; rw [Od h3]; exact h
     | ok l' => rw [h3] at h; cases h
theorem Oc {k : Int} {c : C} : ∀ {l l' : List T} {i : Nat}, Dt A k i l c = .ok l' → l'.length = l.length
 | [], l', i, h => by rw [Gm] at h; injection h with h; subst h; rfl
 | a :: l, l', i, h => by
  rw [Fh] at h
  obtain ⟨c1, _, h⟩ := Aw.Ac h
  obtain ⟨t', _, h⟩ := Aw.Ac h
  obtain ⟨ts', h3, h⟩ := Aw.Ac h
  injection h with h
  subst h
  simp [Oc h3]
theorem Ob {k : Int} {c : C} : ∀ {l l' : List T}, D4 A k l c = .ok l' → l'.length = l.length
 | [], l', h => by rw [Gl] at h; injection h with h; subst h; rfl
 | a :: l, l', h => by
  rw [Fg] at h
  obtain ⟨c1, _, h⟩ := Aw.Ac h
  obtain ⟨t', _, h⟩ := Aw.Ac h
  obtain ⟨ts', h3, h⟩ := Aw.Ac h
  injection h with h
  subst h
  simp [Ob h3]
theorem Lb {k : Int} {c : C} : ∀ {l l' : List Br}, Dd A k l c = .ok l' → l'.length ≤ l.length
 | [], l', h => by rw [Fv] at h; injection h with h; subst h; simp
 | a :: l, l', h => by
  rw [Em] at h
  obtain ⟨o, _, h⟩ := Aw.Ac h
  cases o with
  | none => have := Lb (l := l) h; simp; omega
  | some f' =>
   obtain ⟨ks', _, h⟩ := Aw.Ac h
   obtain ⟨bs', h3, h⟩ := Aw.Ac h
   injection h with h
   subst h
   have := Lb h3
   simp; omega
end
end Go.Hy
