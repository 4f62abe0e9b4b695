/- Contracts of this program's functions and the laws that they need. -/
import Derived.WideShapes
import Derived.ArgAppend
import Derived.Test.YtibignmpjeemeaaGreatDoorP2
set_option linter.unusedVariables false
set_option linter.unusedSimpArgs false
set_option linter.unusedSectionVars false
namespace Go.Hy
section
variable {tn : Bool} {pn : Nat} {P : Program} [Tab P] {f : FuncId} {R : Ending → World → Prop} {B : Cj} {n : Fz} {K : List Item} {ops : Array Oper} {i : Nat} {l fin : List Nat} {σ : Nat → Value} {Γ : List Fact} {Ms Ms2 : List Be}
variable {dst : Option Tmp} {op : Op} {ty : TypeId} {pos : String} {after : Array Edge} {v : Value} {x y z : Operand}
theorem G4  (k_ : F0 P f R B n K ops l (Ao σ dst v) Γ Ms) (h : ev σ x = v := by exact Aa) (hd : Ag n dst = true := by rfl) : Fq P f R B n K ops l (D0 dst (.move x) ty) σ Γ Ms := Bu (C2f h) hd k_
theorem C8r  (k_ : NV tn pn P f R B n K ops fin l (Ao σ dst v) Γ Ms) (h : ev σ x = v := by exact Aa) (hd : Ag n dst = true := by rfl) : Kx tn pn P f R B n K ops fin i l dst (.move x) ty σ Γ Ms := Dp (C2f h) hd k_
theorem D1g  (k_ : F0 P f R B n K ops l (Ao σ dst v) Γ Ms) (h : ev σ x = v := by exact Aa) (hd : Ag n dst = true := by rfl) : Fq P f R B n K ops l (D0 dst (.assign x) ty) σ Γ Ms := Bu (A7g h) hd k_
theorem C8v  (k_ : NV tn pn P f R B n K ops fin l (Ao σ dst v) Γ Ms) (h : ev σ x = v := by exact Aa) (hd : Ag n dst = true := by rfl) : Kx tn pn P f R B n K ops fin i l dst (.assign x) ty σ Γ Ms := Dp (A7g h) hd k_
theorem C2r  (k_ : F0 P f R B n K ops l (Ao σ dst v) Γ Ms) (hz : ev σ z = .bool true := by rfl) (h : ev σ x = v := by exact Aa) (hd : Ag n dst = true := by rfl) : Fq P f R B n K ops l (D0 dst (.pick z x y) ty) σ Γ Ms := Bu (B4a hz h) hd k_
theorem C1n  (k_ : NV tn pn P f R B n K ops fin l (Ao σ dst v) Γ Ms) (hz : ev σ z = .bool true := by rfl) (h : ev σ x = v := by exact Aa) (hd : Ag n dst = true := by rfl) : Kx tn pn P f R B n K ops fin i l dst (.pick z x y) ty σ Γ Ms := Dp (B4a hz h) hd k_
theorem Td  (k_ : F0 P f R B n K ops l (Ao σ dst v) Γ Ms) (hz : ev σ z = .bool false := by rfl) (h : ev σ y = v := by exact Aa) (hd : Ag n dst = true := by rfl) : Fq P f R B n K ops l (D0 dst (.pick z x y) ty) σ Γ Ms := Bu (B4b hz h) hd k_
theorem C1o  (k_ : NV tn pn P f R B n K ops fin l (Ao σ dst v) Γ Ms) (hz : ev σ z = .bool false := by rfl) (h : ev σ y = v := by exact Aa) (hd : Ag n dst = true := by rfl) : Kx tn pn P f R B n K ops fin i l dst (.pick z x y) ty σ Γ Ms := Dp (B4b hz h) hd k_
theorem E6u {t t' : TypeId} {a b : Int} (k_ : F0 P f R B n K ops l (Ao σ dst (.int .i64 (a + b))) Γ Ms) (hx : ev σ x = .int .i64 a := by exact Aa) (hy : ev σ y = .int .i64 b := by exact Aa) (h : Ap (a + b) := by unfold Ap; first | omega | (unfold Ap at *; omega) | (unfold reach at *; omega) | (unfold H0 at *; omega) | (simp only [Ap, reach, H0] at *; omega)) (hd : Ag n dst = true := by rfl) : Fq P f R B n K ops l (D0 dst (.binOp .add t x y t') ty) σ Γ Ms := Bu (D0p hx hy h) hd k_
theorem E5s {t t' : TypeId} {a b : Int} (k_ : NV tn pn P f R B n K ops fin l (Ao σ dst (.int .i64 (a + b))) Γ Ms) (hx : ev σ x = .int .i64 a := by exact Aa) (hy : ev σ y = .int .i64 b := by exact Aa) (h : Ap (a + b) := by unfold Ap; first | omega | (unfold Ap at *; omega) | (unfold reach at *; omega) | (unfold H0 at *; omega) | (simp only [Ap, reach, H0] at *; omega)) (hd : Ag n dst = true := by rfl) : Kx tn pn P f R B n K ops fin i l dst (.binOp .add t x y t') ty σ Γ Ms := Dp (D0p hx hy h) hd k_
theorem E6l {t t' : TypeId} {a b : Int} (k_ : F0 P f R B n K ops l (Ao σ dst (.int .i64 (a - b))) Γ Ms) (hx : ev σ x = .int .i64 a := by exact Aa) (hy : ev σ y = .int .i64 b := by exact Aa) (h : Ap (a - b) := by unfold Ap; first | omega | (unfold Ap at *; omega) | (unfold reach at *; omega) | (unfold H0 at *; omega) | (simp only [Ap, reach, H0] at *; omega)) (hd : Ag n dst = true := by rfl) : Fq P f R B n K ops l (D0 dst (.binOp .sub t x y t') ty) σ Γ Ms := Bu (D0g hx hy h) hd k_
theorem E5n {t t' : TypeId} {a b : Int} (k_ : NV tn pn P f R B n K ops fin l (Ao σ dst (.int .i64 (a - b))) Γ Ms) (hx : ev σ x = .int .i64 a := by exact Aa) (hy : ev σ y = .int .i64 b := by exact Aa) (h : Ap (a - b) := by unfold Ap; first | omega | (unfold Ap at *; omega) | (unfold reach at *; omega) | (unfold H0 at *; omega) | (simp only [Ap, reach, H0] at *; omega)) (hd : Ag n dst = true := by rfl) : Kx tn pn P f R B n K ops fin i l dst (.binOp .sub t x y t') ty σ Γ Ms := Dp (D0g hx hy h) hd k_
theorem E5o {t t' : TypeId} {a b : Int} (k_ : NV tn pn P f R B n K ops fin l (Ao σ dst (.int .i64 (a * b))) Γ Ms) (hx : ev σ x = .int .i64 a := by exact Aa) (hy : ev σ y = .int .i64 b := by exact Aa) (h : Ap (a * b) := by unfold Ap; first | omega | (unfold Ap at *; omega) | (unfold reach at *; omega) | (unfold H0 at *; omega) | (simp only [Ap, reach, H0] at *; omega)) (hd : Ag n dst = true := by rfl) : Kx tn pn P f R B n K ops fin i l dst (.binOp .mul t x y t') ty σ Γ Ms := Dp (E0m hx hy h) hd k_
theorem D8t {t t' : TypeId} {k : IntKind} {a b : Int} (k_ : F0 P f R B n K ops l (Ao σ dst (.bool (decide (a < b)))) Γ Ms) (hx : ev σ x = .int k a := by exact Aa) (hy : ev σ y = .int k b := by exact Aa) (hd : Ag n dst = true := by rfl) : Fq P f R B n K ops l (D0 dst (.binOp .lss t x y t') ty) σ Γ Ms := Bu (E0p hx hy) hd k_
theorem D8v {t t' : TypeId} {k : IntKind} {a b : Int} (k_ : F0 P f R B n K ops l (Ao σ dst (.bool (decide (a ≤ b)))) Γ Ms) (hx : ev σ x = .int k a := by exact Aa) (hy : ev σ y = .int k b := by exact Aa) (hd : Ag n dst = true := by rfl) : Fq P f R B n K ops l (D0 dst (.binOp .leq t x y t') ty) σ Γ Ms := Bu (E0q hx hy) hd k_
theorem D1e {t t' : TypeId} {k : IntKind} {a b : Int} (k_ : F0 P f R B n K ops l (Ao σ dst (.bool (decide (b < a)))) Γ Ms) (hx : ev σ x = .int k a := by exact Aa) (hy : ev σ y = .int k b := by exact Aa) (hd : Ag n dst = true := by rfl) : Fq P f R B n K ops l (D0 dst (.binOp .gtr t x y t') ty) σ Γ Ms := Bu (D0n hx hy) hd k_
theorem B2w {t t' : TypeId} {k : IntKind} {a b : Int} (k_ : NV tn pn P f R B n K ops fin l (Ao σ dst (.bool (decide (b < a)))) Γ Ms) (hx : ev σ x = .int k a := by exact Aa) (hy : ev σ y = .int k b := by exact Aa) (hd : Ag n dst = true := by rfl) : Kx tn pn P f R B n K ops fin i l dst (.binOp .gtr t x y t') ty σ Γ Ms := Dp (D0n hx hy) hd k_
theorem A7n {t t' : TypeId} {k : IntKind} {a b : Int} (k_ : F0 P f R B n K ops l (Ao σ dst (.bool (decide (b ≤ a)))) Γ Ms) (hx : ev σ x = .int k a := by exact Aa) (hy : ev σ y = .int k b := by exact Aa) (hd : Ag n dst = true := by rfl) : Fq P f R B n K ops l (D0 dst (.binOp .geq t x y t') ty) σ Γ Ms := Bu (E0r hx hy) hd k_
theorem Ze {t t' : TypeId} {k : IntKind} {a b : Int} (k_ : F0 P f R B n K ops l (Ao σ dst (.bool (decide (a = b)))) Γ Ms) (hx : ev σ x = .int k a := by exact Aa) (hy : ev σ y = .int k b := by exact Aa) (hd : Ag n dst = true := by rfl) : Fq P f R B n K ops l (D0 dst (.binOp .eql t x y t') ty) σ Γ Ms := Bu (B9b hx hy) hd k_
theorem C1q {t t' : TypeId} {k : IntKind} {a b : Int} (k_ : NV tn pn P f R B n K ops fin l (Ao σ dst (.bool (decide (a = b)))) Γ Ms) (hx : ev σ x = .int k a := by exact Aa) (hy : ev σ y = .int k b := by exact Aa) (hd : Ag n dst = true := by rfl) : Kx tn pn P f R B n K ops fin i l dst (.binOp .eql t x y t') ty σ Γ Ms := Dp (B9b hx hy) hd k_
theorem B4u {t t' : TypeId} {k : IntKind} {a b : Int} (k_ : F0 P f R B n K ops l (Ao σ dst (.bool (decide (a ≠ b)))) Γ Ms) (hx : ev σ x = .int k a := by exact Aa) (hy : ev σ y = .int k b := by exact Aa) (hd : Ag n dst = true := by rfl) : Fq P f R B n K ops l (D0 dst (.binOp .neq t x y t') ty) σ Γ Ms := Bu (D0j hx hy) hd k_
theorem A5y {t t' : TypeId} {k : IntKind} {a b : Int} (k_ : NV tn pn P f R B n K ops fin l (Ao σ dst (.bool (decide (a ≠ b)))) Γ Ms) (hx : ev σ x = .int k a := by exact Aa) (hy : ev σ y = .int k b := by exact Aa) (hd : Ag n dst = true := by rfl) : Kx tn pn P f R B n K ops fin i l dst (.binOp .neq t x y t') ty σ Γ Ms := Dp (D0j hx hy) hd k_
theorem D8s {t t' : TypeId} {s s' : ByteArray} (k_ : F0 P f R B n K ops l (Ao σ dst (.bool (!(s.toList == s'.toList)))) Γ Ms) (hx : ev σ x = .string s := by exact Aa) (hy : ev σ y = .string s' := by exact Aa) (hd : Ag n dst = true := by rfl) : Fq P f R B n K ops l (D0 dst (.binOp .neq t x y t') ty) σ Γ Ms := Bu (D0i hx hy) hd k_
theorem D8h {t t' : TypeId} {s s' : ByteArray} (k_ : NV tn pn P f R B n K ops fin l (Ao σ dst (.bool (!(s.toList == s'.toList)))) Γ Ms) (hx : ev σ x = .string s := by exact Aa) (hy : ev σ y = .string s' := by exact Aa) (hd : Ag n dst = true := by rfl) : Kx tn pn P f R B n K ops fin i l dst (.binOp .neq t x y t') ty σ Γ Ms := Dp (D0i hx hy) hd k_
theorem D8r {t : TypeId} {c : Bool} (k_ : F0 P f R B n K ops l (Ao σ dst (.bool (!c))) Γ Ms) (hx : ev σ x = .bool c := by exact Aa) (hd : Ag n dst = true := by rfl) : Fq P f R B n K ops l (D0 dst (.unOp .not t x) ty) σ Γ Ms := Bu (D0h hx) hd k_
theorem Yz {t : TypeId} {c : Bool} (k_ : NV tn pn P f R B n K ops fin l (Ao σ dst (.bool (!c))) Γ Ms) (hx : ev σ x = .bool c := by exact Aa) (hd : Ag n dst = true := by rfl) : Kx tn pn P f R B n K ops fin i l dst (.unOp .not t x) ty σ Γ Ms := Dp (D0h hx) hd k_
theorem C5w {vs : Array Value} {j : Nat} (k_ : F0 P f R B n K ops l (Ao σ dst v) Γ Ms) (hx : ev σ x = .tuple vs := by exact Aa) (hj : vs[j]? = some v := by exact Aa) (hd : Ag n dst = true := by rfl) : Fq P f R B n K ops l (D0 dst (.extract x j) ty) σ Γ Ms := Bu (A1s hx hj) hd k_
theorem C4o {vs : Array Value} {j : Nat} (k_ : NV tn pn P f R B n K ops fin l (Ao σ dst v) Γ Ms) (hx : ev σ x = .tuple vs := by exact Aa) (hj : vs[j]? = some v := by exact Aa) (hd : Ag n dst = true := by rfl) : Kx tn pn P f R B n K ops fin i l dst (.extract x j) ty σ Γ Ms := Dp (A1s hx hj) hd k_
theorem B9k {fn : Fn} {cap : Array Operand} {vs : List Value} (k_ : F0 P f R B n K ops l (Ao σ dst (.func fn #[] vs.toArray)) Γ Ms) (h : cap.toList.map (ev σ) = vs := by first | exact F0h (by first | ((conv => lhs; whnf); done) | rfl) | exact F0g (by first | ((conv => lhs; whnf); done) | rfl) (by first | ((conv => lhs; whnf); done) | rfl) | exact F0f (by first | ((conv => lhs; whnf); done) | rfl) (by first | ((conv => lhs; whnf); done) | rfl) (by first | ((conv => lhs; whnf); done) | rfl) | exact F0e (by first | ((conv => lhs; whnf); done) | rfl) (by first | ((conv => lhs; whnf); done) | rfl) (by first | ((conv => lhs; whnf); done) | rfl) (by first | ((conv => lhs; whnf); done) | rfl) | rfl) (hd : Ag n dst = true := by rfl) : Fq P f R B n K ops l (D0 dst (.makeFunc fn #[] cap) ty) σ Γ Ms := Bu (B4d h) hd k_
theorem B4v {ts : Array TypeId} {t e : TypeId} {A : Option Addr} {m c : Nat} (k_ : F0 P f R B n K ops l (Ao σ dst (.int .i64 (m : Int))) Γ Ms) (hx : ev σ x = .slice A m c := by exact Aa) (ht : ts[0]? = some t := by rfl) (hu : Tab.und P t = some (.slice e) := by rfl) (hd : Ag n dst = true := by rfl) : Fq P f R B n K ops l (D0 dst (.call { callee := .builtin .len, args := #[x], argTypes := ts }) ty) σ Γ Ms := Bu (C2g ht hu hx) hd k_
theorem A5z {ts : Array TypeId} {t e : TypeId} {A : Option Addr} {m c : Nat} (k_ : NV tn pn P f R B n K ops fin l (Ao σ dst (.int .i64 (m : Int))) Γ Ms) (hx : ev σ x = .slice A m c := by exact Aa) (ht : ts[0]? = some t := by rfl) (hu : Tab.und P t = some (.slice e) := by rfl) (hd : Ag n dst = true := by rfl) : Kx tn pn P f R B n K ops fin i l dst (.call { callee := .builtin .len, args := #[x], argTypes := ts }) ty σ Γ Ms := Dp (C2g ht hu hx) hd k_
theorem A2f {ts : Array TypeId} {t : TypeId} {s : ByteArray} (k_ : F0 P f R B n K ops l (Ao σ dst (.int .i64 (s.size : Int))) Γ Ms) (hx : ev σ x = .string s := by exact Aa) (ht : ts[0]? = some t := by rfl) (hu : Tab.und P t = some .string := by rfl) (hd : Ag n dst = true := by rfl) : Fq P f R B n K ops l (D0 dst (.call { callee := .builtin .len, args := #[x], argTypes := ts }) ty) σ Γ Ms := Bu (C5l ht hu hx) hd k_
theorem E5p {ts : Array TypeId} {a b : Int} (k_ : NV tn pn P f R B n K ops fin l (Ao σ dst (.int .i64 (if b > a then b else a))) Γ Ms) (hx : ev σ x = .int .i64 a := by exact Aa) (hy : ev σ y = .int .i64 b := by exact Aa) (hd : Ag n dst = true := by rfl) : Kx tn pn P f R B n K ops fin i l dst (.call { callee := .builtin .max, args := #[x, y], argTypes := ts }) ty σ Γ Ms := Dp (E0o hx hy) hd k_
theorem E6o {ts : Array TypeId} {a b : Int} (k_ : F0 P f R B n K ops l (Ao σ dst (.int .i64 (if b < a then b else a))) Γ Ms) (hx : ev σ x = .int .i64 a := by exact Aa) (hy : ev σ y = .int .i64 b := by exact Aa) (hd : Ag n dst = true := by rfl) : Fq P f R B n K ops l (D0 dst (.call { callee := .builtin .min, args := #[x, y], argTypes := ts }) ty) σ Γ Ms := Bu (E0n hx hy) hd k_
theorem U2 {t : TypeId} {j bk off o : Nat} (k_ : F0 P f R B n K ops l (Ao σ dst (.pointer (some ⟨bk, off + o, none⟩))) Γ Ms) (hx : ev σ x = .pointer (some ⟨bk, off, none⟩) := by exact Aa) (hf : Tab.foff P t j = some o := by rfl) (hd : Ag n dst = true := by rfl) : Fq P f R B n K ops l (D0 dst (.fieldAddr t x j) ty) σ Γ Ms := Bu (Wg hf hx) hd k_
theorem Tz {t : TypeId} {j bk off o : Nat} (k_ : NV tn pn P f R B n K ops fin l (Ao σ dst (.pointer (some ⟨bk, off + o, none⟩))) Γ Ms) (hx : ev σ x = .pointer (some ⟨bk, off, none⟩) := by exact Aa) (hf : Tab.foff P t j = some o := by rfl) (hd : Ag n dst = true := by rfl) : Kx tn pn P f R B n K ops fin i l dst (.fieldAddr t x j) ty σ Γ Ms := Dp (Wg hf hx) hd k_
theorem B2 {t : TypeId} {s bt : Nat} {zv : Value} {parts : Array (Nat × Operand)} {pv : List (Nat × Value)} {l' : List (Nat × Nat)} {cs : List Value} (k_ : F0 P f R B n K ops l (Ao σ dst (.agg cs.toArray)) Γ Ms) (hl : Tab.lay P t = some l' := by rfl) (hi : Tab.inf P t = some (s, bt, zv) := by rfl) (hp : parts.toList.map (fun (i, x) => (i, ev σ x)) = pv := by first | exact pv0  | exact pv1 (by first | ((conv => lhs; whnf); done) | rfl) | exact pv2 (by first | ((conv => lhs; whnf); done) | rfl) (by first | ((conv => lhs; whnf); done) | rfl) | exact pv3 (by first | ((conv => lhs; whnf); done) | rfl) (by first | ((conv => lhs; whnf); done) | rfl) (by first | ((conv => lhs; whnf); done) | rfl) | exact pv4 (by first | ((conv => lhs; whnf); done) | rfl) (by first | ((conv => lhs; whnf); done) | rfl) (by first | ((conv => lhs; whnf); done) | rfl) (by first | ((conv => lhs; whnf); done) | rfl) | exact pv5 (by first | ((conv => lhs; whnf); done) | rfl) (by first | ((conv => lhs; whnf); done) | rfl) (by first | ((conv => lhs; whnf); done) | rfl) (by first | ((conv => lhs; whnf); done) | rfl) (by first | ((conv => lhs; whnf); done) | rfl) | exact pv6 (by first | ((conv => lhs; whnf); done) | rfl) (by first | ((conv => lhs; whnf); done) | rfl) (by first | ((conv => lhs; whnf); done) | rfl) (by first | ((conv => lhs; whnf); done) | rfl) (by first | ((conv => lhs; whnf); done) | rfl) (by first | ((conv => lhs; whnf); done) | rfl) | rfl) (hb : Instr.fill (l'.toArray[·]?) zv.cells pv = some cs.toArray := by rfl) (hd : Ag n dst = true := by rfl) : Fq P f R B n K ops l (D0 dst (.build t parts) ty) σ Γ Ms := Bu (B4g hl hi hp hb) hd k_
theorem Hd {t : TypeId} {s bt : Nat} {zv : Value} {parts : Array (Nat × Operand)} {pv : List (Nat × Value)} {l' : List (Nat × Nat)} {cs : List Value} (k_ : NV tn pn P f R B n K ops fin l (Ao σ dst (.agg cs.toArray)) Γ Ms) (hl : Tab.lay P t = some l' := by rfl) (hi : Tab.inf P t = some (s, bt, zv) := by rfl) (hp : parts.toList.map (fun (i, x) => (i, ev σ x)) = pv := by first | exact pv0  | exact pv1 (by first | ((conv => lhs; whnf); done) | rfl) | exact pv2 (by first | ((conv => lhs; whnf); done) | rfl) (by first | ((conv => lhs; whnf); done) | rfl) | exact pv3 (by first | ((conv => lhs; whnf); done) | rfl) (by first | ((conv => lhs; whnf); done) | rfl) (by first | ((conv => lhs; whnf); done) | rfl) | exact pv4 (by first | ((conv => lhs; whnf); done) | rfl) (by first | ((conv => lhs; whnf); done) | rfl) (by first | ((conv => lhs; whnf); done) | rfl) (by first | ((conv => lhs; whnf); done) | rfl) | exact pv5 (by first | ((conv => lhs; whnf); done) | rfl) (by first | ((conv => lhs; whnf); done) | rfl) (by first | ((conv => lhs; whnf); done) | rfl) (by first | ((conv => lhs; whnf); done) | rfl) (by first | ((conv => lhs; whnf); done) | rfl) | exact pv6 (by first | ((conv => lhs; whnf); done) | rfl) (by first | ((conv => lhs; whnf); done) | rfl) (by first | ((conv => lhs; whnf); done) | rfl) (by first | ((conv => lhs; whnf); done) | rfl) (by first | ((conv => lhs; whnf); done) | rfl) (by first | ((conv => lhs; whnf); done) | rfl) | rfl) (hb : Instr.fill (l'.toArray[·]?) zv.cells pv = some cs.toArray := by rfl) (hd : Ag n dst = true := by rfl) : Kx tn pn P f R B n K ops fin i l dst (.build t parts) ty σ Γ Ms := Dp (B4g hl hi hp hb) hd k_
theorem Dl {t e : TypeId} {s bt bk o m c j : Nat} {zv : Value} {A : Option Addr} (k_ : F0 P f R B n K ops l (Ao σ dst (.pointer (some ⟨bk, o + j * s, none⟩))) Γ Ms) (hx : ev σ x = .slice A m c := by exact Aa) (hA : A = some ⟨bk, o, none⟩ := by first | assumption | rfl) (hy : ev σ y = .int .i64 (j : Int) := by exact Aa) (hu : Tab.und P t = some (.slice e) := by rfl) (hi : Tab.inf P e = some (s, bt, zv) := by rfl) (h1 : j < m := by omega) (hd : Ag n dst = true := by rfl) : Fq P f R B n K ops l (D0 dst (.indexAddr t x y) ty) σ Γ Ms := Bu (D0m hu hi hx hA hy h1) hd k_
theorem Og {t e : TypeId} {s bt bk o m c j : Nat} {zv : Value} {A : Option Addr} (k_ : NV tn pn P f R B n K ops fin l (Ao σ dst (.pointer (some ⟨bk, o + j * s, none⟩))) Γ Ms) (hx : ev σ x = .slice A m c := by exact Aa) (hA : A = some ⟨bk, o, none⟩ := by first | assumption | rfl) (hy : ev σ y = .int .i64 (j : Int) := by exact Aa) (hu : Tab.und P t = some (.slice e) := by rfl) (hi : Tab.inf P e = some (s, bt, zv) := by rfl) (h1 : j < m := by omega) (hd : Ag n dst = true := by rfl) : Kx tn pn P f R B n K ops fin i l dst (.indexAddr t x y) ty σ Γ Ms := Dp (D0m hu hi hx hA hy h1) hd k_
theorem D6g {t t' e : TypeId} {A : Option Addr} {m c : Nat} (k_ : F0 P f R B n K ops l (Ao σ dst (.bool A.isNone)) Γ Ms) (hx : ev σ x = .slice A m c := by exact Aa) (hy : ev σ y = .slice none 0 0 := by rfl) (hu : Tab.und P t = some (.slice e) := by rfl) (hd : Ag n dst = true := by rfl) : Fq P f R B n K ops l (D0 dst (.binOp .eql t x y t') ty) σ Γ Ms := Bu (B4c hu hx hy) hd k_
theorem E1c {t t' : TypeId} {a b : Int} (k_ : F0 P f R B n K ops l (Ao σ dst (.int .i64 (IntKind.i64.wrap (a + b)))) Γ Ms) (hx : ev σ x = .int .i64 a := by exact Aa) (hy : ev σ y = .int .i64 b := by exact Aa) (hd : Ag n dst = true := by rfl) : Fq P f R B n K ops l (D0 dst (.binOp .add t x y t') ty) σ Γ Ms := Bu (D5w hx hy) hd k_
theorem D1b {t t' : TypeId} {a b : Int} (k_ : F0 P f R B n K ops l (Ao σ dst (.int .i64 (IntKind.i64.wrap (a - b)))) Γ Ms) (hx : ev σ x = .int .i64 a := by exact Aa) (hy : ev σ y = .int .i64 b := by exact Aa) (hd : Ag n dst = true := by rfl) : Fq P f R B n K ops l (D0 dst (.binOp .sub t x y t') ty) σ Γ Ms := Bu (D5s hx hy) hd k_
theorem J9 {t t' : TypeId} {a b : Nat} (k_ : F0 P f R B n K ops l (Ao σ dst (.int .u32 ((a &&& b : Nat) : Int))) Γ Ms) (hx : ev σ x = .int .u32 (a : Int) := by exact Aa) (hy : ev σ y = .int .u32 (b : Int) := by exact Aa) (ha : a < 4294967296 := by first | assumption | omega) (hb : b < 4294967296 := by first | assumption | omega) (hd : Ag n dst = true := by rfl) : Fq P f R B n K ops l (D0 dst (.binOp .and t x y t') ty) σ Γ Ms := Bu (C2h hx hy ha hb) hd k_
theorem A0t {t t' : TypeId} {a b : Nat} (k_ : NV tn pn P f R B n K ops fin l (Ao σ dst (.int .u32 ((a &&& b : Nat) : Int))) Γ Ms) (hx : ev σ x = .int .u32 (a : Int) := by exact Aa) (hy : ev σ y = .int .u32 (b : Int) := by exact Aa) (ha : a < 4294967296 := by first | assumption | omega) (hb : b < 4294967296 := by first | assumption | omega) (hd : Ag n dst = true := by rfl) : Kx tn pn P f R B n K ops fin i l dst (.binOp .and t x y t') ty σ Γ Ms := Dp (C2h hx hy ha hb) hd k_
theorem Ql {t t' : TypeId} {a b : Nat} (k_ : F0 P f R B n K ops l (Ao σ dst (.int .u32 ((a ||| b : Nat) : Int))) Γ Ms) (hx : ev σ x = .int .u32 (a : Int) := by exact Aa) (hy : ev σ y = .int .u32 (b : Int) := by exact Aa) (ha : a < 4294967296 := by first | assumption | omega) (hb : b < 4294967296 := by first | assumption | omega) (hd : Ag n dst = true := by rfl) : Fq P f R B n K ops l (D0 dst (.binOp .or t x y t') ty) σ Γ Ms := Bu (E0l hx hy ha hb) hd k_
theorem Sg {t t' : TypeId} {a b : Nat} (k_ : F0 P f R B n K ops l (Ao σ dst (.int .u32 (Bg a b : Int))) Γ Ms) (hx : ev σ x = .int .u32 (a : Int) := by exact Aa) (hy : ev σ y = .int .u32 (b : Int) := by exact Aa) (hd : Ag n dst = true := by rfl) : Fq P f R B n K ops l (D0 dst (.binOp .andNot t x y t') ty) σ Γ Ms := Bu (B9c hx hy) hd k_
theorem A2e {t t' : TypeId} {k2 : IntKind} {a m : Nat} (k_ : F0 P f R B n K ops l (Ao σ dst (.int .u32 ((a * 2 ^ (min m 32) % 4294967296 : Nat) : Int))) Γ Ms) (hx : ev σ x = .int .u32 (a : Int) := by exact Aa) (hy : ev σ y = .int k2 (m : Int) := by exact Aa) (hd : Ag n dst = true := by rfl) : Fq P f R B n K ops l (D0 dst (.binOp .shl t x y t') ty) σ Γ Ms := Bu (D5u hx hy) hd k_
theorem A2d {t t' : TypeId} {k2 : IntKind} {a m : Nat} (k_ : F0 P f R B n K ops l (Ao σ dst (.int .u32 ((a / 2 ^ (min m 32) : Nat) : Int))) Γ Ms) (hx : ev σ x = .int .u32 (a : Int) := by exact Aa) (hy : ev σ y = .int k2 (m : Int) := by exact Aa) (hd : Ag n dst = true := by rfl) : Fq P f R B n K ops l (D0 dst (.binOp .shr t x y t') ty) σ Γ Ms := Bu (C2e hx hy) hd k_
theorem A0s {t t' : TypeId} {k2 : IntKind} {a m : Nat} (k_ : NV tn pn P f R B n K ops fin l (Ao σ dst (.int .u32 ((a / 2 ^ (min m 32) : Nat) : Int))) Γ Ms) (hx : ev σ x = .int .u32 (a : Int) := by exact Aa) (hy : ev σ y = .int k2 (m : Int) := by exact Aa) (hd : Ag n dst = true := by rfl) : Kx tn pn P f R B n K ops fin i l dst (.binOp .shr t x y t') ty σ Γ Ms := Dp (C2e hx hy) hd k_
theorem E5r {t t' : TypeId} {c c' : Cl} (k_ : NV tn pn P f R B n K ops fin l (Ao σ dst (.bool (decide (c = c')))) Γ Ms) (hx : ev σ x = .agg (Aw c).toArray := by exact Aa) (hy : ev σ y = .agg (Aw c').toArray := by exact Aa) (ht : t = Tab.ceq P := by rfl) (hd : Ag n dst = true := by rfl) : Kx tn pn P f R B n K ops fin i l dst (.binOp .eql t x y t') ty σ Γ Ms := Dp (E0s ht hx hy) hd k_
theorem E6n {t t' : TypeId} {c c' : Cl} (k_ : F0 P f R B n K ops l (Ao σ dst (.bool (!decide (c = c')))) Γ Ms) (hx : ev σ x = .agg (Aw c).toArray := by exact Aa) (hy : ev σ y = .agg (Aw c').toArray := by exact Aa) (ht : t = Tab.ceq P := by rfl) (hd : Ag n dst = true := by rfl) : Fq P f R B n K ops l (D0 dst (.binOp .neq t x y t') ty) σ Γ Ms := Bu (D0k ht hx hy) hd k_
theorem D8i {t t' : TypeId} {c c' : Cl} (k_ : NV tn pn P f R B n K ops fin l (Ao σ dst (.bool (!decide (c = c')))) Γ Ms) (hx : ev σ x = .agg (Aw c).toArray := by exact Aa) (hy : ev σ y = .agg (Aw c').toArray := by exact Aa) (ht : t = Tab.ceq P := by rfl) (hd : Ag n dst = true := by rfl) : Kx tn pn P f R B n K ops fin i l dst (.binOp .neq t x y t') ty σ Γ Ms := Dp (D0k ht hx hy) hd k_
theorem D6f {t : TypeId} {s : ByteArray} {j : Int} {c : UInt8} (k_ : F0 P f R B n K ops l (Ao σ dst (.int .u8 c.toNat)) Γ Ms) (hx : ev σ x = .string s := by exact Aa) (hy : ev σ y = .int .i64 j := by exact Aa) (hu : Tab.und P t = some .string := by rfl) (h0 : 0 ≤ j := by omega) (hc : s[j.toNat]? = some c := by assumption) (hd : Ag n dst = true := by rfl) : Fq P f R B n K ops l (D0 dst (.index t x y) ty) σ Γ Ms := Bu (B4e hu hx hy h0 hc) hd k_
theorem E1b {s d : TypeId} {k k' : IntKind} {ds : TypeDesc} {a : Int} (k_ : F0 P f R B n K ops l (Ao σ dst (.int k' (k'.wrap a))) Γ Ms) (hx : ev σ x = .int k a := by exact Aa) (hs : Tab.und P s = some ds := by rfl) (hd' : Tab.und P d = some (.int k') := by rfl) (hd : Ag n dst = true := by rfl) : Fq P f R B n K ops l (D0 dst (.convert s d x) ty) σ Γ Ms := Bu (Nr hs hd' hx) hd k_
theorem E1a {t T' : TypeId} {bk k : Nat} {cs : List Value} {d : TypeDesc} (k_ : F0 P f R B n K ops l (Ao σ dst v) Γ Ms) (hx : ev σ x = .pointer (some ⟨bk, k, none⟩) := by exact Aa) (hF : Ad bk cs T' ∈ Ms := by repeat (first | exact List.mem_cons_self | apply List.mem_cons_of_mem)) (hu : Tab.und P t = some d := by rfl) (hd' : (match d with | .struct _ | .array _ _ => true | _ => false) = false := by rfl) (hk : cs[k]? = some v := by exact Aa) (hd : Ag n dst = true := by rfl) : Fq P f R B n K ops l (D0 dst (.load t x) ty) σ Γ Ms := Kb (D1z hx hF hu hd' hk) hd k_
theorem E5q {t T' : TypeId} {bk k : Nat} {cs : List Value} {d : TypeDesc} (k_ : NV false pn P f R B n K ops fin l (Ao σ dst v) Γ Ms) (hx : ev σ x = .pointer (some ⟨bk, k, none⟩) := by exact Aa) (hF : Ad bk cs T' ∈ Ms := by repeat (first | exact List.mem_cons_self | apply List.mem_cons_of_mem)) (hu : Tab.und P t = some d := by rfl) (hd' : (match d with | .struct _ | .array _ _ => true | _ => false) = false := by rfl) (hk : cs[k]? = some v := by exact Aa) (hd : Ag n dst = true := by rfl) : Kx false pn P f R B n K ops fin i l dst (.load t x) ty σ Γ Ms := Wk (D1z hx hF hu hd' hk) rfl hd k_
theorem Oo {t T' : TypeId} {bk k : Nat} {cs : List Value} {l' : List (Nat × Nat)} {s bt : Nat} {zv : Value} {cs' : List Value} (k_ : F0 P f R B n K ops l (Ao σ dst (.agg cs'.toArray)) Γ Ms) (hx : ev σ x = .pointer (some ⟨bk, k, none⟩) := by exact Aa) (hF : Ad bk cs T' ∈ Ms := by repeat (first | exact List.mem_cons_self | apply List.mem_cons_of_mem)) (hu : Tab.lay P t = some l' := by rfl) (hi : Tab.inf P t = some (s, bt, zv) := by rfl) (hk : (cs.drop k).take s = cs' := by rfl) (hl : cs'.length = s := by rfl) (hd : Ag n dst = true := by rfl) : Fq P f R B n K ops l (D0 dst (.load t x) ty) σ Γ Ms := Kb (D2a hx hF hu hi hk hl) hd k_
theorem C8s {t T' : TypeId} {bk k : Nat} {cs : List Value} {l' : List (Nat × Nat)} {s bt : Nat} {zv : Value} {cs' : List Value} (k_ : NV false pn P f R B n K ops fin l (Ao σ dst (.agg cs'.toArray)) Γ Ms) (hx : ev σ x = .pointer (some ⟨bk, k, none⟩) := by exact Aa) (hF : Ad bk cs T' ∈ Ms := by repeat (first | exact List.mem_cons_self | apply List.mem_cons_of_mem)) (hu : Tab.lay P t = some l' := by rfl) (hi : Tab.inf P t = some (s, bt, zv) := by rfl) (hk : (cs.drop k).take s = cs' := by rfl) (hl : cs'.length = s := by rfl) (hd : Ag n dst = true := by rfl) : Kx false pn P f R B n K ops fin i l dst (.load t x) ty σ Γ Ms := Wk (D2a hx hF hu hi hk hl) rfl hd k_
theorem E6s {t : TypeId} {l' : List (Nat × Nat)} {bt bk o i' : Nat} {a : SH} {zv : Value} {ls : List Cl} (k_ : F0 P f R B n K ops l (Ao σ dst (.agg (Aw (ls.getD i' Bo)).toArray)) Γ Ms) (hx : ev σ x = .pointer (some ⟨bk, o + i' * 2, none⟩) := by exact Aa) (hFa : CL ls a ∈ Γ ∧ a.1 = some ⟨bk, o, none⟩ := by exact ma0_) (hu : Tab.lay P t = some l' := by rfl) (hi : Tab.inf P t = some (2, bt, zv) := by rfl) (hlt : i' < ls.length := by omega) (hd : Ag n dst = true := by rfl) : Fq P f R B n K ops l (D0 dst (.load t x) ty) σ Γ Ms := Kb (D9b hx hFa.1 hFa.2 hu hi hlt) hd k_
theorem C1p {t : TypeId} {l' : List (Nat × Nat)} {bt bk o i' : Nat} {a : SH} {zv : Value} {ls : List Cl} (k_ : NV false pn P f R B n K ops fin l (Ao σ dst (.agg (Aw (ls.getD i' Bo)).toArray)) Γ Ms) (hx : ev σ x = .pointer (some ⟨bk, o + i' * 2, none⟩) := by exact Aa) (hFa : CL ls a ∈ Γ ∧ a.1 = some ⟨bk, o, none⟩ := by exact ma0_) (hu : Tab.lay P t = some l' := by rfl) (hi : Tab.inf P t = some (2, bt, zv) := by rfl) (hlt : i' < ls.length := by omega) (hd : Ag n dst = true := by rfl) : Kx false pn P f R B n K ops fin i l dst (.load t x) ty σ Γ Ms := Wk (D9b hx hFa.1 hFa.2 hu hi hlt) rfl hd k_
theorem E6q {t : TypeId} {l' : List (Nat × Nat)} {bt bk o i' : Nat} {a : SH} {zv : Value} {ts : List T} {VR VK VS : Nat → SH} (k_ : F0 P f R B n K ops l (Ao σ dst (.agg (tc (ts.getD i' t0) (VR i') (VK i') (VS i')).toArray)) Γ Ms) (hx : ev σ x = .pointer (some ⟨bk, o + i' * 6, none⟩) := by exact Aa) (hFa : TLx ts a VR VK VS ∈ Γ ∧ a.1 = some ⟨bk, o, none⟩ := by exact ma0_) (hu : Tab.lay P t = some l' := by rfl) (hi : Tab.inf P t = some (6, bt, zv) := by rfl) (hlt : i' < ts.length := by omega) (hd : Ag n dst = true := by rfl) : Fq P f R B n K ops l (D0 dst (.load t x) ty) σ Γ Ms := Kb (C3b hx hFa.1 hFa.2 hu hi hlt) hd k_
theorem D8j {t : TypeId} {l' : List (Nat × Nat)} {bt bk o i' : Nat} {a : SH} {zv : Value} {ts : List T} {VR VK VS : Nat → SH} (k_ : NV false pn P f R B n K ops fin l (Ao σ dst (.agg (tc (ts.getD i' t0) (VR i') (VK i') (VS i')).toArray)) Γ Ms) (hx : ev σ x = .pointer (some ⟨bk, o + i' * 6, none⟩) := by exact Aa) (hFa : TLx ts a VR VK VS ∈ Γ ∧ a.1 = some ⟨bk, o, none⟩ := by exact ma0_) (hu : Tab.lay P t = some l' := by rfl) (hi : Tab.inf P t = some (6, bt, zv) := by rfl) (hlt : i' < ts.length := by omega) (hd : Ag n dst = true := by rfl) : Kx false pn P f R B n K ops fin i l dst (.load t x) ty σ Γ Ms := Wk (C3b hx hFa.1 hFa.2 hu hi hlt) rfl hd k_
theorem E6t {t : TypeId} {l' : List (Nat × Nat)} {bt bk o i' : Nat} {a : SH} {zv : Value} {bs : List Br} {VF VK : Nat → SH} (k_ : F0 P f R B n K ops l (Ao σ dst (.agg (bc (bs.getD i' Bj) (VF i') (VK i')).toArray)) Γ Ms) (hx : ev σ x = .pointer (some ⟨bk, o + i' * 2, none⟩) := by exact Aa) (hFa : BLx bs a VF VK ∈ Γ ∧ a.1 = some ⟨bk, o, none⟩ := by exact ma0_) (hu : Tab.lay P t = some l' := by rfl) (hi : Tab.inf P t = some (2, bt, zv) := by rfl) (hlt : i' < bs.length := by omega) (hd : Ag n dst = true := by rfl) : Fq P f R B n K ops l (D0 dst (.load t x) ty) σ Γ Ms := Kb (E7d hx hFa.1 hFa.2 hu hi hlt) hd k_
theorem B0s {t : TypeId} {d : TypeDesc} {bk o i' k : Nat} {a : SH} {bs : List Br} {VF VK : Nat → SH} (k_ : F0 P f R B n K ops l (Ao σ dst v) Γ Ms) (hx : ev σ x = .pointer (some ⟨bk, o + i' * 2 + k, none⟩) := by exact Aa) (hFa : BLx bs a VF VK ∈ Γ ∧ a.1 = some ⟨bk, o, none⟩ := by exact ma0_) (hu : Tab.und P t = some d := by rfl) (hd' : (match d with | .struct _ | .array _ _ => true | _ => false) = false := by rfl) (hk : (bc (bs.getD i' Bj) (VF i') (VK i'))[k]? = some v := by exact Aa) (hlt : i' < bs.length := by omega) (hd : Ag n dst = true := by rfl) : Fq P f R B n K ops l (D0 dst (.load t x) ty) σ Γ Ms := Kb (D1x hx hFa.1 hFa.2 hu hd' hk hlt) hd k_
theorem A9h {t : TypeId} {d : TypeDesc} {bk o i' k : Nat} {a : SH} {bs : List Br} {VF VK : Nat → SH} (k_ : NV false pn P f R B n K ops fin l (Ao σ dst v) Γ Ms) (hx : ev σ x = .pointer (some ⟨bk, o + i' * 2 + k, none⟩) := by exact Aa) (hFa : BLx bs a VF VK ∈ Γ ∧ a.1 = some ⟨bk, o, none⟩ := by exact ma0_) (hu : Tab.und P t = some d := by rfl) (hd' : (match d with | .struct _ | .array _ _ => true | _ => false) = false := by rfl) (hk : (bc (bs.getD i' Bj) (VF i') (VK i'))[k]? = some v := by exact Aa) (hlt : i' < bs.length := by omega) (hd : Ag n dst = true := by rfl) : Kx false pn P f R B n K ops fin i l dst (.load t x) ty σ Γ Ms := Wk (D1x hx hFa.1 hFa.2 hu hd' hk hlt) rfl hd k_
theorem B0 {t : TypeId} {cs : List Value} (k_ : ∀ b, F0 P f R B n K ops l (Ao σ dst ((fun b => .pointer (some ⟨b, 0, none⟩)) b)) Γ (Ad b cs t :: Ms)) (hx : (ev σ x).cells = cs.toArray := by rfl) (hd : Ag n dst = true := by rfl) : Fq P f R B n K ops l (D0 dst (.box t x) ty) σ Γ Ms := Pg (E5d hx) hd k_
theorem B3 {t : TypeId} {s bt : Nat} {zv : Value} {cs : List Value} (k_ : ∀ b, F0 P f R B n K ops l (Ao σ dst ((fun b => .pointer (some ⟨b, 0, none⟩)) b)) Γ (Ad b cs t :: Ms)) (hi : Tab.inf P t = some (s, bt, zv) := by rfl) (hz : zv.cells = cs.toArray := by rfl) (hd : Ag n dst = true := by rfl) : Fq P f R B n K ops l (D0 dst (.alloc t) ty) σ Γ Ms := Pg (B7s hi hz) hd k_
theorem Z0 {t : TypeId} {s bt : Nat} {zv : Value} {cs : List Value} (k_ : ∀ b, NV tn pn P f R B n K ops fin l (Ao σ dst ((fun b => .pointer (some ⟨b, 0, none⟩)) b)) Γ (Ad b cs t :: Ms)) (hi : Tab.inf P t = some (s, bt, zv) := by rfl) (hz : zv.cells = cs.toArray := by rfl) (hd : Ag n dst = true := by rfl) : Kx tn pn P f R B n K ops fin i l dst (.alloc t) ty σ Γ Ms := B4y (B7s hi hz) rfl hd k_
theorem D8u {t e : TypeId} {sz bt len : Nat} {zv : Value} {parts : Array (Nat × Operand)} {pv : List (Nat × Value)} {cs : List Value} (k_ : ∀ b, F0 P f R B n K ops l (Ao σ dst ((fun b => .slice (some ⟨b, 0, none⟩) len len) b)) Γ (Ad b cs e :: Ms)) (hu : Tab.und P t = some (.slice e) := by rfl) (hi : Tab.inf P e = some (sz, bt, zv) := by rfl) (hle : len * sz ≤ 16777216 := by decide) (hp : parts.toList.map (fun (i, x) => (i, ev σ x)) = pv := by first | exact pv0  | exact pv1 (by first | ((conv => lhs; whnf); done) | rfl) | exact pv2 (by first | ((conv => lhs; whnf); done) | rfl) (by first | ((conv => lhs; whnf); done) | rfl) | exact pv3 (by first | ((conv => lhs; whnf); done) | rfl) (by first | ((conv => lhs; whnf); done) | rfl) (by first | ((conv => lhs; whnf); done) | rfl) | exact pv4 (by first | ((conv => lhs; whnf); done) | rfl) (by first | ((conv => lhs; whnf); done) | rfl) (by first | ((conv => lhs; whnf); done) | rfl) (by first | ((conv => lhs; whnf); done) | rfl) | exact pv5 (by first | ((conv => lhs; whnf); done) | rfl) (by first | ((conv => lhs; whnf); done) | rfl) (by first | ((conv => lhs; whnf); done) | rfl) (by first | ((conv => lhs; whnf); done) | rfl) (by first | ((conv => lhs; whnf); done) | rfl) | exact pv6 (by first | ((conv => lhs; whnf); done) | rfl) (by first | ((conv => lhs; whnf); done) | rfl) (by first | ((conv => lhs; whnf); done) | rfl) (by first | ((conv => lhs; whnf); done) | rfl) (by first | ((conv => lhs; whnf); done) | rfl) (by first | ((conv => lhs; whnf); done) | rfl) | rfl) (hf : Instr.fill (fun i => some (i * sz, sz)) ((List.range (len * sz)).map (zv.cells[· % zv.cells.size]!)).toArray pv = some cs.toArray := by rfl) (hd : Ag n dst = true := by rfl) : Fq P f R B n K ops l (D0 dst (.buildSlice t len parts) ty) σ Γ Ms := Pg (B2f hu hi hle hp hf) hd k_
theorem Ed {t e : TypeId} {sz bt : Nat} {zv : Value} {cs : List Value} (k_ : ∀ b, F0 P f R B n K ops l (Ao σ dst ((fun b => .slice (some ⟨b, 0, none⟩) 1 1) b)) Γ (Ad b cs e :: Ms)) (hu : Tab.und P t = some (.slice e) := by rfl) (hi : Tab.inf P e = some (sz, bt, zv) := by rfl) (hle : sz ≤ 16777216 := by decide) (hx : (ev σ x).cells = cs.toArray := by rfl) (hl : cs.length = sz := by rfl) (hd : Ag n dst = true := by rfl) : Fq P f R B n K ops l (D0 dst (.buildSlice t 1 #[(0, x)]) ty) σ Γ Ms := Pg (B2e hu hi hle hx hl) hd k_
theorem Oz {t e : TypeId} {sz bt : Nat} {zv : Value} {cs : List Value} (k_ : ∀ b, NV tn pn P f R B n K ops fin l (Ao σ dst ((fun b => .slice (some ⟨b, 0, none⟩) 1 1) b)) Γ (Ad b cs e :: Ms)) (hu : Tab.und P t = some (.slice e) := by rfl) (hi : Tab.inf P e = some (sz, bt, zv) := by rfl) (hle : sz ≤ 16777216 := by decide) (hx : (ev σ x).cells = cs.toArray := by rfl) (hl : cs.length = sz := by rfl) (hd : Ag n dst = true := by rfl) : Kx tn pn P f R B n K ops fin i l dst (.buildSlice t 1 #[(0, x)]) ty σ Γ Ms := B4y (B2e hu hi hle hx hl) rfl hd k_
theorem D9u {t e : TypeId} {sz bt : Nat} {zv : Value} {cs : List Value} (F : Nat → List Fact) (hF : ∀ b M w, St B Γ (Ad b cs e :: M) w → St B (F b ++ Γ) M w) (k_ : ∀ b, NV tn pn P f R B n K ops fin l (Ao σ dst ((fun b => .slice (some ⟨b, 0, none⟩) 1 1) b)) (F b ++ Γ) Ms) (hu : Tab.und P t = some (.slice e) := by rfl) (hi : Tab.inf P e = some (sz, bt, zv) := by rfl) (hle : sz ≤ 16777216 := by decide) (hx : (ev σ x).cells = cs.toArray := by rfl) (hl : cs.length = sz := by rfl) (hd : Ag n dst = true := by rfl) (hz : Nat.beq pn 1000001 = true := by rfl) : Kx tn pn P f R B n K ops fin i l dst (.buildSlice t 1 #[(0, x)]) ty σ Γ Ms := A7o F (B2e hu hi hle hx hl) rfl rfl hF hd hz k_
theorem Qm {t e : TypeId} {sz bt : Nat} {zv : Value} {cs cs2 : List Value} (k_ : ∀ b, F0 P f R B n K ops l (Ao σ dst ((fun b => .slice (some ⟨b, 0, none⟩) 2 2) b)) Γ (Ad b (cs ++ cs2) e :: Ms)) (hu : Tab.und P t = some (.slice e) := by rfl) (hi : Tab.inf P e = some (sz, bt, zv) := by rfl) (hle : 2 * sz ≤ 16777216 := by decide) (hx : (ev σ x).cells = cs.toArray := by rfl) (hy : (ev σ y).cells = cs2.toArray := by rfl) (hl : cs.length = sz := by rfl) (hl2 : cs2.length = sz := by rfl) (hd : Ag n dst = true := by rfl) : Fq P f R B n K ops l (D0 dst (.buildSlice t 2 #[(0, x), (1, y)]) ty) σ Γ Ms := Pg (C4d hu hi hle hx hy hl hl2) hd k_
theorem C8m {t e : TypeId} {sz bt : Nat} {zv : Value} {cs cs2 : List Value} (F : Nat → List Fact) (hF : ∀ b M w, St B Γ (Ad b (cs ++ cs2) e :: M) w → St B (F b ++ Γ) M w) (k_ : ∀ b, NV tn pn P f R B n K ops fin l (Ao σ dst ((fun b => .slice (some ⟨b, 0, none⟩) 2 2) b)) (F b ++ Γ) Ms) (hu : Tab.und P t = some (.slice e) := by rfl) (hi : Tab.inf P e = some (sz, bt, zv) := by rfl) (hle : 2 * sz ≤ 16777216 := by decide) (hx : (ev σ x).cells = cs.toArray := by rfl) (hy : (ev σ y).cells = cs2.toArray := by rfl) (hl : cs.length = sz := by rfl) (hl2 : cs2.length = sz := by rfl) (hd : Ag n dst = true := by rfl) (hz : Nat.beq pn 1000001 = true := by rfl) : Kx tn pn P f R B n K ops fin i l dst (.buildSlice t 2 #[(0, x), (1, y)]) ty σ Γ Ms := A7o F (C4d hu hi hle hx hy hl hl2) rfl rfl hF hd hz k_
theorem B9j {t e : TypeId} {sz bt : Nat} {zv : Value} (k_ : ∀ b, F0 P f R B n K ops l (Ao σ dst ((fun b => .slice (some ⟨b, 0, none⟩) 0 0) b)) Γ (Ad b [] e :: Ms)) (hu : Tab.und P t = some (.slice e) := by rfl) (hi : Tab.inf P e = some (sz, bt, zv) := by rfl) (hd : Ag n dst = true := by rfl) : Fq P f R B n K ops l (D0 dst (.buildSlice t 0 #[]) ty) σ Γ Ms := Pg (D8c hu hi) hd k_
theorem E9t {t T' : TypeId} {b s bt : Nat} {zv : Value} {cs cs' : List Value} (k_ : F0 P f R B n K ops l σ Γ (Ad b cs' T' :: Ms2)) (hx : ev σ x = .pointer (some ⟨b, 0, none⟩) := by exact Aa) (hm : Ms.Perm (Ad b cs T' :: Ms2) := by first | exact Wf | exact Ak | exact Bf | exact Dz | exact F3 | exact J7 | exact Ds) (hy : (ev σ y).cells = cs'.toArray := by rfl) (hi : Tab.inf P t = some (s, bt, zv) := by rfl) (hl : cs'.length = s := by rfl) (hl2 : cs.length = s := by rfl) (h1 : Hm cs' = true := by rfl) : Fq P f R B n K ops l (D0 none (.store t x y) ty) σ Γ Ms := A0z (C9j hx hy hm hi hl hl2 h1) k_
theorem E6m {t T' : TypeId} {b k bt : Nat} {zv : Value} {cs cs' : List Value} (k_ : F0 P f R B n K ops l σ Γ (Ad b cs' T' :: Ms2)) (hx : ev σ x = .pointer (some ⟨b, k, none⟩) := by exact Aa) (hm : Ms.Perm (Ad b cs T' :: Ms2) := by first | exact Wf | exact Ak | exact Bf | exact Dz | exact F3 | exact J7 | exact Ds) (hy : ev σ y = v := by exact Aa) (hi : Tab.inf P t = some (1, bt, zv) := by rfl) (h1 : v.oneCell' = true := by rfl) (hk : k < cs.length := by exact Nat.le_of_ble_eq_true rfl) (hc : cs.set k v = cs' := by rfl) : Fq P f R B n K ops l (D0 none (.store t x y) ty) σ Γ Ms := by
 subst hc
 exact A0z (D5i hx hy hm hi h1 hk) k_
theorem Ex {t e T' : TypeId} {ts : Array TypeId} {sz bt n' m c b : Nat} {zv : Value} {a : SH} {xs cs : List Value} (k_ : ∀ a' : SH, F0 P f R B n K ops l (Ao σ dst (sl a' (n' + m))) Γ (Aj sz e a' (n' + m) (xs ++ cs) :: Ad b cs T' :: Ms2)) (hm : Ms.Perm (Aj sz e a n' xs :: Ad b cs T' :: Ms2) := by first | exact Wf | exact Ak | exact Bf | exact Dz | exact F3 | exact J7 | exact Ds) (hx : ev σ x = sl a n' := by rfl) (hy : ev σ y = .slice (some ⟨b, 0, none⟩) m c := by exact Aa) (hts : ts = #[t, t] := by rfl) (hu : Tab.und P t = some (.slice e) := by rfl) (hi : Tab.inf P e = some (sz, bt, zv) := by rfl) (hzs : zv.cells.size = sz := by rfl) (hsz : 0 < sz := by exact Nat.le_of_ble_eq_true rfl) (hl : cs.length = m * sz := by rfl) (h1 : Hm cs = true := by rfl) (hb : (n' + m) * bt ≤ 140737488355328 := by first | omega | (unfold reach at *; omega) | (unfold reach H0 at *; omega)) (hnm : n' + m ≤ 9223372036854775807 := by first | omega | (unfold reach at *; omega) | (unfold reach H0 at *; omega)) (hd : Ag n dst = true := by rfl) : Fq P f R B n K ops l (D0 dst (.call { callee := .builtin .append, args := #[x, y], argTypes := ts }) ty) σ Γ Ms := A9m (D5b hm hx hy hts hu hi hzs hsz hl h1 hb hnm) hd k_
theorem Mv {t e : TypeId} {ts : Array TypeId} {bt n' : Nat} {zv : Value} {a b : SH} {xs : List Value} {ls : List Cl} (k_ : ∀ a' : SH, F0 P f R B n K ops l (Ao σ dst (sl a' (n' + ls.length))) Γ (Aj 2 e a' (n' + ls.length) (xs ++ A8 ls) :: Ms2)) (hF : CL ls b ∈ Γ) (hm : Ms.Perm (Aj 2 e a n' xs :: Ms2) := by first | exact Wf | exact Ak | exact Bf | exact Dz | exact F3 | exact J7 | exact Ds) (hx : ev σ x = sl a n' := by rfl) (hy : ev σ y = sl b ls.length := by rfl) (hts : ts = #[t, t] := by rfl) (hu : Tab.und P t = some (.slice e) := by rfl) (hi : Tab.inf P e = some (2, bt, zv) := by rfl) (hzs : zv.cells.size = 2 := by rfl) (hb : (n' + ls.length) * bt ≤ 140737488355328 := by first | omega | (unfold reach at *; omega) | (unfold reach H0 at *; omega)) (hnm : n' + ls.length ≤ 9223372036854775807 := by first | omega | (unfold reach at *; omega) | (unfold reach H0 at *; omega)) (hd : Ag n dst = true := by rfl) : Fq P f R B n K ops l (D0 dst (.call { callee := .builtin .append, args := #[x, y], argTypes := ts }) ty) σ Γ Ms := A9m (B3a hm hF hx hy hts hu hi hzs hb hnm) hd k_
theorem C5u [TyF P] [TabM P] {t : TypeId} (k_ : ∀ b, F0 P f R B n K ops l (Ao σ dst (.map (some b))) Γ (A2n b [] :: Ms)) (hd : Ag n dst = true := by rfl) : Fq P f R B n K ops l (D0 dst (.makeMap t none) ty) σ Γ Ms := A9m B8e hd k_
theorem C5v [TyF P] [TabM P] {t e : TypeId} {s bt b : Nat} {c : Cl} {keys : List Cl} (k_ : F0 P f R B n K ops l (Ao σ dst (.bool (decide (c ∈ keys)))) Γ Ms) (hx : ev σ x = .map (some b) := by exact Aa) (hm : A2n b keys ∈ Ms := by repeat (first | exact List.mem_cons_self | apply List.mem_cons_of_mem)) (hy : ev σ y = Hp c := by rfl) (hc : u32 c := by assumption) (hu : Tab.und P t = some (.map (TyF.tC P) e) := by rfl) (hi : Tab.inf P e = some (s, bt, .bool false) := by rfl) (hd : Ag n dst = true := by rfl) : Fq P f R B n K ops l (D0 dst (.lookup t x y false) ty) σ Γ Ms := Kb (C6k hx hm hc hy hu hi) hd k_
theorem D1d [TyF P] [TabM P] {t e : TypeId} {b : Nat} {c : Cl} {keys : List Cl} (k_ : F0 P f R B n K ops l σ Γ (A2n b (keys ++ [c]) :: Ms2)) (hx : ev σ x = .map (some b) := by exact Aa) (hm : Ms.Perm (A2n b keys :: Ms2) := by first | exact Wf | exact Ak | exact Bf | exact Dz | exact F3 | exact J7 | exact Ds) (hy : ev σ y = Hp c := by rfl) (hc : u32 c := by assumption) (hn : c ∉ keys := by assumption) (hz : ev σ z = .bool true := by rfl) (hu : Tab.und P t = some (.map (TyF.tC P) e) := by rfl) : Fq P f R B n K ops l (D0 none (.mapUpdate t x y z) ty) σ Γ Ms := A0z (A9v hx hm hc hn hy hz hu) k_
theorem A3p {c : FuncId} {args : Array Value} {as : Array Operand} {ts : Array TypeId} {g : Operand} (hg : ev σ g = .func (.func c) #[] #[]) (ha : as.toList.map (ev σ) = args.toList) (hc : ∀ (args : Array Value) (w : World), (callFunc c args).run P w = .ok (.enter c args) w) : T1 P σ (.call { callee := .value g, args := as, argTypes := ts }) ty c args := fun w => by
 have ha : as.map (ev σ) = args := Array.ext' (by simpa using ha)
 subst ha
 simp [D0, execOp, resolve, hg, Deferred.ofValue, invoke, hc]
theorem C0k {c : FuncId} {args cap : List Value} {as : Array Operand} {ts : Array TypeId} {g : Operand} (hg : ev σ g = .func (.func c) #[] cap.toArray) (ha : as.toList.map (ev σ) = args) (hc : ∀ (args : Array Value) (w : World), (callFunc c args).run P w = .ok (.enter c args) w) : T1 P σ (.call { callee := .value g, args := as, argTypes := ts }) ty c (args ++ cap).toArray := fun w => by
 have ha : as.map (ev σ) = args.toArray := Array.ext' (by simpa using ha)
 simp [ha, D0, execOp, resolve, hg, Deferred.ofValue, invoke, hc]
theorem A0 {c : FuncId} {args : Array Value} {as : Array Operand} {ts : Array TypeId} {g : Operand} {pre : List Fact} {Ms0 : List Be} {X : Type} {val : X → Value} {N : X → List Fact} {Ms1 : X → List Be}
  (hc : ∀ (args : Array Value) (w : World), (callFunc c args).run P w = .ok (.enter c args) w) (hsp : Spec P c args pre Ms0 val N Ms1) (kk : ∀ x, F0 P f R B n K ops l (Ao σ dst (val x)) (N x ++ Γ) (Ms1 x ++ Ms2))
  (hg : ev σ g = .func (.func c) #[] #[] := by rfl) (ha : as.toList.map (ev σ) = args.toList := by rfl) (hpre : ∀ F, F ∈ pre → F ∈ Γ := by first | (simp; done) | (simp +contextual; done)) (hm : Ms.Perm (Ms0 ++ Ms2) := by first | exact List.Perm.refl _ | exact D0f | exact D0e | exact D0d | exact D0c | exact Ak | exact Bf | exact Dz | exact F3 | exact D0b) (hd : Ag n dst = true := by rfl) : Fq P f R B n K ops l (D0 dst (.call { callee := .value g, args := as, argTypes := ts }) ty) σ Γ Ms :=
 C1u (A3p hg ha hc) hsp hpre hm hd kk
theorem Ca {c : FuncId} {args cap al : List Value} {as : Array Operand} {ts : Array TypeId} {g : Operand} {pre : List Fact} {Ms0 : List Be} {X : Type} {val : X → Value} {N : X → List Fact} {Ms1 : X → List Be}
  (hc : ∀ (args : Array Value) (w : World), (callFunc c args).run P w = .ok (.enter c args) w) (hsp : Spec P c al.toArray pre Ms0 val N Ms1) (kk : ∀ x, F0 P f R B n K ops l (Ao σ dst (val x)) (N x ++ Γ) (Ms1 x ++ Ms2))
  (hg : ev σ g = .func (.func c) #[] cap.toArray := by rfl) (ha : as.toList.map (ev σ) = args := by rfl) (hal : args ++ cap = al := by rfl) (hpre : ∀ F, F ∈ pre → F ∈ Γ := by first | (simp; done) | (simp +contextual; done)) (hm : Ms.Perm (Ms0 ++ Ms2) := by first | exact List.Perm.refl _ | exact D0f | exact D0e | exact D0d | exact D0c | exact Ak | exact Bf | exact Dz | exact F3 | exact D0b) (hd : Ag n dst = true := by rfl) : Fq P f R B n K ops l (D0 dst (.call { callee := .value g, args := as, argTypes := ts }) ty) σ Γ Ms :=
 C1u (C0k hg ha hc) (hal ▸ hsp) hpre hm hd kk
theorem B7 {c : FuncId} {args : Array Value} {as : Array Operand} {ts : Array TypeId} {g : Operand} {pre : List Fact} {X : Type} {val : X → Value} {N : X → List Fact} {Ms1 : X → List Be}
  (hc : ∀ (args : Array Value) (w : World), (callFunc c args).run P w = .ok (.enter c args) w) (hsp : Spec P c args pre [] val N Ms1) (kk : ∀ x, NV tn pn P f R B n K ops fin l (Ao σ dst (val x)) (N x ++ Γ) (Ms1 x ++ Ms))
  (hg : ev σ g = .func (.func c) #[] #[] := by rfl) (ha : as.toList.map (ev σ) = args.toList := by rfl) (hpre : ∀ F, F ∈ pre → F ∈ Γ := by first | (simp; done) | (simp +contextual; done)) (hd : Ag n dst = true := by rfl) : Kx tn pn P f R B n K ops fin i l dst (.call { callee := .value g, args := as, argTypes := ts }) ty σ Γ Ms :=
 C2v (A3p hg ha hc) hsp hpre rfl rfl hd kk
theorem D1c {c : FuncId} {args : Array Value} {as : Array Operand} {ts : Array TypeId} {g : Operand} {pre : List Fact} {chain : List PanicEntry}
  (hc : ∀ (args : Array Value) (w : World), (callFunc c args).run P w = .ok (.enter c args) w) (hsp : Sz P c args pre chain) (hR : ∀ w, St B [] [] w → R (.panicked chain) w)
  (hg : ev σ g = .func (.func c) #[] #[] := by rfl) (ha : as.toList.map (ev σ) = args.toList := by rfl) (hpre : ∀ F, F ∈ pre → F ∈ Γ := by first | (simp; done) | (simp +contextual; done)) (hD : n.defs = [] := by rfl) (hK : okK n.kind := by first | exact .inl rfl | exact .inr rfl) : Fq P f R B n K ops l (D0 dst (.call { callee := .value g, args := as, argTypes := ts }) ty) σ Γ Ms :=
 E0c (A3p hg ha hc) hsp hpre hD hK hR
theorem A2j {c : FuncId} {args : Array Value} {as : Array Operand} {ts : Array TypeId} {g : Operand} {pre : List Fact} {chain : List PanicEntry} (ho : ops[i]? = some ⟨dst, .call { callee := .value g, args := as, argTypes := ts }, ty, pos, after, none⟩)
  (hc : ∀ (args : Array Value) (w : World), (callFunc c args).run P w = .ok (.enter c args) w) (hsp : Sz P c args pre chain) (hR : ∀ w, St B [] [] w → R (.panicked chain) w)
  (hg : ev σ g = .func (.func c) #[] #[] := by rfl) (ha : as.toList.map (ev σ) = args.toList := by rfl) (hpre : ∀ F, F ∈ pre → F ∈ Γ := by first | (simp; done) | (simp +contextual; done)) (hq : Nat.beq pn i = true := by rfl) (hD : n.defs = [] := by rfl) (hK : okK n.kind := by first | exact .inl rfl | exact .inr rfl) : NV tn pn P f R B n K ops fin (i :: l) σ Γ Ms :=
 E1d ho hq rfl rfl rfl (A3p hg ha hc) hsp hpre hD hK hR
theorem q0 (ho : ops[i]? = some ⟨dst, op, ty, pos, after, none⟩) (h : Fq P f R B n K ops l (D0 dst op ty) σ Γ Ms) : F0 P f R B n K ops (i :: l) σ Γ Ms := E6e ho h
theorem qT {g d : Nat} {want : Bool} {og : Oper} (ho : ops[i]? = some ⟨dst, op, ty, pos, after, some (g, want)⟩) (hog : ops[g]? = some og) (hgd : og.dst = some d) (h : Fq P f R B n K ops l (D0 dst op ty) σ Γ Ms) (ht : σ d = .bool want := by rfl) : F0 P f R B n K ops (i :: l) σ Γ Ms := E0h ho hog hgd ht h
theorem qF {g d : Nat} {want t : Bool} {og : Oper} (ho : ops[i]? = some ⟨dst, op, ty, pos, after, some (g, want)⟩) (hog : ops[g]? = some og) (hgd : og.dst = some d) (h : F0 P f R B n K ops l (Ao σ dst undef) Γ Ms) (ht : σ d = .bool t := by conv => lhs; whnf) (hne : (t == want) = false := by rfl) (hd : Ag n dst = true := by rfl) : F0 P f R B n K ops (i :: l) σ Γ Ms := E0i ho hog hgd ht hne hd h
theorem qU {g d : Nat} {want : Bool} {og : Oper} (ho : ops[i]? = some ⟨dst, op, ty, pos, after, some (g, want)⟩) (hog : ops[g]? = some og) (hgd : og.dst = some d) (h : F0 P f R B n K ops l (Ao σ dst undef) Γ Ms) (ht : σ d = undef := by rfl) (hd : Ag n dst = true := by rfl) : F0 P f R B n K ops (i :: l) σ Γ Ms := E0g ho hog hgd ht hd h
theorem nU {g d : Nat} {want : Bool} {og : Oper} (ho : ops[i]? = some ⟨dst, op, ty, pos, after, some (g, want)⟩) (hog : ops[g]? = some og) (hgd : og.dst = some d) (h : NV tn pn P f R B n K ops fin l (Ao σ dst undef) Γ Ms) (ht : σ d = undef := by rfl) (hd : Ag n dst = true := by rfl) (hn : Nat.beq pn i = false := by rfl) : NV tn pn P f R B n K ops fin (i :: l) σ Γ Ms := E1e ho hog hgd ht hd h hn
theorem qI {g d : Nat} {want t : Bool} {og : Oper} (ho : ops[i]? = some ⟨dst, op, ty, pos, after, some (g, want)⟩) (hog : ops[g]? = some og) (hgd : og.dst = some d) (ht : σ d = .bool t) (hon : t = want → Fq P f R B n K ops l (D0 dst op ty) (U0 σ d (.bool want)) Γ Ms) (hoff : t = !want → F0 P f R B n K ops l (Ao (U0 σ d (.bool !want)) dst undef) Γ Ms) (hd : Ag n dst = true := by rfl) : F0 P f R B n K ops (i :: l) σ Γ Ms := E6d ho hog hgd ht hd hon hoff
theorem n0 (ho : ops[i]? = some ⟨dst, op, ty, pos, after, none⟩) (h : Kx tn pn P f R B n K ops fin i l dst op ty σ Γ Ms) (hn : Nat.beq pn i = false := by rfl) : NV tn pn P f R B n K ops fin (i :: l) σ Γ Ms := E6w ho h hn
theorem nT {g d : Nat} {want : Bool} {og : Oper} (ho : ops[i]? = some ⟨dst, op, ty, pos, after, some (g, want)⟩) (hog : ops[g]? = some og) (hgd : og.dst = some d) (h : Kx tn pn P f R B n K ops fin i l dst op ty σ Γ Ms) (ht : σ d = .bool want := by rfl) (hn : Nat.beq pn i = false := by rfl) : NV tn pn P f R B n K ops fin (i :: l) σ Γ Ms := E1f ho hog hgd ht h hn
theorem nF {g d : Nat} {want t : Bool} {og : Oper} (ho : ops[i]? = some ⟨dst, op, ty, pos, after, some (g, want)⟩) (hog : ops[g]? = some og) (hgd : og.dst = some d) (h : NV tn pn P f R B n K ops fin l (Ao σ dst undef) Γ Ms) (ht : σ d = .bool t := by conv => lhs; whnf) (hne : (t == want) = false := by rfl) (hd : Ag n dst = true := by rfl) (hn : Nat.beq pn i = false := by rfl) : NV tn pn P f R B n K ops fin (i :: l) σ Γ Ms := E1g ho hog hgd ht hne hd h hn
theorem nI {g d : Nat} {want t : Bool} {og : Oper} (ho : ops[i]? = some ⟨dst, op, ty, pos, after, some (g, want)⟩) (hog : ops[g]? = some og) (hgd : og.dst = some d) (ht : σ d = .bool t) (hon : t = want → Kx tn pn P f R B n K ops fin i l dst op ty (U0 σ d (.bool want)) Γ Ms) (hoff : t = !want → NV tn pn P f R B n K ops fin l (Ao (U0 σ d (.bool !want)) dst undef) Γ Ms) (hd : Ag n dst = true := by rfl) (hn : Nat.beq pn i = false := by rfl) : NV tn pn P f R B n K ops fin (i :: l) σ Γ Ms := E6v ho hog hgd ht hd hon hoff hn
end
end Go.Hy
namespace Go.Hy
theorem I7 {a b c d e f g m : Be} {L : List Be} : (a :: b :: c :: d :: e :: f :: g :: m :: L).Perm (m :: a :: b :: c :: d :: e :: f :: g :: L) := (Ds.cons a).trans Ak
theorem Hl {a b c d e f g h m : Be} {L : List Be} : (a :: b :: c :: d :: e :: f :: g :: h :: m :: L).Perm (m :: a :: b :: c :: d :: e :: f :: g :: h :: L) := (I7.cons a).trans Ak
theorem Ki {a b c d e f g h i m : Be} {L : List Be} : (a :: b :: c :: d :: e :: f :: g :: h :: i :: m :: L).Perm (m :: a :: b :: c :: d :: e :: f :: g :: h :: i :: L) := (Hl.cons a).trans Ak
theorem Nq {a b c d e f g h i j m : Be} {L : List Be} : (a :: b :: c :: d :: e :: f :: g :: h :: i :: j :: m :: L).Perm (m :: a :: b :: c :: d :: e :: f :: g :: h :: i :: j :: L) := (Ki.cons a).trans Ak
theorem P2 {a b c d e f g h i j k m : Be} {L : List Be} : (a :: b :: c :: d :: e :: f :: g :: h :: i :: j :: k :: m :: L).Perm (m :: a :: b :: c :: d :: e :: f :: g :: h :: i :: j :: k :: L) := (Nq.cons a).trans Ak
def Sq (x : Int) : List Value := [.int .i64 x]
abbrev Tk (l : List Int) : List Value := l.flatMap Sq
theorem Wz (x : Int) : (Sq x).length = 1 := rfl
def E2m (ok : Nat → Prop) (l : List Int) (a : SH) (w : World) : Prop := rowAt ok 1 8 l.length a (fun i => Sq (l.getD i 0)) w ∧ ∀ x, x ∈ l → Ap x
def IL (l : List Int) (a : SH) : Fact := ⟨fun ok w => E2m ok l a w, fun _ _ _ hs h => ⟨h.1.mono hs, h.2⟩, fun _ _ _ h hs => ⟨h.1.loc hs, h.2⟩⟩
section
variable {B : Cj} {Γ : List Fact} {Ms : List Be} {w : World}
theorem St.B3g {e : TypeId} {a : SH} {n : Nat} {xs : List Value} {l : List Int} (hs : St B Γ (Aj 1 e a n xs :: Ms) w) {hBp : Prop} (hB : hBp) (hx : xs = Tk l) (hn : n = l.length) (hb : n * 8 ≤ reach) (hu : ∀ c, c ∈ l → Ap c) : St B (IL l a :: Γ) Ms w := by
 subst hx
 subst hn
 refine hs.T6 hB (fun ok hok hh => ⟨?_, hu⟩)
 exact Pm (F := Sq) Wz 0 (hh : World.ownsRow _ _ _ _ _ _ _) rfl hb hok
theorem St.A1a {e : TypeId} {a : SH} {n : Nat} {l : List Cl} {c : Cl} (hs : St B Γ (Aj 2 e a n (A8 l ++ Aw c) :: Ms) w) : St B Γ (Aj 2 e a n (A8 (l ++ [c])) :: Ms) w := by
 have h : A8 (l ++ [c]) = A8 l ++ Aw c := by simp [A8]
 rw [h]; exact hs
theorem St.Uj {e : TypeId} {a : SH} {n : Nat} {l : List TP} {t : T} {vr vk vs : SH} (hs : St B Γ (Aj 6 e a n (Bl l ++ tc t vr vk vs) :: Ms) w) : St B Γ (Aj 6 e a n (Bl (l ++ [(t, vr, vk, vs)])) :: Ms) w := by
 have h : Bl (l ++ [(t, vr, vk, vs)]) = Bl l ++ tc t vr vk vs := by simp [Bl, Gc]
 rw [h]; exact hs
theorem St.C1v {e : TypeId} {a : SH} {n : Nat} {l : List BP} {b : Br} {vf vk : SH} (hs : St B Γ (Aj 2 e a n (G0 l ++ bc b vf vk) :: Ms) w) : St B Γ (Aj 2 e a n (G0 (l ++ [(b, vf, vk)])) :: Ms) w := by
 have h : G0 (l ++ [(b, vf, vk)]) = G0 l ++ bc b vf vk := by simp [G0, Ks]
 rw [h]; exact hs
theorem St.Kw {e : TypeId} {a : SH} {n : Nat} {l m : List Cl} (hs : St B Γ (Aj 2 e a n (A8 l ++ A8 m) :: Ms) w) : St B Γ (Aj 2 e a n (A8 (l ++ m)) :: Ms) w := by
 have h : A8 (l ++ m) = A8 l ++ A8 m := by simp [A8]
 rw [h]; exact hs
theorem St.E0u {l : List Int} {a : SH} (hs : St B Γ Ms w) (hF : IL l a ∈ Γ) : l.length * 8 ≤ reach ∧ (0 < l.length → ∃ b o, a.1 = some ⟨b, o, Option.none⟩) ∧ ∀ c, c ∈ l → Ap c := by
 obtain ⟨h2, h4⟩ := hs.facts _ hF
 exact ⟨h2.2.1, fun hn => by obtain ⟨b, o, h3, _⟩ := h2.2.2 hn; exact ⟨b, o, h3⟩, h4⟩
end
section
variable {P : Program} {f : FuncId} {R : Ending → World → Prop} {B : Cj} {n : Fz} {todo : List Item} {σ : Nat → Value} {Γ : List Fact} {Ms : List Be}
theorem Lh {l : List Int} {a : SH} (k : l.length * 8 ≤ reach → (0 < l.length → ∃ b o, a.1 = some ⟨b, o, none⟩) → (∀ c, c ∈ l → Ap c) → Fi P f R B n todo σ Γ Ms) (hF : IL l a ∈ Γ := by repeat (first | exact List.mem_cons_self | apply List.mem_cons_of_mem)) : Fi P f R B n todo σ Γ Ms :=
 Bs (p := l.length * 8 ≤ reach ∧ (0 < l.length → ∃ b o, a.1 = some ⟨b, o, none⟩) ∧ ∀ c, c ∈ l → Ap c) (fun w hs => hs.E0u hF) (fun h => k h.1 h.2.1 h.2.2)
theorem B5 {K : List Item} {c : Code} {X : Type} (Inv : X → Prop) (live : X → List (Nat × Value)) (E : X → List Fact → List Fact) (Mf : X → List Be) (μ : X → Nat) (x0 : X) (h0 : Inv x0)
  (hl : Rm σ (live x0)) (hΓ : ∀ w, St B Γ Ms w → St B (E x0 Γ) (Mf x0) w)
  (round : ∀ x base, Inv x → (∀ x' σ', Inv x' → μ x' < μ x → Rm σ' (live x') → Fi P f R B n (.inLoop c :: K) σ' (E x' Γ) (Mf x')) →
   Fi P f R B n (.code c :: .inLoop c :: K) (stL base (live x)) (E x Γ) (Mf x)) :
  Fi P f R B n (.code (.loop c) :: K) σ Γ Ms := Fg Inv live (fun x => E x Γ) Mf μ x0 h0 hl hΓ round
end
theorem NV.conv {tn : Bool} {pn : Nat} {P : Program} {f : FuncId} {R : Ending → World → Prop} {B : Cj} {n : Fz} {K : List Item} {ops : Array Oper} {l fin : List Nat} {σ : Nat → Value} {Γ : List Fact} {Ms' : List Be} (h : NV tn pn P f R B n K ops fin l σ Γ Ms') :
  ∀ {Ms : List Be}, (∀ Γ M w, St B Γ (M ++ Ms) w → St B Γ (M ++ Ms') w) → NV tn pn P f R B n K ops fin l σ Γ Ms := by
 induction h with
 | done h => exact fun hc => .done (fun a w hr hs => h a w hr (hc _ [] w hs))
 | no h => exact fun hc => .no (fun ⟨w, hw⟩ => h ⟨w, hc _ [] w hw⟩)
 | pure ho hw hd h k ih => exact fun hc => .pure ho hw hd h (ih hc)
 | load ht ho hm hw hd h k ih => exact fun hc => .load ht ho hm hw hd (fun w hs => h w (hc _ [] w hs)) (ih hc)
 | off ho hw hd k ih => exact fun hc => .off ho hw hd (ih hc)
 | alloc ho hg hw hd h k ih => exact fun hc => .alloc ho hg hw hd h (fun b => ih b (fun Γ M w hs => by
   have := hc Γ (M ++ [Ad b _ _]) w (by simpa using hs)
   simpa using this))
 | allocF hz ho hg hgm hw hd h hF k ih => exact fun hc => .allocF hz ho hg hgm hw hd h hF (fun b => ih b hc)
 | call ht ho hg hm hw hd he hsp hpre k ih => exact fun hc => .call ht ho hg hm hw hd he hsp hpre (fun x => ih x (fun Γ M w hs => by
   have := hc Γ (M ++ _) w (by simpa using hs)
   simpa using this))
 | loadF ho hm hw hd h k ih => exact fun hc => .loadF ho hm hw hd h (ih hc)
 | pan ht ho hq hg hm hw he hsp hpre hR => exact fun hc => .pan ht ho hq hg hm hw he hsp hpre hR
 | @Er i l o X val F r r' σ Γ Ms0 Ms2 ht ho hb hw hd hp h k hz ih =>
  intro Ms hc
  refine NV.Er (F := F) (r := Ms) (r' := fun x => r' x ++ Ms2) (Ms2 := []) ht ho hb hw hd (by rw [List.append_nil]) (fun M w hs => ?_) (fun x => by rw [List.append_nil]; exact k x) hz
  have h0 : St B Γ (M ++ Ms0) w := hc _ M w (hs.perm List.perm_append_comm)
  have h1 : St B Γ (r ++ (Ms2 ++ M)) w := by
   rw [← List.append_assoc]
   exact h0.perm (List.perm_append_comm.trans (hp.append_right M))
  obtain ⟨x, w', h2, h3⟩ := h (Ms2 ++ M) w h1
  exact ⟨x, w', h2, by rw [List.append_assoc]; exact h3⟩
 | @sto i l o r r' σ Γ Ms0 Ms2 ho hb hw hd hp h k ih =>
  intro Ms hc
  refine NV.sto (r := Ms) (r' := r' ++ Ms2) (Ms2 := []) ho hb hw hd (by rw [List.append_nil]) (fun M w hs => ?_) (by rw [List.append_nil]; exact k)
  have h0 : St B Γ (M ++ Ms0) w := hc _ M w (hs.perm List.perm_append_comm)
  have h1 : St B Γ (r ++ (Ms2 ++ M)) w := by
   rw [← List.append_assoc]
   exact h0.perm (List.perm_append_comm.trans (hp.append_right M))
  obtain ⟨w', h2, h3⟩ := h (Ms2 ++ M) w h1
  exact ⟨w', h2, by rw [List.append_assoc]; exact h3⟩
theorem C2u {tn : Bool} {pn : Nat} {P : Program} {f : FuncId} {R : Ending → World → Prop} {B : Cj} {n : Fz} {K : List Item} {ops : Array Oper} {l fin : List Nat} {σ : Nat → Value} {Γ : List Fact} {Ms : List Be} (A A' : List Be) (hc : ∀ Γ L w, St B Γ (A ++ L) w → St B Γ (A' ++ L) w) (h : NV tn pn P f R B n K ops fin l σ Γ (A' ++ Ms)) : NV tn pn P f R B n K ops fin l σ Γ (A ++ Ms) :=
 h.conv (fun Γ M w hs => by
  have h1 := hc Γ (Ms ++ M) w (by simpa using hs.perm List.perm_append_comm)
  have h2 : St B Γ ((A' ++ Ms) ++ M) w := by simpa using h1
  exact h2.perm List.perm_append_comm)
section
variable {P : Program} [Tab P] {B : Cj} {σ : Nat → Value} {Γ : List Fact} {Ms : List Be} {ty : TypeId} {x y : Operand} {k : IntKind} {a : Int} {v : Value}
theorem E2a {t : TypeId} {d : TypeDesc} {bk o i : Nat} {a : SH} {l : List Int} (hx : ev σ x = .pointer (some ⟨bk, o + i * 1, none⟩)) (hF : IL l a ∈ Γ) (ha : a.1 = some ⟨bk, o, none⟩) (hu : Tab.und P t = some d) (hd : (match d with | .struct _ | .array _ _ => true | _ => false) = false) (hlt : i < l.length) :
  O6 P B σ Γ Ms (.load t x) ty (.int .i64 (l.getD i 0)) := fun w hs => by
 have h3 := (N5 (hs.facts _ hF).1 ha hlt).2 0 (.int .i64 (l.getD i 0)) rfl
 rw [Nat.add_zero] at h3
 have h4 := G8 (P := P) hu hd h3
 generalize hv : l.getD i 0 = u at h4 ⊢
 simp only [D0, execOp, hx, Instr.loadAt, Instr.sureAddr]
 rw [Nat.mul_one] at h4 ⊢
 simp [h4]
theorem C5n {s d : TypeId} {a : Int} {m : Nat} (hs : Tab.und P s = some (.int .i64)) (hd : Tab.und P d = some (.int .u64)) (hx : ev σ x = .int .i64 a) (ha : a = (m : Int)) (hm : m < 18446744073709551616) : D4 P σ (.convert s d x) ty (.int .u64 (m : Int)) := by
 have e : IntKind.u64.wrap a = (m : Int) := by
  have : IntKind.u64.wrap a = a % 18446744073709551616 := by simp [IntKind.wrap, IntKind.bits, IntKind.signed]
  rw [this]; omega
 have := Nr (P := P) (ty := ty) hs hd hx
 rwa [e] at this
end
end Go.Hy
namespace Go.Hy
section
variable {P : Program} [Tab P] {B : Cj} {σ : Nat → Value} {Γ : List Fact} {Ms : List Be} {ty : TypeId} {x y : Operand}
end
section
variable {B : Cj} {Γ : List Fact} {Ms : List Be} {w : World}
end
end Go.Hy
namespace Go.Hy
section
variable {P : Program} [Tab P] {σ : Nat → Value} {ty : TypeId} {x y : Operand}
theorem C1l (n : Int) : IntKind.u64.wrap n = n % 18446744073709551616 := by simp [IntKind.wrap, IntKind.bits, IntKind.signed]
theorem D5v {t t' : TypeId} {k2 : IntKind} {a m : Nat} (hx : ev σ x = .int .u64 (a : Int)) (hy : ev σ y = .int k2 (m : Int)) (hm : m ≤ 64) (hb : a * 2 ^ m < 18446744073709551616) : D4 P σ (.binOp .shl t x y t') ty (.int .u64 ((a * 2 ^ m : Nat) : Int)) :=
 Dw hx hy (fun w => Cf w) (fun w => by
  have e : IntKind.u64.wrap ((a : Int) * 2 ^ min (m : Int).toNat 64) = ((a * 2 ^ m : Nat) : Int) := by
   rw [C1l, Int.toNat_natCast, Nat.min_eq_left hm]
   have : ((a : Int) * 2 ^ m) = ((a * 2 ^ m : Nat) : Int) := by rw [Int.natCast_mul, Int.natCast_pow]; rfl
   rw [this]; omega
  have h0 : ¬ ((m : Int) < 0) := by omega
  simp only [binOp, Op.shift, if_neg h0]
  show Result.ok (Value.int .u64 (IntKind.u64.wrap ((a : Int) * 2 ^ min (m : Int).toNat 64))) w = _
  rw [e])
theorem D5t {t t' : TypeId} {a b : Nat} (hx : ev σ x = .int .u64 (a : Int)) (hy : ev σ y = .int .u64 (b : Int)) (h : b ≤ a) (ha : a < 18446744073709551616) : D4 P σ (.binOp .sub t x y t') ty (.int .u64 ((a - b : Nat) : Int)) :=
 Dw hx hy (fun w => Cf w) (fun w => by
  have e : IntKind.u64.wrap ((a : Int) - (b : Int)) = ((a - b : Nat) : Int) := by rw [C1l]; omega
  simp only [binOp, Op.intArith, ne_eq, not_true, if_false]
  show Result.ok (Value.int .u64 (IntKind.u64.wrap ((a : Int) - (b : Int)))) w = _
  rw [e])
theorem C5p {s d : TypeId} {a : Nat} (hs : Tab.und P s = some (.int .u64)) (hd : Tab.und P d = some (.int .u32)) (hx : ev σ x = .int .u64 (a : Int)) (ha : a < 4294967296) : D4 P σ (.convert s d x) ty (.int .u32 (a : Int)) := by
 have e : IntKind.u32.wrap (a : Int) = (a : Int) := by rw [C8k]; omega
 have := Nr (P := P) (ty := ty) hs hd hx
 rwa [e] at this
end
end Go.Hy
namespace Go.Hy
section
variable {P : Program} [Tab P] {σ : Nat → Value} {ty : TypeId} {x y : Operand}
end
end Go.Hy
namespace Go.Hy
open Go Go.ChangeShapes Go.WideShapes Go.RowKit
variable {P : Program} {H : Type} {enc : TypeId × Value → H} {W : World} {base : Nat} {v : Value} {d : DataW H} {ps : List MemPlace}
theorem J6 {t : TypeId} {ts : List TypeId} {ds : List (DataW H)} (h : ∀ x, x ∈ DataW.weightsEach P (t :: ts) (d :: ds) → x ≤ reach) : Ny P t d ∧ ∀ x, x ∈ DataW.weightsEach P ts ds → x ≤ reach :=
 ⟨fun x hx => h x (by simp only [DataW.weightsEach, List.mem_append]; exact .inl hx), fun x hx => h x (by simp only [DataW.weightsEach, List.mem_append]; exact .inr hx)⟩
theorem Nj {t : TypeId} {ts : List TypeId} {vs : List Value} {ds : List (DataW H)} (h : DataW.TrodAll enc P W 0 (fun _ => true) true (t :: ts) vs ds ps) :
  ∃ v vs' d ds' p q, vs = v :: vs' ∧ ds = d :: ds' ∧ DataW.Trod enc P W 0 (fun _ => true) true t v d p ∧ DataW.TrodAll enc P W 0 (fun _ => true) true ts vs' ds' q := by
 obtain ⟨v, vs1, d, ds1, a, b, h1, h2, h3, h4, h5⟩ := trodAll_cons h
 exact ⟨v, vs1, d, ds1, a, b, h1, h2, h4, h5⟩
theorem C4p {vs : List Value} {ds : List (DataW H)} (h : DataW.TrodAll enc P W 0 (fun _ => true) true [] vs ds ps) : vs = [] := by
 obtain ⟨h1, _, _⟩ := trodAll_nil h
 exact h1
theorem D9p {t : TypeId} (ht : P.underlying t = some (.int .i64)) (hval : Value.okWide P W .any base t v) (h : DataW.Trod enc P W 0 (fun _ => true) true t v d ps) : ∃ n : Int, v = .int .i64 n ∧ Ap n := by
 obtain ⟨n, rfl, _, _, hw⟩ := open_int ht hval h
 simp only [Lit.wf, Bool.and_eq_true, decide_eq_true_eq] at hw
 exact ⟨n, rfl, hw.1, hw.2⟩
variable [TyF P]
theorem D9o {t : TypeId} (ht : t = TyF.tT P) (hval : Value.okWide P W .any base t v) (h : DataW.Trod enc P W 0 (fun _ => true) true t v d ps) (hl : Ny P t d) : ∃ (u : T) (vr vk vs : SH), v = .agg (tc u vr vk vs).toArray ∧ Ft (okw W) u vr vk vs W := by
 subst ht
 obtain ⟨cs, rfl, _⟩ := okWide_struct TyF.uT hval
 obtain ⟨fuel, hf⟩ := h
 obtain ⟨⟨u, vr, vk, vs⟩, h1, h2⟩ := (A7j fuel).1 _ _ _ hf hl
 exact ⟨u, vr, vk, vs, by
  have h3 : (Value.agg cs).cells.toList = tc u vr vk vs := h1
  rw [← h3]; simp [Value.cells], h2⟩
theorem E5a {t : TypeId} (ht : t = TyF.lC P) (hval : Value.okWide P W .any base t v) (h : DataW.Trod enc P W 0 (fun _ => true) true t v d ps) (hl : Ny P t d) : ∃ (l : List Cl) (a : SH), v = sl a l.length ∧ L4 (okw W) l a W := by
 subst ht
 obtain ⟨x, y, z, rfl⟩ := okWide_slice TyF.ulC hval
 obtain ⟨fuel, hf⟩ := h
 obtain ⟨l, a, h1, h2⟩ := B0j hf hl
 exact ⟨l, a, by simpa [Value.cells] using h1, h2⟩
end Go.Hy
namespace Go.Hy
def Di (L : List Be) : Be := ⟨Bq L, fun w => (∀ m, m ∈ L → ∀ w', (∀ b, m.dom b → w'.heap[b]? = w.heap[b]?) → m.holds w') ∧ (L.Pairwise fun m m' => ∀ b, m.dom b → m'.dom b → False)⟩
section
variable {B : Cj} {Γ : List Fact} {Ms L L' : List Be} {w : World}
theorem St.pack (hs : St B Γ (L ++ Ms) w) : St B Γ (Di L :: Ms) w := by
 have hd : ∀ b, Bq (Di L :: Ms) b ↔ Bq (L ++ Ms) b := fun b => by rw [Gj, E9]; exact Iff.rfl
 refine ⟨hs.chg, fun F hF => F.mono _ _ _ (fun b hb => ⟨hb.1, hb.2.1, fun hc => hb.2.2 ((hd b).mp hc)⟩) (hs.facts F hF), ?_, ?_, ?_⟩
 ·intro m hm w' hw
  rcases List.mem_cons.mp hm with e | hm
  ·subst e
   exact ⟨fun m hm w2 hw2 => hs.res m (List.mem_append_left _ hm) w2 (fun b hb => (hw2 b hb).trans (hw b ⟨m, hm, hb⟩)), (List.pairwise_append.mp hs.disj).1⟩
  ·exact hs.res m (List.mem_append_right _ hm) w' hw
 ·intro m hm b hb
  rcases List.mem_cons.mp hm with e | hm
  ·subst e
   obtain ⟨m', hm', hb'⟩ := hb
   exact hs.lt m' (List.mem_append_left _ hm') b hb'
  ·exact hs.lt m (List.mem_append_right _ hm) b hb
 ·refine List.pairwise_cons.mpr ⟨fun m hm b hb hb2 => ?_, (List.pairwise_append.mp hs.disj).2.1⟩
  obtain ⟨m', hm', hb'⟩ := hb
  exact (List.pairwise_append.mp hs.disj).2.2 m' hm' m hm b hb' hb2
theorem St.unpack (hs : St B Γ (Di L :: Ms) w) : St B Γ (L ++ Ms) w := by
 have hd : ∀ b, Bq (Di L :: Ms) b ↔ Bq (L ++ Ms) b := fun b => by rw [Gj, E9]; exact Iff.rfl
 have hb0 := hs.res (Di L) List.mem_cons_self w (fun _ _ => rfl)
 refine ⟨hs.chg, fun F hF => F.mono _ _ _ (fun b hb => ⟨hb.1, hb.2.1, fun hc => hb.2.2 ((hd b).mpr hc)⟩) (hs.facts F hF), ?_, ?_, ?_⟩
 ·intro m hm w' hw
  rcases List.mem_append.mp hm with hm | hm
  ·exact hb0.1 m hm w' hw
  ·exact hs.res m (List.mem_cons_of_mem _ hm) w' hw
 ·intro m hm b hb
  rcases List.mem_append.mp hm with hm | hm
  ·exact hs.lt (Di L) List.mem_cons_self b ⟨m, hm, hb⟩
  ·exact hs.lt m (List.mem_cons_of_mem _ hm) b hb
 ·exact List.pairwise_append.mpr ⟨hb0.2, (List.pairwise_cons.mp hs.disj).2, fun m hm m' hm' b hb hb' => (List.pairwise_cons.mp hs.disj).1 m' hm' b ⟨m, hm, hb⟩ hb'⟩
theorem St.Sv (hs : St B Γ Ms w) : St B Γ (Di [] :: Ms) w := St.pack (L := []) hs
theorem St.D7w (hs : St B Γ (Di L :: Di L' :: Ms) w) : St B Γ (Di (L' ++ L) :: Ms) w := by
 have h1 := (hs.unpack.perm List.perm_middle).unpack
 exact St.pack (by rw [List.append_assoc]; exact h1)
end
mutual
inductive HT where
 | mk (kind n : Int) (name : ByteArray) (r : List Cl) (vr : SH) (kids : List HT) (vk : SH) (sys : List HB) (vs : SH)
inductive HB where
 | mk (Al : List Cl) (vf : SH) (kids : List HT) (vk : SH)
end
mutual
def HT.er : HT → T
 | .mk k n nm r _ ks _ ss _ => .mk k n nm r (HT.erL ks) (HT.erB ss)
def HT.erL : List HT → List T
 | [] => []
 | h :: hs => h.er :: HT.erL hs
def HT.erB : List HB → List Br
 | [] => []
 | .mk f _ ks _ :: bs => .mk f (HT.erL ks) :: HT.erB bs
end
def HB.er : HB → Br
 | .mk f _ ks _ => .mk f (HT.erL ks)
theorem HT.Ll : ∀ l : List HT, HT.erL l = l.map HT.er
 | [] => by simp [HT.erL]
 | h :: hs => by simp [HT.erL, HT.Ll hs]
theorem HT.Yk : ∀ l : List HB, HT.erB l = l.map HB.er
 | [] => by simp [HT.erB]
 | .mk f v ks u :: bs => by simp [HT.erB, HB.er, HT.Yk bs]
namespace HT
def vr : HT → SH | .mk _ _ _ _ v _ _ _ _ => v
def vk : HT → SH | .mk _ _ _ _ _ _ v _ _ => v
def vs : HT → SH | .mk _ _ _ _ _ _ _ _ v => v
def kids : HT → List HT | .mk _ _ _ _ _ ks _ _ _ => ks
def sys : HT → List HB | .mk _ _ _ _ _ _ _ ss _ => ss
def tp (h : HT) : TP := (h.er, h.vr, h.vk, h.vs)
end HT
namespace HB
def Al : HB → List Cl | .mk f _ _ _ => f
def vf : HB → SH | .mk _ v _ _ => v
def kids : HB → List HT | .mk _ _ ks _ => ks
def vk : HB → SH | .mk _ _ _ v => v
def bp (b : HB) : BP := (b.er, b.vf, b.vk)
end HB
structure Tys where
 c : TypeId
 t : TypeId
 b : TypeId
mutual
def Gb (y : Tys) : HT → List Be
 | .mk _ _ _ r v ks u ss x => Aj 2 y.c v r.length (A8 r) :: Aj 6 y.t u ks.length (Bl (ks.map HT.tp)) :: Aj 2 y.b x ss.length (G0 (ss.map HB.bp)) :: (F9 y ks ++ Pz y ss)
def F9 (y : Tys) : List HT → List Be
 | [] => []
 | h :: hs => Gb y h ++ F9 y hs
def Pz (y : Tys) : List HB → List Be
 | [] => []
 | .mk f v ks u :: bs => (Aj 2 y.c v f.length (A8 f) :: Aj 6 y.t u ks.length (Bl (ks.map HT.tp)) :: F9 y ks) ++ Pz y bs
end
def brR (y : Tys) : HB → List Be
 | .mk f v ks u => Aj 2 y.c v f.length (A8 f) :: Aj 6 y.t u ks.length (Bl (ks.map HT.tp)) :: F9 y ks
theorem B5u (y : Tys) : ∀ l, F9 y l = l.flatMap (Gb y)
 | [] => by simp [F9]
 | h :: hs => by simp [F9, B5u y hs]
theorem C3r (y : Tys) : ∀ l, Pz y l = l.flatMap (brR y)
 | [] => by simp [Pz]
 | .mk f v ks u :: bs => by simp [Pz, brR, C3r y bs]
mutual
def Rp : T → Prop
 | .mk k n nm r ks ss => Ap k ∧ Ap n ∧ nm.size ≤ H0 ∧ ((∀ c, c ∈ r → u32 c) ∧ r.length * 8 ≤ reach) ∧ ks.length * 104 ≤ reach ∧ ss.length * 48 ≤ reach ∧ okL ks ∧ okB ss
def okL : List T → Prop
 | [] => True
 | t :: ts => Rp t ∧ okL ts
def okB : List Br → Prop
 | [] => True
 | .mk f ks :: bs => ((∀ c, c ∈ f → u32 c) ∧ f.length * 8 ≤ reach) ∧ ks.length * 104 ≤ reach ∧ okL ks ∧ okB bs
end
mutual
theorem A1z {ok : Nat → Prop} {w : World} : ∀ {t : T} {vr vk vs : SH}, Ft ok t vr vk vs w → Rp t
 | .mk k n nm r ks ss, vr, vk, vs, h => by
  simp only [Ft] at h
  simp only [Rp]
  obtain ⟨h1, h2, h3, h4, ⟨VR, VK, VS, h6, h7⟩, ⟨VF, VK', h9, h10⟩⟩ := h
  exact ⟨h1, h2, h3, ⟨h4.2, h4.1.2.1⟩, h6.2.1, h9.2.1, B9f h7, D1a h10⟩
theorem B9f {ok : Nat → Prop} {w : World} : ∀ {ts : List T} {VR VK VS : Nat → SH}, Gk ok ts VR VK VS w → okL ts
 | [], _, _, _, _ => by simp only [okL]
 | t :: ts, _, _, _, h => by
  simp only [Gk] at h
  simp only [okL]
  exact ⟨A1z h.1, B9f h.2⟩
theorem D1a {ok : Nat → Prop} {w : World} : ∀ {bs : List Br} {VF VK : Nat → SH}, Ha ok bs VF VK w → okB bs
 | [], _, _, _ => by simp only [okB]
 | .mk f ks :: bs, _, _, h => by
  simp only [Ha, Pa] at h
  simp only [okB]
  obtain ⟨⟨h1, ⟨VR, VK, VS, h2, h3⟩⟩, h4⟩ := h
  exact ⟨⟨h1.2, h1.1.2.1⟩, h2.2.1, B9f h3, D1a h4⟩
end
theorem We {K S M : List Be} {a : Be} : (K ++ (S ++ a :: M)).Perm (a :: (K ++ (S ++ M))) := (List.perm_middle.append_left K).trans List.perm_middle
section
variable {B : Cj} {Γ : List Fact} {Ms : List Be} {w : World}
mutual
theorem St.Ke (y : Tys) {hBp : Prop} (hB : hBp) : ∀ (h : HT) {Γ : List Fact} {Ms : List Be}, Rp h.er → St B Γ (Gb y h ++ Ms) w → St B (RT h.er h.vr h.vk h.vs :: Γ) Ms w
 | .mk k n nm r v ks u ss x, Γ, Ms, hok, hs => by
  simp only [HT.er, Rp] at hok
  obtain ⟨o1, o2, o3, o4, o5, o6, o7, o8⟩ := hok
  simp only [Gb, List.cons_append, List.append_assoc] at hs
  have h1 := hs.Ci (l := r) hB rfl rfl o4.2 o4.1
  -- the rows of kids and branches wait behind the parts
  have h2 : St B (CL r v :: Γ) (F9 y ks ++ (Pz y ss ++ (Aj 6 y.t u ks.length (Bl (ks.map HT.tp)) :: Aj 2 y.b x ss.length (G0 (ss.map HB.bp)) :: Ms))) w := by
   exact h1.perm (((We.trans (We.cons _))).symm)
  have h3 := St.A1c y hB ks [] (by rw [HT.Ll] at o7; exact o7) (by simpa using h2.Rl)
  have h4 := St.B3h y hB ss [] (by rw [HT.Yk] at o8; exact o8) (h3.C3t)
  have h5 := h4.Gt (ps := ks.map HT.tp) (ts := ks.map HT.er) hB D6 rfl (by simp [HT.tp, Function.comp_def]) D6 (by rw [HT.Ll, List.length_map] at o5; exact o5)
  have h6 := h5.Vz (ps := ss.map HB.bp) (bs := ss.map HB.er) hB D6 rfl (by simp [HB.bp, Function.comp_def]) D6 (by rw [HT.Yk, List.length_map] at o6; exact o6)
  have h7 := h6.B9p (k := k) (n := n) (nm := nm) (r := r) (vr := v) (ks := ks.map HT.er) (vk := u) (ss := ss.map HB.er) (vs := x) o1 o2 o3 D6 D6 D6
  simp only [HT.er, HT.Ll, HT.Yk, HT.vr, HT.vk, HT.vs]
  exact h7.less sx_
theorem St.A1c (y : Tys) {hBp : Prop} (hB : hBp) : ∀ (ks : List HT) (ps : List TP) {Γ : List Fact} {Ms : List Be}, okL (ks.map HT.er) → St B (AP ps :: Γ) (F9 y ks ++ Ms) w → St B (AP (ps ++ ks.map HT.tp) :: Γ) Ms w
 | [], ps, Γ, Ms, hok, hs => by simpa [F9] using hs
 | h :: hs', ps, Γ, Ms, hok, hs => by
  simp only [List.map_cons, okL] at hok
  simp only [F9, List.append_assoc] at hs
  have h1 := St.Ke y hB h hok.1 hs
  have h2 := h1.Q0 (ps := ps) (t := h.er) (vr := h.vr) (vk := h.vk) (vs := h.vs) D6 D6
  have h3 := St.A1c y hB hs' (ps ++ [h.tp]) (Γ := Γ) hok.2 (h2.less (by simp +contextual [HT.tp]))
  simpa using h3
theorem St.B3h (y : Tys) {hBp : Prop} (hB : hBp) : ∀ (bs : List HB) (ps : List BP) {Γ : List Fact} {Ms : List Be}, okB (bs.map HB.er) → St B (BPs ps :: Γ) (Pz y bs ++ Ms) w → St B (BPs (ps ++ bs.map HB.bp) :: Γ) Ms w
 | [], ps, Γ, Ms, hok, hs => by simpa [Pz] using hs
 | .mk f v ks u :: bs, ps, Γ, Ms, hok, hs => by
  simp only [List.map_cons, HB.er, okB] at hok
  obtain ⟨o1, o2, o3, o4⟩ := hok
  simp only [Pz, List.cons_append, List.append_assoc] at hs
  have h1 := hs.Ci (l := f) hB rfl rfl o1.2 o1.1
  have h2 : St B (CL f v :: BPs ps :: Γ) (F9 y ks ++ (Aj 6 y.t u ks.length (Bl (ks.map HT.tp)) :: (Pz y bs ++ Ms))) w := h1.perm (by exact List.perm_middle.symm)
  have h3 := St.A1c y hB ks [] (by rw [HT.Ll] at o3; exact o3) (by simpa using h2.Rl)
  have h4 := h3.Gt (ps := ks.map HT.tp) (ts := ks.map HT.er) hB D6 rfl (by simp [HT.tp, Function.comp_def]) D6 (by rw [HT.Ll, List.length_map] at o2; exact o2)
  have h5 := h4.C3u (ps := ps) (f := f) (ks := ks.map HT.er) (vf := v) (vk := u) D6 D6 D6
  have h6 := St.B3h y hB bs (ps ++ [(.mk f (ks.map HT.er), v, u)]) (Γ := Γ) o4 (h5.less sx_)
  simpa [HB.bp, HB.er, HB.vf, HB.vk, HT.Ll] using h6
end
end
end Go.Hy
namespace Go.Hy
section
variable {B : Cj} {Γ : List Fact} {Ms K S : List Be} {w : World} {a b c : Be}
theorem St.E6h (hs : St B Γ (a :: b :: c :: Di K :: Di S :: Ms) w) : St B Γ (Di (a :: b :: c :: (K ++ S)) :: Ms) w := by
 have h1 : St B Γ (Di K :: Di S :: a :: b :: c :: Ms) w := hs.perm (Dz.trans (Dz.cons _))
 have h2 : St B Γ (Di S :: (K ++ a :: b :: c :: Ms)) w := h1.unpack.perm List.perm_middle
 have h3 : St B Γ (K ++ (S ++ a :: b :: c :: Ms)) w := h2.unpack.perm (by rw [← List.append_assoc, ← List.append_assoc]; exact List.perm_append_comm.append_right _)
 exact St.pack (L := a :: b :: c :: (K ++ S)) (by
  simp only [List.cons_append, List.append_assoc]
  exact h3.perm (We.trans ((We.trans (We.cons _)).cons _)))
theorem St.E6i (hs : St B Γ (a :: b :: Di K :: Di S :: Ms) w) : St B Γ (Di (S ++ (a :: b :: K)) :: Ms) w := by
 have h1 : St B Γ (Di K :: Di S :: a :: b :: Ms) w := hs.perm (Bf.trans (Bf.cons _))
 have h2 : St B Γ (Di S :: (K ++ a :: b :: Ms)) w := h1.unpack.perm List.perm_middle
 have h3 : St B Γ (S ++ (K ++ a :: b :: Ms)) w := h2.unpack
 exact St.pack (L := S ++ (a :: b :: K)) (by
  have : (S ++ a :: b :: K) ++ Ms = S ++ (a :: b :: (K ++ Ms)) := by simp
  rw [this]
  exact h3.perm ((List.perm_middle.trans (List.perm_middle.cons _)).append_left S))
theorem St.D2j {y : Tys} {hs : List HT} {h : HT} (h0 : St B Γ (Di (Gb y h) :: Di (F9 y hs) :: Ms) w) : St B Γ (Di (F9 y (hs ++ [h])) :: Ms) w := by
 have := h0.D7w
 rwa [show F9 y hs ++ Gb y h = F9 y (hs ++ [h]) by simp [B5u]] at this
theorem St.D9c {y : Tys} {bs : List HB} {f : List Cl} {v u : SH} {ks : List HT} {n m : Nat} {fl tl : List Value} (hn : n = f.length) (hm : m = ks.length) (hf : fl = A8 f) (ht : tl = Bl (ks.map HT.tp)) (h0 : St B Γ (Aj 2 y.c v n fl :: Aj 6 y.t u m tl :: Di (F9 y ks) :: Di (Pz y bs) :: Ms) w) : St B Γ (Di (Pz y (bs ++ [.mk f v ks u])) :: Ms) w := by
 subst hn; subst hm; subst hf; subst ht
 have := h0.E6i
 rwa [show Pz y bs ++ (Aj 2 y.c v f.length (A8 f) :: Aj 6 y.t u ks.length (Bl (ks.map HT.tp)) :: F9 y ks) = Pz y (bs ++ [.mk f v ks u]) by simp [C3r, brR]] at this
theorem St.D2i {y : Tys} {k n : Int} {nm : ByteArray} {r : List Cl} {v u x : SH} {ks : List HT} {ss : List HB} {n1 n2 n3 : Nat} {l1 l2 l3 : List Value} (e1 : n1 = r.length) (e2 : n2 = ks.length) (e3 : n3 = ss.length) (f1 : l1 = A8 r) (f2 : l2 = Bl (ks.map HT.tp)) (f3 : l3 = G0 (ss.map HB.bp))
  (h0 : St B Γ (Aj 2 y.c v n1 l1 :: Aj 6 y.t u n2 l2 :: Aj 2 y.b x n3 l3 :: Di (F9 y ks) :: Di (Pz y ss) :: Ms) w) : St B Γ (Di (Gb y (.mk k n nm r v ks u ss x)) :: Ms) w := by
 subst e1; subst e2; subst e3; subst f1; subst f2; subst f3
 simpa only [Gb] using h0.E6h
end
end Go.Hy
namespace Go.Hy
section
variable {P : Program} {f : FuncId} {R : Ending → World → Prop} {B : Cj} {n : Fz} {K : List Item} {σ : Nat → Value} {Γ LF : List Fact} {Ms Ms2 Ms' : List Be} {todo : List Item} {w : World}
theorem Jb (h : Ms = Ms') (k : Fi P f R B n todo σ Γ Ms') : Fi P f R B n todo σ Γ Ms := h ▸ k
theorem St.B9 {b : Nat} {cs : List Value} {T : TypeId} {hBp : Prop} (hB : hBp) (hs : St B Γ (Ad b cs T :: Ms) w) : St B (At b 0 cs :: Γ) Ms w := by
 refine hs.T6 hB (fun ok hok hh => ⟨hok b rfl, fun j v hj => ?_⟩)
 have hh : w.heap[b]? = some (.cells cs.toArray T (0, 0)) := hh
 simp [World.cell?, hh, hj]
end
end Go.Hy
namespace Go.Hy
section
variable {B : Cj} {Γ : List Fact} {Ms K S : List Be} {w : World} {a b c : Be}
def h0 : HT := .mk 0 0 (ByteArray.mk #[]) [] (none, 0) [] (none, 0) [] (none, 0)
def hb0 : HB := .mk [] (none, 0) [] (none, 0)
theorem Spec.conv {P : Program} {k : FuncId} {args args' : Array Value} {pre : List Fact} {Ms0 Ms0' : List Be} {X : Type} {val : X → Value} {N : X → List Fact} {Ms1 : X → List Be} (h : Spec P k args pre Ms0 val N Ms1) (ha : args = args') (hd : ∀ b, Bq Ms0' b ↔ Bq Ms0 b) (hs : ∀ B w, St B pre Ms0' w → St B pre Ms0 w) : Spec P k args' pre Ms0' val N Ms1 := by
 subst ha
 have e : Bq Ms0' = Bq Ms0 := funext fun b => propext (hd b)
 intro ok w hok hst
 rw [e] at hst ⊢
 exact h ok w (fun b hb => ⟨(hok b hb).1, fun hc => (hok b hb).2 ((hd b).2 hc)⟩) (hs _ _ hst)
mutual
theorem HT.F0b {P : HT → Prop} (h : ∀ k n nm r v ks u ss x, (∀ c, c ∈ ks → P c) → P (.mk k n nm r v ks u ss x)) : ∀ t, P t
 | .mk k n nm r v ks u ss x => h k n nm r v ks u ss x (HT.C6n h ks)
theorem HT.C6n {P : HT → Prop} (h : ∀ k n nm r v ks u ss x, (∀ c, c ∈ ks → P c) → P (.mk k n nm r v ks u ss x)) : ∀ ts : List HT, ∀ c, c ∈ ts → P c
 | [], _, hc => by cases hc
 | t :: ts, c, hc => by
  rcases List.mem_cons.mp hc with e | hc
  ·rw [e]; exact HT.F0b h t
  ·exact HT.C6n h ts c hc
end
end
end Go.Hy
namespace Go.Hy
section
variable {tn : Bool} {pn : Nat} {P : Program} [Tab P] {f : FuncId} {R : Ending → World → Prop} {B : Cj} {n : Fz} {K : List Item} {ops : Array Oper} {i : Nat} {l fin : List Nat} {σ : Nat → Value} {Γ : List Fact} {Ms Ms2 : List Be}
variable {dst : Option Tmp} {op : Op} {ty : TypeId} {pos : String} {after : Array Edge} {v : Value} {x y z : Operand}
theorem B9i {t t' : TypeId} {k2 : IntKind} {a m : Nat} (k_ : F0 P f R B n K ops l (Ao σ dst (.int .u64 ((a * 2 ^ m : Nat) : Int))) Γ Ms) (hx : ev σ x = .int .u64 (a : Int) := by exact Aa) (hy : ev σ y = .int k2 (m : Int) := by exact Aa) (hm : m ≤ 64 := by first | assumption | omega) (hb : a * 2 ^ m < 18446744073709551616 := by first | assumption | omega) (hd : Ag n dst = true := by rfl) : Fq P f R B n K ops l (D0 dst (.binOp .shl t x y t') ty) σ Γ Ms := Bu (D5v hx hy hm hb) hd k_
theorem E0y {t t' : TypeId} {a b : Nat} (k_ : F0 P f R B n K ops l (Ao σ dst (.int .u64 ((a - b : Nat) : Int))) Γ Ms) (hx : ev σ x = .int .u64 (a : Int) := by exact Aa) (hy : ev σ y = .int .u64 (b : Int) := by exact Aa) (h : b ≤ a := by first | assumption | omega) (ha : a < 18446744073709551616 := by first | assumption | omega) (hd : Ag n dst = true := by rfl) : Fq P f R B n K ops l (D0 dst (.binOp .sub t x y t') ty) σ Γ Ms := Bu (D5t hx hy h ha) hd k_
theorem B4w {s d : TypeId} {a : Nat} (k_ : F0 P f R B n K ops l (Ao σ dst (.int .u32 (a : Int))) Γ Ms) (hx : ev σ x = .int .u64 (a : Int) := by exact Aa) (ha : a < 4294967296 := by first | assumption | omega) (hs : Tab.und P s = some (.int .u64) := by rfl) (hd' : Tab.und P d = some (.int .u32) := by rfl) (hd : Ag n dst = true := by rfl) : Fq P f R B n K ops l (D0 dst (.convert s d x) ty) σ Γ Ms := Bu (C5p hs hd' hx ha) hd k_
theorem M4 {s d : TypeId} {a : Int} {m : Nat} (k_ : F0 P f R B n K ops l (Ao σ dst (.int .u64 (m : Int))) Γ Ms) (hx : ev σ x = .int .i64 a := by exact Aa) (ha : a = (m : Int) := by first | assumption | omega) (hm : m < 18446744073709551616 := by omega) (hs : Tab.und P s = some (.int .i64) := by rfl) (hd' : Tab.und P d = some (.int .u64) := by rfl) (hd : Ag n dst = true := by rfl) : Fq P f R B n K ops l (D0 dst (.convert s d x) ty) σ Γ Ms := Bu (C5n hs hd' hx ha hm) hd k_
theorem E6r {t : TypeId} {d : TypeDesc} {bk o i' : Nat} {a : SH} {ls : List Int} (k_ : F0 P f R B n K ops l (Ao σ dst (.int .i64 (ls.getD i' 0))) Γ Ms) (hx : ev σ x = .pointer (some ⟨bk, o + i' * 1, none⟩) := by exact Aa) (hFa : IL ls a ∈ Γ ∧ a.1 = some ⟨bk, o, none⟩ := by exact ma0_) (hu : Tab.und P t = some d := by rfl) (hd' : (match d with | .struct _ | .array _ _ => true | _ => false) = false := by rfl) (hlt : i' < ls.length := by omega) (hd : Ag n dst = true := by rfl) : Fq P f R B n K ops l (D0 dst (.load t x) ty) σ Γ Ms := Kb (E2a hx hFa.1 hFa.2 hu hd' hlt) hd k_
theorem D5f {t e : TypeId} {ts : Array TypeId} {bt n' : Nat} {zv : Value} {a b : SH} {xs : List Value} {ls : List Cl} (k_ : ∀ a' : SH, NV tn pn P f R B n K ops fin l (Ao σ dst (sl a' (n' + ls.length))) Γ (Aj 2 e a' (n' + ls.length) (xs ++ A8 ls) :: Ms2)) (hF : CL ls b ∈ Γ) (hm : Ms.Perm (Aj 2 e a n' xs :: Ms2) := by first | exact Wf | exact Ak | exact Bf | exact Dz | exact F3 | exact J7 | exact Ds) (hx : ev σ x = sl a n' := by rfl) (hy : ev σ y = sl b ls.length := by rfl) (hts : ts = #[t, t] := by rfl) (hu : Tab.und P t = some (.slice e) := by rfl) (hi : Tab.inf P e = some (2, bt, zv) := by rfl) (hzs : zv.cells.size = 2 := by rfl) (hb : (n' + ls.length) * bt ≤ 140737488355328 := by first | omega | (unfold reach at *; omega) | (unfold reach H0 at *; omega)) (hnm : n' + ls.length ≤ 9223372036854775807 := by first | omega | (unfold reach at *; omega) | (unfold reach H0 at *; omega)) (hd : Ag n dst = true := by rfl) : Kx tn pn P f R B n K ops fin i l dst (.call { callee := .builtin .append, args := #[x, y], argTypes := ts }) ty σ Γ Ms := D6h (r := [Aj 2 e a n' xs]) (r' := fun a' => [Aj 2 e a' (n' + ls.length) (xs ++ A8 ls)]) (fun M => B3a (List.Perm.refl _) hF hx hy hts hu hi hzs hb hnm) rfl hd hm k_
end
section
variable {tn : Bool} {pn : Nat} {P : Program} [Tab P] {f : FuncId} {R : Ending → World → Prop} {B : Cj} {n : Fz} {K : List Item} {ops : Array Oper} {i : Nat} {l fin : List Nat} {σ : Nat → Value} {Γ : List Fact} {Ms Ms2 : List Be}
variable {dst : Option Tmp} {op : Op} {ty : TypeId} {pos : String} {after : Array Edge} {v : Value} {x y z : Operand}
theorem E6p {t : TypeId} {d : TypeDesc} {bk k : Nat} {cs : List Value} (k_ : F0 P f R B n K ops l (Ao σ dst v) Γ Ms) (hx : ev σ x = .pointer (some ⟨bk, k, none⟩) := by exact Aa) (hF : At bk 0 cs ∈ Γ := by repeat (first | exact List.mem_cons_self | apply List.mem_cons_of_mem)) (hu : Tab.und P t = some d := by rfl) (hd' : (match d with | .struct _ | .array _ _ => true | _ => false) = false := by rfl) (hk : cs[k]? = some v := by exact Aa) (hd : Ag n dst = true := by rfl) : Fq P f R B n K ops l (D0 dst (.load t x) ty) σ Γ Ms := Kb (D1w (o := 0) (by rw [Nat.zero_add]; exact hx) hF hu hd' hk) hd k_
theorem Fl {t : TypeId} {d : TypeDesc} {bk k : Nat} {cs : List Value} (k_ : NV tn pn P f R B n K ops fin l (Ao σ dst v) Γ Ms) (hx : ev σ x = .pointer (some ⟨bk, k, none⟩) := by exact Aa) (hF : At bk 0 cs ∈ Γ := by repeat (first | exact List.mem_cons_self | apply List.mem_cons_of_mem)) (hu : Tab.und P t = some d := by rfl) (hd' : (match d with | .struct _ | .array _ _ => true | _ => false) = false := by rfl) (hk : cs[k]? = some v := by exact Aa) (hd : Ag n dst = true := by rfl) : Kx tn pn P f R B n K ops fin i l dst (.load t x) ty σ Γ Ms := A2g (D1w (o := 0) (by rw [Nat.zero_add]; exact hx) hF hu hd' hk) rfl hd k_
theorem E0z {t : TypeId} {l' : List (Nat × Nat)} {s bt bk k : Nat} {zv : Value} {cs cs' : List Value} (k_ : F0 P f R B n K ops l (Ao σ dst (.agg cs'.toArray)) Γ Ms) (hx : ev σ x = .pointer (some ⟨bk, k, none⟩) := by exact Aa) (hF : At bk 0 cs ∈ Γ := by repeat (first | exact List.mem_cons_self | apply List.mem_cons_of_mem)) (hu : Tab.lay P t = some l' := by rfl) (hi : Tab.inf P t = some (s, bt, zv) := by rfl) (hk : (cs.drop k).take s = cs' := by rfl) (hl : cs'.length = s := by rfl) (hd : Ag n dst = true := by rfl) : Fq P f R B n K ops l (D0 dst (.load t x) ty) σ Γ Ms := Kb (D1y (o := 0) (by rw [Nat.zero_add]; exact hx) hF hu hi hk hl) hd k_
theorem Mc {t : TypeId} {l' : List (Nat × Nat)} {s bt bk k : Nat} {zv : Value} {cs cs' : List Value} (k_ : NV tn pn P f R B n K ops fin l (Ao σ dst (.agg cs'.toArray)) Γ Ms) (hx : ev σ x = .pointer (some ⟨bk, k, none⟩) := by exact Aa) (hF : At bk 0 cs ∈ Γ := by repeat (first | exact List.mem_cons_self | apply List.mem_cons_of_mem)) (hu : Tab.lay P t = some l' := by rfl) (hi : Tab.inf P t = some (s, bt, zv) := by rfl) (hk : (cs.drop k).take s = cs' := by rfl) (hl : cs'.length = s := by rfl) (hd : Ag n dst = true := by rfl) : Kx tn pn P f R B n K ops fin i l dst (.load t x) ty σ Γ Ms := A2g (D1y (o := 0) (by rw [Nat.zero_add]; exact hx) hF hu hi hk hl) rfl hd k_
end
section
variable {α : Type}
def A4n (E : α → Fact) (l : List α) : Fact := ⟨fun ok w => ∀ x, x ∈ l → (E x).f ok w, fun _ _ _ hs h x hx => (E x).mono _ _ _ hs (h x hx), fun _ _ _ h hs x hx => (E x).loc _ _ _ (h x hx) hs⟩
def B7u (sz bt : Nat) (F : α → List Value) (E : α → Fact) (d : α) (l : List α) (a : SH) : Fact := ⟨fun ok w => rowAt ok sz bt l.length a (fun i => F (l.getD i d)) w ∧ ∀ x, x ∈ l → (E x).f ok w,
 fun _ _ _ hs h => ⟨h.1.mono hs, fun x hx => (E x).mono _ _ _ hs (h.2 x hx)⟩, fun _ _ _ h hs => ⟨h.1.loc hs, fun x hx => (E x).loc _ _ _ (h.2 x hx) hs⟩⟩
variable {B : Cj} {Γ : List Fact} {Ms : List Be} {w : World} {E : α → Fact} {F : α → List Value} {sz bt n : Nat} {d : α} {l : List α} {a : SH}
theorem St.A4h (E : α → Fact) (hs : St B Γ Ms w) : St B (A4n E [] :: Γ) Ms w := hs.add (fun x hx => by cases hx)
theorem St.Yu {x : α} (hs : St B Γ Ms w) (h1 : A4n E l ∈ Γ) (h2 : E x ∈ Γ) : St B (A4n E (l ++ [x]) :: Γ) Ms w := by
 refine hs.add (fun y hy => ?_)
 rcases List.mem_append.mp hy with hy | hy
 ·exact hs.facts _ h1 y hy
 ·rw [List.mem_singleton] at hy; subst hy; exact hs.facts _ h2
theorem St.N3 {e : TypeId} {xs : List Value} (hF : ∀ x, (F x).length = sz) (hs : St B Γ (Aj sz e a n xs :: Ms) w) {hBp : Prop} (hB : hBp) (hA : A4n E l ∈ Γ) (hx : xs = l.flatMap F) (hn : n = l.length) (hb : n * bt ≤ reach) : St B (B7u sz bt F E d l a :: Γ) Ms w := by
 subst hx
 have hrow := hs.T6 (F := ⟨fun ok w => rowAt ok sz bt n a (fun i => F (l.getD i d)) w, fun _ _ _ hs h => h.mono hs, fun _ _ _ h hs => h.loc hs⟩) hB (fun ok hok hh => Pm (F := F) hF d (hh : World.ownsRow _ _ _ _ _ _ _) hn hb hok)
 have hr2 := hrow.facts _ List.mem_cons_self
 have h3 := hrow.facts _ (List.mem_cons_of_mem _ hA)
 exact hs.drop.add ⟨hn ▸ hr2, h3⟩
theorem St.D5y (hs : St B Γ Ms w) (hF : B7u sz bt F E d l a ∈ Γ) : l.length * bt ≤ reach ∧ (0 < l.length → ∃ b o, a.1 = some ⟨b, o, Option.none⟩) := by
 obtain ⟨h2, _⟩ := hs.facts _ hF
 exact ⟨h2.2.1, fun hn => by obtain ⟨b, o, h3, _⟩ := h2.2.2 hn; exact ⟨b, o, h3⟩⟩
theorem St.D5m {i : Nat} (hs : St B Γ Ms w) (hF : B7u sz bt F E d l a ∈ Γ) (hi : i < l.length) : St B (E (l.getD i d) :: Γ) Ms w := hs.add ((hs.facts _ hF).2 _ (Ac hi))
end
section
variable {α : Type} {P : Program} {f : FuncId} {R : Ending → World → Prop} {B : Cj} {n : Fz} {todo : List Item} {σ : Nat → Value} {Γ : List Fact} {Ms : List Be} {E : α → Fact} {F : α → List Value} {sz bt : Nat} {d : α} {l : List α} {a : SH}
theorem Ia (hF : B7u sz bt F E d l a ∈ Γ) (k : l.length * bt ≤ reach → (0 < l.length → ∃ b o, a.1 = some ⟨b, o, none⟩) → Fi P f R B n todo σ Γ Ms) : Fi P f R B n todo σ Γ Ms := Bs (p := l.length * bt ≤ reach ∧ (0 < l.length → ∃ b o, a.1 = some ⟨b, o, none⟩)) (fun w hs => hs.D5y hF) (fun h => k h.1 h.2)
theorem Ot (hF : B7u sz bt F E d l a ∈ Γ) (i : Nat) (hi : i < l.length) (k : Fi P f R B n todo σ (E (l.getD i d) :: Γ) Ms) : Fi P f R B n todo σ Γ Ms := A1 (fun w hs => hs.D5m hF hi) k
variable [Tab P] {x y : Operand} {v : Value} {ty : TypeId}
theorem D6n {t : TypeId} {d' : TypeDesc} {bk o i k : Nat} (hx : ev σ x = .pointer (some ⟨bk, o + i * sz + k, none⟩)) (hF : B7u sz bt F E d l a ∈ Γ) (ha : a.1 = some ⟨bk, o, none⟩) (hu : Tab.und P t = some d') (hd : (match d' with | .struct _ | .array _ _ => true | _ => false) = false) (hk : (F (l.getD i d))[k]? = some v) (hlt : i < l.length) :
  O6 P B σ Γ Ms (.load t x) ty v := fun w hs => by
 have h3 := (N5 (hs.facts _ hF).1 ha hlt).2 k v hk
 simp [D0, execOp, hx, Instr.loadAt, Instr.sureAddr, G8 hu hd h3]
theorem C3c {t : TypeId} {d' : TypeDesc} {bk o i : Nat} (hx : ev σ x = .pointer (some ⟨bk, o + i * 1, none⟩)) (hF : B7u 1 bt F E d l a ∈ Γ) (ha : a.1 = some ⟨bk, o, none⟩) (hu : Tab.und P t = some d') (hd : (match d' with | .struct _ | .array _ _ => true | _ => false) = false) (hk : (F (l.getD i d))[0]? = some v) (hlt : i < l.length) :
  O6 P B σ Γ Ms (.load t x) ty v := D6n (k := 0) hx hF ha hu hd hk hlt
end
abbrev QP := TP × Int × Int
def qE (q : QP) : Fact := RT q.1.1 q.1.2.1 q.1.2.2.1 q.1.2.2.2
abbrev IP := List Int × SH
def ipE (p : IP) : Fact := IL p.1 p.2
abbrev CP := List Cl × SH
def D2 (p : CP) : List Value := [sl p.2 p.1.length]
abbrev Ln (l : List CP) : List Value := l.flatMap D2
def E8 : CP := ([], (none, 0))
abbrev Rk (p : CP) : Fact := CL p.1 p.2
abbrev Md (l : List CP) (a : SH) : Fact := B7u 1 24 D2 Rk E8 l a
section
variable {B : Cj} {Γ : List Fact} {Ms : List Be} {w : World}
theorem St.C9h {e : TypeId} {a : SH} {n : Nat} {l : List CP} {q : CP} {cs : List Value} (hc : cs = D2 q) (hs : St B Γ (Aj 1 e a n (Ln l ++ cs) :: Ms) w) : St B Γ (Aj 1 e a n (Ln (l ++ [q])) :: Ms) w := by
 subst hc
 have h : Ln (l ++ [q]) = Ln l ++ D2 q := by simp [Ln]
 rw [h]; exact hs
theorem St.D8x {e : TypeId} {b : Nat} {l : List Cl} {a : SH} (hs : St B Γ (Ad b [sl a l.length] e :: Ms) w) {hBp : Prop} (hB : hBp) (hF : CL l a ∈ Γ) : St B (Md [(l, a)] (some ⟨b, 0, Option.none⟩, 1) :: Γ) Ms w :=
 ((((hs.Jn (sz := 1) (m := 1) rfl Iy).A4h Rk).Yu (x := (l, a)) List.mem_cons_self (List.mem_cons_of_mem _ hF)).N3 (F := D2) (E := Rk) (d := E8) (bt := 24) (l := [(l, a)]) (fun _ => rfl) hB List.mem_cons_self rfl rfl Iy).less sx_
end
section
variable {P : Program} [Tab P] {B : Cj} {σ : Nat → Value} {Γ : List Fact} {Ms Ms2 : List Be} {ty : TypeId} {x y z : Operand} {v : Value}
end
section
variable {P : Program} [Tab P] {f : FuncId} {fn : Func} {B : Cj} {n : Fz} {K : List Item} {σ : Nat → Value} {Γ : List Fact} {Ms : List Be} {X : Type} {val : X → Value} {N : X → List Fact} {Ms1 : X → List Be}
theorem E4 {r t T : Nat} {r2 : Tmp} {b s bt : Nat} {zv v2 : Value} {lay : List (Nat × Nat)} {cs : List Value} (hf : P.funcs[f]? = some fn) (hr : fn.results = #[.cell r t, .tmp r2]) (x : X) (hb : σ r = .pointer (some ⟨b, 0, none⟩)) (hm : Ad b cs T ∈ Ms) (hl : Tab.lay P t = some lay) (hi : Tab.inf P t = some (s, bt, zv)) (hcs : cs.length = s) (h2 : σ r2 = v2) (hv : Value.tuple #[.agg cs.toArray, v2] = val x) (hs : ∀ w, St B Γ Ms w → St B (N x) (Ms1 x) w) (hD : n.defs = [] := by rfl) (hK : okK n.kind := by first | exact .inl rfl | exact .inr rfl) : Fi P f (Ends B val N Ms1) B n (.code .ret :: K) σ Γ Ms :=
 go_ret hf (fun a w ha h => by
  have h1 := ha.get r
  rw [hb] at h1
  have h3 := ha.get r2
  rw [h2] at h3
  have h4 := Ei (P := P) (bk := b) (off := 0) (w := w) hl hi hcs (fun j v hj => by rw [Nat.zero_add]; exact O5 h hm j v hj)
  have h1' : (a.tmps[r]?.getD undef) = .pointer (some ⟨b, 0, none⟩) := by simpa [Array.getD_eq_getD_getElem?] using h1
  have h3' : (a.tmps[r2]?.getD undef) = v2 := by simpa [Array.getD_eq_getD_getElem?] using h3
  simp [results, hr, asAddr, h1', h4, h3', ← hv]) (fun w h => ⟨x, rfl, hs w h⟩) hD hK
theorem St.I4 {w : World} (hs : St B Γ Ms w) : St B (RT t0 (Option.none, 0) (Option.none, 0) (Option.none, 0) :: Γ) Ms w :=
 ((((hs.Zf 0).A7p 0).D1i 0).B9p (k := 0) (n := 0) (nm := ⟨#[]⟩) (r := []) (ks := []) (ss := []) (vr := (Option.none, 0)) (vk := (Option.none, 0)) (vs := (Option.none, 0)) (by unfold Ap; omega) (by unfold Ap; omega) (Nat.zero_le _) D6 D6 D6).less (by simp +contextual [t0])
end
section
variable {tn : Bool} {pn : Nat} {P : Program} [Tab P] {f : FuncId} {R : Ending → World → Prop} {B : Cj} {n : Fz} {K : List Item} {ops : Array Oper} {i : Nat} {l fin : List Nat} {σ : Nat → Value} {Γ : List Fact} {Ms Ms2 : List Be}
variable {dst : Option Tmp} {op : Op} {ty : TypeId} {pos : String} {after : Array Edge} {v : Value} {x y z : Operand}
theorem B0r {t : TypeId} {d : TypeDesc} {bk o i' : Nat} {a : SH} {ls : List CP} (k_ : F0 P f R B n K ops l (Ao σ dst v) Γ Ms) (hx : ev σ x = .pointer (some ⟨bk, o + i' * 1, none⟩) := by exact Aa) (hFa : Md ls a ∈ Γ ∧ a.1 = some ⟨bk, o, none⟩ := by exact ma0_) (hu : Tab.und P t = some d := by rfl) (hd' : (match d with | .struct _ | .array _ _ => true | _ => false) = false := by rfl) (hk : (D2 (ls.getD i' E8))[0]? = some v := by exact Aa) (hlt : i' < ls.length := by first | omega | (simp only [List.length_map, List.length_set]; omega) | (simp; omega)) (hd : Ag n dst = true := by rfl) : Fq P f R B n K ops l (D0 dst (.load t x) ty) σ Γ Ms := Kb (C3c hx hFa.1 hFa.2 hu hd' hk hlt) hd k_
theorem B1n {t : TypeId} {d : TypeDesc} {bk o i' : Nat} {a : SH} {ls : List CP} (k_ : NV tn pn P f R B n K ops fin l (Ao σ dst v) Γ Ms) (hx : ev σ x = .pointer (some ⟨bk, o + i' * 1, none⟩) := by exact Aa) (hFa : Md ls a ∈ Γ ∧ a.1 = some ⟨bk, o, none⟩ := by exact ma0_) (hu : Tab.und P t = some d := by rfl) (hd' : (match d with | .struct _ | .array _ _ => true | _ => false) = false := by rfl) (hk : (D2 (ls.getD i' E8))[0]? = some v := by exact Aa) (hlt : i' < ls.length := by first | omega | (simp only [List.length_map, List.length_set]; omega) | (simp; omega)) (hd : Ag n dst = true := by rfl) : Kx tn pn P f R B n K ops fin i l dst (.load t x) ty σ Γ Ms := A2g (C3c hx hFa.1 hFa.2 hu hd' hk hlt) rfl hd k_
end
section
variable {tn : Bool} {pn : Nat} {P : Program} [Tab P] {f : FuncId} {R : Ending → World → Prop} {B : Cj} {n : Fz} {K : List Item} {ops : Array Oper} {i : Nat} {l fin : List Nat} {σ : Nat → Value} {Γ : List Fact} {Ms Ms2 : List Be}
variable {dst : Option Tmp} {op : Op} {ty : TypeId} {pos : String} {after : Array Edge} {v : Value} {x y z : Operand}
theorem C8t {t t' : TypeId} {k : IntKind} {a b : Int} (k_ : NV tn pn P f R B n K ops fin l (Ao σ dst (.bool true)) Γ Ms) (hx : ev σ x = .int k a := by exact Aa) (hy : ev σ y = .int k b := by exact Aa) (hp : a = b := by first | omega | (simp; done)) (hd : Ag n dst = true := by rfl) : Kx tn pn P f R B n K ops fin i l dst (.binOp .eql t x y t') ty σ Γ Ms := Dp (show D4 P σ (.binOp .eql t x y t') ty (.bool true) from (decide_eq_true hp : decide (a = b) = true) ▸ B9b hx hy) hd k_
theorem C8q {t T' : TypeId} {b s bt : Nat} {zv : Value} {cs cs' : List Value} (k_ : NV tn pn P f R B n K ops fin l σ Γ (Ad b cs' T' :: Ms2)) (hx : ev σ x = .pointer (some ⟨b, 0, none⟩) := by exact Aa) (hm : Ms.Perm (Ad b cs T' :: Ms2) := by first | exact Wf | exact Ak | exact Bf | exact Dz | exact F3 | exact J7 | exact Ds | exact I7 | exact Hl) (hy : (ev σ y).cells = cs'.toArray := by rfl) (hi : Tab.inf P t = some (s, bt, zv) := by rfl) (hl : cs'.length = s := by rfl) (hl2 : cs.length = s := by rfl) (h1 : Hm cs' = true := by rfl) : Kx tn pn P f R B n K ops fin i l none (.store t x y) ty σ Γ Ms := D1h (r := [Ad b cs T']) (r' := [Ad b cs' T']) (fun M => C9j hx hy (List.Perm.refl _) hi hl hl2 h1) rfl hm k_
end
inductive Ab (α : Type) where
 | ok (a : α)
 | bad (e : Int)
structure Tr (C : Type) where
 own : C → Int → Int → ByteArray → List Cl → Ab (T ⊕ (Int × List Cl))
 Al : C → List Cl → Ab (Option (List Cl))
 Jf : C → Int × Int → Ab C
section
variable {C : Type} (A : Tr C)
mutual
def B8 : T → C → Ab T
 | .mk k n nm r ks ss, c => match A.own c k n nm r with
  | .bad e => .bad e
  | .ok (.inl u) => .ok u
  | .ok (.inr p) => match Cm k 0 ks c with
   | .bad e => .bad e
   | .ok ks' => match C9 k ss c with
    | .bad e => .bad e
    | .ok ss' => .ok (.mk k p.1 nm p.2 ks' ss')
def Cm (k : Int) : Nat → List T → C → Ab (List T)
 | _, [], _ => .ok []
 | i, t :: ts, c => match A.Jf c (binds k i) with
  | .bad e => .bad e
  | .ok c' => match B8 t c' with
   | .bad e => .bad e
   | .ok t' => match Cm k (i + 1) ts c with
    | .bad e => .bad e
    | .ok ts' => .ok (t' :: ts')
def C2 (k : Int) : List T → C → Ab (List T)
 | [], _ => .ok []
 | t :: ts, c => match A.Jf c (0, more k) with
  | .bad e => .bad e
  | .ok c' => match B8 t c' with
   | .bad e => .bad e
   | .ok t' => match C2 k ts c with
    | .bad e => .bad e
    | .ok ts' => .ok (t' :: ts')
def C9 (k : Int) : List Br → C → Ab (List Br)
 | [], _ => .ok []
 | .mk f ks :: bs, c => match A.Al c f with
  | .bad e => .bad e
  | .ok none => C9 k bs c
  | .ok (some f') => match C2 k ks c with
   | .bad e => .bad e
   | .ok ks' => match C9 k bs c with
    | .bad e => .bad e
    | .ok bs' => .ok (.mk f' ks' :: bs')
end
variable {A}
def Ab.bind {α β : Type} : Ab α → (α → Ab β) → Ab β
 | .ok a, f => f a
 | .bad e, _ => .bad e
theorem Ab.A2 {α β : Type} {x : Ab α} {f : α → Ab β} {b : β} (h : x.bind f = .ok b) : ∃ a, x = .ok a ∧ f a = .ok b := by
 cases x with
 | ok a => exact ⟨a, rfl, h⟩
 | bad e => cases h
theorem Da (t : T) (c : C) : B8 A t c = (A.own c t.kind t.n t.name t.r).bind fun o => match o with
  | .inl u => .ok u
  | .inr p => (Cm A t.kind 0 t.kids c).bind fun ks' => (C9 A t.kind t.sys c).bind fun ss' => .ok (.mk t.kind p.1 t.name p.2 ks' ss') := by
 obtain ⟨k, n, nm, r, ks, ss⟩ := t
 rw [B8]
 simp only [T.kind, T.n, T.name, T.r, T.kids, T.sys]
 cases A.own c k n nm r with
 | bad e => rfl
 | ok o =>
  cases o with
  | inl u => rfl
  | inr p =>
   simp only [Ab.bind]
   cases Cm A k 0 ks c with
   | bad e => rfl
   | ok ks' =>
    cases C9 A k ss c <;> rfl
theorem Ch (k : Int) (i : Nat) (c : C) : Cm A k i [] c = .ok [] := by rw [Cm]
theorem Cr (k : Int) (i : Nat) (t : T) (ts : List T) (c : C) : Cm A k i (t :: ts) c = (A.Jf c (binds k i)).bind fun c' => (B8 A t c').bind fun t' => (Cm A k (i + 1) ts c).bind fun ts' => .ok (t' :: ts') := by
 rw [Cm]
 cases A.Jf c (binds k i) with
 | bad e => rfl
 | ok c' =>
  simp only [Ab.bind]
  cases B8 A t c' with
  | bad e => rfl
  | ok t' => simp only; cases Cm A k (i + 1) ts c <;> rfl
theorem D3 (k : Int) (c : C) : C2 A k [] c = .ok [] := by rw [C2]
theorem Cq (k : Int) (t : T) (ts : List T) (c : C) : C2 A k (t :: ts) c = (A.Jf c (0, more k)).bind fun c' => (B8 A t c').bind fun t' => (C2 A k ts c).bind fun ts' => .ok (t' :: ts') := by
 rw [C2]
 cases A.Jf c (0, more k) with
 | bad e => rfl
 | ok c' =>
  simp only [Ab.bind]
  cases B8 A t c' with
  | bad e => rfl
  | ok t' => simp only; cases C2 A k ts c <;> rfl
theorem C8 (k : Int) (c : C) : C9 A k [] c = .ok [] := by rw [C9]
theorem Cc (k : Int) (b : Br) (bs : List Br) (c : C) : C9 A k (b :: bs) c = (A.Al c b.Al).bind fun f => match f with
  | none => C9 A k bs c
  | some f' => (C2 A k b.kids c).bind fun ks' => (C9 A k bs c).bind fun bs' => .ok (.mk f' ks' :: bs') := by
 obtain ⟨f, ks⟩ := b
 rw [C9]
 simp only [Br.Al, Br.kids]
 cases A.Al c f with
 | bad e => rfl
 | ok o =>
  cases o with
  | none => rfl
  | some f' =>
   simp only [Ab.bind]
   cases C2 A k ks c with
   | bad e => rfl
   | ok ks' => simp only; cases C9 A k bs c <;> rfl
theorem Qa (k : Int) (c : C) : ∀ (i : Nat) (l : List T) (t : T), Cm A k i (l ++ [t]) c = (Cm A k i l c).bind fun l' => (A.Jf c (binds k ((i + l.length : Nat) : Int))).bind fun c' => (B8 A t c').bind fun t' => .ok (l' ++ [t'])
 | i, [], t => by
  simp only [List.nil_append, Cr, Ch, Ab.bind, List.length_nil, Nat.add_zero]
 | i, a :: l, t => by
  simp only [List.cons_append, Cr, Qa k c (i + 1) l t, List.length_cons]
  rw [show i + 1 + l.length = i + (l.length + 1) by omega]
  cases A.Jf c (binds k i) with
  | bad e => rfl
  | ok c1 =>
   simp only [Ab.bind]
   cases B8 A a c1 with
   | bad e => rfl
   | ok a' =>
    simp only
    cases Cm A k (i + 1) l c with
    | bad e => rfl
    | ok l' =>
     simp only
     cases A.Jf c (binds k ((i + (l.length + 1) : Nat) : Int)) with
     | bad e => rfl
     | ok c2 => simp only; cases B8 A t c2 <;> rfl
theorem Q8 (k : Int) (c : C) : ∀ (l : List T) (t : T), C2 A k (l ++ [t]) c = (C2 A k l c).bind fun l' => (A.Jf c (0, more k)).bind fun c' => (B8 A t c').bind fun t' => .ok (l' ++ [t'])
 | [], t => by simp only [List.nil_append, Cq, D3, Ab.bind]
 | a :: l, t => by
  simp only [List.cons_append, Cq, Q8 k c l t]
  cases A.Jf c (0, more k) with
  | bad e => rfl
  | ok c1 =>
   simp only [Ab.bind]
   cases B8 A a c1 with
   | bad e => rfl
   | ok a' =>
    simp only
    cases C2 A k l c with
    | bad e => rfl
    | ok l' => simp only; cases B8 A t c1 <;> rfl
theorem Nk (k : Int) (c : C) : ∀ (l : List Br) (b : Br), C9 A k (l ++ [b]) c = (C9 A k l c).bind fun l' => (A.Al c b.Al).bind fun f => match f with
  | none => .ok l'
  | some f' => (C2 A k b.kids c).bind fun ks' => .ok (l' ++ [.mk f' ks'])
 | [], b => by
  simp only [List.nil_append, Cc, C8, Ab.bind]
 | a :: l, b => by
  simp only [List.cons_append, Cc, Nk k c l b]
  cases A.Al c a.Al with
  | bad e => rfl
  | ok o =>
   cases o with
   | none => rfl
   | some f' =>
    simp only [Ab.bind]
    cases C2 A k a.kids c with
    | bad e => rfl
    | ok ks' =>
     simp only
     cases C9 A k l c with
     | bad e => rfl
     | ok l' =>
      simp only
      cases A.Al c b.Al with
      | bad e => rfl
      | ok o2 =>
       cases o2 with
       | none => rfl
       | some f2 => simp only; cases C2 A k b.kids c <;> rfl
theorem Xt {k e : Int} {c : C} : ∀ {l m : List T} {i : Nat}, Cm A k i l c = .bad e → Cm A k i (l ++ m) c = .bad e
 | [], m, i, h => by rw [Ch] at h; cases h
 | a :: l, m, i, h => by
  rw [List.cons_append, Cr]
  rw [Cr] at h
  cases h1 : A.Jf c (binds k i) with
  | bad e' => rw [h1] at h; exact h
  | ok c1 =>
   rw [h1] at h
   simp only [Ab.bind] at h ⊢
   cases h2 : B8 A a c1 with
   | bad e' => rw [h2] at h; exact h
   | ok a' =>
    rw [h2] at h
    simp only at h ⊢
    cases h3 : Cm A k (i + 1) l c with
    | bad e' => rw [h3] at h; rw [Xt h3]; exact h
    | ok l' => rw [h3] at h; cases h
theorem Xr {k e : Int} {c : C} : ∀ {l m : List T}, C2 A k l c = .bad e → C2 A k (l ++ m) c = .bad e
 | [], m, h => by rw [D3] at h; cases h
 | a :: l, m, h => by
  rw [List.cons_append, Cq]
  rw [Cq] at h
  cases h1 : A.Jf c (0, more k) with
  | bad e' => rw [h1] at h; exact h
  | ok c1 =>
   rw [h1] at h
   simp only [Ab.bind] at h ⊢
   cases h2 : B8 A a c1 with
   | bad e' => rw [h2] at h; exact h
   | ok a' =>
    rw [h2] at h
    simp only at h ⊢
    cases h3 : C2 A k l c with
    | bad e' => rw [h3] at h; rw [Xr h3]; exact h
    | ok l' => rw [h3] at h; cases h
theorem T5 {k e : Int} {c : C} : ∀ {l m : List Br}, C9 A k l c = .bad e → C9 A k (l ++ m) c = .bad e
 | [], m, h => by rw [C8] at h; cases h
 | a :: l, m, h => by
  rw [List.cons_append, Cc]
  rw [Cc] at h
  cases h1 : A.Al c a.Al with
  | bad e' => rw [h1] at h; exact h
  | ok o =>
   rw [h1] at h
   cases o with
   | none => exact T5 (l := l) h
   | some f' =>
    simp only [Ab.bind] at h ⊢
    cases h2 : C2 A k a.kids c with
    | bad e' => rw [h2] at h; exact h
    | ok a' =>
     rw [h2] at h
     simp only at h ⊢
     cases h3 : C9 A k l c with
     | bad e' => rw [h3] at h; rw [T5 h3]; exact h
     | ok l' => rw [h3] at h; cases h
theorem Pe {k : Int} {c : C} : ∀ {l l' : List T} {i : Nat}, Cm A k i l c = .ok l' → l'.length = l.length
 | [], l', i, h => by rw [Ch] at h; injection h with h; subst h; rfl
 | a :: l, l', i, h => by
  rw [Cr] at h
  obtain ⟨c1, _, h⟩ := Ab.A2 h
  obtain ⟨t', _, h⟩ := Ab.A2 h
  obtain ⟨ts', h3, h⟩ := Ab.A2 h
  injection h with h
  subst h
  simp [Pe h3]
theorem Pd {k : Int} {c : C} : ∀ {l l' : List T}, C2 A k l c = .ok l' → l'.length = l.length
 | [], l', h => by rw [D3] at h; injection h with h; subst h; rfl
 | a :: l, l', h => by
  rw [Cq] at h
  obtain ⟨c1, _, h⟩ := Ab.A2 h
  obtain ⟨t', _, h⟩ := Ab.A2 h
  obtain ⟨ts', h3, h⟩ := Ab.A2 h
  injection h with h
  subst h
  simp [Pd h3]
theorem N2 {k : Int} {c : C} : ∀ {l l' : List Br}, C9 A k l c = .ok l' → l'.length ≤ l.length
 | [], l', h => by rw [C8] at h; injection h with h; subst h; simp
 | a :: l, l', h => by
  rw [Cc] at h
  obtain ⟨o, _, h⟩ := Ab.A2 h
  cases o with
  | none => have := N2 (l := l) h; simp; omega
  | some f' =>
   obtain ⟨ks', _, h⟩ := Ab.A2 h
   obtain ⟨bs', h3, h⟩ := Ab.A2 h
   injection h with h
   subst h
   have := N2 h3
   simp; omega
end
theorem B0f {a0 a1 a2 a3 a4 a5 a6 a7 a8 a9 a10 a11 m : Be} {L : List Be} : (a0 :: a1 :: a2 :: a3 :: a4 :: a5 :: a6 :: a7 :: a8 :: a9 :: a10 :: a11 :: m :: L).Perm (m :: a0 :: a1 :: a2 :: a3 :: a4 :: a5 :: a6 :: a7 :: a8 :: a9 :: a10 :: a11 :: L) := (P2.cons a0).trans Ak
theorem Lc {a0 a1 a2 a3 a4 a5 a6 a7 a8 a9 a10 a11 a12 m : Be} {L : List Be} : (a0 :: a1 :: a2 :: a3 :: a4 :: a5 :: a6 :: a7 :: a8 :: a9 :: a10 :: a11 :: a12 :: m :: L).Perm (m :: a0 :: a1 :: a2 :: a3 :: a4 :: a5 :: a6 :: a7 :: a8 :: a9 :: a10 :: a11 :: a12 :: L) := (B0f.cons a0).trans Ak
theorem Lb {a0 a1 a2 a3 a4 a5 a6 a7 a8 a9 a10 a11 a12 a13 m : Be} {L : List Be} : (a0 :: a1 :: a2 :: a3 :: a4 :: a5 :: a6 :: a7 :: a8 :: a9 :: a10 :: a11 :: a12 :: a13 :: m :: L).Perm (m :: a0 :: a1 :: a2 :: a3 :: a4 :: a5 :: a6 :: a7 :: a8 :: a9 :: a10 :: a11 :: a12 :: a13 :: L) := (Lc.cons a0).trans Ak
theorem La {a0 a1 a2 a3 a4 a5 a6 a7 a8 a9 a10 a11 a12 a13 a14 m : Be} {L : List Be} : (a0 :: a1 :: a2 :: a3 :: a4 :: a5 :: a6 :: a7 :: a8 :: a9 :: a10 :: a11 :: a12 :: a13 :: a14 :: m :: L).Perm (m :: a0 :: a1 :: a2 :: a3 :: a4 :: a5 :: a6 :: a7 :: a8 :: a9 :: a10 :: a11 :: a12 :: a13 :: a14 :: L) := (Lb.cons a0).trans Ak
def X8 (T : TypeId) (e : Int) : List PanicEntry := [{ v := .iface T (.int .i64 e), recovered := false }]
def L5 (P : Program) (T : TypeId) (k : FuncId) (args : Array Value) (pre : List Fact) {α : Type} (r : Ab α) {X : α → Type} (val : ∀ a : α, X a → Value) (N : ∀ a : α, X a → List Fact) (Ms1 : ∀ a : α, X a → List Be) : Prop :=
 (∀ a, r = .ok a → Spec P k args pre [] (val a) (N a) (Ms1 a)) ∧ (∀ e, r = .bad e → Sz P k args pre (X8 T e))
def C4f (B : Cj) (T : TypeId) {α : Type} (r : Ab α) {X : α → Type} (val : ∀ a : α, X a → Value) (N : ∀ a : α, X a → List Fact) (Ms1 : ∀ a : α, X a → List Be) (e : Ending) (w' : World) : Prop :=
 (∀ a, r = .ok a → Ends B (val a) (N a) (Ms1 a) e w') ∧ (∀ x, r = .bad x → e = .panicked (X8 T x) ∧ St B [] [] w')
section
variable {P : Program} {f : FuncId} {B : Cj} {n : Fz} {K : List Item} {σ : Nat → Value} {Γ : List Fact} {Ms : List Be} {todo : List Item} {T : TypeId} {α : Type} {X : α → Type} {r : Ab α} {val : ∀ a : α, X a → Value} {N : ∀ a : α, X a → List Fact} {Ms1 : ∀ a : α, X a → List Be}
theorem Fi.E6y {R R' : Ending → World → Prop} (hm : ∀ e w, R e w → R' e w) (h : Fi P f R B n todo σ Γ Ms) : Fi P f R' B n todo σ Γ Ms := fun a w hr hs b cs hb hk => by
 obtain ⟨e, w', fr, hR, hc, hf, hl⟩ := h a w hr hs b cs hb hk
 exact ⟨e, w', fr, hm _ _ hR, hc, hf, hl⟩
theorem go_ok {a : α} (hr : r = .ok a) (h : Fi P f (Ends B (val a) (N a) (Ms1 a)) B n todo σ Γ Ms) : Fi P f (C4f B T r val N Ms1) B n todo σ Γ Ms :=
 Fi.E6y (fun e w he => ⟨fun b hb => by rw [hr] at hb; injection hb with hb; subst hb; exact he, fun x hx => by rw [hr] at hx; cases hx⟩) h
theorem Mb {β : Type} (q : Ab β) {R : Ending → World → Prop} (h1 : ∀ a, q = .ok a → Fi P f R B n todo σ Γ Ms) (h2 : ∀ e, q = .bad e → Fi P f R B n todo σ Γ Ms) : Fi P f R B n todo σ Γ Ms := by
 cases hq : q with
 | ok a => exact h1 a hq
 | bad e => exact h2 e hq
theorem B1f {K : List Item} {it : Item} {R : Ending → World → Prop} {Ms' : List Be} (p : Prop) (live : List (Nat × Value)) (h1 : (p → ∀ σ', Rm σ' live → Fi P f R B n K σ' Γ Ms') → Fi P f R B n (it :: K) σ Γ Ms) (h2 : p → ∀ base, Fi P f R B n K (stL base live) Γ Ms') : Fi P f R B n (it :: K) σ Γ Ms :=
 h1 (fun hp σ' hl => go_slots live hl (h2 hp))
theorem Fp {e : Int} (hr : r = .bad e) : ∀ w, St B [] [] w → C4f B T r val N Ms1 (.panicked (X8 T e)) w := fun w hs =>
 ⟨fun a ha => (by rw [hr] at ha; cases ha), fun x hx => (by rw [hr] at hx; injection hx with hx; subst hx; exact ⟨rfl, hs⟩)⟩
theorem Ph {k : FuncId} {fn : Func} {c : Code} {args : List Value} {pre : List Fact} {n : Nat} (hf : P.funcs[k]? = some fn) (hn : fn.ntmps = n) (hb : fn.body = some c) (ha : args.length ≤ n)
  (h : ∀ B : Cj, (∀ b, B.S0 b ↔ Bq [] b) → Fi P k (C4f B T r val N Ms1) B ⟨n, [], .normal⟩ [.code c] (fun t => args.getD t undef) pre []) : L5 P T k args.toArray pre r val N Ms1 := by
 have he : (fun t => args.toArray.getD t undef) = fun t => args.getD t undef := by
  funext t
  simp [Array.getD_eq_getD_getElem?, List.getD_eq_getElem?_getD]
 have key : ∀ ok w, (∀ b, ok b → b < w.heap.size ∧ ¬ Bq [] b) → St ⟨ok, Bq [], w⟩ pre [] w → Calls P k args.toArray w (C4f ⟨ok, Bq [], w⟩ T r val N Ms1) := by
  intro ok w hok hs
  refine B7b (n := ⟨n, [], .normal⟩) hf hb hn rfl rfl (by simpa using ha) hs ?_
  have := h ⟨ok, Bq [], w⟩ (fun _ => Iff.rfl)
  rw [he]
  exact this
 exact ⟨fun a hr ok w hok hs => (key ok w hok hs).mono fun e w' h => h.1 a hr, fun x hr ok w hok hs => (key ok w hok hs).mono fun e w' h => h.2 x hr⟩
end
def Mh (L : List Fact) : Fact := ⟨fun ok w => ∀ F, F ∈ L → F.f ok w, fun ok ok' w hs h F hF => F.mono ok ok' w hs (h F hF), fun ok w w' h hs F hF => F.loc ok w w' (h F hF) hs⟩
section
variable {B : Cj} {Γ : List Fact} {Ms : List Be} {w : World} {L : List Fact}
theorem St.Xf (hs : St B Γ Ms w) (h : ∀ F, F ∈ L → F ∈ Γ) : St B (Mh L :: Γ) Ms w := hs.add (fun F hF => hs.facts F (h F hF))
theorem St.C8w (hs : St B [Mh L] Ms w) : St B L Ms w := ⟨hs.chg, fun F hF => hs.facts _ List.mem_cons_self F hF, hs.res, hs.lt, hs.disj⟩
theorem Spec.Xf {P : Program} {k : FuncId} {args : Array Value} {Ms0 : List Be} {X : Type} {val : X → Value} {N : X → List Fact} {Ms1 : X → List Be} (h : Spec P k args L Ms0 val N Ms1) : Spec P k args [Mh L] Ms0 val N Ms1 := fun ok w hok hs => h ok w hok hs.C8w
theorem Sz.Xf {P : Program} {k : FuncId} {args : Array Value} {chain : List PanicEntry} (h : Sz P k args L chain) : Sz P k args [Mh L] chain := fun ok w hok hs => h ok w hok hs.C8w
theorem L5.Xf {P : Program} {T : TypeId} {k : FuncId} {args : Array Value} {α : Type} {r : Ab α} {X : α → Type} {val : ∀ a : α, X a → Value} {N : ∀ a : α, X a → List Fact} {Ms1 : ∀ a : α, X a → List Be} (h : L5 P T k args L r val N Ms1) : L5 P T k args [Mh L] r val N Ms1 := ⟨fun a ha => (h.1 a ha).Xf, fun e he => (h.2 e he).Xf⟩
end
section
variable {P : Program} [Tab P] {f : FuncId} {R : Ending → World → Prop} {B : Cj} {n : Fz} {K : List Item} {ops : Array Oper} {i : Nat} {l : List Nat} {σ : Nat → Value} {Γ : List Fact} {Ms : List Be}
variable {dst : Option Tmp} {ty : TypeId} {v : Value} {x y : Operand}
theorem D0l {t : TypeId} {d : TypeDesc} (hu : Tab.und P t = some d) (hd : (match d with | .interface _ => true | _ => false) = false) (hx : ev σ x = v) : D4 P σ (.makeInterface t x) ty (.iface t v) := fun w => by
 cases d <;> first | (simp at hd; done) | simp [D0, execOp, hx, Instr.makeInterface, Dc hu]
theorem B0q {t : TypeId} {d : TypeDesc} (k_ : F0 P f R B n K ops l (Ao σ dst (.iface t v)) Γ Ms) (hx : ev σ x = v := by exact Aa) (hu : Tab.und P t = some d := by rfl) (hdd : (match d with | .interface _ => true | _ => false) = false := by rfl) (hd : Ag n dst = true := by rfl) : Fq P f R B n K ops l (D0 dst (.makeInterface t x) ty) σ Γ Ms := Bu (D0l hu hdd hx) hd k_
theorem B0p {T : TypeId} {e : Int} (hR : ∀ w, St B [] [] w → R (.panicked (X8 T e)) w) (hx : ev σ x = .iface T (.int .i64 e) := by exact Aa) (hD : n.defs = [] := by rfl) (hK : okK n.kind := by first | exact .inl rfl | exact .inr rfl) : Fq P f R B n K ops l (D0 dst (.panic x) ty) σ Γ Ms := fun a w hr hs => by
 unfold Oper.wp
 rw [hr.eval]
 have e1 : (execOp (ev σ) (D0 dst (.panic x) ty)).run P w = .halt (.panic (.iface T (.int .i64 e))) w := by
  simp only [D0, execOp, hx]
  rfl
 rw [e1, Oper.upon_panic]
 refine ⟨hK.imp id (fun h => ⟨h, hr.defs.trans hD⟩), fun fn hfn => ?_⟩
 rw [hr.defs, hD]
 exact hR w (St.Ox (A := Ms) (Ms := []) (by rw [List.append_nil]; exact hs.less (fun F hF => by cases hF)))
theorem C2t {c : FuncId} {cap : List Value} {ts : Array TypeId} {g : Operand} (k_ : F0 P f R B ⟨n.sz, ⟨.fn (.func c) cap.toArray, #[]⟩ :: n.defs, n.kind⟩ K ops l σ Γ Ms) (hg : ev σ g = .func (.func c) #[] cap.toArray := by rfl) : Fq P f R B n K ops l (D0 none (.defer { callee := .value g, args := #[], argTypes := ts }) ty) σ Γ Ms := fun a w hr hs => by
 unfold Oper.wp
 rw [hr.eval]
 have e1 : (execOp (ev σ) (D0 none (.defer { callee := .value g, args := #[], argTypes := ts }) ty)).run P w = .ok (.defer ⟨.fn (.func c) cap.toArray, #[]⟩) w := by
  simp [D0, execOp, resolve, hg, Deferred.ofValue]
 rw [e1, Oper.upon_defer]
 exact k_ _ _ ⟨hr.size, hr.get, by show _ :: a.defers = _; rw [hr.defs]⟩ hs
end
def T0 (P : Program) (k : FuncId) (args : Array Value) (pre : List Fact) (Ms0 : List Be) (u u' : FrameMode) (N : List Fact) (Ms1 : List Be) : Prop :=
 ∀ ok w, (∀ b, ok b → b < w.heap.size ∧ ¬ Bq Ms0 b) → St ⟨ok, Bq Ms0, w⟩ pre Ms0 w → CallsD P k args u w fun e v w' => e = .returned (.tuple #[]) ∧ v = u' ∧ St ⟨ok, Bq Ms0, w⟩ N Ms1 w'
section
variable {P : Program} {f : FuncId} {fn : Func} {R : Ending → World → Prop} {B : Cj} {n : Fz} {K : List Item} {σ : Nat → Value} {Γ : List Fact} {Ms : List Be}
theorem C3a {k : FuncId} {cap : List Value} {pre N : List Fact} {Ms0 Ms1 Ms2 : List Be} {u u' : FrameMode} {tmps : Array Value} {w : World} (hu : u ≠ .run) (hc : ∀ (args : Array Value) (w : World), (callFunc k args).run P w = .ok (.enter k args) w) (hsp : T0 P k cap.toArray pre Ms0 u u' N Ms1) (hpre : ∀ F, F ∈ pre → F ∈ Γ) (hm : Ms.Perm (Ms0 ++ Ms2)) (hset : settle u' = .returning)
  (hs : St B Γ Ms w) (hres : ∀ w', St B (N ++ Γ) (Ms1 ++ Ms2) w' → ∃ v, (results fn tmps).run P w' = .ok v w' ∧ R (.returned v) w') : Leaves P fn tmps R [⟨.fn (.func k) cap.toArray, #[]⟩] u w := by
 refine leaves_cons (f := k) (args := cap.toArray) hu (by simp [invoke, hc]) ?_
 have hs' := hs.perm hm
 refine (hsp (P4 B (Ms0 ++ Ms2) w) w ?_ (hs'.hand hpre)).mono ?_
 ·intro b hb
  exact ⟨hb.2.1, fun hc => hb.2.2 (E9.2 (.inl hc))⟩
 ·rintro e v w' ⟨rfl, rfl, hx⟩
  show Leaves P fn tmps R [] (settle v) w'
  rw [hset]
  obtain ⟨v', h1, h2⟩ := hres w' (hs'.frame hx)
  exact ⟨v', h1, h2⟩
theorem D6z {k : FuncId} {cap : List Value} {pre N : List Fact} {Ms0 Ms1 Ms2 : List Be} (hf : P.funcs[f]? = some fn) (hc : ∀ (args : Array Value) (w : World), (callFunc k args).run P w = .ok (.enter k args) w) (hsp : T0 P k cap.toArray pre Ms0 .returning .returning N Ms1) (hpre : ∀ F, F ∈ pre → F ∈ Γ) (hm : Ms.Perm (Ms0 ++ Ms2))
  (hres : ∀ a w', Rel n a σ → St B (N ++ Γ) (Ms1 ++ Ms2) w' → ∃ v, (results fn a.tmps).run P w' = .ok v w' ∧ R (.returned v) w') (hD : n.defs = [⟨.fn (.func k) cap.toArray, #[]⟩] := by rfl) (hK : n.kind = .normal := by rfl) : Fi P f R B n (.code .ret :: K) σ Γ Ms := by
 intro a w hr hs b cs hb hk
 have hfn : P.funcs[b.fn]? = some fn := by rw [hb]; exact hf
 have hL : Leaves P fn a.tmps R a.defers .returning w := by
  rw [hr.defs, hD]
  exact C3a D6 hc hsp hpre hm rfl hs (fun w' h => hres a w' hr h)
 obtain ⟨e, w', fr, hR, hs', hf', hl⟩ := leaves_steps a.defers .returning w { b.at a (.code .ret :: K) with mode := .returning } cs rfl rfl rfl hfn (hk.trans hK) hL
 exact ⟨e, w', fr, hR, hs'.of_steps (.one step_ret), hf'.trans hb, .inl ⟨hK, hl⟩⟩
theorem D6b {ops : Array Oper} {l : List Nat} {dst : Option Tmp} {op : Op} {ty : TypeId} {c k : FuncId} {args : Array Value} {cap : List Value} {pre pre2 N : List Fact} {chain : List PanicEntry} {Ms0 Ms1 Ms2 : List Be} {u' : FrameMode} (he : T1 P σ op ty c args) (hsp : Sz P c args pre chain) (hpre : ∀ F, F ∈ pre → F ∈ Γ) (hf : P.funcs[f]? = some fn)
  (hc : ∀ (args : Array Value) (w : World), (callFunc k args).run P w = .ok (.enter k args) w) (hsd : T0 P k cap.toArray pre2 Ms0 (.panicking chain) u' N Ms1) (hpre2 : ∀ F, F ∈ pre2 → F ∈ Γ) (hm : Ms.Perm (Ms0 ++ Ms2)) (hset : settle u' = .returning)
  (hres : ∀ a w', Rel n a σ → St B (N ++ Γ) (Ms1 ++ Ms2) w' → ∃ v, (results fn a.tmps).run P w' = .ok v w' ∧ R (.returned v) w') (hD : n.defs = [⟨.fn (.func k) cap.toArray, #[]⟩] := by rfl) (hK : n.kind = .normal := by rfl) : Fq P f R B n K ops l (D0 dst op ty) σ Γ Ms := by
 intro a w hr hs
 unfold Oper.wp
 rw [hr.eval, show (execOp (ev σ) (D0 dst op ty)).run P w = .ok (.enter c args) w by rw [D0, Eo (d' := none)]; exact he w]
 have hs' : St B Γ ([] ++ Ms) w := hs
 refine (hsp (P4 B ([] ++ Ms) w) w (fun b hb => ⟨hb.2.1, Ic b⟩) (hs'.hand hpre)).mono ?_
 rintro e w' ⟨rfl, hx⟩
 refine ⟨.inl hK, fun fn' hfn' => ?_⟩
 rw [hf] at hfn'
 injection hfn' with hfn'
 subst hfn'
 rw [hr.defs, hD]
 have h1 : St B Γ Ms w' := by have := hs'.frame hx; simpa using this
 exact C3a D6 hc hsd hpre2 hm hset h1 (fun w' h => hres a w' hr h)
end
section
variable {P : Program} {f : FuncId} {fn : Func} {B : Cj} {Γ : List Fact} {Ms : List Be}
theorem C0v {R : Ending → World → Prop} {n : Fz} {args : Array Value} {c : Code} {w : World} {d d2 : Tmp} {o1 o2 : Oper} {id : Nat} (hf : P.funcs[f]? = some fn) (hb : fn.body = some (.seq (.region id #[o1, o2] false) c)) (hn : fn.ntmps = n.sz) (hD : n.defs = []) (hk : n.kind = .deferred) (ha : args.size ≤ n.sz) (hs : St B Γ Ms w)
  (h1 : ∀ ρ w, (execOp ρ o1).run P w = .ok .recover w) (hd1 : o1.dst = some d) (hg1 : o1.guard = none) (h2 : ∀ ρ : Operand → Value, execOp ρ o2 = pure (.value (ρ (.tmp d)))) (hd2 : o2.dst = some d2) (hg2 : o2.guard = none) (hl1 : Nat.blt d n.sz = true) (hl2 : Nat.blt d2 n.sz = true)
  (h : Fi P f R B n [.code c] (U0 (U0 (fun t => args.getD t undef) d .nilIface) d2 .nilIface) Γ Ms) : CallsD P f args .returning w fun e u' w' => u' = .returning ∧ R e w' := by
 intro c0 cs hu
 let b : Frame := { (default : Frame) with fn := f, kind := .deferred }
 have henter : Frame.enter P f args .deferred = b.at { tmps := args ++ Array.replicate (fn.ntmps - args.size) undef, defers := [] } [.code (.seq (.region id #[o1, o2] false) c)] := by
  simp [Frame.enter, Frame.at, hf, hb, b]
 have hr0 := Y4 (fn := fn) hn hD ha
 have hr1 := hr0.put (dst := some d) hl1 .nilIface
 have hr2 := hr1.put (dst := some d2) hl2 .nilIface
 have hS : wpOpsS P #[o1, o2] (fun e a' cs' w' => e = .normal ∧ a' = (({ tmps := args ++ Array.replicate (fn.ntmps - args.size) undef, defers := [] } : Act).put (some d) .nilIface).put (some d2) .nilIface ∧ cs' = c0 :: cs ∧ w' = w) [0, 1] { tmps := args ++ Array.replicate (fn.ntmps - args.size) undef, defers := [] } (c0 :: cs) w := by
  have e1 : (#[o1, o2])[0]? = some o1 := rfl
  have e2 : (#[o1, o2])[1]? = some o2 := rfl
  have hrec : recoverD (c0 :: cs) = none := by simp [recoverD, hu]
  have hput : ((({ tmps := args ++ Array.replicate (fn.ntmps - args.size) undef, defers := [] } : Act).put (some d) .nilIface).eval (.tmp d)) = .nilIface := by
   rw [hr1.eval]; simp [ev, Ao, K8]
  simp only [wpOpsS, e1, e2, Region.wanted, hg1, hg2, if_true, h1, hrec, hd1, h2]
  rw [hput]
  show Oper.upon P o2 _ _ _ (.ok (.value .nilIface) w)
  simp only [Oper.upon_value, hd2, and_self]
 obtain ⟨e, a', cs', w', ⟨rfl, rfl, rfl, rfl⟩, harr⟩ := wp_opsS [0, 1] _ _ _ hS b [.code c] rfl rfl
 obtain ⟨e, w2, fr, hR, hc, hf', hl⟩ := h _ w' hr2 hs b (c0 :: cs) rfl hk.symm
 rcases hl with ⟨h9, _⟩ | ⟨_, hk2, hgo⟩
 ·rw [hk] at h9; cases h9
 ·refine ⟨e, .returning, w2, fr, ⟨rfl, hR⟩, ?_, hk2, hgo⟩
  have hc0 : ({ c0 with mode := .returning } : Frame) = c0 := by rw [← hu]
  rw [henter, hc0]
  exact hc.of_steps (.head step_seq (.head step_region harr))
theorem A8v {args : List Value} {d d2 : Nat} {v : Value} : (U0 (U0 (fun t => args.toArray.getD t undef) d v) d2 v) = U0 (U0 (fun t => args.getD t undef) d v) d2 v := by
 have he : (fun t => args.toArray.getD t undef) = fun t => args.getD t undef := by
  funext t
  simp [Array.getD_eq_getD_getElem?, List.getD_eq_getElem?_getD]
 rw [he]
theorem B3e {args : List Value} {c : Code} {d d2 sz : Nat} {o1 o2 : Oper} {id : Nat} {v : Value} {older : List PanicEntry} {N pre : List Fact} {Ms0 Ms1 : List Be} (hf : P.funcs[f]? = some fn) (hb : fn.body = some (.seq (.region id #[o1, o2] false) c)) (hn : fn.ntmps = sz) (ha : args.length ≤ sz)
  (h1 : ∀ ρ w, (execOp ρ o1).run P w = .ok .recover w) (hd1 : o1.dst = some d) (hg1 : o1.guard = none) (h2 : ∀ ρ : Operand → Value, execOp ρ o2 = pure (.value (ρ (.tmp d)))) (hd2 : o2.dst = some d2) (hg2 : o2.guard = none) (hl1 : Nat.blt d sz = true) (hl2 : Nat.blt d2 sz = true)
  (h : ∀ B : Cj, (∀ b, B.S0 b ↔ Bq Ms0 b) → Fi P f (Ends B (fun _ : Unit => .tuple #[]) (fun _ => N) (fun _ => Ms1)) B ⟨sz, [], .deferred⟩ [.code c] (U0 (U0 (fun t => args.getD t undef) d v) d2 v) pre Ms0) :
  T0 P f args.toArray pre Ms0 (.panicking ({ v, recovered := false } :: older)) (.panicking ({ v, recovered := true } :: older)) N Ms1 := by
 intro ok w hok hs
 refine (C7v (n := ⟨sz, [], .deferred⟩) hf hb hn rfl rfl (by simpa using ha) hs h1 hd1 hg1 h2 hd2 hg2 hl1 hl2 (by rw [A8v]; exact h ⟨ok, Bq Ms0, w⟩ (fun _ => Iff.rfl))).mono ?_
 rintro e u w' ⟨rfl, _, he, hx⟩
 exact ⟨he, rfl, hx⟩
theorem A6l {args : List Value} {c : Code} {d d2 sz : Nat} {o1 o2 : Oper} {id : Nat} {N pre : List Fact} {Ms0 Ms1 : List Be} (hf : P.funcs[f]? = some fn) (hb : fn.body = some (.seq (.region id #[o1, o2] false) c)) (hn : fn.ntmps = sz) (ha : args.length ≤ sz)
  (h1 : ∀ ρ w, (execOp ρ o1).run P w = .ok .recover w) (hd1 : o1.dst = some d) (hg1 : o1.guard = none) (h2 : ∀ ρ : Operand → Value, execOp ρ o2 = pure (.value (ρ (.tmp d)))) (hd2 : o2.dst = some d2) (hg2 : o2.guard = none) (hl1 : Nat.blt d sz = true) (hl2 : Nat.blt d2 sz = true)
  (h : ∀ B : Cj, (∀ b, B.S0 b ↔ Bq Ms0 b) → Fi P f (Ends B (fun _ : Unit => .tuple #[]) (fun _ => N) (fun _ => Ms1)) B ⟨sz, [], .deferred⟩ [.code c] (U0 (U0 (fun t => args.getD t undef) d .nilIface) d2 .nilIface) pre Ms0) :
  T0 P f args.toArray pre Ms0 .returning .returning N Ms1 := by
 intro ok w hok hs
 refine (C0v (n := ⟨sz, [], .deferred⟩) hf hb hn rfl rfl (by simpa using ha) hs h1 hd1 hg1 h2 hd2 hg2 hl1 hl2 (by rw [A8v]; exact h ⟨ok, Bq Ms0, w⟩ (fun _ => Iff.rfl))).mono ?_
 rintro e u w' ⟨rfl, _, he, hx⟩
 exact ⟨he, rfl, hx⟩
end
section
variable {P : Program} [Tab P] {f : FuncId} {R : Ending → World → Prop} {B : Cj} {n : Fz} {K : List Item} {ops : Array Oper} {i : Nat} {l : List Nat} {σ : Nat → Value} {Γ : List Fact} {Ms : List Be}
variable {dst : Option Tmp} {ty : TypeId} {v : Value} {x y : Operand}
theorem A6a {t : TypeId} (hu : (match Tab.und P t with | some (.interface _) => true | _ => false) = true) : ∃ m, Tab.und P t = some (.interface m) := by
 cases h : Tab.und P t with
 | none => rw [h] at hu; cases hu
 | some d => cases d <;> rw [h] at hu <;> first | exact ⟨_, rfl⟩ | cases hu
theorem C9o {t T : TypeId} {v : Value} (hu : (match Tab.und P t with | some (.interface _) => true | _ => false) = true) (w : World) : (Op.equal t (.iface T v) .nilIface).run P w = .ok false w := by
 obtain ⟨m, hu'⟩ := A6a hu
 have h1 : (Op.equalIn (9999 + 1) t (.iface T v) .nilIface).run P w = .ok false w := by
  unfold Op.equalIn
  rw [A2 (Dc hu' w)]
  rfl
 exact h1
theorem C9n {t : TypeId} (hu : (match Tab.und P t with | some (.interface _) => true | _ => false) = true) (w : World) : (Op.equal t .nilIface .nilIface).run P w = .ok true w := by
 obtain ⟨m, hu'⟩ := A6a hu
 have h1 : (Op.equalIn (9999 + 1) t .nilIface .nilIface).run P w = .ok true w := by
  unfold Op.equalIn
  rw [A2 (Dc hu' w)]
  rfl
 exact h1
theorem A7m {t t' T : TypeId} (k_ : F0 P f R B n K ops l (Ao σ dst (.bool true)) Γ Ms) (hx : ev σ x = .iface T v := by exact Aa) (hu : (match Tab.und P t with | some (.interface _) => true | _ => false) = true := by rfl) (hd : Ag n dst = true := by rfl) : Fq P f R B n K ops l (D0 dst (.binOp .neq t x (.const .nilIface) t') ty) σ Γ Ms := Bu (Dw hx (show ev σ (.const .nilIface) = Value.nilIface from rfl) (fun w => by simp [eqGuard_at_iface]) (fun w => by
 simp only [binOp]
 rw [A2 (C9o hu w)]; rfl)) hd k_
theorem C2s {t t' : TypeId} (k_ : F0 P f R B n K ops l (Ao σ dst (.bool false)) Γ Ms) (hx : ev σ x = .nilIface := by exact Aa) (hu : (match Tab.und P t with | some (.interface _) => true | _ => false) = true := by rfl) (hd : Ag n dst = true := by rfl) : Fq P f R B n K ops l (D0 dst (.binOp .neq t x (.const .nilIface) t') ty) σ Γ Ms := Bu (Dw hx (show ev σ (.const .nilIface) = Value.nilIface from rfl) (fun w => by cases x <;> rfl) (fun w => by
 simp only [binOp]
 rw [A2 (C9n hu w)]; rfl)) hd k_
theorem A7l {t T : TypeId} {d : TypeDesc} (k_ : F0 P f R B n K ops l (Ao σ dst (.tuple #[v, .bool true])) Γ Ms) (hx : ev σ x = .iface T v := by exact Aa) (hu : Tab.und P T = some d := by rfl) (hdd : (match d with | .interface _ => true | _ => false) = false := by rfl) (hd : Ag n dst = true := by rfl) : Fq P f R B n K ops l (D0 dst (.typeAssert x t T true) ty) σ Γ Ms := Bu (fun w => by
 cases d <;> first | (simp at hdd; done) | simp [D0, execOp, hx, Instr.typeAssert, Dc hu]) hd k_
end
section
variable {P : Program} [Tab P] {f : FuncId} {fn : Func} {B : Cj} {n : Fz} {K : List Item} {σ : Nat → Value} {Γ : List Fact} {Ms : List Be} {X : Type} {val : X → Value} {N : X → List Fact} {Ms1 : X → List Be}
theorem V2 {r t T r2 t2 T2 b b2 s bt : Nat} {zv v2 : Value} {d : TypeDesc} {lay : List (Nat × Nat)} {cs : List Value} {a : Act} {w : World} (hr : fn.results = #[.cell r t, .cell r2 t2]) (ha : Rel n a σ) (hs : St B Γ Ms w) (hb : σ r = .pointer (some ⟨b, 0, none⟩)) (hb2 : σ r2 = .pointer (some ⟨b2, 0, none⟩)) (hm : Ad b cs T ∈ Ms) (hm2 : Ad b2 [v2] T2 ∈ Ms)
  (hl : Tab.lay P t = some lay) (hi : Tab.inf P t = some (s, bt, zv)) (hcs : cs.length = s) (hu : Tab.und P t2 = some d) (hd : (match d with | .struct _ | .array _ _ => true | _ => false) = false) : (results fn a.tmps).run P w = .ok (.tuple #[.agg cs.toArray, v2]) w := by
 have h1 := ha.get r
 rw [hb] at h1
 have h3 := ha.get r2
 rw [hb2] at h3
 have h2 := Ei (P := P) (bk := b) (off := 0) (w := w) hl hi hcs (fun j v hj => by rw [Nat.zero_add]; exact O5 hs hm j v hj)
 have h4 : (loadVar t2 ⟨b2, 0, none⟩).run P w = .ok v2 w := G8 (P := P) (off := 0) (w := w) hu hd (O5 hs hm2 0 v2 rfl)
 have h1' : (a.tmps[r]?.getD undef) = .pointer (some ⟨b, 0, none⟩) := by simpa [Array.getD_eq_getD_getElem?] using h1
 have h3' : (a.tmps[r2]?.getD undef) = .pointer (some ⟨b2, 0, none⟩) := by simpa [Array.getD_eq_getD_getElem?] using h3
 simp [results, hr, asAddr, h1', h2, h3', h4]
theorem A6x {r t T r2 t2 T2 b b2 s bt : Nat} {zv v2 : Value} {d : TypeDesc} {lay : List (Nat × Nat)} {cs : List Value} (hf : P.funcs[f]? = some fn) (hr : fn.results = #[.cell r t, .cell r2 t2]) (x : X) (hb : σ r = .pointer (some ⟨b, 0, none⟩)) (hb2 : σ r2 = .pointer (some ⟨b2, 0, none⟩)) (hm : Ad b cs T ∈ Ms) (hm2 : Ad b2 [v2] T2 ∈ Ms)
  (hl : Tab.lay P t = some lay) (hi : Tab.inf P t = some (s, bt, zv)) (hcs : cs.length = s) (hu : Tab.und P t2 = some d) (hd : (match d with | .struct _ | .array _ _ => true | _ => false) = false) (hv : Value.tuple #[.agg cs.toArray, v2] = val x) (hs : ∀ w, St B Γ Ms w → St B (N x) (Ms1 x) w) (hD : n.defs = [] := by rfl) (hK : okK n.kind := by first | exact .inl rfl | exact .inr rfl) : Fi P f (Ends B val N Ms1) B n (.code .ret :: K) σ Γ Ms :=
 go_ret hf (fun a w ha h => (V2 hr ha h hb hb2 hm hm2 hl hi hcs hu hd).trans (by rw [hv])) (fun w h => ⟨x, rfl, hs w h⟩) hD hK
end
section
variable {P : Program} [Tab P] {f : FuncId} {fn : Func} {B : Cj} {n : Fz} {K : List Item} {σ : Nat → Value} {Γ : List Fact} {Ms : List Be} {X : Type} {val : X → Value} {N : X → List Fact} {Ms1 : X → List Be}
theorem B8u {r t T r2 t2 T2 b b2 s bt : Nat} {zv v2 : Value} {d : TypeDesc} {lay : List (Nat × Nat)} {cs : List Value} {k : FuncId} {cap : List Value} (hf : P.funcs[f]? = some fn) (hr : fn.results = #[.cell r t, .cell r2 t2]) (hc : ∀ (args : Array Value) (w : World), (callFunc k args).run P w = .ok (.enter k args) w) (hsp : T0 P k cap.toArray [] [] .returning .returning [] [])
  (x : X) (hb : σ r = .pointer (some ⟨b, 0, none⟩)) (hb2 : σ r2 = .pointer (some ⟨b2, 0, none⟩)) (hm : Ad b cs T ∈ Ms) (hm2 : Ad b2 [v2] T2 ∈ Ms)
  (hl : Tab.lay P t = some lay) (hi : Tab.inf P t = some (s, bt, zv)) (hcs : cs.length = s) (hu : Tab.und P t2 = some d) (hd : (match d with | .struct _ | .array _ _ => true | _ => false) = false) (hv : Value.tuple #[.agg cs.toArray, v2] = val x) (hs : ∀ w, St B Γ Ms w → St B (N x) (Ms1 x) w) (hD : n.defs = [⟨.fn (.func k) cap.toArray, #[]⟩] := by rfl) (hK : n.kind = .normal := by rfl) : Fi P f (Ends B val N Ms1) B n (.code .ret :: K) σ Γ Ms :=
 D6z (Ms2 := Ms) hf hc hsp (fun F hF => by cases hF) (List.Perm.refl _) (fun a w' ha h => ⟨_, V2 hr ha h hb hb2 hm hm2 hl hi hcs hu hd, ⟨x, by rw [hv], hs w' h⟩⟩) hD hK
theorem D0r {r t T r2 t2 T2 b b2 s bt : Nat} {zv v2 : Value} {d : TypeDesc} {lay : List (Nat × Nat)} {cs cs0 : List Value} {v0 : Value} {k c : FuncId} {cap : List Value} {ops : Array Oper} {l : List Nat} {dst : Option Tmp} {op : Op} {ty : TypeId} {args : Array Value} {pre : List Fact} {chain : List PanicEntry} {u' : FrameMode} {Ms2 : List Be} (he : T1 P σ op ty c args) (hspp : Sz P c args pre chain) (hpre : ∀ F, F ∈ pre → F ∈ Γ)
  (hf : P.funcs[f]? = some fn) (hr : fn.results = #[.cell r t, .cell r2 t2]) (hc : ∀ (args : Array Value) (w : World), (callFunc k args).run P w = .ok (.enter k args) w) (hsp : T0 P k cap.toArray [] [Ad b cs0 T, Ad b2 [v0] T2] (.panicking chain) u' [] [Ad b cs T, Ad b2 [v2] T2]) (hset : settle u' = .returning) (hm : Ms.Perm (Ad b cs0 T :: Ad b2 [v0] T2 :: Ms2))
  (x : X) (hb : σ r = .pointer (some ⟨b, 0, none⟩)) (hb2 : σ r2 = .pointer (some ⟨b2, 0, none⟩))
  (hl : Tab.lay P t = some lay) (hi : Tab.inf P t = some (s, bt, zv)) (hcs : cs.length = s) (hu : Tab.und P t2 = some d) (hd : (match d with | .struct _ | .array _ _ => true | _ => false) = false) (hv : Value.tuple #[.agg cs.toArray, v2] = val x) (hs : ∀ w, St B Γ [] w → St B (N x) (Ms1 x) w) (hD : n.defs = [⟨.fn (.func k) cap.toArray, #[]⟩] := by rfl) (hK : n.kind = .normal := by rfl) : Fq P f (Ends B val N Ms1) B n K ops l (D0 dst op ty) σ Γ Ms :=
 D6b (Ms0 := [Ad b cs0 T, Ad b2 [v0] T2]) (Ms2 := Ms2) he hspp hpre hf hc hsp (fun F hF => by cases hF) hm hset (fun a w' ha h => ⟨_, V2 hr ha h hb hb2 (List.mem_cons_self) (List.mem_cons_of_mem _ List.mem_cons_self) hl hi hcs hu hd, ⟨x, by rw [hv], hs w' (St.Ox (A := Ad b cs T :: Ad b2 [v2] T2 :: Ms2) (Ms := []) (by rw [List.append_nil]; exact h))⟩⟩) hD hK
end
section
variable {P : Program} [Tab P] {f : FuncId} {R : Ending → World → Prop} {B : Cj} {n : Fz} {K : List Item} {ops : Array Oper} {i : Nat} {l : List Nat} {σ : Nat → Value} {Γ : List Fact} {Ms : List Be}
variable {dst : Option Tmp} {ty : TypeId} {v : Value} {x y : Operand}
theorem C5m {s d : TypeId} {a : Nat} (hs : Tab.und P s = some (.int .u32)) (hd : Tab.und P d = some (.int .u64)) (hx : ev σ x = .int .u32 (a : Int)) (ha : a < 4294967296) : D4 P σ (.convert s d x) ty (.int .u64 (a : Int)) := by
 have e : IntKind.u64.wrap (a : Int) = (a : Int) := by
  have : IntKind.u64.wrap (a : Int) = (a : Int) % 18446744073709551616 := by simp [IntKind.wrap, IntKind.bits, IntKind.signed]
  rw [this]; omega
 have := Nr (P := P) (ty := ty) hs hd hx
 rwa [e] at this
theorem D1f {s d : TypeId} {a : Nat} (k_ : F0 P f R B n K ops l (Ao σ dst (.int .u64 (a : Int))) Γ Ms) (hx : ev σ x = .int .u32 (a : Int) := by exact Aa) (ha : a < 4294967296 := by first | assumption | omega) (hs : Tab.und P s = some (.int .u32) := by rfl) (hd' : Tab.und P d = some (.int .u64) := by rfl) (hd : Ag n dst = true := by rfl) : Fq P f R B n K ops l (D0 dst (.convert s d x) ty) σ Γ Ms := Bu (C5m hs hd' hx ha) hd k_
end
end Go.Hy
