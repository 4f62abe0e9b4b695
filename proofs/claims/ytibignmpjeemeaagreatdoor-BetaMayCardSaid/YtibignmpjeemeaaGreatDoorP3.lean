/- Contracts of this program's functions and the laws that they need. -/
import Derived.WideShapes
import Derived.ArgAppend
import Derived.Test.YtibignmpjeemeaaGreatDoorP2
set_option linter.unusedVariables false
set_option linter.unusedSimpArgs false
set_option linter.unusedSectionVars false
namespace Go.Hy
section
variable {tn : Bool} {pn : Nat} {P : Program} [Tab P] {f : FuncId} {R : Ending → World → Prop} {B : C6} {n : Fz} {K : List Item} {ops : Array Oper} {i : Nat} {l fin : List Nat} {σ : Nat → Value} {Γ : List Fact} {Ms Ms2 : List B4}
variable {dst : Option Tmp} {op : Op} {ty : TypeId} {pos : String} {after : Array Edge} {v : Value} {x y z : Operand}
theorem Ff  (k_ : Dw P f R B n K ops l (Af σ dst v) Γ Ms) (h : ev σ x = v := by exact A9) (hd : Aa n dst = true := by rfl) : Ep P f R B n K ops l (Cb dst (.move x) ty) σ Γ Ms := Ba (B6m h) hd k_
theorem C1u  (k_ : NV tn pn P f R B n K ops fin l (Af σ dst v) Γ Ms) (h : ev σ x = v := by exact A9) (hd : Aa n dst = true := by rfl) : Jk tn pn P f R B n K ops fin i l dst (.move x) ty σ Γ Ms := Cz (B6m h) hd k_
theorem C4d  (k_ : Dw P f R B n K ops l (Af σ dst v) Γ Ms) (h : ev σ x = v := by exact A9) (hd : Aa n dst = true := by rfl) : Ep P f R B n K ops l (Cb dst (.assign x) ty) σ Γ Ms := Ba (A2v h) hd k_
theorem C1w  (k_ : NV tn pn P f R B n K ops fin l (Af σ dst v) Γ Ms) (h : ev σ x = v := by exact A9) (hd : Aa n dst = true := by rfl) : Jk tn pn P f R B n K ops fin i l dst (.assign x) ty σ Γ Ms := Cz (A2v h) hd k_
theorem B6u  (k_ : Dw P f R B n K ops l (Af σ dst v) Γ Ms) (hz : ev σ z = .bool true := by rfl) (h : ev σ x = v := by exact A9) (hd : Aa n dst = true := by rfl) : Ep P f R B n K ops l (Cb dst (.pick z x y) ty) σ Γ Ms := Ba (A9n hz h) hd k_
theorem B5v  (k_ : NV tn pn P f R B n K ops fin l (Af σ dst v) Γ Ms) (hz : ev σ z = .bool true := by rfl) (h : ev σ x = v := by exact A9) (hd : Aa n dst = true := by rfl) : Jk tn pn P f R B n K ops fin i l dst (.pick z x y) ty σ Γ Ms := Cz (A9n hz h) hd k_
theorem B6v  (k_ : Dw P f R B n K ops l (Af σ dst v) Γ Ms) (hz : ev σ z = .bool false := by rfl) (h : ev σ y = v := by exact A9) (hd : Aa n dst = true := by rfl) : Ep P f R B n K ops l (Cb dst (.pick z x y) ty) σ Γ Ms := Ba (A9o hz h) hd k_
theorem B5w  (k_ : NV tn pn P f R B n K ops fin l (Af σ dst v) Γ Ms) (hz : ev σ z = .bool false := by rfl) (h : ev σ y = v := by exact A9) (hd : Aa n dst = true := by rfl) : Jk tn pn P f R B n K ops fin i l dst (.pick z x y) ty σ Γ Ms := Cz (A9o hz h) hd k_
theorem D0q {t t' : TypeId} {a b : Int} (k_ : Dw P f R B n K ops l (Af σ dst (.int .i64 (a + b))) Γ Ms) (hx : ev σ x = .int .i64 a := by exact A9) (hy : ev σ y = .int .i64 b := by exact A9) (h : Aj (a + b) := by unfold Aj; first | omega | (unfold Aj at *; omega) | (unfold reach at *; omega) | (unfold Gc at *; omega) | (simp only [Aj, reach, Gc] at *; omega)) (hd : Aa n dst = true := by rfl) : Ep P f R B n K ops l (Cb dst (.binOp .add t x y t') ty) σ Γ Ms := Ba (C3n hx hy h) hd k_
theorem D6j {t t' : TypeId} {a b : Int} (k_ : NV tn pn P f R B n K ops fin l (Af σ dst (.int .i64 (a + b))) Γ Ms) (hx : ev σ x = .int .i64 a := by exact A9) (hy : ev σ y = .int .i64 b := by exact A9) (h : Aj (a + b) := by unfold Aj; first | omega | (unfold Aj at *; omega) | (unfold reach at *; omega) | (unfold Gc at *; omega) | (simp only [Aj, reach, Gc] at *; omega)) (hd : Aa n dst = true := by rfl) : Jk tn pn P f R B n K ops fin i l dst (.binOp .add t x y t') ty σ Γ Ms := Cz (C3n hx hy h) hd k_
theorem D6z {t t' : TypeId} {a b : Int} (k_ : Dw P f R B n K ops l (Af σ dst (.int .i64 (a - b))) Γ Ms) (hx : ev σ x = .int .i64 a := by exact A9) (hy : ev σ y = .int .i64 b := by exact A9) (h : Aj (a - b) := by unfold Aj; first | omega | (unfold Aj at *; omega) | (unfold reach at *; omega) | (unfold Gc at *; omega) | (simp only [Aj, reach, Gc] at *; omega)) (hd : Aa n dst = true := by rfl) : Ep P f R B n K ops l (Cb dst (.binOp .sub t x y t') ty) σ Γ Ms := Ba (C3d hx hy h) hd k_
theorem C1s {t t' : TypeId} {a b : Int} (k_ : NV tn pn P f R B n K ops fin l (Af σ dst (.int .i64 (a - b))) Γ Ms) (hx : ev σ x = .int .i64 a := by exact A9) (hy : ev σ y = .int .i64 b := by exact A9) (h : Aj (a - b) := by unfold Aj; first | omega | (unfold Aj at *; omega) | (unfold reach at *; omega) | (unfold Gc at *; omega) | (simp only [Aj, reach, Gc] at *; omega)) (hd : Aa n dst = true := by rfl) : Jk tn pn P f R B n K ops fin i l dst (.binOp .sub t x y t') ty σ Γ Ms := Cz (C3d hx hy h) hd k_
theorem D6d {t t' : TypeId} {a b : Int} (k_ : NV tn pn P f R B n K ops fin l (Af σ dst (.int .i64 (a * b))) Γ Ms) (hx : ev σ x = .int .i64 a := by exact A9) (hy : ev σ y = .int .i64 b := by exact A9) (h : Aj (a * b) := by unfold Aj; first | omega | (unfold Aj at *; omega) | (unfold reach at *; omega) | (unfold Gc at *; omega) | (simp only [Aj, reach, Gc] at *; omega)) (hd : Aa n dst = true := by rfl) : Jk tn pn P f R B n K ops fin i l dst (.binOp .mul t x y t') ty σ Γ Ms := Cz (D2f hx hy h) hd k_
theorem D0o {t t' : TypeId} {k : IntKind} {a b : Int} (k_ : Dw P f R B n K ops l (Af σ dst (.bool (decide (a < b)))) Γ Ms) (hx : ev σ x = .int k a := by exact A9) (hy : ev σ y = .int k b := by exact A9) (hd : Aa n dst = true := by rfl) : Ep P f R B n K ops l (Cb dst (.binOp .lss t x y t') ty) σ Γ Ms := Ba (D2i hx hy) hd k_
theorem D7e {t t' : TypeId} {k : IntKind} {a b : Int} (k_ : Dw P f R B n K ops l (Af σ dst (.bool (decide (a ≤ b)))) Γ Ms) (hx : ev σ x = .int k a := by exact A9) (hy : ev σ y = .int k b := by exact A9) (hd : Aa n dst = true := by rfl) : Ep P f R B n K ops l (Cb dst (.binOp .leq t x y t') ty) σ Γ Ms := Ba (D2j hx hy) hd k_
theorem Ym {t t' : TypeId} {k : IntKind} {a b : Int} (k_ : Dw P f R B n K ops l (Af σ dst (.bool (decide (b < a)))) Γ Ms) (hx : ev σ x = .int k a := by exact A9) (hy : ev σ y = .int k b := by exact A9) (hd : Aa n dst = true := by rfl) : Ep P f R B n K ops l (Cb dst (.binOp .gtr t x y t') ty) σ Γ Ms := Ba (C3k hx hy) hd k_
theorem A8g {t t' : TypeId} {k : IntKind} {a b : Int} (k_ : NV tn pn P f R B n K ops fin l (Af σ dst (.bool (decide (b < a)))) Γ Ms) (hx : ev σ x = .int k a := by exact A9) (hy : ev σ y = .int k b := by exact A9) (hd : Aa n dst = true := by rfl) : Jk tn pn P f R B n K ops fin i l dst (.binOp .gtr t x y t') ty σ Γ Ms := Cz (C3k hx hy) hd k_
theorem A3c {t t' : TypeId} {k : IntKind} {a b : Int} (k_ : Dw P f R B n K ops l (Af σ dst (.bool (decide (b ≤ a)))) Γ Ms) (hx : ev σ x = .int k a := by exact A9) (hy : ev σ y = .int k b := by exact A9) (hd : Aa n dst = true := by rfl) : Ep P f R B n K ops l (Cb dst (.binOp .geq t x y t') ty) σ Γ Ms := Ba (D2k hx hy) hd k_
theorem W5 {t t' : TypeId} {k : IntKind} {a b : Int} (k_ : Dw P f R B n K ops l (Af σ dst (.bool (decide (a = b)))) Γ Ms) (hx : ev σ x = .int k a := by exact A9) (hy : ev σ y = .int k b := by exact A9) (hd : Aa n dst = true := by rfl) : Ep P f R B n K ops l (Cb dst (.binOp .eql t x y t') ty) σ Γ Ms := Ba (B3v hx hy) hd k_
theorem A8h {t t' : TypeId} {k : IntKind} {a b : Int} (k_ : NV tn pn P f R B n K ops fin l (Af σ dst (.bool (decide (a = b)))) Γ Ms) (hx : ev σ x = .int k a := by exact A9) (hy : ev σ y = .int k b := by exact A9) (hd : Aa n dst = true := by rfl) : Jk tn pn P f R B n K ops fin i l dst (.binOp .eql t x y t') ty σ Γ Ms := Cz (B3v hx hy) hd k_
theorem B0f {t t' : TypeId} {k : IntKind} {a b : Int} (k_ : Dw P f R B n K ops l (Af σ dst (.bool (decide (a ≠ b)))) Γ Ms) (hx : ev σ x = .int k a := by exact A9) (hy : ev σ y = .int k b := by exact A9) (hd : Aa n dst = true := by rfl) : Ep P f R B n K ops l (Cb dst (.binOp .neq t x y t') ty) σ Γ Ms := Ba (C3g hx hy) hd k_
theorem A1k {t t' : TypeId} {k : IntKind} {a b : Int} (k_ : NV tn pn P f R B n K ops fin l (Af σ dst (.bool (decide (a ≠ b)))) Γ Ms) (hx : ev σ x = .int k a := by exact A9) (hy : ev σ y = .int k b := by exact A9) (hd : Aa n dst = true := by rfl) : Jk tn pn P f R B n K ops fin i l dst (.binOp .neq t x y t') ty σ Γ Ms := Cz (C3g hx hy) hd k_
theorem D0m {t t' : TypeId} {s s' : ByteArray} (k_ : Dw P f R B n K ops l (Af σ dst (.bool (!(s.toList == s'.toList)))) Γ Ms) (hx : ev σ x = .string s := by exact A9) (hy : ev σ y = .string s' := by exact A9) (hd : Aa n dst = true := by rfl) : Ep P f R B n K ops l (Cb dst (.binOp .neq t x y t') ty) σ Γ Ms := Ba (C3f hx hy) hd k_
theorem D0e {t t' : TypeId} {s s' : ByteArray} (k_ : NV tn pn P f R B n K ops fin l (Af σ dst (.bool (!(s.toList == s'.toList)))) Γ Ms) (hx : ev σ x = .string s := by exact A9) (hy : ev σ y = .string s' := by exact A9) (hd : Aa n dst = true := by rfl) : Jk tn pn P f R B n K ops fin i l dst (.binOp .neq t x y t') ty σ Γ Ms := Cz (C3f hx hy) hd k_
theorem D0l {t : TypeId} {c : Bool} (k_ : Dw P f R B n K ops l (Af σ dst (.bool (!c))) Γ Ms) (hx : ev σ x = .bool c := by exact A9) (hd : Aa n dst = true := by rfl) : Ep P f R B n K ops l (Cb dst (.unOp .not t x) ty) σ Γ Ms := Ba (C3e hx) hd k_
theorem Vo {t : TypeId} {c : Bool} (k_ : NV tn pn P f R B n K ops fin l (Af σ dst (.bool (!c))) Γ Ms) (hx : ev σ x = .bool c := by exact A9) (hd : Aa n dst = true := by rfl) : Jk tn pn P f R B n K ops fin i l dst (.unOp .not t x) ty σ Γ Ms := Cz (C3e hx) hd k_
theorem B9q {vs : Array Value} {j : Nat} (k_ : Dw P f R B n K ops l (Af σ dst v) Γ Ms) (hx : ev σ x = .tuple vs := by exact A9) (hj : vs[j]? = some v := by exact A9) (hd : Aa n dst = true := by rfl) : Ep P f R B n K ops l (Cb dst (.extract x j) ty) σ Γ Ms := Ba (Y9 hx hj) hd k_
theorem B8q {vs : Array Value} {j : Nat} (k_ : NV tn pn P f R B n K ops fin l (Af σ dst v) Γ Ms) (hx : ev σ x = .tuple vs := by exact A9) (hj : vs[j]? = some v := by exact A9) (hd : Aa n dst = true := by rfl) : Jk tn pn P f R B n K ops fin i l dst (.extract x j) ty σ Γ Ms := Cz (Y9 hx hj) hd k_
theorem B4f {fn : Fn} {cap : Array Operand} {vs : List Value} (k_ : Dw P f R B n K ops l (Af σ dst (.func fn #[] vs.toArray)) Γ Ms) (h : cap.toList.map (ev σ) = vs := by first | exact E0r (by first | ((conv => lhs; whnf); done) | rfl) | exact E0q (by first | ((conv => lhs; whnf); done) | rfl) (by first | ((conv => lhs; whnf); done) | rfl) | exact E0p (by first | ((conv => lhs; whnf); done) | rfl) (by first | ((conv => lhs; whnf); done) | rfl) (by first | ((conv => lhs; whnf); done) | rfl) | exact E0o (by first | ((conv => lhs; whnf); done) | rfl) (by first | ((conv => lhs; whnf); done) | rfl) (by first | ((conv => lhs; whnf); done) | rfl) (by first | ((conv => lhs; whnf); done) | rfl) | rfl) (hd : Aa n dst = true := by rfl) : Ep P f R B n K ops l (Cb dst (.makeFunc fn #[] cap) ty) σ Γ Ms := Ba (A9q h) hd k_
theorem C3z {ts : Array TypeId} {t e : TypeId} {A : Option Addr} {m c : Nat} (k_ : Dw P f R B n K ops l (Af σ dst (.int .i64 (m : Int))) Γ Ms) (hx : ev σ x = .slice A m c := by exact A9) (ht : ts[0]? = some t := by rfl) (hu : Tab.und P t = some (.slice e) := by rfl) (hd : Aa n dst = true := by rfl) : Ep P f R B n K ops l (Cb dst (.call { callee := .builtin .len, args := #[x], argTypes := ts }) ty) σ Γ Ms := Ba (B6n ht hu hx) hd k_
theorem A1l {ts : Array TypeId} {t e : TypeId} {A : Option Addr} {m c : Nat} (k_ : NV tn pn P f R B n K ops fin l (Af σ dst (.int .i64 (m : Int))) Γ Ms) (hx : ev σ x = .slice A m c := by exact A9) (ht : ts[0]? = some t := by rfl) (hu : Tab.und P t = some (.slice e) := by rfl) (hd : Aa n dst = true := by rfl) : Jk tn pn P f R B n K ops fin i l dst (.call { callee := .builtin .len, args := #[x], argTypes := ts }) ty σ Γ Ms := Cz (B6n ht hu hx) hd k_
theorem Yk {ts : Array TypeId} {t : TypeId} {s : ByteArray} (k_ : Dw P f R B n K ops l (Af σ dst (.int .i64 (s.size : Int))) Γ Ms) (hx : ev σ x = .string s := by exact A9) (ht : ts[0]? = some t := by rfl) (hu : Tab.und P t = some .string := by rfl) (hd : Aa n dst = true := by rfl) : Ep P f R B n K ops l (Cb dst (.call { callee := .builtin .len, args := #[x], argTypes := ts }) ty) σ Γ Ms := Ba (B9f ht hu hx) hd k_
theorem D6e {ts : Array TypeId} {a b : Int} (k_ : NV tn pn P f R B n K ops fin l (Af σ dst (.int .i64 (if b > a then b else a))) Γ Ms) (hx : ev σ x = .int .i64 a := by exact A9) (hy : ev σ y = .int .i64 b := by exact A9) (hd : Aa n dst = true := by rfl) : Jk tn pn P f R B n K ops fin i l dst (.call { callee := .builtin .max, args := #[x, y], argTypes := ts }) ty σ Γ Ms := Cz (D2h hx hy) hd k_
theorem D0n {ts : Array TypeId} {a b : Int} (k_ : Dw P f R B n K ops l (Af σ dst (.int .i64 (if b < a then b else a))) Γ Ms) (hx : ev σ x = .int .i64 a := by exact A9) (hy : ev σ y = .int .i64 b := by exact A9) (hd : Aa n dst = true := by rfl) : Ep P f R B n K ops l (Cb dst (.call { callee := .builtin .min, args := #[x, y], argTypes := ts }) ty) σ Γ Ms := Ba (D2g hx hy) hd k_
theorem Of {t : TypeId} {j bk off o : Nat} (k_ : Dw P f R B n K ops l (Af σ dst (.pointer (some ⟨bk, off + o, none⟩))) Γ Ms) (hx : ev σ x = .pointer (some ⟨bk, off, none⟩) := by exact A9) (hf : Tab.foff P t j = some o := by rfl) (hd : Aa n dst = true := by rfl) : Ep P f R B n K ops l (Cb dst (.fieldAddr t x j) ty) σ Γ Ms := Ba (Tu hf hx) hd k_
theorem Rb {t : TypeId} {j bk off o : Nat} (k_ : NV tn pn P f R B n K ops fin l (Af σ dst (.pointer (some ⟨bk, off + o, none⟩))) Γ Ms) (hx : ev σ x = .pointer (some ⟨bk, off, none⟩) := by exact A9) (hf : Tab.foff P t j = some o := by rfl) (hd : Aa n dst = true := by rfl) : Jk tn pn P f R B n K ops fin i l dst (.fieldAddr t x j) ty σ Γ Ms := Cz (Tu hf hx) hd k_
theorem Ay {t : TypeId} {s bt : Nat} {zv : Value} {parts : Array (Nat × Operand)} {pv : List (Nat × Value)} {l' : List (Nat × Nat)} {cs : List Value} (k_ : Dw P f R B n K ops l (Af σ dst (.agg cs.toArray)) Γ Ms) (hl : Tab.lay P t = some l' := by rfl) (hi : Tab.inf P t = some (s, bt, zv) := by rfl) (hp : parts.toList.map (fun (i, x) => (i, ev σ x)) = pv := by first | exact pv0  | exact pv1 (by first | ((conv => lhs; whnf); done) | rfl) | exact pv2 (by first | ((conv => lhs; whnf); done) | rfl) (by first | ((conv => lhs; whnf); done) | rfl) | exact pv3 (by first | ((conv => lhs; whnf); done) | rfl) (by first | ((conv => lhs; whnf); done) | rfl) (by first | ((conv => lhs; whnf); done) | rfl) | exact pv4 (by first | ((conv => lhs; whnf); done) | rfl) (by first | ((conv => lhs; whnf); done) | rfl) (by first | ((conv => lhs; whnf); done) | rfl) (by first | ((conv => lhs; whnf); done) | rfl) | exact pv5 (by first | ((conv => lhs; whnf); done) | rfl) (by first | ((conv => lhs; whnf); done) | rfl) (by first | ((conv => lhs; whnf); done) | rfl) (by first | ((conv => lhs; whnf); done) | rfl) (by first | ((conv => lhs; whnf); done) | rfl) | exact pv6 (by first | ((conv => lhs; whnf); done) | rfl) (by first | ((conv => lhs; whnf); done) | rfl) (by first | ((conv => lhs; whnf); done) | rfl) (by first | ((conv => lhs; whnf); done) | rfl) (by first | ((conv => lhs; whnf); done) | rfl) (by first | ((conv => lhs; whnf); done) | rfl) | rfl) (hb : Instr.fill (l'.toArray[·]?) zv.cells pv = some cs.toArray := by rfl) (hd : Aa n dst = true := by rfl) : Ep P f R B n K ops l (Cb dst (.build t parts) ty) σ Γ Ms := Ba (A9t hl hi hp hb) hd k_
theorem Hj {t : TypeId} {s bt : Nat} {zv : Value} {parts : Array (Nat × Operand)} {pv : List (Nat × Value)} {l' : List (Nat × Nat)} {cs : List Value} (k_ : NV tn pn P f R B n K ops fin l (Af σ dst (.agg cs.toArray)) Γ Ms) (hl : Tab.lay P t = some l' := by rfl) (hi : Tab.inf P t = some (s, bt, zv) := by rfl) (hp : parts.toList.map (fun (i, x) => (i, ev σ x)) = pv := by first | exact pv0  | exact pv1 (by first | ((conv => lhs; whnf); done) | rfl) | exact pv2 (by first | ((conv => lhs; whnf); done) | rfl) (by first | ((conv => lhs; whnf); done) | rfl) | exact pv3 (by first | ((conv => lhs; whnf); done) | rfl) (by first | ((conv => lhs; whnf); done) | rfl) (by first | ((conv => lhs; whnf); done) | rfl) | exact pv4 (by first | ((conv => lhs; whnf); done) | rfl) (by first | ((conv => lhs; whnf); done) | rfl) (by first | ((conv => lhs; whnf); done) | rfl) (by first | ((conv => lhs; whnf); done) | rfl) | exact pv5 (by first | ((conv => lhs; whnf); done) | rfl) (by first | ((conv => lhs; whnf); done) | rfl) (by first | ((conv => lhs; whnf); done) | rfl) (by first | ((conv => lhs; whnf); done) | rfl) (by first | ((conv => lhs; whnf); done) | rfl) | exact pv6 (by first | ((conv => lhs; whnf); done) | rfl) (by first | ((conv => lhs; whnf); done) | rfl) (by first | ((conv => lhs; whnf); done) | rfl) (by first | ((conv => lhs; whnf); done) | rfl) (by first | ((conv => lhs; whnf); done) | rfl) (by first | ((conv => lhs; whnf); done) | rfl) | rfl) (hb : Instr.fill (l'.toArray[·]?) zv.cells pv = some cs.toArray := by rfl) (hd : Aa n dst = true := by rfl) : Jk tn pn P f R B n K ops fin i l dst (.build t parts) ty σ Γ Ms := Cz (A9t hl hi hp hb) hd k_
theorem Cd {t e : TypeId} {s bt bk o m c j : Nat} {zv : Value} {A : Option Addr} (k_ : Dw P f R B n K ops l (Af σ dst (.pointer (some ⟨bk, o + j * s, none⟩))) Γ Ms) (hx : ev σ x = .slice A m c := by exact A9) (hA : A = some ⟨bk, o, none⟩ := by first | assumption | rfl) (hy : ev σ y = .int .i64 (j : Int) := by exact A9) (hu : Tab.und P t = some (.slice e) := by rfl) (hi : Tab.inf P e = some (s, bt, zv) := by rfl) (h1 : j < m := by omega) (hd : Aa n dst = true := by rfl) : Ep P f R B n K ops l (Cb dst (.indexAddr t x y) ty) σ Γ Ms := Ba (C3j hu hi hx hA hy h1) hd k_
theorem Fj {t e : TypeId} {s bt bk o m c j : Nat} {zv : Value} {A : Option Addr} (k_ : NV tn pn P f R B n K ops fin l (Af σ dst (.pointer (some ⟨bk, o + j * s, none⟩))) Γ Ms) (hx : ev σ x = .slice A m c := by exact A9) (hA : A = some ⟨bk, o, none⟩ := by first | assumption | rfl) (hy : ev σ y = .int .i64 (j : Int) := by exact A9) (hu : Tab.und P t = some (.slice e) := by rfl) (hi : Tab.inf P e = some (s, bt, zv) := by rfl) (h1 : j < m := by omega) (hd : Aa n dst = true := by rfl) : Jk tn pn P f R B n K ops fin i l dst (.indexAddr t x y) ty σ Γ Ms := Cz (C3j hu hi hx hA hy h1) hd k_
theorem C8s {t t' e : TypeId} {A : Option Addr} {m c : Nat} (k_ : Dw P f R B n K ops l (Af σ dst (.bool A.isNone)) Γ Ms) (hx : ev σ x = .slice A m c := by exact A9) (hy : ev σ y = .slice none 0 0 := by rfl) (hu : Tab.und P t = some (.slice e) := by rfl) (hd : Aa n dst = true := by rfl) : Ep P f R B n K ops l (Cb dst (.binOp .eql t x y t') ty) σ Γ Ms := Ba (A9p hu hx hy) hd k_
theorem D2x {t t' : TypeId} {a b : Int} (k_ : Dw P f R B n K ops l (Af σ dst (.int .i64 (IntKind.i64.wrap (a + b)))) Γ Ms) (hx : ev σ x = .int .i64 a := by exact A9) (hy : ev σ y = .int .i64 b := by exact A9) (hd : Aa n dst = true := by rfl) : Ep P f R B n K ops l (Cb dst (.binOp .add t x y t') ty) σ Γ Ms := Ba (C8f hx hy) hd k_
theorem D2p {t t' : TypeId} {a b : Int} (k_ : Dw P f R B n K ops l (Af σ dst (.int .i64 (IntKind.i64.wrap (a - b)))) Γ Ms) (hx : ev σ x = .int .i64 a := by exact A9) (hy : ev σ y = .int .i64 b := by exact A9) (hd : Aa n dst = true := by rfl) : Ep P f R B n K ops l (Cb dst (.binOp .sub t x y t') ty) σ Γ Ms := Ba (C8b hx hy) hd k_
theorem I5 {t t' : TypeId} {a b : Nat} (k_ : Dw P f R B n K ops l (Af σ dst (.int .u32 ((a &&& b : Nat) : Int))) Γ Ms) (hx : ev σ x = .int .u32 (a : Int) := by exact A9) (hy : ev σ y = .int .u32 (b : Int) := by exact A9) (ha : a < 4294967296 := by first | assumption | omega) (hb : b < 4294967296 := by first | assumption | omega) (hd : Aa n dst = true := by rfl) : Ep P f R B n K ops l (Cb dst (.binOp .and t x y t') ty) σ Γ Ms := Ba (B6o hx hy ha hb) hd k_
theorem Xb {t t' : TypeId} {a b : Nat} (k_ : NV tn pn P f R B n K ops fin l (Af σ dst (.int .u32 ((a &&& b : Nat) : Int))) Γ Ms) (hx : ev σ x = .int .u32 (a : Int) := by exact A9) (hy : ev σ y = .int .u32 (b : Int) := by exact A9) (ha : a < 4294967296 := by first | assumption | omega) (hb : b < 4294967296 := by first | assumption | omega) (hd : Aa n dst = true := by rfl) : Jk tn pn P f R B n K ops fin i l dst (.binOp .and t x y t') ty σ Γ Ms := Cz (B6o hx hy ha hb) hd k_
theorem Oe {t t' : TypeId} {a b : Nat} (k_ : Dw P f R B n K ops l (Af σ dst (.int .u32 ((a ||| b : Nat) : Int))) Γ Ms) (hx : ev σ x = .int .u32 (a : Int) := by exact A9) (hy : ev σ y = .int .u32 (b : Int) := by exact A9) (ha : a < 4294967296 := by first | assumption | omega) (hb : b < 4294967296 := by first | assumption | omega) (hd : Aa n dst = true := by rfl) : Ep P f R B n K ops l (Cb dst (.binOp .or t x y t') ty) σ Γ Ms := Ba (D2e hx hy ha hb) hd k_
theorem Pz {t t' : TypeId} {a b : Nat} (k_ : Dw P f R B n K ops l (Af σ dst (.int .u32 (Bg a b : Int))) Γ Ms) (hx : ev σ x = .int .u32 (a : Int) := by exact A9) (hy : ev σ y = .int .u32 (b : Int) := by exact A9) (hd : Aa n dst = true := by rfl) : Ep P f R B n K ops l (Cb dst (.binOp .andNot t x y t') ty) σ Γ Ms := Ba (B3w hx hy) hd k_
theorem Yj {t t' : TypeId} {k2 : IntKind} {a m : Nat} (k_ : Dw P f R B n K ops l (Af σ dst (.int .u32 ((a * 2 ^ (min m 32) % 4294967296 : Nat) : Int))) Γ Ms) (hx : ev σ x = .int .u32 (a : Int) := by exact A9) (hy : ev σ y = .int k2 (m : Int) := by exact A9) (hd : Aa n dst = true := by rfl) : Ep P f R B n K ops l (Cb dst (.binOp .shl t x y t') ty) σ Γ Ms := Ba (C8d hx hy) hd k_
theorem Yi {t t' : TypeId} {k2 : IntKind} {a m : Nat} (k_ : Dw P f R B n K ops l (Af σ dst (.int .u32 ((a / 2 ^ (min m 32) : Nat) : Int))) Γ Ms) (hx : ev σ x = .int .u32 (a : Int) := by exact A9) (hy : ev σ y = .int k2 (m : Int) := by exact A9) (hd : Aa n dst = true := by rfl) : Ep P f R B n K ops l (Cb dst (.binOp .shr t x y t') ty) σ Γ Ms := Ba (B6l hx hy) hd k_
theorem Xa {t t' : TypeId} {k2 : IntKind} {a m : Nat} (k_ : NV tn pn P f R B n K ops fin l (Af σ dst (.int .u32 ((a / 2 ^ (min m 32) : Nat) : Int))) Γ Ms) (hx : ev σ x = .int .u32 (a : Int) := by exact A9) (hy : ev σ y = .int k2 (m : Int) := by exact A9) (hd : Aa n dst = true := by rfl) : Jk tn pn P f R B n K ops fin i l dst (.binOp .shr t x y t') ty σ Γ Ms := Cz (B6l hx hy) hd k_
theorem D0p {t t' : TypeId} {c c' : Cl} (k_ : Dw P f R B n K ops l (Af σ dst (.bool (decide (c = c')))) Γ Ms) (hx : ev σ x = .agg (Ai c).toArray := by exact A9) (hy : ev σ y = .agg (Ai c').toArray := by exact A9) (ht : t = Tab.ceq P := by rfl) (hd : Aa n dst = true := by rfl) : Ep P f R B n K ops l (Cb dst (.binOp .eql t x y t') ty) σ Γ Ms := Ba (C3l ht hx hy) hd k_
theorem D6i {t t' : TypeId} {c c' : Cl} (k_ : NV tn pn P f R B n K ops fin l (Af σ dst (.bool (decide (c = c')))) Γ Ms) (hx : ev σ x = .agg (Ai c).toArray := by exact A9) (hy : ev σ y = .agg (Ai c').toArray := by exact A9) (ht : t = Tab.ceq P := by rfl) (hd : Aa n dst = true := by rfl) : Jk tn pn P f R B n K ops fin i l dst (.binOp .eql t x y t') ty σ Γ Ms := Cz (C3l ht hx hy) hd k_
theorem D7c {t t' : TypeId} {c c' : Cl} (k_ : Dw P f R B n K ops l (Af σ dst (.bool (!decide (c = c')))) Γ Ms) (hx : ev σ x = .agg (Ai c).toArray := by exact A9) (hy : ev σ y = .agg (Ai c').toArray := by exact A9) (ht : t = Tab.ceq P := by rfl) (hd : Aa n dst = true := by rfl) : Ep P f R B n K ops l (Cb dst (.binOp .neq t x y t') ty) σ Γ Ms := Ba (C3h ht hx hy) hd k_
theorem D0f {t t' : TypeId} {c c' : Cl} (k_ : NV tn pn P f R B n K ops fin l (Af σ dst (.bool (!decide (c = c')))) Γ Ms) (hx : ev σ x = .agg (Ai c).toArray := by exact A9) (hy : ev σ y = .agg (Ai c').toArray := by exact A9) (ht : t = Tab.ceq P := by rfl) (hd : Aa n dst = true := by rfl) : Jk tn pn P f R B n K ops fin i l dst (.binOp .neq t x y t') ty σ Γ Ms := Cz (C3h ht hx hy) hd k_
theorem C8r {t : TypeId} {s : ByteArray} {j : Int} {c : UInt8} (k_ : Dw P f R B n K ops l (Af σ dst (.int .u8 c.toNat)) Γ Ms) (hx : ev σ x = .string s := by exact A9) (hy : ev σ y = .int .i64 j := by exact A9) (hu : Tab.und P t = some .string := by rfl) (h0 : 0 ≤ j := by omega) (hc : s[j.toNat]? = some c := by assumption) (hd : Aa n dst = true := by rfl) : Ep P f R B n K ops l (Cb dst (.index t x y) ty) σ Γ Ms := Ba (A9r hu hx hy h0 hc) hd k_
theorem D2w {s d : TypeId} {k k' : IntKind} {ds : TypeDesc} {a : Int} (k_ : Dw P f R B n K ops l (Af σ dst (.int k' (k'.wrap a))) Γ Ms) (hx : ev σ x = .int k a := by exact A9) (hs : Tab.und P s = some ds := by rfl) (hd' : Tab.und P d = some (.int k') := by rfl) (hd : Aa n dst = true := by rfl) : Ep P f R B n K ops l (Cb dst (.convert s d x) ty) σ Γ Ms := Ba (Lx hs hd' hx) hd k_
theorem D2v {t T' : TypeId} {bk k : Nat} {cs : List Value} {d : TypeDesc} (k_ : Dw P f R B n K ops l (Af σ dst v) Γ Ms) (hx : ev σ x = .pointer (some ⟨bk, k, none⟩) := by exact A9) (hF : A8 bk cs T' ∈ Ms := by repeat (first | exact List.mem_cons_self | apply List.mem_cons_of_mem)) (hu : Tab.und P t = some d := by rfl) (hd' : (match d with | .struct _ | .array _ _ => true | _ => false) = false := by rfl) (hk : cs[k]? = some v := by exact A9) (hd : Aa n dst = true := by rfl) : Ep P f R B n K ops l (Cb dst (.load t x) ty) σ Γ Ms := I7 (C4y hx hF hu hd' hk) hd k_
theorem D6h {t T' : TypeId} {bk k : Nat} {cs : List Value} {d : TypeDesc} (k_ : NV false pn P f R B n K ops fin l (Af σ dst v) Γ Ms) (hx : ev σ x = .pointer (some ⟨bk, k, none⟩) := by exact A9) (hF : A8 bk cs T' ∈ Ms := by repeat (first | exact List.mem_cons_self | apply List.mem_cons_of_mem)) (hu : Tab.und P t = some d := by rfl) (hd' : (match d with | .struct _ | .array _ _ => true | _ => false) = false := by rfl) (hk : cs[k]? = some v := by exact A9) (hd : Aa n dst = true := by rfl) : Jk false pn P f R B n K ops fin i l dst (.load t x) ty σ Γ Ms := Qw (C4y hx hF hu hd' hk) rfl hd k_
theorem Ro {t T' : TypeId} {bk k : Nat} {cs : List Value} {l' : List (Nat × Nat)} {s bt : Nat} {zv : Value} {cs' : List Value} (k_ : Dw P f R B n K ops l (Af σ dst (.agg cs'.toArray)) Γ Ms) (hx : ev σ x = .pointer (some ⟨bk, k, none⟩) := by exact A9) (hF : A8 bk cs T' ∈ Ms := by repeat (first | exact List.mem_cons_self | apply List.mem_cons_of_mem)) (hu : Tab.lay P t = some l' := by rfl) (hi : Tab.inf P t = some (s, bt, zv) := by rfl) (hk : (cs.drop k).take s = cs' := by rfl) (hl : cs'.length = s := by rfl) (hd : Aa n dst = true := by rfl) : Ep P f R B n K ops l (Cb dst (.load t x) ty) σ Γ Ms := I7 (C4z hx hF hu hi hk hl) hd k_
theorem D6f {t T' : TypeId} {bk k : Nat} {cs : List Value} {l' : List (Nat × Nat)} {s bt : Nat} {zv : Value} {cs' : List Value} (k_ : NV false pn P f R B n K ops fin l (Af σ dst (.agg cs'.toArray)) Γ Ms) (hx : ev σ x = .pointer (some ⟨bk, k, none⟩) := by exact A9) (hF : A8 bk cs T' ∈ Ms := by repeat (first | exact List.mem_cons_self | apply List.mem_cons_of_mem)) (hu : Tab.lay P t = some l' := by rfl) (hi : Tab.inf P t = some (s, bt, zv) := by rfl) (hk : (cs.drop k).take s = cs' := by rfl) (hl : cs'.length = s := by rfl) (hd : Aa n dst = true := by rfl) : Jk false pn P f R B n K ops fin i l dst (.load t x) ty σ Γ Ms := Qw (C4z hx hF hu hi hk hl) rfl hd k_
theorem C4b {t : TypeId} {l' : List (Nat × Nat)} {bt bk o i' : Nat} {a : SH} {zv : Value} {ls : List Cl} (k_ : Dw P f R B n K ops l (Af σ dst (.agg (Ai (ls.getD i' B5)).toArray)) Γ Ms) (hx : ev σ x = .pointer (some ⟨bk, o + i' * 2, none⟩) := by exact A9) (hFa : CL ls a ∈ Γ ∧ a.1 = some ⟨bk, o, none⟩ := by exact ma0_) (hu : Tab.lay P t = some l' := by rfl) (hi : Tab.inf P t = some (2, bt, zv) := by rfl) (hlt : i' < ls.length := by omega) (hd : Aa n dst = true := by rfl) : Ep P f R B n K ops l (Cb dst (.load t x) ty) σ Γ Ms := I7 (D0v hx hFa.1 hFa.2 hu hi hlt) hd k_
theorem B5x {t : TypeId} {l' : List (Nat × Nat)} {bt bk o i' : Nat} {a : SH} {zv : Value} {ls : List Cl} (k_ : NV false pn P f R B n K ops fin l (Af σ dst (.agg (Ai (ls.getD i' B5)).toArray)) Γ Ms) (hx : ev σ x = .pointer (some ⟨bk, o + i' * 2, none⟩) := by exact A9) (hFa : CL ls a ∈ Γ ∧ a.1 = some ⟨bk, o, none⟩ := by exact ma0_) (hu : Tab.lay P t = some l' := by rfl) (hi : Tab.inf P t = some (2, bt, zv) := by rfl) (hlt : i' < ls.length := by omega) (hd : Aa n dst = true := by rfl) : Jk false pn P f R B n K ops fin i l dst (.load t x) ty σ Γ Ms := Qw (D0v hx hFa.1 hFa.2 hu hi hlt) rfl hd k_
theorem D7g {t : TypeId} {l' : List (Nat × Nat)} {bt bk o i' : Nat} {a : SH} {zv : Value} {ts : List T} {VR VK VS : Nat → SH} (k_ : Dw P f R B n K ops l (Af σ dst (.agg (tc (ts.getD i' t0) (VR i') (VK i') (VS i')).toArray)) Γ Ms) (hx : ev σ x = .pointer (some ⟨bk, o + i' * 6, none⟩) := by exact A9) (hFa : TLx ts a VR VK VS ∈ Γ ∧ a.1 = some ⟨bk, o, none⟩ := by exact ma0_) (hu : Tab.lay P t = some l' := by rfl) (hi : Tab.inf P t = some (6, bt, zv) := by rfl) (hlt : i' < ts.length := by omega) (hd : Aa n dst = true := by rfl) : Ep P f R B n K ops l (Cb dst (.load t x) ty) σ Γ Ms := I7 (B7k hx hFa.1 hFa.2 hu hi hlt) hd k_
theorem D6g {t : TypeId} {l' : List (Nat × Nat)} {bt bk o i' : Nat} {a : SH} {zv : Value} {ts : List T} {VR VK VS : Nat → SH} (k_ : NV false pn P f R B n K ops fin l (Af σ dst (.agg (tc (ts.getD i' t0) (VR i') (VK i') (VS i')).toArray)) Γ Ms) (hx : ev σ x = .pointer (some ⟨bk, o + i' * 6, none⟩) := by exact A9) (hFa : TLx ts a VR VK VS ∈ Γ ∧ a.1 = some ⟨bk, o, none⟩ := by exact ma0_) (hu : Tab.lay P t = some l' := by rfl) (hi : Tab.inf P t = some (6, bt, zv) := by rfl) (hlt : i' < ts.length := by omega) (hd : Aa n dst = true := by rfl) : Jk false pn P f R B n K ops fin i l dst (.load t x) ty σ Γ Ms := Qw (B7k hx hFa.1 hFa.2 hu hi hlt) rfl hd k_
theorem D2t {t : TypeId} {d : TypeDesc} {bk o i' k : Nat} {a : SH} {ts : List T} {VR VK VS : Nat → SH} (k_ : Dw P f R B n K ops l (Af σ dst v) Γ Ms) (hx : ev σ x = .pointer (some ⟨bk, o + i' * 6 + k, none⟩) := by exact A9) (hFa : TLx ts a VR VK VS ∈ Γ ∧ a.1 = some ⟨bk, o, none⟩ := by exact ma0_) (hu : Tab.und P t = some d := by rfl) (hd' : (match d with | .struct _ | .array _ _ => true | _ => false) = false := by rfl) (hk : (tc (ts.getD i' t0) (VR i') (VK i') (VS i'))[k]? = some v := by exact A9) (hlt : i' < ts.length := by omega) (hd : Aa n dst = true := by rfl) : Ep P f R B n K ops l (Cb dst (.load t x) ty) σ Γ Ms := I7 (B0w hx hFa.1 hFa.2 hu hd' hk hlt) hd k_
theorem A4u {t : TypeId} {d : TypeDesc} {bk o i' k : Nat} {a : SH} {ts : List T} {VR VK VS : Nat → SH} (k_ : NV false pn P f R B n K ops fin l (Af σ dst v) Γ Ms) (hx : ev σ x = .pointer (some ⟨bk, o + i' * 6 + k, none⟩) := by exact A9) (hFa : TLx ts a VR VK VS ∈ Γ ∧ a.1 = some ⟨bk, o, none⟩ := by exact ma0_) (hu : Tab.und P t = some d := by rfl) (hd' : (match d with | .struct _ | .array _ _ => true | _ => false) = false := by rfl) (hk : (tc (ts.getD i' t0) (VR i') (VK i') (VS i'))[k]? = some v := by exact A9) (hlt : i' < ts.length := by omega) (hd : Aa n dst = true := by rfl) : Jk false pn P f R B n K ops fin i l dst (.load t x) ty σ Γ Ms := Qw (B0w hx hFa.1 hFa.2 hu hd' hk hlt) rfl hd k_
theorem D7h {t : TypeId} {l' : List (Nat × Nat)} {bt bk o i' : Nat} {a : SH} {zv : Value} {bs : List Br} {VF VK : Nat → SH} (k_ : Dw P f R B n K ops l (Af σ dst (.agg (bc (bs.getD i' B1) (VF i') (VK i')).toArray)) Γ Ms) (hx : ev σ x = .pointer (some ⟨bk, o + i' * 2, none⟩) := by exact A9) (hFa : BLx bs a VF VK ∈ Γ ∧ a.1 = some ⟨bk, o, none⟩ := by exact ma0_) (hu : Tab.lay P t = some l' := by rfl) (hi : Tab.inf P t = some (2, bt, zv) := by rfl) (hlt : i' < bs.length := by omega) (hd : Aa n dst = true := by rfl) : Ep P f R B n K ops l (Cb dst (.load t x) ty) σ Γ Ms := I7 (D7u hx hFa.1 hFa.2 hu hi hlt) hd k_
theorem Yl {t : TypeId} {d : TypeDesc} {bk o i' k : Nat} {a : SH} {bs : List Br} {VF VK : Nat → SH} (k_ : Dw P f R B n K ops l (Af σ dst v) Γ Ms) (hx : ev σ x = .pointer (some ⟨bk, o + i' * 2 + k, none⟩) := by exact A9) (hFa : BLx bs a VF VK ∈ Γ ∧ a.1 = some ⟨bk, o, none⟩ := by exact ma0_) (hu : Tab.und P t = some d := by rfl) (hd' : (match d with | .struct _ | .array _ _ => true | _ => false) = false := by rfl) (hk : (bc (bs.getD i' B1) (VF i') (VK i'))[k]? = some v := by exact A9) (hlt : i' < bs.length := by omega) (hd : Aa n dst = true := by rfl) : Ep P f R B n K ops l (Cb dst (.load t x) ty) σ Γ Ms := I7 (C4w hx hFa.1 hFa.2 hu hd' hk hlt) hd k_
theorem A4v {t : TypeId} {d : TypeDesc} {bk o i' k : Nat} {a : SH} {bs : List Br} {VF VK : Nat → SH} (k_ : NV false pn P f R B n K ops fin l (Af σ dst v) Γ Ms) (hx : ev σ x = .pointer (some ⟨bk, o + i' * 2 + k, none⟩) := by exact A9) (hFa : BLx bs a VF VK ∈ Γ ∧ a.1 = some ⟨bk, o, none⟩ := by exact ma0_) (hu : Tab.und P t = some d := by rfl) (hd' : (match d with | .struct _ | .array _ _ => true | _ => false) = false := by rfl) (hk : (bc (bs.getD i' B1) (VF i') (VK i'))[k]? = some v := by exact A9) (hlt : i' < bs.length := by omega) (hd : Aa n dst = true := by rfl) : Jk false pn P f R B n K ops fin i l dst (.load t x) ty σ Γ Ms := Qw (C4w hx hFa.1 hFa.2 hu hd' hk hlt) rfl hd k_
theorem B0 {t : TypeId} {cs : List Value} (k_ : ∀ b, Dw P f R B n K ops l (Af σ dst ((fun b => .pointer (some ⟨b, 0, none⟩)) b)) Γ (A8 b cs t :: Ms)) (hx : (ev σ x).cells = cs.toArray := by rfl) (hd : Aa n dst = true := by rfl) : Ep P f R B n K ops l (Cb dst (.box t x) ty) σ Γ Ms := Ls (D5v hx) hd k_
theorem B2 {t : TypeId} {s bt : Nat} {zv : Value} {cs : List Value} (k_ : ∀ b, Dw P f R B n K ops l (Af σ dst ((fun b => .pointer (some ⟨b, 0, none⟩)) b)) Γ (A8 b cs t :: Ms)) (hi : Tab.inf P t = some (s, bt, zv) := by rfl) (hz : zv.cells = cs.toArray := by rfl) (hd : Aa n dst = true := by rfl) : Ep P f R B n K ops l (Cb dst (.alloc t) ty) σ Γ Ms := Ls (B2p hi hz) hd k_
theorem A1j {t : TypeId} {s bt : Nat} {zv : Value} {cs : List Value} (k_ : ∀ b, NV tn pn P f R B n K ops fin l (Af σ dst ((fun b => .pointer (some ⟨b, 0, none⟩)) b)) Γ (A8 b cs t :: Ms)) (hi : Tab.inf P t = some (s, bt, zv) := by rfl) (hz : zv.cells = cs.toArray := by rfl) (hd : Aa n dst = true := by rfl) : Jk tn pn P f R B n K ops fin i l dst (.alloc t) ty σ Γ Ms := B0i (B2p hi hz) rfl hd k_
theorem D7d {t e : TypeId} {sz bt len : Nat} {zv : Value} {parts : Array (Nat × Operand)} {pv : List (Nat × Value)} {cs : List Value} (k_ : ∀ b, Dw P f R B n K ops l (Af σ dst ((fun b => .slice (some ⟨b, 0, none⟩) len len) b)) Γ (A8 b cs e :: Ms)) (hu : Tab.und P t = some (.slice e) := by rfl) (hi : Tab.inf P e = some (sz, bt, zv) := by rfl) (hle : len * sz ≤ 16777216 := by decide) (hp : parts.toList.map (fun (i, x) => (i, ev σ x)) = pv := by first | exact pv0  | exact pv1 (by first | ((conv => lhs; whnf); done) | rfl) | exact pv2 (by first | ((conv => lhs; whnf); done) | rfl) (by first | ((conv => lhs; whnf); done) | rfl) | exact pv3 (by first | ((conv => lhs; whnf); done) | rfl) (by first | ((conv => lhs; whnf); done) | rfl) (by first | ((conv => lhs; whnf); done) | rfl) | exact pv4 (by first | ((conv => lhs; whnf); done) | rfl) (by first | ((conv => lhs; whnf); done) | rfl) (by first | ((conv => lhs; whnf); done) | rfl) (by first | ((conv => lhs; whnf); done) | rfl) | exact pv5 (by first | ((conv => lhs; whnf); done) | rfl) (by first | ((conv => lhs; whnf); done) | rfl) (by first | ((conv => lhs; whnf); done) | rfl) (by first | ((conv => lhs; whnf); done) | rfl) (by first | ((conv => lhs; whnf); done) | rfl) | exact pv6 (by first | ((conv => lhs; whnf); done) | rfl) (by first | ((conv => lhs; whnf); done) | rfl) (by first | ((conv => lhs; whnf); done) | rfl) (by first | ((conv => lhs; whnf); done) | rfl) (by first | ((conv => lhs; whnf); done) | rfl) (by first | ((conv => lhs; whnf); done) | rfl) | rfl) (hf : Instr.fill (fun i => some (i * sz, sz)) ((List.range (len * sz)).map (zv.cells[· % zv.cells.size]!)).toArray pv = some cs.toArray := by rfl) (hd : Aa n dst = true := by rfl) : Ep P f R B n K ops l (Cb dst (.buildSlice t len parts) ty) σ Γ Ms := Ls (Zv hu hi hle hp hf) hd k_
theorem Fg {t e : TypeId} {sz bt : Nat} {zv : Value} {cs : List Value} (k_ : ∀ b, Dw P f R B n K ops l (Af σ dst ((fun b => .slice (some ⟨b, 0, none⟩) 1 1) b)) Γ (A8 b cs e :: Ms)) (hu : Tab.und P t = some (.slice e) := by rfl) (hi : Tab.inf P e = some (sz, bt, zv) := by rfl) (hle : sz ≤ 16777216 := by decide) (hx : (ev σ x).cells = cs.toArray := by rfl) (hl : cs.length = sz := by rfl) (hd : Aa n dst = true := by rfl) : Ep P f R B n K ops l (Cb dst (.buildSlice t 1 #[(0, x)]) ty) σ Γ Ms := Ls (A7q hu hi hle hx hl) hd k_
theorem Pp {t e : TypeId} {sz bt : Nat} {zv : Value} {cs : List Value} (k_ : ∀ b, NV tn pn P f R B n K ops fin l (Af σ dst ((fun b => .slice (some ⟨b, 0, none⟩) 1 1) b)) Γ (A8 b cs e :: Ms)) (hu : Tab.und P t = some (.slice e) := by rfl) (hi : Tab.inf P e = some (sz, bt, zv) := by rfl) (hle : sz ≤ 16777216 := by decide) (hx : (ev σ x).cells = cs.toArray := by rfl) (hl : cs.length = sz := by rfl) (hd : Aa n dst = true := by rfl) : Jk tn pn P f R B n K ops fin i l dst (.buildSlice t 1 #[(0, x)]) ty σ Γ Ms := B0i (A7q hu hi hle hx hl) rfl hd k_
theorem D1r {t e : TypeId} {sz bt : Nat} {zv : Value} {cs : List Value} (F : Nat → List Fact) (hF : ∀ b M w, St B Γ (A8 b cs e :: M) w → St B (F b ++ Γ) M w) (k_ : ∀ b, NV tn pn P f R B n K ops fin l (Af σ dst ((fun b => .slice (some ⟨b, 0, none⟩) 1 1) b)) (F b ++ Γ) Ms) (hu : Tab.und P t = some (.slice e) := by rfl) (hi : Tab.inf P e = some (sz, bt, zv) := by rfl) (hle : sz ≤ 16777216 := by decide) (hx : (ev σ x).cells = cs.toArray := by rfl) (hl : cs.length = sz := by rfl) (hd : Aa n dst = true := by rfl) (hz : Nat.beq pn 1000001 = true := by rfl) : Jk tn pn P f R B n K ops fin i l dst (.buildSlice t 1 #[(0, x)]) ty σ Γ Ms := V4 F (A7q hu hi hle hx hl) rfl rfl hF hd hz k_
theorem C3y {t e : TypeId} {sz bt : Nat} {zv : Value} {cs cs2 : List Value} (k_ : ∀ b, Dw P f R B n K ops l (Af σ dst ((fun b => .slice (some ⟨b, 0, none⟩) 2 2) b)) Γ (A8 b (cs ++ cs2) e :: Ms)) (hu : Tab.und P t = some (.slice e) := by rfl) (hi : Tab.inf P e = some (sz, bt, zv) := by rfl) (hle : 2 * sz ≤ 16777216 := by decide) (hx : (ev σ x).cells = cs.toArray := by rfl) (hy : (ev σ y).cells = cs2.toArray := by rfl) (hl : cs.length = sz := by rfl) (hl2 : cs2.length = sz := by rfl) (hd : Aa n dst = true := by rfl) : Ep P f R B n K ops l (Cb dst (.buildSlice t 2 #[(0, x), (1, y)]) ty) σ Γ Ms := Ls (B8d hu hi hle hx hy hl hl2) hd k_
theorem C1r {t e : TypeId} {sz bt : Nat} {zv : Value} {cs cs2 : List Value} (F : Nat → List Fact) (hF : ∀ b M w, St B Γ (A8 b (cs ++ cs2) e :: M) w → St B (F b ++ Γ) M w) (k_ : ∀ b, NV tn pn P f R B n K ops fin l (Af σ dst ((fun b => .slice (some ⟨b, 0, none⟩) 2 2) b)) (F b ++ Γ) Ms) (hu : Tab.und P t = some (.slice e) := by rfl) (hi : Tab.inf P e = some (sz, bt, zv) := by rfl) (hle : 2 * sz ≤ 16777216 := by decide) (hx : (ev σ x).cells = cs.toArray := by rfl) (hy : (ev σ y).cells = cs2.toArray := by rfl) (hl : cs.length = sz := by rfl) (hl2 : cs2.length = sz := by rfl) (hd : Aa n dst = true := by rfl) (hz : Nat.beq pn 1000001 = true := by rfl) : Jk tn pn P f R B n K ops fin i l dst (.buildSlice t 2 #[(0, x), (1, y)]) ty σ Γ Ms := V4 F (B8d hu hi hle hx hy hl hl2) rfl rfl hF hd hz k_
theorem B4e {t e : TypeId} {sz bt : Nat} {zv : Value} (k_ : ∀ b, Dw P f R B n K ops l (Af σ dst ((fun b => .slice (some ⟨b, 0, none⟩) 0 0) b)) Γ (A8 b [] e :: Ms)) (hu : Tab.und P t = some (.slice e) := by rfl) (hi : Tab.inf P e = some (sz, bt, zv) := by rfl) (hd : Aa n dst = true := by rfl) : Ep P f R B n K ops l (Cb dst (.buildSlice t 0 #[]) ty) σ Γ Ms := Ls (C9y hu hi) hd k_
theorem E0c {t T' : TypeId} {b s bt : Nat} {zv : Value} {cs cs' : List Value} (k_ : Dw P f R B n K ops l σ Γ (A8 b cs' T' :: Ms2)) (hx : ev σ x = .pointer (some ⟨b, 0, none⟩) := by exact A9) (hm : Ms.Perm (A8 b cs T' :: Ms2) := by first | exact Y8 | exact Ag | exact Bc | exact Fv | exact Dz | exact Kc | exact Cr) (hy : (ev σ y).cells = cs'.toArray := by rfl) (hi : Tab.inf P t = some (s, bt, zv) := by rfl) (hl : cs'.length = s := by rfl) (hl2 : cs.length = s := by rfl) (h1 : Ke cs' = true := by rfl) : Ep P f R B n K ops l (Cb none (.store t x y) ty) σ Γ Ms := Xm (C2i hx hy hm hi hl hl2 h1) k_
theorem D7a {t T' : TypeId} {b k bt : Nat} {zv : Value} {cs cs' : List Value} (k_ : Dw P f R B n K ops l σ Γ (A8 b cs' T' :: Ms2)) (hx : ev σ x = .pointer (some ⟨b, k, none⟩) := by exact A9) (hm : Ms.Perm (A8 b cs T' :: Ms2) := by first | exact Y8 | exact Ag | exact Bc | exact Fv | exact Dz | exact Kc | exact Cr) (hy : ev σ y = v := by exact A9) (hi : Tab.inf P t = some (1, bt, zv) := by rfl) (h1 : v.oneCell' = true := by rfl) (hk : k < cs.length := by exact Nat.le_of_ble_eq_true rfl) (hc : cs.set k v = cs' := by rfl) : Ep P f R B n K ops l (Cb none (.store t x y) ty) σ Γ Ms := by
 subst hc
 exact Xm (C7s hx hy hm hi h1 hk) k_
theorem Gk {t e T' : TypeId} {ts : Array TypeId} {sz bt n' m c b : Nat} {zv : Value} {a : SH} {xs cs : List Value} (k_ : ∀ a' : SH, Dw P f R B n K ops l (Af σ dst (sl a' (n' + m))) Γ (Al sz e a' (n' + m) (xs ++ cs) :: A8 b cs T' :: Ms2)) (hm : Ms.Perm (Al sz e a n' xs :: A8 b cs T' :: Ms2) := by first | exact Y8 | exact Ag | exact Bc | exact Fv | exact Dz | exact Kc | exact Cr) (hx : ev σ x = sl a n' := by rfl) (hy : ev σ y = .slice (some ⟨b, 0, none⟩) m c := by exact A9) (hts : ts = #[t, t] := by rfl) (hu : Tab.und P t = some (.slice e) := by rfl) (hi : Tab.inf P e = some (sz, bt, zv) := by rfl) (hzs : zv.cells.size = sz := by rfl) (hsz : 0 < sz := by exact Nat.le_of_ble_eq_true rfl) (hl : cs.length = m * sz := by rfl) (h1 : Ke cs = true := by rfl) (hb : (n' + m) * bt ≤ 140737488355328 := by first | omega | (unfold reach at *; omega) | (unfold reach Gc at *; omega)) (hnm : n' + m ≤ 9223372036854775807 := by first | omega | (unfold reach at *; omega) | (unfold reach Gc at *; omega)) (hd : Aa n dst = true := by rfl) : Ep P f R B n K ops l (Cb dst (.call { callee := .builtin .append, args := #[x, y], argTypes := ts }) ty) σ Γ Ms := A4z (C7k hm hx hy hts hu hi hzs hsz hl h1 hb hnm) hd k_
theorem L4 {t e : TypeId} {ts : Array TypeId} {bt n' : Nat} {zv : Value} {a b : SH} {xs : List Value} {ls : List Cl} (k_ : ∀ a' : SH, Dw P f R B n K ops l (Af σ dst (sl a' (n' + ls.length))) Γ (Al 2 e a' (n' + ls.length) (xs ++ A6 ls) :: Ms2)) (hF : CL ls b ∈ Γ) (hm : Ms.Perm (Al 2 e a n' xs :: Ms2) := by first | exact Y8 | exact Ag | exact Bc | exact Fv | exact Dz | exact Kc | exact Cr) (hx : ev σ x = sl a n' := by rfl) (hy : ev σ y = sl b ls.length := by rfl) (hts : ts = #[t, t] := by rfl) (hu : Tab.und P t = some (.slice e) := by rfl) (hi : Tab.inf P e = some (2, bt, zv) := by rfl) (hzs : zv.cells.size = 2 := by rfl) (hb : (n' + ls.length) * bt ≤ 140737488355328 := by first | omega | (unfold reach at *; omega) | (unfold reach Gc at *; omega)) (hnm : n' + ls.length ≤ 9223372036854775807 := by first | omega | (unfold reach at *; omega) | (unfold reach Gc at *; omega)) (hd : Aa n dst = true := by rfl) : Ep P f R B n K ops l (Cb dst (.call { callee := .builtin .append, args := #[x, y], argTypes := ts }) ty) σ Γ Ms := A4z (A8p hm hF hx hy hts hu hi hzs hb hnm) hd k_
theorem B9o [TyF P] [TabM P] {t : TypeId} (k_ : ∀ b, Dw P f R B n K ops l (Af σ dst (.map (some b))) Γ (Yq b [] :: Ms)) (hd : Aa n dst = true := by rfl) : Ep P f R B n K ops l (Cb dst (.makeMap t none) ty) σ Γ Ms := A4z B3e hd k_
theorem B9p [TyF P] [TabM P] {t e : TypeId} {s bt b : Nat} {c : Cl} {keys : List Cl} (k_ : Dw P f R B n K ops l (Af σ dst (.bool (decide (c ∈ keys)))) Γ Ms) (hx : ev σ x = .map (some b) := by exact A9) (hm : Yq b keys ∈ Ms := by repeat (first | exact List.mem_cons_self | apply List.mem_cons_of_mem)) (hy : ev σ y = H3 c := by rfl) (hc : u32 c := by assumption) (hu : Tab.und P t = some (.map (TyF.tC P) e) := by rfl) (hi : Tab.inf P e = some (s, bt, .bool false) := by rfl) (hd : Aa n dst = true := by rfl) : Ep P f R B n K ops l (Cb dst (.lookup t x y false) ty) σ Γ Ms := I7 (C0b hx hm hc hy hu hi) hd k_
theorem C3x [TyF P] [TabM P] {t e : TypeId} {b : Nat} {c : Cl} {keys : List Cl} (k_ : Dw P f R B n K ops l σ Γ (Yq b (keys ++ [c]) :: Ms2)) (hx : ev σ x = .map (some b) := by exact A9) (hm : Ms.Perm (Yq b keys :: Ms2) := by first | exact Y8 | exact Ag | exact Bc | exact Fv | exact Dz | exact Kc | exact Cr) (hy : ev σ y = H3 c := by rfl) (hc : u32 c := by assumption) (hn : c ∉ keys := by assumption) (hz : ev σ z = .bool true := by rfl) (hu : Tab.und P t = some (.map (TyF.tC P) e) := by rfl) : Ep P f R B n K ops l (Cb none (.mapUpdate t x y z) ty) σ Γ Ms := Xm (A5h hx hm hc hn hy hz hu) k_
theorem Za {c : FuncId} {args : Array Value} {as : Array Operand} {ts : Array TypeId} {g : Operand} (hg : ev σ g = .func (.func c) #[] #[]) (ha : as.toList.map (ev σ) = args.toList) (hc : ∀ (args : Array Value) (w : World), (callFunc c args).run P w = .ok (.enter c args) w) : Qj P σ (.call { callee := .value g, args := as, argTypes := ts }) ty c args := fun w => by
 have ha : as.map (ev σ) = args := Array.ext' (by simpa using ha)
 subst ha
 simp [Cb, execOp, resolve, hg, Deferred.ofValue, invoke, hc]
theorem B4z {c : FuncId} {args cap : List Value} {as : Array Operand} {ts : Array TypeId} {g : Operand} (hg : ev σ g = .func (.func c) #[] cap.toArray) (ha : as.toList.map (ev σ) = args) (hc : ∀ (args : Array Value) (w : World), (callFunc c args).run P w = .ok (.enter c args) w) : Qj P σ (.call { callee := .value g, args := as, argTypes := ts }) ty c (args ++ cap).toArray := fun w => by
 have ha : as.map (ev σ) = args.toArray := Array.ext' (by simpa using ha)
 simp [ha, Cb, execOp, resolve, hg, Deferred.ofValue, invoke, hc]
theorem A0 {c : FuncId} {args : Array Value} {as : Array Operand} {ts : Array TypeId} {g : Operand} {pre : List Fact} {Ms0 : List B4} {X : Type} {val : X → Value} {N : X → List Fact} {Ms1 : X → List B4}
  (hc : ∀ (args : Array Value) (w : World), (callFunc c args).run P w = .ok (.enter c args) w) (hsp : Spec P c args pre Ms0 val N Ms1) (kk : ∀ x, Dw P f R B n K ops l (Af σ dst (val x)) (N x ++ Γ) (Ms1 x ++ Ms2))
  (hg : ev σ g = .func (.func c) #[] #[] := by rfl) (ha : as.toList.map (ev σ) = args.toList := by rfl) (hpre : ∀ F, F ∈ pre → F ∈ Γ := by first | (simp; done) | (simp +contextual; done)) (hm : Ms.Perm (Ms0 ++ Ms2) := by first | exact List.Perm.refl _ | exact C3c | exact C3b | exact C3a | exact C2z | exact Ag | exact Bc | exact Fv | exact Dz | exact C2y) (hd : Aa n dst = true := by rfl) : Ep P f R B n K ops l (Cb dst (.call { callee := .value g, args := as, argTypes := ts }) ty) σ Γ Ms :=
 B6b (Za hg ha hc) hsp hpre hm hd kk
theorem Eh {c : FuncId} {args cap al : List Value} {as : Array Operand} {ts : Array TypeId} {g : Operand} {pre : List Fact} {Ms0 : List B4} {X : Type} {val : X → Value} {N : X → List Fact} {Ms1 : X → List B4}
  (hc : ∀ (args : Array Value) (w : World), (callFunc c args).run P w = .ok (.enter c args) w) (hsp : Spec P c al.toArray pre Ms0 val N Ms1) (kk : ∀ x, Dw P f R B n K ops l (Af σ dst (val x)) (N x ++ Γ) (Ms1 x ++ Ms2))
  (hg : ev σ g = .func (.func c) #[] cap.toArray := by rfl) (ha : as.toList.map (ev σ) = args := by rfl) (hal : args ++ cap = al := by rfl) (hpre : ∀ F, F ∈ pre → F ∈ Γ := by first | (simp; done) | (simp +contextual; done)) (hm : Ms.Perm (Ms0 ++ Ms2) := by first | exact List.Perm.refl _ | exact C3c | exact C3b | exact C3a | exact C2z | exact Ag | exact Bc | exact Fv | exact Dz | exact C2y) (hd : Aa n dst = true := by rfl) : Ep P f R B n K ops l (Cb dst (.call { callee := .value g, args := as, argTypes := ts }) ty) σ Γ Ms :=
 B6b (B4z hg ha hc) (hal ▸ hsp) hpre hm hd kk
theorem B8 {c : FuncId} {args : Array Value} {as : Array Operand} {ts : Array TypeId} {g : Operand} {pre : List Fact} {X : Type} {val : X → Value} {N : X → List Fact} {Ms1 : X → List B4}
  (hc : ∀ (args : Array Value) (w : World), (callFunc c args).run P w = .ok (.enter c args) w) (hsp : Spec P c args pre [] val N Ms1) (kk : ∀ x, NV tn pn P f R B n K ops fin l (Af σ dst (val x)) (N x ++ Γ) (Ms1 x ++ Ms))
  (hg : ev σ g = .func (.func c) #[] #[] := by rfl) (ha : as.toList.map (ev σ) = args.toList := by rfl) (hpre : ∀ F, F ∈ pre → F ∈ Γ := by first | (simp; done) | (simp +contextual; done)) (hd : Aa n dst = true := by rfl) : Jk tn pn P f R B n K ops fin i l dst (.call { callee := .value g, args := as, argTypes := ts }) ty σ Γ Ms :=
 B6z (Za hg ha hc) hsp hpre rfl rfl hd kk
theorem D7b {c : FuncId} {args : Array Value} {as : Array Operand} {ts : Array TypeId} {g : Operand} {pre : List Fact} {chain : List PanicEntry}
  (hc : ∀ (args : Array Value) (w : World), (callFunc c args).run P w = .ok (.enter c args) w) (hsp : Qh P c args pre chain) (hR : ∀ w, St B [] [] w → R (.panicked chain) w)
  (hg : ev σ g = .func (.func c) #[] #[] := by rfl) (ha : as.toList.map (ev σ) = args.toList := by rfl) (hpre : ∀ F, F ∈ pre → F ∈ Γ := by first | (simp; done) | (simp +contextual; done)) (hD : n.defs = [] := by rfl) (hK : okK n.kind := by first | exact .inl rfl | exact .inr rfl) : Ep P f R B n K ops l (Cb dst (.call { callee := .value g, args := as, argTypes := ts }) ty) σ Γ Ms :=
 D1x (Za hg ha hc) hsp hpre hD hK hR
theorem Yo {c : FuncId} {args : Array Value} {as : Array Operand} {ts : Array TypeId} {g : Operand} {pre : List Fact} {chain : List PanicEntry} (ho : ops[i]? = some ⟨dst, .call { callee := .value g, args := as, argTypes := ts }, ty, pos, after, none⟩)
  (hc : ∀ (args : Array Value) (w : World), (callFunc c args).run P w = .ok (.enter c args) w) (hsp : Qh P c args pre chain) (hR : ∀ w, St B [] [] w → R (.panicked chain) w)
  (hg : ev σ g = .func (.func c) #[] #[] := by rfl) (ha : as.toList.map (ev σ) = args.toList := by rfl) (hpre : ∀ F, F ∈ pre → F ∈ Γ := by first | (simp; done) | (simp +contextual; done)) (hq : Nat.beq pn i = true := by rfl) (hD : n.defs = [] := by rfl) (hK : okK n.kind := by first | exact .inl rfl | exact .inr rfl) : NV tn pn P f R B n K ops fin (i :: l) σ Γ Ms :=
 D2y ho hq rfl rfl rfl (Za hg ha hc) hsp hpre hD hK hR
theorem q0 (ho : ops[i]? = some ⟨dst, op, ty, pos, after, none⟩) (h : Ep P f R B n K ops l (Cb dst op ty) σ Γ Ms) : Dw P f R B n K ops (i :: l) σ Γ Ms := D6r ho h
theorem qT {g d : Nat} {want : Bool} {og : Oper} (ho : ops[i]? = some ⟨dst, op, ty, pos, after, some (g, want)⟩) (hog : ops[g]? = some og) (hgd : og.dst = some d) (h : Ep P f R B n K ops l (Cb dst op ty) σ Γ Ms) (ht : σ d = .bool want := by rfl) : Dw P f R B n K ops (i :: l) σ Γ Ms := D2b ho hog hgd ht h
theorem qF {g d : Nat} {want t : Bool} {og : Oper} (ho : ops[i]? = some ⟨dst, op, ty, pos, after, some (g, want)⟩) (hog : ops[g]? = some og) (hgd : og.dst = some d) (h : Dw P f R B n K ops l (Af σ dst undef) Γ Ms) (ht : σ d = .bool t := by conv => lhs; whnf) (hne : (t == want) = false := by rfl) (hd : Aa n dst = true := by rfl) : Dw P f R B n K ops (i :: l) σ Γ Ms := D2c ho hog hgd ht hne hd h
theorem qU {g d : Nat} {want : Bool} {og : Oper} (ho : ops[i]? = some ⟨dst, op, ty, pos, after, some (g, want)⟩) (hog : ops[g]? = some og) (hgd : og.dst = some d) (h : Dw P f R B n K ops l (Af σ dst undef) Γ Ms) (ht : σ d = undef := by rfl) (hd : Aa n dst = true := by rfl) : Dw P f R B n K ops (i :: l) σ Γ Ms := D2a ho hog hgd ht hd h
theorem nU {g d : Nat} {want : Bool} {og : Oper} (ho : ops[i]? = some ⟨dst, op, ty, pos, after, some (g, want)⟩) (hog : ops[g]? = some og) (hgd : og.dst = some d) (h : NV tn pn P f R B n K ops fin l (Af σ dst undef) Γ Ms) (ht : σ d = undef := by rfl) (hd : Aa n dst = true := by rfl) (hn : Nat.beq pn i = false := by rfl) : NV tn pn P f R B n K ops fin (i :: l) σ Γ Ms := D2z ho hog hgd ht hd h hn
theorem qI {g d : Nat} {want t : Bool} {og : Oper} (ho : ops[i]? = some ⟨dst, op, ty, pos, after, some (g, want)⟩) (hog : ops[g]? = some og) (hgd : og.dst = some d) (ht : σ d = .bool t) (hon : t = want → Ep P f R B n K ops l (Cb dst op ty) (Rc σ d (.bool want)) Γ Ms) (hoff : t = !want → Dw P f R B n K ops l (Af (Rc σ d (.bool !want)) dst undef) Γ Ms) (hd : Aa n dst = true := by rfl) : Dw P f R B n K ops (i :: l) σ Γ Ms := D6q ho hog hgd ht hd hon hoff
theorem n0 (ho : ops[i]? = some ⟨dst, op, ty, pos, after, none⟩) (h : Jk tn pn P f R B n K ops fin i l dst op ty σ Γ Ms) (hn : Nat.beq pn i = false := by rfl) : NV tn pn P f R B n K ops fin (i :: l) σ Γ Ms := D7j ho h hn
theorem nT {g d : Nat} {want : Bool} {og : Oper} (ho : ops[i]? = some ⟨dst, op, ty, pos, after, some (g, want)⟩) (hog : ops[g]? = some og) (hgd : og.dst = some d) (h : Jk tn pn P f R B n K ops fin i l dst op ty σ Γ Ms) (ht : σ d = .bool want := by rfl) (hn : Nat.beq pn i = false := by rfl) : NV tn pn P f R B n K ops fin (i :: l) σ Γ Ms := D3a ho hog hgd ht h hn
theorem nF {g d : Nat} {want t : Bool} {og : Oper} (ho : ops[i]? = some ⟨dst, op, ty, pos, after, some (g, want)⟩) (hog : ops[g]? = some og) (hgd : og.dst = some d) (h : NV tn pn P f R B n K ops fin l (Af σ dst undef) Γ Ms) (ht : σ d = .bool t := by conv => lhs; whnf) (hne : (t == want) = false := by rfl) (hd : Aa n dst = true := by rfl) (hn : Nat.beq pn i = false := by rfl) : NV tn pn P f R B n K ops fin (i :: l) σ Γ Ms := D3b ho hog hgd ht hne hd h hn
theorem nI {g d : Nat} {want t : Bool} {og : Oper} (ho : ops[i]? = some ⟨dst, op, ty, pos, after, some (g, want)⟩) (hog : ops[g]? = some og) (hgd : og.dst = some d) (ht : σ d = .bool t) (hon : t = want → Jk tn pn P f R B n K ops fin i l dst op ty (Rc σ d (.bool want)) Γ Ms) (hoff : t = !want → NV tn pn P f R B n K ops fin l (Af (Rc σ d (.bool !want)) dst undef) Γ Ms) (hd : Aa n dst = true := by rfl) (hn : Nat.beq pn i = false := by rfl) : NV tn pn P f R B n K ops fin (i :: l) σ Γ Ms := D7i ho hog hgd ht hd hon hoff hn
end
end Go.Hy
namespace Go.Hy
theorem Gq {a b c d e f g m : B4} {L : List B4} : (a :: b :: c :: d :: e :: f :: g :: m :: L).Perm (m :: a :: b :: c :: d :: e :: f :: g :: L) := (Cr.cons a).trans Ag
theorem Fb {a b c d e f g h m : B4} {L : List B4} : (a :: b :: c :: d :: e :: f :: g :: h :: m :: L).Perm (m :: a :: b :: c :: d :: e :: f :: g :: h :: L) := (Gq.cons a).trans Ag
theorem Jb {a b c d e f g h i m : B4} {L : List B4} : (a :: b :: c :: d :: e :: f :: g :: h :: i :: m :: L).Perm (m :: a :: b :: c :: d :: e :: f :: g :: h :: i :: L) := (Fb.cons a).trans Ag
theorem Jc {a b c d e f g h i j m : B4} {L : List B4} : (a :: b :: c :: d :: e :: f :: g :: h :: i :: j :: m :: L).Perm (m :: a :: b :: c :: d :: e :: f :: g :: h :: i :: j :: L) := (Jb.cons a).trans Ag
theorem Ha {a b c d e f g h i j k m : B4} {L : List B4} : (a :: b :: c :: d :: e :: f :: g :: h :: i :: j :: k :: m :: L).Perm (m :: a :: b :: c :: d :: e :: f :: g :: h :: i :: j :: k :: L) := (Jc.cons a).trans Ag
def Q6 (x : Int) : List Value := [.int .i64 x]
abbrev R1 (l : List Int) : List Value := l.flatMap Q6
theorem U9 (x : Int) : (Q6 x).length = 1 := rfl
def D3s (ok : Nat → Prop) (l : List Int) (a : SH) (w : World) : Prop := rowAt ok 1 8 l.length a (fun i => Q6 (l.getD i 0)) w ∧ ∀ x, x ∈ l → Aj x
def IL (l : List Int) (a : SH) : Fact := ⟨fun ok w => D3s ok l a w, fun _ _ _ hs h => ⟨h.1.mono hs, h.2⟩, fun _ _ _ h hs => ⟨h.1.loc hs, h.2⟩⟩
section
variable {B : C6} {Γ : List Fact} {Ms : List B4} {w : World}
theorem St.A8t {e : TypeId} {a : SH} {n : Nat} {xs : List Value} {l : List Int} (hs : St B Γ (Al 1 e a n xs :: Ms) w) {hBp : Prop} (hB : hBp) (hx : xs = R1 l) (hn : n = l.length) (hb : n * 8 ≤ reach) (hu : ∀ c, c ∈ l → Aj c) : St B (IL l a :: Γ) Ms w := by
 subst hx
 subst hn
 refine hs.Qp hB (fun ok hok hh => ⟨?_, hu⟩)
 exact Nj (F := Q6) U9 0 (hh : World.ownsRow _ _ _ _ _ _ _) rfl hb hok
theorem St.Xn {e : TypeId} {a : SH} {n : Nat} {l : List Cl} {c : Cl} (hs : St B Γ (Al 2 e a n (A6 l ++ Ai c) :: Ms) w) : St B Γ (Al 2 e a n (A6 (l ++ [c])) :: Ms) w := by
 have h : A6 (l ++ [c]) = A6 l ++ Ai c := by simp [A6]
 rw [h]; exact hs
theorem St.A2c {e : TypeId} {a : SH} {n : Nat} {l : List TP} {t : T} {vr vk vs : SH} (hs : St B Γ (Al 6 e a n (Bz l ++ tc t vr vk vs) :: Ms) w) : St B Γ (Al 6 e a n (Bz (l ++ [(t, vr, vk, vs)])) :: Ms) w := by
 have h : Bz (l ++ [(t, vr, vk, vs)]) = Bz l ++ tc t vr vk vs := by simp [Bz, Hk]
 rw [h]; exact hs
theorem St.B6c {e : TypeId} {a : SH} {n : Nat} {l : List BP} {b : Br} {vf vk : SH} (hs : St B Γ (Al 2 e a n (Hf l ++ bc b vf vk) :: Ms) w) : St B Γ (Al 2 e a n (Hf (l ++ [(b, vf, vk)])) :: Ms) w := by
 have h : Hf (l ++ [(b, vf, vk)]) = Hf l ++ bc b vf vk := by simp [Hf, K4]
 rw [h]; exact hs
theorem St.I6 {e : TypeId} {a : SH} {n : Nat} {l m : List Cl} (hs : St B Γ (Al 2 e a n (A6 l ++ A6 m) :: Ms) w) : St B Γ (Al 2 e a n (A6 (l ++ m)) :: Ms) w := by
 have h : A6 (l ++ m) = A6 l ++ A6 m := by simp [A6]
 rw [h]; exact hs
theorem St.D2m {l : List Int} {a : SH} (hs : St B Γ Ms w) (hF : IL l a ∈ Γ) : l.length * 8 ≤ reach ∧ (0 < l.length → ∃ b o, a.1 = some ⟨b, o, Option.none⟩) ∧ ∀ c, c ∈ l → Aj c := by
 obtain ⟨h2, h4⟩ := hs.facts _ hF
 exact ⟨h2.2.1, fun hn => by obtain ⟨b, o, h3, _⟩ := h2.2.2 hn; exact ⟨b, o, h3⟩, h4⟩
end
section
variable {P : Program} {f : FuncId} {R : Ending → World → Prop} {B : C6} {n : Fz} {todo : List Item} {σ : Nat → Value} {Γ : List Fact} {Ms : List B4}
theorem V8 {l : List Int} {a : SH} (k : l.length * 8 ≤ reach → (0 < l.length → ∃ b o, a.1 = some ⟨b, o, none⟩) → (∀ c, c ∈ l → Aj c) → Es P f R B n todo σ Γ Ms) (hF : IL l a ∈ Γ := by repeat (first | exact List.mem_cons_self | apply List.mem_cons_of_mem)) : Es P f R B n todo σ Γ Ms :=
 C7 (p := l.length * 8 ≤ reach ∧ (0 < l.length → ∃ b o, a.1 = some ⟨b, o, none⟩) ∧ ∀ c, c ∈ l → Aj c) (fun w hs => hs.D2m hF) (fun h => k h.1 h.2.1 h.2.2)
theorem Bf {K : List Item} {c : Code} {X : Type} (Inv : X → Prop) (live : X → List (Nat × Value)) (E : X → List Fact → List Fact) (Mf : X → List B4) (μ : X → Nat) (x0 : X) (h0 : Inv x0)
  (hl : Pa σ (live x0)) (hΓ : ∀ w, St B Γ Ms w → St B (E x0 Γ) (Mf x0) w)
  (round : ∀ x base, Inv x → (∀ x' σ', Inv x' → μ x' < μ x → Pa σ' (live x') → Es P f R B n (.inLoop c :: K) σ' (E x' Γ) (Mf x')) →
   Es P f R B n (.code c :: .inLoop c :: K) (stL base (live x)) (E x Γ) (Mf x)) :
  Es P f R B n (.code (.loop c) :: K) σ Γ Ms := Fm Inv live (fun x => E x Γ) Mf μ x0 h0 hl hΓ round
end
theorem NV.conv {tn : Bool} {pn : Nat} {P : Program} {f : FuncId} {R : Ending → World → Prop} {B : C6} {n : Fz} {K : List Item} {ops : Array Oper} {l fin : List Nat} {σ : Nat → Value} {Γ : List Fact} {Ms' : List B4} (h : NV tn pn P f R B n K ops fin l σ Γ Ms') :
  ∀ {Ms : List B4}, (∀ Γ M w, St B Γ (M ++ Ms) w → St B Γ (M ++ Ms') w) → NV tn pn P f R B n K ops fin l σ Γ Ms := by
 induction h with
 | done h => exact fun hc => .done (fun a w hr hs => h a w hr (hc _ [] w hs))
 | no h => exact fun hc => .no (fun ⟨w, hw⟩ => h ⟨w, hc _ [] w hw⟩)
 | pure ho hw hd h k ih => exact fun hc => .pure ho hw hd h (ih hc)
 | load ht ho hm hw hd h k ih => exact fun hc => .load ht ho hm hw hd (fun w hs => h w (hc _ [] w hs)) (ih hc)
 | off ho hw hd k ih => exact fun hc => .off ho hw hd (ih hc)
 | alloc ho hg hw hd h k ih => exact fun hc => .alloc ho hg hw hd h (fun b => ih b (fun Γ M w hs => by
   have := hc Γ (M ++ [A8 b _ _]) w (by simpa using hs)
   simpa using this))
 | allocF hz ho hg hgm hw hd h hF k ih => exact fun hc => .allocF hz ho hg hgm hw hd h hF (fun b => ih b hc)
 | call ht ho hg hm hw hd he hsp hpre k ih => exact fun hc => .call ht ho hg hm hw hd he hsp hpre (fun x => ih x (fun Γ M w hs => by
   have := hc Γ (M ++ _) w (by simpa using hs)
   simpa using this))
 | loadF ho hm hw hd h k ih => exact fun hc => .loadF ho hm hw hd h (ih hc)
 | pan ht ho hq hg hm hw he hsp hpre hR => exact fun hc => .pan ht ho hq hg hm hw he hsp hpre hR
 | @E5 i l o X val F r r' σ Γ Ms0 Ms2 ht ho hb hw hd hp h k hz ih =>
  intro Ms hc
  refine NV.E5 (F := F) (r := Ms) (r' := fun x => r' x ++ Ms2) (Ms2 := []) ht ho hb hw hd (by rw [List.append_nil]) (fun M w hs => ?_) (fun x => by rw [List.append_nil]; exact k x) hz
  have h0 : St B Γ (M ++ Ms0) w := hc _ M w (hs.perm List.perm_append_comm)
  have h1 : St B Γ (r ++ (Ms2 ++ M)) w := by
   rw [← List.append_assoc]
   exact h0.perm (List.perm_append_comm.trans (hp.append_right M))
  obtain ⟨x, w', h2, h3⟩ := h (Ms2 ++ M) w h1
  exact ⟨x, w', h2, by rw [List.append_assoc]; exact h3⟩
 | @sto i l o r r' σ Γ Ms0 Ms2 ho hb hw hd hp h k ih =>
  intro Ms hc
  refine NV.sto (r := Ms) (r' := r' ++ Ms2) (Ms2 := []) ho hb hw hd (by rw [List.append_nil]) (fun M w hs => ?_) (by rw [List.append_nil]; exact k)
  have h0 : St B Γ (M ++ Ms0) w := hc _ M w (hs.perm List.perm_append_comm)
  have h1 : St B Γ (r ++ (Ms2 ++ M)) w := by
   rw [← List.append_assoc]
   exact h0.perm (List.perm_append_comm.trans (hp.append_right M))
  obtain ⟨w', h2, h3⟩ := h (Ms2 ++ M) w h1
  exact ⟨w', h2, by rw [List.append_assoc]; exact h3⟩
theorem B6y {tn : Bool} {pn : Nat} {P : Program} {f : FuncId} {R : Ending → World → Prop} {B : C6} {n : Fz} {K : List Item} {ops : Array Oper} {l fin : List Nat} {σ : Nat → Value} {Γ : List Fact} {Ms : List B4} (A A' : List B4) (hc : ∀ Γ L w, St B Γ (A ++ L) w → St B Γ (A' ++ L) w) (h : NV tn pn P f R B n K ops fin l σ Γ (A' ++ Ms)) : NV tn pn P f R B n K ops fin l σ Γ (A ++ Ms) :=
 h.conv (fun Γ M w hs => by
  have h1 := hc Γ (Ms ++ M) w (by simpa using hs.perm List.perm_append_comm)
  have h2 : St B Γ ((A' ++ Ms) ++ M) w := by simpa using h1
  exact h2.perm List.perm_append_comm)
section
variable {P : Program} [Tab P] {B : C6} {σ : Nat → Value} {Γ : List Fact} {Ms : List B4} {ty : TypeId} {x y : Operand} {k : IntKind} {a : Int} {v : Value}
theorem D3j {t : TypeId} {d : TypeDesc} {bk o i : Nat} {a : SH} {l : List Int} (hx : ev σ x = .pointer (some ⟨bk, o + i * 1, none⟩)) (hF : IL l a ∈ Γ) (ha : a.1 = some ⟨bk, o, none⟩) (hu : Tab.und P t = some d) (hd : (match d with | .struct _ | .array _ _ => true | _ => false) = false) (hlt : i < l.length) :
  Kw P B σ Γ Ms (.load t x) ty (.int .i64 (l.getD i 0)) := fun w hs => by
 have h3 := (Jr (hs.facts _ hF).1 ha hlt).2 0 (.int .i64 (l.getD i 0)) rfl
 rw [Nat.add_zero] at h3
 have h4 := En (P := P) hu hd h3
 generalize hv : l.getD i 0 = u at h4 ⊢
 simp only [Cb, execOp, hx, Instr.loadAt, Instr.sureAddr]
 rw [Nat.mul_one] at h4 ⊢
 simp [h4]
theorem B9h {s d : TypeId} {a : Int} {m : Nat} (hs : Tab.und P s = some (.int .i64)) (hd : Tab.und P d = some (.int .u64)) (hx : ev σ x = .int .i64 a) (ha : a = (m : Int)) (hm : m < 18446744073709551616) : Ch P σ (.convert s d x) ty (.int .u64 (m : Int)) := by
 have e : IntKind.u64.wrap a = (m : Int) := by
  have : IntKind.u64.wrap a = a % 18446744073709551616 := by simp [IntKind.wrap, IntKind.bits, IntKind.signed]
  rw [this]; omega
 have := Lx (P := P) (ty := ty) hs hd hx
 rwa [e] at this
end
end Go.Hy
namespace Go.Hy
section
variable {P : Program} [Tab P] {B : C6} {σ : Nat → Value} {Γ : List Fact} {Ms : List B4} {ty : TypeId} {x y : Operand}
end
section
variable {B : C6} {Γ : List Fact} {Ms : List B4} {w : World}
end
end Go.Hy
namespace Go.Hy
section
variable {P : Program} [Tab P] {σ : Nat → Value} {ty : TypeId} {x y : Operand}
theorem B5u (n : Int) : IntKind.u64.wrap n = n % 18446744073709551616 := by simp [IntKind.wrap, IntKind.bits, IntKind.signed]
theorem C8e {t t' : TypeId} {k2 : IntKind} {a m : Nat} (hx : ev σ x = .int .u64 (a : Int)) (hy : ev σ y = .int k2 (m : Int)) (hm : m ≤ 64) (hb : a * 2 ^ m < 18446744073709551616) : Ch P σ (.binOp .shl t x y t') ty (.int .u64 ((a * 2 ^ m : Nat) : Int)) :=
 D6 hx hy (fun w => Bv w) (fun w => by
  have e : IntKind.u64.wrap ((a : Int) * 2 ^ min (m : Int).toNat 64) = ((a * 2 ^ m : Nat) : Int) := by
   rw [B5u, Int.toNat_natCast, Nat.min_eq_left hm]
   have : ((a : Int) * 2 ^ m) = ((a * 2 ^ m : Nat) : Int) := by rw [Int.natCast_mul, Int.natCast_pow]; rfl
   rw [this]; omega
  have h0 : ¬ ((m : Int) < 0) := by omega
  simp only [binOp, Op.shift, if_neg h0]
  show Result.ok (Value.int .u64 (IntKind.u64.wrap ((a : Int) * 2 ^ min (m : Int).toNat 64))) w = _
  rw [e])
theorem C8c {t t' : TypeId} {a b : Nat} (hx : ev σ x = .int .u64 (a : Int)) (hy : ev σ y = .int .u64 (b : Int)) (h : b ≤ a) (ha : a < 18446744073709551616) : Ch P σ (.binOp .sub t x y t') ty (.int .u64 ((a - b : Nat) : Int)) :=
 D6 hx hy (fun w => Bv w) (fun w => by
  have e : IntKind.u64.wrap ((a : Int) - (b : Int)) = ((a - b : Nat) : Int) := by rw [B5u]; omega
  simp only [binOp, Op.intArith, ne_eq, not_true, if_false]
  show Result.ok (Value.int .u64 (IntKind.u64.wrap ((a : Int) - (b : Int)))) w = _
  rw [e])
theorem B9j {s d : TypeId} {a : Nat} (hs : Tab.und P s = some (.int .u64)) (hd : Tab.und P d = some (.int .u32)) (hx : ev σ x = .int .u64 (a : Int)) (ha : a < 4294967296) : Ch P σ (.convert s d x) ty (.int .u32 (a : Int)) := by
 have e : IntKind.u32.wrap (a : Int) = (a : Int) := by rw [C1o]; omega
 have := Lx (P := P) (ty := ty) hs hd hx
 rwa [e] at this
end
end Go.Hy
namespace Go.Hy
section
variable {P : Program} [Tab P] {σ : Nat → Value} {ty : TypeId} {x y : Operand}
end
end Go.Hy
namespace Go.Hy
open Go Go.ChangeShapes Go.WideShapes Go.RowKit
variable {P : Program} {H : Type} {enc : TypeId × Value → H} {W : World} {base : Nat} {v : Value} {d : DataW H} {ps : List MemPlace}
theorem Mu {t : TypeId} {ts : List TypeId} {ds : List (DataW H)} (h : ∀ x, x ∈ DataW.weightsEach P (t :: ts) (d :: ds) → x ≤ reach) : Mp P t d ∧ ∀ x, x ∈ DataW.weightsEach P ts ds → x ≤ reach :=
 ⟨fun x hx => h x (by simp only [DataW.weightsEach, List.mem_append]; exact .inl hx), fun x hx => h x (by simp only [DataW.weightsEach, List.mem_append]; exact .inr hx)⟩
theorem Rx {t : TypeId} {ts : List TypeId} {vs : List Value} {ds : List (DataW H)} (h : DataW.TrodAll enc P W 0 (fun _ => true) true (t :: ts) vs ds ps) :
  ∃ v vs' d ds' p q, vs = v :: vs' ∧ ds = d :: ds' ∧ DataW.Trod enc P W 0 (fun _ => true) true t v d p ∧ DataW.TrodAll enc P W 0 (fun _ => true) true ts vs' ds' q := by
 obtain ⟨v, vs1, d, ds1, a, b, h1, h2, h3, h4, h5⟩ := trodAll_cons h
 exact ⟨v, vs1, d, ds1, a, b, h1, h2, h4, h5⟩
theorem B8r {vs : List Value} {ds : List (DataW H)} (h : DataW.TrodAll enc P W 0 (fun _ => true) true [] vs ds ps) : vs = [] := by
 obtain ⟨h1, _, _⟩ := trodAll_nil h
 exact h1
theorem D1g {t : TypeId} (ht : P.underlying t = some (.int .i64)) (hval : Value.okWide P W .any base t v) (h : DataW.Trod enc P W 0 (fun _ => true) true t v d ps) : ∃ n : Int, v = .int .i64 n ∧ Aj n := by
 obtain ⟨n, rfl, _, _, hw⟩ := open_int ht hval h
 simp only [Lit.wf, Bool.and_eq_true, decide_eq_true_eq] at hw
 exact ⟨n, rfl, hw.1, hw.2⟩
variable [TyF P]
theorem D9j {t : TypeId} (ht : t = TyF.tT P) (hval : Value.okWide P W .any base t v) (h : DataW.Trod enc P W 0 (fun _ => true) true t v d ps) (hl : Mp P t d) : ∃ (u : T) (vr vk vs : SH), v = .agg (tc u vr vk vs).toArray ∧ F4 (okw W) u vr vk vs W := by
 subst ht
 obtain ⟨cs, rfl, _⟩ := okWide_struct TyF.uT hval
 obtain ⟨fuel, hf⟩ := h
 obtain ⟨⟨u, vr, vk, vs⟩, h1, h2⟩ := (A2z fuel).1 _ _ _ hf hl
 exact ⟨u, vr, vk, vs, by
  have h3 : (Value.agg cs).cells.toList = tc u vr vk vs := h1
  rw [← h3]; simp [Value.cells], h2⟩
end Go.Hy
namespace Go.Hy
def Cn (L : List B4) : B4 := ⟨B9 L, fun w => (∀ m, m ∈ L → ∀ w', (∀ b, m.dom b → w'.heap[b]? = w.heap[b]?) → m.holds w') ∧ (L.Pairwise fun m m' => ∀ b, m.dom b → m'.dom b → False)⟩
section
variable {B : C6} {Γ : List Fact} {Ms L L' : List B4} {w : World}
theorem St.pack (hs : St B Γ (L ++ Ms) w) : St B Γ (Cn L :: Ms) w := by
 have hd : ∀ b, B9 (Cn L :: Ms) b ↔ B9 (L ++ Ms) b := fun b => by rw [Fp, Dl]; exact Iff.rfl
 refine ⟨hs.chg, fun F hF => F.mono _ _ _ (fun b hb => ⟨hb.1, hb.2.1, fun hc => hb.2.2 ((hd b).mp hc)⟩) (hs.facts F hF), ?_, ?_, ?_⟩
 ·intro m hm w' hw
  rcases List.mem_cons.mp hm with e | hm
  ·subst e
   exact ⟨fun m hm w2 hw2 => hs.res m (List.mem_append_left _ hm) w2 (fun b hb => (hw2 b hb).trans (hw b ⟨m, hm, hb⟩)), (List.pairwise_append.mp hs.disj).1⟩
  ·exact hs.res m (List.mem_append_right _ hm) w' hw
 ·intro m hm b hb
  rcases List.mem_cons.mp hm with e | hm
  ·subst e
   obtain ⟨m', hm', hb'⟩ := hb
   exact hs.lt m' (List.mem_append_left _ hm') b hb'
  ·exact hs.lt m (List.mem_append_right _ hm) b hb
 ·refine List.pairwise_cons.mpr ⟨fun m hm b hb hb2 => ?_, (List.pairwise_append.mp hs.disj).2.1⟩
  obtain ⟨m', hm', hb'⟩ := hb
  exact (List.pairwise_append.mp hs.disj).2.2 m' hm' m hm b hb' hb2
theorem St.unpack (hs : St B Γ (Cn L :: Ms) w) : St B Γ (L ++ Ms) w := by
 have hd : ∀ b, B9 (Cn L :: Ms) b ↔ B9 (L ++ Ms) b := fun b => by rw [Fp, Dl]; exact Iff.rfl
 have hb0 := hs.res (Cn L) List.mem_cons_self w (fun _ _ => rfl)
 refine ⟨hs.chg, fun F hF => F.mono _ _ _ (fun b hb => ⟨hb.1, hb.2.1, fun hc => hb.2.2 ((hd b).mpr hc)⟩) (hs.facts F hF), ?_, ?_, ?_⟩
 ·intro m hm w' hw
  rcases List.mem_append.mp hm with hm | hm
  ·exact hb0.1 m hm w' hw
  ·exact hs.res m (List.mem_cons_of_mem _ hm) w' hw
 ·intro m hm b hb
  rcases List.mem_append.mp hm with hm | hm
  ·exact hs.lt (Cn L) List.mem_cons_self b ⟨m, hm, hb⟩
  ·exact hs.lt m (List.mem_cons_of_mem _ hm) b hb
 ·exact List.pairwise_append.mpr ⟨hb0.2, (List.pairwise_cons.mp hs.disj).2, fun m hm m' hm' b hb hb' => (List.pairwise_cons.mp hs.disj).1 m' hm' b ⟨m, hm, hb⟩ hb'⟩
theorem St.N5 (hs : St B Γ Ms w) : St B Γ (Cn [] :: Ms) w := St.pack (L := []) hs
theorem St.C9r (hs : St B Γ (Cn L :: Cn L' :: Ms) w) : St B Γ (Cn (L' ++ L) :: Ms) w := by
 have h1 := (hs.unpack.perm List.perm_middle).unpack
 exact St.pack (by rw [List.append_assoc]; exact h1)
end
mutual
inductive HT where
 | mk (kind n : Int) (name : ByteArray) (r : List Cl) (vr : SH) (kids : List HT) (vk : SH) (sys : List HB) (vs : SH)
inductive HB where
 | mk (Ah : List Cl) (vf : SH) (kids : List HT) (vk : SH)
end
mutual
def HT.er : HT → T
 | .mk k n nm r _ ks _ ss _ => .mk k n nm r (HT.erL ks) (HT.erB ss)
def HT.erL : List HT → List T
 | [] => []
 | h :: hs => h.er :: HT.erL hs
def HT.erB : List HB → List Br
 | [] => []
 | .mk f _ ks _ :: bs => .mk f (HT.erL ks) :: HT.erB bs
end
def HB.er : HB → Br
 | .mk f _ ks _ => .mk f (HT.erL ks)
theorem HT.Hs : ∀ l : List HT, HT.erL l = l.map HT.er
 | [] => by simp [HT.erL]
 | h :: hs => by simp [HT.erL, HT.Hs hs]
theorem HT.Sh : ∀ l : List HB, HT.erB l = l.map HB.er
 | [] => by simp [HT.erB]
 | .mk f v ks u :: bs => by simp [HT.erB, HB.er, HT.Sh bs]
namespace HT
def vr : HT → SH | .mk _ _ _ _ v _ _ _ _ => v
def vk : HT → SH | .mk _ _ _ _ _ _ v _ _ => v
def vs : HT → SH | .mk _ _ _ _ _ _ _ _ v => v
def kids : HT → List HT | .mk _ _ _ _ _ ks _ _ _ => ks
def sys : HT → List HB | .mk _ _ _ _ _ _ _ ss _ => ss
def tp (h : HT) : TP := (h.er, h.vr, h.vk, h.vs)
end HT
namespace HB
def Ah : HB → List Cl | .mk f _ _ _ => f
def vf : HB → SH | .mk _ v _ _ => v
def kids : HB → List HT | .mk _ _ ks _ => ks
def vk : HB → SH | .mk _ _ _ v => v
def bp (b : HB) : BP := (b.er, b.vf, b.vk)
end HB
structure Tys where
 c : TypeId
 t : TypeId
 b : TypeId
mutual
def F3 (y : Tys) : HT → List B4
 | .mk _ _ _ r v ks u ss x => Al 2 y.c v r.length (A6 r) :: Al 6 y.t u ks.length (Bz (ks.map HT.tp)) :: Al 2 y.b x ss.length (Hf (ss.map HB.bp)) :: (E1 y ks ++ N3 y ss)
def E1 (y : Tys) : List HT → List B4
 | [] => []
 | h :: hs => F3 y h ++ E1 y hs
def N3 (y : Tys) : List HB → List B4
 | [] => []
 | .mk f v ks u :: bs => (Al 2 y.c v f.length (A6 f) :: Al 6 y.t u ks.length (Bz (ks.map HT.tp)) :: E1 y ks) ++ N3 y bs
end
def brR (y : Tys) : HB → List B4
 | .mk f v ks u => Al 2 y.c v f.length (A6 f) :: Al 6 y.t u ks.length (Bz (ks.map HT.tp)) :: E1 y ks
theorem B0y (y : Tys) : ∀ l, E1 y l = l.flatMap (F3 y)
 | [] => by simp [E1]
 | h :: hs => by simp [E1, B0y y hs]
theorem B7w (y : Tys) : ∀ l, N3 y l = l.flatMap (brR y)
 | [] => by simp [N3]
 | .mk f v ks u :: bs => by simp [N3, brR, B7w y bs]
mutual
def Kf : T → Prop
 | .mk k n nm r ks ss => Aj k ∧ Aj n ∧ nm.size ≤ Gc ∧ ((∀ c, c ∈ r → u32 c) ∧ r.length * 8 ≤ reach) ∧ ks.length * 104 ≤ reach ∧ ss.length * 48 ≤ reach ∧ okL ks ∧ okB ss
def okL : List T → Prop
 | [] => True
 | t :: ts => Kf t ∧ okL ts
def okB : List Br → Prop
 | [] => True
 | .mk f ks :: bs => ((∀ c, c ∈ f → u32 c) ∧ f.length * 8 ≤ reach) ∧ ks.length * 104 ≤ reach ∧ okL ks ∧ okB bs
end
mutual
theorem Tw {ok : Nat → Prop} {w : World} : ∀ {t : T} {vr vk vs : SH}, F4 ok t vr vk vs w → Kf t
 | .mk k n nm r ks ss, vr, vk, vs, h => by
  simp only [F4] at h
  simp only [Kf]
  obtain ⟨h1, h2, h3, h4, ⟨VR, VK, VS, h6, h7⟩, ⟨VF, VK', h9, h10⟩⟩ := h
  exact ⟨h1, h2, h3, ⟨h4.2, h4.1.2.1⟩, h6.2.1, h9.2.1, B3z h7, C3w h10⟩
theorem B3z {ok : Nat → Prop} {w : World} : ∀ {ts : List T} {VR VK VS : Nat → SH}, Fs ok ts VR VK VS w → okL ts
 | [], _, _, _, _ => by simp only [okL]
 | t :: ts, _, _, _, h => by
  simp only [Fs] at h
  simp only [okL]
  exact ⟨Tw h.1, B3z h.2⟩
theorem C3w {ok : Nat → Prop} {w : World} : ∀ {bs : List Br} {VF VK : Nat → SH}, Gg ok bs VF VK w → okB bs
 | [], _, _, _ => by simp only [okB]
 | .mk f ks :: bs, _, _, h => by
  simp only [Gg, N4] at h
  simp only [okB]
  obtain ⟨⟨h1, ⟨VR, VK, VS, h2, h3⟩⟩, h4⟩ := h
  exact ⟨⟨h1.2, h1.1.2.1⟩, h2.2.1, B3z h3, C3w h4⟩
end
theorem Tt {K S M : List B4} {a : B4} : (K ++ (S ++ a :: M)).Perm (a :: (K ++ (S ++ M))) := (List.perm_middle.append_left K).trans List.perm_middle
section
variable {B : C6} {Γ : List Fact} {Ms : List B4} {w : World}
mutual
theorem St.J8 (y : Tys) {hBp : Prop} (hB : hBp) : ∀ (h : HT) {Γ : List Fact} {Ms : List B4}, Kf h.er → St B Γ (F3 y h ++ Ms) w → St B (RT h.er h.vr h.vk h.vs :: Γ) Ms w
 | .mk k n nm r v ks u ss x, Γ, Ms, hok, hs => by
  simp only [HT.er, Kf] at hok
  obtain ⟨o1, o2, o3, o4, o5, o6, o7, o8⟩ := hok
  simp only [F3, List.cons_append, List.append_assoc] at hs
  have h1 := hs.Bx (l := r) hB rfl rfl o4.2 o4.1
  -- the rows of kids and branches wait behind the parts
  have h2 : St B (CL r v :: Γ) (E1 y ks ++ (N3 y ss ++ (Al 6 y.t u ks.length (Bz (ks.map HT.tp)) :: Al 2 y.b x ss.length (Hf (ss.map HB.bp)) :: Ms))) w := by
   exact h1.perm (((Tt.trans (Tt.cons _))).symm)
  have h3 := St.Xp y hB ks [] (by rw [HT.Hs] at o7; exact o7) (by simpa using h2.Zs)
  have h4 := St.A8u y hB ss [] (by rw [HT.Sh] at o8; exact o8) (h3.D1b)
  have h5 := h4.Lt (ps := ks.map HT.tp) (ts := ks.map HT.er) hB Cs rfl (by simp [HT.tp, Function.comp_def]) Cs (by rw [HT.Hs, List.length_map] at o5; exact o5)
  have h6 := h5.A8v (ps := ss.map HB.bp) (bs := ss.map HB.er) hB Cs rfl (by simp [HB.bp, Function.comp_def]) Cs (by rw [HT.Sh, List.length_map] at o6; exact o6)
  have h7 := h6.B9s (k := k) (n := n) (nm := nm) (r := r) (vr := v) (ks := ks.map HT.er) (vk := u) (ss := ss.map HB.er) (vs := x) o1 o2 o3 Cs Cs Cs
  simp only [HT.er, HT.Hs, HT.Sh, HT.vr, HT.vk, HT.vs]
  exact h7.less sx_
theorem St.Xp (y : Tys) {hBp : Prop} (hB : hBp) : ∀ (ks : List HT) (ps : List TP) {Γ : List Fact} {Ms : List B4}, okL (ks.map HT.er) → St B (AP ps :: Γ) (E1 y ks ++ Ms) w → St B (AP (ps ++ ks.map HT.tp) :: Γ) Ms w
 | [], ps, Γ, Ms, hok, hs => by simpa [E1] using hs
 | h :: hs', ps, Γ, Ms, hok, hs => by
  simp only [List.map_cons, okL] at hok
  simp only [E1, List.append_assoc] at hs
  have h1 := St.J8 y hB h hok.1 hs
  have h2 := h1.Ul (ps := ps) (t := h.er) (vr := h.vr) (vk := h.vk) (vs := h.vs) Cs Cs
  have h3 := St.Xp y hB hs' (ps ++ [h.tp]) (Γ := Γ) hok.2 (h2.less (by simp +contextual [HT.tp]))
  simpa using h3
theorem St.A8u (y : Tys) {hBp : Prop} (hB : hBp) : ∀ (bs : List HB) (ps : List BP) {Γ : List Fact} {Ms : List B4}, okB (bs.map HB.er) → St B (BPs ps :: Γ) (N3 y bs ++ Ms) w → St B (BPs (ps ++ bs.map HB.bp) :: Γ) Ms w
 | [], ps, Γ, Ms, hok, hs => by simpa [N3] using hs
 | .mk f v ks u :: bs, ps, Γ, Ms, hok, hs => by
  simp only [List.map_cons, HB.er, okB] at hok
  obtain ⟨o1, o2, o3, o4⟩ := hok
  simp only [N3, List.cons_append, List.append_assoc] at hs
  have h1 := hs.Bx (l := f) hB rfl rfl o1.2 o1.1
  have h2 : St B (CL f v :: BPs ps :: Γ) (E1 y ks ++ (Al 6 y.t u ks.length (Bz (ks.map HT.tp)) :: (N3 y bs ++ Ms))) w := h1.perm (by exact List.perm_middle.symm)
  have h3 := St.Xp y hB ks [] (by rw [HT.Hs] at o3; exact o3) (by simpa using h2.Zs)
  have h4 := h3.Lt (ps := ks.map HT.tp) (ts := ks.map HT.er) hB Cs rfl (by simp [HT.tp, Function.comp_def]) Cs (by rw [HT.Hs, List.length_map] at o2; exact o2)
  have h5 := h4.D1c (ps := ps) (f := f) (ks := ks.map HT.er) (vf := v) (vk := u) Cs Cs Cs
  have h6 := St.A8u y hB bs (ps ++ [(.mk f (ks.map HT.er), v, u)]) (Γ := Γ) o4 (h5.less sx_)
  simpa [HB.bp, HB.er, HB.vf, HB.vk, HT.Hs] using h6
end
end
end Go.Hy
namespace Go.Hy
section
variable {B : C6} {Γ : List Fact} {Ms K S : List B4} {w : World} {a b c : B4}
theorem St.D6u (hs : St B Γ (a :: b :: c :: Cn K :: Cn S :: Ms) w) : St B Γ (Cn (a :: b :: c :: (K ++ S)) :: Ms) w := by
 have h1 : St B Γ (Cn K :: Cn S :: a :: b :: c :: Ms) w := hs.perm (Fv.trans (Fv.cons _))
 have h2 : St B Γ (Cn S :: (K ++ a :: b :: c :: Ms)) w := h1.unpack.perm List.perm_middle
 have h3 : St B Γ (K ++ (S ++ a :: b :: c :: Ms)) w := h2.unpack.perm (by rw [← List.append_assoc, ← List.append_assoc]; exact List.perm_append_comm.append_right _)
 exact St.pack (L := a :: b :: c :: (K ++ S)) (by
  simp only [List.cons_append, List.append_assoc]
  exact h3.perm (Tt.trans ((Tt.trans (Tt.cons _)).cons _)))
theorem St.D6v (hs : St B Γ (a :: b :: Cn K :: Cn S :: Ms) w) : St B Γ (Cn (S ++ (a :: b :: K)) :: Ms) w := by
 have h1 : St B Γ (Cn K :: Cn S :: a :: b :: Ms) w := hs.perm (Bc.trans (Bc.cons _))
 have h2 : St B Γ (Cn S :: (K ++ a :: b :: Ms)) w := h1.unpack.perm List.perm_middle
 have h3 : St B Γ (S ++ (K ++ a :: b :: Ms)) w := h2.unpack
 exact St.pack (L := S ++ (a :: b :: K)) (by
  have : (S ++ a :: b :: K) ++ Ms = S ++ (a :: b :: (K ++ Ms)) := by simp
  rw [this]
  exact h3.perm ((List.perm_middle.trans (List.perm_middle.cons _)).append_left S))
theorem St.B7o {y : Tys} {hs : List HT} {h : HT} (h0 : St B Γ (Cn (F3 y h) :: Cn (E1 y hs) :: Ms) w) : St B Γ (Cn (E1 y (hs ++ [h])) :: Ms) w := by
 have := h0.C9r
 rwa [show E1 y hs ++ F3 y h = E1 y (hs ++ [h]) by simp [B0y]] at this
theorem St.C5f {y : Tys} {bs : List HB} {f : List Cl} {v u : SH} {ks : List HT} {n m : Nat} {fl tl : List Value} (hn : n = f.length) (hm : m = ks.length) (hf : fl = A6 f) (ht : tl = Bz (ks.map HT.tp)) (h0 : St B Γ (Al 2 y.c v n fl :: Al 6 y.t u m tl :: Cn (E1 y ks) :: Cn (N3 y bs) :: Ms) w) : St B Γ (Cn (N3 y (bs ++ [.mk f v ks u])) :: Ms) w := by
 subst hn; subst hm; subst hf; subst ht
 have := h0.D6v
 rwa [show N3 y bs ++ (Al 2 y.c v f.length (A6 f) :: Al 6 y.t u ks.length (Bz (ks.map HT.tp)) :: E1 y ks) = N3 y (bs ++ [.mk f v ks u]) by simp [B7w, brR]] at this
theorem St.B7m {y : Tys} {k n : Int} {nm : ByteArray} {r : List Cl} {v u x : SH} {ks : List HT} {ss : List HB} {n1 n2 n3 : Nat} {l1 l2 l3 : List Value} (e1 : n1 = r.length) (e2 : n2 = ks.length) (e3 : n3 = ss.length) (f1 : l1 = A6 r) (f2 : l2 = Bz (ks.map HT.tp)) (f3 : l3 = Hf (ss.map HB.bp))
  (h0 : St B Γ (Al 2 y.c v n1 l1 :: Al 6 y.t u n2 l2 :: Al 2 y.b x n3 l3 :: Cn (E1 y ks) :: Cn (N3 y ss) :: Ms) w) : St B Γ (Cn (F3 y (.mk k n nm r v ks u ss x)) :: Ms) w := by
 subst e1; subst e2; subst e3; subst f1; subst f2; subst f3
 simpa only [F3] using h0.D6u
end
end Go.Hy
namespace Go.Hy
section
variable {P : Program} {f : FuncId} {R : Ending → World → Prop} {B : C6} {n : Fz} {K : List Item} {σ : Nat → Value} {Γ LF : List Fact} {Ms Ms2 Ms' : List B4} {todo : List Item} {w : World}
theorem M7 (h : Ms = Ms') (k : Es P f R B n todo σ Γ Ms') : Es P f R B n todo σ Γ Ms := h ▸ k
theorem St.Ct {b : Nat} {cs : List Value} {T : TypeId} {hBp : Prop} (hB : hBp) (hs : St B Γ (A8 b cs T :: Ms) w) : St B (At b 0 cs :: Γ) Ms w := by
 refine hs.Qp hB (fun ok hok hh => ⟨hok b rfl, fun j v hj => ?_⟩)
 have hh : w.heap[b]? = some (.cells cs.toArray T (0, 0)) := hh
 simp [World.cell?, hh, hj]
end
end Go.Hy
namespace Go.Hy
section
variable {B : C6} {Γ : List Fact} {Ms K S : List B4} {w : World} {a b c : B4}
def h0 : HT := .mk 0 0 (ByteArray.mk #[]) [] (none, 0) [] (none, 0) [] (none, 0)
def hb0 : HB := .mk [] (none, 0) [] (none, 0)
theorem Spec.conv {P : Program} {k : FuncId} {args args' : Array Value} {pre : List Fact} {Ms0 Ms0' : List B4} {X : Type} {val : X → Value} {N : X → List Fact} {Ms1 : X → List B4} (h : Spec P k args pre Ms0 val N Ms1) (ha : args = args') (hd : ∀ b, B9 Ms0' b ↔ B9 Ms0 b) (hs : ∀ B w, St B pre Ms0' w → St B pre Ms0 w) : Spec P k args' pre Ms0' val N Ms1 := by
 subst ha
 have e : B9 Ms0' = B9 Ms0 := funext fun b => propext (hd b)
 intro ok w hok hst
 rw [e] at hst ⊢
 exact h ok w (fun b hb => ⟨(hok b hb).1, fun hc => (hok b hb).2 ((hd b).2 hc)⟩) (hs _ _ hst)
mutual
theorem HT.E0l {P : HT → Prop} (h : ∀ k n nm r v ks u ss x, (∀ c, c ∈ ks → P c) → P (.mk k n nm r v ks u ss x)) : ∀ t, P t
 | .mk k n nm r v ks u ss x => h k n nm r v ks u ss x (HT.C0d h ks)
theorem HT.C0d {P : HT → Prop} (h : ∀ k n nm r v ks u ss x, (∀ c, c ∈ ks → P c) → P (.mk k n nm r v ks u ss x)) : ∀ ts : List HT, ∀ c, c ∈ ts → P c
 | [], _, hc => by cases hc
 | t :: ts, c, hc => by
  rcases List.mem_cons.mp hc with e | hc
  ·rw [e]; exact HT.E0l h t
  ·exact HT.C0d h ts c hc
end
end
end Go.Hy
namespace Go.Hy
section
variable {tn : Bool} {pn : Nat} {P : Program} [Tab P] {f : FuncId} {R : Ending → World → Prop} {B : C6} {n : Fz} {K : List Item} {ops : Array Oper} {i : Nat} {l fin : List Nat} {σ : Nat → Value} {Γ : List Fact} {Ms Ms2 : List B4}
variable {dst : Option Tmp} {op : Op} {ty : TypeId} {pos : String} {after : Array Edge} {v : Value} {x y z : Operand}
theorem B4d {t t' : TypeId} {k2 : IntKind} {a m : Nat} (k_ : Dw P f R B n K ops l (Af σ dst (.int .u64 ((a * 2 ^ m : Nat) : Int))) Γ Ms) (hx : ev σ x = .int .u64 (a : Int) := by exact A9) (hy : ev σ y = .int k2 (m : Int) := by exact A9) (hm : m ≤ 64 := by first | assumption | omega) (hb : a * 2 ^ m < 18446744073709551616 := by first | assumption | omega) (hd : Aa n dst = true := by rfl) : Ep P f R B n K ops l (Cb dst (.binOp .shl t x y t') ty) σ Γ Ms := Ba (C8e hx hy hm hb) hd k_
theorem D2q {t t' : TypeId} {a b : Nat} (k_ : Dw P f R B n K ops l (Af σ dst (.int .u64 ((a - b : Nat) : Int))) Γ Ms) (hx : ev σ x = .int .u64 (a : Int) := by exact A9) (hy : ev σ y = .int .u64 (b : Int) := by exact A9) (h : b ≤ a := by first | assumption | omega) (ha : a < 18446744073709551616 := by first | assumption | omega) (hd : Aa n dst = true := by rfl) : Ep P f R B n K ops l (Cb dst (.binOp .sub t x y t') ty) σ Γ Ms := Ba (C8c hx hy h ha) hd k_
theorem B0g {s d : TypeId} {a : Nat} (k_ : Dw P f R B n K ops l (Af σ dst (.int .u32 (a : Int))) Γ Ms) (hx : ev σ x = .int .u64 (a : Int) := by exact A9) (ha : a < 4294967296 := by first | assumption | omega) (hs : Tab.und P s = some (.int .u64) := by rfl) (hd' : Tab.und P d = some (.int .u32) := by rfl) (hd : Aa n dst = true := by rfl) : Ep P f R B n K ops l (Cb dst (.convert s d x) ty) σ Γ Ms := Ba (B9j hs hd' hx ha) hd k_
theorem Kg {s d : TypeId} {a : Int} {m : Nat} (k_ : Dw P f R B n K ops l (Af σ dst (.int .u64 (m : Int))) Γ Ms) (hx : ev σ x = .int .i64 a := by exact A9) (ha : a = (m : Int) := by first | assumption | omega) (hm : m < 18446744073709551616 := by omega) (hs : Tab.und P s = some (.int .i64) := by rfl) (hd' : Tab.und P d = some (.int .u64) := by rfl) (hd : Aa n dst = true := by rfl) : Ep P f R B n K ops l (Cb dst (.convert s d x) ty) σ Γ Ms := Ba (B9h hs hd' hx ha hm) hd k_
theorem C4a {t : TypeId} {d : TypeDesc} {bk o i' : Nat} {a : SH} {ls : List Int} (k_ : Dw P f R B n K ops l (Af σ dst (.int .i64 (ls.getD i' 0))) Γ Ms) (hx : ev σ x = .pointer (some ⟨bk, o + i' * 1, none⟩) := by exact A9) (hFa : IL ls a ∈ Γ ∧ a.1 = some ⟨bk, o, none⟩ := by exact ma0_) (hu : Tab.und P t = some d := by rfl) (hd' : (match d with | .struct _ | .array _ _ => true | _ => false) = false := by rfl) (hlt : i' < ls.length := by omega) (hd : Aa n dst = true := by rfl) : Ep P f R B n K ops l (Cb dst (.load t x) ty) σ Γ Ms := I7 (D3j hx hFa.1 hFa.2 hu hd' hlt) hd k_
theorem C7o {t e : TypeId} {ts : Array TypeId} {bt n' : Nat} {zv : Value} {a b : SH} {xs : List Value} {ls : List Cl} (k_ : ∀ a' : SH, NV tn pn P f R B n K ops fin l (Af σ dst (sl a' (n' + ls.length))) Γ (Al 2 e a' (n' + ls.length) (xs ++ A6 ls) :: Ms2)) (hF : CL ls b ∈ Γ) (hm : Ms.Perm (Al 2 e a n' xs :: Ms2) := by first | exact Y8 | exact Ag | exact Bc | exact Fv | exact Dz | exact Kc | exact Cr) (hx : ev σ x = sl a n' := by rfl) (hy : ev σ y = sl b ls.length := by rfl) (hts : ts = #[t, t] := by rfl) (hu : Tab.und P t = some (.slice e) := by rfl) (hi : Tab.inf P e = some (2, bt, zv) := by rfl) (hzs : zv.cells.size = 2 := by rfl) (hb : (n' + ls.length) * bt ≤ 140737488355328 := by first | omega | (unfold reach at *; omega) | (unfold reach Gc at *; omega)) (hnm : n' + ls.length ≤ 9223372036854775807 := by first | omega | (unfold reach at *; omega) | (unfold reach Gc at *; omega)) (hd : Aa n dst = true := by rfl) : Jk tn pn P f R B n K ops fin i l dst (.call { callee := .builtin .append, args := #[x, y], argTypes := ts }) ty σ Γ Ms := C8t (r := [Al 2 e a n' xs]) (r' := fun a' => [Al 2 e a' (n' + ls.length) (xs ++ A6 ls)]) (fun M => A8p (List.Perm.refl _) hF hx hy hts hu hi hzs hb hnm) rfl hd hm k_
end
section
variable {tn : Bool} {pn : Nat} {P : Program} [Tab P] {f : FuncId} {R : Ending → World → Prop} {B : C6} {n : Fz} {K : List Item} {ops : Array Oper} {i : Nat} {l fin : List Nat} {σ : Nat → Value} {Γ : List Fact} {Ms Ms2 : List B4}
variable {dst : Option Tmp} {op : Op} {ty : TypeId} {pos : String} {after : Array Edge} {v : Value} {x y z : Operand}
theorem D7f {t : TypeId} {d : TypeDesc} {bk k : Nat} {cs : List Value} (k_ : Dw P f R B n K ops l (Af σ dst v) Γ Ms) (hx : ev σ x = .pointer (some ⟨bk, k, none⟩) := by exact A9) (hF : At bk 0 cs ∈ Γ := by repeat (first | exact List.mem_cons_self | apply List.mem_cons_of_mem)) (hu : Tab.und P t = some d := by rfl) (hd' : (match d with | .struct _ | .array _ _ => true | _ => false) = false := by rfl) (hk : cs[k]? = some v := by exact A9) (hd : Aa n dst = true := by rfl) : Ep P f R B n K ops l (Cb dst (.load t x) ty) σ Γ Ms := I7 (C4v (o := 0) (by rw [Nat.zero_add]; exact hx) hF hu hd' hk) hd k_
theorem Ku {t : TypeId} {d : TypeDesc} {bk k : Nat} {cs : List Value} (k_ : NV tn pn P f R B n K ops fin l (Af σ dst v) Γ Ms) (hx : ev σ x = .pointer (some ⟨bk, k, none⟩) := by exact A9) (hF : At bk 0 cs ∈ Γ := by repeat (first | exact List.mem_cons_self | apply List.mem_cons_of_mem)) (hu : Tab.und P t = some d := by rfl) (hd' : (match d with | .struct _ | .array _ _ => true | _ => false) = false := by rfl) (hk : cs[k]? = some v := by exact A9) (hd : Aa n dst = true := by rfl) : Jk tn pn P f R B n K ops fin i l dst (.load t x) ty σ Γ Ms := B0h (C4v (o := 0) (by rw [Nat.zero_add]; exact hx) hF hu hd' hk) rfl hd k_
theorem A6b {t : TypeId} {l' : List (Nat × Nat)} {s bt bk k : Nat} {zv : Value} {cs cs' : List Value} (k_ : Dw P f R B n K ops l (Af σ dst (.agg cs'.toArray)) Γ Ms) (hx : ev σ x = .pointer (some ⟨bk, k, none⟩) := by exact A9) (hF : At bk 0 cs ∈ Γ := by repeat (first | exact List.mem_cons_self | apply List.mem_cons_of_mem)) (hu : Tab.lay P t = some l' := by rfl) (hi : Tab.inf P t = some (s, bt, zv) := by rfl) (hk : (cs.drop k).take s = cs' := by rfl) (hl : cs'.length = s := by rfl) (hd : Aa n dst = true := by rfl) : Ep P f R B n K ops l (Cb dst (.load t x) ty) σ Γ Ms := I7 (C4x (o := 0) (by rw [Nat.zero_add]; exact hx) hF hu hi hk hl) hd k_
theorem N2 {t : TypeId} {l' : List (Nat × Nat)} {s bt bk k : Nat} {zv : Value} {cs cs' : List Value} (k_ : NV tn pn P f R B n K ops fin l (Af σ dst (.agg cs'.toArray)) Γ Ms) (hx : ev σ x = .pointer (some ⟨bk, k, none⟩) := by exact A9) (hF : At bk 0 cs ∈ Γ := by repeat (first | exact List.mem_cons_self | apply List.mem_cons_of_mem)) (hu : Tab.lay P t = some l' := by rfl) (hi : Tab.inf P t = some (s, bt, zv) := by rfl) (hk : (cs.drop k).take s = cs' := by rfl) (hl : cs'.length = s := by rfl) (hd : Aa n dst = true := by rfl) : Jk tn pn P f R B n K ops fin i l dst (.load t x) ty σ Γ Ms := B0h (C4x (o := 0) (by rw [Nat.zero_add]; exact hx) hF hu hi hk hl) rfl hd k_
end
section
variable {α : Type}
def D0a (E : α → Fact) (l : List α) : Fact := ⟨fun ok w => ∀ x, x ∈ l → (E x).f ok w, fun _ _ _ hs h x hx => (E x).mono _ _ _ hs (h x hx), fun _ _ _ h hs x hx => (E x).loc _ _ _ (h x hx) hs⟩
def B2q (sz bt : Nat) (F : α → List Value) (E : α → Fact) (d : α) (l : List α) (a : SH) : Fact := ⟨fun ok w => rowAt ok sz bt l.length a (fun i => F (l.getD i d)) w ∧ ∀ x, x ∈ l → (E x).f ok w,
 fun _ _ _ hs h => ⟨h.1.mono hs, fun x hx => (E x).mono _ _ _ hs (h.2 x hx)⟩, fun _ _ _ h hs => ⟨h.1.loc hs, fun x hx => (E x).loc _ _ _ (h.2 x hx) hs⟩⟩
variable {B : C6} {Γ : List Fact} {Ms : List B4} {w : World} {E : α → Fact} {F : α → List Value} {sz bt n : Nat} {d : α} {l : List α} {a : SH}
theorem St.C6u (E : α → Fact) (hs : St B Γ Ms w) : St B (D0a E [] :: Γ) Ms w := hs.add (fun x hx => by cases hx)
theorem St.B5r {x : α} (hs : St B Γ Ms w) (h1 : D0a E l ∈ Γ) (h2 : E x ∈ Γ) : St B (D0a E (l ++ [x]) :: Γ) Ms w := by
 refine hs.add (fun y hy => ?_)
 rcases List.mem_append.mp hy with hy | hy
 ·exact hs.facts _ h1 y hy
 ·rw [List.mem_singleton] at hy; subst hy; exact hs.facts _ h2
theorem St.A2e {e : TypeId} {xs : List Value} (hF : ∀ x, (F x).length = sz) (hs : St B Γ (Al sz e a n xs :: Ms) w) {hBp : Prop} (hB : hBp) (hA : D0a E l ∈ Γ) (hx : xs = l.flatMap F) (hn : n = l.length) (hb : n * bt ≤ reach) : St B (B2q sz bt F E d l a :: Γ) Ms w := by
 subst hx
 have hrow := hs.Qp (F := ⟨fun ok w => rowAt ok sz bt n a (fun i => F (l.getD i d)) w, fun _ _ _ hs h => h.mono hs, fun _ _ _ h hs => h.loc hs⟩) hB (fun ok hok hh => Nj (F := F) hF d (hh : World.ownsRow _ _ _ _ _ _ _) hn hb hok)
 have hr2 := hrow.facts _ List.mem_cons_self
 have h3 := hrow.facts _ (List.mem_cons_of_mem _ hA)
 exact hs.drop.add ⟨hn ▸ hr2, h3⟩
theorem St.C8j (hs : St B Γ Ms w) (hF : B2q sz bt F E d l a ∈ Γ) : l.length * bt ≤ reach ∧ (0 < l.length → ∃ b o, a.1 = some ⟨b, o, Option.none⟩) := by
 obtain ⟨h2, _⟩ := hs.facts _ hF
 exact ⟨h2.2.1, fun hn => by obtain ⟨b, o, h3, _⟩ := h2.2.2 hn; exact ⟨b, o, h3⟩⟩
theorem St.C7v {i : Nat} (hs : St B Γ Ms w) (hF : B2q sz bt F E d l a ∈ Γ) (hi : i < l.length) : St B (E (l.getD i d) :: Γ) Ms w := hs.add ((hs.facts _ hF).2 _ (Ad hi))
end
section
variable {α : Type} {P : Program} {f : FuncId} {R : Ending → World → Prop} {B : C6} {n : Fz} {todo : List Item} {σ : Nat → Value} {Γ : List Fact} {Ms : List B4} {E : α → Fact} {F : α → List Value} {sz bt : Nat} {d : α} {l : List α} {a : SH}
theorem B4u (hF : B2q sz bt F E d l a ∈ Γ) (k : l.length * bt ≤ reach → (0 < l.length → ∃ b o, a.1 = some ⟨b, o, none⟩) → Es P f R B n todo σ Γ Ms) : Es P f R B n todo σ Γ Ms := C7 (p := l.length * bt ≤ reach ∧ (0 < l.length → ∃ b o, a.1 = some ⟨b, o, none⟩)) (fun w hs => hs.C8j hF) (fun h => k h.1 h.2)
theorem C9i (hF : B2q sz bt F E d l a ∈ Γ) (i : Nat) (hi : i < l.length) (k : Es P f R B n todo σ (E (l.getD i d) :: Γ) Ms) : Es P f R B n todo σ Γ Ms := A3 (fun w hs => hs.C7v hF hi) k
variable [Tab P] {x y : Operand} {v : Value} {ty : TypeId}
theorem C8y {t : TypeId} {d' : TypeDesc} {bk o i k : Nat} (hx : ev σ x = .pointer (some ⟨bk, o + i * sz + k, none⟩)) (hF : B2q sz bt F E d l a ∈ Γ) (ha : a.1 = some ⟨bk, o, none⟩) (hu : Tab.und P t = some d') (hd : (match d' with | .struct _ | .array _ _ => true | _ => false) = false) (hk : (F (l.getD i d))[k]? = some v) (hlt : i < l.length) :
  Kw P B σ Γ Ms (.load t x) ty v := fun w hs => by
 have h3 := (Jr (hs.facts _ hF).1 ha hlt).2 k v hk
 simp [Cb, execOp, hx, Instr.loadAt, Instr.sureAddr, En hu hd h3]
theorem C8z {t : TypeId} {d' : TypeDesc} {bk o i : Nat} (hx : ev σ x = .pointer (some ⟨bk, o + i * 1, none⟩)) (hF : B2q 1 bt F E d l a ∈ Γ) (ha : a.1 = some ⟨bk, o, none⟩) (hu : Tab.und P t = some d') (hd : (match d' with | .struct _ | .array _ _ => true | _ => false) = false) (hk : (F (l.getD i d))[0]? = some v) (hlt : i < l.length) :
  Kw P B σ Γ Ms (.load t x) ty v := C8y (k := 0) hx hF ha hu hd hk hlt
end
abbrev QP := TP × Int × Int
def qE (q : QP) : Fact := RT q.1.1 q.1.2.1 q.1.2.2.1 q.1.2.2.2
abbrev IP := List Int × SH
def ipE (p : IP) : Fact := IL p.1 p.2
abbrev CP := List Cl × SH
def R3 (p : CP) : List Value := [sl p.2 p.1.length]
def cp0 : CP := ([], (none, 0))
abbrev cpE (p : CP) : Fact := CL p.1 p.2
abbrev CCF (l : List CP) (a : SH) : Fact := B2q 1 24 R3 cpE cp0 l a
section
variable {B : C6} {Γ : List Fact} {Ms : List B4} {w : World}
theorem St.D0s {e : TypeId} {b : Nat} {l : List Cl} {a : SH} (hs : St B Γ (A8 b [sl a l.length] e :: Ms) w) {hBp : Prop} (hB : hBp) (hF : CL l a ∈ Γ) : St B (CCF [(l, a)] (some ⟨b, 0, Option.none⟩, 1) :: Γ) Ms w :=
 ((((hs.Ig (sz := 1) (m := 1) rfl F2).C6u cpE).B5r (x := (l, a)) List.mem_cons_self (List.mem_cons_of_mem _ hF)).A2e (F := R3) (E := cpE) (d := cp0) (bt := 24) (l := [(l, a)]) (fun _ => rfl) hB List.mem_cons_self rfl rfl F2).less sx_
end
section
variable {P : Program} [Tab P] {B : C6} {σ : Nat → Value} {Γ : List Fact} {Ms Ms2 : List B4} {ty : TypeId} {x y z : Operand} {v : Value}
theorem Vy {ad : Addr} (hx : ev σ x = .pointer (some ad)) : Ch P σ (.nilCheck x) ty (.pointer (some ad)) := fun w => by
 simp [Cb, execOp, hx]
end
section
variable {P : Program} [Tab P] {f : FuncId} {fn : Func} {B : C6} {n : Fz} {K : List Item} {σ : Nat → Value} {Γ : List Fact} {Ms : List B4} {X : Type} {val : X → Value} {N : X → List Fact} {Ms1 : X → List B4}
theorem Ca {r t T : Nat} {r2 : Tmp} {b s bt : Nat} {zv v2 : Value} {lay : List (Nat × Nat)} {cs : List Value} (hf : P.funcs[f]? = some fn) (hr : fn.results = #[.cell r t, .tmp r2]) (x : X) (hb : σ r = .pointer (some ⟨b, 0, none⟩)) (hm : A8 b cs T ∈ Ms) (hl : Tab.lay P t = some lay) (hi : Tab.inf P t = some (s, bt, zv)) (hcs : cs.length = s) (h2 : σ r2 = v2) (hv : Value.tuple #[.agg cs.toArray, v2] = val x) (hs : ∀ w, St B Γ Ms w → St B (N x) (Ms1 x) w) (hD : n.defs = [] := by rfl) (hK : okK n.kind := by first | exact .inl rfl | exact .inr rfl) : Es P f (Ends B val N Ms1) B n (.code .ret :: K) σ Γ Ms :=
 go_ret hf (fun a w ha h => by
  have h1 := ha.get r
  rw [hb] at h1
  have h3 := ha.get r2
  rw [h2] at h3
  have h4 := D5 (P := P) (bk := b) (off := 0) (w := w) hl hi hcs (fun j v hj => by rw [Nat.zero_add]; exact Kn h hm j v hj)
  have h1' : (a.tmps[r]?.getD undef) = .pointer (some ⟨b, 0, none⟩) := by simpa [Array.getD_eq_getD_getElem?] using h1
  have h3' : (a.tmps[r2]?.getD undef) = v2 := by simpa [Array.getD_eq_getD_getElem?] using h3
  simp [results, hr, asAddr, h1', h4, h3', ← hv]) (fun w h => ⟨x, rfl, hs w h⟩) hD hK
theorem St.J2 {w : World} (hs : St B Γ Ms w) : St B (RT t0 (Option.none, 0) (Option.none, 0) (Option.none, 0) :: Γ) Ms w :=
 ((((hs.C4g 0).C4f 0).B7b 0).B9s (k := 0) (n := 0) (nm := ⟨#[]⟩) (r := []) (ks := []) (ss := []) (vr := (Option.none, 0)) (vk := (Option.none, 0)) (vs := (Option.none, 0)) (by unfold Aj; omega) (by unfold Aj; omega) (Nat.zero_le _) Cs Cs Cs).less (by simp +contextual [t0])
end
section
variable {tn : Bool} {pn : Nat} {P : Program} [Tab P] {f : FuncId} {R : Ending → World → Prop} {B : C6} {n : Fz} {K : List Item} {ops : Array Oper} {i : Nat} {l fin : List Nat} {σ : Nat → Value} {Γ : List Fact} {Ms Ms2 : List B4}
variable {dst : Option Tmp} {op : Op} {ty : TypeId} {pos : String} {after : Array Edge} {v : Value} {x y z : Operand}
theorem D2r {ad : Addr} (k_ : Dw P f R B n K ops l (Af σ dst (.pointer (some ad))) Γ Ms) (hx : ev σ x = .pointer (some ad) := by exact A9) (hd : Aa n dst = true := by rfl) : Ep P f R B n K ops l (Cb dst (.nilCheck x) ty) σ Γ Ms := Ba (Vy hx) hd k_
theorem D1s {ad : Addr} (k_ : NV tn pn P f R B n K ops fin l (Af σ dst (.pointer (some ad))) Γ Ms) (hx : ev σ x = .pointer (some ad) := by exact A9) (hd : Aa n dst = true := by rfl) : Jk tn pn P f R B n K ops fin i l dst (.nilCheck x) ty σ Γ Ms := Cz (Vy hx) hd k_
theorem D2u {t : TypeId} {d : TypeDesc} {bk o i' : Nat} {a : SH} {ls : List CP} (k_ : Dw P f R B n K ops l (Af σ dst v) Γ Ms) (hx : ev σ x = .pointer (some ⟨bk, o + i' * 1, none⟩) := by exact A9) (hFa : CCF ls a ∈ Γ ∧ a.1 = some ⟨bk, o, none⟩ := by exact ma0_) (hu : Tab.und P t = some d := by rfl) (hd' : (match d with | .struct _ | .array _ _ => true | _ => false) = false := by rfl) (hk : (R3 (ls.getD i' cp0))[0]? = some v := by exact A9) (hlt : i' < ls.length := by first | omega | (simp only [List.length_map, List.length_set]; omega) | (simp; omega)) (hd : Aa n dst = true := by rfl) : Ep P f R B n K ops l (Cb dst (.load t x) ty) σ Γ Ms := I7 (C8z hx hFa.1 hFa.2 hu hd' hk hlt) hd k_
end
section
variable {tn : Bool} {pn : Nat} {P : Program} [Tab P] {f : FuncId} {R : Ending → World → Prop} {B : C6} {n : Fz} {K : List Item} {ops : Array Oper} {i : Nat} {l fin : List Nat} {σ : Nat → Value} {Γ : List Fact} {Ms Ms2 : List B4}
variable {dst : Option Tmp} {op : Op} {ty : TypeId} {pos : String} {after : Array Edge} {v : Value} {x y z : Operand}
theorem Yn {t t' : TypeId} {k : IntKind} {a b : Int} (k_ : Dw P f R B n K ops l (Af σ dst (.bool true)) Γ Ms) (hx : ev σ x = .int k a := by exact A9) (hy : ev σ y = .int k b := by exact A9) (hp : a = b := by first | omega | (simp; done)) (hd : Aa n dst = true := by rfl) : Ep P f R B n K ops l (Cb dst (.binOp .eql t x y t') ty) σ Γ Ms := Ba (show Ch P σ (.binOp .eql t x y t') ty (.bool true) from (decide_eq_true hp : decide (a = b) = true) ▸ B3v hx hy) hd k_
theorem C1t {t T' : TypeId} {b s bt : Nat} {zv : Value} {cs cs' : List Value} (k_ : NV tn pn P f R B n K ops fin l σ Γ (A8 b cs' T' :: Ms2)) (hx : ev σ x = .pointer (some ⟨b, 0, none⟩) := by exact A9) (hm : Ms.Perm (A8 b cs T' :: Ms2) := by first | exact Y8 | exact Ag | exact Bc | exact Fv | exact Dz | exact Kc | exact Cr | exact Gq | exact Fb) (hy : (ev σ y).cells = cs'.toArray := by rfl) (hi : Tab.inf P t = some (s, bt, zv) := by rfl) (hl : cs'.length = s := by rfl) (hl2 : cs.length = s := by rfl) (h1 : Ke cs' = true := by rfl) : Jk tn pn P f R B n K ops fin i l none (.store t x y) ty σ Γ Ms := C4e (r := [A8 b cs T']) (r' := [A8 b cs' T']) (fun M => C2i hx hy (List.Perm.refl _) hi hl hl2 h1) rfl hm k_
end
inductive Ac (α : Type) where
 | ok (a : α)
 | bad (e : Int)
structure Tr (C : Type) where
 own : C → Int → Int → ByteArray → List Cl → Ac (T ⊕ (Int × List Cl))
 Ah : C → List Cl → Ac (Option (List Cl))
 Oq : C → Int × Int → Ac C
section
variable {C : Type} (A : Tr C)
mutual
def Bj : T → C → Ac T
 | .mk k n nm r ks ss, c => match A.own c k n nm r with
  | .bad e => .bad e
  | .ok (.inl u) => .ok u
  | .ok (.inr p) => match Dh k 0 ks c with
   | .bad e => .bad e
   | .ok ks' => match D7 k ss c with
    | .bad e => .bad e
    | .ok ss' => .ok (.mk k p.1 nm p.2 ks' ss')
def Dh (k : Int) : Nat → List T → C → Ac (List T)
 | _, [], _ => .ok []
 | i, t :: ts, c => match A.Oq c (binds k i) with
  | .bad e => .bad e
  | .ok c' => match Bj t c' with
   | .bad e => .bad e
   | .ok t' => match Dh k (i + 1) ts c with
    | .bad e => .bad e
    | .ok ts' => .ok (t' :: ts')
def Ck (k : Int) : List T → C → Ac (List T)
 | [], _ => .ok []
 | t :: ts, c => match A.Oq c (0, more k) with
  | .bad e => .bad e
  | .ok c' => match Bj t c' with
   | .bad e => .bad e
   | .ok t' => match Ck k ts c with
    | .bad e => .bad e
    | .ok ts' => .ok (t' :: ts')
def D7 (k : Int) : List Br → C → Ac (List Br)
 | [], _ => .ok []
 | .mk f ks :: bs, c => match A.Ah c f with
  | .bad e => .bad e
  | .ok none => D7 k bs c
  | .ok (some f') => match Ck k ks c with
   | .bad e => .bad e
   | .ok ks' => match D7 k bs c with
    | .bad e => .bad e
    | .ok bs' => .ok (.mk f' ks' :: bs')
end
variable {A}
def Ac.bind {α β : Type} : Ac α → (α → Ac β) → Ac β
 | .ok a, f => f a
 | .bad e, _ => .bad e
theorem Ac.A2 {α β : Type} {x : Ac α} {f : α → Ac β} {b : β} (h : x.bind f = .ok b) : ∃ a, x = .ok a ∧ f a = .ok b := by
 cases x with
 | ok a => exact ⟨a, rfl, h⟩
 | bad e => cases h
theorem F8 (t : T) (c : C) : Bj A t c = (A.own c t.kind t.n t.name t.r).bind fun o => match o with
  | .inl u => .ok u
  | .inr p => (Dh A t.kind 0 t.kids c).bind fun ks' => (D7 A t.kind t.sys c).bind fun ss' => .ok (.mk t.kind p.1 t.name p.2 ks' ss') := by
 obtain ⟨k, n, nm, r, ks, ss⟩ := t
 rw [Bj]
 simp only [T.kind, T.n, T.name, T.r, T.kids, T.sys]
 cases A.own c k n nm r with
 | bad e => rfl
 | ok o =>
  cases o with
  | inl u => rfl
  | inr p =>
   simp only [Ac.bind]
   cases Dh A k 0 ks c with
   | bad e => rfl
   | ok ks' =>
    cases D7 A k ss c <;> rfl
theorem Dt (k : Int) (i : Nat) (c : C) : Dh A k i [] c = .ok [] := by rw [Dh]
theorem Dc (k : Int) (i : Nat) (t : T) (ts : List T) (c : C) : Dh A k i (t :: ts) c = (A.Oq c (binds k i)).bind fun c' => (Bj A t c').bind fun t' => (Dh A k (i + 1) ts c).bind fun ts' => .ok (t' :: ts') := by
 rw [Dh]
 cases A.Oq c (binds k i) with
 | bad e => rfl
 | ok c' =>
  simp only [Ac.bind]
  cases Bj A t c' with
  | bad e => rfl
  | ok t' => simp only; cases Dh A k (i + 1) ts c <;> rfl
theorem E3 (k : Int) (c : C) : Ck A k [] c = .ok [] := by rw [Ck]
theorem Db (k : Int) (t : T) (ts : List T) (c : C) : Ck A k (t :: ts) c = (A.Oq c (0, more k)).bind fun c' => (Bj A t c').bind fun t' => (Ck A k ts c).bind fun ts' => .ok (t' :: ts') := by
 rw [Ck]
 cases A.Oq c (0, more k) with
 | bad e => rfl
 | ok c' =>
  simp only [Ac.bind]
  cases Bj A t c' with
  | bad e => rfl
  | ok t' => simp only; cases Ck A k ts c <;> rfl
theorem D1 (k : Int) (c : C) : D7 A k [] c = .ok [] := by rw [D7]
theorem Cw (k : Int) (b : Br) (bs : List Br) (c : C) : D7 A k (b :: bs) c = (A.Ah c b.Ah).bind fun f => match f with
  | none => D7 A k bs c
  | some f' => (Ck A k b.kids c).bind fun ks' => (D7 A k bs c).bind fun bs' => .ok (.mk f' ks' :: bs') := by
 obtain ⟨f, ks⟩ := b
 rw [D7]
 simp only [Br.Ah, Br.kids]
 cases A.Ah c f with
 | bad e => rfl
 | ok o =>
  cases o with
  | none => rfl
  | some f' =>
   simp only [Ac.bind]
   cases Ck A k ks c with
   | bad e => rfl
   | ok ks' => simp only; cases D7 A k bs c <;> rfl
theorem S1 (k : Int) (c : C) : ∀ (i : Nat) (l : List T) (t : T), Dh A k i (l ++ [t]) c = (Dh A k i l c).bind fun l' => (A.Oq c (binds k ((i + l.length : Nat) : Int))).bind fun c' => (Bj A t c').bind fun t' => .ok (l' ++ [t'])
 | i, [], t => by
  simp only [List.nil_append, Dc, Dt, Ac.bind, List.length_nil, Nat.add_zero]
 | i, a :: l, t => by
  simp only [List.cons_append, Dc, S1 k c (i + 1) l t, List.length_cons]
  rw [show i + 1 + l.length = i + (l.length + 1) by omega]
  cases A.Oq c (binds k i) with
  | bad e => rfl
  | ok c1 =>
   simp only [Ac.bind]
   cases Bj A a c1 with
   | bad e => rfl
   | ok a' =>
    simp only
    cases Dh A k (i + 1) l c with
    | bad e => rfl
    | ok l' =>
     simp only
     cases A.Oq c (binds k ((i + (l.length + 1) : Nat) : Int)) with
     | bad e => rfl
     | ok c2 => simp only; cases Bj A t c2 <;> rfl
theorem Rz (k : Int) (c : C) : ∀ (l : List T) (t : T), Ck A k (l ++ [t]) c = (Ck A k l c).bind fun l' => (A.Oq c (0, more k)).bind fun c' => (Bj A t c').bind fun t' => .ok (l' ++ [t'])
 | [], t => by simp only [List.nil_append, Db, E3, Ac.bind]
 | a :: l, t => by
  simp only [List.cons_append, Db, Rz k c l t]
  cases A.Oq c (0, more k) with
  | bad e => rfl
  | ok c1 =>
   simp only [Ac.bind]
   cases Bj A a c1 with
   | bad e => rfl
   | ok a' =>
    simp only
    cases Ck A k l c with
    | bad e => rfl
    | ok l' => simp only; cases Bj A t c1 <;> rfl
theorem O2 (k : Int) (c : C) : ∀ (l : List Br) (b : Br), D7 A k (l ++ [b]) c = (D7 A k l c).bind fun l' => (A.Ah c b.Ah).bind fun f => match f with
  | none => .ok l'
  | some f' => (Ck A k b.kids c).bind fun ks' => .ok (l' ++ [.mk f' ks'])
 | [], b => by
  simp only [List.nil_append, Cw, D1, Ac.bind]
 | a :: l, b => by
  simp only [List.cons_append, Cw, O2 k c l b]
  cases A.Ah c a.Ah with
  | bad e => rfl
  | ok o =>
   cases o with
   | none => rfl
   | some f' =>
    simp only [Ac.bind]
    cases Ck A k a.kids c with
    | bad e => rfl
    | ok ks' =>
     simp only
     cases D7 A k l c with
     | bad e => rfl
     | ok l' =>
      simp only
      cases A.Ah c b.Ah with
      | bad e => rfl
      | ok o2 =>
       cases o2 with
       | none => rfl
       | some f2 => simp only; cases Ck A k b.kids c <;> rfl
theorem A1t {k e : Int} {c : C} : ∀ {l m : List T} {i : Nat}, Dh A k i l c = .bad e → Dh A k i (l ++ m) c = .bad e
 | [], m, i, h => by rw [Dt] at h; cases h
 | a :: l, m, i, h => by
  rw [List.cons_append, Dc]
  rw [Dc] at h
  cases h1 : A.Oq c (binds k i) with
  | bad e' => rw [h1] at h; exact h
  | ok c1 =>
   rw [h1] at h
   simp only [Ac.bind] at h ⊢
   cases h2 : Bj A a c1 with
   | bad e' => rw [h2] at h; exact h
   | ok a' =>
    rw [h2] at h
    simp only at h ⊢
    cases h3 : Dh A k (i + 1) l c with
    | bad e' => rw [h3] at h; rw [A1t h3]; exact h
    | ok l' => rw [h3] at h; cases h
theorem A1q {k e : Int} {c : C} : ∀ {l m : List T}, Ck A k l c = .bad e → Ck A k (l ++ m) c = .bad e
 | [], m, h => by rw [E3] at h; cases h
 | a :: l, m, h => by
  rw [List.cons_append, Db]
  rw [Db] at h
  cases h1 : A.Oq c (0, more k) with
  | bad e' => rw [h1] at h; exact h
  | ok c1 =>
   rw [h1] at h
   simp only [Ac.bind] at h ⊢
   cases h2 : Bj A a c1 with
   | bad e' => rw [h2] at h; exact h
   | ok a' =>
    rw [h2] at h
    simp only at h ⊢
    cases h3 : Ck A k l c with
    | bad e' => rw [h3] at h; rw [A1q h3]; exact h
    | ok l' => rw [h3] at h; cases h
theorem Uy {k e : Int} {c : C} : ∀ {l m : List Br}, D7 A k l c = .bad e → D7 A k (l ++ m) c = .bad e
 | [], m, h => by rw [D1] at h; cases h
 | a :: l, m, h => by
  rw [List.cons_append, Cw]
  rw [Cw] at h
  cases h1 : A.Ah c a.Ah with
  | bad e' => rw [h1] at h; exact h
  | ok o =>
   rw [h1] at h
   cases o with
   | none => exact Uy (l := l) h
   | some f' =>
    simp only [Ac.bind] at h ⊢
    cases h2 : Ck A k a.kids c with
    | bad e' => rw [h2] at h; exact h
    | ok a' =>
     rw [h2] at h
     simp only at h ⊢
     cases h3 : D7 A k l c with
     | bad e' => rw [h3] at h; rw [Uy h3]; exact h
     | ok l' => rw [h3] at h; cases h
theorem Ng {k : Int} {c : C} : ∀ {l l' : List T} {i : Nat}, Dh A k i l c = .ok l' → l'.length = l.length
 | [], l', i, h => by rw [Dt] at h; injection h with h; subst h; rfl
 | a :: l, l', i, h => by
  rw [Dc] at h
  obtain ⟨c1, _, h⟩ := Ac.A2 h
  obtain ⟨t', _, h⟩ := Ac.A2 h
  obtain ⟨ts', h3, h⟩ := Ac.A2 h
  injection h with h
  subst h
  simp [Ng h3]
theorem Nf {k : Int} {c : C} : ∀ {l l' : List T}, Ck A k l c = .ok l' → l'.length = l.length
 | [], l', h => by rw [E3] at h; injection h with h; subst h; rfl
 | a :: l, l', h => by
  rw [Db] at h
  obtain ⟨c1, _, h⟩ := Ac.A2 h
  obtain ⟨t', _, h⟩ := Ac.A2 h
  obtain ⟨ts', h3, h⟩ := Ac.A2 h
  injection h with h
  subst h
  simp [Nf h3]
theorem Nh {k : Int} {c : C} : ∀ {l l' : List Br}, D7 A k l c = .ok l' → l'.length ≤ l.length
 | [], l', h => by rw [D1] at h; injection h with h; subst h; simp
 | a :: l, l', h => by
  rw [Cw] at h
  obtain ⟨o, _, h⟩ := Ac.A2 h
  cases o with
  | none => have := Nh (l := l) h; simp; omega
  | some f' =>
   obtain ⟨ks', _, h⟩ := Ac.A2 h
   obtain ⟨bs', h3, h⟩ := Ac.A2 h
   injection h with h
   subst h
   have := Nh h3
   simp; omega
end
theorem A5p {a0 a1 a2 a3 a4 a5 a6 a7 a8 a9 a10 a11 m : B4} {L : List B4} : (a0 :: a1 :: a2 :: a3 :: a4 :: a5 :: a6 :: a7 :: a8 :: a9 :: a10 :: a11 :: m :: L).Perm (m :: a0 :: a1 :: a2 :: a3 :: a4 :: a5 :: a6 :: a7 :: a8 :: a9 :: a10 :: a11 :: L) := (Ha.cons a0).trans Ag
theorem Ju {a0 a1 a2 a3 a4 a5 a6 a7 a8 a9 a10 a11 a12 m : B4} {L : List B4} : (a0 :: a1 :: a2 :: a3 :: a4 :: a5 :: a6 :: a7 :: a8 :: a9 :: a10 :: a11 :: a12 :: m :: L).Perm (m :: a0 :: a1 :: a2 :: a3 :: a4 :: a5 :: a6 :: a7 :: a8 :: a9 :: a10 :: a11 :: a12 :: L) := (A5p.cons a0).trans Ag
theorem Jt {a0 a1 a2 a3 a4 a5 a6 a7 a8 a9 a10 a11 a12 a13 m : B4} {L : List B4} : (a0 :: a1 :: a2 :: a3 :: a4 :: a5 :: a6 :: a7 :: a8 :: a9 :: a10 :: a11 :: a12 :: a13 :: m :: L).Perm (m :: a0 :: a1 :: a2 :: a3 :: a4 :: a5 :: a6 :: a7 :: a8 :: a9 :: a10 :: a11 :: a12 :: a13 :: L) := (Ju.cons a0).trans Ag
theorem Js {a0 a1 a2 a3 a4 a5 a6 a7 a8 a9 a10 a11 a12 a13 a14 m : B4} {L : List B4} : (a0 :: a1 :: a2 :: a3 :: a4 :: a5 :: a6 :: a7 :: a8 :: a9 :: a10 :: a11 :: a12 :: a13 :: a14 :: m :: L).Perm (m :: a0 :: a1 :: a2 :: a3 :: a4 :: a5 :: a6 :: a7 :: a8 :: a9 :: a10 :: a11 :: a12 :: a13 :: a14 :: L) := (Jt.cons a0).trans Ag
def Ud (T : TypeId) (e : Int) : List PanicEntry := [{ v := .iface T (.int .i64 e), recovered := false }]
def Kv (P : Program) (T : TypeId) (k : FuncId) (args : Array Value) (pre : List Fact) {α : Type} (r : Ac α) {X : α → Type} (val : ∀ a : α, X a → Value) (N : ∀ a : α, X a → List Fact) (Ms1 : ∀ a : α, X a → List B4) : Prop :=
 (∀ a, r = .ok a → Spec P k args pre [] (val a) (N a) (Ms1 a)) ∧ (∀ e, r = .bad e → Qh P k args pre (Ud T e))
def B8g (B : C6) (T : TypeId) {α : Type} (r : Ac α) {X : α → Type} (val : ∀ a : α, X a → Value) (N : ∀ a : α, X a → List Fact) (Ms1 : ∀ a : α, X a → List B4) (e : Ending) (w' : World) : Prop :=
 (∀ a, r = .ok a → Ends B (val a) (N a) (Ms1 a) e w') ∧ (∀ x, r = .bad x → e = .panicked (Ud T x) ∧ St B [] [] w')
section
variable {P : Program} {f : FuncId} {B : C6} {n : Fz} {K : List Item} {σ : Nat → Value} {Γ : List Fact} {Ms : List B4} {todo : List Item} {T : TypeId} {α : Type} {X : α → Type} {r : Ac α} {val : ∀ a : α, X a → Value} {N : ∀ a : α, X a → List Fact} {Ms1 : ∀ a : α, X a → List B4}
theorem Es.D7m {R R' : Ending → World → Prop} (hm : ∀ e w, R e w → R' e w) (h : Es P f R B n todo σ Γ Ms) : Es P f R' B n todo σ Γ Ms := fun a w hr hs b cs hb hk => by
 obtain ⟨e, w', fr, hR, hc, hf, hl⟩ := h a w hr hs b cs hb hk
 exact ⟨e, w', fr, hm _ _ hR, hc, hf, hl⟩
theorem go_ok {a : α} (hr : r = .ok a) (h : Es P f (Ends B (val a) (N a) (Ms1 a)) B n todo σ Γ Ms) : Es P f (B8g B T r val N Ms1) B n todo σ Γ Ms :=
 Es.D7m (fun e w he => ⟨fun b hb => by rw [hr] at hb; injection hb with hb; subst hb; exact he, fun x hx => by rw [hr] at hx; cases hx⟩) h
theorem N1 {β : Type} (q : Ac β) {R : Ending → World → Prop} (h1 : ∀ a, q = .ok a → Es P f R B n todo σ Γ Ms) (h2 : ∀ e, q = .bad e → Es P f R B n todo σ Γ Ms) : Es P f R B n todo σ Γ Ms := by
 cases hq : q with
 | ok a => exact h1 a hq
 | bad e => exact h2 e hq
theorem B7q {K : List Item} {it : Item} {R : Ending → World → Prop} {Ms' : List B4} (p : Prop) (live : List (Nat × Value)) (h1 : (p → ∀ σ', Pa σ' live → Es P f R B n K σ' Γ Ms') → Es P f R B n (it :: K) σ Γ Ms) (h2 : p → ∀ base, Es P f R B n K (stL base live) Γ Ms') : Es P f R B n (it :: K) σ Γ Ms :=
 h1 (fun hp σ' hl => go_slots live hl (h2 hp))
theorem Ga {e : Int} (hr : r = .bad e) : ∀ w, St B [] [] w → B8g B T r val N Ms1 (.panicked (Ud T e)) w := fun w hs =>
 ⟨fun a ha => (by rw [hr] at ha; cases ha), fun x hx => (by rw [hr] at hx; injection hx with hx; subst hx; exact ⟨rfl, hs⟩)⟩
theorem Td {k : FuncId} {fn : Func} {c : Code} {args : List Value} {pre : List Fact} {n : Nat} (hf : P.funcs[k]? = some fn) (hn : fn.ntmps = n) (hb : fn.body = some c) (ha : args.length ≤ n)
  (h : ∀ B : C6, (∀ b, B.S0 b ↔ B9 [] b) → Es P k (B8g B T r val N Ms1) B ⟨n, [], .normal⟩ [.code c] (fun t => args.getD t undef) pre []) : Kv P T k args.toArray pre r val N Ms1 := by
 have he : (fun t => args.toArray.getD t undef) = fun t => args.getD t undef := by
  funext t
  simp [Array.getD_eq_getD_getElem?, List.getD_eq_getElem?_getD]
 have key : ∀ ok w, (∀ b, ok b → b < w.heap.size ∧ ¬ B9 [] b) → St ⟨ok, B9 [], w⟩ pre [] w → Calls P k args.toArray w (B8g ⟨ok, B9 [], w⟩ T r val N Ms1) := by
  intro ok w hok hs
  refine B2d (n := ⟨n, [], .normal⟩) hf hb hn rfl rfl (by simpa using ha) hs ?_
  have := h ⟨ok, B9 [], w⟩ (fun _ => Iff.rfl)
  rw [he]
  exact this
 exact ⟨fun a hr ok w hok hs => (key ok w hok hs).mono fun e w' h => h.1 a hr, fun x hr ok w hok hs => (key ok w hok hs).mono fun e w' h => h.2 x hr⟩
end
def Kx (L : List Fact) : Fact := ⟨fun ok w => ∀ F, F ∈ L → F.f ok w, fun ok ok' w hs h F hF => F.mono ok ok' w hs (h F hF), fun ok w w' h hs F hF => F.loc ok w w' (h F hF) hs⟩
section
variable {B : C6} {Γ : List Fact} {Ms : List B4} {w : World} {L : List Fact}
theorem St.Wv (hs : St B Γ Ms w) (h : ∀ F, F ∈ L → F ∈ Γ) : St B (Kx L :: Γ) Ms w := hs.add (fun F hF => hs.facts F (h F hF))
theorem St.C1x (hs : St B [Kx L] Ms w) : St B L Ms w := ⟨hs.chg, fun F hF => hs.facts _ List.mem_cons_self F hF, hs.res, hs.lt, hs.disj⟩
theorem Spec.Wv {P : Program} {k : FuncId} {args : Array Value} {Ms0 : List B4} {X : Type} {val : X → Value} {N : X → List Fact} {Ms1 : X → List B4} (h : Spec P k args L Ms0 val N Ms1) : Spec P k args [Kx L] Ms0 val N Ms1 := fun ok w hok hs => h ok w hok hs.C1x
theorem Qh.Wv {P : Program} {k : FuncId} {args : Array Value} {chain : List PanicEntry} (h : Qh P k args L chain) : Qh P k args [Kx L] chain := fun ok w hok hs => h ok w hok hs.C1x
theorem Kv.Wv {P : Program} {T : TypeId} {k : FuncId} {args : Array Value} {α : Type} {r : Ac α} {X : α → Type} {val : ∀ a : α, X a → Value} {N : ∀ a : α, X a → List Fact} {Ms1 : ∀ a : α, X a → List B4} (h : Kv P T k args L r val N Ms1) : Kv P T k args [Kx L] r val N Ms1 := ⟨fun a ha => (h.1 a ha).Wv, fun e he => (h.2 e he).Wv⟩
end
section
variable {P : Program} [Tab P] {f : FuncId} {R : Ending → World → Prop} {B : C6} {n : Fz} {K : List Item} {ops : Array Oper} {i : Nat} {l : List Nat} {σ : Nat → Value} {Γ : List Fact} {Ms : List B4}
variable {dst : Option Tmp} {ty : TypeId} {v : Value} {x y : Operand}
theorem C3i {t : TypeId} {d : TypeDesc} (hu : Tab.und P t = some d) (hd : (match d with | .interface _ => true | _ => false) = false) (hx : ev σ x = v) : Ch P σ (.makeInterface t x) ty (.iface t v) := fun w => by
 cases d <;> first | (simp at hd; done) | simp [Cb, execOp, hx, Instr.makeInterface, Dq hu]
theorem A6a {t : TypeId} {d : TypeDesc} (k_ : Dw P f R B n K ops l (Af σ dst (.iface t v)) Γ Ms) (hx : ev σ x = v := by exact A9) (hu : Tab.und P t = some d := by rfl) (hdd : (match d with | .interface _ => true | _ => false) = false := by rfl) (hd : Aa n dst = true := by rfl) : Ep P f R B n K ops l (Cb dst (.makeInterface t x) ty) σ Γ Ms := Ba (C3i hu hdd hx) hd k_
theorem A5z {T : TypeId} {e : Int} (hR : ∀ w, St B [] [] w → R (.panicked (Ud T e)) w) (hx : ev σ x = .iface T (.int .i64 e) := by exact A9) (hD : n.defs = [] := by rfl) (hK : okK n.kind := by first | exact .inl rfl | exact .inr rfl) : Ep P f R B n K ops l (Cb dst (.panic x) ty) σ Γ Ms := fun a w hr hs => by
 unfold Oper.wp
 rw [hr.eval]
 have e1 : (execOp (ev σ) (Cb dst (.panic x) ty)).run P w = .halt (.panic (.iface T (.int .i64 e))) w := by
  simp only [Cb, execOp, hx]
  rfl
 rw [e1, Oper.upon_panic]
 refine ⟨hK.imp id (fun h => ⟨h, hr.defs.trans hD⟩), fun fn hfn => ?_⟩
 rw [hr.defs, hD]
 exact hR w (St.Mq (A := Ms) (Ms := []) (by rw [List.append_nil]; exact hs.less (fun F hF => by cases hF)))
theorem B6x {c : FuncId} {cap : List Value} {ts : Array TypeId} {g : Operand} (k_ : Dw P f R B ⟨n.sz, ⟨.fn (.func c) cap.toArray, #[]⟩ :: n.defs, n.kind⟩ K ops l σ Γ Ms) (hg : ev σ g = .func (.func c) #[] cap.toArray := by rfl) : Ep P f R B n K ops l (Cb none (.defer { callee := .value g, args := #[], argTypes := ts }) ty) σ Γ Ms := fun a w hr hs => by
 unfold Oper.wp
 rw [hr.eval]
 have e1 : (execOp (ev σ) (Cb none (.defer { callee := .value g, args := #[], argTypes := ts }) ty)).run P w = .ok (.defer ⟨.fn (.func c) cap.toArray, #[]⟩) w := by
  simp [Cb, execOp, resolve, hg, Deferred.ofValue]
 rw [e1, Oper.upon_defer]
 exact k_ _ _ ⟨hr.size, hr.get, by show _ :: a.defers = _; rw [hr.defs]⟩ hs
end
def Qi (P : Program) (k : FuncId) (args : Array Value) (pre : List Fact) (Ms0 : List B4) (u u' : FrameMode) (N : List Fact) (Ms1 : List B4) : Prop :=
 ∀ ok w, (∀ b, ok b → b < w.heap.size ∧ ¬ B9 Ms0 b) → St ⟨ok, B9 Ms0, w⟩ pre Ms0 w → CallsD P k args u w fun e v w' => e = .returned (.tuple #[]) ∧ v = u' ∧ St ⟨ok, B9 Ms0, w⟩ N Ms1 w'
section
variable {P : Program} {f : FuncId} {fn : Func} {R : Ending → World → Prop} {B : C6} {n : Fz} {K : List Item} {σ : Nat → Value} {Γ : List Fact} {Ms : List B4}
theorem B7j {k : FuncId} {cap : List Value} {pre N : List Fact} {Ms0 Ms1 Ms2 : List B4} {u u' : FrameMode} {tmps : Array Value} {w : World} (hu : u ≠ .run) (hc : ∀ (args : Array Value) (w : World), (callFunc k args).run P w = .ok (.enter k args) w) (hsp : Qi P k cap.toArray pre Ms0 u u' N Ms1) (hpre : ∀ F, F ∈ pre → F ∈ Γ) (hm : Ms.Perm (Ms0 ++ Ms2)) (hset : settle u' = .returning)
  (hs : St B Γ Ms w) (hres : ∀ w', St B (N ++ Γ) (Ms1 ++ Ms2) w' → ∃ v, (results fn tmps).run P w' = .ok v w' ∧ R (.returned v) w') : Leaves P fn tmps R [⟨.fn (.func k) cap.toArray, #[]⟩] u w := by
 refine leaves_cons (f := k) (args := cap.toArray) hu (by simp [invoke, hc]) ?_
 have hs' := hs.perm hm
 refine (hsp (Oc B (Ms0 ++ Ms2) w) w ?_ (hs'.hand hpre)).mono ?_
 ·intro b hb
  exact ⟨hb.2.1, fun hc => hb.2.2 (Dl.2 (.inl hc))⟩
 ·rintro e v w' ⟨rfl, rfl, hx⟩
  show Leaves P fn tmps R [] (settle v) w'
  rw [hset]
  obtain ⟨v', h1, h2⟩ := hres w' (hs'.frame hx)
  exact ⟨v', h1, h2⟩
theorem C9g {k : FuncId} {cap : List Value} {pre N : List Fact} {Ms0 Ms1 Ms2 : List B4} (hf : P.funcs[f]? = some fn) (hc : ∀ (args : Array Value) (w : World), (callFunc k args).run P w = .ok (.enter k args) w) (hsp : Qi P k cap.toArray pre Ms0 .returning .returning N Ms1) (hpre : ∀ F, F ∈ pre → F ∈ Γ) (hm : Ms.Perm (Ms0 ++ Ms2))
  (hres : ∀ a w', Rel n a σ → St B (N ++ Γ) (Ms1 ++ Ms2) w' → ∃ v, (results fn a.tmps).run P w' = .ok v w' ∧ R (.returned v) w') (hD : n.defs = [⟨.fn (.func k) cap.toArray, #[]⟩] := by rfl) (hK : n.kind = .normal := by rfl) : Es P f R B n (.code .ret :: K) σ Γ Ms := by
 intro a w hr hs b cs hb hk
 have hfn : P.funcs[b.fn]? = some fn := by rw [hb]; exact hf
 have hL : Leaves P fn a.tmps R a.defers .returning w := by
  rw [hr.defs, hD]
  exact B7j Cs hc hsp hpre hm rfl hs (fun w' h => hres a w' hr h)
 obtain ⟨e, w', fr, hR, hs', hf', hl⟩ := leaves_steps a.defers .returning w { b.at a (.code .ret :: K) with mode := .returning } cs rfl rfl rfl hfn (hk.trans hK) hL
 exact ⟨e, w', fr, hR, hs'.of_steps (.one step_ret), hf'.trans hb, .inl ⟨hK, hl⟩⟩
theorem C8m {ops : Array Oper} {l : List Nat} {dst : Option Tmp} {op : Op} {ty : TypeId} {c k : FuncId} {args : Array Value} {cap : List Value} {pre pre2 N : List Fact} {chain : List PanicEntry} {Ms0 Ms1 Ms2 : List B4} {u' : FrameMode} (he : Qj P σ op ty c args) (hsp : Qh P c args pre chain) (hpre : ∀ F, F ∈ pre → F ∈ Γ) (hf : P.funcs[f]? = some fn)
  (hc : ∀ (args : Array Value) (w : World), (callFunc k args).run P w = .ok (.enter k args) w) (hsd : Qi P k cap.toArray pre2 Ms0 (.panicking chain) u' N Ms1) (hpre2 : ∀ F, F ∈ pre2 → F ∈ Γ) (hm : Ms.Perm (Ms0 ++ Ms2)) (hset : settle u' = .returning)
  (hres : ∀ a w', Rel n a σ → St B (N ++ Γ) (Ms1 ++ Ms2) w' → ∃ v, (results fn a.tmps).run P w' = .ok v w' ∧ R (.returned v) w') (hD : n.defs = [⟨.fn (.func k) cap.toArray, #[]⟩] := by rfl) (hK : n.kind = .normal := by rfl) : Ep P f R B n K ops l (Cb dst op ty) σ Γ Ms := by
 intro a w hr hs
 unfold Oper.wp
 rw [hr.eval, show (execOp (ev σ) (Cb dst op ty)).run P w = .ok (.enter c args) w by rw [Cb, Ec (d' := none)]; exact he w]
 have hs' : St B Γ ([] ++ Ms) w := hs
 refine (hsp (Oc B ([] ++ Ms) w) w (fun b hb => ⟨hb.2.1, Hd b⟩) (hs'.hand hpre)).mono ?_
 rintro e w' ⟨rfl, hx⟩
 refine ⟨.inl hK, fun fn' hfn' => ?_⟩
 rw [hf] at hfn'
 injection hfn' with hfn'
 subst hfn'
 rw [hr.defs, hD]
 have h1 : St B Γ Ms w' := by have := hs'.frame hx; simpa using this
 exact B7j Cs hc hsd hpre2 hm hset h1 (fun w' h => hres a w' hr h)
end
section
variable {P : Program} {f : FuncId} {fn : Func} {B : C6} {Γ : List Fact} {Ms : List B4}
theorem B5k {R : Ending → World → Prop} {n : Fz} {args : Array Value} {c : Code} {w : World} {d d2 : Tmp} {o1 o2 : Oper} {id : Nat} (hf : P.funcs[f]? = some fn) (hb : fn.body = some (.seq (.region id #[o1, o2] false) c)) (hn : fn.ntmps = n.sz) (hD : n.defs = []) (hk : n.kind = .deferred) (ha : args.size ≤ n.sz) (hs : St B Γ Ms w)
  (h1 : ∀ ρ w, (execOp ρ o1).run P w = .ok .recover w) (hd1 : o1.dst = some d) (hg1 : o1.guard = none) (h2 : ∀ ρ : Operand → Value, execOp ρ o2 = pure (.value (ρ (.tmp d)))) (hd2 : o2.dst = some d2) (hg2 : o2.guard = none) (hl1 : Nat.blt d n.sz = true) (hl2 : Nat.blt d2 n.sz = true)
  (h : Es P f R B n [.code c] (Rc (Rc (fun t => args.getD t undef) d .nilIface) d2 .nilIface) Γ Ms) : CallsD P f args .returning w fun e u' w' => u' = .returning ∧ R e w' := by
 intro c0 cs hu
 let b : Frame := { (default : Frame) with fn := f, kind := .deferred }
 have henter : Frame.enter P f args .deferred = b.at { tmps := args ++ Array.replicate (fn.ntmps - args.size) undef, defers := [] } [.code (.seq (.region id #[o1, o2] false) c)] := by
  simp [Frame.enter, Frame.at, hf, hb, b]
 have hr0 := V1 (fn := fn) hn hD ha
 have hr1 := hr0.put (dst := some d) hl1 .nilIface
 have hr2 := hr1.put (dst := some d2) hl2 .nilIface
 have hS : wpOpsS P #[o1, o2] (fun e a' cs' w' => e = .normal ∧ a' = (({ tmps := args ++ Array.replicate (fn.ntmps - args.size) undef, defers := [] } : Act).put (some d) .nilIface).put (some d2) .nilIface ∧ cs' = c0 :: cs ∧ w' = w) [0, 1] { tmps := args ++ Array.replicate (fn.ntmps - args.size) undef, defers := [] } (c0 :: cs) w := by
  have e1 : (#[o1, o2])[0]? = some o1 := rfl
  have e2 : (#[o1, o2])[1]? = some o2 := rfl
  have hrec : recoverD (c0 :: cs) = none := by simp [recoverD, hu]
  have hput : ((({ tmps := args ++ Array.replicate (fn.ntmps - args.size) undef, defers := [] } : Act).put (some d) .nilIface).eval (.tmp d)) = .nilIface := by
   rw [hr1.eval]; simp [ev, Af, J4]
  simp only [wpOpsS, e1, e2, Region.wanted, hg1, hg2, if_true, h1, hrec, hd1, h2]
  rw [hput]
  show Oper.upon P o2 _ _ _ (.ok (.value .nilIface) w)
  simp only [Oper.upon_value, hd2, and_self]
 obtain ⟨e, a', cs', w', ⟨rfl, rfl, rfl, rfl⟩, harr⟩ := wp_opsS [0, 1] _ _ _ hS b [.code c] rfl rfl
 obtain ⟨e, w2, fr, hR, hc, hf', hl⟩ := h _ w' hr2 hs b (c0 :: cs) rfl hk.symm
 rcases hl with ⟨h9, _⟩ | ⟨_, hk2, hgo⟩
 ·rw [hk] at h9; cases h9
 ·refine ⟨e, .returning, w2, fr, ⟨rfl, hR⟩, ?_, hk2, hgo⟩
  have hc0 : ({ c0 with mode := .returning } : Frame) = c0 := by rw [← hu]
  rw [henter, hc0]
  exact hc.of_steps (.head step_seq (.head step_region harr))
theorem A4i {args : List Value} {d d2 : Nat} {v : Value} : (Rc (Rc (fun t => args.toArray.getD t undef) d v) d2 v) = Rc (Rc (fun t => args.getD t undef) d v) d2 v := by
 have he : (fun t => args.toArray.getD t undef) = fun t => args.getD t undef := by
  funext t
  simp [Array.getD_eq_getD_getElem?, List.getD_eq_getElem?_getD]
 rw [he]
theorem A8r {args : List Value} {c : Code} {d d2 sz : Nat} {o1 o2 : Oper} {id : Nat} {v : Value} {older : List PanicEntry} {N pre : List Fact} {Ms0 Ms1 : List B4} (hf : P.funcs[f]? = some fn) (hb : fn.body = some (.seq (.region id #[o1, o2] false) c)) (hn : fn.ntmps = sz) (ha : args.length ≤ sz)
  (h1 : ∀ ρ w, (execOp ρ o1).run P w = .ok .recover w) (hd1 : o1.dst = some d) (hg1 : o1.guard = none) (h2 : ∀ ρ : Operand → Value, execOp ρ o2 = pure (.value (ρ (.tmp d)))) (hd2 : o2.dst = some d2) (hg2 : o2.guard = none) (hl1 : Nat.blt d sz = true) (hl2 : Nat.blt d2 sz = true)
  (h : ∀ B : C6, (∀ b, B.S0 b ↔ B9 Ms0 b) → Es P f (Ends B (fun _ : Unit => .tuple #[]) (fun _ => N) (fun _ => Ms1)) B ⟨sz, [], .deferred⟩ [.code c] (Rc (Rc (fun t => args.getD t undef) d v) d2 v) pre Ms0) :
  Qi P f args.toArray pre Ms0 (.panicking ({ v, recovered := false } :: older)) (.panicking ({ v, recovered := true } :: older)) N Ms1 := by
 intro ok w hok hs
 refine (C0z (n := ⟨sz, [], .deferred⟩) hf hb hn rfl rfl (by simpa using ha) hs h1 hd1 hg1 h2 hd2 hg2 hl1 hl2 (by rw [A4i]; exact h ⟨ok, B9 Ms0, w⟩ (fun _ => Iff.rfl))).mono ?_
 rintro e u w' ⟨rfl, _, he, hx⟩
 exact ⟨he, rfl, hx⟩
theorem A1y {args : List Value} {c : Code} {d d2 sz : Nat} {o1 o2 : Oper} {id : Nat} {N pre : List Fact} {Ms0 Ms1 : List B4} (hf : P.funcs[f]? = some fn) (hb : fn.body = some (.seq (.region id #[o1, o2] false) c)) (hn : fn.ntmps = sz) (ha : args.length ≤ sz)
  (h1 : ∀ ρ w, (execOp ρ o1).run P w = .ok .recover w) (hd1 : o1.dst = some d) (hg1 : o1.guard = none) (h2 : ∀ ρ : Operand → Value, execOp ρ o2 = pure (.value (ρ (.tmp d)))) (hd2 : o2.dst = some d2) (hg2 : o2.guard = none) (hl1 : Nat.blt d sz = true) (hl2 : Nat.blt d2 sz = true)
  (h : ∀ B : C6, (∀ b, B.S0 b ↔ B9 Ms0 b) → Es P f (Ends B (fun _ : Unit => .tuple #[]) (fun _ => N) (fun _ => Ms1)) B ⟨sz, [], .deferred⟩ [.code c] (Rc (Rc (fun t => args.getD t undef) d .nilIface) d2 .nilIface) pre Ms0) :
  Qi P f args.toArray pre Ms0 .returning .returning N Ms1 := by
 intro ok w hok hs
 refine (B5k (n := ⟨sz, [], .deferred⟩) hf hb hn rfl rfl (by simpa using ha) hs h1 hd1 hg1 h2 hd2 hg2 hl1 hl2 (by rw [A4i]; exact h ⟨ok, B9 Ms0, w⟩ (fun _ => Iff.rfl))).mono ?_
 rintro e u w' ⟨rfl, _, he, hx⟩
 exact ⟨he, rfl, hx⟩
end
section
variable {P : Program} [Tab P] {f : FuncId} {R : Ending → World → Prop} {B : C6} {n : Fz} {K : List Item} {ops : Array Oper} {i : Nat} {l : List Nat} {σ : Nat → Value} {Γ : List Fact} {Ms : List B4}
variable {dst : Option Tmp} {ty : TypeId} {v : Value} {x y : Operand}
theorem A1m {t : TypeId} (hu : (match Tab.und P t with | some (.interface _) => true | _ => false) = true) : ∃ m, Tab.und P t = some (.interface m) := by
 cases h : Tab.und P t with
 | none => rw [h] at hu; cases hu
 | some d => cases d <;> rw [h] at hu <;> first | exact ⟨_, rfl⟩ | cases hu
theorem C2n {t T : TypeId} {v : Value} (hu : (match Tab.und P t with | some (.interface _) => true | _ => false) = true) (w : World) : (Op.equal t (.iface T v) .nilIface).run P w = .ok false w := by
 obtain ⟨m, hu'⟩ := A1m hu
 have h1 : (Op.equalIn (9999 + 1) t (.iface T v) .nilIface).run P w = .ok false w := by
  unfold Op.equalIn
  rw [A2 (Dq hu' w)]
  rfl
 exact h1
theorem C2m {t : TypeId} (hu : (match Tab.und P t with | some (.interface _) => true | _ => false) = true) (w : World) : (Op.equal t .nilIface .nilIface).run P w = .ok true w := by
 obtain ⟨m, hu'⟩ := A1m hu
 have h1 : (Op.equalIn (9999 + 1) t .nilIface .nilIface).run P w = .ok true w := by
  unfold Op.equalIn
  rw [A2 (Dq hu' w)]
  rfl
 exact h1
theorem A3b {t t' T : TypeId} (k_ : Dw P f R B n K ops l (Af σ dst (.bool true)) Γ Ms) (hx : ev σ x = .iface T v := by exact A9) (hu : (match Tab.und P t with | some (.interface _) => true | _ => false) = true := by rfl) (hd : Aa n dst = true := by rfl) : Ep P f R B n K ops l (Cb dst (.binOp .neq t x (.const .nilIface) t') ty) σ Γ Ms := Ba (D6 hx (show ev σ (.const .nilIface) = Value.nilIface from rfl) (fun w => by simp [eqGuard_at_iface]) (fun w => by
 simp only [binOp]
 rw [A2 (C2n hu w)]; rfl)) hd k_
theorem B6w {t t' : TypeId} (k_ : Dw P f R B n K ops l (Af σ dst (.bool false)) Γ Ms) (hx : ev σ x = .nilIface := by exact A9) (hu : (match Tab.und P t with | some (.interface _) => true | _ => false) = true := by rfl) (hd : Aa n dst = true := by rfl) : Ep P f R B n K ops l (Cb dst (.binOp .neq t x (.const .nilIface) t') ty) σ Γ Ms := Ba (D6 hx (show ev σ (.const .nilIface) = Value.nilIface from rfl) (fun w => by cases x <;> rfl) (fun w => by
 simp only [binOp]
 rw [A2 (C2m hu w)]; rfl)) hd k_
theorem A3a {t T : TypeId} {d : TypeDesc} (k_ : Dw P f R B n K ops l (Af σ dst (.tuple #[v, .bool true])) Γ Ms) (hx : ev σ x = .iface T v := by exact A9) (hu : Tab.und P T = some d := by rfl) (hdd : (match d with | .interface _ => true | _ => false) = false := by rfl) (hd : Aa n dst = true := by rfl) : Ep P f R B n K ops l (Cb dst (.typeAssert x t T true) ty) σ Γ Ms := Ba (fun w => by
 cases d <;> first | (simp at hdd; done) | simp [Cb, execOp, hx, Instr.typeAssert, Dq hu]) hd k_
end
section
variable {P : Program} [Tab P] {f : FuncId} {fn : Func} {B : C6} {n : Fz} {K : List Item} {σ : Nat → Value} {Γ : List Fact} {Ms : List B4} {X : Type} {val : X → Value} {N : X → List Fact} {Ms1 : X → List B4}
theorem S6 {r t T r2 t2 T2 b b2 s bt : Nat} {zv v2 : Value} {d : TypeDesc} {lay : List (Nat × Nat)} {cs : List Value} {a : Act} {w : World} (hr : fn.results = #[.cell r t, .cell r2 t2]) (ha : Rel n a σ) (hs : St B Γ Ms w) (hb : σ r = .pointer (some ⟨b, 0, none⟩)) (hb2 : σ r2 = .pointer (some ⟨b2, 0, none⟩)) (hm : A8 b cs T ∈ Ms) (hm2 : A8 b2 [v2] T2 ∈ Ms)
  (hl : Tab.lay P t = some lay) (hi : Tab.inf P t = some (s, bt, zv)) (hcs : cs.length = s) (hu : Tab.und P t2 = some d) (hd : (match d with | .struct _ | .array _ _ => true | _ => false) = false) : (results fn a.tmps).run P w = .ok (.tuple #[.agg cs.toArray, v2]) w := by
 have h1 := ha.get r
 rw [hb] at h1
 have h3 := ha.get r2
 rw [hb2] at h3
 have h2 := D5 (P := P) (bk := b) (off := 0) (w := w) hl hi hcs (fun j v hj => by rw [Nat.zero_add]; exact Kn hs hm j v hj)
 have h4 : (loadVar t2 ⟨b2, 0, none⟩).run P w = .ok v2 w := En (P := P) (off := 0) (w := w) hu hd (Kn hs hm2 0 v2 rfl)
 have h1' : (a.tmps[r]?.getD undef) = .pointer (some ⟨b, 0, none⟩) := by simpa [Array.getD_eq_getD_getElem?] using h1
 have h3' : (a.tmps[r2]?.getD undef) = .pointer (some ⟨b2, 0, none⟩) := by simpa [Array.getD_eq_getD_getElem?] using h3
 simp [results, hr, asAddr, h1', h2, h3', h4]
theorem A2m {r t T r2 t2 T2 b b2 s bt : Nat} {zv v2 : Value} {d : TypeDesc} {lay : List (Nat × Nat)} {cs : List Value} (hf : P.funcs[f]? = some fn) (hr : fn.results = #[.cell r t, .cell r2 t2]) (x : X) (hb : σ r = .pointer (some ⟨b, 0, none⟩)) (hb2 : σ r2 = .pointer (some ⟨b2, 0, none⟩)) (hm : A8 b cs T ∈ Ms) (hm2 : A8 b2 [v2] T2 ∈ Ms)
  (hl : Tab.lay P t = some lay) (hi : Tab.inf P t = some (s, bt, zv)) (hcs : cs.length = s) (hu : Tab.und P t2 = some d) (hd : (match d with | .struct _ | .array _ _ => true | _ => false) = false) (hv : Value.tuple #[.agg cs.toArray, v2] = val x) (hs : ∀ w, St B Γ Ms w → St B (N x) (Ms1 x) w) (hD : n.defs = [] := by rfl) (hK : okK n.kind := by first | exact .inl rfl | exact .inr rfl) : Es P f (Ends B val N Ms1) B n (.code .ret :: K) σ Γ Ms :=
 go_ret hf (fun a w ha h => (S6 hr ha h hb hb2 hm hm2 hl hi hcs hu hd).trans (by rw [hv])) (fun w h => ⟨x, rfl, hs w h⟩) hD hK
end
section
variable {P : Program} [Tab P] {f : FuncId} {fn : Func} {B : C6} {n : Fz} {K : List Item} {σ : Nat → Value} {Γ : List Fact} {Ms : List B4} {X : Type} {val : X → Value} {N : X → List Fact} {Ms1 : X → List B4}
theorem B3q {r t T r2 t2 T2 b b2 s bt : Nat} {zv v2 : Value} {d : TypeDesc} {lay : List (Nat × Nat)} {cs : List Value} {k : FuncId} {cap : List Value} (hf : P.funcs[f]? = some fn) (hr : fn.results = #[.cell r t, .cell r2 t2]) (hc : ∀ (args : Array Value) (w : World), (callFunc k args).run P w = .ok (.enter k args) w) (hsp : Qi P k cap.toArray [] [] .returning .returning [] [])
  (x : X) (hb : σ r = .pointer (some ⟨b, 0, none⟩)) (hb2 : σ r2 = .pointer (some ⟨b2, 0, none⟩)) (hm : A8 b cs T ∈ Ms) (hm2 : A8 b2 [v2] T2 ∈ Ms)
  (hl : Tab.lay P t = some lay) (hi : Tab.inf P t = some (s, bt, zv)) (hcs : cs.length = s) (hu : Tab.und P t2 = some d) (hd : (match d with | .struct _ | .array _ _ => true | _ => false) = false) (hv : Value.tuple #[.agg cs.toArray, v2] = val x) (hs : ∀ w, St B Γ Ms w → St B (N x) (Ms1 x) w) (hD : n.defs = [⟨.fn (.func k) cap.toArray, #[]⟩] := by rfl) (hK : n.kind = .normal := by rfl) : Es P f (Ends B val N Ms1) B n (.code .ret :: K) σ Γ Ms :=
 C9g (Ms2 := Ms) hf hc hsp (fun F hF => by cases hF) (List.Perm.refl _) (fun a w' ha h => ⟨_, S6 hr ha h hb hb2 hm hm2 hl hi hcs hu hd, ⟨x, by rw [hv], hs w' h⟩⟩) hD hK
theorem C3o {r t T r2 t2 T2 b b2 s bt : Nat} {zv v2 : Value} {d : TypeDesc} {lay : List (Nat × Nat)} {cs cs0 : List Value} {v0 : Value} {k c : FuncId} {cap : List Value} {ops : Array Oper} {l : List Nat} {dst : Option Tmp} {op : Op} {ty : TypeId} {args : Array Value} {pre : List Fact} {chain : List PanicEntry} {u' : FrameMode} {Ms2 : List B4} (he : Qj P σ op ty c args) (hspp : Qh P c args pre chain) (hpre : ∀ F, F ∈ pre → F ∈ Γ)
  (hf : P.funcs[f]? = some fn) (hr : fn.results = #[.cell r t, .cell r2 t2]) (hc : ∀ (args : Array Value) (w : World), (callFunc k args).run P w = .ok (.enter k args) w) (hsp : Qi P k cap.toArray [] [A8 b cs0 T, A8 b2 [v0] T2] (.panicking chain) u' [] [A8 b cs T, A8 b2 [v2] T2]) (hset : settle u' = .returning) (hm : Ms.Perm (A8 b cs0 T :: A8 b2 [v0] T2 :: Ms2))
  (x : X) (hb : σ r = .pointer (some ⟨b, 0, none⟩)) (hb2 : σ r2 = .pointer (some ⟨b2, 0, none⟩))
  (hl : Tab.lay P t = some lay) (hi : Tab.inf P t = some (s, bt, zv)) (hcs : cs.length = s) (hu : Tab.und P t2 = some d) (hd : (match d with | .struct _ | .array _ _ => true | _ => false) = false) (hv : Value.tuple #[.agg cs.toArray, v2] = val x) (hs : ∀ w, St B Γ [] w → St B (N x) (Ms1 x) w) (hD : n.defs = [⟨.fn (.func k) cap.toArray, #[]⟩] := by rfl) (hK : n.kind = .normal := by rfl) : Ep P f (Ends B val N Ms1) B n K ops l (Cb dst op ty) σ Γ Ms :=
 C8m (Ms0 := [A8 b cs0 T, A8 b2 [v0] T2]) (Ms2 := Ms2) he hspp hpre hf hc hsp (fun F hF => by cases hF) hm hset (fun a w' ha h => ⟨_, S6 hr ha h hb hb2 (List.mem_cons_self) (List.mem_cons_of_mem _ List.mem_cons_self) hl hi hcs hu hd, ⟨x, by rw [hv], hs w' (St.Mq (A := A8 b cs T :: A8 b2 [v2] T2 :: Ms2) (Ms := []) (by rw [List.append_nil]; exact h))⟩⟩) hD hK
end
section
variable {P : Program} [Tab P] {f : FuncId} {R : Ending → World → Prop} {B : C6} {n : Fz} {K : List Item} {ops : Array Oper} {i : Nat} {l : List Nat} {σ : Nat → Value} {Γ : List Fact} {Ms : List B4}
variable {dst : Option Tmp} {ty : TypeId} {v : Value} {x y : Operand}
theorem B9g {s d : TypeId} {a : Nat} (hs : Tab.und P s = some (.int .u32)) (hd : Tab.und P d = some (.int .u64)) (hx : ev σ x = .int .u32 (a : Int)) (ha : a < 4294967296) : Ch P σ (.convert s d x) ty (.int .u64 (a : Int)) := by
 have e : IntKind.u64.wrap (a : Int) = (a : Int) := by
  have : IntKind.u64.wrap (a : Int) = (a : Int) % 18446744073709551616 := by simp [IntKind.wrap, IntKind.bits, IntKind.signed]
  rw [this]; omega
 have := Lx (P := P) (ty := ty) hs hd hx
 rwa [e] at this
theorem C4c {s d : TypeId} {a : Nat} (k_ : Dw P f R B n K ops l (Af σ dst (.int .u64 (a : Int))) Γ Ms) (hx : ev σ x = .int .u32 (a : Int) := by exact A9) (ha : a < 4294967296 := by first | assumption | omega) (hs : Tab.und P s = some (.int .u32) := by rfl) (hd' : Tab.und P d = some (.int .u64) := by rfl) (hd : Aa n dst = true := by rfl) : Ep P f R B n K ops l (Cb dst (.convert s d x) ty) σ Γ Ms := Ba (B9g hs hd' hx ha) hd k_
end
end Go.Hy
