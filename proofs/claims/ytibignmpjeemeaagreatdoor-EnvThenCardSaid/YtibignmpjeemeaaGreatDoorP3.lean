/- Contracts of this program's functions and the laws that they need. -/
import Derived.WideShapes
import Derived.ArgAppend
import Derived.Test.YtibignmpjeemeaaGreatDoorP2
set_option linter.unusedVariables false
set_option linter.unusedSimpArgs false
set_option linter.unusedSectionVars false
namespace Go.Hy
section
variable {tn : Bool} {pn : Nat} {P : Program} [Tab P] {f : FuncId} {R : Ending → World → Prop} {B : C0} {n : Fz} {K : List Item} {ops : Array Oper} {i : Nat} {l fin : List Nat} {σ : Nat → Value} {Γ : List Fact} {Ms Ms2 : List B3}
variable {dst : Option Tmp} {op : Op} {ty : TypeId} {pos : String} {after : Array Edge} {v : Value} {x y z : Operand}
theorem Eg  (k_ : Dp P f R B n K ops l (Ak σ dst v) Γ Ms) (h : ev σ x = v := by exact Ac) (hd : Ae n dst = true := by rfl) : E8 P f R B n K ops l (Cd dst (.move x) ty) σ Γ Ms := Bb (B1n h) hd k_
theorem A7m  (k_ : NV tn pn P f R B n K ops fin l (Ak σ dst v) Γ Ms) (h : ev σ x = v := by exact Ac) (hd : Ae n dst = true := by rfl) : Ir tn pn P f R B n K ops fin i l dst (.move x) ty σ Γ Ms := Cw (B1n h) hd k_
theorem B9f  (k_ : Dp P f R B n K ops l (Ak σ dst v) Γ Ms) (h : ev σ x = v := by exact Ac) (hd : Ae n dst = true := by rfl) : E8 P f R B n K ops l (Cd dst (.assign x) ty) σ Γ Ms := Bb (Zc h) hd k_
theorem B6t  (k_ : NV tn pn P f R B n K ops fin l (Ak σ dst v) Γ Ms) (h : ev σ x = v := by exact Ac) (hd : Ae n dst = true := by rfl) : Ir tn pn P f R B n K ops fin i l dst (.assign x) ty σ Γ Ms := Cw (Zc h) hd k_
theorem B1w  (k_ : Dp P f R B n K ops l (Ak σ dst v) Γ Ms) (hz : ev σ z = .bool true := by rfl) (h : ev σ x = v := by exact Ac) (hd : Ae n dst = true := by rfl) : E8 P f R B n K ops l (Cd dst (.pick z x y) ty) σ Γ Ms := Bb (A3x hz h) hd k_
theorem B0v  (k_ : NV tn pn P f R B n K ops fin l (Ak σ dst v) Γ Ms) (hz : ev σ z = .bool true := by rfl) (h : ev σ x = v := by exact Ac) (hd : Ae n dst = true := by rfl) : Ir tn pn P f R B n K ops fin i l dst (.pick z x y) ty σ Γ Ms := Cw (A3x hz h) hd k_
theorem P2  (k_ : Dp P f R B n K ops l (Ak σ dst v) Γ Ms) (hz : ev σ z = .bool false := by rfl) (h : ev σ y = v := by exact Ac) (hd : Ae n dst = true := by rfl) : E8 P f R B n K ops l (Cd dst (.pick z x y) ty) σ Γ Ms := Bb (A3y hz h) hd k_
theorem B0w  (k_ : NV tn pn P f R B n K ops fin l (Ak σ dst v) Γ Ms) (hz : ev σ z = .bool false := by rfl) (h : ev σ y = v := by exact Ac) (hd : Ae n dst = true := by rfl) : Ir tn pn P f R B n K ops fin i l dst (.pick z x y) ty σ Γ Ms := Cw (A3y hz h) hd k_
theorem D3o {t t' : TypeId} {a b : Int} (k_ : Dp P f R B n K ops l (Ak σ dst (.int .i64 (a + b))) Γ Ms) (hx : ev σ x = .int .i64 a := by exact Ac) (hy : ev σ y = .int .i64 b := by exact Ac) (h : Aw (a + b) := by unfold Aw; first | omega | (unfold Aw at *; omega) | (unfold reach at *; omega) | (unfold Gs at *; omega) | (simp only [Aw, reach, Gs] at *; omega)) (hd : Ae n dst = true := by rfl) : E8 P f R B n K ops l (Cd dst (.binOp .add t x y t') ty) σ Γ Ms := Bb (B8o hx hy h) hd k_
theorem D2q {t t' : TypeId} {a b : Int} (k_ : NV tn pn P f R B n K ops fin l (Ak σ dst (.int .i64 (a + b))) Γ Ms) (hx : ev σ x = .int .i64 a := by exact Ac) (hy : ev σ y = .int .i64 b := by exact Ac) (h : Aw (a + b) := by unfold Aw; first | omega | (unfold Aw at *; omega) | (unfold reach at *; omega) | (unfold Gs at *; omega) | (simp only [Aw, reach, Gs] at *; omega)) (hd : Ae n dst = true := by rfl) : Ir tn pn P f R B n K ops fin i l dst (.binOp .add t x y t') ty σ Γ Ms := Cw (B8o hx hy h) hd k_
theorem A4p {t t' : TypeId} {a b : Int} (k_ : Dp P f R B n K ops l (Ak σ dst (.int .i64 (a - b))) Γ Ms) (hx : ev σ x = .int .i64 a := by exact Ac) (hy : ev σ y = .int .i64 b := by exact Ac) (h : Aw (a - b) := by unfold Aw; first | omega | (unfold Aw at *; omega) | (unfold reach at *; omega) | (unfold Gs at *; omega) | (simp only [Aw, reach, Gs] at *; omega)) (hd : Ae n dst = true := by rfl) : E8 P f R B n K ops l (Cd dst (.binOp .sub t x y t') ty) σ Γ Ms := Bb (C8a hx hy h) hd k_
theorem C6k {t t' : TypeId} {k : IntKind} {a b : Int} (k_ : Dp P f R B n K ops l (Ak σ dst (.bool (decide (a < b)))) Γ Ms) (hx : ev σ x = .int k a := by exact Ac) (hy : ev σ y = .int k b := by exact Ac) (hd : Ae n dst = true := by rfl) : E8 P f R B n K ops l (Cd dst (.binOp .lss t x y t') ty) σ Γ Ms := Bb (C8d hx hy) hd k_
theorem C6l {t t' : TypeId} {k : IntKind} {a b : Int} (k_ : Dp P f R B n K ops l (Ak σ dst (.bool (decide (a ≤ b)))) Γ Ms) (hx : ev σ x = .int k a := by exact Ac) (hy : ev σ y = .int k b := by exact Ac) (hd : Ae n dst = true := by rfl) : E8 P f R B n K ops l (Cd dst (.binOp .leq t x y t') ty) σ Γ Ms := Bb (C8e hx hy) hd k_
theorem Wi {t t' : TypeId} {k : IntKind} {a b : Int} (k_ : Dp P f R B n K ops l (Ak σ dst (.bool (decide (b < a)))) Γ Ms) (hx : ev σ x = .int k a := by exact Ac) (hy : ev σ y = .int k b := by exact Ac) (hd : Ae n dst = true := by rfl) : E8 P f R B n K ops l (Cd dst (.binOp .gtr t x y t') ty) σ Γ Ms := Bb (B8m hx hy) hd k_
theorem B0y {t t' : TypeId} {k : IntKind} {a b : Int} (k_ : NV tn pn P f R B n K ops fin l (Ak σ dst (.bool (decide (b < a)))) Γ Ms) (hx : ev σ x = .int k a := by exact Ac) (hy : ev σ y = .int k b := by exact Ac) (hd : Ae n dst = true := by rfl) : Ir tn pn P f R B n K ops fin i l dst (.binOp .gtr t x y t') ty σ Γ Ms := Cw (B8m hx hy) hd k_
theorem Zh {t t' : TypeId} {k : IntKind} {a b : Int} (k_ : Dp P f R B n K ops l (Ak σ dst (.bool (decide (b ≤ a)))) Γ Ms) (hx : ev σ x = .int k a := by exact Ac) (hy : ev σ y = .int k b := by exact Ac) (hd : Ae n dst = true := by rfl) : E8 P f R B n K ops l (Cd dst (.binOp .geq t x y t') ty) σ Γ Ms := Bb (C8f hx hy) hd k_
theorem A4t {t t' : TypeId} {k : IntKind} {a b : Int} (k_ : Dp P f R B n K ops l (Ak σ dst (.bool (decide (a = b)))) Γ Ms) (hx : ev σ x = .int k a := by exact Ac) (hy : ev σ y = .int k b := by exact Ac) (hd : Ae n dst = true := by rfl) : E8 P f R B n K ops l (Cd dst (.binOp .eql t x y t') ty) σ Γ Ms := Bb (A8l hx hy) hd k_
theorem B0z {t t' : TypeId} {k : IntKind} {a b : Int} (k_ : NV tn pn P f R B n K ops fin l (Ak σ dst (.bool (decide (a = b)))) Γ Ms) (hx : ev σ x = .int k a := by exact Ac) (hy : ev σ y = .int k b := by exact Ac) (hd : Ae n dst = true := by rfl) : Ir tn pn P f R B n K ops fin i l dst (.binOp .eql t x y t') ty σ Γ Ms := Cw (A8l hx hy) hd k_
theorem Wg {t t' : TypeId} {k : IntKind} {a b : Int} (k_ : Dp P f R B n K ops l (Ak σ dst (.bool (decide (a ≠ b)))) Γ Ms) (hx : ev σ x = .int k a := by exact Ac) (hy : ev σ y = .int k b := by exact Ac) (hd : Ae n dst = true := by rfl) : E8 P f R B n K ops l (Cd dst (.binOp .neq t x y t') ty) σ Γ Ms := Bb (A8k hx hy) hd k_
theorem Yo {t t' : TypeId} {k : IntKind} {a b : Int} (k_ : NV tn pn P f R B n K ops fin l (Ak σ dst (.bool (decide (a ≠ b)))) Γ Ms) (hx : ev σ x = .int k a := by exact Ac) (hy : ev σ y = .int k b := by exact Ac) (hd : Ae n dst = true := by rfl) : Ir tn pn P f R B n K ops fin i l dst (.binOp .neq t x y t') ty σ Γ Ms := Cw (A8k hx hy) hd k_
theorem C6j {t t' : TypeId} {s s' : ByteArray} (k_ : Dp P f R B n K ops l (Ak σ dst (.bool (!(s.toList == s'.toList)))) Γ Ms) (hx : ev σ x = .string s := by exact Ac) (hy : ev σ y = .string s' := by exact Ac) (hd : Ae n dst = true := by rfl) : E8 P f R B n K ops l (Cd dst (.binOp .neq t x y t') ty) σ Γ Ms := Bb (B8i hx hy) hd k_
theorem C5x {t t' : TypeId} {s s' : ByteArray} (k_ : NV tn pn P f R B n K ops fin l (Ak σ dst (.bool (!(s.toList == s'.toList)))) Γ Ms) (hx : ev σ x = .string s := by exact Ac) (hy : ev σ y = .string s' := by exact Ac) (hd : Ae n dst = true := by rfl) : Ir tn pn P f R B n K ops fin i l dst (.binOp .neq t x y t') ty σ Γ Ms := Cw (B8i hx hy) hd k_
theorem Zg {t : TypeId} {c : Bool} (k_ : Dp P f R B n K ops l (Ak σ dst (.bool (!c))) Γ Ms) (hx : ev σ x = .bool c := by exact Ac) (hd : Ae n dst = true := by rfl) : E8 P f R B n K ops l (Cd dst (.unOp .not t x) ty) σ Γ Ms := Bb (B8h hx) hd k_
theorem Rc {t : TypeId} {c : Bool} (k_ : NV tn pn P f R B n K ops fin l (Ak σ dst (.bool (!c))) Γ Ms) (hx : ev σ x = .bool c := by exact Ac) (hd : Ae n dst = true := by rfl) : Ir tn pn P f R B n K ops fin i l dst (.unOp .not t x) ty σ Γ Ms := Cw (B8h hx) hd k_
theorem B4t {vs : Array Value} {j : Nat} (k_ : Dp P f R B n K ops l (Ak σ dst v) Γ Ms) (hx : ev σ x = .tuple vs := by exact Ac) (hj : vs[j]? = some v := by exact Ac) (hd : Ae n dst = true := by rfl) : E8 P f R B n K ops l (Cd dst (.extract x j) ty) σ Γ Ms := Bb (W5 hx hj) hd k_
theorem B3r {vs : Array Value} {j : Nat} (k_ : NV tn pn P f R B n K ops fin l (Ak σ dst v) Γ Ms) (hx : ev σ x = .tuple vs := by exact Ac) (hj : vs[j]? = some v := by exact Ac) (hd : Ae n dst = true := by rfl) : Ir tn pn P f R B n K ops fin i l dst (.extract x j) ty σ Γ Ms := Cw (W5 hx hj) hd k_
theorem A8v {fn : Fn} {cap : Array Operand} {vs : List Value} (k_ : Dp P f R B n K ops l (Ak σ dst (.func fn #[] vs.toArray)) Γ Ms) (h : cap.toList.map (ev σ) = vs := by first | exact D7g (by first | ((conv => lhs; whnf); done) | rfl) | exact D7f (by first | ((conv => lhs; whnf); done) | rfl) (by first | ((conv => lhs; whnf); done) | rfl) | exact D7e (by first | ((conv => lhs; whnf); done) | rfl) (by first | ((conv => lhs; whnf); done) | rfl) (by first | ((conv => lhs; whnf); done) | rfl) | exact D7d (by first | ((conv => lhs; whnf); done) | rfl) (by first | ((conv => lhs; whnf); done) | rfl) (by first | ((conv => lhs; whnf); done) | rfl) (by first | ((conv => lhs; whnf); done) | rfl) | rfl) (hd : Ae n dst = true := by rfl) : E8 P f R B n K ops l (Cd dst (.makeFunc fn #[] cap) ty) σ Γ Ms := Bb (A4a h) hd k_
theorem A4r {ts : Array TypeId} {t e : TypeId} {A : Option Addr} {m c : Nat} (k_ : Dp P f R B n K ops l (Ak σ dst (.int .i64 (m : Int))) Γ Ms) (hx : ev σ x = .slice A m c := by exact Ac) (ht : ts[0]? = some t := by rfl) (hu : Tab.und P t = some (.slice e) := by rfl) (hd : Ae n dst = true := by rfl) : E8 P f R B n K ops l (Cd dst (.call { callee := .builtin .len, args := #[x], argTypes := ts }) ty) σ Γ Ms := Bb (B1o ht hu hx) hd k_
theorem Vg {ts : Array TypeId} {t e : TypeId} {A : Option Addr} {m c : Nat} (k_ : NV tn pn P f R B n K ops fin l (Ak σ dst (.int .i64 (m : Int))) Γ Ms) (hx : ev σ x = .slice A m c := by exact Ac) (ht : ts[0]? = some t := by rfl) (hu : Tab.und P t = some (.slice e) := by rfl) (hd : Ae n dst = true := by rfl) : Ir tn pn P f R B n K ops fin i l dst (.call { callee := .builtin .len, args := #[x], argTypes := ts }) ty σ Γ Ms := Cw (B1o ht hu hx) hd k_
theorem Wh {ts : Array TypeId} {t : TypeId} {s : ByteArray} (k_ : Dp P f R B n K ops l (Ak σ dst (.int .i64 (s.size : Int))) Γ Ms) (hx : ev σ x = .string s := by exact Ac) (ht : ts[0]? = some t := by rfl) (hu : Tab.und P t = some .string := by rfl) (hd : Ae n dst = true := by rfl) : E8 P f R B n K ops l (Cd dst (.call { callee := .builtin .len, args := #[x], argTypes := ts }) ty) σ Γ Ms := Bb (B4g ht hu hx) hd k_
theorem A4q {ts : Array TypeId} {a b : Int} (k_ : Dp P f R B n K ops l (Ak σ dst (.int .i64 (if b < a then b else a))) Γ Ms) (hx : ev σ x = .int .i64 a := by exact Ac) (hy : ev σ y = .int .i64 b := by exact Ac) (hd : Ae n dst = true := by rfl) : E8 P f R B n K ops l (Cd dst (.call { callee := .builtin .min, args := #[x, y], argTypes := ts }) ty) σ Γ Ms := Bb (C8c hx hy) hd k_
theorem Pj {t : TypeId} {j bk off o : Nat} (k_ : Dp P f R B n K ops l (Ak σ dst (.pointer (some ⟨bk, off + o, none⟩))) Γ Ms) (hx : ev σ x = .pointer (some ⟨bk, off, none⟩) := by exact Ac) (hf : Tab.foff P t j = some o := by rfl) (hd : Ae n dst = true := by rfl) : E8 P f R B n K ops l (Cd dst (.fieldAddr t x j) ty) σ Γ Ms := Bb (Rr hf hx) hd k_
theorem Pf {t : TypeId} {j bk off o : Nat} (k_ : NV tn pn P f R B n K ops fin l (Ak σ dst (.pointer (some ⟨bk, off + o, none⟩))) Γ Ms) (hx : ev σ x = .pointer (some ⟨bk, off, none⟩) := by exact Ac) (hf : Tab.foff P t j = some o := by rfl) (hd : Ae n dst = true := by rfl) : Ir tn pn P f R B n K ops fin i l dst (.fieldAddr t x j) ty σ Γ Ms := Cw (Rr hf hx) hd k_
theorem B9 {t : TypeId} {s bt : Nat} {zv : Value} {parts : Array (Nat × Operand)} {pv : List (Nat × Value)} {l' : List (Nat × Nat)} {cs : List Value} (k_ : Dp P f R B n K ops l (Ak σ dst (.agg cs.toArray)) Γ Ms) (hl : Tab.lay P t = some l' := by rfl) (hi : Tab.inf P t = some (s, bt, zv) := by rfl) (hp : parts.toList.map (fun (i, x) => (i, ev σ x)) = pv := by first | exact pv0  | exact pv1 (by first | ((conv => lhs; whnf); done) | rfl) | exact pv2 (by first | ((conv => lhs; whnf); done) | rfl) (by first | ((conv => lhs; whnf); done) | rfl) | exact pv3 (by first | ((conv => lhs; whnf); done) | rfl) (by first | ((conv => lhs; whnf); done) | rfl) (by first | ((conv => lhs; whnf); done) | rfl) | exact pv4 (by first | ((conv => lhs; whnf); done) | rfl) (by first | ((conv => lhs; whnf); done) | rfl) (by first | ((conv => lhs; whnf); done) | rfl) (by first | ((conv => lhs; whnf); done) | rfl) | exact pv5 (by first | ((conv => lhs; whnf); done) | rfl) (by first | ((conv => lhs; whnf); done) | rfl) (by first | ((conv => lhs; whnf); done) | rfl) (by first | ((conv => lhs; whnf); done) | rfl) (by first | ((conv => lhs; whnf); done) | rfl) | exact pv6 (by first | ((conv => lhs; whnf); done) | rfl) (by first | ((conv => lhs; whnf); done) | rfl) (by first | ((conv => lhs; whnf); done) | rfl) (by first | ((conv => lhs; whnf); done) | rfl) (by first | ((conv => lhs; whnf); done) | rfl) (by first | ((conv => lhs; whnf); done) | rfl) | rfl) (hb : Instr.fill (l'.toArray[·]?) zv.cells pv = some cs.toArray := by rfl) (hd : Ae n dst = true := by rfl) : E8 P f R B n K ops l (Cd dst (.build t parts) ty) σ Γ Ms := Bb (A4d hl hi hp hb) hd k_
theorem A0r {t : TypeId} {s bt : Nat} {zv : Value} {parts : Array (Nat × Operand)} {pv : List (Nat × Value)} {l' : List (Nat × Nat)} {cs : List Value} (k_ : NV tn pn P f R B n K ops fin l (Ak σ dst (.agg cs.toArray)) Γ Ms) (hl : Tab.lay P t = some l' := by rfl) (hi : Tab.inf P t = some (s, bt, zv) := by rfl) (hp : parts.toList.map (fun (i, x) => (i, ev σ x)) = pv := by first | exact pv0  | exact pv1 (by first | ((conv => lhs; whnf); done) | rfl) | exact pv2 (by first | ((conv => lhs; whnf); done) | rfl) (by first | ((conv => lhs; whnf); done) | rfl) | exact pv3 (by first | ((conv => lhs; whnf); done) | rfl) (by first | ((conv => lhs; whnf); done) | rfl) (by first | ((conv => lhs; whnf); done) | rfl) | exact pv4 (by first | ((conv => lhs; whnf); done) | rfl) (by first | ((conv => lhs; whnf); done) | rfl) (by first | ((conv => lhs; whnf); done) | rfl) (by first | ((conv => lhs; whnf); done) | rfl) | exact pv5 (by first | ((conv => lhs; whnf); done) | rfl) (by first | ((conv => lhs; whnf); done) | rfl) (by first | ((conv => lhs; whnf); done) | rfl) (by first | ((conv => lhs; whnf); done) | rfl) (by first | ((conv => lhs; whnf); done) | rfl) | exact pv6 (by first | ((conv => lhs; whnf); done) | rfl) (by first | ((conv => lhs; whnf); done) | rfl) (by first | ((conv => lhs; whnf); done) | rfl) (by first | ((conv => lhs; whnf); done) | rfl) (by first | ((conv => lhs; whnf); done) | rfl) (by first | ((conv => lhs; whnf); done) | rfl) | rfl) (hb : Instr.fill (l'.toArray[·]?) zv.cells pv = some cs.toArray := by rfl) (hd : Ae n dst = true := by rfl) : Ir tn pn P f R B n K ops fin i l dst (.build t parts) ty σ Γ Ms := Cw (A4d hl hi hp hb) hd k_
theorem Du {t e : TypeId} {s bt bk o m c j : Nat} {zv : Value} {A : Option Addr} (k_ : Dp P f R B n K ops l (Ak σ dst (.pointer (some ⟨bk, o + j * s, none⟩))) Γ Ms) (hx : ev σ x = .slice A m c := by exact Ac) (hA : A = some ⟨bk, o, none⟩ := by first | assumption | rfl) (hy : ev σ y = .int .i64 (j : Int) := by exact Ac) (hu : Tab.und P t = some (.slice e) := by rfl) (hi : Tab.inf P e = some (s, bt, zv) := by rfl) (h1 : j < m := by omega) (hd : Ae n dst = true := by rfl) : E8 P f R B n K ops l (Cd dst (.indexAddr t x y) ty) σ Γ Ms := Bb (B8l hu hi hx hA hy h1) hd k_
theorem Kk {t e : TypeId} {s bt bk o m c j : Nat} {zv : Value} {A : Option Addr} (k_ : NV tn pn P f R B n K ops fin l (Ak σ dst (.pointer (some ⟨bk, o + j * s, none⟩))) Γ Ms) (hx : ev σ x = .slice A m c := by exact Ac) (hA : A = some ⟨bk, o, none⟩ := by first | assumption | rfl) (hy : ev σ y = .int .i64 (j : Int) := by exact Ac) (hu : Tab.und P t = some (.slice e) := by rfl) (hi : Tab.inf P e = some (s, bt, zv) := by rfl) (h1 : j < m := by omega) (hd : Ae n dst = true := by rfl) : Ir tn pn P f R B n K ops fin i l dst (.indexAddr t x y) ty σ Γ Ms := Cw (B8l hu hi hx hA hy h1) hd k_
theorem C4a {t t' e : TypeId} {A : Option Addr} {m c : Nat} (k_ : Dp P f R B n K ops l (Ak σ dst (.bool A.isNone)) Γ Ms) (hx : ev σ x = .slice A m c := by exact Ac) (hy : ev σ y = .slice none 0 0 := by rfl) (hu : Tab.und P t = some (.slice e) := by rfl) (hd : Ae n dst = true := by rfl) : E8 P f R B n K ops l (Cd dst (.binOp .eql t x y t') ty) σ Γ Ms := Bb (A3z hu hx hy) hd k_
theorem C8s {t t' : TypeId} {a b : Int} (k_ : Dp P f R B n K ops l (Ak σ dst (.int .i64 (IntKind.i64.wrap (a + b)))) Γ Ms) (hx : ev σ x = .int .i64 a := by exact Ac) (hy : ev σ y = .int .i64 b := by exact Ac) (hd : Ae n dst = true := by rfl) : E8 P f R B n K ops l (Cd dst (.binOp .add t x y t') ty) σ Γ Ms := Bb (C3n hx hy) hd k_
theorem C8m {t t' : TypeId} {a b : Int} (k_ : Dp P f R B n K ops l (Ak σ dst (.int .i64 (IntKind.i64.wrap (a - b)))) Γ Ms) (hx : ev σ x = .int .i64 a := by exact Ac) (hy : ev σ y = .int .i64 b := by exact Ac) (hd : Ae n dst = true := by rfl) : E8 P f R B n K ops l (Cd dst (.binOp .sub t x y t') ty) σ Γ Ms := Bb (C3j hx hy) hd k_
theorem Lt {t t' : TypeId} {a b : Nat} (k_ : Dp P f R B n K ops l (Ak σ dst (.int .u32 ((a &&& b : Nat) : Int))) Γ Ms) (hx : ev σ x = .int .u32 (a : Int) := by exact Ac) (hy : ev σ y = .int .u32 (b : Int) := by exact Ac) (ha : a < 4294967296 := by first | assumption | omega) (hb : b < 4294967296 := by first | assumption | omega) (hd : Ae n dst = true := by rfl) : E8 P f R B n K ops l (Cd dst (.binOp .and t x y t') ty) σ Γ Ms := Bb (B1p hx hy ha hb) hd k_
theorem Vh {t t' : TypeId} {a b : Nat} (k_ : NV tn pn P f R B n K ops fin l (Ak σ dst (.int .u32 ((a &&& b : Nat) : Int))) Γ Ms) (hx : ev σ x = .int .u32 (a : Int) := by exact Ac) (hy : ev σ y = .int .u32 (b : Int) := by exact Ac) (ha : a < 4294967296 := by first | assumption | omega) (hb : b < 4294967296 := by first | assumption | omega) (hd : Ae n dst = true := by rfl) : Ir tn pn P f R B n K ops fin i l dst (.binOp .and t x y t') ty σ Γ Ms := Cw (B1p hx hy ha hb) hd k_
theorem P3 {t t' : TypeId} {a b : Nat} (k_ : Dp P f R B n K ops l (Ak σ dst (.int .u32 ((a ||| b : Nat) : Int))) Γ Ms) (hx : ev σ x = .int .u32 (a : Int) := by exact Ac) (hy : ev σ y = .int .u32 (b : Int) := by exact Ac) (ha : a < 4294967296 := by first | assumption | omega) (hb : b < 4294967296 := by first | assumption | omega) (hd : Ae n dst = true := by rfl) : E8 P f R B n K ops l (Cd dst (.binOp .or t x y t') ty) σ Γ Ms := Bb (C8b hx hy ha hb) hd k_
theorem Ul {t t' : TypeId} {a b : Nat} (k_ : Dp P f R B n K ops l (Ak σ dst (.int .u32 (B1 a b : Int))) Γ Ms) (hx : ev σ x = .int .u32 (a : Int) := by exact Ac) (hy : ev σ y = .int .u32 (b : Int) := by exact Ac) (hd : Ae n dst = true := by rfl) : E8 P f R B n K ops l (Cd dst (.binOp .andNot t x y t') ty) σ Γ Ms := Bb (A8m hx hy) hd k_
theorem B9b {t t' : TypeId} {k2 : IntKind} {a m : Nat} (k_ : Dp P f R B n K ops l (Ak σ dst (.int .u32 ((a * 2 ^ (min m 32) % 4294967296 : Nat) : Int))) Γ Ms) (hx : ev σ x = .int .u32 (a : Int) := by exact Ac) (hy : ev σ y = .int k2 (m : Int) := by exact Ac) (hd : Ae n dst = true := by rfl) : E8 P f R B n K ops l (Cd dst (.binOp .shl t x y t') ty) σ Γ Ms := Bb (C3l hx hy) hd k_
theorem B9a {t t' : TypeId} {k2 : IntKind} {a m : Nat} (k_ : Dp P f R B n K ops l (Ak σ dst (.int .u32 ((a / 2 ^ (min m 32) : Nat) : Int))) Γ Ms) (hx : ev σ x = .int .u32 (a : Int) := by exact Ac) (hy : ev σ y = .int k2 (m : Int) := by exact Ac) (hd : Ae n dst = true := by rfl) : E8 P f R B n K ops l (Cd dst (.binOp .shr t x y t') ty) σ Γ Ms := Bb (B1m hx hy) hd k_
theorem Rb {t t' : TypeId} {k2 : IntKind} {a m : Nat} (k_ : NV tn pn P f R B n K ops fin l (Ak σ dst (.int .u32 ((a / 2 ^ (min m 32) : Nat) : Int))) Γ Ms) (hx : ev σ x = .int .u32 (a : Int) := by exact Ac) (hy : ev σ y = .int k2 (m : Int) := by exact Ac) (hd : Ae n dst = true := by rfl) : Ir tn pn P f R B n K ops fin i l dst (.binOp .shr t x y t') ty σ Γ Ms := Cw (B1m hx hy) hd k_
theorem D2p {t t' : TypeId} {c c' : Cl} (k_ : NV tn pn P f R B n K ops fin l (Ak σ dst (.bool (decide (c = c')))) Γ Ms) (hx : ev σ x = .agg (Al c).toArray := by exact Ac) (hy : ev σ y = .agg (Al c').toArray := by exact Ac) (ht : t = Tab.ceq P := by rfl) (hd : Ae n dst = true := by rfl) : Ir tn pn P f R B n K ops fin i l dst (.binOp .eql t x y t') ty σ Γ Ms := Cw (C8g ht hx hy) hd k_
theorem D3i {t t' : TypeId} {c c' : Cl} (k_ : Dp P f R B n K ops l (Ak σ dst (.bool (!decide (c = c')))) Γ Ms) (hx : ev σ x = .agg (Al c).toArray := by exact Ac) (hy : ev σ y = .agg (Al c').toArray := by exact Ac) (ht : t = Tab.ceq P := by rfl) (hd : Ae n dst = true := by rfl) : E8 P f R B n K ops l (Cd dst (.binOp .neq t x y t') ty) σ Γ Ms := Bb (B8j ht hx hy) hd k_
theorem C5y {t t' : TypeId} {c c' : Cl} (k_ : NV tn pn P f R B n K ops fin l (Ak σ dst (.bool (!decide (c = c')))) Γ Ms) (hx : ev σ x = .agg (Al c).toArray := by exact Ac) (hy : ev σ y = .agg (Al c').toArray := by exact Ac) (ht : t = Tab.ceq P := by rfl) (hd : Ae n dst = true := by rfl) : Ir tn pn P f R B n K ops fin i l dst (.binOp .neq t x y t') ty σ Γ Ms := Cw (B8j ht hx hy) hd k_
theorem C3z {t : TypeId} {s : ByteArray} {j : Int} {c : UInt8} (k_ : Dp P f R B n K ops l (Ak σ dst (.int .u8 c.toNat)) Γ Ms) (hx : ev σ x = .string s := by exact Ac) (hy : ev σ y = .int .i64 j := by exact Ac) (hu : Tab.und P t = some .string := by rfl) (h0 : 0 ≤ j := by omega) (hc : s[j.toNat]? = some c := by assumption) (hd : Ae n dst = true := by rfl) : E8 P f R B n K ops l (Cd dst (.index t x y) ty) σ Γ Ms := Bb (A4b hu hx hy h0 hc) hd k_
theorem C8r {s d : TypeId} {k k' : IntKind} {ds : TypeDesc} {a : Int} (k_ : Dp P f R B n K ops l (Ak σ dst (.int k' (k'.wrap a))) Γ Ms) (hx : ev σ x = .int k a := by exact Ac) (hs : Tab.und P s = some ds := by rfl) (hd' : Tab.und P d = some (.int k') := by rfl) (hd : Ae n dst = true := by rfl) : E8 P f R B n K ops l (Cd dst (.convert s d x) ty) σ Γ Ms := Bb (K0 hs hd' hx) hd k_
theorem C8q {t T' : TypeId} {bk k : Nat} {cs : List Value} {d : TypeDesc} (k_ : Dp P f R B n K ops l (Ak σ dst v) Γ Ms) (hx : ev σ x = .pointer (some ⟨bk, k, none⟩) := by exact Ac) (hF : Ag bk cs T' ∈ Ms := by repeat (first | exact List.mem_cons_self | apply List.mem_cons_of_mem)) (hu : Tab.und P t = some d := by rfl) (hd' : (match d with | .struct _ | .array _ _ => true | _ => false) = false := by rfl) (hk : cs[k]? = some v := by exact Ac) (hd : Ae n dst = true := by rfl) : E8 P f R B n K ops l (Cd dst (.load t x) ty) σ Γ Ms := Hl (C0d hx hF hu hd' hk) hd k_
theorem D2o {t T' : TypeId} {bk k : Nat} {cs : List Value} {d : TypeDesc} (k_ : NV false pn P f R B n K ops fin l (Ak σ dst v) Γ Ms) (hx : ev σ x = .pointer (some ⟨bk, k, none⟩) := by exact Ac) (hF : Ag bk cs T' ∈ Ms := by repeat (first | exact List.mem_cons_self | apply List.mem_cons_of_mem)) (hu : Tab.und P t = some d := by rfl) (hd' : (match d with | .struct _ | .array _ _ => true | _ => false) = false := by rfl) (hk : cs[k]? = some v := by exact Ac) (hd : Ae n dst = true := by rfl) : Ir false pn P f R B n K ops fin i l dst (.load t x) ty σ Γ Ms := Rx (C0d hx hF hu hd' hk) rfl hd k_
theorem Rv {t T' : TypeId} {bk k : Nat} {cs : List Value} {l' : List (Nat × Nat)} {s bt : Nat} {zv : Value} {cs' : List Value} (k_ : Dp P f R B n K ops l (Ak σ dst (.agg cs'.toArray)) Γ Ms) (hx : ev σ x = .pointer (some ⟨bk, k, none⟩) := by exact Ac) (hF : Ag bk cs T' ∈ Ms := by repeat (first | exact List.mem_cons_self | apply List.mem_cons_of_mem)) (hu : Tab.lay P t = some l' := by rfl) (hi : Tab.inf P t = some (s, bt, zv) := by rfl) (hk : (cs.drop k).take s = cs' := by rfl) (hl : cs'.length = s := by rfl) (hd : Ae n dst = true := by rfl) : E8 P f R B n K ops l (Cd dst (.load t x) ty) σ Γ Ms := Hl (C0e hx hF hu hi hk hl) hd k_
theorem A3i {t T' : TypeId} {bk k : Nat} {cs : List Value} {l' : List (Nat × Nat)} {s bt : Nat} {zv : Value} {cs' : List Value} (k_ : NV false pn P f R B n K ops fin l (Ak σ dst (.agg cs'.toArray)) Γ Ms) (hx : ev σ x = .pointer (some ⟨bk, k, none⟩) := by exact Ac) (hF : Ag bk cs T' ∈ Ms := by repeat (first | exact List.mem_cons_self | apply List.mem_cons_of_mem)) (hu : Tab.lay P t = some l' := by rfl) (hi : Tab.inf P t = some (s, bt, zv) := by rfl) (hk : (cs.drop k).take s = cs' := by rfl) (hl : cs'.length = s := by rfl) (hd : Ae n dst = true := by rfl) : Ir false pn P f R B n K ops fin i l dst (.load t x) ty σ Γ Ms := Rx (C0e hx hF hu hi hk hl) rfl hd k_
theorem D3n {t : TypeId} {l' : List (Nat × Nat)} {bt bk o i' : Nat} {a : SH} {zv : Value} {ls : List Cl} (k_ : Dp P f R B n K ops l (Ak σ dst (.agg (Al (ls.getD i' Bz)).toArray)) Γ Ms) (hx : ev σ x = .pointer (some ⟨bk, o + i' * 2, none⟩) := by exact Ac) (hFa : CL ls a ∈ Γ ∧ a.1 = some ⟨bk, o, none⟩ := by exact ma0_) (hu : Tab.lay P t = some l' := by rfl) (hi : Tab.inf P t = some (2, bt, zv) := by rfl) (hlt : i' < ls.length := by omega) (hd : Ae n dst = true := by rfl) : E8 P f R B n K ops l (Cd dst (.load t x) ty) σ Γ Ms := Hl (C6p hx hFa.1 hFa.2 hu hi hlt) hd k_
theorem B0x {t : TypeId} {l' : List (Nat × Nat)} {bt bk o i' : Nat} {a : SH} {zv : Value} {ls : List Cl} (k_ : NV false pn P f R B n K ops fin l (Ak σ dst (.agg (Al (ls.getD i' Bz)).toArray)) Γ Ms) (hx : ev σ x = .pointer (some ⟨bk, o + i' * 2, none⟩) := by exact Ac) (hFa : CL ls a ∈ Γ ∧ a.1 = some ⟨bk, o, none⟩ := by exact ma0_) (hu : Tab.lay P t = some l' := by rfl) (hi : Tab.inf P t = some (2, bt, zv) := by rfl) (hlt : i' < ls.length := by omega) (hd : Ae n dst = true := by rfl) : Ir false pn P f R B n K ops fin i l dst (.load t x) ty σ Γ Ms := Rx (C6p hx hFa.1 hFa.2 hu hi hlt) rfl hd k_
theorem D3l {t : TypeId} {l' : List (Nat × Nat)} {bt bk o i' : Nat} {a : SH} {zv : Value} {ts : List T} {VR VK VS : Nat → SH} (k_ : Dp P f R B n K ops l (Ak σ dst (.agg (tc (ts.getD i' t0) (VR i') (VK i') (VS i')).toArray)) Γ Ms) (hx : ev σ x = .pointer (some ⟨bk, o + i' * 6, none⟩) := by exact Ac) (hFa : TLx ts a VR VK VS ∈ Γ ∧ a.1 = some ⟨bk, o, none⟩ := by exact ma0_) (hu : Tab.lay P t = some l' := by rfl) (hi : Tab.inf P t = some (6, bt, zv) := by rfl) (hlt : i' < ts.length := by omega) (hd : Ae n dst = true := by rfl) : E8 P f R B n K ops l (Cd dst (.load t x) ty) σ Γ Ms := Hl (B2i hx hFa.1 hFa.2 hu hi hlt) hd k_
theorem C5z {t : TypeId} {l' : List (Nat × Nat)} {bt bk o i' : Nat} {a : SH} {zv : Value} {ts : List T} {VR VK VS : Nat → SH} (k_ : NV false pn P f R B n K ops fin l (Ak σ dst (.agg (tc (ts.getD i' t0) (VR i') (VK i') (VS i')).toArray)) Γ Ms) (hx : ev σ x = .pointer (some ⟨bk, o + i' * 6, none⟩) := by exact Ac) (hFa : TLx ts a VR VK VS ∈ Γ ∧ a.1 = some ⟨bk, o, none⟩ := by exact ma0_) (hu : Tab.lay P t = some l' := by rfl) (hi : Tab.inf P t = some (6, bt, zv) := by rfl) (hlt : i' < ts.length := by omega) (hd : Ae n dst = true := by rfl) : Ir false pn P f R B n K ops fin i l dst (.load t x) ty σ Γ Ms := Rx (B2i hx hFa.1 hFa.2 hu hi hlt) rfl hd k_
theorem A4s {t : TypeId} {l' : List (Nat × Nat)} {bt bk o i' : Nat} {a : SH} {zv : Value} {bs : List Br} {VF VK : Nat → SH} (k_ : Dp P f R B n K ops l (Ak σ dst (.agg (bc (bs.getD i' C4) (VF i') (VK i')).toArray)) Γ Ms) (hx : ev σ x = .pointer (some ⟨bk, o + i' * 2, none⟩) := by exact Ac) (hFa : BLx bs a VF VK ∈ Γ ∧ a.1 = some ⟨bk, o, none⟩ := by exact ma0_) (hu : Tab.lay P t = some l' := by rfl) (hi : Tab.inf P t = some (2, bt, zv) := by rfl) (hlt : i' < bs.length := by omega) (hd : Ae n dst = true := by rfl) : E8 P f R B n K ops l (Cd dst (.load t x) ty) σ Γ Ms := Hl (D3x hx hFa.1 hFa.2 hu hi hlt) hd k_
theorem A1t {t : TypeId} {d : TypeDesc} {bk o i' k : Nat} {a : SH} {bs : List Br} {VF VK : Nat → SH} (k_ : Dp P f R B n K ops l (Ak σ dst v) Γ Ms) (hx : ev σ x = .pointer (some ⟨bk, o + i' * 2 + k, none⟩) := by exact Ac) (hFa : BLx bs a VF VK ∈ Γ ∧ a.1 = some ⟨bk, o, none⟩ := by exact ma0_) (hu : Tab.und P t = some d := by rfl) (hd' : (match d with | .struct _ | .array _ _ => true | _ => false) = false := by rfl) (hk : (bc (bs.getD i' C4) (VF i') (VK i'))[k]? = some v := by exact Ac) (hlt : i' < bs.length := by omega) (hd : Ae n dst = true := by rfl) : E8 P f R B n K ops l (Cd dst (.load t x) ty) σ Γ Ms := Hl (C0c hx hFa.1 hFa.2 hu hd' hk hlt) hd k_
theorem A0q {t : TypeId} {d : TypeDesc} {bk o i' k : Nat} {a : SH} {bs : List Br} {VF VK : Nat → SH} (k_ : NV false pn P f R B n K ops fin l (Ak σ dst v) Γ Ms) (hx : ev σ x = .pointer (some ⟨bk, o + i' * 2 + k, none⟩) := by exact Ac) (hFa : BLx bs a VF VK ∈ Γ ∧ a.1 = some ⟨bk, o, none⟩ := by exact ma0_) (hu : Tab.und P t = some d := by rfl) (hd' : (match d with | .struct _ | .array _ _ => true | _ => false) = false := by rfl) (hk : (bc (bs.getD i' C4) (VF i') (VK i'))[k]? = some v := by exact Ac) (hlt : i' < bs.length := by omega) (hd : Ae n dst = true := by rfl) : Ir false pn P f R B n K ops fin i l dst (.load t x) ty σ Γ Ms := Rx (C0c hx hFa.1 hFa.2 hu hd' hk hlt) rfl hd k_
theorem B2 {t : TypeId} {cs : List Value} (k_ : ∀ b, Dp P f R B n K ops l (Ak σ dst ((fun b => .pointer (some ⟨b, 0, none⟩)) b)) Γ (Ag b cs t :: Ms)) (hx : (ev σ x).cells = cs.toArray := by rfl) (hd : Ae n dst = true := by rfl) : E8 P f R B n K ops l (Cd dst (.box t x) ty) σ Γ Ms := Lh (D2b hx) hd k_
theorem B8 {t : TypeId} {s bt : Nat} {zv : Value} {cs : List Value} (k_ : ∀ b, Dp P f R B n K ops l (Ak σ dst ((fun b => .pointer (some ⟨b, 0, none⟩)) b)) Γ (Ag b cs t :: Ms)) (hi : Tab.inf P t = some (s, bt, zv) := by rfl) (hz : zv.cells = cs.toArray := by rfl) (hd : Ae n dst = true := by rfl) : E8 P f R B n K ops l (Cd dst (.alloc t) ty) σ Γ Ms := Lh (A6w hi hz) hd k_
theorem B6p {t : TypeId} {s bt : Nat} {zv : Value} {cs : List Value} (k_ : ∀ b, NV tn pn P f R B n K ops fin l (Ak σ dst ((fun b => .pointer (some ⟨b, 0, none⟩)) b)) Γ (Ag b cs t :: Ms)) (hi : Tab.inf P t = some (s, bt, zv) := by rfl) (hz : zv.cells = cs.toArray := by rfl) (hd : Ae n dst = true := by rfl) : Ir tn pn P f R B n K ops fin i l dst (.alloc t) ty σ Γ Ms := A4w (A6w hi hz) rfl hd k_
theorem D3j {t e : TypeId} {sz bt len : Nat} {zv : Value} {parts : Array (Nat × Operand)} {pv : List (Nat × Value)} {cs : List Value} (k_ : ∀ b, Dp P f R B n K ops l (Ak σ dst ((fun b => .slice (some ⟨b, 0, none⟩) len len) b)) Γ (Ag b cs e :: Ms)) (hu : Tab.und P t = some (.slice e) := by rfl) (hi : Tab.inf P e = some (sz, bt, zv) := by rfl) (hle : len * sz ≤ 16777216 := by decide) (hp : parts.toList.map (fun (i, x) => (i, ev σ x)) = pv := by first | exact pv0  | exact pv1 (by first | ((conv => lhs; whnf); done) | rfl) | exact pv2 (by first | ((conv => lhs; whnf); done) | rfl) (by first | ((conv => lhs; whnf); done) | rfl) | exact pv3 (by first | ((conv => lhs; whnf); done) | rfl) (by first | ((conv => lhs; whnf); done) | rfl) (by first | ((conv => lhs; whnf); done) | rfl) | exact pv4 (by first | ((conv => lhs; whnf); done) | rfl) (by first | ((conv => lhs; whnf); done) | rfl) (by first | ((conv => lhs; whnf); done) | rfl) (by first | ((conv => lhs; whnf); done) | rfl) | exact pv5 (by first | ((conv => lhs; whnf); done) | rfl) (by first | ((conv => lhs; whnf); done) | rfl) (by first | ((conv => lhs; whnf); done) | rfl) (by first | ((conv => lhs; whnf); done) | rfl) (by first | ((conv => lhs; whnf); done) | rfl) | exact pv6 (by first | ((conv => lhs; whnf); done) | rfl) (by first | ((conv => lhs; whnf); done) | rfl) (by first | ((conv => lhs; whnf); done) | rfl) (by first | ((conv => lhs; whnf); done) | rfl) (by first | ((conv => lhs; whnf); done) | rfl) (by first | ((conv => lhs; whnf); done) | rfl) | rfl) (hf : Instr.fill (fun i => some (i * sz, sz)) ((List.range (len * sz)).map (zv.cells[· % zv.cells.size]!)).toArray pv = some cs.toArray := by rfl) (hd : Ae n dst = true := by rfl) : E8 P f R B n K ops l (Cd dst (.buildSlice t len parts) ty) σ Γ Ms := Lh (A2y hu hi hle hp hf) hd k_
theorem Dr {t e : TypeId} {sz bt : Nat} {zv : Value} {cs : List Value} (k_ : ∀ b, Dp P f R B n K ops l (Ak σ dst ((fun b => .slice (some ⟨b, 0, none⟩) 1 1) b)) Γ (Ag b cs e :: Ms)) (hu : Tab.und P t = some (.slice e) := by rfl) (hi : Tab.inf P e = some (sz, bt, zv) := by rfl) (hle : sz ≤ 16777216 := by decide) (hx : (ev σ x).cells = cs.toArray := by rfl) (hl : cs.length = sz := by rfl) (hd : Ae n dst = true := by rfl) : E8 P f R B n K ops l (Cd dst (.buildSlice t 1 #[(0, x)]) ty) σ Γ Ms := Lh (A2x hu hi hle hx hl) hd k_
theorem A7n {t e : TypeId} {sz bt : Nat} {zv : Value} {cs : List Value} (k_ : ∀ b, NV tn pn P f R B n K ops fin l (Ak σ dst ((fun b => .slice (some ⟨b, 0, none⟩) 1 1) b)) Γ (Ag b cs e :: Ms)) (hu : Tab.und P t = some (.slice e) := by rfl) (hi : Tab.inf P e = some (sz, bt, zv) := by rfl) (hle : sz ≤ 16777216 := by decide) (hx : (ev σ x).cells = cs.toArray := by rfl) (hl : cs.length = sz := by rfl) (hd : Ae n dst = true := by rfl) : Ir tn pn P f R B n K ops fin i l dst (.buildSlice t 1 #[(0, x)]) ty σ Γ Ms := A4w (A2x hu hi hle hx hl) rfl hd k_
theorem C7j {t e : TypeId} {sz bt : Nat} {zv : Value} {cs : List Value} (F : Nat → List Fact) (hF : ∀ b M w, St B Γ (Ag b cs e :: M) w → St B (F b ++ Γ) M w) (k_ : ∀ b, NV tn pn P f R B n K ops fin l (Ak σ dst ((fun b => .slice (some ⟨b, 0, none⟩) 1 1) b)) (F b ++ Γ) Ms) (hu : Tab.und P t = some (.slice e) := by rfl) (hi : Tab.inf P e = some (sz, bt, zv) := by rfl) (hle : sz ≤ 16777216 := by decide) (hx : (ev σ x).cells = cs.toArray := by rfl) (hl : cs.length = sz := by rfl) (hd : Ae n dst = true := by rfl) (hz : Nat.beq pn 1000001 = true := by rfl) : Ir tn pn P f R B n K ops fin i l dst (.buildSlice t 1 #[(0, x)]) ty σ Γ Ms := Zi F (A2x hu hi hle hx hl) rfl rfl hF hd hz k_
theorem O5 {t e : TypeId} {sz bt : Nat} {zv : Value} {cs cs2 : List Value} (k_ : ∀ b, Dp P f R B n K ops l (Ak σ dst ((fun b => .slice (some ⟨b, 0, none⟩) 2 2) b)) Γ (Ag b (cs ++ cs2) e :: Ms)) (hu : Tab.und P t = some (.slice e) := by rfl) (hi : Tab.inf P e = some (sz, bt, zv) := by rfl) (hle : 2 * sz ≤ 16777216 := by decide) (hx : (ev σ x).cells = cs.toArray := by rfl) (hy : (ev σ y).cells = cs2.toArray := by rfl) (hl : cs.length = sz := by rfl) (hl2 : cs2.length = sz := by rfl) (hd : Ae n dst = true := by rfl) : E8 P f R B n K ops l (Cd dst (.buildSlice t 2 #[(0, x), (1, y)]) ty) σ Γ Ms := Lh (B3c hu hi hle hx hy hl hl2) hd k_
theorem B6l {t e : TypeId} {sz bt : Nat} {zv : Value} {cs cs2 : List Value} (F : Nat → List Fact) (hF : ∀ b M w, St B Γ (Ag b (cs ++ cs2) e :: M) w → St B (F b ++ Γ) M w) (k_ : ∀ b, NV tn pn P f R B n K ops fin l (Ak σ dst ((fun b => .slice (some ⟨b, 0, none⟩) 2 2) b)) (F b ++ Γ) Ms) (hu : Tab.und P t = some (.slice e) := by rfl) (hi : Tab.inf P e = some (sz, bt, zv) := by rfl) (hle : 2 * sz ≤ 16777216 := by decide) (hx : (ev σ x).cells = cs.toArray := by rfl) (hy : (ev σ y).cells = cs2.toArray := by rfl) (hl : cs.length = sz := by rfl) (hl2 : cs2.length = sz := by rfl) (hd : Ae n dst = true := by rfl) (hz : Nat.beq pn 1000001 = true := by rfl) : Ir tn pn P f R B n K ops fin i l dst (.buildSlice t 2 #[(0, x), (1, y)]) ty σ Γ Ms := Zi F (B3c hu hi hle hx hy hl hl2) rfl rfl hF hd hz k_
theorem A8u {t e : TypeId} {sz bt : Nat} {zv : Value} (k_ : ∀ b, Dp P f R B n K ops l (Ak σ dst ((fun b => .slice (some ⟨b, 0, none⟩) 0 0) b)) Γ (Ag b [] e :: Ms)) (hu : Tab.und P t = some (.slice e) := by rfl) (hi : Tab.inf P e = some (sz, bt, zv) := by rfl) (hd : Ae n dst = true := by rfl) : E8 P f R B n K ops l (Cd dst (.buildSlice t 0 #[]) ty) σ Γ Ms := Lh (C5v hu hi) hd k_
theorem D6p {t T' : TypeId} {b s bt : Nat} {zv : Value} {cs cs' : List Value} (k_ : Dp P f R B n K ops l σ Γ (Ag b cs' T' :: Ms2)) (hx : ev σ x = .pointer (some ⟨b, 0, none⟩) := by exact Ac) (hm : Ms.Perm (Ag b cs T' :: Ms2) := by first | exact Za | exact Ay | exact Bn | exact F8 | exact Ft | exact Iz | exact Ln) (hy : (ev σ y).cells = cs'.toArray := by rfl) (hi : Tab.inf P t = some (s, bt, zv) := by rfl) (hl : cs'.length = s := by rfl) (hl2 : cs.length = s := by rfl) (h1 : Ij cs' = true := by rfl) : E8 P f R B n K ops l (Cd none (.store t x y) ty) σ Γ Ms := Vo (B7j hx hy hm hi hl hl2 h1) k_
theorem D3h {t T' : TypeId} {b k bt : Nat} {zv : Value} {cs cs' : List Value} (k_ : Dp P f R B n K ops l σ Γ (Ag b cs' T' :: Ms2)) (hx : ev σ x = .pointer (some ⟨b, k, none⟩) := by exact Ac) (hm : Ms.Perm (Ag b cs T' :: Ms2) := by first | exact Za | exact Ay | exact Bn | exact F8 | exact Ft | exact Iz | exact Ln) (hy : ev σ y = v := by exact Ac) (hi : Tab.inf P t = some (1, bt, zv) := by rfl) (h1 : v.oneCell' = true := by rfl) (hk : k < cs.length := by exact Nat.le_of_ble_eq_true rfl) (hc : cs.set k v = cs' := by rfl) : E8 P f R B n K ops l (Cd none (.store t x y) ty) σ Γ Ms := by
 subst hc
 exact Vo (C3c hx hy hm hi h1 hk) k_
theorem Et {t e T' : TypeId} {ts : Array TypeId} {sz bt n' m c b : Nat} {zv : Value} {a : SH} {xs cs : List Value} (k_ : ∀ a' : SH, Dp P f R B n K ops l (Ak σ dst (sl a' (n' + m))) Γ (Am sz e a' (n' + m) (xs ++ cs) :: Ag b cs T' :: Ms2)) (hm : Ms.Perm (Am sz e a n' xs :: Ag b cs T' :: Ms2) := by first | exact Za | exact Ay | exact Bn | exact F8 | exact Ft | exact Iz | exact Ln) (hx : ev σ x = sl a n' := by rfl) (hy : ev σ y = .slice (some ⟨b, 0, none⟩) m c := by exact Ac) (hts : ts = #[t, t] := by rfl) (hu : Tab.und P t = some (.slice e) := by rfl) (hi : Tab.inf P e = some (sz, bt, zv) := by rfl) (hzs : zv.cells.size = sz := by rfl) (hsz : 0 < sz := by exact Nat.le_of_ble_eq_true rfl) (hl : cs.length = m * sz := by rfl) (h1 : Ij cs = true := by rfl) (hb : (n' + m) * bt ≤ 140737488355328 := by first | omega | (unfold reach at *; omega) | (unfold reach Gs at *; omega)) (hnm : n' + m ≤ 9223372036854775807 := by first | omega | (unfold reach at *; omega) | (unfold reach Gs at *; omega)) (hd : Ae n dst = true := by rfl) : E8 P f R B n K ops l (Cd dst (.call { callee := .builtin .append, args := #[x, y], argTypes := ts }) ty) σ Γ Ms := A0v (C2v hm hx hy hts hu hi hzs hsz hl h1 hb hnm) hd k_
theorem Mp {t e : TypeId} {ts : Array TypeId} {bt n' : Nat} {zv : Value} {a b : SH} {xs : List Value} {ls : List Cl} (k_ : ∀ a' : SH, Dp P f R B n K ops l (Ak σ dst (sl a' (n' + ls.length))) Γ (Am 2 e a' (n' + ls.length) (xs ++ A9 ls) :: Ms2)) (hF : CL ls b ∈ Γ) (hm : Ms.Perm (Am 2 e a n' xs :: Ms2) := by first | exact Za | exact Ay | exact Bn | exact F8 | exact Ft | exact Iz | exact Ln) (hx : ev σ x = sl a n' := by rfl) (hy : ev σ y = sl b ls.length := by rfl) (hts : ts = #[t, t] := by rfl) (hu : Tab.und P t = some (.slice e) := by rfl) (hi : Tab.inf P e = some (2, bt, zv) := by rfl) (hzs : zv.cells.size = 2 := by rfl) (hb : (n' + ls.length) * bt ≤ 140737488355328 := by first | omega | (unfold reach at *; omega) | (unfold reach Gs at *; omega)) (hnm : n' + ls.length ≤ 9223372036854775807 := by first | omega | (unfold reach at *; omega) | (unfold reach Gs at *; omega)) (hd : Ae n dst = true := by rfl) : E8 P f R B n K ops l (Cd dst (.call { callee := .builtin .append, args := #[x, y], argTypes := ts }) ty) σ Γ Ms := A0v (B6y hm hF hx hy hts hu hi hzs hb hnm) hd k_
theorem B4r [TyF P] [TabM P] {t : TypeId} (k_ : ∀ b, Dp P f R B n K ops l (Ak σ dst (.map (some b))) Γ (Wo b [] :: Ms)) (hd : Ae n dst = true := by rfl) : E8 P f R B n K ops l (Cd dst (.makeMap t none) ty) σ Γ Ms := A0v A7r hd k_
theorem B4s [TyF P] [TabM P] {t e : TypeId} {s bt b : Nat} {c : Cl} {keys : List Cl} (k_ : Dp P f R B n K ops l (Ak σ dst (.bool (decide (c ∈ keys)))) Γ Ms) (hx : ev σ x = .map (some b) := by exact Ac) (hm : Wo b keys ∈ Ms := by repeat (first | exact List.mem_cons_self | apply List.mem_cons_of_mem)) (hy : ev σ y = G5 c := by rfl) (hc : u32 c := by assumption) (hu : Tab.und P t = some (.map (TyF.tC P) e) := by rfl) (hi : Tab.inf P e = some (s, bt, .bool false) := by rfl) (hd : Ae n dst = true := by rfl) : E8 P f R B n K ops l (Cd dst (.lookup t x y false) ty) σ Γ Ms := Hl (B5d hx hm hc hy hu hi) hd k_
theorem B9d [TyF P] [TabM P] {t e : TypeId} {b : Nat} {c : Cl} {keys : List Cl} (k_ : Dp P f R B n K ops l σ Γ (Wo b (keys ++ [c]) :: Ms2)) (hx : ev σ x = .map (some b) := by exact Ac) (hm : Ms.Perm (Wo b keys :: Ms2) := by first | exact Za | exact Ay | exact Bn | exact F8 | exact Ft | exact Iz | exact Ln) (hy : ev σ y = G5 c := by rfl) (hc : u32 c := by assumption) (hn : c ∉ keys := by assumption) (hz : ev σ z = .bool true := by rfl) (hu : Tab.und P t = some (.map (TyF.tC P) e) := by rfl) : E8 P f R B n K ops l (Cd none (.mapUpdate t x y z) ty) σ Γ Ms := Vo (A1c hx hm hc hn hy hz hu) k_
theorem A2l {c : FuncId} {args : Array Value} {as : Array Operand} {ts : Array TypeId} {g : Operand} (hg : ev σ g = .func (.func c) #[] #[]) (ha : as.toList.map (ev σ) = args.toList) (hc : ∀ (args : Array Value) (w : World), (callFunc c args).run P w = .ok (.enter c args) w) : Ot P σ (.call { callee := .value g, args := as, argTypes := ts }) ty c args := fun w => by
 have ha : as.map (ev σ) = args := Array.ext' (by simpa using ha)
 subst ha
 simp [Cd, execOp, resolve, hg, Deferred.ofValue, invoke, hc]
theorem A9x {c : FuncId} {args cap : List Value} {as : Array Operand} {ts : Array TypeId} {g : Operand} (hg : ev σ g = .func (.func c) #[] cap.toArray) (ha : as.toList.map (ev σ) = args) (hc : ∀ (args : Array Value) (w : World), (callFunc c args).run P w = .ok (.enter c args) w) : Ot P σ (.call { callee := .value g, args := as, argTypes := ts }) ty c (args ++ cap).toArray := fun w => by
 have ha : as.map (ev σ) = args.toArray := Array.ext' (by simpa using ha)
 simp [ha, Cd, execOp, resolve, hg, Deferred.ofValue, invoke, hc]
theorem A1 {c : FuncId} {args : Array Value} {as : Array Operand} {ts : Array TypeId} {g : Operand} {pre : List Fact} {Ms0 : List B3} {X : Type} {val : X → Value} {N : X → List Fact} {Ms1 : X → List B3}
  (hc : ∀ (args : Array Value) (w : World), (callFunc c args).run P w = .ok (.enter c args) w) (hsp : Spec P c args pre Ms0 val N Ms1) (kk : ∀ x, Dp P f R B n K ops l (Ak σ dst (val x)) (N x ++ Γ) (Ms1 x ++ Ms2))
  (hg : ev σ g = .func (.func c) #[] #[] := by rfl) (ha : as.toList.map (ev σ) = args.toList := by rfl) (hpre : ∀ F, F ∈ pre → F ∈ Γ := by first | (simp; done) | (simp +contextual; done)) (hm : Ms.Perm (Ms0 ++ Ms2) := by first | exact List.Perm.refl _ | exact B8g | exact B8f | exact B8e | exact B8d | exact Ay | exact Bn | exact F8 | exact Ft | exact B8c) (hd : Ae n dst = true := by rfl) : E8 P f R B n K ops l (Cd dst (.call { callee := .value g, args := as, argTypes := ts }) ty) σ Γ Ms :=
 B1c (A2l hg ha hc) hsp hpre hm hd kk
theorem Cc {c : FuncId} {args cap al : List Value} {as : Array Operand} {ts : Array TypeId} {g : Operand} {pre : List Fact} {Ms0 : List B3} {X : Type} {val : X → Value} {N : X → List Fact} {Ms1 : X → List B3}
  (hc : ∀ (args : Array Value) (w : World), (callFunc c args).run P w = .ok (.enter c args) w) (hsp : Spec P c al.toArray pre Ms0 val N Ms1) (kk : ∀ x, Dp P f R B n K ops l (Ak σ dst (val x)) (N x ++ Γ) (Ms1 x ++ Ms2))
  (hg : ev σ g = .func (.func c) #[] cap.toArray := by rfl) (ha : as.toList.map (ev σ) = args := by rfl) (hal : args ++ cap = al := by rfl) (hpre : ∀ F, F ∈ pre → F ∈ Γ := by first | (simp; done) | (simp +contextual; done)) (hm : Ms.Perm (Ms0 ++ Ms2) := by first | exact List.Perm.refl _ | exact B8g | exact B8f | exact B8e | exact B8d | exact Ay | exact Bn | exact F8 | exact Ft | exact B8c) (hd : Ae n dst = true := by rfl) : E8 P f R B n K ops l (Cd dst (.call { callee := .value g, args := as, argTypes := ts }) ty) σ Γ Ms :=
 B1c (A9x hg ha hc) (hal ▸ hsp) hpre hm hd kk
theorem Bj {c : FuncId} {args : Array Value} {as : Array Operand} {ts : Array TypeId} {g : Operand} {pre : List Fact} {X : Type} {val : X → Value} {N : X → List Fact} {Ms1 : X → List B3}
  (hc : ∀ (args : Array Value) (w : World), (callFunc c args).run P w = .ok (.enter c args) w) (hsp : Spec P c args pre [] val N Ms1) (kk : ∀ x, NV tn pn P f R B n K ops fin l (Ak σ dst (val x)) (N x ++ Γ) (Ms1 x ++ Ms))
  (hg : ev σ g = .func (.func c) #[] #[] := by rfl) (ha : as.toList.map (ev σ) = args.toList := by rfl) (hpre : ∀ F, F ∈ pre → F ∈ Γ := by first | (simp; done) | (simp +contextual; done)) (hd : Ae n dst = true := by rfl) : Ir tn pn P f R B n K ops fin i l dst (.call { callee := .value g, args := as, argTypes := ts }) ty σ Γ Ms :=
 B1z (A2l hg ha hc) hsp hpre rfl rfl hd kk
theorem B9c {c : FuncId} {args : Array Value} {as : Array Operand} {ts : Array TypeId} {g : Operand} {pre : List Fact} {chain : List PanicEntry}
  (hc : ∀ (args : Array Value) (w : World), (callFunc c args).run P w = .ok (.enter c args) w) (hsp : Oq P c args pre chain) (hR : ∀ w, St B [] [] w → R (.panicked chain) w)
  (hg : ev σ g = .func (.func c) #[] #[] := by rfl) (ha : as.toList.map (ev σ) = args.toList := by rfl) (hpre : ∀ F, F ∈ pre → F ∈ Γ := by first | (simp; done) | (simp +contextual; done)) (hD : n.defs = [] := by rfl) (hK : okK n.kind := by first | exact .inl rfl | exact .inr rfl) : E8 P f R B n K ops l (Cd dst (.call { callee := .value g, args := as, argTypes := ts }) ty) σ Γ Ms :=
 C7q (A2l hg ha hc) hsp hpre hD hK hR
theorem B9h {c : FuncId} {args : Array Value} {as : Array Operand} {ts : Array TypeId} {g : Operand} {pre : List Fact} {chain : List PanicEntry} (ho : ops[i]? = some ⟨dst, .call { callee := .value g, args := as, argTypes := ts }, ty, pos, after, none⟩)
  (hc : ∀ (args : Array Value) (w : World), (callFunc c args).run P w = .ok (.enter c args) w) (hsp : Oq P c args pre chain) (hR : ∀ w, St B [] [] w → R (.panicked chain) w)
  (hg : ev σ g = .func (.func c) #[] #[] := by rfl) (ha : as.toList.map (ev σ) = args.toList := by rfl) (hpre : ∀ F, F ∈ pre → F ∈ Γ := by first | (simp; done) | (simp +contextual; done)) (hq : Nat.beq pn i = true := by rfl) (hD : n.defs = [] := by rfl) (hK : okK n.kind := by first | exact .inl rfl | exact .inr rfl) : NV tn pn P f R B n K ops fin (i :: l) σ Γ Ms :=
 C8t ho hq rfl rfl rfl (A2l hg ha hc) hsp hpre hD hK hR
theorem q0 (ho : ops[i]? = some ⟨dst, op, ty, pos, after, none⟩) (h : E8 P f R B n K ops l (Cd dst op ty) σ Γ Ms) : Dp P f R B n K ops (i :: l) σ Γ Ms := D3c ho h
theorem qT {g d : Nat} {want : Bool} {og : Oper} (ho : ops[i]? = some ⟨dst, op, ty, pos, after, some (g, want)⟩) (hog : ops[g]? = some og) (hgd : og.dst = some d) (h : E8 P f R B n K ops l (Cd dst op ty) σ Γ Ms) (ht : σ d = .bool want := by rfl) : Dp P f R B n K ops (i :: l) σ Γ Ms := C7v ho hog hgd ht h
theorem qF {g d : Nat} {want t : Bool} {og : Oper} (ho : ops[i]? = some ⟨dst, op, ty, pos, after, some (g, want)⟩) (hog : ops[g]? = some og) (hgd : og.dst = some d) (h : Dp P f R B n K ops l (Ak σ dst undef) Γ Ms) (ht : σ d = .bool t := by conv => lhs; whnf) (hne : (t == want) = false := by rfl) (hd : Ae n dst = true := by rfl) : Dp P f R B n K ops (i :: l) σ Γ Ms := C7w ho hog hgd ht hne hd h
theorem qU {g d : Nat} {want : Bool} {og : Oper} (ho : ops[i]? = some ⟨dst, op, ty, pos, after, some (g, want)⟩) (hog : ops[g]? = some og) (hgd : og.dst = some d) (h : Dp P f R B n K ops l (Ak σ dst undef) Γ Ms) (ht : σ d = undef := by rfl) (hd : Ae n dst = true := by rfl) : Dp P f R B n K ops (i :: l) σ Γ Ms := C7u ho hog hgd ht hd h
theorem nU {g d : Nat} {want : Bool} {og : Oper} (ho : ops[i]? = some ⟨dst, op, ty, pos, after, some (g, want)⟩) (hog : ops[g]? = some og) (hgd : og.dst = some d) (h : NV tn pn P f R B n K ops fin l (Ak σ dst undef) Γ Ms) (ht : σ d = undef := by rfl) (hd : Ae n dst = true := by rfl) (hn : Nat.beq pn i = false := by rfl) : NV tn pn P f R B n K ops fin (i :: l) σ Γ Ms := C8u ho hog hgd ht hd h hn
theorem qI {g d : Nat} {want t : Bool} {og : Oper} (ho : ops[i]? = some ⟨dst, op, ty, pos, after, some (g, want)⟩) (hog : ops[g]? = some og) (hgd : og.dst = some d) (ht : σ d = .bool t) (hon : t = want → E8 P f R B n K ops l (Cd dst op ty) (Pg σ d (.bool want)) Γ Ms) (hoff : t = !want → Dp P f R B n K ops l (Ak (Pg σ d (.bool !want)) dst undef) Γ Ms) (hd : Ae n dst = true := by rfl) : Dp P f R B n K ops (i :: l) σ Γ Ms := D3b ho hog hgd ht hd hon hoff
theorem n0 (ho : ops[i]? = some ⟨dst, op, ty, pos, after, none⟩) (h : Ir tn pn P f R B n K ops fin i l dst op ty σ Γ Ms) (hn : Nat.beq pn i = false := by rfl) : NV tn pn P f R B n K ops fin (i :: l) σ Γ Ms := D3q ho h hn
theorem nT {g d : Nat} {want : Bool} {og : Oper} (ho : ops[i]? = some ⟨dst, op, ty, pos, after, some (g, want)⟩) (hog : ops[g]? = some og) (hgd : og.dst = some d) (h : Ir tn pn P f R B n K ops fin i l dst op ty σ Γ Ms) (ht : σ d = .bool want := by rfl) (hn : Nat.beq pn i = false := by rfl) : NV tn pn P f R B n K ops fin (i :: l) σ Γ Ms := C8v ho hog hgd ht h hn
theorem nF {g d : Nat} {want t : Bool} {og : Oper} (ho : ops[i]? = some ⟨dst, op, ty, pos, after, some (g, want)⟩) (hog : ops[g]? = some og) (hgd : og.dst = some d) (h : NV tn pn P f R B n K ops fin l (Ak σ dst undef) Γ Ms) (ht : σ d = .bool t := by conv => lhs; whnf) (hne : (t == want) = false := by rfl) (hd : Ae n dst = true := by rfl) (hn : Nat.beq pn i = false := by rfl) : NV tn pn P f R B n K ops fin (i :: l) σ Γ Ms := C8w ho hog hgd ht hne hd h hn
theorem nI {g d : Nat} {want t : Bool} {og : Oper} (ho : ops[i]? = some ⟨dst, op, ty, pos, after, some (g, want)⟩) (hog : ops[g]? = some og) (hgd : og.dst = some d) (ht : σ d = .bool t) (hon : t = want → Ir tn pn P f R B n K ops fin i l dst op ty (Pg σ d (.bool want)) Γ Ms) (hoff : t = !want → NV tn pn P f R B n K ops fin l (Ak (Pg σ d (.bool !want)) dst undef) Γ Ms) (hd : Ae n dst = true := by rfl) (hn : Nat.beq pn i = false := by rfl) : NV tn pn P f R B n K ops fin (i :: l) σ Γ Ms := D3p ho hog hgd ht hd hon hoff hn
end
end Go.Hy
namespace Go.Hy
theorem Ko {a b c d e f g m : B3} {L : List B3} : (a :: b :: c :: d :: e :: f :: g :: m :: L).Perm (m :: a :: b :: c :: d :: e :: f :: g :: L) := (Ln.cons a).trans Ay
theorem Lm {a b c d e f g h m : B3} {L : List B3} : (a :: b :: c :: d :: e :: f :: g :: h :: m :: L).Perm (m :: a :: b :: c :: d :: e :: f :: g :: h :: L) := (Ko.cons a).trans Ay
theorem B1l {a b c d e f g h i m : B3} {L : List B3} : (a :: b :: c :: d :: e :: f :: g :: h :: i :: m :: L).Perm (m :: a :: b :: c :: d :: e :: f :: g :: h :: i :: L) := (Lm.cons a).trans Ay
theorem Qj {a b c d e f g h i j m : B3} {L : List B3} : (a :: b :: c :: d :: e :: f :: g :: h :: i :: j :: m :: L).Perm (m :: a :: b :: c :: d :: e :: f :: g :: h :: i :: j :: L) := (B1l.cons a).trans Ay
theorem A8j {a b c d e f g h i j k m : B3} {L : List B3} : (a :: b :: c :: d :: e :: f :: g :: h :: i :: j :: k :: m :: L).Perm (m :: a :: b :: c :: d :: e :: f :: g :: h :: i :: j :: k :: L) := (Qj.cons a).trans Ay
def Ob (x : Int) : List Value := [.int .i64 x]
abbrev P7 (l : List Int) : List Value := l.flatMap Ob
theorem Sb (x : Int) : (Ob x).length = 1 := rfl
def D0c (ok : Nat → Prop) (l : List Int) (a : SH) (w : World) : Prop := rowAt ok 1 8 l.length a (fun i => Ob (l.getD i 0)) w ∧ ∀ x, x ∈ l → Aw x
def IL (l : List Int) (a : SH) : Fact := ⟨fun ok w => D0c ok l a w, fun _ _ _ hs h => ⟨h.1.mono hs, h.2⟩, fun _ _ _ h hs => ⟨h.1.loc hs, h.2⟩⟩
section
variable {B : C0} {Γ : List Fact} {Ms : List B3} {w : World}
theorem St.A3o {e : TypeId} {a : SH} {n : Nat} {xs : List Value} {l : List Int} (hs : St B Γ (Am 1 e a n xs :: Ms) w) {hBp : Prop} (hB : hBp) (hx : xs = P7 l) (hn : n = l.length) (hb : n * 8 ≤ reach) (hu : ∀ c, c ∈ l → Aw c) : St B (IL l a :: Γ) Ms w := by
 subst hx
 subst hn
 refine hs.Oz hB (fun ok hok hh => ⟨?_, hu⟩)
 exact Lo (F := Ob) Sb 0 (hh : World.ownsRow _ _ _ _ _ _ _) rfl hb hok
theorem St.Z1 {e : TypeId} {a : SH} {n : Nat} {l : List Cl} {c : Cl} (hs : St B Γ (Am 2 e a n (A9 l ++ Al c) :: Ms) w) : St B Γ (Am 2 e a n (A9 (l ++ [c])) :: Ms) w := by
 have h : A9 (l ++ [c]) = A9 l ++ Al c := by simp [A9]
 rw [h]; exact hs
theorem St.Vp {e : TypeId} {a : SH} {n : Nat} {l : List TP} {t : T} {vr vk vs : SH} (hs : St B Γ (Am 6 e a n (Bo l ++ tc t vr vk vs) :: Ms) w) : St B Γ (Am 6 e a n (Bo (l ++ [(t, vr, vk, vs)])) :: Ms) w := by
 have h : Bo (l ++ [(t, vr, vk, vs)]) = Bo l ++ tc t vr vk vs := by simp [Bo, Gc]
 rw [h]; exact hs
theorem St.C6e {e : TypeId} {a : SH} {n : Nat} {l : List BP} {b : Br} {vf vk : SH} (hs : St B Γ (Am 2 e a n (Fk l ++ bc b vf vk) :: Ms) w) : St B Γ (Am 2 e a n (Fk (l ++ [(b, vf, vk)])) :: Ms) w := by
 have h : Fk (l ++ [(b, vf, vk)]) = Fk l ++ bc b vf vk := by simp [Fk, Hq]
 rw [h]; exact hs
theorem St.M6 {e : TypeId} {a : SH} {n : Nat} {l m : List Cl} (hs : St B Γ (Am 2 e a n (A9 l ++ A9 m) :: Ms) w) : St B Γ (Am 2 e a n (A9 (l ++ m)) :: Ms) w := by
 have h : A9 (l ++ m) = A9 l ++ A9 m := by simp [A9]
 rw [h]; exact hs
theorem St.C8j {l : List Int} {a : SH} (hs : St B Γ Ms w) (hF : IL l a ∈ Γ) : l.length * 8 ≤ reach ∧ (0 < l.length → ∃ b o, a.1 = some ⟨b, o, Option.none⟩) ∧ ∀ c, c ∈ l → Aw c := by
 obtain ⟨h2, h4⟩ := hs.facts _ hF
 exact ⟨h2.2.1, fun hn => by obtain ⟨b, o, h3, _⟩ := h2.2.2 hn; exact ⟨b, o, h3⟩, h4⟩
end
section
variable {P : Program} {f : FuncId} {R : Ending → World → Prop} {B : C0} {n : Fz} {todo : List Item} {σ : Nat → Value} {Γ : List Fact} {Ms : List B3}
theorem I6 {l : List Int} {a : SH} (k : l.length * 8 ≤ reach → (0 < l.length → ∃ b o, a.1 = some ⟨b, o, none⟩) → (∀ c, c ∈ l → Aw c) → E4 P f R B n todo σ Γ Ms) (hF : IL l a ∈ Γ := by repeat (first | exact List.mem_cons_self | apply List.mem_cons_of_mem)) : E4 P f R B n todo σ Γ Ms :=
 Bp (p := l.length * 8 ≤ reach ∧ (0 < l.length → ∃ b o, a.1 = some ⟨b, o, none⟩) ∧ ∀ c, c ∈ l → Aw c) (fun w hs => hs.C8j hF) (fun h => k h.1 h.2.1 h.2.2)
theorem Ba {K : List Item} {c : Code} {X : Type} (Inv : X → Prop) (live : X → List (Nat × Value)) (E : X → List Fact → List Fact) (Mf : X → List B3) (μ : X → Nat) (x0 : X) (h0 : Inv x0)
  (hl : Nj σ (live x0)) (hΓ : ∀ w, St B Γ Ms w → St B (E x0 Γ) (Mf x0) w)
  (round : ∀ x base, Inv x → (∀ x' σ', Inv x' → μ x' < μ x → Nj σ' (live x') → E4 P f R B n (.inLoop c :: K) σ' (E x' Γ) (Mf x')) →
   E4 P f R B n (.code c :: .inLoop c :: K) (stL base (live x)) (E x Γ) (Mf x)) :
  E4 P f R B n (.code (.loop c) :: K) σ Γ Ms := E0 Inv live (fun x => E x Γ) Mf μ x0 h0 hl hΓ round
end
theorem NV.conv {tn : Bool} {pn : Nat} {P : Program} {f : FuncId} {R : Ending → World → Prop} {B : C0} {n : Fz} {K : List Item} {ops : Array Oper} {l fin : List Nat} {σ : Nat → Value} {Γ : List Fact} {Ms' : List B3} (h : NV tn pn P f R B n K ops fin l σ Γ Ms') :
  ∀ {Ms : List B3}, (∀ Γ M w, St B Γ (M ++ Ms) w → St B Γ (M ++ Ms') w) → NV tn pn P f R B n K ops fin l σ Γ Ms := by
 induction h with
 | done h => exact fun hc => .done (fun a w hr hs => h a w hr (hc _ [] w hs))
 | no h => exact fun hc => .no (fun ⟨w, hw⟩ => h ⟨w, hc _ [] w hw⟩)
 | pure ho hw hd h k ih => exact fun hc => .pure ho hw hd h (ih hc)
 | load ht ho hm hw hd h k ih => exact fun hc => .load ht ho hm hw hd (fun w hs => h w (hc _ [] w hs)) (ih hc)
 | off ho hw hd k ih => exact fun hc => .off ho hw hd (ih hc)
 | alloc ho hg hw hd h k ih => exact fun hc => .alloc ho hg hw hd h (fun b => ih b (fun Γ M w hs => by
   have := hc Γ (M ++ [Ag b _ _]) w (by simpa using hs)
   simpa using this))
 | allocF hz ho hg hgm hw hd h hF k ih => exact fun hc => .allocF hz ho hg hgm hw hd h hF (fun b => ih b hc)
 | call ht ho hg hm hw hd he hsp hpre k ih => exact fun hc => .call ht ho hg hm hw hd he hsp hpre (fun x => ih x (fun Γ M w hs => by
   have := hc Γ (M ++ _) w (by simpa using hs)
   simpa using this))
 | loadF ho hm hw hd h k ih => exact fun hc => .loadF ho hm hw hd h (ih hc)
 | pan ht ho hq hg hm hw he hsp hpre hR => exact fun hc => .pan ht ho hq hg hm hw he hsp hpre hR
 | @Dq i l o X val F r r' σ Γ Ms0 Ms2 ht ho hb hw hd hp h k hz ih =>
  intro Ms hc
  refine NV.Dq (F := F) (r := Ms) (r' := fun x => r' x ++ Ms2) (Ms2 := []) ht ho hb hw hd (by rw [List.append_nil]) (fun M w hs => ?_) (fun x => by rw [List.append_nil]; exact k x) hz
  have h0 : St B Γ (M ++ Ms0) w := hc _ M w (hs.perm List.perm_append_comm)
  have h1 : St B Γ (r ++ (Ms2 ++ M)) w := by
   rw [← List.append_assoc]
   exact h0.perm (List.perm_append_comm.trans (hp.append_right M))
  obtain ⟨x, w', h2, h3⟩ := h (Ms2 ++ M) w h1
  exact ⟨x, w', h2, by rw [List.append_assoc]; exact h3⟩
 | @sto i l o r r' σ Γ Ms0 Ms2 ho hb hw hd hp h k ih =>
  intro Ms hc
  refine NV.sto (r := Ms) (r' := r' ++ Ms2) (Ms2 := []) ho hb hw hd (by rw [List.append_nil]) (fun M w hs => ?_) (by rw [List.append_nil]; exact k)
  have h0 : St B Γ (M ++ Ms0) w := hc _ M w (hs.perm List.perm_append_comm)
  have h1 : St B Γ (r ++ (Ms2 ++ M)) w := by
   rw [← List.append_assoc]
   exact h0.perm (List.perm_append_comm.trans (hp.append_right M))
  obtain ⟨w', h2, h3⟩ := h (Ms2 ++ M) w h1
  exact ⟨w', h2, by rw [List.append_assoc]; exact h3⟩
section
variable {P : Program} [Tab P] {B : C0} {σ : Nat → Value} {Γ : List Fact} {Ms : List B3} {ty : TypeId} {x y : Operand} {k : IntKind} {a : Int} {v : Value}
theorem C9p {t : TypeId} {d : TypeDesc} {bk o i : Nat} {a : SH} {l : List Int} (hx : ev σ x = .pointer (some ⟨bk, o + i * 1, none⟩)) (hF : IL l a ∈ Γ) (ha : a.1 = some ⟨bk, o, none⟩) (hu : Tab.und P t = some d) (hd : (match d with | .struct _ | .array _ _ => true | _ => false) = false) (hlt : i < l.length) :
  Ka P B σ Γ Ms (.load t x) ty (.int .i64 (l.getD i 0)) := fun w hs => by
 have h3 := (Je (hs.facts _ hF).1 ha hlt).2 0 (.int .i64 (l.getD i 0)) rfl
 rw [Nat.add_zero] at h3
 have h4 := Eh (P := P) hu hd h3
 generalize hv : l.getD i 0 = u at h4 ⊢
 simp only [Cd, execOp, hx, Instr.loadAt, Instr.sureAddr]
 rw [Nat.mul_one] at h4 ⊢
 simp [h4]
theorem Zb {s d : TypeId} {a : Int} {m : Nat} (hs : Tab.und P s = some (.int .i64)) (hd : Tab.und P d = some (.int .u64)) (hx : ev σ x = .int .i64 a) (ha : a = (m : Int)) (hm : m < 18446744073709551616) : Ce P σ (.convert s d x) ty (.int .u64 (m : Int)) := by
 have e : IntKind.u64.wrap a = (m : Int) := by
  have : IntKind.u64.wrap a = a % 18446744073709551616 := by simp [IntKind.wrap, IntKind.bits, IntKind.signed]
  rw [this]; omega
 have := K0 (P := P) (ty := ty) hs hd hx
 rwa [e] at this
end
end Go.Hy
namespace Go.Hy
section
variable {P : Program} [Tab P] {B : C0} {σ : Nat → Value} {Γ : List Fact} {Ms : List B3} {ty : TypeId} {x y : Operand}
end
section
variable {B : C0} {Γ : List Fact} {Ms : List B3} {w : World}
end
end Go.Hy
namespace Go.Hy
section
variable {P : Program} [Tab P] {σ : Nat → Value} {ty : TypeId} {x y : Operand}
theorem B0t (n : Int) : IntKind.u64.wrap n = n % 18446744073709551616 := by simp [IntKind.wrap, IntKind.bits, IntKind.signed]
theorem C3m {t t' : TypeId} {k2 : IntKind} {a m : Nat} (hx : ev σ x = .int .u64 (a : Int)) (hy : ev σ y = .int k2 (m : Int)) (hm : m ≤ 64) (hb : a * 2 ^ m < 18446744073709551616) : Ce P σ (.binOp .shl t x y t') ty (.int .u64 ((a * 2 ^ m : Nat) : Int)) :=
 D0 hx hy (fun w => Bs w) (fun w => by
  have e : IntKind.u64.wrap ((a : Int) * 2 ^ min (m : Int).toNat 64) = ((a * 2 ^ m : Nat) : Int) := by
   rw [B0t, Int.toNat_natCast, Nat.min_eq_left hm]
   have : ((a : Int) * 2 ^ m) = ((a * 2 ^ m : Nat) : Int) := by rw [Int.natCast_mul, Int.natCast_pow]; rfl
   rw [this]; omega
  have h0 : ¬ ((m : Int) < 0) := by omega
  simp only [binOp, Op.shift, if_neg h0]
  show Result.ok (Value.int .u64 (IntKind.u64.wrap ((a : Int) * 2 ^ min (m : Int).toNat 64))) w = _
  rw [e])
theorem C3k {t t' : TypeId} {a b : Nat} (hx : ev σ x = .int .u64 (a : Int)) (hy : ev σ y = .int .u64 (b : Int)) (h : b ≤ a) (ha : a < 18446744073709551616) : Ce P σ (.binOp .sub t x y t') ty (.int .u64 ((a - b : Nat) : Int)) :=
 D0 hx hy (fun w => Bs w) (fun w => by
  have e : IntKind.u64.wrap ((a : Int) - (b : Int)) = ((a - b : Nat) : Int) := by rw [B0t]; omega
  simp only [binOp, Op.intArith, ne_eq, not_true, if_false]
  show Result.ok (Value.int .u64 (IntKind.u64.wrap ((a : Int) - (b : Int)))) w = _
  rw [e])
theorem B4j {s d : TypeId} {a : Nat} (hs : Tab.und P s = some (.int .u64)) (hd : Tab.und P d = some (.int .u32)) (hx : ev σ x = .int .u64 (a : Int)) (ha : a < 4294967296) : Ce P σ (.convert s d x) ty (.int .u32 (a : Int)) := by
 have e : IntKind.u32.wrap (a : Int) = (a : Int) := by rw [B6k]; omega
 have := K0 (P := P) (ty := ty) hs hd hx
 rwa [e] at this
end
end Go.Hy
namespace Go.Hy
section
variable {P : Program} [Tab P] {σ : Nat → Value} {ty : TypeId} {x y : Operand}
end
end Go.Hy
namespace Go.Hy
open Go Go.ChangeShapes Go.WideShapes Go.RowKit
variable {P : Program} {H : Type} {enc : TypeId × Value → H} {W : World} {base : Nat} {v : Value} {d : DataW H} {ps : List MemPlace}
theorem Kx {t : TypeId} {ts : List TypeId} {ds : List (DataW H)} (h : ∀ x, x ∈ DataW.weightsEach P (t :: ts) (d :: ds) → x ≤ reach) : K4 P t d ∧ ∀ x, x ∈ DataW.weightsEach P ts ds → x ≤ reach :=
 ⟨fun x hx => h x (by simp only [DataW.weightsEach, List.mem_append]; exact .inl hx), fun x hx => h x (by simp only [DataW.weightsEach, List.mem_append]; exact .inr hx)⟩
theorem Qe {t : TypeId} {ts : List TypeId} {vs : List Value} {ds : List (DataW H)} (h : DataW.TrodAll enc P W 0 (fun _ => true) true (t :: ts) vs ds ps) :
  ∃ v vs' d ds' p q, vs = v :: vs' ∧ ds = d :: ds' ∧ DataW.Trod enc P W 0 (fun _ => true) true t v d p ∧ DataW.TrodAll enc P W 0 (fun _ => true) true ts vs' ds' q := by
 obtain ⟨v, vs1, d, ds1, a, b, h1, h2, h3, h4, h5⟩ := trodAll_cons h
 exact ⟨v, vs1, d, ds1, a, b, h1, h2, h4, h5⟩
theorem B3s {vs : List Value} {ds : List (DataW H)} (h : DataW.TrodAll enc P W 0 (fun _ => true) true [] vs ds ps) : vs = [] := by
 obtain ⟨h1, _, _⟩ := trodAll_nil h
 exact h1
variable [TyF P]
theorem D5v {t : TypeId} (ht : t = TyF.tT P) (hval : Value.okWide P W .any base t v) (h : DataW.Trod enc P W 0 (fun _ => true) true t v d ps) (hl : K4 P t d) : ∃ (u : T) (vr vk vs : SH), v = .agg (tc u vr vk vs).toArray ∧ E9 (Zf W) u vr vk vs W := by
 subst ht
 obtain ⟨cs, rfl, _⟩ := okWide_struct TyF.uT hval
 obtain ⟨fuel, hf⟩ := h
 obtain ⟨⟨u, vr, vk, vs⟩, h1, h2⟩ := (Tm fuel).1 _ _ _ hf hl
 exact ⟨u, vr, vk, vs, by
  have h3 : (Value.agg cs).cells.toList = tc u vr vk vs := h1
  rw [← h3]; simp [Value.cells], h2⟩
end Go.Hy
namespace Go.Hy
def Dy (L : List B3) : B3 := ⟨B6 L, fun w => (∀ m, m ∈ L → ∀ w', (∀ b, m.dom b → w'.heap[b]? = w.heap[b]?) → m.holds w') ∧ (L.Pairwise fun m m' => ∀ b, m.dom b → m'.dom b → False)⟩
section
variable {B : C0} {Γ : List Fact} {Ms L L' : List B3} {w : World}
theorem St.pack (hs : St B Γ (L ++ Ms) w) : St B Γ (Dy L :: Ms) w := by
 have hd : ∀ b, B6 (Dy L :: Ms) b ↔ B6 (L ++ Ms) b := fun b => by rw [Ep, D3]; exact Iff.rfl
 refine ⟨hs.chg, fun F hF => F.mono _ _ _ (fun b hb => ⟨hb.1, hb.2.1, fun hc => hb.2.2 ((hd b).mp hc)⟩) (hs.facts F hF), ?_, ?_, ?_⟩
 ·intro m hm w' hw
  rcases List.mem_cons.mp hm with e | hm
  ·subst e
   exact ⟨fun m hm w2 hw2 => hs.res m (List.mem_append_left _ hm) w2 (fun b hb => (hw2 b hb).trans (hw b ⟨m, hm, hb⟩)), (List.pairwise_append.mp hs.disj).1⟩
  ·exact hs.res m (List.mem_append_right _ hm) w' hw
 ·intro m hm b hb
  rcases List.mem_cons.mp hm with e | hm
  ·subst e
   obtain ⟨m', hm', hb'⟩ := hb
   exact hs.lt m' (List.mem_append_left _ hm') b hb'
  ·exact hs.lt m (List.mem_append_right _ hm) b hb
 ·refine List.pairwise_cons.mpr ⟨fun m hm b hb hb2 => ?_, (List.pairwise_append.mp hs.disj).2.1⟩
  obtain ⟨m', hm', hb'⟩ := hb
  exact (List.pairwise_append.mp hs.disj).2.2 m' hm' m hm b hb' hb2
theorem St.unpack (hs : St B Γ (Dy L :: Ms) w) : St B Γ (L ++ Ms) w := by
 have hd : ∀ b, B6 (Dy L :: Ms) b ↔ B6 (L ++ Ms) b := fun b => by rw [Ep, D3]; exact Iff.rfl
 have Yd := hs.res (Dy L) List.mem_cons_self w (fun _ _ => rfl)
 refine ⟨hs.chg, fun F hF => F.mono _ _ _ (fun b hb => ⟨hb.1, hb.2.1, fun hc => hb.2.2 ((hd b).mpr hc)⟩) (hs.facts F hF), ?_, ?_, ?_⟩
 ·intro m hm w' hw
  rcases List.mem_append.mp hm with hm | hm
  ·exact Yd.1 m hm w' hw
  ·exact hs.res m (List.mem_cons_of_mem _ hm) w' hw
 ·intro m hm b hb
  rcases List.mem_append.mp hm with hm | hm
  ·exact hs.lt (Dy L) List.mem_cons_self b ⟨m, hm, hb⟩
  ·exact hs.lt m (List.mem_cons_of_mem _ hm) b hb
 ·exact List.pairwise_append.mpr ⟨Yd.2, (List.pairwise_cons.mp hs.disj).2, fun m hm m' hm' b hb hb' => (List.pairwise_cons.mp hs.disj).1 m' hm' b ⟨m, hm, hb⟩ hb'⟩
theorem St.Xk (hs : St B Γ Ms w) : St B Γ (Dy [] :: Ms) w := St.pack (L := []) hs
theorem St.C5o (hs : St B Γ (Dy L :: Dy L' :: Ms) w) : St B Γ (Dy (L' ++ L) :: Ms) w := by
 have h1 := (hs.unpack.perm List.perm_middle).unpack
 exact St.pack (by rw [List.append_assoc]; exact h1)
end
mutual
inductive HT where
 | mk (kind n : Int) (name : ByteArray) (r : List Cl) (vr : SH) (kids : List HT) (vk : SH) (sys : List HB) (vs : SH)
inductive HB where
 | mk (As : List Cl) (vf : SH) (kids : List HT) (vk : SH)
end
mutual
def HT.er : HT → T
 | .mk k n nm r _ ks _ ss _ => .mk k n nm r (HT.erL ks) (HT.erB ss)
def HT.erL : List HT → List T
 | [] => []
 | h :: hs => h.er :: HT.erL hs
def HT.erB : List HB → List Br
 | [] => []
 | .mk f _ ks _ :: bs => .mk f (HT.erL ks) :: HT.erB bs
end
def HB.er : HB → Br
 | .mk f _ ks _ => .mk f (HT.erL ks)
theorem HT.L6 : ∀ l : List HT, HT.erL l = l.map HT.er
 | [] => by simp [HT.erL]
 | h :: hs => by simp [HT.erL, HT.L6 hs]
theorem HT.Xa : ∀ l : List HB, HT.erB l = l.map HB.er
 | [] => by simp [HT.erB]
 | .mk f v ks u :: bs => by simp [HT.erB, HB.er, HT.Xa bs]
namespace HT
def vr : HT → SH | .mk _ _ _ _ v _ _ _ _ => v
def vk : HT → SH | .mk _ _ _ _ _ _ v _ _ => v
def vs : HT → SH | .mk _ _ _ _ _ _ _ _ v => v
def kids : HT → List HT | .mk _ _ _ _ _ ks _ _ _ => ks
def sys : HT → List HB | .mk _ _ _ _ _ _ _ ss _ => ss
def tp (h : HT) : TP := (h.er, h.vr, h.vk, h.vs)
end HT
namespace HB
def As : HB → List Cl | .mk f _ _ _ => f
def vf : HB → SH | .mk _ v _ _ => v
def kids : HB → List HT | .mk _ _ ks _ => ks
def vk : HB → SH | .mk _ _ _ v => v
def bp (b : HB) : BP := (b.er, b.vf, b.vk)
end HB
structure Tys where
 c : TypeId
 t : TypeId
 b : TypeId
mutual
def Gz (y : Tys) : HT → List B3
 | .mk _ _ _ r v ks u ss x => Am 2 y.c v r.length (A9 r) :: Am 6 y.t u ks.length (Bo (ks.map HT.tp)) :: Am 2 y.b x ss.length (Fk (ss.map HB.bp)) :: (Fb y ks ++ N3 y ss)
def Fb (y : Tys) : List HT → List B3
 | [] => []
 | h :: hs => Gz y h ++ Fb y hs
def N3 (y : Tys) : List HB → List B3
 | [] => []
 | .mk f v ks u :: bs => (Am 2 y.c v f.length (A9 f) :: Am 6 y.t u ks.length (Bo (ks.map HT.tp)) :: Fb y ks) ++ N3 y bs
end
def brR (y : Tys) : HB → List B3
 | .mk f v ks u => Am 2 y.c v f.length (A9 f) :: Am 6 y.t u ks.length (Bo (ks.map HT.tp)) :: Fb y ks
theorem A5q (y : Tys) : ∀ l, Fb y l = l.flatMap (Gz y)
 | [] => by simp [Fb]
 | h :: hs => by simp [Fb, A5q y hs]
theorem B2v (y : Tys) : ∀ l, N3 y l = l.flatMap (brR y)
 | [] => by simp [N3]
 | .mk f v ks u :: bs => by simp [N3, brR, B2v y bs]
mutual
def V1 : T → Prop
 | .mk k n nm r ks ss => Aw k ∧ Aw n ∧ nm.size ≤ Gs ∧ ((∀ c, c ∈ r → u32 c) ∧ r.length * 8 ≤ reach) ∧ ks.length * 104 ≤ reach ∧ ss.length * 48 ≤ reach ∧ okL ks ∧ okB ss
def okL : List T → Prop
 | [] => True
 | t :: ts => V1 t ∧ okL ts
def okB : List Br → Prop
 | [] => True
 | .mk f ks :: bs => ((∀ c, c ∈ f → u32 c) ∧ f.length * 8 ≤ reach) ∧ ks.length * 104 ≤ reach ∧ okL ks ∧ okB bs
end
mutual
theorem B8v {ok : Nat → Prop} {w : World} : ∀ {t : T} {vr vk vs : SH}, E9 ok t vr vk vs w → V1 t
 | .mk k n nm r ks ss, vr, vk, vs, h => by
  simp only [E9] at h
  simp only [V1]
  obtain ⟨h1, h2, h3, h4, ⟨VR, VK, VS, h6, h7⟩, ⟨VF, VK', h9, h10⟩⟩ := h
  exact ⟨h1, h2, h3, ⟨h4.2, h4.1.2.1⟩, h6.2.1, h9.2.1, A8q h7, B8z h10⟩
theorem A8q {ok : Nat → Prop} {w : World} : ∀ {ts : List T} {VR VK VS : Nat → SH}, Es ok ts VR VK VS w → okL ts
 | [], _, _, _, _ => by simp only [okL]
 | t :: ts, _, _, _, h => by
  simp only [Es] at h
  simp only [okL]
  exact ⟨B8v h.1, A8q h.2⟩
theorem B8z {ok : Nat → Prop} {w : World} : ∀ {bs : List Br} {VF VK : Nat → SH}, Fe ok bs VF VK w → okB bs
 | [], _, _, _ => by simp only [okB]
 | .mk f ks :: bs, _, _, h => by
  simp only [Fe, L7] at h
  simp only [okB]
  obtain ⟨⟨h1, ⟨VR, VK, VS, h2, h3⟩⟩, h4⟩ := h
  exact ⟨⟨h1.2, h1.1.2.1⟩, h2.2.1, A8q h3, B8z h4⟩
end
theorem Rq {K S M : List B3} {a : B3} : (K ++ (S ++ a :: M)).Perm (a :: (K ++ (S ++ M))) := (List.perm_middle.append_left K).trans List.perm_middle
section
variable {B : C0} {Γ : List Fact} {Ms : List B3} {w : World}
mutual
theorem St.Mj (y : Tys) {hBp : Prop} (hB : hBp) : ∀ (h : HT) {Γ : List Fact} {Ms : List B3}, V1 h.er → St B Γ (Gz y h ++ Ms) w → St B (RT h.er h.vr h.vk h.vs :: Γ) Ms w
 | .mk k n nm r v ks u ss x, Γ, Ms, hok, hs => by
  simp only [HT.er, V1] at hok
  obtain ⟨o1, o2, o3, o4, o5, o6, o7, o8⟩ := hok
  simp only [Gz, List.cons_append, List.append_assoc] at hs
  have h1 := hs.Dk (l := r) hB rfl rfl o4.2 o4.1
  -- the rows of kids and branches wait behind the parts
  have h2 : St B (CL r v :: Γ) (Fb y ks ++ (N3 y ss ++ (Am 6 y.t u ks.length (Bo (ks.map HT.tp)) :: Am 2 y.b x ss.length (Fk (ss.map HB.bp)) :: Ms))) w := by
   exact h1.perm (((Rq.trans (Rq.cons _))).symm)
  have h3 := St.Vs y hB ks [] (by rw [HT.L6] at o7; exact o7) (by simpa using h2.Q8)
  have h4 := St.A3p y hB ss [] (by rw [HT.Xa] at o8; exact o8) (h3.C1x)
  have h5 := h4.Gn (ps := ks.map HT.tp) (ts := ks.map HT.er) hB D2 rfl (by simp [HT.tp, Function.comp_def]) D2 (by rw [HT.L6, List.length_map] at o5; exact o5)
  have h6 := h5.Vt (ps := ss.map HB.bp) (bs := ss.map HB.er) hB D2 rfl (by simp [HB.bp, Function.comp_def]) D2 (by rw [HT.Xa, List.length_map] at o6; exact o6)
  have h7 := h6.A9a (k := k) (n := n) (nm := nm) (r := r) (vr := v) (ks := ks.map HT.er) (vk := u) (ss := ss.map HB.er) (vs := x) o1 o2 o3 D2 D2 D2
  simp only [HT.er, HT.L6, HT.Xa, HT.vr, HT.vk, HT.vs]
  exact h7.less sx_
theorem St.Vs (y : Tys) {hBp : Prop} (hB : hBp) : ∀ (ks : List HT) (ps : List TP) {Γ : List Fact} {Ms : List B3}, okL (ks.map HT.er) → St B (AP ps :: Γ) (Fb y ks ++ Ms) w → St B (AP (ps ++ ks.map HT.tp) :: Γ) Ms w
 | [], ps, Γ, Ms, hok, hs => by simpa [Fb] using hs
 | h :: hs', ps, Γ, Ms, hok, hs => by
  simp only [List.map_cons, okL] at hok
  simp only [Fb, List.append_assoc] at hs
  have h1 := St.Mj y hB h hok.1 hs
  have h2 := h1.On (ps := ps) (t := h.er) (vr := h.vr) (vk := h.vk) (vs := h.vs) D2 D2
  have h3 := St.Vs y hB hs' (ps ++ [h.tp]) (Γ := Γ) hok.2 (h2.less (by simp +contextual [HT.tp]))
  simpa using h3
theorem St.A3p (y : Tys) {hBp : Prop} (hB : hBp) : ∀ (bs : List HB) (ps : List BP) {Γ : List Fact} {Ms : List B3}, okB (bs.map HB.er) → St B (BPs ps :: Γ) (N3 y bs ++ Ms) w → St B (BPs (ps ++ bs.map HB.bp) :: Γ) Ms w
 | [], ps, Γ, Ms, hok, hs => by simpa [N3] using hs
 | .mk f v ks u :: bs, ps, Γ, Ms, hok, hs => by
  simp only [List.map_cons, HB.er, okB] at hok
  obtain ⟨o1, o2, o3, o4⟩ := hok
  simp only [N3, List.cons_append, List.append_assoc] at hs
  have h1 := hs.Dk (l := f) hB rfl rfl o1.2 o1.1
  have h2 : St B (CL f v :: BPs ps :: Γ) (Fb y ks ++ (Am 6 y.t u ks.length (Bo (ks.map HT.tp)) :: (N3 y bs ++ Ms))) w := h1.perm (by exact List.perm_middle.symm)
  have h3 := St.Vs y hB ks [] (by rw [HT.L6] at o3; exact o3) (by simpa using h2.Q8)
  have h4 := h3.Gn (ps := ks.map HT.tp) (ts := ks.map HT.er) hB D2 rfl (by simp [HT.tp, Function.comp_def]) D2 (by rw [HT.L6, List.length_map] at o2; exact o2)
  have h5 := h4.C1y (ps := ps) (f := f) (ks := ks.map HT.er) (vf := v) (vk := u) D2 D2 D2
  have h6 := St.A3p y hB bs (ps ++ [(.mk f (ks.map HT.er), v, u)]) (Γ := Γ) o4 (h5.less sx_)
  simpa [HB.bp, HB.er, HB.vf, HB.vk, HT.L6] using h6
end
end
end Go.Hy
namespace Go.Hy
section
variable {B : C0} {Γ : List Fact} {Ms K S : List B3} {w : World} {a b c : B3}
theorem St.D3d (hs : St B Γ (a :: b :: c :: Dy K :: Dy S :: Ms) w) : St B Γ (Dy (a :: b :: c :: (K ++ S)) :: Ms) w := by
 have h1 : St B Γ (Dy K :: Dy S :: a :: b :: c :: Ms) w := hs.perm (F8.trans (F8.cons _))
 have h2 : St B Γ (Dy S :: (K ++ a :: b :: c :: Ms)) w := h1.unpack.perm List.perm_middle
 have h3 : St B Γ (K ++ (S ++ a :: b :: c :: Ms)) w := h2.unpack.perm (by rw [← List.append_assoc, ← List.append_assoc]; exact List.perm_append_comm.append_right _)
 exact St.pack (L := a :: b :: c :: (K ++ S)) (by
  simp only [List.cons_append, List.append_assoc]
  exact h3.perm (Rq.trans ((Rq.trans (Rq.cons _)).cons _)))
theorem St.D3e (hs : St B Γ (a :: b :: Dy K :: Dy S :: Ms) w) : St B Γ (Dy (S ++ (a :: b :: K)) :: Ms) w := by
 have h1 : St B Γ (Dy K :: Dy S :: a :: b :: Ms) w := hs.perm (Bn.trans (Bn.cons _))
 have h2 : St B Γ (Dy S :: (K ++ a :: b :: Ms)) w := h1.unpack.perm List.perm_middle
 have h3 : St B Γ (S ++ (K ++ a :: b :: Ms)) w := h2.unpack
 exact St.pack (L := S ++ (a :: b :: K)) (by
  have : (S ++ a :: b :: K) ++ Ms = S ++ (a :: b :: (K ++ Ms)) := by simp
  rw [this]
  exact h3.perm ((List.perm_middle.trans (List.perm_middle.cons _)).append_left S))
theorem St.C6r {y : Tys} {hs : List HT} {h : HT} (h0 : St B Γ (Dy (Gz y h) :: Dy (Fb y hs) :: Ms) w) : St B Γ (Dy (Fb y (hs ++ [h])) :: Ms) w := by
 have := h0.C5o
 rwa [show Fb y hs ++ Gz y h = Fb y (hs ++ [h]) by simp [A5q]] at this
theorem St.D4j {y : Tys} {bs : List HB} {f : List Cl} {v u : SH} {ks : List HT} {n m : Nat} {fl tl : List Value} (hn : n = f.length) (hm : m = ks.length) (hf : fl = A9 f) (ht : tl = Bo (ks.map HT.tp)) (h0 : St B Γ (Am 2 y.c v n fl :: Am 6 y.t u m tl :: Dy (Fb y ks) :: Dy (N3 y bs) :: Ms) w) : St B Γ (Dy (N3 y (bs ++ [.mk f v ks u])) :: Ms) w := by
 subst hn; subst hm; subst hf; subst ht
 have := h0.D3e
 rwa [show N3 y bs ++ (Am 2 y.c v f.length (A9 f) :: Am 6 y.t u ks.length (Bo (ks.map HT.tp)) :: Fb y ks) = N3 y (bs ++ [.mk f v ks u]) by simp [B2v, brR]] at this
theorem St.C6q {y : Tys} {k n : Int} {nm : ByteArray} {r : List Cl} {v u x : SH} {ks : List HT} {ss : List HB} {n1 n2 n3 : Nat} {l1 l2 l3 : List Value} (e1 : n1 = r.length) (e2 : n2 = ks.length) (e3 : n3 = ss.length) (f1 : l1 = A9 r) (f2 : l2 = Bo (ks.map HT.tp)) (f3 : l3 = Fk (ss.map HB.bp))
  (h0 : St B Γ (Am 2 y.c v n1 l1 :: Am 6 y.t u n2 l2 :: Am 2 y.b x n3 l3 :: Dy (Fb y ks) :: Dy (N3 y ss) :: Ms) w) : St B Γ (Dy (Gz y (.mk k n nm r v ks u ss x)) :: Ms) w := by
 subst e1; subst e2; subst e3; subst f1; subst f2; subst f3
 simpa only [Gz] using h0.D3d
end
end Go.Hy
namespace Go.Hy
section
variable {P : Program} {f : FuncId} {R : Ending → World → Prop} {B : C0} {n : Fz} {K : List Item} {σ : Nat → Value} {Γ LF : List Fact} {Ms Ms2 Ms' : List B3} {todo : List Item} {w : World}
theorem Nf (h : Ms = Ms') (k : E4 P f R B n todo σ Γ Ms') : E4 P f R B n todo σ Γ Ms := h ▸ k
theorem St.C6 {b : Nat} {cs : List Value} {T : TypeId} {hBp : Prop} (hB : hBp) (hs : St B Γ (Ag b cs T :: Ms) w) : St B (At b 0 cs :: Γ) Ms w := by
 refine hs.Oz hB (fun ok hok hh => ⟨hok b rfl, fun j v hj => ?_⟩)
 have hh : w.heap[b]? = some (.cells cs.toArray T (0, 0)) := hh
 simp [World.cell?, hh, hj]
end
end Go.Hy
namespace Go.Hy
section
variable {B : C0} {Γ : List Fact} {Ms K S : List B3} {w : World} {a b c : B3}
def h0 : HT := .mk 0 0 (ByteArray.mk #[]) [] (none, 0) [] (none, 0) [] (none, 0)
def Yd : HB := .mk [] (none, 0) [] (none, 0)
theorem Spec.conv {P : Program} {k : FuncId} {args args' : Array Value} {pre : List Fact} {Ms0 Ms0' : List B3} {X : Type} {val : X → Value} {N : X → List Fact} {Ms1 : X → List B3} (h : Spec P k args pre Ms0 val N Ms1) (ha : args = args') (hd : ∀ b, B6 Ms0' b ↔ B6 Ms0 b) (hs : ∀ B w, St B pre Ms0' w → St B pre Ms0 w) : Spec P k args' pre Ms0' val N Ms1 := by
 subst ha
 have e : B6 Ms0' = B6 Ms0 := funext fun b => propext (hd b)
 intro ok w hok hst
 rw [e] at hst ⊢
 exact h ok w (fun b hb => ⟨(hok b hb).1, fun hc => (hok b hb).2 ((hd b).2 hc)⟩) (hs _ _ hst)
mutual
theorem HT.D6y {P : HT → Prop} (h : ∀ k n nm r v ks u ss x, (∀ c, c ∈ ks → P c) → P (.mk k n nm r v ks u ss x)) : ∀ t, P t
 | .mk k n nm r v ks u ss x => h k n nm r v ks u ss x (HT.B5g h ks)
theorem HT.B5g {P : HT → Prop} (h : ∀ k n nm r v ks u ss x, (∀ c, c ∈ ks → P c) → P (.mk k n nm r v ks u ss x)) : ∀ ts : List HT, ∀ c, c ∈ ts → P c
 | [], _, hc => by cases hc
 | t :: ts, c, hc => by
  rcases List.mem_cons.mp hc with e | hc
  ·rw [e]; exact HT.D6y h t
  ·exact HT.B5g h ts c hc
end
end
end Go.Hy
namespace Go.Hy
theorem C4c {P : Program} {σ : Nat → Value} {op : Op} {ty : TypeId} {p q : Prop} [Decidable p] [Decidable q] (h : p ↔ q) (hp : Ce P σ op ty (.bool (decide p))) : Ce P σ op ty (.bool (decide q)) := by
 rwa [decide_eq_decide.mpr h] at hp
section
variable {tn : Bool} {pn : Nat} {P : Program} [Tab P] {f : FuncId} {R : Ending → World → Prop} {B : C0} {n : Fz} {K : List Item} {ops : Array Oper} {i : Nat} {l fin : List Nat} {σ : Nat → Value} {Γ : List Fact} {Ms Ms2 : List B3}
variable {dst : Option Tmp} {op : Op} {ty : TypeId} {pos : String} {after : Array Edge} {v : Value} {x y z : Operand}
theorem A8t {t t' : TypeId} {k2 : IntKind} {a m : Nat} (k_ : Dp P f R B n K ops l (Ak σ dst (.int .u64 ((a * 2 ^ m : Nat) : Int))) Γ Ms) (hx : ev σ x = .int .u64 (a : Int) := by exact Ac) (hy : ev σ y = .int k2 (m : Int) := by exact Ac) (hm : m ≤ 64 := by first | assumption | omega) (hb : a * 2 ^ m < 18446744073709551616 := by first | assumption | omega) (hd : Ae n dst = true := by rfl) : E8 P f R B n K ops l (Cd dst (.binOp .shl t x y t') ty) σ Γ Ms := Bb (C3m hx hy hm hb) hd k_
theorem C8n {t t' : TypeId} {a b : Nat} (k_ : Dp P f R B n K ops l (Ak σ dst (.int .u64 ((a - b : Nat) : Int))) Γ Ms) (hx : ev σ x = .int .u64 (a : Int) := by exact Ac) (hy : ev σ y = .int .u64 (b : Int) := by exact Ac) (h : b ≤ a := by first | assumption | omega) (ha : a < 18446744073709551616 := by first | assumption | omega) (hd : Ae n dst = true := by rfl) : E8 P f R B n K ops l (Cd dst (.binOp .sub t x y t') ty) σ Γ Ms := Bb (C3k hx hy h ha) hd k_
theorem A4u {s d : TypeId} {a : Nat} (k_ : Dp P f R B n K ops l (Ak σ dst (.int .u32 (a : Int))) Γ Ms) (hx : ev σ x = .int .u64 (a : Int) := by exact Ac) (ha : a < 4294967296 := by first | assumption | omega) (hs : Tab.und P s = some (.int .u64) := by rfl) (hd' : Tab.und P d = some (.int .u32) := by rfl) (hd : Ae n dst = true := by rfl) : E8 P f R B n K ops l (Cd dst (.convert s d x) ty) σ Γ Ms := Bb (B4j hs hd' hx ha) hd k_
theorem Rw {s d : TypeId} {a : Int} {m : Nat} (k_ : Dp P f R B n K ops l (Ak σ dst (.int .u64 (m : Int))) Γ Ms) (hx : ev σ x = .int .i64 a := by exact Ac) (ha : a = (m : Int) := by first | assumption | omega) (hm : m < 18446744073709551616 := by omega) (hs : Tab.und P s = some (.int .i64) := by rfl) (hd' : Tab.und P d = some (.int .u64) := by rfl) (hd : Ae n dst = true := by rfl) : E8 P f R B n K ops l (Cd dst (.convert s d x) ty) σ Γ Ms := Bb (Zb hs hd' hx ha hm) hd k_
theorem B6r {s d : TypeId} {a : Int} {m : Nat} (k_ : NV tn pn P f R B n K ops fin l (Ak σ dst (.int .u64 (m : Int))) Γ Ms) (hx : ev σ x = .int .i64 a := by exact Ac) (ha : a = (m : Int) := by first | assumption | omega) (hm : m < 18446744073709551616 := by omega) (hs : Tab.und P s = some (.int .i64) := by rfl) (hd' : Tab.und P d = some (.int .u64) := by rfl) (hd : Ae n dst = true := by rfl) : Ir tn pn P f R B n K ops fin i l dst (.convert s d x) ty σ Γ Ms := Cw (Zb hs hd' hx ha hm) hd k_
theorem D3m {t : TypeId} {d : TypeDesc} {bk o i' : Nat} {a : SH} {ls : List Int} (k_ : Dp P f R B n K ops l (Ak σ dst (.int .i64 (ls.getD i' 0))) Γ Ms) (hx : ev σ x = .pointer (some ⟨bk, o + i' * 1, none⟩) := by exact Ac) (hFa : IL ls a ∈ Γ ∧ a.1 = some ⟨bk, o, none⟩ := by exact ma0_) (hu : Tab.und P t = some d := by rfl) (hd' : (match d with | .struct _ | .array _ _ => true | _ => false) = false := by rfl) (hlt : i' < ls.length := by omega) (hd : Ae n dst = true := by rfl) : E8 P f R B n K ops l (Cd dst (.load t x) ty) σ Γ Ms := Hl (C9p hx hFa.1 hFa.2 hu hd' hlt) hd k_
theorem D2n {t t' : TypeId} {a b : Nat} (k_ : NV tn pn P f R B n K ops fin l (Ak σ dst (.bool (decide (a ≠ b)))) Γ Ms) (hx : ev σ x = .int .u32 (a : Int) := by exact Ac) (hy : ev σ y = .int .u32 (b : Int) := by exact Ac) (hd : Ae n dst = true := by rfl) : Ir tn pn P f R B n K ops fin i l dst (.binOp .neq t x y t') ty σ Γ Ms := Cw (C4c A3 (A8k hx hy)) hd k_
end
section
variable {tn : Bool} {pn : Nat} {P : Program} [Tab P] {f : FuncId} {R : Ending → World → Prop} {B : C0} {n : Fz} {K : List Item} {ops : Array Oper} {i : Nat} {l fin : List Nat} {σ : Nat → Value} {Γ : List Fact} {Ms Ms2 : List B3}
variable {dst : Option Tmp} {op : Op} {ty : TypeId} {pos : String} {after : Array Edge} {v : Value} {x y z : Operand}
theorem D3k {t : TypeId} {d : TypeDesc} {bk k : Nat} {cs : List Value} (k_ : Dp P f R B n K ops l (Ak σ dst v) Γ Ms) (hx : ev σ x = .pointer (some ⟨bk, k, none⟩) := by exact Ac) (hF : At bk 0 cs ∈ Γ := by repeat (first | exact List.mem_cons_self | apply List.mem_cons_of_mem)) (hu : Tab.und P t = some d := by rfl) (hd' : (match d with | .struct _ | .array _ _ => true | _ => false) = false := by rfl) (hk : cs[k]? = some v := by exact Ac) (hd : Ae n dst = true := by rfl) : E8 P f R B n K ops l (Cd dst (.load t x) ty) σ Γ Ms := Hl (C0b (o := 0) (by rw [Nat.zero_add]; exact hx) hF hu hd' hk) hd k_
theorem M0 {t : TypeId} {d : TypeDesc} {bk k : Nat} {cs : List Value} (k_ : NV tn pn P f R B n K ops fin l (Ak σ dst v) Γ Ms) (hx : ev σ x = .pointer (some ⟨bk, k, none⟩) := by exact Ac) (hF : At bk 0 cs ∈ Γ := by repeat (first | exact List.mem_cons_self | apply List.mem_cons_of_mem)) (hu : Tab.und P t = some d := by rfl) (hd' : (match d with | .struct _ | .array _ _ => true | _ => false) = false := by rfl) (hk : cs[k]? = some v := by exact Ac) (hd : Ae n dst = true := by rfl) : Ir tn pn P f R B n K ops fin i l dst (.load t x) ty σ Γ Ms := A4v (C0b (o := 0) (by rw [Nat.zero_add]; exact hx) hF hu hd' hk) rfl hd k_
theorem C8o {t : TypeId} {l' : List (Nat × Nat)} {s bt bk k : Nat} {zv : Value} {cs cs' : List Value} (k_ : Dp P f R B n K ops l (Ak σ dst (.agg cs'.toArray)) Γ Ms) (hx : ev σ x = .pointer (some ⟨bk, k, none⟩) := by exact Ac) (hF : At bk 0 cs ∈ Γ := by repeat (first | exact List.mem_cons_self | apply List.mem_cons_of_mem)) (hu : Tab.lay P t = some l' := by rfl) (hi : Tab.inf P t = some (s, bt, zv) := by rfl) (hk : (cs.drop k).take s = cs' := by rfl) (hl : cs'.length = s := by rfl) (hd : Ae n dst = true := by rfl) : E8 P f R B n K ops l (Cd dst (.load t x) ty) σ Γ Ms := Hl (C9q (o := 0) (by rw [Nat.zero_add]; exact hx) hF hu hi hk hl) hd k_
end
section
variable {α : Type}
def Sy (E : α → Fact) (l : List α) : Fact := ⟨fun ok w => ∀ x, x ∈ l → (E x).f ok w, fun _ _ _ hs h x hx => (E x).mono _ _ _ hs (h x hx), fun _ _ _ h hs x hx => (E x).loc _ _ _ (h x hx) hs⟩
def A6z (sz bt : Nat) (F : α → List Value) (E : α → Fact) (d : α) (l : List α) (a : SH) : Fact := ⟨fun ok w => rowAt ok sz bt l.length a (fun i => F (l.getD i d)) w ∧ ∀ x, x ∈ l → (E x).f ok w,
 fun _ _ _ hs h => ⟨h.1.mono hs, fun x hx => (E x).mono _ _ _ hs (h.2 x hx)⟩, fun _ _ _ h hs => ⟨h.1.loc hs, fun x hx => (E x).loc _ _ _ (h.2 x hx) hs⟩⟩
variable {B : C0} {Γ : List Fact} {Ms : List B3} {w : World} {E : α → Fact} {F : α → List Value} {sz bt n : Nat} {d : α} {l : List α} {a : SH}
theorem St.U6 (E : α → Fact) (hs : St B Γ Ms w) : St B (Sy E [] :: Γ) Ms w := hs.add (fun x hx => by cases hx)
theorem St.U7 {x : α} (hs : St B Γ Ms w) (h1 : Sy E l ∈ Γ) (h2 : E x ∈ Γ) : St B (Sy E (l ++ [x]) :: Γ) Ms w := by
 refine hs.add (fun y hy => ?_)
 rcases List.mem_append.mp hy with hy | hy
 ·exact hs.facts _ h1 y hy
 ·rw [List.mem_singleton] at hy; subst hy; exact hs.facts _ h2
theorem St.Jd {e : TypeId} {xs : List Value} (hF : ∀ x, (F x).length = sz) (hs : St B Γ (Am sz e a n xs :: Ms) w) {hBp : Prop} (hB : hBp) (hA : Sy E l ∈ Γ) (hx : xs = l.flatMap F) (hn : n = l.length) (hb : n * bt ≤ reach) : St B (A6z sz bt F E d l a :: Γ) Ms w := by
 subst hx
 have hrow := hs.Oz (F := ⟨fun ok w => rowAt ok sz bt n a (fun i => F (l.getD i d)) w, fun _ _ _ hs h => h.mono hs, fun _ _ _ h hs => h.loc hs⟩) hB (fun ok hok hh => Lo (F := F) hF d (hh : World.ownsRow _ _ _ _ _ _ _) hn hb hok)
 have hr2 := hrow.facts _ List.mem_cons_self
 have h3 := hrow.facts _ (List.mem_cons_of_mem _ hA)
 exact hs.drop.add ⟨hn ▸ hr2, h3⟩
theorem St.C3p (hs : St B Γ Ms w) (hF : A6z sz bt F E d l a ∈ Γ) : l.length * bt ≤ reach ∧ (0 < l.length → ∃ b o, a.1 = some ⟨b, o, Option.none⟩) := by
 obtain ⟨h2, _⟩ := hs.facts _ hF
 exact ⟨h2.2.1, fun hn => by obtain ⟨b, o, h3, _⟩ := h2.2.2 hn; exact ⟨b, o, h3⟩⟩
theorem St.C3g {i : Nat} (hs : St B Γ Ms w) (hF : A6z sz bt F E d l a ∈ Γ) (hi : i < l.length) : St B (E (l.getD i d) :: Γ) Ms w := hs.add ((hs.facts _ hF).2 _ (Af hi))
end
section
variable {α : Type} {P : Program} {f : FuncId} {R : Ending → World → Prop} {B : C0} {n : Fz} {todo : List Item} {σ : Nat → Value} {Γ : List Fact} {Ms : List B3} {E : α → Fact} {F : α → List Value} {sz bt : Nat} {d : α} {l : List α} {a : SH}
theorem Eu (hF : A6z sz bt F E d l a ∈ Γ) (k : l.length * bt ≤ reach → (0 < l.length → ∃ b o, a.1 = some ⟨b, o, none⟩) → E4 P f R B n todo σ Γ Ms) : E4 P f R B n todo σ Γ Ms := Bp (p := l.length * bt ≤ reach ∧ (0 < l.length → ∃ b o, a.1 = some ⟨b, o, none⟩)) (fun w hs => hs.C3p hF) (fun h => k h.1 h.2)
theorem I9 (hF : A6z sz bt F E d l a ∈ Γ) (i : Nat) (hi : i < l.length) (k : E4 P f R B n todo σ (E (l.getD i d) :: Γ) Ms) : E4 P f R B n todo σ Γ Ms := A7 (fun w hs => hs.C3g hF hi) k
variable [Tab P] {x y : Operand} {v : Value} {ty : TypeId}
theorem C4h {t : TypeId} {d' : TypeDesc} {bk o i k : Nat} (hx : ev σ x = .pointer (some ⟨bk, o + i * sz + k, none⟩)) (hF : A6z sz bt F E d l a ∈ Γ) (ha : a.1 = some ⟨bk, o, none⟩) (hu : Tab.und P t = some d') (hd : (match d' with | .struct _ | .array _ _ => true | _ => false) = false) (hk : (F (l.getD i d))[k]? = some v) (hlt : i < l.length) :
  Ka P B σ Γ Ms (.load t x) ty v := fun w hs => by
 have h3 := (Je (hs.facts _ hF).1 ha hlt).2 k v hk
 simp [Cd, execOp, hx, Instr.loadAt, Instr.sureAddr, Eh hu hd h3]
theorem B2j {t : TypeId} {d' : TypeDesc} {bk o i : Nat} (hx : ev σ x = .pointer (some ⟨bk, o + i * 1, none⟩)) (hF : A6z 1 bt F E d l a ∈ Γ) (ha : a.1 = some ⟨bk, o, none⟩) (hu : Tab.und P t = some d') (hd : (match d' with | .struct _ | .array _ _ => true | _ => false) = false) (hk : (F (l.getD i d))[0]? = some v) (hlt : i < l.length) :
  Ka P B σ Γ Ms (.load t x) ty v := C4h (k := 0) hx hF ha hu hd hk hlt
end
abbrev QP := TP × Int × Int
def qE (q : QP) : Fact := RT q.1.1 q.1.2.1 q.1.2.2.1 q.1.2.2.2
abbrev IP := List Int × SH
def ipE (p : IP) : Fact := IL p.1 p.2
abbrev CP := List Cl × SH
def Bq (p : CP) : List Value := [sl p.2 p.1.length]
abbrev I7 (l : List CP) : List Value := l.flatMap Bq
def Cj : CP := ([], (none, 0))
abbrev Kb (p : CP) : Fact := CL p.1 p.2
abbrev Hf (l : List CP) (a : SH) : Fact := A6z 1 24 Bq Kb Cj l a
section
variable {B : C0} {Γ : List Fact} {Ms : List B3} {w : World}
theorem St.B7g {e : TypeId} {a : SH} {n : Nat} {l : List CP} {q : CP} {cs : List Value} (hc : cs = Bq q) (hs : St B Γ (Am 1 e a n (I7 l ++ cs) :: Ms) w) : St B Γ (Am 1 e a n (I7 (l ++ [q])) :: Ms) w := by
 subst hc
 have h : I7 (l ++ [q]) = I7 l ++ Bq q := by simp [I7]
 rw [h]; exact hs
theorem St.C6o {e : TypeId} {b : Nat} {l : List Cl} {a : SH} (hs : St B Γ (Ag b [sl a l.length] e :: Ms) w) {hBp : Prop} (hB : hBp) (hF : CL l a ∈ Γ) : St B (Hf [(l, a)] (some ⟨b, 0, Option.none⟩, 1) :: Γ) Ms w :=
 ((((hs.Iv (sz := 1) (m := 1) rfl Iu).U6 Kb).U7 (x := (l, a)) List.mem_cons_self (List.mem_cons_of_mem _ hF)).Jd (F := Bq) (E := Kb) (d := Cj) (bt := 24) (l := [(l, a)]) (fun _ => rfl) hB List.mem_cons_self rfl rfl Iu).less sx_
end
section
variable {P : Program} [Tab P] {B : C0} {σ : Nat → Value} {Γ : List Fact} {Ms Ms2 : List B3} {ty : TypeId} {x y z : Operand} {v : Value}
end
section
variable {P : Program} [Tab P] {f : FuncId} {fn : Func} {B : C0} {n : Fz} {K : List Item} {σ : Nat → Value} {Γ : List Fact} {Ms : List B3} {X : Type} {val : X → Value} {N : X → List Fact} {Ms1 : X → List B3}
theorem E7 {r t T : Nat} {r2 : Tmp} {b s bt : Nat} {zv v2 : Value} {lay : List (Nat × Nat)} {cs : List Value} (hf : P.funcs[f]? = some fn) (hr : fn.results = #[.cell r t, .tmp r2]) (x : X) (hb : σ r = .pointer (some ⟨b, 0, none⟩)) (hm : Ag b cs T ∈ Ms) (hl : Tab.lay P t = some lay) (hi : Tab.inf P t = some (s, bt, zv)) (hcs : cs.length = s) (h2 : σ r2 = v2) (hv : Value.tuple #[.agg cs.toArray, v2] = val x) (hs : ∀ w, St B Γ Ms w → St B (N x) (Ms1 x) w) (hD : n.defs = [] := by rfl) (hK : okK n.kind := by first | exact .inl rfl | exact .inr rfl) : E4 P f (Ends B val N Ms1) B n (.code .ret :: K) σ Γ Ms :=
 go_ret hf (fun a w ha h => by
  have h1 := ha.get r
  rw [hb] at h1
  have h3 := ha.get r2
  rw [h2] at h3
  have h4 := Dd (P := P) (bk := b) (off := 0) (w := w) hl hi hcs (fun j v hj => by rw [Nat.zero_add]; exact K8 h hm j v hj)
  have h1' : (a.tmps[r]?.getD undef) = .pointer (some ⟨b, 0, none⟩) := by simpa [Array.getD_eq_getD_getElem?] using h1
  have h3' : (a.tmps[r2]?.getD undef) = v2 := by simpa [Array.getD_eq_getD_getElem?] using h3
  simp [results, hr, asAddr, h1', h4, h3', ← hv]) (fun w h => ⟨x, rfl, hs w h⟩) hD hK
theorem St.Ju {w : World} (hs : St B Γ Ms w) : St B (RT t0 (Option.none, 0) (Option.none, 0) (Option.none, 0) :: Γ) Ms w :=
 ((((hs.Ry 0).Um 0).B2a 0).A9a (k := 0) (n := 0) (nm := ⟨#[]⟩) (r := []) (ks := []) (ss := []) (vr := (Option.none, 0)) (vk := (Option.none, 0)) (vs := (Option.none, 0)) (by unfold Aw; omega) (by unfold Aw; omega) (Nat.zero_le _) D2 D2 D2).less (by simp +contextual [t0])
end
section
variable {tn : Bool} {pn : Nat} {P : Program} [Tab P] {f : FuncId} {R : Ending → World → Prop} {B : C0} {n : Fz} {K : List Item} {ops : Array Oper} {i : Nat} {l fin : List Nat} {σ : Nat → Value} {Γ : List Fact} {Ms Ms2 : List B3}
variable {dst : Option Tmp} {op : Op} {ty : TypeId} {pos : String} {after : Array Edge} {v : Value} {x y z : Operand}
theorem C8p {t : TypeId} {d : TypeDesc} {bk o i' : Nat} {a : SH} {ls : List CP} (k_ : Dp P f R B n K ops l (Ak σ dst v) Γ Ms) (hx : ev σ x = .pointer (some ⟨bk, o + i' * 1, none⟩) := by exact Ac) (hFa : Hf ls a ∈ Γ ∧ a.1 = some ⟨bk, o, none⟩ := by exact ma0_) (hu : Tab.und P t = some d := by rfl) (hd' : (match d with | .struct _ | .array _ _ => true | _ => false) = false := by rfl) (hk : (Bq (ls.getD i' Cj))[0]? = some v := by exact Ac) (hlt : i' < ls.length := by first | omega | (simp only [List.length_map, List.length_set]; omega) | (simp; omega)) (hd : Ae n dst = true := by rfl) : E8 P f R B n K ops l (Cd dst (.load t x) ty) σ Γ Ms := Hl (B2j hx hFa.1 hFa.2 hu hd' hk hlt) hd k_
theorem A2i {t : TypeId} {d : TypeDesc} {bk o i' : Nat} {a : SH} {ls : List CP} (k_ : NV tn pn P f R B n K ops fin l (Ak σ dst v) Γ Ms) (hx : ev σ x = .pointer (some ⟨bk, o + i' * 1, none⟩) := by exact Ac) (hFa : Hf ls a ∈ Γ ∧ a.1 = some ⟨bk, o, none⟩ := by exact ma0_) (hu : Tab.und P t = some d := by rfl) (hd' : (match d with | .struct _ | .array _ _ => true | _ => false) = false := by rfl) (hk : (Bq (ls.getD i' Cj))[0]? = some v := by exact Ac) (hlt : i' < ls.length := by first | omega | (simp only [List.length_map, List.length_set]; omega) | (simp; omega)) (hd : Ae n dst = true := by rfl) : Ir tn pn P f R B n K ops fin i l dst (.load t x) ty σ Γ Ms := A4v (B2j hx hFa.1 hFa.2 hu hd' hk hlt) rfl hd k_
end
section
variable {tn : Bool} {pn : Nat} {P : Program} [Tab P] {f : FuncId} {R : Ending → World → Prop} {B : C0} {n : Fz} {K : List Item} {ops : Array Oper} {i : Nat} {l fin : List Nat} {σ : Nat → Value} {Γ : List Fact} {Ms Ms2 : List B3}
variable {dst : Option Tmp} {op : Op} {ty : TypeId} {pos : String} {after : Array Edge} {v : Value} {x y z : Operand}
theorem B6q {t t' : TypeId} {k : IntKind} {a b : Int} (k_ : NV tn pn P f R B n K ops fin l (Ak σ dst (.bool true)) Γ Ms) (hx : ev σ x = .int k a := by exact Ac) (hy : ev σ y = .int k b := by exact Ac) (hp : a = b := by first | omega | (simp; done)) (hd : Ae n dst = true := by rfl) : Ir tn pn P f R B n K ops fin i l dst (.binOp .eql t x y t') ty σ Γ Ms := Cw (show Ce P σ (.binOp .eql t x y t') ty (.bool true) from (decide_eq_true hp : decide (a = b) = true) ▸ A8l hx hy) hd k_
theorem D6a {t T' : TypeId} {b s bt : Nat} {zv : Value} {cs cs' : List Value} (k_ : NV tn pn P f R B n K ops fin l σ Γ (Ag b cs' T' :: Ms2)) (hx : ev σ x = .pointer (some ⟨b, 0, none⟩) := by exact Ac) (hm : Ms.Perm (Ag b cs T' :: Ms2) := by first | exact Za | exact Ay | exact Bn | exact F8 | exact Ft | exact Iz | exact Ln | exact Ko | exact Lm) (hy : (ev σ y).cells = cs'.toArray := by rfl) (hi : Tab.inf P t = some (s, bt, zv) := by rfl) (hl : cs'.length = s := by rfl) (hl2 : cs.length = s := by rfl) (h1 : Ij cs' = true := by rfl) : Ir tn pn P f R B n K ops fin i l none (.store t x y) ty σ Γ Ms := B9g (r := [Ag b cs T']) (r' := [Ag b cs' T']) (fun M => B7j hx hy (List.Perm.refl _) hi hl hl2 h1) rfl hm k_
end
inductive A8 (α : Type) where
 | ok (a : α)
 | bad (e : Int)
structure Tr (C : Type) where
 own : C → Int → Int → ByteArray → List Cl → A8 (T ⊕ (Int × List Cl))
 As : C → List Cl → A8 (Option (List Cl))
 Gq : C → Int × Int → A8 C
section
variable {C : Type} (A : Tr C)
mutual
def Bh : T → C → A8 T
 | .mk k n nm r ks ss, c => match A.own c k n nm r with
  | .bad e => .bad e
  | .ok (.inl u) => .ok u
  | .ok (.inr p) => match Ci k 0 ks c with
   | .bad e => .bad e
   | .ok ks' => match Bu k ss c with
    | .bad e => .bad e
    | .ok ss' => .ok (.mk k p.1 nm p.2 ks' ss')
def Ci (k : Int) : Nat → List T → C → A8 (List T)
 | _, [], _ => .ok []
 | i, t :: ts, c => match A.Gq c (binds k i) with
  | .bad e => .bad e
  | .ok c' => match Bh t c' with
   | .bad e => .bad e
   | .ok t' => match Ci k (i + 1) ts c with
    | .bad e => .bad e
    | .ok ts' => .ok (t' :: ts')
def Bt (k : Int) : List T → C → A8 (List T)
 | [], _ => .ok []
 | t :: ts, c => match A.Gq c (0, more k) with
  | .bad e => .bad e
  | .ok c' => match Bh t c' with
   | .bad e => .bad e
   | .ok t' => match Bt k ts c with
    | .bad e => .bad e
    | .ok ts' => .ok (t' :: ts')
def Bu (k : Int) : List Br → C → A8 (List Br)
 | [], _ => .ok []
 | .mk f ks :: bs, c => match A.As c f with
  | .bad e => .bad e
  | .ok none => Bu k bs c
  | .ok (some f') => match Bt k ks c with
   | .bad e => .bad e
   | .ok ks' => match Bu k bs c with
    | .bad e => .bad e
    | .ok bs' => .ok (.mk f' ks' :: bs')
end
variable {A}
def A8.bind {α β : Type} : A8 α → (α → A8 β) → A8 β
 | .ok a, f => f a
 | .bad e, _ => .bad e
theorem A8.A0 {α β : Type} {x : A8 α} {f : α → A8 β} {b : β} (h : x.bind f = .ok b) : ∃ a, x = .ok a ∧ f a = .ok b := by
 cases x with
 | ok a => exact ⟨a, rfl, h⟩
 | bad e => cases h
theorem D5 (t : T) (c : C) : Bh A t c = (A.own c t.kind t.n t.name t.r).bind fun o => match o with
  | .inl u => .ok u
  | .inr p => (Ci A t.kind 0 t.kids c).bind fun ks' => (Bu A t.kind t.sys c).bind fun ss' => .ok (.mk t.kind p.1 t.name p.2 ks' ss') := by
 obtain ⟨k, n, nm, r, ks, ss⟩ := t
 rw [Bh]
 simp only [T.kind, T.n, T.name, T.r, T.kids, T.sys]
 cases A.own c k n nm r with
 | bad e => rfl
 | ok o =>
  cases o with
  | inl u => rfl
  | inr p =>
   simp only [A8.bind]
   cases Ci A k 0 ks c with
   | bad e => rfl
   | ok ks' =>
    cases Bu A k ss c <;> rfl
theorem Ct (k : Int) (i : Nat) (c : C) : Ci A k i [] c = .ok [] := by rw [Ci]
theorem Ch (k : Int) (i : Nat) (t : T) (ts : List T) (c : C) : Ci A k i (t :: ts) c = (A.Gq c (binds k i)).bind fun c' => (Bh A t c').bind fun t' => (Ci A k (i + 1) ts c).bind fun ts' => .ok (t' :: ts') := by
 rw [Ci]
 cases A.Gq c (binds k i) with
 | bad e => rfl
 | ok c' =>
  simp only [A8.bind]
  cases Bh A t c' with
  | bad e => rfl
  | ok t' => simp only; cases Ci A k (i + 1) ts c <;> rfl
theorem Cy (k : Int) (c : C) : Bt A k [] c = .ok [] := by rw [Bt]
theorem Cg (k : Int) (t : T) (ts : List T) (c : C) : Bt A k (t :: ts) c = (A.Gq c (0, more k)).bind fun c' => (Bh A t c').bind fun t' => (Bt A k ts c).bind fun ts' => .ok (t' :: ts') := by
 rw [Bt]
 cases A.Gq c (0, more k) with
 | bad e => rfl
 | ok c' =>
  simp only [A8.bind]
  cases Bh A t c' with
  | bad e => rfl
  | ok t' => simp only; cases Bt A k ts c <;> rfl
theorem Co (k : Int) (c : C) : Bu A k [] c = .ok [] := by rw [Bu]
theorem C7 (k : Int) (b : Br) (bs : List Br) (c : C) : Bu A k (b :: bs) c = (A.As c b.As).bind fun f => match f with
  | none => Bu A k bs c
  | some f' => (Bt A k b.kids c).bind fun ks' => (Bu A k bs c).bind fun bs' => .ok (.mk f' ks' :: bs') := by
 obtain ⟨f, ks⟩ := b
 rw [Bu]
 simp only [Br.As, Br.kids]
 cases A.As c f with
 | bad e => rfl
 | ok o =>
  cases o with
  | none => rfl
  | some f' =>
   simp only [A8.bind]
   cases Bt A k ks c with
   | bad e => rfl
   | ok ks' => simp only; cases Bu A k bs c <;> rfl
theorem Mg (k : Int) (c : C) : ∀ (i : Nat) (l : List T) (t : T), Ci A k i (l ++ [t]) c = (Ci A k i l c).bind fun l' => (A.Gq c (binds k ((i + l.length : Nat) : Int))).bind fun c' => (Bh A t c').bind fun t' => .ok (l' ++ [t'])
 | i, [], t => by
  simp only [List.nil_append, Ch, Ct, A8.bind, List.length_nil, Nat.add_zero]
 | i, a :: l, t => by
  simp only [List.cons_append, Ch, Mg k c (i + 1) l t, List.length_cons]
  rw [show i + 1 + l.length = i + (l.length + 1) by omega]
  cases A.Gq c (binds k i) with
  | bad e => rfl
  | ok c1 =>
   simp only [A8.bind]
   cases Bh A a c1 with
   | bad e => rfl
   | ok a' =>
    simp only
    cases Ci A k (i + 1) l c with
    | bad e => rfl
    | ok l' =>
     simp only
     cases A.Gq c (binds k ((i + (l.length + 1) : Nat) : Int)) with
     | bad e => rfl
     | ok c2 => simp only; cases Bh A t c2 <;> rfl
theorem Me (k : Int) (c : C) : ∀ (l : List T) (t : T), Bt A k (l ++ [t]) c = (Bt A k l c).bind fun l' => (A.Gq c (0, more k)).bind fun c' => (Bh A t c').bind fun t' => .ok (l' ++ [t'])
 | [], t => by simp only [List.nil_append, Cg, Cy, A8.bind]
 | a :: l, t => by
  simp only [List.cons_append, Cg, Me k c l t]
  cases A.Gq c (0, more k) with
  | bad e => rfl
  | ok c1 =>
   simp only [A8.bind]
   cases Bh A a c1 with
   | bad e => rfl
   | ok a' =>
    simp only
    cases Bt A k l c with
    | bad e => rfl
    | ok l' => simp only; cases Bh A t c1 <;> rfl
theorem Jw (k : Int) (c : C) : ∀ (l : List Br) (b : Br), Bu A k (l ++ [b]) c = (Bu A k l c).bind fun l' => (A.As c b.As).bind fun f => match f with
  | none => .ok l'
  | some f' => (Bt A k b.kids c).bind fun ks' => .ok (l' ++ [.mk f' ks'])
 | [], b => by
  simp only [List.nil_append, C7, Co, A8.bind]
 | a :: l, b => by
  simp only [List.cons_append, C7, Jw k c l b]
  cases A.As c a.As with
  | bad e => rfl
  | ok o =>
   cases o with
   | none => rfl
   | some f' =>
    simp only [A8.bind]
    cases Bt A k a.kids c with
    | bad e => rfl
    | ok ks' =>
     simp only
     cases Bu A k l c with
     | bad e => rfl
     | ok l' =>
      simp only
      cases A.As c b.As with
      | bad e => rfl
      | ok o2 =>
       cases o2 with
       | none => rfl
       | some f2 => simp only; cases Bt A k b.kids c <;> rfl
theorem T8 {k e : Int} {c : C} : ∀ {l m : List T} {i : Nat}, Ci A k i l c = .bad e → Ci A k i (l ++ m) c = .bad e
 | [], m, i, h => by rw [Ct] at h; cases h
 | a :: l, m, i, h => by
  rw [List.cons_append, Ch]
  rw [Ch] at h
  cases h1 : A.Gq c (binds k i) with
  | bad e' => rw [h1] at h; exact h
  | ok c1 =>
   rw [h1] at h
   simp only [A8.bind] at h ⊢
   cases h2 : Bh A a c1 with
   | bad e' => rw [h2] at h; exact h
   | ok a' =>
    rw [h2] at h
    simp only at h ⊢
    cases h3 : Ci A k (i + 1) l c with
    | bad e' => rw [h3] at h; rw [T8 h3]; exact h
    | ok l' => rw [h3] at h; cases h
theorem T7 {k e : Int} {c : C} : ∀ {l m : List T}, Bt A k l c = .bad e → Bt A k (l ++ m) c = .bad e
 | [], m, h => by rw [Cy] at h; cases h
 | a :: l, m, h => by
  rw [List.cons_append, Cg]
  rw [Cg] at h
  cases h1 : A.Gq c (0, more k) with
  | bad e' => rw [h1] at h; exact h
  | ok c1 =>
   rw [h1] at h
   simp only [A8.bind] at h ⊢
   cases h2 : Bh A a c1 with
   | bad e' => rw [h2] at h; exact h
   | ok a' =>
    rw [h2] at h
    simp only at h ⊢
    cases h3 : Bt A k l c with
    | bad e' => rw [h3] at h; rw [T7 h3]; exact h
    | ok l' => rw [h3] at h; cases h
theorem Oy {k e : Int} {c : C} : ∀ {l m : List Br}, Bu A k l c = .bad e → Bu A k (l ++ m) c = .bad e
 | [], m, h => by rw [Co] at h; cases h
 | a :: l, m, h => by
  rw [List.cons_append, C7]
  rw [C7] at h
  cases h1 : A.As c a.As with
  | bad e' => rw [h1] at h; exact h
  | ok o =>
   rw [h1] at h
   cases o with
   | none => exact Oy (l := l) h
   | some f' =>
    simp only [A8.bind] at h ⊢
    cases h2 : Bt A k a.kids c with
    | bad e' => rw [h2] at h; exact h
    | ok a' =>
     rw [h2] at h
     simp only at h ⊢
     cases h3 : Bu A k l c with
     | bad e' => rw [h3] at h; rw [Oy h3]; exact h
     | ok l' => rw [h3] at h; cases h
theorem Ox {k : Int} {c : C} : ∀ {l l' : List T} {i : Nat}, Ci A k i l c = .ok l' → l'.length = l.length
 | [], l', i, h => by rw [Ct] at h; injection h with h; subst h; rfl
 | a :: l, l', i, h => by
  rw [Ch] at h
  obtain ⟨c1, _, h⟩ := A8.A0 h
  obtain ⟨t', _, h⟩ := A8.A0 h
  obtain ⟨ts', h3, h⟩ := A8.A0 h
  injection h with h
  subst h
  simp [Ox h3]
theorem Ow {k : Int} {c : C} : ∀ {l l' : List T}, Bt A k l c = .ok l' → l'.length = l.length
 | [], l', h => by rw [Cy] at h; injection h with h; subst h; rfl
 | a :: l, l', h => by
  rw [Cg] at h
  obtain ⟨c1, _, h⟩ := A8.A0 h
  obtain ⟨t', _, h⟩ := A8.A0 h
  obtain ⟨ts', h3, h⟩ := A8.A0 h
  injection h with h
  subst h
  simp [Ow h3]
theorem Lg {k : Int} {c : C} : ∀ {l l' : List Br}, Bu A k l c = .ok l' → l'.length ≤ l.length
 | [], l', h => by rw [Co] at h; injection h with h; subst h; simp
 | a :: l, l', h => by
  rw [C7] at h
  obtain ⟨o, _, h⟩ := A8.A0 h
  cases o with
  | none => have := Lg (l := l) h; simp; omega
  | some f' =>
   obtain ⟨ks', _, h⟩ := A8.A0 h
   obtain ⟨bs', h3, h⟩ := A8.A0 h
   injection h with h
   subst h
   have := Lg h3
   simp; omega
end
theorem A1k {a0 a1 a2 a3 a4 a5 a6 a7 a8 a9 a10 a11 m : B3} {L : List B3} : (a0 :: a1 :: a2 :: a3 :: a4 :: a5 :: a6 :: a7 :: a8 :: a9 :: a10 :: a11 :: m :: L).Perm (m :: a0 :: a1 :: a2 :: a3 :: a4 :: a5 :: a6 :: a7 :: a8 :: a9 :: a10 :: a11 :: L) := (A8j.cons a0).trans Ay
theorem I1 {a0 a1 a2 a3 a4 a5 a6 a7 a8 a9 a10 a11 a12 m : B3} {L : List B3} : (a0 :: a1 :: a2 :: a3 :: a4 :: a5 :: a6 :: a7 :: a8 :: a9 :: a10 :: a11 :: a12 :: m :: L).Perm (m :: a0 :: a1 :: a2 :: a3 :: a4 :: a5 :: a6 :: a7 :: a8 :: a9 :: a10 :: a11 :: a12 :: L) := (A1k.cons a0).trans Ay
theorem I0 {a0 a1 a2 a3 a4 a5 a6 a7 a8 a9 a10 a11 a12 a13 m : B3} {L : List B3} : (a0 :: a1 :: a2 :: a3 :: a4 :: a5 :: a6 :: a7 :: a8 :: a9 :: a10 :: a11 :: a12 :: a13 :: m :: L).Perm (m :: a0 :: a1 :: a2 :: a3 :: a4 :: a5 :: a6 :: a7 :: a8 :: a9 :: a10 :: a11 :: a12 :: a13 :: L) := (I1.cons a0).trans Ay
theorem Hz {a0 a1 a2 a3 a4 a5 a6 a7 a8 a9 a10 a11 a12 a13 a14 m : B3} {L : List B3} : (a0 :: a1 :: a2 :: a3 :: a4 :: a5 :: a6 :: a7 :: a8 :: a9 :: a10 :: a11 :: a12 :: a13 :: a14 :: m :: L).Perm (m :: a0 :: a1 :: a2 :: a3 :: a4 :: a5 :: a6 :: a7 :: a8 :: a9 :: a10 :: a11 :: a12 :: a13 :: a14 :: L) := (I0.cons a0).trans Ay
def Sj (T : TypeId) (e : Int) : List PanicEntry := [{ v := .iface T (.int .i64 e), recovered := false }]
def M7 (P : Program) (T : TypeId) (k : FuncId) (args : Array Value) (pre : List Fact) {α : Type} (r : A8 α) {X : α → Type} (val : ∀ a : α, X a → Value) (N : ∀ a : α, X a → List Fact) (Ms1 : ∀ a : α, X a → List B3) : Prop :=
 (∀ a, r = .ok a → Spec P k args pre [] (val a) (N a) (Ms1 a)) ∧ (∀ e, r = .bad e → Oq P k args pre (Sj T e))
def B3e (B : C0) (T : TypeId) {α : Type} (r : A8 α) {X : α → Type} (val : ∀ a : α, X a → Value) (N : ∀ a : α, X a → List Fact) (Ms1 : ∀ a : α, X a → List B3) (e : Ending) (w' : World) : Prop :=
 (∀ a, r = .ok a → Ends B (val a) (N a) (Ms1 a) e w') ∧ (∀ x, r = .bad x → e = .panicked (Sj T x) ∧ St B [] [] w')
section
variable {P : Program} {f : FuncId} {B : C0} {n : Fz} {K : List Item} {σ : Nat → Value} {Γ : List Fact} {Ms : List B3} {todo : List Item} {T : TypeId} {α : Type} {X : α → Type} {r : A8 α} {val : ∀ a : α, X a → Value} {N : ∀ a : α, X a → List Fact} {Ms1 : ∀ a : α, X a → List B3}
theorem E4.D3s {R R' : Ending → World → Prop} (hm : ∀ e w, R e w → R' e w) (h : E4 P f R B n todo σ Γ Ms) : E4 P f R' B n todo σ Γ Ms := fun a w hr hs b cs hb hk => by
 obtain ⟨e, w', fr, hR, hc, hf, hl⟩ := h a w hr hs b cs hb hk
 exact ⟨e, w', fr, hm _ _ hR, hc, hf, hl⟩
theorem go_ok {a : α} (hr : r = .ok a) (h : E4 P f (Ends B (val a) (N a) (Ms1 a)) B n todo σ Γ Ms) : E4 P f (B3e B T r val N Ms1) B n todo σ Γ Ms :=
 E4.D3s (fun e w he => ⟨fun b hb => by rw [hr] at hb; injection hb with hb; subst hb; exact he, fun x hx => by rw [hr] at hx; cases hx⟩) h
theorem Qn {β : Type} (q : A8 β) {R : Ending → World → Prop} (h1 : ∀ a, q = .ok a → E4 P f R B n todo σ Γ Ms) (h2 : ∀ e, q = .bad e → E4 P f R B n todo σ Γ Ms) : E4 P f R B n todo σ Γ Ms := by
 cases hq : q with
 | ok a => exact h1 a hq
 | bad e => exact h2 e hq
theorem B2n {K : List Item} {it : Item} {R : Ending → World → Prop} {Ms' : List B3} (p : Prop) (live : List (Nat × Value)) (h1 : (p → ∀ σ', Nj σ' live → E4 P f R B n K σ' Γ Ms') → E4 P f R B n (it :: K) σ Γ Ms) (h2 : p → ∀ base, E4 P f R B n K (stL base live) Γ Ms') : E4 P f R B n (it :: K) σ Γ Ms :=
 h1 (fun hp σ' hl => go_slots live hl (h2 hp))
theorem H9 {e : Int} (hr : r = .bad e) : ∀ w, St B [] [] w → B3e B T r val N Ms1 (.panicked (Sj T e)) w := fun w hs =>
 ⟨fun a ha => (by rw [hr] at ha; cases ha), fun x hx => (by rw [hr] at hx; injection hx with hx; subst hx; exact ⟨rfl, hs⟩)⟩
theorem Rk {k : FuncId} {fn : Func} {c : Code} {args : List Value} {pre : List Fact} {n : Nat} (hf : P.funcs[k]? = some fn) (hn : fn.ntmps = n) (hb : fn.body = some c) (ha : args.length ≤ n)
  (h : ∀ B : C0, (∀ b, B.S0 b ↔ B6 [] b) → E4 P k (B3e B T r val N Ms1) B ⟨n, [], .normal⟩ [.code c] (fun t => args.getD t undef) pre []) : M7 P T k args.toArray pre r val N Ms1 := by
 have he : (fun t => args.toArray.getD t undef) = fun t => args.getD t undef := by
  funext t
  simp [Array.getD_eq_getD_getElem?, List.getD_eq_getElem?_getD]
 have key : ∀ ok w, (∀ b, ok b → b < w.heap.size ∧ ¬ B6 [] b) → St ⟨ok, B6 [], w⟩ pre [] w → Calls P k args.toArray w (B3e ⟨ok, B6 [], w⟩ T r val N Ms1) := by
  intro ok w hok hs
  refine A6k (n := ⟨n, [], .normal⟩) hf hb hn rfl rfl (by simpa using ha) hs ?_
  have := h ⟨ok, B6 [], w⟩ (fun _ => Iff.rfl)
  rw [he]
  exact this
 exact ⟨fun a hr ok w hok hs => (key ok w hok hs).mono fun e w' h => h.1 a hr, fun x hr ok w hok hs => (key ok w hok hs).mono fun e w' h => h.2 x hr⟩
end
def A0m (L : List Fact) : Fact := ⟨fun ok w => ∀ F, F ∈ L → F.f ok w, fun ok ok' w hs h F hF => F.mono ok ok' w hs (h F hF), fun ok w w' h hs F hF => F.loc ok w w' (h F hF) hs⟩
section
variable {B : C0} {Γ : List Fact} {Ms : List B3} {w : World} {L : List Fact}
theorem St.A2n (hs : St B Γ Ms w) (h : ∀ F, F ∈ L → F ∈ Γ) : St B (A0m L :: Γ) Ms w := hs.add (fun F hF => hs.facts F (h F hF))
theorem St.B6u (hs : St B [A0m L] Ms w) : St B L Ms w := ⟨hs.chg, fun F hF => hs.facts _ List.mem_cons_self F hF, hs.res, hs.lt, hs.disj⟩
theorem Spec.A2n {P : Program} {k : FuncId} {args : Array Value} {Ms0 : List B3} {X : Type} {val : X → Value} {N : X → List Fact} {Ms1 : X → List B3} (h : Spec P k args L Ms0 val N Ms1) : Spec P k args [A0m L] Ms0 val N Ms1 := fun ok w hok hs => h ok w hok hs.B6u
theorem Oq.A2n {P : Program} {k : FuncId} {args : Array Value} {chain : List PanicEntry} (h : Oq P k args L chain) : Oq P k args [A0m L] chain := fun ok w hok hs => h ok w hok hs.B6u
theorem M7.A2n {P : Program} {T : TypeId} {k : FuncId} {args : Array Value} {α : Type} {r : A8 α} {X : α → Type} {val : ∀ a : α, X a → Value} {N : ∀ a : α, X a → List Fact} {Ms1 : ∀ a : α, X a → List B3} (h : M7 P T k args L r val N Ms1) : M7 P T k args [A0m L] r val N Ms1 := ⟨fun a ha => (h.1 a ha).A2n, fun e he => (h.2 e he).A2n⟩
end
section
variable {P : Program} [Tab P] {f : FuncId} {R : Ending → World → Prop} {B : C0} {n : Fz} {K : List Item} {ops : Array Oper} {i : Nat} {l : List Nat} {σ : Nat → Value} {Γ : List Fact} {Ms : List B3}
variable {dst : Option Tmp} {ty : TypeId} {v : Value} {x y : Operand}
theorem B8k {t : TypeId} {d : TypeDesc} (hu : Tab.und P t = some d) (hd : (match d with | .interface _ => true | _ => false) = false) (hx : ev σ x = v) : Ce P σ (.makeInterface t x) ty (.iface t v) := fun w => by
 cases d <;> first | (simp at hd; done) | simp [Cd, execOp, hx, Instr.makeInterface, D7 hu]
theorem B1y {t : TypeId} {d : TypeDesc} (k_ : Dp P f R B n K ops l (Ak σ dst (.iface t v)) Γ Ms) (hx : ev σ x = v := by exact Ac) (hu : Tab.und P t = some d := by rfl) (hdd : (match d with | .interface _ => true | _ => false) = false := by rfl) (hd : Ae n dst = true := by rfl) : E8 P f R B n K ops l (Cd dst (.makeInterface t x) ty) σ Γ Ms := Bb (B8k hu hdd hx) hd k_
theorem B1x {T : TypeId} {e : Int} (hR : ∀ w, St B [] [] w → R (.panicked (Sj T e)) w) (hx : ev σ x = .iface T (.int .i64 e) := by exact Ac) (hD : n.defs = [] := by rfl) (hK : okK n.kind := by first | exact .inl rfl | exact .inr rfl) : E8 P f R B n K ops l (Cd dst (.panic x) ty) σ Γ Ms := fun a w hr hs => by
 unfold Oper.wp
 rw [hr.eval]
 have e1 : (execOp (ev σ) (Cd dst (.panic x) ty)).run P w = .halt (.panic (.iface T (.int .i64 e))) w := by
  simp only [Cd, execOp, hx]
  rfl
 rw [e1, Oper.upon_panic]
 refine ⟨hK.imp id (fun h => ⟨h, hr.defs.trans hD⟩), fun fn hfn => ?_⟩
 rw [hr.defs, hD]
 exact hR w (St.Kv (A := Ms) (Ms := []) (by rw [List.append_nil]; exact hs.less (fun F hF => by cases hF)))
theorem C4b {c : FuncId} {cap : List Value} {ts : Array TypeId} {g : Operand} (k_ : Dp P f R B ⟨n.sz, ⟨.fn (.func c) cap.toArray, #[]⟩ :: n.defs, n.kind⟩ K ops l σ Γ Ms) (hg : ev σ g = .func (.func c) #[] cap.toArray := by rfl) : E8 P f R B n K ops l (Cd none (.defer { callee := .value g, args := #[], argTypes := ts }) ty) σ Γ Ms := fun a w hr hs => by
 unfold Oper.wp
 rw [hr.eval]
 have e1 : (execOp (ev σ) (Cd none (.defer { callee := .value g, args := #[], argTypes := ts }) ty)).run P w = .ok (.defer ⟨.fn (.func c) cap.toArray, #[]⟩) w := by
  simp [Cd, execOp, resolve, hg, Deferred.ofValue]
 rw [e1, Oper.upon_defer]
 exact k_ _ _ ⟨hr.size, hr.get, by show _ :: a.defers = _; rw [hr.defs]⟩ hs
end
def Sx (P : Program) (k : FuncId) (args : Array Value) (pre : List Fact) (Ms0 : List B3) (u u' : FrameMode) (N : List Fact) (Ms1 : List B3) : Prop :=
 ∀ ok w, (∀ b, ok b → b < w.heap.size ∧ ¬ B6 Ms0 b) → St ⟨ok, B6 Ms0, w⟩ pre Ms0 w → CallsD P k args u w fun e v w' => e = .returned (.tuple #[]) ∧ v = u' ∧ St ⟨ok, B6 Ms0, w⟩ N Ms1 w'
section
variable {P : Program} {f : FuncId} {fn : Func} {R : Ending → World → Prop} {B : C0} {n : Fz} {K : List Item} {σ : Nat → Value} {Γ : List Fact} {Ms : List B3}
theorem B2h {k : FuncId} {cap : List Value} {pre N : List Fact} {Ms0 Ms1 Ms2 : List B3} {u u' : FrameMode} {tmps : Array Value} {w : World} (hu : u ≠ .run) (hc : ∀ (args : Array Value) (w : World), (callFunc k args).run P w = .ok (.enter k args) w) (hsp : Sx P k cap.toArray pre Ms0 u u' N Ms1) (hpre : ∀ F, F ∈ pre → F ∈ Γ) (hm : Ms.Perm (Ms0 ++ Ms2)) (hset : settle u' = .returning)
  (hs : St B Γ Ms w) (hres : ∀ w', St B (N ++ Γ) (Ms1 ++ Ms2) w' → ∃ v, (results fn tmps).run P w' = .ok v w' ∧ R (.returned v) w') : Leaves P fn tmps R [⟨.fn (.func k) cap.toArray, #[]⟩] u w := by
 refine leaves_cons (f := k) (args := cap.toArray) hu (by simp [invoke, hc]) ?_
 have hs' := hs.perm hm
 refine (hsp (Mo B (Ms0 ++ Ms2) w) w ?_ (hs'.hand hpre)).mono ?_
 ·intro b hb
  exact ⟨hb.2.1, fun hc => hb.2.2 (D3.2 (.inl hc))⟩
 ·rintro e v w' ⟨rfl, rfl, hx⟩
  show Leaves P fn tmps R [] (settle v) w'
  rw [hset]
  obtain ⟨v', h1, h2⟩ := hres w' (hs'.frame hx)
  exact ⟨v', h1, h2⟩
theorem C4s {k : FuncId} {cap : List Value} {pre N : List Fact} {Ms0 Ms1 Ms2 : List B3} (hf : P.funcs[f]? = some fn) (hc : ∀ (args : Array Value) (w : World), (callFunc k args).run P w = .ok (.enter k args) w) (hsp : Sx P k cap.toArray pre Ms0 .returning .returning N Ms1) (hpre : ∀ F, F ∈ pre → F ∈ Γ) (hm : Ms.Perm (Ms0 ++ Ms2))
  (hres : ∀ a w', Rel n a σ → St B (N ++ Γ) (Ms1 ++ Ms2) w' → ∃ v, (results fn a.tmps).run P w' = .ok v w' ∧ R (.returned v) w') (hD : n.defs = [⟨.fn (.func k) cap.toArray, #[]⟩] := by rfl) (hK : n.kind = .normal := by rfl) : E4 P f R B n (.code .ret :: K) σ Γ Ms := by
 intro a w hr hs b cs hb hk
 have hfn : P.funcs[b.fn]? = some fn := by rw [hb]; exact hf
 have hL : Leaves P fn a.tmps R a.defers .returning w := by
  rw [hr.defs, hD]
  exact B2h D2 hc hsp hpre hm rfl hs (fun w' h => hres a w' hr h)
 obtain ⟨e, w', fr, hR, hs', hf', hl⟩ := leaves_steps a.defers .returning w { b.at a (.code .ret :: K) with mode := .returning } cs rfl rfl rfl hfn (hk.trans hK) hL
 exact ⟨e, w', fr, hR, hs'.of_steps (.one step_ret), hf'.trans hb, .inl ⟨hK, hl⟩⟩
theorem C3s {ops : Array Oper} {l : List Nat} {dst : Option Tmp} {op : Op} {ty : TypeId} {c k : FuncId} {args : Array Value} {cap : List Value} {pre pre2 N : List Fact} {chain : List PanicEntry} {Ms0 Ms1 Ms2 : List B3} {u' : FrameMode} (he : Ot P σ op ty c args) (hsp : Oq P c args pre chain) (hpre : ∀ F, F ∈ pre → F ∈ Γ) (hf : P.funcs[f]? = some fn)
  (hc : ∀ (args : Array Value) (w : World), (callFunc k args).run P w = .ok (.enter k args) w) (hsd : Sx P k cap.toArray pre2 Ms0 (.panicking chain) u' N Ms1) (hpre2 : ∀ F, F ∈ pre2 → F ∈ Γ) (hm : Ms.Perm (Ms0 ++ Ms2)) (hset : settle u' = .returning)
  (hres : ∀ a w', Rel n a σ → St B (N ++ Γ) (Ms1 ++ Ms2) w' → ∃ v, (results fn a.tmps).run P w' = .ok v w' ∧ R (.returned v) w') (hD : n.defs = [⟨.fn (.func k) cap.toArray, #[]⟩] := by rfl) (hK : n.kind = .normal := by rfl) : E8 P f R B n K ops l (Cd dst op ty) σ Γ Ms := by
 intro a w hr hs
 unfold Oper.wp
 rw [hr.eval, show (execOp (ev σ) (Cd dst op ty)).run P w = .ok (.enter c args) w by rw [Cd, E3 (d' := none)]; exact he w]
 have hs' : St B Γ ([] ++ Ms) w := hs
 refine (hsp (Mo B ([] ++ Ms) w) w (fun b hb => ⟨hb.2.1, Ga b⟩) (hs'.hand hpre)).mono ?_
 rintro e w' ⟨rfl, hx⟩
 refine ⟨.inl hK, fun fn' hfn' => ?_⟩
 rw [hf] at hfn'
 injection hfn' with hfn'
 subst hfn'
 rw [hr.defs, hD]
 have h1 : St B Γ Ms w' := by have := hs'.frame hx; simpa using this
 exact B2h D2 hc hsd hpre2 hm hset h1 (fun w' h => hres a w' hr h)
end
section
variable {P : Program} {f : FuncId} {fn : Func} {B : C0} {Γ : List Fact} {Ms : List B3}
theorem B0g {R : Ending → World → Prop} {n : Fz} {args : Array Value} {c : Code} {w : World} {d d2 : Tmp} {o1 o2 : Oper} {id : Nat} (hf : P.funcs[f]? = some fn) (hb : fn.body = some (.seq (.region id #[o1, o2] false) c)) (hn : fn.ntmps = n.sz) (hD : n.defs = []) (hk : n.kind = .deferred) (ha : args.size ≤ n.sz) (hs : St B Γ Ms w)
  (h1 : ∀ ρ w, (execOp ρ o1).run P w = .ok .recover w) (hd1 : o1.dst = some d) (hg1 : o1.guard = none) (h2 : ∀ ρ : Operand → Value, execOp ρ o2 = pure (.value (ρ (.tmp d)))) (hd2 : o2.dst = some d2) (hg2 : o2.guard = none) (hl1 : Nat.blt d n.sz = true) (hl2 : Nat.blt d2 n.sz = true)
  (h : E4 P f R B n [.code c] (Pg (Pg (fun t => args.getD t undef) d .nilIface) d2 .nilIface) Γ Ms) : CallsD P f args .returning w fun e u' w' => u' = .returning ∧ R e w' := by
 intro c0 cs hu
 let b : Frame := { (default : Frame) with fn := f, kind := .deferred }
 have henter : Frame.enter P f args .deferred = b.at { tmps := args ++ Array.replicate (fn.ntmps - args.size) undef, defers := [] } [.code (.seq (.region id #[o1, o2] false) c)] := by
  simp [Frame.enter, Frame.at, hf, hb, b]
 have hr0 := Ti (fn := fn) hn hD ha
 have hr1 := hr0.put (dst := some d) hl1 .nilIface
 have hr2 := hr1.put (dst := some d2) hl2 .nilIface
 have hS : wpOpsS P #[o1, o2] (fun e a' cs' w' => e = .normal ∧ a' = (({ tmps := args ++ Array.replicate (fn.ntmps - args.size) undef, defers := [] } : Act).put (some d) .nilIface).put (some d2) .nilIface ∧ cs' = c0 :: cs ∧ w' = w) [0, 1] { tmps := args ++ Array.replicate (fn.ntmps - args.size) undef, defers := [] } (c0 :: cs) w := by
  have e1 : (#[o1, o2])[0]? = some o1 := rfl
  have e2 : (#[o1, o2])[1]? = some o2 := rfl
  have hrec : recoverD (c0 :: cs) = none := by simp [recoverD, hu]
  have hput : ((({ tmps := args ++ Array.replicate (fn.ntmps - args.size) undef, defers := [] } : Act).put (some d) .nilIface).eval (.tmp d)) = .nilIface := by
   rw [hr1.eval]; simp [ev, Ak, Hj]
  simp only [wpOpsS, e1, e2, Region.wanted, hg1, hg2, if_true, h1, hrec, hd1, h2]
  rw [hput]
  show Oper.upon P o2 _ _ _ (.ok (.value .nilIface) w)
  simp only [Oper.upon_value, hd2, and_self]
 obtain ⟨e, a', cs', w', ⟨rfl, rfl, rfl, rfl⟩, harr⟩ := wp_opsS [0, 1] _ _ _ hS b [.code c] rfl rfl
 obtain ⟨e, w2, fr, hR, hc, hf', hl⟩ := h _ w' hr2 hs b (c0 :: cs) rfl hk.symm
 rcases hl with ⟨h9, _⟩ | ⟨_, hk2, hgo⟩
 ·rw [hk] at h9; cases h9
 ·refine ⟨e, .returning, w2, fr, ⟨rfl, hR⟩, ?_, hk2, hgo⟩
  have hc0 : ({ c0 with mode := .returning } : Frame) = c0 := by rw [← hu]
  rw [henter, hc0]
  exact hc.of_steps (.head step_seq (.head step_region harr))
theorem A0h {args : List Value} {d d2 : Nat} {v : Value} : (Pg (Pg (fun t => args.toArray.getD t undef) d v) d2 v) = Pg (Pg (fun t => args.getD t undef) d v) d2 v := by
 have he : (fun t => args.toArray.getD t undef) = fun t => args.getD t undef := by
  funext t
  simp [Array.getD_eq_getD_getElem?, List.getD_eq_getElem?_getD]
 rw [he]
theorem B7d {args : List Value} {c : Code} {d d2 sz : Nat} {o1 o2 : Oper} {id : Nat} {v : Value} {older : List PanicEntry} {N pre : List Fact} {Ms0 Ms1 : List B3} (hf : P.funcs[f]? = some fn) (hb : fn.body = some (.seq (.region id #[o1, o2] false) c)) (hn : fn.ntmps = sz) (ha : args.length ≤ sz)
  (h1 : ∀ ρ w, (execOp ρ o1).run P w = .ok .recover w) (hd1 : o1.dst = some d) (hg1 : o1.guard = none) (h2 : ∀ ρ : Operand → Value, execOp ρ o2 = pure (.value (ρ (.tmp d)))) (hd2 : o2.dst = some d2) (hg2 : o2.guard = none) (hl1 : Nat.blt d sz = true) (hl2 : Nat.blt d2 sz = true)
  (h : ∀ B : C0, (∀ b, B.S0 b ↔ B6 Ms0 b) → E4 P f (Ends B (fun _ : Unit => .tuple #[]) (fun _ => N) (fun _ => Ms1)) B ⟨sz, [], .deferred⟩ [.code c] (Pg (Pg (fun t => args.getD t undef) d v) d2 v) pre Ms0) :
  Sx P f args.toArray pre Ms0 (.panicking ({ v, recovered := false } :: older)) (.panicking ({ v, recovered := true } :: older)) N Ms1 := by
 intro ok w hok hs
 refine (B6c (n := ⟨sz, [], .deferred⟩) hf hb hn rfl rfl (by simpa using ha) hs h1 hd1 hg1 h2 hd2 hg2 hl1 hl2 (by rw [A0h]; exact h ⟨ok, B6 Ms0, w⟩ (fun _ => Iff.rfl))).mono ?_
 rintro e u w' ⟨rfl, _, he, hx⟩
 exact ⟨he, rfl, hx⟩
theorem B3x {args : List Value} {c : Code} {d d2 sz : Nat} {o1 o2 : Oper} {id : Nat} {N pre : List Fact} {Ms0 Ms1 : List B3} (hf : P.funcs[f]? = some fn) (hb : fn.body = some (.seq (.region id #[o1, o2] false) c)) (hn : fn.ntmps = sz) (ha : args.length ≤ sz)
  (h1 : ∀ ρ w, (execOp ρ o1).run P w = .ok .recover w) (hd1 : o1.dst = some d) (hg1 : o1.guard = none) (h2 : ∀ ρ : Operand → Value, execOp ρ o2 = pure (.value (ρ (.tmp d)))) (hd2 : o2.dst = some d2) (hg2 : o2.guard = none) (hl1 : Nat.blt d sz = true) (hl2 : Nat.blt d2 sz = true)
  (h : ∀ B : C0, (∀ b, B.S0 b ↔ B6 Ms0 b) → E4 P f (Ends B (fun _ : Unit => .tuple #[]) (fun _ => N) (fun _ => Ms1)) B ⟨sz, [], .deferred⟩ [.code c] (Pg (Pg (fun t => args.getD t undef) d .nilIface) d2 .nilIface) pre Ms0) :
  Sx P f args.toArray pre Ms0 .returning .returning N Ms1 := by
 intro ok w hok hs
 refine (B0g (n := ⟨sz, [], .deferred⟩) hf hb hn rfl rfl (by simpa using ha) hs h1 hd1 hg1 h2 hd2 hg2 hl1 hl2 (by rw [A0h]; exact h ⟨ok, B6 Ms0, w⟩ (fun _ => Iff.rfl))).mono ?_
 rintro e u w' ⟨rfl, _, he, hx⟩
 exact ⟨he, rfl, hx⟩
end
section
variable {P : Program} [Tab P] {f : FuncId} {R : Ending → World → Prop} {B : C0} {n : Fz} {K : List Item} {ops : Array Oper} {i : Nat} {l : List Nat} {σ : Nat → Value} {Γ : List Fact} {Ms : List B3}
variable {dst : Option Tmp} {ty : TypeId} {v : Value} {x y : Operand}
theorem Yp {t : TypeId} (hu : (match Tab.und P t with | some (.interface _) => true | _ => false) = true) : ∃ m, Tab.und P t = some (.interface m) := by
 cases h : Tab.und P t with
 | none => rw [h] at hu; cases hu
 | some d => cases d <;> rw [h] at hu <;> first | exact ⟨_, rfl⟩ | cases hu
theorem B7p {t T : TypeId} {v : Value} (hu : (match Tab.und P t with | some (.interface _) => true | _ => false) = true) (w : World) : (Op.equal t (.iface T v) .nilIface).run P w = .ok false w := by
 obtain ⟨m, hu'⟩ := Yp hu
 have h1 : (Op.equalIn (9999 + 1) t (.iface T v) .nilIface).run P w = .ok false w := by
  unfold Op.equalIn
  rw [A0 (D7 hu' w)]
  rfl
 exact h1
theorem B7o {t : TypeId} (hu : (match Tab.und P t with | some (.interface _) => true | _ => false) = true) (w : World) : (Op.equal t .nilIface .nilIface).run P w = .ok true w := by
 obtain ⟨m, hu'⟩ := Yp hu
 have h1 : (Op.equalIn (9999 + 1) t .nilIface .nilIface).run P w = .ok true w := by
  unfold Op.equalIn
  rw [A0 (D7 hu' w)]
  rfl
 exact h1
theorem B4q {t t' T : TypeId} (k_ : Dp P f R B n K ops l (Ak σ dst (.bool true)) Γ Ms) (hx : ev σ x = .iface T v := by exact Ac) (hu : (match Tab.und P t with | some (.interface _) => true | _ => false) = true := by rfl) (hd : Ae n dst = true := by rfl) : E8 P f R B n K ops l (Cd dst (.binOp .neq t x (.const .nilIface) t') ty) σ Γ Ms := Bb (D0 hx (show ev σ (.const .nilIface) = Value.nilIface from rfl) (fun w => by simp [eqGuard_at_iface]) (fun w => by
 simp only [binOp]
 rw [A0 (B7p hu w)]; rfl)) hd k_
theorem C3y {t t' : TypeId} (k_ : Dp P f R B n K ops l (Ak σ dst (.bool false)) Γ Ms) (hx : ev σ x = .nilIface := by exact Ac) (hu : (match Tab.und P t with | some (.interface _) => true | _ => false) = true := by rfl) (hd : Ae n dst = true := by rfl) : E8 P f R B n K ops l (Cd dst (.binOp .neq t x (.const .nilIface) t') ty) σ Γ Ms := Bb (D0 hx (show ev σ (.const .nilIface) = Value.nilIface from rfl) (fun w => by cases x <;> rfl) (fun w => by
 simp only [binOp]
 rw [A0 (B7o hu w)]; rfl)) hd k_
theorem B4p {t T : TypeId} {d : TypeDesc} (k_ : Dp P f R B n K ops l (Ak σ dst (.tuple #[v, .bool true])) Γ Ms) (hx : ev σ x = .iface T v := by exact Ac) (hu : Tab.und P T = some d := by rfl) (hdd : (match d with | .interface _ => true | _ => false) = false := by rfl) (hd : Ae n dst = true := by rfl) : E8 P f R B n K ops l (Cd dst (.typeAssert x t T true) ty) σ Γ Ms := Bb (fun w => by
 cases d <;> first | (simp at hdd; done) | simp [Cd, execOp, hx, Instr.typeAssert, D7 hu]) hd k_
end
section
variable {P : Program} [Tab P] {f : FuncId} {fn : Func} {B : C0} {n : Fz} {K : List Item} {σ : Nat → Value} {Γ : List Fact} {Ms : List B3} {X : Type} {val : X → Value} {N : X → List Fact} {Ms1 : X → List B3}
theorem Qi {r t T r2 t2 T2 b b2 s bt : Nat} {zv v2 : Value} {d : TypeDesc} {lay : List (Nat × Nat)} {cs : List Value} {a : Act} {w : World} (hr : fn.results = #[.cell r t, .cell r2 t2]) (ha : Rel n a σ) (hs : St B Γ Ms w) (hb : σ r = .pointer (some ⟨b, 0, none⟩)) (hb2 : σ r2 = .pointer (some ⟨b2, 0, none⟩)) (hm : Ag b cs T ∈ Ms) (hm2 : Ag b2 [v2] T2 ∈ Ms)
  (hl : Tab.lay P t = some lay) (hi : Tab.inf P t = some (s, bt, zv)) (hcs : cs.length = s) (hu : Tab.und P t2 = some d) (hd : (match d with | .struct _ | .array _ _ => true | _ => false) = false) : (results fn a.tmps).run P w = .ok (.tuple #[.agg cs.toArray, v2]) w := by
 have h1 := ha.get r
 rw [hb] at h1
 have h3 := ha.get r2
 rw [hb2] at h3
 have h2 := Dd (P := P) (bk := b) (off := 0) (w := w) hl hi hcs (fun j v hj => by rw [Nat.zero_add]; exact K8 hs hm j v hj)
 have h4 : (loadVar t2 ⟨b2, 0, none⟩).run P w = .ok v2 w := Eh (P := P) (off := 0) (w := w) hu hd (K8 hs hm2 0 v2 rfl)
 have h1' : (a.tmps[r]?.getD undef) = .pointer (some ⟨b, 0, none⟩) := by simpa [Array.getD_eq_getD_getElem?] using h1
 have h3' : (a.tmps[r2]?.getD undef) = .pointer (some ⟨b2, 0, none⟩) := by simpa [Array.getD_eq_getD_getElem?] using h3
 simp [results, hr, asAddr, h1', h2, h3', h4]
theorem C6i {r t T r2 t2 T2 b b2 s bt : Nat} {zv v2 : Value} {d : TypeDesc} {lay : List (Nat × Nat)} {cs : List Value} (hf : P.funcs[f]? = some fn) (hr : fn.results = #[.cell r t, .cell r2 t2]) (x : X) (hb : σ r = .pointer (some ⟨b, 0, none⟩)) (hb2 : σ r2 = .pointer (some ⟨b2, 0, none⟩)) (hm : Ag b cs T ∈ Ms) (hm2 : Ag b2 [v2] T2 ∈ Ms)
  (hl : Tab.lay P t = some lay) (hi : Tab.inf P t = some (s, bt, zv)) (hcs : cs.length = s) (hu : Tab.und P t2 = some d) (hd : (match d with | .struct _ | .array _ _ => true | _ => false) = false) (hv : Value.tuple #[.agg cs.toArray, v2] = val x) (hs : ∀ w, St B Γ Ms w → St B (N x) (Ms1 x) w) (hD : n.defs = [] := by rfl) (hK : okK n.kind := by first | exact .inl rfl | exact .inr rfl) : E4 P f (Ends B val N Ms1) B n (.code .ret :: K) σ Γ Ms :=
 go_ret hf (fun a w ha h => (Qi hr ha h hb hb2 hm hm2 hl hi hcs hu hd).trans (by rw [hv])) (fun w h => ⟨x, rfl, hs w h⟩) hD hK
end
section
variable {P : Program} [Tab P] {f : FuncId} {fn : Func} {B : C0} {n : Fz} {K : List Item} {σ : Nat → Value} {Γ : List Fact} {Ms : List B3} {X : Type} {val : X → Value} {N : X → List Fact} {Ms1 : X → List B3}
theorem C7x {r t T r2 t2 T2 b b2 s bt : Nat} {zv v2 : Value} {d : TypeDesc} {lay : List (Nat × Nat)} {cs : List Value} {k : FuncId} {cap : List Value} (hf : P.funcs[f]? = some fn) (hr : fn.results = #[.cell r t, .cell r2 t2]) (hc : ∀ (args : Array Value) (w : World), (callFunc k args).run P w = .ok (.enter k args) w) (hsp : Sx P k cap.toArray [] [] .returning .returning [] [])
  (x : X) (hb : σ r = .pointer (some ⟨b, 0, none⟩)) (hb2 : σ r2 = .pointer (some ⟨b2, 0, none⟩)) (hm : Ag b cs T ∈ Ms) (hm2 : Ag b2 [v2] T2 ∈ Ms)
  (hl : Tab.lay P t = some lay) (hi : Tab.inf P t = some (s, bt, zv)) (hcs : cs.length = s) (hu : Tab.und P t2 = some d) (hd : (match d with | .struct _ | .array _ _ => true | _ => false) = false) (hv : Value.tuple #[.agg cs.toArray, v2] = val x) (hs : ∀ w, St B Γ Ms w → St B (N x) (Ms1 x) w) (hD : n.defs = [⟨.fn (.func k) cap.toArray, #[]⟩] := by rfl) (hK : n.kind = .normal := by rfl) : E4 P f (Ends B val N Ms1) B n (.code .ret :: K) σ Γ Ms :=
 C4s (Ms2 := Ms) hf hc hsp (fun F hF => by cases hF) (List.Perm.refl _) (fun a w' ha h => ⟨_, Qi hr ha h hb hb2 hm hm2 hl hi hcs hu hd, ⟨x, by rw [hv], hs w' h⟩⟩) hD hK
theorem C8h {r t T r2 t2 T2 b b2 s bt : Nat} {zv v2 : Value} {d : TypeDesc} {lay : List (Nat × Nat)} {cs cs0 : List Value} {v0 : Value} {k c : FuncId} {cap : List Value} {ops : Array Oper} {l : List Nat} {dst : Option Tmp} {op : Op} {ty : TypeId} {args : Array Value} {pre : List Fact} {chain : List PanicEntry} {u' : FrameMode} {Ms2 : List B3} (he : Ot P σ op ty c args) (hspp : Oq P c args pre chain) (hpre : ∀ F, F ∈ pre → F ∈ Γ)
  (hf : P.funcs[f]? = some fn) (hr : fn.results = #[.cell r t, .cell r2 t2]) (hc : ∀ (args : Array Value) (w : World), (callFunc k args).run P w = .ok (.enter k args) w) (hsp : Sx P k cap.toArray [] [Ag b cs0 T, Ag b2 [v0] T2] (.panicking chain) u' [] [Ag b cs T, Ag b2 [v2] T2]) (hset : settle u' = .returning) (hm : Ms.Perm (Ag b cs0 T :: Ag b2 [v0] T2 :: Ms2))
  (x : X) (hb : σ r = .pointer (some ⟨b, 0, none⟩)) (hb2 : σ r2 = .pointer (some ⟨b2, 0, none⟩))
  (hl : Tab.lay P t = some lay) (hi : Tab.inf P t = some (s, bt, zv)) (hcs : cs.length = s) (hu : Tab.und P t2 = some d) (hd : (match d with | .struct _ | .array _ _ => true | _ => false) = false) (hv : Value.tuple #[.agg cs.toArray, v2] = val x) (hs : ∀ w, St B Γ [] w → St B (N x) (Ms1 x) w) (hD : n.defs = [⟨.fn (.func k) cap.toArray, #[]⟩] := by rfl) (hK : n.kind = .normal := by rfl) : E8 P f (Ends B val N Ms1) B n K ops l (Cd dst op ty) σ Γ Ms :=
 C3s (Ms0 := [Ag b cs0 T, Ag b2 [v0] T2]) (Ms2 := Ms2) he hspp hpre hf hc hsp (fun F hF => by cases hF) hm hset (fun a w' ha h => ⟨_, Qi hr ha h hb hb2 (List.mem_cons_self) (List.mem_cons_of_mem _ List.mem_cons_self) hl hi hcs hu hd, ⟨x, by rw [hv], hs w' (St.Kv (A := Ag b cs T :: Ag b2 [v2] T2 :: Ms2) (Ms := []) (by rw [List.append_nil]; exact h))⟩⟩) hD hK
end
section
variable {P : Program} [Tab P] {f : FuncId} {R : Ending → World → Prop} {B : C0} {n : Fz} {K : List Item} {ops : Array Oper} {i : Nat} {l : List Nat} {σ : Nat → Value} {Γ : List Fact} {Ms : List B3}
variable {dst : Option Tmp} {ty : TypeId} {v : Value} {x y : Operand}
theorem B4h {s d : TypeId} {a : Nat} (hs : Tab.und P s = some (.int .u32)) (hd : Tab.und P d = some (.int .u64)) (hx : ev σ x = .int .u32 (a : Int)) (ha : a < 4294967296) : Ce P σ (.convert s d x) ty (.int .u64 (a : Int)) := by
 have e : IntKind.u64.wrap (a : Int) = (a : Int) := by
  have : IntKind.u64.wrap (a : Int) = (a : Int) % 18446744073709551616 := by simp [IntKind.wrap, IntKind.bits, IntKind.signed]
  rw [this]; omega
 have := K0 (P := P) (ty := ty) hs hd hx
 rwa [e] at this
theorem B9e {s d : TypeId} {a : Nat} (k_ : Dp P f R B n K ops l (Ak σ dst (.int .u64 (a : Int))) Γ Ms) (hx : ev σ x = .int .u32 (a : Int) := by exact Ac) (ha : a < 4294967296 := by first | assumption | omega) (hs : Tab.und P s = some (.int .u32) := by rfl) (hd' : Tab.und P d = some (.int .u64) := by rfl) (hd : Ae n dst = true := by rfl) : E8 P f R B n K ops l (Cd dst (.convert s d x) ty) σ Γ Ms := Bb (B4h hs hd' hx ha) hd k_
end
end Go.Hy
namespace Go.Hy
def Dh (c d : Cl) : Cl := ⟨c.pos ||| d.pos, c.neg ||| d.neg⟩
theorem B0l (c d : Cl) : decide (Dh c d = c) = below c d := by
 obtain ⟨p, n⟩ := c
 obtain ⟨p', n'⟩ := d
 simp [Dh, below]
def Mn (l : List Cl) (i : Nat) : Nat := (l.take i).foldl (fun a c => a ||| (c.pos ||| c.neg)) 0
theorem A4f {l : List Cl} {i : Nat} (h : i < l.length) : Mn l (i + 1) = Mn l i ||| ((l.getD i Bz).pos ||| (l.getD i Bz).neg) := by
 unfold Mn; rw [Aj (d := Bz) h, List.foldl_append]; rfl
theorem Zd {l : List Cl} (h : ∀ c, c ∈ l → u32 c) : ∀ i, Mn l i < 4294967296 := by
 intro i
 have : ∀ (m : List Cl) (a : Nat), (∀ c, c ∈ m → u32 c) → a < 4294967296 → m.foldl (fun a c => a ||| (c.pos ||| c.neg)) a < 4294967296 := by
  intro m
  induction m with
  | nil => intro a _ h; exact h
  | cons c m ih =>
   intro a hm ha
   have hc := hm c List.mem_cons_self
   exact ih _ (fun d hd => hm d (List.mem_cons_of_mem _ hd)) (Nat.or_lt_two_pow (n := 32) ha (Nat.or_lt_two_pow (n := 32) hc.1 hc.2))
 exact this _ 0 (fun c hc => h c (List.mem_of_mem_take hc)) A3
theorem A6e (l : List Cl) : Eo l = Mn l l.length &&& 16777215 := by
 unfold Eo Mn; rw [List.take_length]
theorem A6t {s : Nat} (hs : s < 4294967296) : decide ((B1 s 16777215 : Int) = 0) = decide (s < 16777216) := by
 apply decide_eq_decide.mpr
 have h : B1 s 16777215 = s / 16777216 * 16777216 := by
  unfold B1
  have e : (BitVec.ofNat 32 s &&& ~~~ BitVec.ofNat 32 16777215).toNat = s / 16777216 * 16777216 := by
   apply Nat.eq_of_testBit_eq
   intro i
   rw [← BitVec.getLsbD, BitVec.getLsbD_and, BitVec.getLsbD_not, BitVec.getLsbD_ofNat, BitVec.getLsbD_ofNat]
   rw [show s / 16777216 * 16777216 = (s / 2 ^ 24) * 2 ^ 24 from rfl, Nat.testBit_mul_two_pow, Nat.testBit_div_two_pow]
   rw [show (16777215 : Nat) = 2 ^ 24 - 1 from rfl, Nat.testBit_two_pow_sub_one]
   by_cases h1 : i < 32
   ·by_cases h2 : 24 ≤ i
    ·simp [h1, h2, Nat.sub_add_cancel h2]
    ·simp [h1, h2]; omega
   ·have : s.testBit i = false := Nat.testBit_lt_two_pow (Nat.lt_of_lt_of_le hs (Nat.pow_le_pow_right (n := 2) A3 (show 32 ≤ i by omega)))
    have h2 : 24 ≤ i := by omega
    simp [h1, h2, Nat.sub_add_cancel h2, this]
  exact e
 omega
end Go.Hy
namespace Go.Hy
def A9l (g : Cl → Bool) (l : List Cl) : Int := if l.any g then (l.findIdx g : Int) else -1
theorem Cq {α : Type} {d : α} {l : List α} {i : Nat} (h : i < l.length) : l.getD i d = l[i] := by
 rw [List.getD_eq_getElem?_getD, List.getElem?_eq_getElem h]; rfl
theorem C4p {g : Cl → Bool} {l : List Cl} {i : Nat} (h : i < l.length) (hg : g (l.getD i Bz) = true) (hb : ∀ j, j < i → g (l.getD j Bz) = false) : A9l g l = i := by
 have hany : l.any g = true := List.any_eq_true.mpr ⟨_, Af h, hg⟩
 have hidx : l.findIdx g = i := by
  rw [List.findIdx_eq h]
  refine ⟨by rw [← Cq (d := Bz) h]; exact hg, fun j hj => ?_⟩
  have := hb j hj
  rwa [Cq (d := Bz) A3] at this
 unfold A9l
 rw [hany, hidx]; rfl
theorem B5h {g : Cl → Bool} {l : List Cl} (hb : ∀ j, j < l.length → g (l.getD j Bz) = false) : A9l g l = -1 := by
 have hany : l.any g = false := by
  rw [List.any_eq_false]
  intro x hx
  obtain ⟨j, hj, e⟩ := List.mem_iff_getElem.mp hx
  have := hb j hj
  rw [Cq (d := Bz) hj, e] at this
  simp [this]
 unfold A9l; rw [hany]; rfl
theorem A5v (g : Cl → Bool) (l : List Cl) : decide (0 ≤ A9l g l) = l.any g := by
 unfold A9l
 cases l.any g
 ·rfl
 ·simp
def once (l : List Cl) : List Cl := l.foldl (fun o c => if c ∈ o then o else o ++ [c]) []
theorem B4m (l : List Cl) (c : Cl) : once (l ++ [c]) = if c ∈ once l then once l else once l ++ [c] := by
 unfold once; rw [List.foldl_append]; rfl
theorem Wa (c : Cl) : ∀ (l o : List Cl), (c ∈ l.foldl (fun o c => if c ∈ o then o else o ++ [c]) o ↔ c ∈ o ∨ c ∈ l) ∧ (l.foldl (fun o c => if c ∈ o then o else o ++ [c]) o).length ≤ o.length + l.length
 | [], o => by simp
 | d :: l, o => by
  have ih := Wa c l (if d ∈ o then o else o ++ [d])
  rw [List.foldl_cons]
  constructor
  ·rw [ih.1, List.mem_cons]
   split
   ·rename_i h
    constructor
    ·rintro (h2 | h2)
     ·exact .inl h2
     ·exact .inr (.inr h2)
    ·rintro (h2 | h2 | h2)
     ·exact .inl h2
     ·exact .inl (h2 ▸ h)
     ·exact .inr h2
   ·rw [List.mem_append, List.mem_singleton, or_assoc]
  ·have h3 := ih.2
   have h4 : (if d ∈ o then o else o ++ [d]).length ≤ o.length + 1 := by split <;> simp
   simp only [List.length_cons]; omega
theorem Lq (c : Cl) (l : List Cl) : c ∈ once l ↔ c ∈ l := by
 have := (Wa c l []).1
 simpa [once] using this
theorem Rt (l : List Cl) : (once l).length ≤ l.length := by
 have := (Wa Bz l []).2
 simpa [once] using this
def Bx (l : List Cl) (c : Cl) : Bool := l.any fun d => !decide (c = d) && below c d
def kept (l : List Cl) : List Cl := (once l).filter fun c => !Bx (once l) c
def A2z (l l' : List Cl) : Prop := l'.Perm l ∧ l'.Pairwise fun a b => Cv b a = false
def Gu (l : List Cl) (r : Int × List Cl) : Prop :=
 if l.all Az = false then r = (2, []) else if 64 < (kept l).length then r = (3, []) else r.1 = 0 ∧ A2z (kept l) r.2
end Go.Hy
namespace Go.Hy
theorem D2a {l : List Cl} {g : Cl → Bool} (h : ∀ j, j < l.length → g (l.getD j Bz) = true) : l.all g = true := by
 rw [List.all_eq_true]
 intro x hx
 obtain ⟨j, hj, e⟩ := List.mem_iff_getElem.mp hx
 have := h j hj
 rwa [Cq (d := Bz) hj, e] at this
theorem C5u {l : List Cl} {g : Cl → Bool} {i : Nat} (hi : i < l.length) (h : g (l.getD i Bz) = false) : l.all g = false := by
 rw [List.all_eq_false]
 exact ⟨l.getD i Bz, Af hi, by rw [h]; decide⟩
def F2 (l : List Cl) (i : Nat) : List Cl := ((once l).take i).filter fun c => !Bx (once l) c
theorem Pz {l : List Cl} {i : Nat} (h : i < (once l).length) : F2 l (i + 1) = if Bx (once l) ((once l).getD i Bz) then F2 l i else F2 l i ++ [(once l).getD i Bz] := by
 unfold F2
 rw [Aj (d := Bz) h, List.filter_append]
 cases hn : Bx (once l) ((once l).getD i Bz)
 ·rw [List.filter_cons_of_pos (by rw [hn]; rfl)]; simp
 ·rw [List.filter_cons_of_neg (by rw [hn]; decide)]; simp
theorem A2c (l : List Cl) : F2 l (once l).length = kept l := by simp [F2, kept]
theorem A2b (l : List Cl) (i : Nat) : (F2 l i).length ≤ l.length := by
 unfold F2
 have h1 := List.length_filter_le (fun c => !Bx (once l) c) ((once l).take i)
 have h2 := Rt l
 simp only [List.length_take] at h1
 omega
theorem O4 {l : List Cl} {i : Nat} (h : i < l.length) : once (l.take (i + 1)) = if l.getD i Bz ∈ once (l.take i) then once (l.take i) else once (l.take i) ++ [l.getD i Bz] := by
 rw [Aj (d := Bz) h, B4m]
theorem Y6 (l : List Cl) (i : Nat) : (once (l.take i)).length ≤ l.length := by
 have := Rt (l.take i); simp only [List.length_take] at this; omega
theorem C0j {l : List Cl} {c : Cl} (h : c ∈ kept l) : c ∈ l := by
 unfold kept at h
 exact (Lq c l).mp (List.mem_filter.mp h).1
end Go.Hy
