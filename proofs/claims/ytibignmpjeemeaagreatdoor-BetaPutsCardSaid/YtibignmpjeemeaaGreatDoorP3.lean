/- Contracts of this program's functions and the laws that they need. -/
import Derived.WideShapes
import Derived.ArgAppend
import Derived.Test.YtibignmpjeemeaaGreatDoorP2
set_option linter.unusedVariables false
set_option linter.unusedSimpArgs false
set_option linter.unusedSectionVars false
namespace Go.Hy
section
variable {tn : Bool} {pn : Nat} {P : Program} [Tab P] {f : FuncId} {R : Ending → World → Prop} {B : Ch} {n : Fz} {K : List Item} {ops : Array Oper} {i : Nat} {l fin : List Nat} {σ : Nat → Value} {Γ : List Fact} {Ms Ms2 : List Bb}
variable {dst : Option Tmp} {op : Op} {ty : TypeId} {pos : String} {after : Array Edge} {v : Value} {x y z : Operand}
theorem G8  (k_ : E0 P f R B n K ops l (Af σ dst v) Γ Ms) (h : ev σ x = v := by exact Ab) (hd : Ac n dst = true := by rfl) : Ew P f R B n K ops l (Cj dst (.move x) ty) σ Γ Ms := Bg (B7y h) hd k_
theorem C3p  (k_ : NV tn pn P f R B n K ops fin l (Af σ dst v) Γ Ms) (h : ev σ x = v := by exact Ab) (hd : Ac n dst = true := by rfl) : Ju tn pn P f R B n K ops fin i l dst (.move x) ty σ Γ Ms := Dd (B7y h) hd k_
theorem C5u  (k_ : E0 P f R B n K ops l (Af σ dst v) Γ Ms) (h : ev σ x = v := by exact Ab) (hd : Ac n dst = true := by rfl) : Ew P f R B n K ops l (Cj dst (.assign x) ty) σ Γ Ms := Bg (A3z h) hd k_
theorem C3r  (k_ : NV tn pn P f R B n K ops fin l (Af σ dst v) Γ Ms) (h : ev σ x = v := by exact Ab) (hd : Ac n dst = true := by rfl) : Ju tn pn P f R B n K ops fin i l dst (.assign x) ty σ Γ Ms := Dd (A3z h) hd k_
theorem B8e  (k_ : E0 P f R B n K ops l (Af σ dst v) Γ Ms) (hz : ev σ z = .bool true := by rfl) (h : ev σ x = v := by exact Ab) (hd : Ac n dst = true := by rfl) : Ew P f R B n K ops l (Cj dst (.pick z x y) ty) σ Γ Ms := Bg (B0w hz h) hd k_
theorem B7d  (k_ : NV tn pn P f R B n K ops fin l (Af σ dst v) Γ Ms) (hz : ev σ z = .bool true := by rfl) (h : ev σ x = v := by exact Ab) (hd : Ac n dst = true := by rfl) : Ju tn pn P f R B n K ops fin i l dst (.pick z x y) ty σ Γ Ms := Dd (B0w hz h) hd k_
theorem B8f  (k_ : E0 P f R B n K ops l (Af σ dst v) Γ Ms) (hz : ev σ z = .bool false := by rfl) (h : ev σ y = v := by exact Ab) (hd : Ac n dst = true := by rfl) : Ew P f R B n K ops l (Cj dst (.pick z x y) ty) σ Γ Ms := Bg (B0x hz h) hd k_
theorem B7e  (k_ : NV tn pn P f R B n K ops fin l (Af σ dst v) Γ Ms) (hz : ev σ z = .bool false := by rfl) (h : ev σ y = v := by exact Ab) (hd : Ac n dst = true := by rfl) : Ju tn pn P f R B n K ops fin i l dst (.pick z x y) ty σ Γ Ms := Dd (B0x hz h) hd k_
theorem D9h {t t' : TypeId} {a b : Int} (k_ : E0 P f R B n K ops l (Af σ dst (.int .i64 (a + b))) Γ Ms) (hx : ev σ x = .int .i64 a := by exact Ab) (hy : ev σ y = .int .i64 b := by exact Ab) (h : Ao (a + b) := by unfold Ao; first | omega | (unfold Ao at *; omega) | (unfold reach at *; omega) | (unfold Gg at *; omega) | (simp only [Ao, reach, Gg] at *; omega)) (hd : Ac n dst = true := by rfl) : Ew P f R B n K ops l (Cj dst (.binOp .add t x y t') ty) σ Γ Ms := Bg (C5g hx hy h) hd k_
theorem D8c {t t' : TypeId} {a b : Int} (k_ : NV tn pn P f R B n K ops fin l (Af σ dst (.int .i64 (a + b))) Γ Ms) (hx : ev σ x = .int .i64 a := by exact Ab) (hy : ev σ y = .int .i64 b := by exact Ab) (h : Ao (a + b) := by unfold Ao; first | omega | (unfold Ao at *; omega) | (unfold reach at *; omega) | (unfold Gg at *; omega) | (simp only [Ao, reach, Gg] at *; omega)) (hd : Ac n dst = true := by rfl) : Ju tn pn P f R B n K ops fin i l dst (.binOp .add t x y t') ty σ Γ Ms := Dd (C5g hx hy h) hd k_
theorem D8x {t t' : TypeId} {a b : Int} (k_ : E0 P f R B n K ops l (Af σ dst (.int .i64 (a - b))) Γ Ms) (hx : ev σ x = .int .i64 a := by exact Ab) (hy : ev σ y = .int .i64 b := by exact Ab) (h : Ao (a - b) := by unfold Ao; first | omega | (unfold Ao at *; omega) | (unfold reach at *; omega) | (unfold Gg at *; omega) | (simp only [Ao, reach, Gg] at *; omega)) (hd : Ac n dst = true := by rfl) : Ew P f R B n K ops l (Cj dst (.binOp .sub t x y t') ty) σ Γ Ms := Bg (C4w hx hy h) hd k_
theorem C3n {t t' : TypeId} {a b : Int} (k_ : NV tn pn P f R B n K ops fin l (Af σ dst (.int .i64 (a - b))) Γ Ms) (hx : ev σ x = .int .i64 a := by exact Ab) (hy : ev σ y = .int .i64 b := by exact Ab) (h : Ao (a - b) := by unfold Ao; first | omega | (unfold Ao at *; omega) | (unfold reach at *; omega) | (unfold Gg at *; omega) | (simp only [Ao, reach, Gg] at *; omega)) (hd : Ac n dst = true := by rfl) : Ju tn pn P f R B n K ops fin i l dst (.binOp .sub t x y t') ty σ Γ Ms := Dd (C4w hx hy h) hd k_
theorem D7w {t t' : TypeId} {a b : Int} (k_ : NV tn pn P f R B n K ops fin l (Af σ dst (.int .i64 (a * b))) Γ Ms) (hx : ev σ x = .int .i64 a := by exact Ab) (hy : ev σ y = .int .i64 b := by exact Ab) (h : Ao (a * b) := by unfold Ao; first | omega | (unfold Ao at *; omega) | (unfold reach at *; omega) | (unfold Gg at *; omega) | (simp only [Ao, reach, Gg] at *; omega)) (hd : Ac n dst = true := by rfl) : Ju tn pn P f R B n K ops fin i l dst (.binOp .mul t x y t') ty σ Γ Ms := Dd (D3u hx hy h) hd k_
theorem A4f {t t' : TypeId} {k : IntKind} {a b : Int} (k_ : E0 P f R B n K ops l (Af σ dst (.bool (decide (a < b)))) Γ Ms) (hx : ev σ x = .int k a := by exact Ab) (hy : ev σ y = .int k b := by exact Ab) (hd : Ac n dst = true := by rfl) : Ew P f R B n K ops l (Cj dst (.binOp .lss t x y t') ty) σ Γ Ms := Bg (D3x hx hy) hd k_
theorem D9d {t t' : TypeId} {k : IntKind} {a b : Int} (k_ : E0 P f R B n K ops l (Af σ dst (.bool (decide (a ≤ b)))) Γ Ms) (hx : ev σ x = .int k a := by exact Ab) (hy : ev σ y = .int k b := by exact Ab) (hd : Ac n dst = true := by rfl) : Ew P f R B n K ops l (Cj dst (.binOp .leq t x y t') ty) σ Γ Ms := Bg (D3y hx hy) hd k_
theorem Ze {t t' : TypeId} {k : IntKind} {a b : Int} (k_ : E0 P f R B n K ops l (Af σ dst (.bool (decide (b < a)))) Γ Ms) (hx : ev σ x = .int k a := by exact Ab) (hy : ev σ y = .int k b := by exact Ab) (hd : Ac n dst = true := by rfl) : Ew P f R B n K ops l (Cj dst (.binOp .gtr t x y t') ty) σ Γ Ms := Bg (C5d hx hy) hd k_
theorem A9l {t t' : TypeId} {k : IntKind} {a b : Int} (k_ : NV tn pn P f R B n K ops fin l (Af σ dst (.bool (decide (b < a)))) Γ Ms) (hx : ev σ x = .int k a := by exact Ab) (hy : ev σ y = .int k b := by exact Ab) (hd : Ac n dst = true := by rfl) : Ju tn pn P f R B n K ops fin i l dst (.binOp .gtr t x y t') ty σ Γ Ms := Dd (C5d hx hy) hd k_
theorem A4h {t t' : TypeId} {k : IntKind} {a b : Int} (k_ : E0 P f R B n K ops l (Af σ dst (.bool (decide (b ≤ a)))) Γ Ms) (hx : ev σ x = .int k a := by exact Ab) (hy : ev σ y = .int k b := by exact Ab) (hd : Ac n dst = true := by rfl) : Ew P f R B n K ops l (Cj dst (.binOp .geq t x y t') ty) σ Γ Ms := Bg (D3z hx hy) hd k_
theorem X1 {t t' : TypeId} {k : IntKind} {a b : Int} (k_ : E0 P f R B n K ops l (Af σ dst (.bool (decide (a = b)))) Γ Ms) (hx : ev σ x = .int k a := by exact Ab) (hy : ev σ y = .int k b := by exact Ab) (hd : Ac n dst = true := by rfl) : Ew P f R B n K ops l (Cj dst (.binOp .eql t x y t') ty) σ Γ Ms := Bg (B5c hx hy) hd k_
theorem A9m {t t' : TypeId} {k : IntKind} {a b : Int} (k_ : NV tn pn P f R B n K ops fin l (Af σ dst (.bool (decide (a = b)))) Γ Ms) (hx : ev σ x = .int k a := by exact Ab) (hy : ev σ y = .int k b := by exact Ab) (hd : Ac n dst = true := by rfl) : Ju tn pn P f R B n K ops fin i l dst (.binOp .eql t x y t') ty σ Γ Ms := Dd (B5c hx hy) hd k_
theorem B1n {t t' : TypeId} {k : IntKind} {a b : Int} (k_ : E0 P f R B n K ops l (Af σ dst (.bool (decide (a ≠ b)))) Γ Ms) (hx : ev σ x = .int k a := by exact Ab) (hy : ev σ y = .int k b := by exact Ab) (hd : Ac n dst = true := by rfl) : Ew P f R B n K ops l (Cj dst (.binOp .neq t x y t') ty) σ Γ Ms := Bg (C4z hx hy) hd k_
theorem A2l {t t' : TypeId} {k : IntKind} {a b : Int} (k_ : NV tn pn P f R B n K ops fin l (Af σ dst (.bool (decide (a ≠ b)))) Γ Ms) (hx : ev σ x = .int k a := by exact Ab) (hy : ev σ y = .int k b := by exact Ab) (hd : Ac n dst = true := by rfl) : Ju tn pn P f R B n K ops fin i l dst (.binOp .neq t x y t') ty σ Γ Ms := Dd (C4z hx hy) hd k_
theorem D2c {t t' : TypeId} {s s' : ByteArray} (k_ : E0 P f R B n K ops l (Af σ dst (.bool (!(s.toList == s'.toList)))) Γ Ms) (hx : ev σ x = .string s := by exact Ab) (hy : ev σ y = .string s' := by exact Ab) (hd : Ac n dst = true := by rfl) : Ew P f R B n K ops l (Cj dst (.binOp .neq t x y t') ty) σ Γ Ms := Bg (C4y hx hy) hd k_
theorem D1t {t t' : TypeId} {s s' : ByteArray} (k_ : NV tn pn P f R B n K ops fin l (Af σ dst (.bool (!(s.toList == s'.toList)))) Γ Ms) (hx : ev σ x = .string s := by exact Ab) (hy : ev σ y = .string s' := by exact Ab) (hd : Ac n dst = true := by rfl) : Ju tn pn P f R B n K ops fin i l dst (.binOp .neq t x y t') ty σ Γ Ms := Dd (C4y hx hy) hd k_
theorem D2b {t : TypeId} {c : Bool} (k_ : E0 P f R B n K ops l (Af σ dst (.bool (!c))) Γ Ms) (hx : ev σ x = .bool c := by exact Ab) (hd : Ac n dst = true := by rfl) : Ew P f R B n K ops l (Cj dst (.unOp .not t x) ty) σ Γ Ms := Bg (C4x hx) hd k_
theorem Wl {t : TypeId} {c : Bool} (k_ : NV tn pn P f R B n K ops fin l (Af σ dst (.bool (!c))) Γ Ms) (hx : ev σ x = .bool c := by exact Ab) (hd : Ac n dst = true := by rfl) : Ju tn pn P f R B n K ops fin i l dst (.unOp .not t x) ty σ Γ Ms := Dd (C4x hx) hd k_
theorem C1f {vs : Array Value} {j : Nat} (k_ : E0 P f R B n K ops l (Af σ dst v) Γ Ms) (hx : ev σ x = .tuple vs := by exact Ab) (hj : vs[j]? = some v := by exact Ab) (hd : Ac n dst = true := by rfl) : Ew P f R B n K ops l (Cj dst (.extract x j) ty) σ Γ Ms := Bg (Z2 hx hj) hd k_
theorem B9z {vs : Array Value} {j : Nat} (k_ : NV tn pn P f R B n K ops fin l (Af σ dst v) Γ Ms) (hx : ev σ x = .tuple vs := by exact Ab) (hj : vs[j]? = some v := by exact Ab) (hd : Ac n dst = true := by rfl) : Ju tn pn P f R B n K ops fin i l dst (.extract x j) ty σ Γ Ms := Dd (Z2 hx hj) hd k_
theorem B5m {fn : Fn} {cap : Array Operand} {vs : List Value} (k_ : E0 P f R B n K ops l (Af σ dst (.func fn #[] vs.toArray)) Γ Ms) (h : cap.toList.map (ev σ) = vs := by first | exact E2t (by first | ((conv => lhs; whnf); done) | rfl) | exact E2s (by first | ((conv => lhs; whnf); done) | rfl) (by first | ((conv => lhs; whnf); done) | rfl) | exact E2r (by first | ((conv => lhs; whnf); done) | rfl) (by first | ((conv => lhs; whnf); done) | rfl) (by first | ((conv => lhs; whnf); done) | rfl) | exact E2q (by first | ((conv => lhs; whnf); done) | rfl) (by first | ((conv => lhs; whnf); done) | rfl) (by first | ((conv => lhs; whnf); done) | rfl) (by first | ((conv => lhs; whnf); done) | rfl) | rfl) (hd : Ac n dst = true := by rfl) : Ew P f R B n K ops l (Cj dst (.makeFunc fn #[] cap) ty) σ Γ Ms := Bg (B0z h) hd k_
theorem A4g {ts : Array TypeId} {t e : TypeId} {A : Option Addr} {m c : Nat} (k_ : E0 P f R B n K ops l (Af σ dst (.int .i64 (m : Int))) Γ Ms) (hx : ev σ x = .slice A m c := by exact Ab) (ht : ts[0]? = some t := by rfl) (hu : Tab.und P t = some (.slice e) := by rfl) (hd : Ac n dst = true := by rfl) : Ew P f R B n K ops l (Cj dst (.call { callee := .builtin .len, args := #[x], argTypes := ts }) ty) σ Γ Ms := Bg (B7z ht hu hx) hd k_
theorem A2m {ts : Array TypeId} {t e : TypeId} {A : Option Addr} {m c : Nat} (k_ : NV tn pn P f R B n K ops fin l (Af σ dst (.int .i64 (m : Int))) Γ Ms) (hx : ev σ x = .slice A m c := by exact Ab) (ht : ts[0]? = some t := by rfl) (hu : Tab.und P t = some (.slice e) := by rfl) (hd : Ac n dst = true := by rfl) : Ju tn pn P f R B n K ops fin i l dst (.call { callee := .builtin .len, args := #[x], argTypes := ts }) ty σ Γ Ms := Dd (B7z ht hu hx) hd k_
theorem Zc {ts : Array TypeId} {t : TypeId} {s : ByteArray} (k_ : E0 P f R B n K ops l (Af σ dst (.int .i64 (s.size : Int))) Γ Ms) (hx : ev σ x = .string s := by exact Ab) (ht : ts[0]? = some t := by rfl) (hu : Tab.und P t = some .string := by rfl) (hd : Ac n dst = true := by rfl) : Ew P f R B n K ops l (Cj dst (.call { callee := .builtin .len, args := #[x], argTypes := ts }) ty) σ Γ Ms := Bg (C0u ht hu hx) hd k_
theorem D7x {ts : Array TypeId} {a b : Int} (k_ : NV tn pn P f R B n K ops fin l (Af σ dst (.int .i64 (if b > a then b else a))) Γ Ms) (hx : ev σ x = .int .i64 a := by exact Ab) (hy : ev σ y = .int .i64 b := by exact Ab) (hd : Ac n dst = true := by rfl) : Ju tn pn P f R B n K ops fin i l dst (.call { callee := .builtin .max, args := #[x, y], argTypes := ts }) ty σ Γ Ms := Dd (D3w hx hy) hd k_
theorem D2d {ts : Array TypeId} {a b : Int} (k_ : E0 P f R B n K ops l (Af σ dst (.int .i64 (if b < a then b else a))) Γ Ms) (hx : ev σ x = .int .i64 a := by exact Ab) (hy : ev σ y = .int .i64 b := by exact Ab) (hd : Ac n dst = true := by rfl) : Ew P f R B n K ops l (Cj dst (.call { callee := .builtin .min, args := #[x, y], argTypes := ts }) ty) σ Γ Ms := Bg (D3v hx hy) hd k_
theorem Xh {t : TypeId} {j bk off o : Nat} (k_ : E0 P f R B n K ops l (Af σ dst (.pointer (some ⟨bk, off + o, none⟩))) Γ Ms) (hx : ev σ x = .pointer (some ⟨bk, off, none⟩) := by exact Ab) (hf : Tab.foff P t j = some o := by rfl) (hd : Ac n dst = true := by rfl) : Ew P f R B n K ops l (Cj dst (.fieldAddr t x j) ty) σ Γ Ms := Bg (Ug hf hx) hd k_
theorem Rn {t : TypeId} {j bk off o : Nat} (k_ : NV tn pn P f R B n K ops fin l (Af σ dst (.pointer (some ⟨bk, off + o, none⟩))) Γ Ms) (hx : ev σ x = .pointer (some ⟨bk, off, none⟩) := by exact Ab) (hf : Tab.foff P t j = some o := by rfl) (hd : Ac n dst = true := by rfl) : Ju tn pn P f R B n K ops fin i l dst (.fieldAddr t x j) ty σ Γ Ms := Dd (Ug hf hx) hd k_
theorem B5 {t : TypeId} {s bt : Nat} {zv : Value} {parts : Array (Nat × Operand)} {pv : List (Nat × Value)} {l' : List (Nat × Nat)} {cs : List Value} (k_ : E0 P f R B n K ops l (Af σ dst (.agg cs.toArray)) Γ Ms) (hl : Tab.lay P t = some l' := by rfl) (hi : Tab.inf P t = some (s, bt, zv) := by rfl) (hp : parts.toList.map (fun (i, x) => (i, ev σ x)) = pv := by first | exact pv0  | exact pv1 (by first | ((conv => lhs; whnf); done) | rfl) | exact pv2 (by first | ((conv => lhs; whnf); done) | rfl) (by first | ((conv => lhs; whnf); done) | rfl) | exact pv3 (by first | ((conv => lhs; whnf); done) | rfl) (by first | ((conv => lhs; whnf); done) | rfl) (by first | ((conv => lhs; whnf); done) | rfl) | exact pv4 (by first | ((conv => lhs; whnf); done) | rfl) (by first | ((conv => lhs; whnf); done) | rfl) (by first | ((conv => lhs; whnf); done) | rfl) (by first | ((conv => lhs; whnf); done) | rfl) | exact pv5 (by first | ((conv => lhs; whnf); done) | rfl) (by first | ((conv => lhs; whnf); done) | rfl) (by first | ((conv => lhs; whnf); done) | rfl) (by first | ((conv => lhs; whnf); done) | rfl) (by first | ((conv => lhs; whnf); done) | rfl) | exact pv6 (by first | ((conv => lhs; whnf); done) | rfl) (by first | ((conv => lhs; whnf); done) | rfl) (by first | ((conv => lhs; whnf); done) | rfl) (by first | ((conv => lhs; whnf); done) | rfl) (by first | ((conv => lhs; whnf); done) | rfl) (by first | ((conv => lhs; whnf); done) | rfl) | rfl) (hb : Instr.fill (l'.toArray[·]?) zv.cells pv = some cs.toArray := by rfl) (hd : Ac n dst = true := by rfl) : Ew P f R B n K ops l (Cj dst (.build t parts) ty) σ Γ Ms := Bg (B1c hl hi hp hb) hd k_
theorem Hr {t : TypeId} {s bt : Nat} {zv : Value} {parts : Array (Nat × Operand)} {pv : List (Nat × Value)} {l' : List (Nat × Nat)} {cs : List Value} (k_ : NV tn pn P f R B n K ops fin l (Af σ dst (.agg cs.toArray)) Γ Ms) (hl : Tab.lay P t = some l' := by rfl) (hi : Tab.inf P t = some (s, bt, zv) := by rfl) (hp : parts.toList.map (fun (i, x) => (i, ev σ x)) = pv := by first | exact pv0  | exact pv1 (by first | ((conv => lhs; whnf); done) | rfl) | exact pv2 (by first | ((conv => lhs; whnf); done) | rfl) (by first | ((conv => lhs; whnf); done) | rfl) | exact pv3 (by first | ((conv => lhs; whnf); done) | rfl) (by first | ((conv => lhs; whnf); done) | rfl) (by first | ((conv => lhs; whnf); done) | rfl) | exact pv4 (by first | ((conv => lhs; whnf); done) | rfl) (by first | ((conv => lhs; whnf); done) | rfl) (by first | ((conv => lhs; whnf); done) | rfl) (by first | ((conv => lhs; whnf); done) | rfl) | exact pv5 (by first | ((conv => lhs; whnf); done) | rfl) (by first | ((conv => lhs; whnf); done) | rfl) (by first | ((conv => lhs; whnf); done) | rfl) (by first | ((conv => lhs; whnf); done) | rfl) (by first | ((conv => lhs; whnf); done) | rfl) | exact pv6 (by first | ((conv => lhs; whnf); done) | rfl) (by first | ((conv => lhs; whnf); done) | rfl) (by first | ((conv => lhs; whnf); done) | rfl) (by first | ((conv => lhs; whnf); done) | rfl) (by first | ((conv => lhs; whnf); done) | rfl) (by first | ((conv => lhs; whnf); done) | rfl) | rfl) (hb : Instr.fill (l'.toArray[·]?) zv.cells pv = some cs.toArray := by rfl) (hd : Ac n dst = true := by rfl) : Ju tn pn P f R B n K ops fin i l dst (.build t parts) ty σ Γ Ms := Dd (B1c hl hi hp hb) hd k_
theorem Ct {t e : TypeId} {s bt bk o m c j : Nat} {zv : Value} {A : Option Addr} (k_ : E0 P f R B n K ops l (Af σ dst (.pointer (some ⟨bk, o + j * s, none⟩))) Γ Ms) (hx : ev σ x = .slice A m c := by exact Ab) (hA : A = some ⟨bk, o, none⟩ := by first | assumption | rfl) (hy : ev σ y = .int .i64 (j : Int) := by exact Ab) (hu : Tab.und P t = some (.slice e) := by rfl) (hi : Tab.inf P e = some (s, bt, zv) := by rfl) (h1 : j < m := by omega) (hd : Ac n dst = true := by rfl) : Ew P f R B n K ops l (Cj dst (.indexAddr t x y) ty) σ Γ Ms := Bg (C5c hu hi hx hA hy h1) hd k_
theorem Fq {t e : TypeId} {s bt bk o m c j : Nat} {zv : Value} {A : Option Addr} (k_ : NV tn pn P f R B n K ops fin l (Af σ dst (.pointer (some ⟨bk, o + j * s, none⟩))) Γ Ms) (hx : ev σ x = .slice A m c := by exact Ab) (hA : A = some ⟨bk, o, none⟩ := by first | assumption | rfl) (hy : ev σ y = .int .i64 (j : Int) := by exact Ab) (hu : Tab.und P t = some (.slice e) := by rfl) (hi : Tab.inf P e = some (s, bt, zv) := by rfl) (h1 : j < m := by omega) (hd : Ac n dst = true := by rfl) : Ju tn pn P f R B n K ops fin i l dst (.indexAddr t x y) ty σ Γ Ms := Dd (C5c hu hi hx hA hy h1) hd k_
theorem D0l {t t' e : TypeId} {A : Option Addr} {m c : Nat} (k_ : E0 P f R B n K ops l (Af σ dst (.bool A.isNone)) Γ Ms) (hx : ev σ x = .slice A m c := by exact Ab) (hy : ev σ y = .slice none 0 0 := by rfl) (hu : Tab.und P t = some (.slice e) := by rfl) (hd : Ac n dst = true := by rfl) : Ew P f R B n K ops l (Cj dst (.binOp .eql t x y t') ty) σ Γ Ms := Bg (B0y hu hx hy) hd k_
theorem D4m {t t' : TypeId} {a b : Int} (k_ : E0 P f R B n K ops l (Af σ dst (.int .i64 (IntKind.i64.wrap (a + b)))) Γ Ms) (hx : ev σ x = .int .i64 a := by exact Ab) (hy : ev σ y = .int .i64 b := by exact Ab) (hd : Ac n dst = true := by rfl) : Ew P f R B n K ops l (Cj dst (.binOp .add t x y t') ty) σ Γ Ms := Bg (D0a hx hy) hd k_
theorem D4e {t t' : TypeId} {a b : Int} (k_ : E0 P f R B n K ops l (Af σ dst (.int .i64 (IntKind.i64.wrap (a - b)))) Γ Ms) (hx : ev σ x = .int .i64 a := by exact Ab) (hy : ev σ y = .int .i64 b := by exact Ab) (hd : Ac n dst = true := by rfl) : Ew P f R B n K ops l (Cj dst (.binOp .sub t x y t') ty) σ Γ Ms := Bg (C9w hx hy) hd k_
theorem I8 {t t' : TypeId} {a b : Nat} (k_ : E0 P f R B n K ops l (Af σ dst (.int .u32 ((a &&& b : Nat) : Int))) Γ Ms) (hx : ev σ x = .int .u32 (a : Int) := by exact Ab) (hy : ev σ y = .int .u32 (b : Int) := by exact Ab) (ha : a < 4294967296 := by first | assumption | omega) (hb : b < 4294967296 := by first | assumption | omega) (hd : Ac n dst = true := by rfl) : Ew P f R B n K ops l (Cj dst (.binOp .and t x y t') ty) σ Γ Ms := Bg (B8a hx hy ha hb) hd k_
theorem Y4 {t t' : TypeId} {a b : Nat} (k_ : NV tn pn P f R B n K ops fin l (Af σ dst (.int .u32 ((a &&& b : Nat) : Int))) Γ Ms) (hx : ev σ x = .int .u32 (a : Int) := by exact Ab) (hy : ev σ y = .int .u32 (b : Int) := by exact Ab) (ha : a < 4294967296 := by first | assumption | omega) (hb : b < 4294967296 := by first | assumption | omega) (hd : Ac n dst = true := by rfl) : Ju tn pn P f R B n K ops fin i l dst (.binOp .and t x y t') ty σ Γ Ms := Dd (B8a hx hy ha hb) hd k_
theorem Oq {t t' : TypeId} {a b : Nat} (k_ : E0 P f R B n K ops l (Af σ dst (.int .u32 ((a ||| b : Nat) : Int))) Γ Ms) (hx : ev σ x = .int .u32 (a : Int) := by exact Ab) (hy : ev σ y = .int .u32 (b : Int) := by exact Ab) (ha : a < 4294967296 := by first | assumption | omega) (hb : b < 4294967296 := by first | assumption | omega) (hd : Ac n dst = true := by rfl) : Ew P f R B n K ops l (Cj dst (.binOp .or t x y t') ty) σ Γ Ms := Bg (D3s hx hy ha hb) hd k_
theorem Q2 {t t' : TypeId} {a b : Nat} (k_ : E0 P f R B n K ops l (Af σ dst (.int .u32 (Bm a b : Int))) Γ Ms) (hx : ev σ x = .int .u32 (a : Int) := by exact Ab) (hy : ev σ y = .int .u32 (b : Int) := by exact Ab) (hd : Ac n dst = true := by rfl) : Ew P f R B n K ops l (Cj dst (.binOp .andNot t x y t') ty) σ Γ Ms := Bg (B5d hx hy) hd k_
theorem Zb {t t' : TypeId} {k2 : IntKind} {a m : Nat} (k_ : E0 P f R B n K ops l (Af σ dst (.int .u32 ((a * 2 ^ (min m 32) % 4294967296 : Nat) : Int))) Γ Ms) (hx : ev σ x = .int .u32 (a : Int) := by exact Ab) (hy : ev σ y = .int k2 (m : Int) := by exact Ab) (hd : Ac n dst = true := by rfl) : Ew P f R B n K ops l (Cj dst (.binOp .shl t x y t') ty) σ Γ Ms := Bg (C9y hx hy) hd k_
theorem Za {t t' : TypeId} {k2 : IntKind} {a m : Nat} (k_ : E0 P f R B n K ops l (Af σ dst (.int .u32 ((a / 2 ^ (min m 32) : Nat) : Int))) Γ Ms) (hx : ev σ x = .int .u32 (a : Int) := by exact Ab) (hy : ev σ y = .int k2 (m : Int) := by exact Ab) (hd : Ac n dst = true := by rfl) : Ew P f R B n K ops l (Cj dst (.binOp .shr t x y t') ty) σ Γ Ms := Bg (B7x hx hy) hd k_
theorem Y3 {t t' : TypeId} {k2 : IntKind} {a m : Nat} (k_ : NV tn pn P f R B n K ops fin l (Af σ dst (.int .u32 ((a / 2 ^ (min m 32) : Nat) : Int))) Γ Ms) (hx : ev σ x = .int .u32 (a : Int) := by exact Ab) (hy : ev σ y = .int k2 (m : Int) := by exact Ab) (hd : Ac n dst = true := by rfl) : Ju tn pn P f R B n K ops fin i l dst (.binOp .shr t x y t') ty σ Γ Ms := Dd (B7x hx hy) hd k_
theorem C5s {t t' : TypeId} {c c' : Cl} (k_ : E0 P f R B n K ops l (Af σ dst (.bool (decide (c = c')))) Γ Ms) (hx : ev σ x = .agg (Al c).toArray := by exact Ab) (hy : ev σ y = .agg (Al c').toArray := by exact Ab) (ht : t = Tab.ceq P := by rfl) (hd : Ac n dst = true := by rfl) : Ew P f R B n K ops l (Cj dst (.binOp .eql t x y t') ty) σ Γ Ms := Bg (C5e ht hx hy) hd k_
theorem D8b {t t' : TypeId} {c c' : Cl} (k_ : NV tn pn P f R B n K ops fin l (Af σ dst (.bool (decide (c = c')))) Γ Ms) (hx : ev σ x = .agg (Al c).toArray := by exact Ab) (hy : ev σ y = .agg (Al c').toArray := by exact Ab) (ht : t = Tab.ceq P := by rfl) (hd : Ac n dst = true := by rfl) : Ju tn pn P f R B n K ops fin i l dst (.binOp .eql t x y t') ty σ Γ Ms := Dd (C5e ht hx hy) hd k_
theorem D9a {t t' : TypeId} {c c' : Cl} (k_ : E0 P f R B n K ops l (Af σ dst (.bool (!decide (c = c')))) Γ Ms) (hx : ev σ x = .agg (Al c).toArray := by exact Ab) (hy : ev σ y = .agg (Al c').toArray := by exact Ab) (ht : t = Tab.ceq P := by rfl) (hd : Ac n dst = true := by rfl) : Ew P f R B n K ops l (Cj dst (.binOp .neq t x y t') ty) σ Γ Ms := Bg (C5a ht hx hy) hd k_
theorem D1u {t t' : TypeId} {c c' : Cl} (k_ : NV tn pn P f R B n K ops fin l (Af σ dst (.bool (!decide (c = c')))) Γ Ms) (hx : ev σ x = .agg (Al c).toArray := by exact Ab) (hy : ev σ y = .agg (Al c').toArray := by exact Ab) (ht : t = Tab.ceq P := by rfl) (hd : Ac n dst = true := by rfl) : Ju tn pn P f R B n K ops fin i l dst (.binOp .neq t x y t') ty σ Γ Ms := Dd (C5a ht hx hy) hd k_
theorem D0k {t : TypeId} {s : ByteArray} {j : Int} {c : UInt8} (k_ : E0 P f R B n K ops l (Af σ dst (.int .u8 c.toNat)) Γ Ms) (hx : ev σ x = .string s := by exact Ab) (hy : ev σ y = .int .i64 j := by exact Ab) (hu : Tab.und P t = some .string := by rfl) (h0 : 0 ≤ j := by omega) (hc : s[j.toNat]? = some c := by assumption) (hd : Ac n dst = true := by rfl) : Ew P f R B n K ops l (Cj dst (.index t x y) ty) σ Γ Ms := Bg (B1a hu hx hy h0 hc) hd k_
theorem D4l {s d : TypeId} {k k' : IntKind} {ds : TypeDesc} {a : Int} (k_ : E0 P f R B n K ops l (Af σ dst (.int k' (k'.wrap a))) Γ Ms) (hx : ev σ x = .int k a := by exact Ab) (hs : Tab.und P s = some ds := by rfl) (hd' : Tab.und P d = some (.int k') := by rfl) (hd : Ac n dst = true := by rfl) : Ew P f R B n K ops l (Cj dst (.convert s d x) ty) σ Γ Ms := Bg (M1 hs hd' hx) hd k_
theorem D4k {t T' : TypeId} {bk k : Nat} {cs : List Value} {d : TypeDesc} (k_ : E0 P f R B n K ops l (Af σ dst v) Γ Ms) (hx : ev σ x = .pointer (some ⟨bk, k, none⟩) := by exact Ab) (hF : Aa bk cs T' ∈ Ms := by repeat (first | exact List.mem_cons_self | apply List.mem_cons_of_mem)) (hu : Tab.und P t = some d := by rfl) (hd' : (match d with | .struct _ | .array _ _ => true | _ => false) = false := by rfl) (hk : cs[k]? = some v := by exact Ab) (hd : Ac n dst = true := by rfl) : Ew P f R B n K ops l (Cj dst (.load t x) ty) σ Γ Ms := Ib (C6s hx hF hu hd' hk) hd k_
theorem D8a {t T' : TypeId} {bk k : Nat} {cs : List Value} {d : TypeDesc} (k_ : NV false pn P f R B n K ops fin l (Af σ dst v) Γ Ms) (hx : ev σ x = .pointer (some ⟨bk, k, none⟩) := by exact Ab) (hF : Aa bk cs T' ∈ Ms := by repeat (first | exact List.mem_cons_self | apply List.mem_cons_of_mem)) (hu : Tab.und P t = some d := by rfl) (hd' : (match d with | .struct _ | .array _ _ => true | _ => false) = false := by rfl) (hk : cs[k]? = some v := by exact Ab) (hd : Ac n dst = true := by rfl) : Ju false pn P f R B n K ops fin i l dst (.load t x) ty σ Γ Ms := R6 (C6s hx hF hu hd' hk) rfl hd k_
theorem Ul {t T' : TypeId} {bk k : Nat} {cs : List Value} {l' : List (Nat × Nat)} {s bt : Nat} {zv : Value} {cs' : List Value} (k_ : E0 P f R B n K ops l (Af σ dst (.agg cs'.toArray)) Γ Ms) (hx : ev σ x = .pointer (some ⟨bk, k, none⟩) := by exact Ab) (hF : Aa bk cs T' ∈ Ms := by repeat (first | exact List.mem_cons_self | apply List.mem_cons_of_mem)) (hu : Tab.lay P t = some l' := by rfl) (hi : Tab.inf P t = some (s, bt, zv) := by rfl) (hk : (cs.drop k).take s = cs' := by rfl) (hl : cs'.length = s := by rfl) (hd : Ac n dst = true := by rfl) : Ew P f R B n K ops l (Cj dst (.load t x) ty) σ Γ Ms := Ib (C6t hx hF hu hi hk hl) hd k_
theorem D7y {t T' : TypeId} {bk k : Nat} {cs : List Value} {l' : List (Nat × Nat)} {s bt : Nat} {zv : Value} {cs' : List Value} (k_ : NV false pn P f R B n K ops fin l (Af σ dst (.agg cs'.toArray)) Γ Ms) (hx : ev σ x = .pointer (some ⟨bk, k, none⟩) := by exact Ab) (hF : Aa bk cs T' ∈ Ms := by repeat (first | exact List.mem_cons_self | apply List.mem_cons_of_mem)) (hu : Tab.lay P t = some l' := by rfl) (hi : Tab.inf P t = some (s, bt, zv) := by rfl) (hk : (cs.drop k).take s = cs' := by rfl) (hl : cs'.length = s := by rfl) (hd : Ac n dst = true := by rfl) : Ju false pn P f R B n K ops fin i l dst (.load t x) ty σ Γ Ms := R6 (C6t hx hF hu hi hk hl) rfl hd k_
theorem B8h {t : TypeId} {l' : List (Nat × Nat)} {bt bk o i' : Nat} {a : SH} {zv : Value} {ls : List Cl} (k_ : E0 P f R B n K ops l (Af σ dst (.agg (Al (ls.getD i' Bc)).toArray)) Γ Ms) (hx : ev σ x = .pointer (some ⟨bk, o + i' * 2, none⟩) := by exact Ab) (hFa : CL ls a ∈ Γ ∧ a.1 = some ⟨bk, o, none⟩ := by exact ma0_) (hu : Tab.lay P t = some l' := by rfl) (hi : Tab.inf P t = some (2, bt, zv) := by rfl) (hlt : i' < ls.length := by omega) (hd : Ac n dst = true := by rfl) : Ew P f R B n K ops l (Cj dst (.load t x) ty) σ Γ Ms := Ib (D2h hx hFa.1 hFa.2 hu hi hlt) hd k_
theorem B7f {t : TypeId} {l' : List (Nat × Nat)} {bt bk o i' : Nat} {a : SH} {zv : Value} {ls : List Cl} (k_ : NV false pn P f R B n K ops fin l (Af σ dst (.agg (Al (ls.getD i' Bc)).toArray)) Γ Ms) (hx : ev σ x = .pointer (some ⟨bk, o + i' * 2, none⟩) := by exact Ab) (hFa : CL ls a ∈ Γ ∧ a.1 = some ⟨bk, o, none⟩ := by exact ma0_) (hu : Tab.lay P t = some l' := by rfl) (hi : Tab.inf P t = some (2, bt, zv) := by rfl) (hlt : i' < ls.length := by omega) (hd : Ac n dst = true := by rfl) : Ju false pn P f R B n K ops fin i l dst (.load t x) ty σ Γ Ms := R6 (D2h hx hFa.1 hFa.2 hu hi hlt) rfl hd k_
theorem D9f {t : TypeId} {l' : List (Nat × Nat)} {bt bk o i' : Nat} {a : SH} {zv : Value} {ts : List T} {VR VK VS : Nat → SH} (k_ : E0 P f R B n K ops l (Af σ dst (.agg (tc (ts.getD i' t0) (VR i') (VK i') (VS i')).toArray)) Γ Ms) (hx : ev σ x = .pointer (some ⟨bk, o + i' * 6, none⟩) := by exact Ab) (hFa : TLx ts a VR VK VS ∈ Γ ∧ a.1 = some ⟨bk, o, none⟩ := by exact ma0_) (hu : Tab.lay P t = some l' := by rfl) (hi : Tab.inf P t = some (6, bt, zv) := by rfl) (hlt : i' < ts.length := by omega) (hd : Ac n dst = true := by rfl) : Ew P f R B n K ops l (Cj dst (.load t x) ty) σ Γ Ms := Ib (B8s hx hFa.1 hFa.2 hu hi hlt) hd k_
theorem D7z {t : TypeId} {l' : List (Nat × Nat)} {bt bk o i' : Nat} {a : SH} {zv : Value} {ts : List T} {VR VK VS : Nat → SH} (k_ : NV false pn P f R B n K ops fin l (Af σ dst (.agg (tc (ts.getD i' t0) (VR i') (VK i') (VS i')).toArray)) Γ Ms) (hx : ev σ x = .pointer (some ⟨bk, o + i' * 6, none⟩) := by exact Ab) (hFa : TLx ts a VR VK VS ∈ Γ ∧ a.1 = some ⟨bk, o, none⟩ := by exact ma0_) (hu : Tab.lay P t = some l' := by rfl) (hi : Tab.inf P t = some (6, bt, zv) := by rfl) (hlt : i' < ts.length := by omega) (hd : Ac n dst = true := by rfl) : Ju false pn P f R B n K ops fin i l dst (.load t x) ty σ Γ Ms := R6 (B8s hx hFa.1 hFa.2 hu hi hlt) rfl hd k_
theorem D4i {t : TypeId} {d : TypeDesc} {bk o i' k : Nat} {a : SH} {ts : List T} {VR VK VS : Nat → SH} (k_ : E0 P f R B n K ops l (Af σ dst v) Γ Ms) (hx : ev σ x = .pointer (some ⟨bk, o + i' * 6 + k, none⟩) := by exact Ab) (hFa : TLx ts a VR VK VS ∈ Γ ∧ a.1 = some ⟨bk, o, none⟩ := by exact ma0_) (hu : Tab.und P t = some d := by rfl) (hd' : (match d with | .struct _ | .array _ _ => true | _ => false) = false := by rfl) (hk : (tc (ts.getD i' t0) (VR i') (VK i') (VS i'))[k]? = some v := by exact Ab) (hlt : i' < ts.length := by omega) (hd : Ac n dst = true := by rfl) : Ew P f R B n K ops l (Cj dst (.load t x) ty) σ Γ Ms := Ib (B2f hx hFa.1 hFa.2 hu hd' hk hlt) hd k_
theorem A5y {t : TypeId} {d : TypeDesc} {bk o i' k : Nat} {a : SH} {ts : List T} {VR VK VS : Nat → SH} (k_ : NV false pn P f R B n K ops fin l (Af σ dst v) Γ Ms) (hx : ev σ x = .pointer (some ⟨bk, o + i' * 6 + k, none⟩) := by exact Ab) (hFa : TLx ts a VR VK VS ∈ Γ ∧ a.1 = some ⟨bk, o, none⟩ := by exact ma0_) (hu : Tab.und P t = some d := by rfl) (hd' : (match d with | .struct _ | .array _ _ => true | _ => false) = false := by rfl) (hk : (tc (ts.getD i' t0) (VR i') (VK i') (VS i'))[k]? = some v := by exact Ab) (hlt : i' < ts.length := by omega) (hd : Ac n dst = true := by rfl) : Ju false pn P f R B n K ops fin i l dst (.load t x) ty σ Γ Ms := R6 (B2f hx hFa.1 hFa.2 hu hd' hk hlt) rfl hd k_
theorem D9g {t : TypeId} {l' : List (Nat × Nat)} {bt bk o i' : Nat} {a : SH} {zv : Value} {bs : List Br} {VF VK : Nat → SH} (k_ : E0 P f R B n K ops l (Af σ dst (.agg (bc (bs.getD i' Bf) (VF i') (VK i')).toArray)) Γ Ms) (hx : ev σ x = .pointer (some ⟨bk, o + i' * 2, none⟩) := by exact Ab) (hFa : BLx bs a VF VK ∈ Γ ∧ a.1 = some ⟨bk, o, none⟩ := by exact ma0_) (hu : Tab.lay P t = some l' := by rfl) (hi : Tab.inf P t = some (2, bt, zv) := by rfl) (hlt : i' < bs.length := by omega) (hd : Ac n dst = true := by rfl) : Ew P f R B n K ops l (Cj dst (.load t x) ty) σ Γ Ms := Ib (D9u hx hFa.1 hFa.2 hu hi hlt) hd k_
theorem Zd {t : TypeId} {d : TypeDesc} {bk o i' k : Nat} {a : SH} {bs : List Br} {VF VK : Nat → SH} (k_ : E0 P f R B n K ops l (Af σ dst v) Γ Ms) (hx : ev σ x = .pointer (some ⟨bk, o + i' * 2 + k, none⟩) := by exact Ab) (hFa : BLx bs a VF VK ∈ Γ ∧ a.1 = some ⟨bk, o, none⟩ := by exact ma0_) (hu : Tab.und P t = some d := by rfl) (hd' : (match d with | .struct _ | .array _ _ => true | _ => false) = false := by rfl) (hk : (bc (bs.getD i' Bf) (VF i') (VK i'))[k]? = some v := by exact Ab) (hlt : i' < bs.length := by omega) (hd : Ac n dst = true := by rfl) : Ew P f R B n K ops l (Cj dst (.load t x) ty) σ Γ Ms := Ib (C6q hx hFa.1 hFa.2 hu hd' hk hlt) hd k_
theorem A5z {t : TypeId} {d : TypeDesc} {bk o i' k : Nat} {a : SH} {bs : List Br} {VF VK : Nat → SH} (k_ : NV false pn P f R B n K ops fin l (Af σ dst v) Γ Ms) (hx : ev σ x = .pointer (some ⟨bk, o + i' * 2 + k, none⟩) := by exact Ab) (hFa : BLx bs a VF VK ∈ Γ ∧ a.1 = some ⟨bk, o, none⟩ := by exact ma0_) (hu : Tab.und P t = some d := by rfl) (hd' : (match d with | .struct _ | .array _ _ => true | _ => false) = false := by rfl) (hk : (bc (bs.getD i' Bf) (VF i') (VK i'))[k]? = some v := by exact Ab) (hlt : i' < bs.length := by omega) (hd : Ac n dst = true := by rfl) : Ju false pn P f R B n K ops fin i l dst (.load t x) ty σ Γ Ms := R6 (C6q hx hFa.1 hFa.2 hu hd' hk hlt) rfl hd k_
theorem B8 {t : TypeId} {cs : List Value} (k_ : ∀ b, E0 P f R B n K ops l (Af σ dst ((fun b => .pointer (some ⟨b, 0, none⟩)) b)) Γ (Aa b cs t :: Ms)) (hx : (ev σ x).cells = cs.toArray := by rfl) (hd : Ac n dst = true := by rfl) : Ew P f R B n K ops l (Cj dst (.box t x) ty) σ Γ Ms := Lx (D7n hx) hd k_
theorem B7 {t : TypeId} {s bt : Nat} {zv : Value} {cs : List Value} (k_ : ∀ b, E0 P f R B n K ops l (Af σ dst ((fun b => .pointer (some ⟨b, 0, none⟩)) b)) Γ (Aa b cs t :: Ms)) (hi : Tab.inf P t = some (s, bt, zv) := by rfl) (hz : zv.cells = cs.toArray := by rfl) (hd : Ac n dst = true := by rfl) : Ew P f R B n K ops l (Cj dst (.alloc t) ty) σ Γ Ms := Lx (B3t hi hz) hd k_
theorem A2k {t : TypeId} {s bt : Nat} {zv : Value} {cs : List Value} (k_ : ∀ b, NV tn pn P f R B n K ops fin l (Af σ dst ((fun b => .pointer (some ⟨b, 0, none⟩)) b)) Γ (Aa b cs t :: Ms)) (hi : Tab.inf P t = some (s, bt, zv) := by rfl) (hz : zv.cells = cs.toArray := by rfl) (hd : Ac n dst = true := by rfl) : Ju tn pn P f R B n K ops fin i l dst (.alloc t) ty σ Γ Ms := B1q (B3t hi hz) rfl hd k_
theorem D9c {t e : TypeId} {sz bt len : Nat} {zv : Value} {parts : Array (Nat × Operand)} {pv : List (Nat × Value)} {cs : List Value} (k_ : ∀ b, E0 P f R B n K ops l (Af σ dst ((fun b => .slice (some ⟨b, 0, none⟩) len len) b)) Γ (Aa b cs e :: Ms)) (hu : Tab.und P t = some (.slice e) := by rfl) (hi : Tab.inf P e = some (sz, bt, zv) := by rfl) (hle : len * sz ≤ 16777216 := by decide) (hp : parts.toList.map (fun (i, x) => (i, ev σ x)) = pv := by first | exact pv0  | exact pv1 (by first | ((conv => lhs; whnf); done) | rfl) | exact pv2 (by first | ((conv => lhs; whnf); done) | rfl) (by first | ((conv => lhs; whnf); done) | rfl) | exact pv3 (by first | ((conv => lhs; whnf); done) | rfl) (by first | ((conv => lhs; whnf); done) | rfl) (by first | ((conv => lhs; whnf); done) | rfl) | exact pv4 (by first | ((conv => lhs; whnf); done) | rfl) (by first | ((conv => lhs; whnf); done) | rfl) (by first | ((conv => lhs; whnf); done) | rfl) (by first | ((conv => lhs; whnf); done) | rfl) | exact pv5 (by first | ((conv => lhs; whnf); done) | rfl) (by first | ((conv => lhs; whnf); done) | rfl) (by first | ((conv => lhs; whnf); done) | rfl) (by first | ((conv => lhs; whnf); done) | rfl) (by first | ((conv => lhs; whnf); done) | rfl) | exact pv6 (by first | ((conv => lhs; whnf); done) | rfl) (by first | ((conv => lhs; whnf); done) | rfl) (by first | ((conv => lhs; whnf); done) | rfl) (by first | ((conv => lhs; whnf); done) | rfl) (by first | ((conv => lhs; whnf); done) | rfl) (by first | ((conv => lhs; whnf); done) | rfl) | rfl) (hf : Instr.fill (fun i => some (i * sz, sz)) ((List.range (len * sz)).map (zv.cells[· % zv.cells.size]!)).toArray pv = some cs.toArray := by rfl) (hd : Ac n dst = true := by rfl) : Ew P f R B n K ops l (Cj dst (.buildSlice t len parts) ty) σ Γ Ms := Lx (A0v hu hi hle hp hf) hd k_
theorem Fk {t e : TypeId} {sz bt : Nat} {zv : Value} {cs : List Value} (k_ : ∀ b, E0 P f R B n K ops l (Af σ dst ((fun b => .slice (some ⟨b, 0, none⟩) 1 1) b)) Γ (Aa b cs e :: Ms)) (hu : Tab.und P t = some (.slice e) := by rfl) (hi : Tab.inf P e = some (sz, bt, zv) := by rfl) (hle : sz ≤ 16777216 := by decide) (hx : (ev σ x).cells = cs.toArray := by rfl) (hl : cs.length = sz := by rfl) (hd : Ac n dst = true := by rfl) : Ew P f R B n K ops l (Cj dst (.buildSlice t 1 #[(0, x)]) ty) σ Γ Ms := Lx (A8u hu hi hle hx hl) hd k_
theorem Pq {t e : TypeId} {sz bt : Nat} {zv : Value} {cs : List Value} (k_ : ∀ b, NV tn pn P f R B n K ops fin l (Af σ dst ((fun b => .slice (some ⟨b, 0, none⟩) 1 1) b)) Γ (Aa b cs e :: Ms)) (hu : Tab.und P t = some (.slice e) := by rfl) (hi : Tab.inf P e = some (sz, bt, zv) := by rfl) (hle : sz ≤ 16777216 := by decide) (hx : (ev σ x).cells = cs.toArray := by rfl) (hl : cs.length = sz := by rfl) (hd : Ac n dst = true := by rfl) : Ju tn pn P f R B n K ops fin i l dst (.buildSlice t 1 #[(0, x)]) ty σ Γ Ms := B1q (A8u hu hi hle hx hl) rfl hd k_
theorem D3d {t e : TypeId} {sz bt : Nat} {zv : Value} {cs : List Value} (F : Nat → List Fact) (hF : ∀ b M w, St B Γ (Aa b cs e :: M) w → St B (F b ++ Γ) M w) (k_ : ∀ b, NV tn pn P f R B n K ops fin l (Af σ dst ((fun b => .slice (some ⟨b, 0, none⟩) 1 1) b)) (F b ++ Γ) Ms) (hu : Tab.und P t = some (.slice e) := by rfl) (hi : Tab.inf P e = some (sz, bt, zv) := by rfl) (hle : sz ≤ 16777216 := by decide) (hx : (ev σ x).cells = cs.toArray := by rfl) (hl : cs.length = sz := by rfl) (hd : Ac n dst = true := by rfl) (hz : Nat.beq pn 1000001 = true := by rfl) : Ju tn pn P f R B n K ops fin i l dst (.buildSlice t 1 #[(0, x)]) ty σ Γ Ms := Vw F (A8u hu hi hle hx hl) rfl rfl hF hd hz k_
theorem C5q {t e : TypeId} {sz bt : Nat} {zv : Value} {cs cs2 : List Value} (k_ : ∀ b, E0 P f R B n K ops l (Af σ dst ((fun b => .slice (some ⟨b, 0, none⟩) 2 2) b)) Γ (Aa b (cs ++ cs2) e :: Ms)) (hu : Tab.und P t = some (.slice e) := by rfl) (hi : Tab.inf P e = some (sz, bt, zv) := by rfl) (hle : 2 * sz ≤ 16777216 := by decide) (hx : (ev σ x).cells = cs.toArray := by rfl) (hy : (ev σ y).cells = cs2.toArray := by rfl) (hl : cs.length = sz := by rfl) (hl2 : cs2.length = sz := by rfl) (hd : Ac n dst = true := by rfl) : Ew P f R B n K ops l (Cj dst (.buildSlice t 2 #[(0, x), (1, y)]) ty) σ Γ Ms := Lx (B9o hu hi hle hx hy hl hl2) hd k_
theorem C3m {t e : TypeId} {sz bt : Nat} {zv : Value} {cs cs2 : List Value} (F : Nat → List Fact) (hF : ∀ b M w, St B Γ (Aa b (cs ++ cs2) e :: M) w → St B (F b ++ Γ) M w) (k_ : ∀ b, NV tn pn P f R B n K ops fin l (Af σ dst ((fun b => .slice (some ⟨b, 0, none⟩) 2 2) b)) (F b ++ Γ) Ms) (hu : Tab.und P t = some (.slice e) := by rfl) (hi : Tab.inf P e = some (sz, bt, zv) := by rfl) (hle : 2 * sz ≤ 16777216 := by decide) (hx : (ev σ x).cells = cs.toArray := by rfl) (hy : (ev σ y).cells = cs2.toArray := by rfl) (hl : cs.length = sz := by rfl) (hl2 : cs2.length = sz := by rfl) (hd : Ac n dst = true := by rfl) (hz : Nat.beq pn 1000001 = true := by rfl) : Ju tn pn P f R B n K ops fin i l dst (.buildSlice t 2 #[(0, x), (1, y)]) ty σ Γ Ms := Vw F (B9o hu hi hle hx hy hl hl2) rfl rfl hF hd hz k_
theorem B5l {t e : TypeId} {sz bt : Nat} {zv : Value} (k_ : ∀ b, E0 P f R B n K ops l (Af σ dst ((fun b => .slice (some ⟨b, 0, none⟩) 0 0) b)) Γ (Aa b [] e :: Ms)) (hu : Tab.und P t = some (.slice e) := by rfl) (hi : Tab.inf P e = some (sz, bt, zv) := by rfl) (hd : Ac n dst = true := by rfl) : Ew P f R B n K ops l (Cj dst (.buildSlice t 0 #[]) ty) σ Γ Ms := Lx (D1n hu hi) hd k_
theorem E2f {t T' : TypeId} {b s bt : Nat} {zv : Value} {cs cs' : List Value} (k_ : E0 P f R B n K ops l σ Γ (Aa b cs' T' :: Ms2)) (hx : ev σ x = .pointer (some ⟨b, 0, none⟩) := by exact Ab) (hm : Ms.Perm (Aa b cs T' :: Ms2) := by first | exact Z1 | exact Ah | exact Bj | exact G2 | exact E2 | exact Km | exact D3) (hy : (ev σ y).cells = cs'.toArray := by rfl) (hi : Tab.inf P t = some (s, bt, zv) := by rfl) (hl : cs'.length = s := by rfl) (hl2 : cs.length = s := by rfl) (h1 : Kn cs' = true := by rfl) : Ew P f R B n K ops l (Cj none (.store t x y) ty) σ Γ Ms := Yi (C4d hx hy hm hi hl hl2 h1) k_
theorem D8y {t T' : TypeId} {b k bt : Nat} {zv : Value} {cs cs' : List Value} (k_ : E0 P f R B n K ops l σ Γ (Aa b cs' T' :: Ms2)) (hx : ev σ x = .pointer (some ⟨b, k, none⟩) := by exact Ab) (hm : Ms.Perm (Aa b cs T' :: Ms2) := by first | exact Z1 | exact Ah | exact Bj | exact G2 | exact E2 | exact Km | exact D3) (hy : ev σ y = v := by exact Ab) (hi : Tab.inf P t = some (1, bt, zv) := by rfl) (h1 : v.oneCell' = true := by rfl) (hk : k < cs.length := by exact Nat.le_of_ble_eq_true rfl) (hc : cs.set k v = cs' := by rfl) : Ew P f R B n K ops l (Cj none (.store t x y) ty) σ Γ Ms := by
 subst hc
 exact Yi (C9n hx hy hm hi h1 hk) k_
theorem Gq {t e T' : TypeId} {ts : Array TypeId} {sz bt n' m c b : Nat} {zv : Value} {a : SH} {xs cs : List Value} (k_ : ∀ a' : SH, E0 P f R B n K ops l (Af σ dst (sl a' (n' + m))) Γ (Ap sz e a' (n' + m) (xs ++ cs) :: Aa b cs T' :: Ms2)) (hm : Ms.Perm (Ap sz e a n' xs :: Aa b cs T' :: Ms2) := by first | exact Z1 | exact Ah | exact Bj | exact G2 | exact E2 | exact Km | exact D3) (hx : ev σ x = sl a n' := by rfl) (hy : ev σ y = .slice (some ⟨b, 0, none⟩) m c := by exact Ab) (hts : ts = #[t, t] := by rfl) (hu : Tab.und P t = some (.slice e) := by rfl) (hi : Tab.inf P e = some (sz, bt, zv) := by rfl) (hzs : zv.cells.size = sz := by rfl) (hsz : 0 < sz := by exact Nat.le_of_ble_eq_true rfl) (hl : cs.length = m * sz := by rfl) (h1 : Kn cs = true := by rfl) (hb : (n' + m) * bt ≤ 140737488355328 := by first | omega | (unfold reach at *; omega) | (unfold reach Gg at *; omega)) (hnm : n' + m ≤ 9223372036854775807 := by first | omega | (unfold reach at *; omega) | (unfold reach Gg at *; omega)) (hd : Ac n dst = true := by rfl) : Ew P f R B n K ops l (Cj dst (.call { callee := .builtin .append, args := #[x, y], argTypes := ts }) ty) σ Γ Ms := A6d (C9g hm hx hy hts hu hi hzs hsz hl h1 hb hnm) hd k_
theorem Lb {t e : TypeId} {ts : Array TypeId} {bt n' : Nat} {zv : Value} {a b : SH} {xs : List Value} {ls : List Cl} (k_ : ∀ a' : SH, E0 P f R B n K ops l (Af σ dst (sl a' (n' + ls.length))) Γ (Ap 2 e a' (n' + ls.length) (xs ++ A8 ls) :: Ms2)) (hF : CL ls b ∈ Γ) (hm : Ms.Perm (Ap 2 e a n' xs :: Ms2) := by first | exact Z1 | exact Ah | exact Bj | exact G2 | exact E2 | exact Km | exact D3) (hx : ev σ x = sl a n' := by rfl) (hy : ev σ y = sl b ls.length := by rfl) (hts : ts = #[t, t] := by rfl) (hu : Tab.und P t = some (.slice e) := by rfl) (hi : Tab.inf P e = some (2, bt, zv) := by rfl) (hzs : zv.cells.size = 2 := by rfl) (hb : (n' + ls.length) * bt ≤ 140737488355328 := by first | omega | (unfold reach at *; omega) | (unfold reach Gg at *; omega)) (hnm : n' + ls.length ≤ 9223372036854775807 := by first | omega | (unfold reach at *; omega) | (unfold reach Gg at *; omega)) (hd : Ac n dst = true := by rfl) : Ew P f R B n K ops l (Cj dst (.call { callee := .builtin .append, args := #[x, y], argTypes := ts }) ty) σ Γ Ms := A6d (A9v hm hF hx hy hts hu hi hzs hb hnm) hd k_
theorem C1d [TyF P] [TabM P] {t : TypeId} (k_ : ∀ b, E0 P f R B n K ops l (Af σ dst (.map (some b))) Γ (Zl b [] :: Ms)) (hd : Ac n dst = true := by rfl) : Ew P f R B n K ops l (Cj dst (.makeMap t none) ty) σ Γ Ms := A6d B4j hd k_
theorem C1e [TyF P] [TabM P] {t e : TypeId} {s bt b : Nat} {c : Cl} {keys : List Cl} (k_ : E0 P f R B n K ops l (Af σ dst (.bool (decide (c ∈ keys)))) Γ Ms) (hx : ev σ x = .map (some b) := by exact Ab) (hm : Zl b keys ∈ Ms := by repeat (first | exact List.mem_cons_self | apply List.mem_cons_of_mem)) (hy : ev σ y = Hb c := by rfl) (hc : u32 c := by assumption) (hu : Tab.und P t = some (.map (TyF.tC P) e) := by rfl) (hi : Tab.inf P e = some (s, bt, .bool false) := by rfl) (hd : Ac n dst = true := by rfl) : Ew P f R B n K ops l (Cj dst (.lookup t x y false) ty) σ Γ Ms := Ib (C1r hx hm hc hy hu hi) hd k_
theorem C5p [TyF P] [TabM P] {t e : TypeId} {b : Nat} {c : Cl} {keys : List Cl} (k_ : E0 P f R B n K ops l σ Γ (Zl b (keys ++ [c]) :: Ms2)) (hx : ev σ x = .map (some b) := by exact Ab) (hm : Ms.Perm (Zl b keys :: Ms2) := by first | exact Z1 | exact Ah | exact Bj | exact G2 | exact E2 | exact Km | exact D3) (hy : ev σ y = Hb c := by rfl) (hc : u32 c := by assumption) (hn : c ∉ keys := by assumption) (hz : ev σ z = .bool true := by rfl) (hu : Tab.und P t = some (.map (TyF.tC P) e) := by rfl) : Ew P f R B n K ops l (Cj none (.mapUpdate t x y z) ty) σ Γ Ms := Yi (A6m hx hm hc hn hy hz hu) k_
theorem A0e {c : FuncId} {args : Array Value} {as : Array Operand} {ts : Array TypeId} {g : Operand} (hg : ev σ g = .func (.func c) #[] #[]) (ha : as.toList.map (ev σ) = args.toList) (hc : ∀ (args : Array Value) (w : World), (callFunc c args).run P w = .ok (.enter c args) w) : Qq P σ (.call { callee := .value g, args := as, argTypes := ts }) ty c args := fun w => by
 have ha : as.map (ev σ) = args := Array.ext' (by simpa using ha)
 subst ha
 simp [Cj, execOp, resolve, hg, Deferred.ofValue, invoke, hc]
theorem B6h {c : FuncId} {args cap : List Value} {as : Array Operand} {ts : Array TypeId} {g : Operand} (hg : ev σ g = .func (.func c) #[] cap.toArray) (ha : as.toList.map (ev σ) = args) (hc : ∀ (args : Array Value) (w : World), (callFunc c args).run P w = .ok (.enter c args) w) : Qq P σ (.call { callee := .value g, args := as, argTypes := ts }) ty c (args ++ cap).toArray := fun w => by
 have ha : as.map (ev σ) = args.toArray := Array.ext' (by simpa using ha)
 simp [ha, Cj, execOp, resolve, hg, Deferred.ofValue, invoke, hc]
theorem A1 {c : FuncId} {args : Array Value} {as : Array Operand} {ts : Array TypeId} {g : Operand} {pre : List Fact} {Ms0 : List Bb} {X : Type} {val : X → Value} {N : X → List Fact} {Ms1 : X → List Bb}
  (hc : ∀ (args : Array Value) (w : World), (callFunc c args).run P w = .ok (.enter c args) w) (hsp : Spec P c args pre Ms0 val N Ms1) (kk : ∀ x, E0 P f R B n K ops l (Af σ dst (val x)) (N x ++ Γ) (Ms1 x ++ Ms2))
  (hg : ev σ g = .func (.func c) #[] #[] := by rfl) (ha : as.toList.map (ev σ) = args.toList := by rfl) (hpre : ∀ F, F ∈ pre → F ∈ Γ := by first | (simp; done) | (simp +contextual; done)) (hm : Ms.Perm (Ms0 ++ Ms2) := by first | exact List.Perm.refl _ | exact C4v | exact C4u | exact C4t | exact C4s | exact Ah | exact Bj | exact G2 | exact E2 | exact C4r) (hd : Ac n dst = true := by rfl) : Ew P f R B n K ops l (Cj dst (.call { callee := .value g, args := as, argTypes := ts }) ty) σ Γ Ms :=
 B7j (A0e hg ha hc) hsp hpre hm hd kk
theorem Eo {c : FuncId} {args cap al : List Value} {as : Array Operand} {ts : Array TypeId} {g : Operand} {pre : List Fact} {Ms0 : List Bb} {X : Type} {val : X → Value} {N : X → List Fact} {Ms1 : X → List Bb}
  (hc : ∀ (args : Array Value) (w : World), (callFunc c args).run P w = .ok (.enter c args) w) (hsp : Spec P c al.toArray pre Ms0 val N Ms1) (kk : ∀ x, E0 P f R B n K ops l (Af σ dst (val x)) (N x ++ Γ) (Ms1 x ++ Ms2))
  (hg : ev σ g = .func (.func c) #[] cap.toArray := by rfl) (ha : as.toList.map (ev σ) = args := by rfl) (hal : args ++ cap = al := by rfl) (hpre : ∀ F, F ∈ pre → F ∈ Γ := by first | (simp; done) | (simp +contextual; done)) (hm : Ms.Perm (Ms0 ++ Ms2) := by first | exact List.Perm.refl _ | exact C4v | exact C4u | exact C4t | exact C4s | exact Ah | exact Bj | exact G2 | exact E2 | exact C4r) (hd : Ac n dst = true := by rfl) : Ew P f R B n K ops l (Cj dst (.call { callee := .value g, args := as, argTypes := ts }) ty) σ Γ Ms :=
 B7j (B6h hg ha hc) (hal ▸ hsp) hpre hm hd kk
theorem Be {c : FuncId} {args : Array Value} {as : Array Operand} {ts : Array TypeId} {g : Operand} {pre : List Fact} {X : Type} {val : X → Value} {N : X → List Fact} {Ms1 : X → List Bb}
  (hc : ∀ (args : Array Value) (w : World), (callFunc c args).run P w = .ok (.enter c args) w) (hsp : Spec P c args pre [] val N Ms1) (kk : ∀ x, NV tn pn P f R B n K ops fin l (Af σ dst (val x)) (N x ++ Γ) (Ms1 x ++ Ms))
  (hg : ev σ g = .func (.func c) #[] #[] := by rfl) (ha : as.toList.map (ev σ) = args.toList := by rfl) (hpre : ∀ F, F ∈ pre → F ∈ Γ := by first | (simp; done) | (simp +contextual; done)) (hd : Ac n dst = true := by rfl) : Ju tn pn P f R B n K ops fin i l dst (.call { callee := .value g, args := as, argTypes := ts }) ty σ Γ Ms :=
 B8k (A0e hg ha hc) hsp hpre rfl rfl hd kk
theorem D8z {c : FuncId} {args : Array Value} {as : Array Operand} {ts : Array TypeId} {g : Operand} {pre : List Fact} {chain : List PanicEntry}
  (hc : ∀ (args : Array Value) (w : World), (callFunc c args).run P w = .ok (.enter c args) w) (hsp : Qo P c args pre chain) (hR : ∀ w, St B [] [] w → R (.panicked chain) w)
  (hg : ev σ g = .func (.func c) #[] #[] := by rfl) (ha : as.toList.map (ev σ) = args.toList := by rfl) (hpre : ∀ F, F ∈ pre → F ∈ Γ := by first | (simp; done) | (simp +contextual; done)) (hD : n.defs = [] := by rfl) (hK : okK n.kind := by first | exact .inl rfl | exact .inr rfl) : Ew P f R B n K ops l (Cj dst (.call { callee := .value g, args := as, argTypes := ts }) ty) σ Γ Ms :=
 D3j (A0e hg ha hc) hsp hpre hD hK hR
theorem Zg {c : FuncId} {args : Array Value} {as : Array Operand} {ts : Array TypeId} {g : Operand} {pre : List Fact} {chain : List PanicEntry} (ho : ops[i]? = some ⟨dst, .call { callee := .value g, args := as, argTypes := ts }, ty, pos, after, none⟩)
  (hc : ∀ (args : Array Value) (w : World), (callFunc c args).run P w = .ok (.enter c args) w) (hsp : Qo P c args pre chain) (hR : ∀ w, St B [] [] w → R (.panicked chain) w)
  (hg : ev σ g = .func (.func c) #[] #[] := by rfl) (ha : as.toList.map (ev σ) = args.toList := by rfl) (hpre : ∀ F, F ∈ pre → F ∈ Γ := by first | (simp; done) | (simp +contextual; done)) (hq : Nat.beq pn i = true := by rfl) (hD : n.defs = [] := by rfl) (hK : okK n.kind := by first | exact .inl rfl | exact .inr rfl) : NV tn pn P f R B n K ops fin (i :: l) σ Γ Ms :=
 D4n ho hq rfl rfl rfl (A0e hg ha hc) hsp hpre hD hK hR
theorem q0 (ho : ops[i]? = some ⟨dst, op, ty, pos, after, none⟩) (h : Ew P f R B n K ops l (Cj dst op ty) σ Γ Ms) : E0 P f R B n K ops (i :: l) σ Γ Ms := D8q ho h
theorem qT {g d : Nat} {want : Bool} {og : Oper} (ho : ops[i]? = some ⟨dst, op, ty, pos, after, some (g, want)⟩) (hog : ops[g]? = some og) (hgd : og.dst = some d) (h : Ew P f R B n K ops l (Cj dst op ty) σ Γ Ms) (ht : σ d = .bool want := by rfl) : E0 P f R B n K ops (i :: l) σ Γ Ms := D3p ho hog hgd ht h
theorem qF {g d : Nat} {want t : Bool} {og : Oper} (ho : ops[i]? = some ⟨dst, op, ty, pos, after, some (g, want)⟩) (hog : ops[g]? = some og) (hgd : og.dst = some d) (h : E0 P f R B n K ops l (Af σ dst undef) Γ Ms) (ht : σ d = .bool t := by conv => lhs; whnf) (hne : (t == want) = false := by rfl) (hd : Ac n dst = true := by rfl) : E0 P f R B n K ops (i :: l) σ Γ Ms := D3q ho hog hgd ht hne hd h
theorem qU {g d : Nat} {want : Bool} {og : Oper} (ho : ops[i]? = some ⟨dst, op, ty, pos, after, some (g, want)⟩) (hog : ops[g]? = some og) (hgd : og.dst = some d) (h : E0 P f R B n K ops l (Af σ dst undef) Γ Ms) (ht : σ d = undef := by rfl) (hd : Ac n dst = true := by rfl) : E0 P f R B n K ops (i :: l) σ Γ Ms := D3o ho hog hgd ht hd h
theorem nU {g d : Nat} {want : Bool} {og : Oper} (ho : ops[i]? = some ⟨dst, op, ty, pos, after, some (g, want)⟩) (hog : ops[g]? = some og) (hgd : og.dst = some d) (h : NV tn pn P f R B n K ops fin l (Af σ dst undef) Γ Ms) (ht : σ d = undef := by rfl) (hd : Ac n dst = true := by rfl) (hn : Nat.beq pn i = false := by rfl) : NV tn pn P f R B n K ops fin (i :: l) σ Γ Ms := D4o ho hog hgd ht hd h hn
theorem qI {g d : Nat} {want t : Bool} {og : Oper} (ho : ops[i]? = some ⟨dst, op, ty, pos, after, some (g, want)⟩) (hog : ops[g]? = some og) (hgd : og.dst = some d) (ht : σ d = .bool t) (hon : t = want → Ew P f R B n K ops l (Cj dst op ty) (Ro σ d (.bool want)) Γ Ms) (hoff : t = !want → E0 P f R B n K ops l (Af (Ro σ d (.bool !want)) dst undef) Γ Ms) (hd : Ac n dst = true := by rfl) : E0 P f R B n K ops (i :: l) σ Γ Ms := D8p ho hog hgd ht hd hon hoff
theorem n0 (ho : ops[i]? = some ⟨dst, op, ty, pos, after, none⟩) (h : Ju tn pn P f R B n K ops fin i l dst op ty σ Γ Ms) (hn : Nat.beq pn i = false := by rfl) : NV tn pn P f R B n K ops fin (i :: l) σ Γ Ms := D9j ho h hn
theorem nT {g d : Nat} {want : Bool} {og : Oper} (ho : ops[i]? = some ⟨dst, op, ty, pos, after, some (g, want)⟩) (hog : ops[g]? = some og) (hgd : og.dst = some d) (h : Ju tn pn P f R B n K ops fin i l dst op ty σ Γ Ms) (ht : σ d = .bool want := by rfl) (hn : Nat.beq pn i = false := by rfl) : NV tn pn P f R B n K ops fin (i :: l) σ Γ Ms := D4p ho hog hgd ht h hn
theorem nF {g d : Nat} {want t : Bool} {og : Oper} (ho : ops[i]? = some ⟨dst, op, ty, pos, after, some (g, want)⟩) (hog : ops[g]? = some og) (hgd : og.dst = some d) (h : NV tn pn P f R B n K ops fin l (Af σ dst undef) Γ Ms) (ht : σ d = .bool t := by conv => lhs; whnf) (hne : (t == want) = false := by rfl) (hd : Ac n dst = true := by rfl) (hn : Nat.beq pn i = false := by rfl) : NV tn pn P f R B n K ops fin (i :: l) σ Γ Ms := D4q ho hog hgd ht hne hd h hn
theorem nI {g d : Nat} {want t : Bool} {og : Oper} (ho : ops[i]? = some ⟨dst, op, ty, pos, after, some (g, want)⟩) (hog : ops[g]? = some og) (hgd : og.dst = some d) (ht : σ d = .bool t) (hon : t = want → Ju tn pn P f R B n K ops fin i l dst op ty (Ro σ d (.bool want)) Γ Ms) (hoff : t = !want → NV tn pn P f R B n K ops fin l (Af (Ro σ d (.bool !want)) dst undef) Γ Ms) (hd : Ac n dst = true := by rfl) (hn : Nat.beq pn i = false := by rfl) : NV tn pn P f R B n K ops fin (i :: l) σ Γ Ms := D9i ho hog hgd ht hd hon hoff hn
end
end Go.Hy
namespace Go.Hy
theorem Gu {a b c d e f g m : Bb} {L : List Bb} : (a :: b :: c :: d :: e :: f :: g :: m :: L).Perm (m :: a :: b :: c :: d :: e :: f :: g :: L) := (D3.cons a).trans Ah
theorem Fj {a b c d e f g h m : Bb} {L : List Bb} : (a :: b :: c :: d :: e :: f :: g :: h :: m :: L).Perm (m :: a :: b :: c :: d :: e :: f :: g :: h :: L) := (Gu.cons a).trans Ah
theorem Jj {a b c d e f g h i m : Bb} {L : List Bb} : (a :: b :: c :: d :: e :: f :: g :: h :: i :: m :: L).Perm (m :: a :: b :: c :: d :: e :: f :: g :: h :: i :: L) := (Fj.cons a).trans Ah
theorem Jk {a b c d e f g h i j m : Bb} {L : List Bb} : (a :: b :: c :: d :: e :: f :: g :: h :: i :: j :: m :: L).Perm (m :: a :: b :: c :: d :: e :: f :: g :: h :: i :: j :: L) := (Jj.cons a).trans Ah
theorem Hi {a b c d e f g h i j k m : Bb} {L : List Bb} : (a :: b :: c :: d :: e :: f :: g :: h :: i :: j :: k :: m :: L).Perm (m :: a :: b :: c :: d :: e :: f :: g :: h :: i :: j :: k :: L) := (Jk.cons a).trans Ah
def Qb (x : Int) : List Value := [.int .i64 x]
abbrev Rb (l : List Int) : List Value := l.flatMap Qb
theorem Uy (x : Int) : (Qb x).length = 1 := rfl
def D5h (ok : Nat → Prop) (l : List Int) (a : SH) (w : World) : Prop := rowAt ok 1 8 l.length a (fun i => Qb (l.getD i 0)) w ∧ ∀ x, x ∈ l → Ao x
def IL (l : List Int) (a : SH) : Fact := ⟨fun ok w => D5h ok l a w, fun _ _ _ hs h => ⟨h.1.mono hs, h.2⟩, fun _ _ _ h hs => ⟨h.1.loc hs, h.2⟩⟩
section
variable {B : Ch} {Γ : List Fact} {Ms : List Bb} {w : World}
theorem St.B0c {e : TypeId} {a : SH} {n : Nat} {xs : List Value} {l : List Int} (hs : St B Γ (Ap 1 e a n xs :: Ms) w) {hBp : Prop} (hB : hBp) (hx : xs = Rb l) (hn : n = l.length) (hb : n * 8 ≤ reach) (hu : ∀ c, c ∈ l → Ao c) : St B (IL l a :: Γ) Ms w := by
 subst hx
 subst hn
 refine hs.Qy hB (fun ok hok hh => ⟨?_, hu⟩)
 exact Nr (F := Qb) Uy 0 (hh : World.ownsRow _ _ _ _ _ _ _) rfl hb hok
theorem St.Yj {e : TypeId} {a : SH} {n : Nat} {l : List Cl} {c : Cl} (hs : St B Γ (Ap 2 e a n (A8 l ++ Al c) :: Ms) w) : St B Γ (Ap 2 e a n (A8 (l ++ [c])) :: Ms) w := by
 have h : A8 (l ++ [c]) = A8 l ++ Al c := by simp [A8]
 rw [h]; exact hs
theorem St.A3f {e : TypeId} {a : SH} {n : Nat} {l : List TP} {t : T} {vr vk vs : SH} (hs : St B Γ (Ap 6 e a n (C8 l ++ tc t vr vk vs) :: Ms) w) : St B Γ (Ap 6 e a n (C8 (l ++ [(t, vr, vk, vs)])) :: Ms) w := by
 have h : C8 (l ++ [(t, vr, vk, vs)]) = C8 l ++ tc t vr vk vs := by simp [C8, Hs]
 rw [h]; exact hs
theorem St.B7k {e : TypeId} {a : SH} {n : Nat} {l : List BP} {b : Br} {vf vk : SH} (hs : St B Γ (Ap 2 e a n (Hm l ++ bc b vf vk) :: Ms) w) : St B Γ (Ap 2 e a n (Hm (l ++ [(b, vf, vk)])) :: Ms) w := by
 have h : Hm (l ++ [(b, vf, vk)]) = Hm l ++ bc b vf vk := by simp [Hm, Kd]
 rw [h]; exact hs
theorem St.Ia {e : TypeId} {a : SH} {n : Nat} {l m : List Cl} (hs : St B Γ (Ap 2 e a n (A8 l ++ A8 m) :: Ms) w) : St B Γ (Ap 2 e a n (A8 (l ++ m)) :: Ms) w := by
 have h : A8 (l ++ m) = A8 l ++ A8 m := by simp [A8]
 rw [h]; exact hs
theorem St.D4b {l : List Int} {a : SH} (hs : St B Γ Ms w) (hF : IL l a ∈ Γ) : l.length * 8 ≤ reach ∧ (0 < l.length → ∃ b o, a.1 = some ⟨b, o, Option.none⟩) ∧ ∀ c, c ∈ l → Ao c := by
 obtain ⟨h2, h4⟩ := hs.facts _ hF
 exact ⟨h2.2.1, fun hn => by obtain ⟨b, o, h3, _⟩ := h2.2.2 hn; exact ⟨b, o, h3⟩, h4⟩
end
section
variable {P : Program} {f : FuncId} {R : Ending → World → Prop} {B : Ch} {n : Fz} {todo : List Item} {σ : Nat → Value} {Γ : List Fact} {Ms : List Bb}
theorem W0 {l : List Int} {a : SH} (k : l.length * 8 ≤ reach → (0 < l.length → ∃ b o, a.1 = some ⟨b, o, none⟩) → (∀ c, c ∈ l → Ao c) → F0 P f R B n todo σ Γ Ms) (hF : IL l a ∈ Γ := by repeat (first | exact List.mem_cons_self | apply List.mem_cons_of_mem)) : F0 P f R B n todo σ Γ Ms :=
 Cq (p := l.length * 8 ≤ reach ∧ (0 < l.length → ∃ b o, a.1 = some ⟨b, o, none⟩) ∧ ∀ c, c ∈ l → Ao c) (fun w hs => hs.D4b hF) (fun h => k h.1 h.2.1 h.2.2)
theorem Bt {K : List Item} {c : Code} {X : Type} (Inv : X → Prop) (live : X → List (Nat × Value)) (E : X → List Fact → List Fact) (Mf : X → List Bb) (μ : X → Nat) (x0 : X) (h0 : Inv x0)
  (hl : Pd σ (live x0)) (hΓ : ∀ w, St B Γ Ms w → St B (E x0 Γ) (Mf x0) w)
  (round : ∀ x base, Inv x → (∀ x' σ', Inv x' → μ x' < μ x → Pd σ' (live x') → F0 P f R B n (.inLoop c :: K) σ' (E x' Γ) (Mf x')) →
   F0 P f R B n (.code c :: .inLoop c :: K) (stL base (live x)) (E x Γ) (Mf x)) :
  F0 P f R B n (.code (.loop c) :: K) σ Γ Ms := Fv Inv live (fun x => E x Γ) Mf μ x0 h0 hl hΓ round
end
theorem NV.conv {tn : Bool} {pn : Nat} {P : Program} {f : FuncId} {R : Ending → World → Prop} {B : Ch} {n : Fz} {K : List Item} {ops : Array Oper} {l fin : List Nat} {σ : Nat → Value} {Γ : List Fact} {Ms' : List Bb} (h : NV tn pn P f R B n K ops fin l σ Γ Ms') :
  ∀ {Ms : List Bb}, (∀ Γ M w, St B Γ (M ++ Ms) w → St B Γ (M ++ Ms') w) → NV tn pn P f R B n K ops fin l σ Γ Ms := by
 induction h with
 | done h => exact fun hc => .done (fun a w hr hs => h a w hr (hc _ [] w hs))
 | no h => exact fun hc => .no (fun ⟨w, hw⟩ => h ⟨w, hc _ [] w hw⟩)
 | pure ho hw hd h k ih => exact fun hc => .pure ho hw hd h (ih hc)
 | load ht ho hm hw hd h k ih => exact fun hc => .load ht ho hm hw hd (fun w hs => h w (hc _ [] w hs)) (ih hc)
 | off ho hw hd k ih => exact fun hc => .off ho hw hd (ih hc)
 | alloc ho hg hw hd h k ih => exact fun hc => .alloc ho hg hw hd h (fun b => ih b (fun Γ M w hs => by
   have := hc Γ (M ++ [Aa b _ _]) w (by simpa using hs)
   simpa using this))
 | allocF hz ho hg hgm hw hd h hF k ih => exact fun hc => .allocF hz ho hg hgm hw hd h hF (fun b => ih b hc)
 | call ht ho hg hm hw hd he hsp hpre k ih => exact fun hc => .call ht ho hg hm hw hd he hsp hpre (fun x => ih x (fun Γ M w hs => by
   have := hc Γ (M ++ _) w (by simpa using hs)
   simpa using this))
 | loadF ho hm hw hd h k ih => exact fun hc => .loadF ho hm hw hd h (ih hc)
 | pan ht ho hq hg hm hw he hsp hpre hR => exact fun hc => .pan ht ho hq hg hm hw he hsp hpre hR
 | @Eb i l o X val F r r' σ Γ Ms0 Ms2 ht ho hb hw hd hp h k hz ih =>
  intro Ms hc
  refine NV.Eb (F := F) (r := Ms) (r' := fun x => r' x ++ Ms2) (Ms2 := []) ht ho hb hw hd (by rw [List.append_nil]) (fun M w hs => ?_) (fun x => by rw [List.append_nil]; exact k x) hz
  have h0 : St B Γ (M ++ Ms0) w := hc _ M w (hs.perm List.perm_append_comm)
  have h1 : St B Γ (r ++ (Ms2 ++ M)) w := by
   rw [← List.append_assoc]
   exact h0.perm (List.perm_append_comm.trans (hp.append_right M))
  obtain ⟨x, w', h2, h3⟩ := h (Ms2 ++ M) w h1
  exact ⟨x, w', h2, by rw [List.append_assoc]; exact h3⟩
 | @sto i l o r r' σ Γ Ms0 Ms2 ho hb hw hd hp h k ih =>
  intro Ms hc
  refine NV.sto (r := Ms) (r' := r' ++ Ms2) (Ms2 := []) ho hb hw hd (by rw [List.append_nil]) (fun M w hs => ?_) (by rw [List.append_nil]; exact k)
  have h0 : St B Γ (M ++ Ms0) w := hc _ M w (hs.perm List.perm_append_comm)
  have h1 : St B Γ (r ++ (Ms2 ++ M)) w := by
   rw [← List.append_assoc]
   exact h0.perm (List.perm_append_comm.trans (hp.append_right M))
  obtain ⟨w', h2, h3⟩ := h (Ms2 ++ M) w h1
  exact ⟨w', h2, by rw [List.append_assoc]; exact h3⟩
theorem B8j {tn : Bool} {pn : Nat} {P : Program} {f : FuncId} {R : Ending → World → Prop} {B : Ch} {n : Fz} {K : List Item} {ops : Array Oper} {l fin : List Nat} {σ : Nat → Value} {Γ : List Fact} {Ms : List Bb} (A A' : List Bb) (hc : ∀ Γ L w, St B Γ (A ++ L) w → St B Γ (A' ++ L) w) (h : NV tn pn P f R B n K ops fin l σ Γ (A' ++ Ms)) : NV tn pn P f R B n K ops fin l σ Γ (A ++ Ms) :=
 h.conv (fun Γ M w hs => by
  have h1 := hc Γ (Ms ++ M) w (by simpa using hs.perm List.perm_append_comm)
  have h2 : St B Γ ((A' ++ Ms) ++ M) w := by simpa using h1
  exact h2.perm List.perm_append_comm)
section
variable {P : Program} [Tab P] {B : Ch} {σ : Nat → Value} {Γ : List Fact} {Ms : List Bb} {ty : TypeId} {x y : Operand} {k : IntKind} {a : Int} {v : Value}
theorem D4y {t : TypeId} {d : TypeDesc} {bk o i : Nat} {a : SH} {l : List Int} (hx : ev σ x = .pointer (some ⟨bk, o + i * 1, none⟩)) (hF : IL l a ∈ Γ) (ha : a.1 = some ⟨bk, o, none⟩) (hu : Tab.und P t = some d) (hd : (match d with | .struct _ | .array _ _ => true | _ => false) = false) (hlt : i < l.length) :
  L4 P B σ Γ Ms (.load t x) ty (.int .i64 (l.getD i 0)) := fun w hs => by
 have h3 := (K0 (hs.facts _ hF).1 ha hlt).2 0 (.int .i64 (l.getD i 0)) rfl
 rw [Nat.add_zero] at h3
 have h4 := Et (P := P) hu hd h3
 generalize hv : l.getD i 0 = u at h4 ⊢
 simp only [Cj, execOp, hx, Instr.loadAt, Instr.sureAddr]
 rw [Nat.mul_one] at h4 ⊢
 simp [h4]
theorem C9q {t : TypeId} {c d : Bool} (hu : Tab.und P t = some .bool) (w : World) : (Op.equal t (.bool c) (.bool d)).run P w = .ok (c == d) w := by
 have h1 : (Op.equalIn (9999 + 1) t (.bool c) (.bool d)).run P w = .ok (c == d) w := by
  unfold Op.equalIn
  rw [A0 (Dm hu w)]
  rfl
 exact h1
theorem D3t {t t' : TypeId} {c d : Bool} (hx : ev σ x = .bool c) (hy : ev σ y = .bool d) (hu : Tab.und P t = some .bool) : Co P σ (.binOp .neq t x y t') ty (.bool (c != d)) := Db hx hy (fun w => rfl) (fun w => by
 simp only [binOp]
 rw [A0 (C9q hu w)]; rfl)
theorem C0w {s d : TypeId} {a : Int} {m : Nat} (hs : Tab.und P s = some (.int .i64)) (hd : Tab.und P d = some (.int .u64)) (hx : ev σ x = .int .i64 a) (ha : a = (m : Int)) (hm : m < 18446744073709551616) : Co P σ (.convert s d x) ty (.int .u64 (m : Int)) := by
 have e : IntKind.u64.wrap a = (m : Int) := by
  have : IntKind.u64.wrap a = a % 18446744073709551616 := by simp [IntKind.wrap, IntKind.bits, IntKind.signed]
  rw [this]; omega
 have := M1 (P := P) (ty := ty) hs hd hx
 rwa [e] at this
end
end Go.Hy
namespace Go.Hy
section
variable {P : Program} [Tab P] {B : Ch} {σ : Nat → Value} {Γ : List Fact} {Ms : List Bb} {ty : TypeId} {x y : Operand}
end
section
variable {B : Ch} {Γ : List Fact} {Ms : List Bb} {w : World}
end
end Go.Hy
namespace Go.Hy
section
variable {P : Program} [Tab P] {σ : Nat → Value} {ty : TypeId} {x y : Operand}
theorem B7c (n : Int) : IntKind.u64.wrap n = n % 18446744073709551616 := by simp [IntKind.wrap, IntKind.bits, IntKind.signed]
theorem C9z {t t' : TypeId} {k2 : IntKind} {a m : Nat} (hx : ev σ x = .int .u64 (a : Int)) (hy : ev σ y = .int k2 (m : Int)) (hm : m ≤ 64) (hb : a * 2 ^ m < 18446744073709551616) : Co P σ (.binOp .shl t x y t') ty (.int .u64 ((a * 2 ^ m : Nat) : Int)) :=
 Db hx hy (fun w => C1 w) (fun w => by
  have e : IntKind.u64.wrap ((a : Int) * 2 ^ min (m : Int).toNat 64) = ((a * 2 ^ m : Nat) : Int) := by
   rw [B7c, Int.toNat_natCast, Nat.min_eq_left hm]
   have : ((a : Int) * 2 ^ m) = ((a * 2 ^ m : Nat) : Int) := by rw [Int.natCast_mul, Int.natCast_pow]; rfl
   rw [this]; omega
  have h0 : ¬ ((m : Int) < 0) := by omega
  simp only [binOp, Op.shift, if_neg h0]
  show Result.ok (Value.int .u64 (IntKind.u64.wrap ((a : Int) * 2 ^ min (m : Int).toNat 64))) w = _
  rw [e])
theorem C9x {t t' : TypeId} {a b : Nat} (hx : ev σ x = .int .u64 (a : Int)) (hy : ev σ y = .int .u64 (b : Int)) (h : b ≤ a) (ha : a < 18446744073709551616) : Co P σ (.binOp .sub t x y t') ty (.int .u64 ((a - b : Nat) : Int)) :=
 Db hx hy (fun w => C1 w) (fun w => by
  have e : IntKind.u64.wrap ((a : Int) - (b : Int)) = ((a - b : Nat) : Int) := by rw [B7c]; omega
  simp only [binOp, Op.intArith, ne_eq, not_true, if_false]
  show Result.ok (Value.int .u64 (IntKind.u64.wrap ((a : Int) - (b : Int)))) w = _
  rw [e])
theorem C0y {s d : TypeId} {a : Nat} (hs : Tab.und P s = some (.int .u64)) (hd : Tab.und P d = some (.int .u32)) (hx : ev σ x = .int .u64 (a : Int)) (ha : a < 4294967296) : Co P σ (.convert s d x) ty (.int .u32 (a : Int)) := by
 have e : IntKind.u32.wrap (a : Int) = (a : Int) := by rw [C3j]; omega
 have := M1 (P := P) (ty := ty) hs hd hx
 rwa [e] at this
end
end Go.Hy
namespace Go.Hy
section
variable {P : Program} [Tab P] {σ : Nat → Value} {ty : TypeId} {x y : Operand}
end
end Go.Hy
namespace Go.Hy
open Go Go.ChangeShapes Go.WideShapes Go.RowKit
variable {P : Program} {H : Type} {enc : TypeId × Value → H} {W : World} {base : Nat} {v : Value} {d : DataW H} {ps : List MemPlace}
theorem N1 {t : TypeId} {ts : List TypeId} {ds : List (DataW H)} (h : ∀ x, x ∈ DataW.weightsEach P (t :: ts) (d :: ds) → x ≤ reach) : M9 P t d ∧ ∀ x, x ∈ DataW.weightsEach P ts ds → x ≤ reach :=
 ⟨fun x hx => h x (by simp only [DataW.weightsEach, List.mem_append]; exact .inl hx), fun x hx => h x (by simp only [DataW.weightsEach, List.mem_append]; exact .inr hx)⟩
theorem Sg {t : TypeId} {ts : List TypeId} {vs : List Value} {ds : List (DataW H)} (h : DataW.TrodAll enc P W 0 (fun _ => true) true (t :: ts) vs ds ps) :
  ∃ v vs' d ds' p q, vs = v :: vs' ∧ ds = d :: ds' ∧ DataW.Trod enc P W 0 (fun _ => true) true t v d p ∧ DataW.TrodAll enc P W 0 (fun _ => true) true ts vs' ds' q := by
 obtain ⟨v, vs1, d, ds1, a, b, h1, h2, h3, h4, h5⟩ := trodAll_cons h
 exact ⟨v, vs1, d, ds1, a, b, h1, h2, h4, h5⟩
theorem C0a {vs : List Value} {ds : List (DataW H)} (h : DataW.TrodAll enc P W 0 (fun _ => true) true [] vs ds ps) : vs = [] := by
 obtain ⟨h1, _, _⟩ := trodAll_nil h
 exact h1
theorem E1k {t : TypeId} (ht : P.underlying t = some (.int .i64)) (hval : Value.okWide P W .any base t v) (h : DataW.Trod enc P W 0 (fun _ => true) true t v d ps) : ∃ n : Int, v = .int .i64 n ∧ Ao n := by
 obtain ⟨n, rfl, _, _, hw⟩ := open_int ht hval h
 simp only [Lit.wf, Bool.and_eq_true, decide_eq_true_eq] at hw
 exact ⟨n, rfl, hw.1, hw.2⟩
variable [TyF P]
theorem E1j {t : TypeId} (ht : t = TyF.tT P) (hval : Value.okWide P W .any base t v) (h : DataW.Trod enc P W 0 (fun _ => true) true t v d ps) (hl : M9 P t d) : ∃ (u : T) (vr vk vs : SH), v = .agg (tc u vr vk vs).toArray ∧ Fe (okw W) u vr vk vs W := by
 subst ht
 obtain ⟨cs, rfl, _⟩ := okWide_struct TyF.uT hval
 obtain ⟨fuel, hf⟩ := h
 obtain ⟨⟨u, vr, vk, vs⟩, h1, h2⟩ := (A4c fuel).1 _ _ _ hf hl
 exact ⟨u, vr, vk, vs, by
  have h3 : (Value.agg cs).cells.toList = tc u vr vk vs := h1
  rw [← h3]; simp [Value.cells], h2⟩
theorem D7l {t : TypeId} (ht : t = TyF.lC P) (hval : Value.okWide P W .any base t v) (h : DataW.Trod enc P W 0 (fun _ => true) true t v d ps) (hl : M9 P t d) : ∃ (l : List Cl) (a : SH), v = sl a l.length ∧ Jx (okw W) l a W := by
 subst ht
 obtain ⟨x, y, z, rfl⟩ := okWide_slice TyF.ulC hval
 obtain ⟨fuel, hf⟩ := h
 obtain ⟨l, a, h1, h2⟩ := A6z hf hl
 exact ⟨l, a, by simpa [Value.cells] using h1, h2⟩
end Go.Hy
namespace Go.Hy
def Cu (L : List Bb) : Bb := ⟨Bh L, fun w => (∀ m, m ∈ L → ∀ w', (∀ b, m.dom b → w'.heap[b]? = w.heap[b]?) → m.holds w') ∧ (L.Pairwise fun m m' => ∀ b, m.dom b → m'.dom b → False)⟩
section
variable {B : Ch} {Γ : List Fact} {Ms L L' : List Bb} {w : World}
theorem St.pack (hs : St B Γ (L ++ Ms) w) : St B Γ (Cu L :: Ms) w := by
 have hd : ∀ b, Bh (Cu L :: Ms) b ↔ Bh (L ++ Ms) b := fun b => by rw [Fy, Dr]; exact Iff.rfl
 refine ⟨hs.chg, fun F hF => F.mono _ _ _ (fun b hb => ⟨hb.1, hb.2.1, fun hc => hb.2.2 ((hd b).mp hc)⟩) (hs.facts F hF), ?_, ?_, ?_⟩
 ·intro m hm w' hw
  rcases List.mem_cons.mp hm with e | hm
  ·subst e
   exact ⟨fun m hm w2 hw2 => hs.res m (List.mem_append_left _ hm) w2 (fun b hb => (hw2 b hb).trans (hw b ⟨m, hm, hb⟩)), (List.pairwise_append.mp hs.disj).1⟩
  ·exact hs.res m (List.mem_append_right _ hm) w' hw
 ·intro m hm b hb
  rcases List.mem_cons.mp hm with e | hm
  ·subst e
   obtain ⟨m', hm', hb'⟩ := hb
   exact hs.lt m' (List.mem_append_left _ hm') b hb'
  ·exact hs.lt m (List.mem_append_right _ hm) b hb
 ·refine List.pairwise_cons.mpr ⟨fun m hm b hb hb2 => ?_, (List.pairwise_append.mp hs.disj).2.1⟩
  obtain ⟨m', hm', hb'⟩ := hb
  exact (List.pairwise_append.mp hs.disj).2.2 m' hm' m hm b hb' hb2
theorem St.unpack (hs : St B Γ (Cu L :: Ms) w) : St B Γ (L ++ Ms) w := by
 have hd : ∀ b, Bh (Cu L :: Ms) b ↔ Bh (L ++ Ms) b := fun b => by rw [Fy, Dr]; exact Iff.rfl
 have Xu := hs.res (Cu L) List.mem_cons_self w (fun _ _ => rfl)
 refine ⟨hs.chg, fun F hF => F.mono _ _ _ (fun b hb => ⟨hb.1, hb.2.1, fun hc => hb.2.2 ((hd b).mpr hc)⟩) (hs.facts F hF), ?_, ?_, ?_⟩
 ·intro m hm w' hw
  rcases List.mem_append.mp hm with hm | hm
  ·exact Xu.1 m hm w' hw
  ·exact hs.res m (List.mem_cons_of_mem _ hm) w' hw
 ·intro m hm b hb
  rcases List.mem_append.mp hm with hm | hm
  ·exact hs.lt (Cu L) List.mem_cons_self b ⟨m, hm, hb⟩
  ·exact hs.lt m (List.mem_cons_of_mem _ hm) b hb
 ·exact List.pairwise_append.mpr ⟨Xu.2, (List.pairwise_cons.mp hs.disj).2, fun m hm m' hm' b hb hb' => (List.pairwise_cons.mp hs.disj).1 m' hm' b ⟨m, hm, hb⟩ hb'⟩
theorem St.Ni (hs : St B Γ Ms w) : St B Γ (Cu [] :: Ms) w := St.pack (L := []) hs
theorem St.D1f (hs : St B Γ (Cu L :: Cu L' :: Ms) w) : St B Γ (Cu (L' ++ L) :: Ms) w := by
 have h1 := (hs.unpack.perm List.perm_middle).unpack
 exact St.pack (by rw [List.append_assoc]; exact h1)
end
mutual
inductive HT where
 | mk (kind n : Int) (name : ByteArray) (r : List Cl) (vr : SH) (kids : List HT) (vk : SH) (sys : List HB) (vs : SH)
inductive HB where
 | mk (Ad : List Cl) (vf : SH) (kids : List HT) (vk : SH)
end
mutual
def HT.er : HT → T
 | .mk k n nm r _ ks _ ss _ => .mk k n nm r (HT.erL ks) (HT.erB ss)
def HT.erL : List HT → List T
 | [] => []
 | h :: hs => h.er :: HT.erL hs
def HT.erB : List HB → List Br
 | [] => []
 | .mk f _ ks _ :: bs => .mk f (HT.erL ks) :: HT.erB bs
end
def HB.er : HB → Br
 | .mk f _ ks _ => .mk f (HT.erL ks)
theorem HT.I1 : ∀ l : List HT, HT.erL l = l.map HT.er
 | [] => by simp [HT.erL]
 | h :: hs => by simp [HT.erL, HT.I1 hs]
theorem HT.T0 : ∀ l : List HB, HT.erB l = l.map HB.er
 | [] => by simp [HT.erB]
 | .mk f v ks u :: bs => by simp [HT.erB, HB.er, HT.T0 bs]
namespace HT
def vr : HT → SH | .mk _ _ _ _ v _ _ _ _ => v
def vk : HT → SH | .mk _ _ _ _ _ _ v _ _ => v
def vs : HT → SH | .mk _ _ _ _ _ _ _ _ v => v
def kids : HT → List HT | .mk _ _ _ _ _ ks _ _ _ => ks
def sys : HT → List HB | .mk _ _ _ _ _ _ _ ss _ => ss
def tp (h : HT) : TP := (h.er, h.vr, h.vk, h.vs)
end HT
namespace HB
def Ad : HB → List Cl | .mk f _ _ _ => f
def vf : HB → SH | .mk _ v _ _ => v
def kids : HB → List HT | .mk _ _ ks _ => ks
def vk : HB → SH | .mk _ _ _ v => v
def bp (b : HB) : BP := (b.er, b.vf, b.vk)
end HB
structure Tys where
 c : TypeId
 t : TypeId
 b : TypeId
mutual
def F6 (y : Tys) : HT → List Bb
 | .mk _ _ _ r v ks u ss x => Ap 2 y.c v r.length (A8 r) :: Ap 6 y.t u ks.length (C8 (ks.map HT.tp)) :: Ap 2 y.b x ss.length (Hm (ss.map HB.bp)) :: (E4 y ks ++ Ng y ss)
def E4 (y : Tys) : List HT → List Bb
 | [] => []
 | h :: hs => F6 y h ++ E4 y hs
def Ng (y : Tys) : List HB → List Bb
 | [] => []
 | .mk f v ks u :: bs => (Ap 2 y.c v f.length (A8 f) :: Ap 6 y.t u ks.length (C8 (ks.map HT.tp)) :: E4 y ks) ++ Ng y bs
end
def brR (y : Tys) : HB → List Bb
 | .mk f v ks u => Ap 2 y.c v f.length (A8 f) :: Ap 6 y.t u ks.length (C8 (ks.map HT.tp)) :: E4 y ks
theorem B2h (y : Tys) : ∀ l, E4 y l = l.flatMap (F6 y)
 | [] => by simp [E4]
 | h :: hs => by simp [E4, B2h y hs]
theorem B9h (y : Tys) : ∀ l, Ng y l = l.flatMap (brR y)
 | [] => by simp [Ng]
 | .mk f v ks u :: bs => by simp [Ng, brR, B9h y bs]
mutual
def N9 : T → Prop
 | .mk k n nm r ks ss => Ao k ∧ Ao n ∧ nm.size ≤ Gg ∧ ((∀ c, c ∈ r → u32 c) ∧ r.length * 8 ≤ reach) ∧ ks.length * 104 ≤ reach ∧ ss.length * 48 ≤ reach ∧ okL ks ∧ okB ss
def okL : List T → Prop
 | [] => True
 | t :: ts => N9 t ∧ okL ts
def okB : List Br → Prop
 | [] => True
 | .mk f ks :: bs => ((∀ c, c ∈ f → u32 c) ∧ f.length * 8 ≤ reach) ∧ ks.length * 104 ≤ reach ∧ okL ks ∧ okB bs
end
mutual
theorem Wy {ok : Nat → Prop} {w : World} : ∀ {t : T} {vr vk vs : SH}, Fe ok t vr vk vs w → N9 t
 | .mk k n nm r ks ss, vr, vk, vs, h => by
  simp only [Fe] at h
  simp only [N9]
  obtain ⟨h1, h2, h3, h4, ⟨VR, VK, VS, h6, h7⟩, ⟨VF, VK', h9, h10⟩⟩ := h
  exact ⟨h1, h2, h3, ⟨h4.2, h4.1.2.1⟩, h6.2.1, h9.2.1, B5g h7, C5o h10⟩
theorem B5g {ok : Nat → Prop} {w : World} : ∀ {ts : List T} {VR VK VS : Nat → SH}, G0 ok ts VR VK VS w → okL ts
 | [], _, _, _, _ => by simp only [okL]
 | t :: ts, _, _, _, h => by
  simp only [G0] at h
  simp only [okL]
  exact ⟨Wy h.1, B5g h.2⟩
theorem C5o {ok : Nat → Prop} {w : World} : ∀ {bs : List Br} {VF VK : Nat → SH}, Gk ok bs VF VK w → okB bs
 | [], _, _, _ => by simp only [okB]
 | .mk f ks :: bs, _, _, h => by
  simp only [Gk, Nh] at h
  simp only [okB]
  obtain ⟨⟨h1, ⟨VR, VK, VS, h2, h3⟩⟩, h4⟩ := h
  exact ⟨⟨h1.2, h1.1.2.1⟩, h2.2.1, B5g h3, C5o h4⟩
end
theorem Uf {K S M : List Bb} {a : Bb} : (K ++ (S ++ a :: M)).Perm (a :: (K ++ (S ++ M))) := (List.perm_middle.append_left K).trans List.perm_middle
section
variable {B : Ch} {Γ : List Fact} {Ms : List Bb} {w : World}
mutual
theorem St.Ic (y : Tys) {hBp : Prop} (hB : hBp) : ∀ (h : HT) {Γ : List Fact} {Ms : List Bb}, N9 h.er → St B Γ (F6 y h ++ Ms) w → St B (RT h.er h.vr h.vk h.vs :: Γ) Ms w
 | .mk k n nm r v ks u ss x, Γ, Ms, hok, hs => by
  simp only [HT.er, N9] at hok
  obtain ⟨o1, o2, o3, o4, o5, o6, o7, o8⟩ := hok
  simp only [F6, List.cons_append, List.append_assoc] at hs
  have h1 := hs.C7 (l := r) hB rfl rfl o4.2 o4.1
  -- the rows of kids and branches wait behind the parts
  have h2 : St B (CL r v :: Γ) (E4 y ks ++ (Ng y ss ++ (Ap 6 y.t u ks.length (C8 (ks.map HT.tp)) :: Ap 2 y.b x ss.length (Hm (ss.map HB.bp)) :: Ms))) w := by
   exact h1.perm (((Uf.trans (Uf.cons _))).symm)
  have h3 := St.Yk y hB ks [] (by rw [HT.I1] at o7; exact o7) (by simpa using h2.A0s)
  have h4 := St.B0d y hB ss [] (by rw [HT.T0] at o8; exact o8) (h3.D2q)
  have h5 := h4.Ly (ps := ks.map HT.tp) (ts := ks.map HT.er) hB D8 rfl (by simp [HT.tp, Function.comp_def]) D8 (by rw [HT.I1, List.length_map] at o5; exact o5)
  have h6 := h5.B0e (ps := ss.map HB.bp) (bs := ss.map HB.er) hB D8 rfl (by simp [HB.bp, Function.comp_def]) D8 (by rw [HT.T0, List.length_map] at o6; exact o6)
  have h7 := h6.C1j (k := k) (n := n) (nm := nm) (r := r) (vr := v) (ks := ks.map HT.er) (vk := u) (ss := ss.map HB.er) (vs := x) o1 o2 o3 D8 D8 D8
  simp only [HT.er, HT.I1, HT.T0, HT.vr, HT.vk, HT.vs]
  exact h7.less sx_
theorem St.Yk (y : Tys) {hBp : Prop} (hB : hBp) : ∀ (ks : List HT) (ps : List TP) {Γ : List Fact} {Ms : List Bb}, okL (ks.map HT.er) → St B (AP ps :: Γ) (E4 y ks ++ Ms) w → St B (AP (ps ++ ks.map HT.tp) :: Γ) Ms w
 | [], ps, Γ, Ms, hok, hs => by simpa [E4] using hs
 | h :: hs', ps, Γ, Ms, hok, hs => by
  simp only [List.map_cons, okL] at hok
  simp only [E4, List.append_assoc] at hs
  have h1 := St.Ic y hB h hok.1 hs
  have h2 := h1.Vc (ps := ps) (t := h.er) (vr := h.vr) (vk := h.vk) (vs := h.vs) D8 D8
  have h3 := St.Yk y hB hs' (ps ++ [h.tp]) (Γ := Γ) hok.2 (h2.less (by simp +contextual [HT.tp]))
  simpa using h3
theorem St.B0d (y : Tys) {hBp : Prop} (hB : hBp) : ∀ (bs : List HB) (ps : List BP) {Γ : List Fact} {Ms : List Bb}, okB (bs.map HB.er) → St B (BPs ps :: Γ) (Ng y bs ++ Ms) w → St B (BPs (ps ++ bs.map HB.bp) :: Γ) Ms w
 | [], ps, Γ, Ms, hok, hs => by simpa [Ng] using hs
 | .mk f v ks u :: bs, ps, Γ, Ms, hok, hs => by
  simp only [List.map_cons, HB.er, okB] at hok
  obtain ⟨o1, o2, o3, o4⟩ := hok
  simp only [Ng, List.cons_append, List.append_assoc] at hs
  have h1 := hs.C7 (l := f) hB rfl rfl o1.2 o1.1
  have h2 : St B (CL f v :: BPs ps :: Γ) (E4 y ks ++ (Ap 6 y.t u ks.length (C8 (ks.map HT.tp)) :: (Ng y bs ++ Ms))) w := h1.perm (by exact List.perm_middle.symm)
  have h3 := St.Yk y hB ks [] (by rw [HT.I1] at o3; exact o3) (by simpa using h2.A0s)
  have h4 := h3.Ly (ps := ks.map HT.tp) (ts := ks.map HT.er) hB D8 rfl (by simp [HT.tp, Function.comp_def]) D8 (by rw [HT.I1, List.length_map] at o2; exact o2)
  have h5 := h4.D2r (ps := ps) (f := f) (ks := ks.map HT.er) (vf := v) (vk := u) D8 D8 D8
  have h6 := St.B0d y hB bs (ps ++ [(.mk f (ks.map HT.er), v, u)]) (Γ := Γ) o4 (h5.less sx_)
  simpa [HB.bp, HB.er, HB.vf, HB.vk, HT.I1] using h6
end
end
end Go.Hy
namespace Go.Hy
section
variable {B : Ch} {Γ : List Fact} {Ms K S : List Bb} {w : World} {a b c : Bb}
theorem St.D8t (hs : St B Γ (a :: b :: c :: Cu K :: Cu S :: Ms) w) : St B Γ (Cu (a :: b :: c :: (K ++ S)) :: Ms) w := by
 have h1 : St B Γ (Cu K :: Cu S :: a :: b :: c :: Ms) w := hs.perm (G2.trans (G2.cons _))
 have h2 : St B Γ (Cu S :: (K ++ a :: b :: c :: Ms)) w := h1.unpack.perm List.perm_middle
 have h3 : St B Γ (K ++ (S ++ a :: b :: c :: Ms)) w := h2.unpack.perm (by rw [← List.append_assoc, ← List.append_assoc]; exact List.perm_append_comm.append_right _)
 exact St.pack (L := a :: b :: c :: (K ++ S)) (by
  simp only [List.cons_append, List.append_assoc]
  exact h3.perm (Uf.trans ((Uf.trans (Uf.cons _)).cons _)))
theorem St.D8u (hs : St B Γ (a :: b :: Cu K :: Cu S :: Ms) w) : St B Γ (Cu (S ++ (a :: b :: K)) :: Ms) w := by
 have h1 : St B Γ (Cu K :: Cu S :: a :: b :: Ms) w := hs.perm (Bj.trans (Bj.cons _))
 have h2 : St B Γ (Cu S :: (K ++ a :: b :: Ms)) w := h1.unpack.perm List.perm_middle
 have h3 : St B Γ (S ++ (K ++ a :: b :: Ms)) w := h2.unpack
 exact St.pack (L := S ++ (a :: b :: K)) (by
  have : (S ++ a :: b :: K) ++ Ms = S ++ (a :: b :: (K ++ Ms)) := by simp
  rw [this]
  exact h3.perm ((List.perm_middle.trans (List.perm_middle.cons _)).append_left S))
theorem St.B8w {y : Tys} {hs : List HT} {h : HT} (h0 : St B Γ (Cu (F6 y h) :: Cu (E4 y hs) :: Ms) w) : St B Γ (Cu (E4 y (hs ++ [h])) :: Ms) w := by
 have := h0.D1f
 rwa [show E4 y hs ++ F6 y h = E4 y (hs ++ [h]) by simp [B2h]] at this
theorem St.C6y {y : Tys} {bs : List HB} {f : List Cl} {v u : SH} {ks : List HT} {n m : Nat} {fl tl : List Value} (hn : n = f.length) (hm : m = ks.length) (hf : fl = A8 f) (ht : tl = C8 (ks.map HT.tp)) (h0 : St B Γ (Ap 2 y.c v n fl :: Ap 6 y.t u m tl :: Cu (E4 y ks) :: Cu (Ng y bs) :: Ms) w) : St B Γ (Cu (Ng y (bs ++ [.mk f v ks u])) :: Ms) w := by
 subst hn; subst hm; subst hf; subst ht
 have := h0.D8u
 rwa [show Ng y bs ++ (Ap 2 y.c v f.length (A8 f) :: Ap 6 y.t u ks.length (C8 (ks.map HT.tp)) :: E4 y ks) = Ng y (bs ++ [.mk f v ks u]) by simp [B9h, brR]] at this
theorem St.B8u {y : Tys} {k n : Int} {nm : ByteArray} {r : List Cl} {v u x : SH} {ks : List HT} {ss : List HB} {n1 n2 n3 : Nat} {l1 l2 l3 : List Value} (e1 : n1 = r.length) (e2 : n2 = ks.length) (e3 : n3 = ss.length) (f1 : l1 = A8 r) (f2 : l2 = C8 (ks.map HT.tp)) (f3 : l3 = Hm (ss.map HB.bp))
  (h0 : St B Γ (Ap 2 y.c v n1 l1 :: Ap 6 y.t u n2 l2 :: Ap 2 y.b x n3 l3 :: Cu (E4 y ks) :: Cu (Ng y ss) :: Ms) w) : St B Γ (Cu (F6 y (.mk k n nm r v ks u ss x)) :: Ms) w := by
 subst e1; subst e2; subst e3; subst f1; subst f2; subst f3
 simpa only [F6] using h0.D8t
end
end Go.Hy
namespace Go.Hy
section
variable {P : Program} {f : FuncId} {R : Ending → World → Prop} {B : Ch} {n : Fz} {K : List Item} {σ : Nat → Value} {Γ LF : List Fact} {Ms Ms2 Ms' : List Bb} {todo : List Item} {w : World}
theorem Mb (h : Ms = Ms') (k : F0 P f R B n todo σ Γ Ms') : F0 P f R B n todo σ Γ Ms := h ▸ k
theorem St.D4 {b : Nat} {cs : List Value} {T : TypeId} {hBp : Prop} (hB : hBp) (hs : St B Γ (Aa b cs T :: Ms) w) : St B (At b 0 cs :: Γ) Ms w := by
 refine hs.Qy hB (fun ok hok hh => ⟨hok b rfl, fun j v hj => ?_⟩)
 have hh : w.heap[b]? = some (.cells cs.toArray T (0, 0)) := hh
 simp [World.cell?, hh, hj]
end
end Go.Hy
namespace Go.Hy
section
variable {B : Ch} {Γ : List Fact} {Ms K S : List Bb} {w : World} {a b c : Bb}
def h0 : HT := .mk 0 0 (ByteArray.mk #[]) [] (none, 0) [] (none, 0) [] (none, 0)
def Xu : HB := .mk [] (none, 0) [] (none, 0)
theorem Spec.conv {P : Program} {k : FuncId} {args args' : Array Value} {pre : List Fact} {Ms0 Ms0' : List Bb} {X : Type} {val : X → Value} {N : X → List Fact} {Ms1 : X → List Bb} (h : Spec P k args pre Ms0 val N Ms1) (ha : args = args') (hd : ∀ b, Bh Ms0' b ↔ Bh Ms0 b) (hs : ∀ B w, St B pre Ms0' w → St B pre Ms0 w) : Spec P k args' pre Ms0' val N Ms1 := by
 subst ha
 have e : Bh Ms0' = Bh Ms0 := funext fun b => propext (hd b)
 intro ok w hok hst
 rw [e] at hst ⊢
 exact h ok w (fun b hb => ⟨(hok b hb).1, fun hc => (hok b hb).2 ((hd b).2 hc)⟩) (hs _ _ hst)
mutual
theorem HT.E2n {P : HT → Prop} (h : ∀ k n nm r v ks u ss x, (∀ c, c ∈ ks → P c) → P (.mk k n nm r v ks u ss x)) : ∀ t, P t
 | .mk k n nm r v ks u ss x => h k n nm r v ks u ss x (HT.C1t h ks)
theorem HT.C1t {P : HT → Prop} (h : ∀ k n nm r v ks u ss x, (∀ c, c ∈ ks → P c) → P (.mk k n nm r v ks u ss x)) : ∀ ts : List HT, ∀ c, c ∈ ts → P c
 | [], _, hc => by cases hc
 | t :: ts, c, hc => by
  rcases List.mem_cons.mp hc with e | hc
  ·rw [e]; exact HT.E2n h t
  ·exact HT.C1t h ts c hc
end
end
end Go.Hy
namespace Go.Hy
section
variable {tn : Bool} {pn : Nat} {P : Program} [Tab P] {f : FuncId} {R : Ending → World → Prop} {B : Ch} {n : Fz} {K : List Item} {ops : Array Oper} {i : Nat} {l fin : List Nat} {σ : Nat → Value} {Γ : List Fact} {Ms Ms2 : List Bb}
variable {dst : Option Tmp} {op : Op} {ty : TypeId} {pos : String} {after : Array Edge} {v : Value} {x y z : Operand}
theorem D9b {t t' : TypeId} {a b : Bool} (k_ : E0 P f R B n K ops l (Af σ dst (.bool (a != b))) Γ Ms) (hx : ev σ x = .bool a := by exact Ab) (hy : ev σ y = .bool b := by exact Ab) (hu : Tab.und P t = some .bool := by rfl) (hd : Ac n dst = true := by rfl) : Ew P f R B n K ops l (Cj dst (.binOp .neq t x y t') ty) σ Γ Ms := Bg (D3t hx hy hu) hd k_
theorem B5k {t t' : TypeId} {k2 : IntKind} {a m : Nat} (k_ : E0 P f R B n K ops l (Af σ dst (.int .u64 ((a * 2 ^ m : Nat) : Int))) Γ Ms) (hx : ev σ x = .int .u64 (a : Int) := by exact Ab) (hy : ev σ y = .int k2 (m : Int) := by exact Ab) (hm : m ≤ 64 := by first | assumption | omega) (hb : a * 2 ^ m < 18446744073709551616 := by first | assumption | omega) (hd : Ac n dst = true := by rfl) : Ew P f R B n K ops l (Cj dst (.binOp .shl t x y t') ty) σ Γ Ms := Bg (C9z hx hy hm hb) hd k_
theorem D4f {t t' : TypeId} {a b : Nat} (k_ : E0 P f R B n K ops l (Af σ dst (.int .u64 ((a - b : Nat) : Int))) Γ Ms) (hx : ev σ x = .int .u64 (a : Int) := by exact Ab) (hy : ev σ y = .int .u64 (b : Int) := by exact Ab) (h : b ≤ a := by first | assumption | omega) (ha : a < 18446744073709551616 := by first | assumption | omega) (hd : Ac n dst = true := by rfl) : Ew P f R B n K ops l (Cj dst (.binOp .sub t x y t') ty) σ Γ Ms := Bg (C9x hx hy h ha) hd k_
theorem B1o {s d : TypeId} {a : Nat} (k_ : E0 P f R B n K ops l (Af σ dst (.int .u32 (a : Int))) Γ Ms) (hx : ev σ x = .int .u64 (a : Int) := by exact Ab) (ha : a < 4294967296 := by first | assumption | omega) (hs : Tab.und P s = some (.int .u64) := by rfl) (hd' : Tab.und P d = some (.int .u32) := by rfl) (hd : Ac n dst = true := by rfl) : Ew P f R B n K ops l (Cj dst (.convert s d x) ty) σ Γ Ms := Bg (C0y hs hd' hx ha) hd k_
theorem Ko {s d : TypeId} {a : Int} {m : Nat} (k_ : E0 P f R B n K ops l (Af σ dst (.int .u64 (m : Int))) Γ Ms) (hx : ev σ x = .int .i64 a := by exact Ab) (ha : a = (m : Int) := by first | assumption | omega) (hm : m < 18446744073709551616 := by omega) (hs : Tab.und P s = some (.int .i64) := by rfl) (hd' : Tab.und P d = some (.int .u64) := by rfl) (hd : Ac n dst = true := by rfl) : Ew P f R B n K ops l (Cj dst (.convert s d x) ty) σ Γ Ms := Bg (C0w hs hd' hx ha hm) hd k_
theorem C5r {t : TypeId} {d : TypeDesc} {bk o i' : Nat} {a : SH} {ls : List Int} (k_ : E0 P f R B n K ops l (Af σ dst (.int .i64 (ls.getD i' 0))) Γ Ms) (hx : ev σ x = .pointer (some ⟨bk, o + i' * 1, none⟩) := by exact Ab) (hFa : IL ls a ∈ Γ ∧ a.1 = some ⟨bk, o, none⟩ := by exact ma0_) (hu : Tab.und P t = some d := by rfl) (hd' : (match d with | .struct _ | .array _ _ => true | _ => false) = false := by rfl) (hlt : i' < ls.length := by omega) (hd : Ac n dst = true := by rfl) : Ew P f R B n K ops l (Cj dst (.load t x) ty) σ Γ Ms := Ib (D4y hx hFa.1 hFa.2 hu hd' hlt) hd k_
theorem C9k {t e : TypeId} {ts : Array TypeId} {bt n' : Nat} {zv : Value} {a b : SH} {xs : List Value} {ls : List Cl} (k_ : ∀ a' : SH, NV tn pn P f R B n K ops fin l (Af σ dst (sl a' (n' + ls.length))) Γ (Ap 2 e a' (n' + ls.length) (xs ++ A8 ls) :: Ms2)) (hF : CL ls b ∈ Γ) (hm : Ms.Perm (Ap 2 e a n' xs :: Ms2) := by first | exact Z1 | exact Ah | exact Bj | exact G2 | exact E2 | exact Km | exact D3) (hx : ev σ x = sl a n' := by rfl) (hy : ev σ y = sl b ls.length := by rfl) (hts : ts = #[t, t] := by rfl) (hu : Tab.und P t = some (.slice e) := by rfl) (hi : Tab.inf P e = some (2, bt, zv) := by rfl) (hzs : zv.cells.size = 2 := by rfl) (hb : (n' + ls.length) * bt ≤ 140737488355328 := by first | omega | (unfold reach at *; omega) | (unfold reach Gg at *; omega)) (hnm : n' + ls.length ≤ 9223372036854775807 := by first | omega | (unfold reach at *; omega) | (unfold reach Gg at *; omega)) (hd : Ac n dst = true := by rfl) : Ju tn pn P f R B n K ops fin i l dst (.call { callee := .builtin .append, args := #[x, y], argTypes := ts }) ty σ Γ Ms := D0m (r := [Ap 2 e a n' xs]) (r' := fun a' => [Ap 2 e a' (n' + ls.length) (xs ++ A8 ls)]) (fun M => A9v (List.Perm.refl _) hF hx hy hts hu hi hzs hb hnm) rfl hd hm k_
end
section
variable {tn : Bool} {pn : Nat} {P : Program} [Tab P] {f : FuncId} {R : Ending → World → Prop} {B : Ch} {n : Fz} {K : List Item} {ops : Array Oper} {i : Nat} {l fin : List Nat} {σ : Nat → Value} {Γ : List Fact} {Ms Ms2 : List Bb}
variable {dst : Option Tmp} {op : Op} {ty : TypeId} {pos : String} {after : Array Edge} {v : Value} {x y z : Operand}
theorem D9e {t : TypeId} {d : TypeDesc} {bk k : Nat} {cs : List Value} (k_ : E0 P f R B n K ops l (Af σ dst v) Γ Ms) (hx : ev σ x = .pointer (some ⟨bk, k, none⟩) := by exact Ab) (hF : At bk 0 cs ∈ Γ := by repeat (first | exact List.mem_cons_self | apply List.mem_cons_of_mem)) (hu : Tab.und P t = some d := by rfl) (hd' : (match d with | .struct _ | .array _ _ => true | _ => false) = false := by rfl) (hk : cs[k]? = some v := by exact Ab) (hd : Ac n dst = true := by rfl) : Ew P f R B n K ops l (Cj dst (.load t x) ty) σ Γ Ms := Ib (C6p (o := 0) (by rw [Nat.zero_add]; exact hx) hF hu hd' hk) hd k_
theorem L2 {t : TypeId} {d : TypeDesc} {bk k : Nat} {cs : List Value} (k_ : NV tn pn P f R B n K ops fin l (Af σ dst v) Γ Ms) (hx : ev σ x = .pointer (some ⟨bk, k, none⟩) := by exact Ab) (hF : At bk 0 cs ∈ Γ := by repeat (first | exact List.mem_cons_self | apply List.mem_cons_of_mem)) (hu : Tab.und P t = some d := by rfl) (hd' : (match d with | .struct _ | .array _ _ => true | _ => false) = false := by rfl) (hk : cs[k]? = some v := by exact Ab) (hd : Ac n dst = true := by rfl) : Ju tn pn P f R B n K ops fin i l dst (.load t x) ty σ Γ Ms := B1p (C6p (o := 0) (by rw [Nat.zero_add]; exact hx) hF hu hd' hk) rfl hd k_
theorem A7j {t : TypeId} {l' : List (Nat × Nat)} {s bt bk k : Nat} {zv : Value} {cs cs' : List Value} (k_ : E0 P f R B n K ops l (Af σ dst (.agg cs'.toArray)) Γ Ms) (hx : ev σ x = .pointer (some ⟨bk, k, none⟩) := by exact Ab) (hF : At bk 0 cs ∈ Γ := by repeat (first | exact List.mem_cons_self | apply List.mem_cons_of_mem)) (hu : Tab.lay P t = some l' := by rfl) (hi : Tab.inf P t = some (s, bt, zv) := by rfl) (hk : (cs.drop k).take s = cs' := by rfl) (hl : cs'.length = s := by rfl) (hd : Ac n dst = true := by rfl) : Ew P f R B n K ops l (Cj dst (.load t x) ty) σ Γ Ms := Ib (C6r (o := 0) (by rw [Nat.zero_add]; exact hx) hF hu hi hk hl) hd k_
theorem Nf {t : TypeId} {l' : List (Nat × Nat)} {s bt bk k : Nat} {zv : Value} {cs cs' : List Value} (k_ : NV tn pn P f R B n K ops fin l (Af σ dst (.agg cs'.toArray)) Γ Ms) (hx : ev σ x = .pointer (some ⟨bk, k, none⟩) := by exact Ab) (hF : At bk 0 cs ∈ Γ := by repeat (first | exact List.mem_cons_self | apply List.mem_cons_of_mem)) (hu : Tab.lay P t = some l' := by rfl) (hi : Tab.inf P t = some (s, bt, zv) := by rfl) (hk : (cs.drop k).take s = cs' := by rfl) (hl : cs'.length = s := by rfl) (hd : Ac n dst = true := by rfl) : Ju tn pn P f R B n K ops fin i l dst (.load t x) ty σ Γ Ms := B1p (C6r (o := 0) (by rw [Nat.zero_add]; exact hx) hF hu hi hk hl) rfl hd k_
end
section
variable {α : Type}
def D1p (E : α → Fact) (l : List α) : Fact := ⟨fun ok w => ∀ x, x ∈ l → (E x).f ok w, fun _ _ _ hs h x hx => (E x).mono _ _ _ hs (h x hx), fun _ _ _ h hs x hx => (E x).loc _ _ _ (h x hx) hs⟩
def B3u (sz bt : Nat) (F : α → List Value) (E : α → Fact) (d : α) (l : List α) (a : SH) : Fact := ⟨fun ok w => rowAt ok sz bt l.length a (fun i => F (l.getD i d)) w ∧ ∀ x, x ∈ l → (E x).f ok w,
 fun _ _ _ hs h => ⟨h.1.mono hs, fun x hx => (E x).mono _ _ _ hs (h.2 x hx)⟩, fun _ _ _ h hs => ⟨h.1.loc hs, fun x hx => (E x).loc _ _ _ (h.2 x hx) hs⟩⟩
variable {B : Ch} {Γ : List Fact} {Ms : List Bb} {w : World} {E : α → Fact} {F : α → List Value} {sz bt n : Nat} {d : α} {l : List α} {a : SH}
theorem St.C8p (E : α → Fact) (hs : St B Γ Ms w) : St B (D1p E [] :: Γ) Ms w := hs.add (fun x hx => by cases hx)
theorem St.B7a {x : α} (hs : St B Γ Ms w) (h1 : D1p E l ∈ Γ) (h2 : E x ∈ Γ) : St B (D1p E (l ++ [x]) :: Γ) Ms w := by
 refine hs.add (fun y hy => ?_)
 rcases List.mem_append.mp hy with hy | hy
 ·exact hs.facts _ h1 y hy
 ·rw [List.mem_singleton] at hy; subst hy; exact hs.facts _ h2
theorem St.A3h {e : TypeId} {xs : List Value} (hF : ∀ x, (F x).length = sz) (hs : St B Γ (Ap sz e a n xs :: Ms) w) {hBp : Prop} (hB : hBp) (hA : D1p E l ∈ Γ) (hx : xs = l.flatMap F) (hn : n = l.length) (hb : n * bt ≤ reach) : St B (B3u sz bt F E d l a :: Γ) Ms w := by
 subst hx
 have hrow := hs.Qy (F := ⟨fun ok w => rowAt ok sz bt n a (fun i => F (l.getD i d)) w, fun _ _ _ hs h => h.mono hs, fun _ _ _ h hs => h.loc hs⟩) hB (fun ok hok hh => Nr (F := F) hF d (hh : World.ownsRow _ _ _ _ _ _ _) hn hb hok)
 have hr2 := hrow.facts _ List.mem_cons_self
 have h3 := hrow.facts _ (List.mem_cons_of_mem _ hA)
 exact hs.drop.add ⟨hn ▸ hr2, h3⟩
theorem St.D0d (hs : St B Γ Ms w) (hF : B3u sz bt F E d l a ∈ Γ) : l.length * bt ≤ reach ∧ (0 < l.length → ∃ b o, a.1 = some ⟨b, o, Option.none⟩) := by
 obtain ⟨h2, _⟩ := hs.facts _ hF
 exact ⟨h2.2.1, fun hn => by obtain ⟨b, o, h3, _⟩ := h2.2.2 hn; exact ⟨b, o, h3⟩⟩
theorem St.C9r {i : Nat} (hs : St B Γ Ms w) (hF : B3u sz bt F E d l a ∈ Γ) (hi : i < l.length) : St B (E (l.getD i d) :: Γ) Ms w := hs.add ((hs.facts _ hF).2 _ (Ai hi))
end
section
variable {α : Type} {P : Program} {f : FuncId} {R : Ending → World → Prop} {B : Ch} {n : Fz} {todo : List Item} {σ : Nat → Value} {Γ : List Fact} {Ms : List Bb} {E : α → Fact} {F : α → List Value} {sz bt : Nat} {d : α} {l : List α} {a : SH}
theorem B6b (hF : B3u sz bt F E d l a ∈ Γ) (k : l.length * bt ≤ reach → (0 < l.length → ∃ b o, a.1 = some ⟨b, o, none⟩) → F0 P f R B n todo σ Γ Ms) : F0 P f R B n todo σ Γ Ms := Cq (p := l.length * bt ≤ reach ∧ (0 < l.length → ∃ b o, a.1 = some ⟨b, o, none⟩)) (fun w hs => hs.D0d hF) (fun h => k h.1 h.2)
theorem D0y (hF : B3u sz bt F E d l a ∈ Γ) (i : Nat) (hi : i < l.length) (k : F0 P f R B n todo σ (E (l.getD i d) :: Γ) Ms) : F0 P f R B n todo σ Γ Ms := A3 (fun w hs => hs.C9r hF hi) k
variable [Tab P] {x y : Operand} {v : Value} {ty : TypeId}
theorem D0q {t : TypeId} {d' : TypeDesc} {bk o i k : Nat} (hx : ev σ x = .pointer (some ⟨bk, o + i * sz + k, none⟩)) (hF : B3u sz bt F E d l a ∈ Γ) (ha : a.1 = some ⟨bk, o, none⟩) (hu : Tab.und P t = some d') (hd : (match d' with | .struct _ | .array _ _ => true | _ => false) = false) (hk : (F (l.getD i d))[k]? = some v) (hlt : i < l.length) :
  L4 P B σ Γ Ms (.load t x) ty v := fun w hs => by
 have h3 := (K0 (hs.facts _ hF).1 ha hlt).2 k v hk
 simp [Cj, execOp, hx, Instr.loadAt, Instr.sureAddr, Et hu hd h3]
theorem D0r {t : TypeId} {d' : TypeDesc} {bk o i : Nat} (hx : ev σ x = .pointer (some ⟨bk, o + i * 1, none⟩)) (hF : B3u 1 bt F E d l a ∈ Γ) (ha : a.1 = some ⟨bk, o, none⟩) (hu : Tab.und P t = some d') (hd : (match d' with | .struct _ | .array _ _ => true | _ => false) = false) (hk : (F (l.getD i d))[0]? = some v) (hlt : i < l.length) :
  L4 P B σ Γ Ms (.load t x) ty v := D0q (k := 0) hx hF ha hu hd hk hlt
end
abbrev QP := TP × Int × Int
def qE (q : QP) : Fact := RT q.1.1 q.1.2.1 q.1.2.2.1 q.1.2.2.2
abbrev IP := List Int × SH
def ipE (p : IP) : Fact := IL p.1 p.2
abbrev CP := List Cl × SH
def Rf (p : CP) : List Value := [sl p.2 p.1.length]
def cp0 : CP := ([], (none, 0))
abbrev cpE (p : CP) : Fact := CL p.1 p.2
abbrev CCF (l : List CP) (a : SH) : Fact := B3u 1 24 Rf cpE cp0 l a
section
variable {B : Ch} {Γ : List Fact} {Ms : List Bb} {w : World}
theorem St.D2e {e : TypeId} {b : Nat} {l : List Cl} {a : SH} (hs : St B Γ (Aa b [sl a l.length] e :: Ms) w) {hBp : Prop} (hB : hBp) (hF : CL l a ∈ Γ) : St B (CCF [(l, a)] (some ⟨b, 0, Option.none⟩, 1) :: Γ) Ms w :=
 ((((hs.Io (sz := 1) (m := 1) rfl Fb).C8p cpE).B7a (x := (l, a)) List.mem_cons_self (List.mem_cons_of_mem _ hF)).A3h (F := Rf) (E := cpE) (d := cp0) (bt := 24) (l := [(l, a)]) (fun _ => rfl) hB List.mem_cons_self rfl rfl Fb).less sx_
end
section
variable {P : Program} [Tab P] {B : Ch} {σ : Nat → Value} {Γ : List Fact} {Ms Ms2 : List Bb} {ty : TypeId} {x y z : Operand} {v : Value}
theorem Ww {ad : Addr} (hx : ev σ x = .pointer (some ad)) : Co P σ (.nilCheck x) ty (.pointer (some ad)) := fun w => by
 simp [Cj, execOp, hx]
end
section
variable {P : Program} [Tab P] {f : FuncId} {fn : Func} {B : Ch} {n : Fz} {K : List Item} {σ : Nat → Value} {Γ : List Fact} {Ms : List Bb} {X : Type} {val : X → Value} {N : X → List Fact} {Ms1 : X → List Bb}
theorem Cf {r t T : Nat} {r2 : Tmp} {b s bt : Nat} {zv v2 : Value} {lay : List (Nat × Nat)} {cs : List Value} (hf : P.funcs[f]? = some fn) (hr : fn.results = #[.cell r t, .tmp r2]) (x : X) (hb : σ r = .pointer (some ⟨b, 0, none⟩)) (hm : Aa b cs T ∈ Ms) (hl : Tab.lay P t = some lay) (hi : Tab.inf P t = some (s, bt, zv)) (hcs : cs.length = s) (h2 : σ r2 = v2) (hv : Value.tuple #[.agg cs.toArray, v2] = val x) (hs : ∀ w, St B Γ Ms w → St B (N x) (Ms1 x) w) (hD : n.defs = [] := by rfl) (hK : okK n.kind := by first | exact .inl rfl | exact .inr rfl) : F0 P f (Ends B val N Ms1) B n (.code .ret :: K) σ Γ Ms :=
 go_ret hf (fun a w ha h => by
  have h1 := ha.get r
  rw [hb] at h1
  have h3 := ha.get r2
  rw [h2] at h3
  have h4 := Di (P := P) (bk := b) (off := 0) (w := w) hl hi hcs (fun j v hj => by rw [Nat.zero_add]; exact Kv h hm j v hj)
  have h1' : (a.tmps[r]?.getD undef) = .pointer (some ⟨b, 0, none⟩) := by simpa [Array.getD_eq_getD_getElem?] using h1
  have h3' : (a.tmps[r2]?.getD undef) = v2 := by simpa [Array.getD_eq_getD_getElem?] using h3
  simp [results, hr, asAddr, h1', h4, h3', ← hv]) (fun w h => ⟨x, rfl, hs w h⟩) hD hK
theorem St.Jy {w : World} (hs : St B Γ Ms w) : St B (RT t0 (Option.none, 0) (Option.none, 0) (Option.none, 0) :: Γ) Ms w :=
 ((((hs.C5x 0).C5w 0).B8m 0).C1j (k := 0) (n := 0) (nm := ⟨#[]⟩) (r := []) (ks := []) (ss := []) (vr := (Option.none, 0)) (vk := (Option.none, 0)) (vs := (Option.none, 0)) (by unfold Ao; omega) (by unfold Ao; omega) (Nat.zero_le _) D8 D8 D8).less (by simp +contextual [t0])
end
section
variable {tn : Bool} {pn : Nat} {P : Program} [Tab P] {f : FuncId} {R : Ending → World → Prop} {B : Ch} {n : Fz} {K : List Item} {ops : Array Oper} {i : Nat} {l fin : List Nat} {σ : Nat → Value} {Γ : List Fact} {Ms Ms2 : List Bb}
variable {dst : Option Tmp} {op : Op} {ty : TypeId} {pos : String} {after : Array Edge} {v : Value} {x y z : Operand}
theorem D4g {ad : Addr} (k_ : E0 P f R B n K ops l (Af σ dst (.pointer (some ad))) Γ Ms) (hx : ev σ x = .pointer (some ad) := by exact Ab) (hd : Ac n dst = true := by rfl) : Ew P f R B n K ops l (Cj dst (.nilCheck x) ty) σ Γ Ms := Bg (Ww hx) hd k_
theorem D3e {ad : Addr} (k_ : NV tn pn P f R B n K ops fin l (Af σ dst (.pointer (some ad))) Γ Ms) (hx : ev σ x = .pointer (some ad) := by exact Ab) (hd : Ac n dst = true := by rfl) : Ju tn pn P f R B n K ops fin i l dst (.nilCheck x) ty σ Γ Ms := Dd (Ww hx) hd k_
theorem D4j {t : TypeId} {d : TypeDesc} {bk o i' : Nat} {a : SH} {ls : List CP} (k_ : E0 P f R B n K ops l (Af σ dst v) Γ Ms) (hx : ev σ x = .pointer (some ⟨bk, o + i' * 1, none⟩) := by exact Ab) (hFa : CCF ls a ∈ Γ ∧ a.1 = some ⟨bk, o, none⟩ := by exact ma0_) (hu : Tab.und P t = some d := by rfl) (hd' : (match d with | .struct _ | .array _ _ => true | _ => false) = false := by rfl) (hk : (Rf (ls.getD i' cp0))[0]? = some v := by exact Ab) (hlt : i' < ls.length := by first | omega | (simp only [List.length_map, List.length_set]; omega) | (simp; omega)) (hd : Ac n dst = true := by rfl) : Ew P f R B n K ops l (Cj dst (.load t x) ty) σ Γ Ms := Ib (D0r hx hFa.1 hFa.2 hu hd' hk hlt) hd k_
end
section
variable {tn : Bool} {pn : Nat} {P : Program} [Tab P] {f : FuncId} {R : Ending → World → Prop} {B : Ch} {n : Fz} {K : List Item} {ops : Array Oper} {i : Nat} {l fin : List Nat} {σ : Nat → Value} {Γ : List Fact} {Ms Ms2 : List Bb}
variable {dst : Option Tmp} {op : Op} {ty : TypeId} {pos : String} {after : Array Edge} {v : Value} {x y z : Operand}
theorem Zf {t t' : TypeId} {k : IntKind} {a b : Int} (k_ : E0 P f R B n K ops l (Af σ dst (.bool true)) Γ Ms) (hx : ev σ x = .int k a := by exact Ab) (hy : ev σ y = .int k b := by exact Ab) (hp : a = b := by first | omega | (simp; done)) (hd : Ac n dst = true := by rfl) : Ew P f R B n K ops l (Cj dst (.binOp .eql t x y t') ty) σ Γ Ms := Bg (show Co P σ (.binOp .eql t x y t') ty (.bool true) from (decide_eq_true hp : decide (a = b) = true) ▸ B5c hx hy) hd k_
theorem C3o {t T' : TypeId} {b s bt : Nat} {zv : Value} {cs cs' : List Value} (k_ : NV tn pn P f R B n K ops fin l σ Γ (Aa b cs' T' :: Ms2)) (hx : ev σ x = .pointer (some ⟨b, 0, none⟩) := by exact Ab) (hm : Ms.Perm (Aa b cs T' :: Ms2) := by first | exact Z1 | exact Ah | exact Bj | exact G2 | exact E2 | exact Km | exact D3 | exact Gu | exact Fj) (hy : (ev σ y).cells = cs'.toArray := by rfl) (hi : Tab.inf P t = some (s, bt, zv) := by rfl) (hl : cs'.length = s := by rfl) (hl2 : cs.length = s := by rfl) (h1 : Kn cs' = true := by rfl) : Ju tn pn P f R B n K ops fin i l none (.store t x y) ty σ Γ Ms := C5v (r := [Aa b cs T']) (r' := [Aa b cs' T']) (fun M => C4d hx hy (List.Perm.refl _) hi hl hl2 h1) rfl hm k_
end
inductive A5 (α : Type) where
 | ok (a : α)
 | bad (e : Int)
structure Tr (C : Type) where
 own : C → Int → Int → ByteArray → List Cl → A5 (T ⊕ (Int × List Cl))
 Ad : C → List Cl → A5 (Option (List Cl))
 Hu : C → Int × Int → A5 C
section
variable {C : Type} (A : Tr C)
mutual
def B1 : T → C → A5 T
 | .mk k n nm r ks ss, c => match A.own c k n nm r with
  | .bad e => .bad e
  | .ok (.inl u) => .ok u
  | .ok (.inr p) => match Cn k 0 ks c with
   | .bad e => .bad e
   | .ok ks' => match C6 k ss c with
    | .bad e => .bad e
    | .ok ss' => .ok (.mk k p.1 nm p.2 ks' ss')
def Cn (k : Int) : Nat → List T → C → A5 (List T)
 | _, [], _ => .ok []
 | i, t :: ts, c => match A.Hu c (binds k i) with
  | .bad e => .bad e
  | .ok c' => match B1 t c' with
   | .bad e => .bad e
   | .ok t' => match Cn k (i + 1) ts c with
    | .bad e => .bad e
    | .ok ts' => .ok (t' :: ts')
def Bv (k : Int) : List T → C → A5 (List T)
 | [], _ => .ok []
 | t :: ts, c => match A.Hu c (0, more k) with
  | .bad e => .bad e
  | .ok c' => match B1 t c' with
   | .bad e => .bad e
   | .ok t' => match Bv k ts c with
    | .bad e => .bad e
    | .ok ts' => .ok (t' :: ts')
def C6 (k : Int) : List Br → C → A5 (List Br)
 | [], _ => .ok []
 | .mk f ks :: bs, c => match A.Ad c f with
  | .bad e => .bad e
  | .ok none => C6 k bs c
  | .ok (some f') => match Bv k ks c with
   | .bad e => .bad e
   | .ok ks' => match C6 k bs c with
    | .bad e => .bad e
    | .ok bs' => .ok (.mk f' ks' :: bs')
end
variable {A}
def A5.bind {α β : Type} : A5 α → (α → A5 β) → A5 β
 | .ok a, f => f a
 | .bad e, _ => .bad e
theorem A5.A0 {α β : Type} {x : A5 α} {f : α → A5 β} {b : β} (h : x.bind f = .ok b) : ∃ a, x = .ok a ∧ f a = .ok b := by
 cases x with
 | ok a => exact ⟨a, rfl, h⟩
 | bad e => cases h
theorem Cy (t : T) (c : C) : B1 A t c = (A.own c t.kind t.n t.name t.r).bind fun o => match o with
  | .inl u => .ok u
  | .inr p => (Cn A t.kind 0 t.kids c).bind fun ks' => (C6 A t.kind t.sys c).bind fun ss' => .ok (.mk t.kind p.1 t.name p.2 ks' ss') := by
 obtain ⟨k, n, nm, r, ks, ss⟩ := t
 rw [B1]
 simp only [T.kind, T.n, T.name, T.r, T.kids, T.sys]
 cases A.own c k n nm r with
 | bad e => rfl
 | ok o =>
  cases o with
  | inl u => rfl
  | inr p =>
   simp only [A5.bind]
   cases Cn A k 0 ks c with
   | bad e => rfl
   | ok ks' =>
    cases C6 A k ss c <;> rfl
theorem C4 (k : Int) (i : Nat) (c : C) : Cn A k i [] c = .ok [] := by rw [Cn]
theorem C3 (k : Int) (i : Nat) (t : T) (ts : List T) (c : C) : Cn A k i (t :: ts) c = (A.Hu c (binds k i)).bind fun c' => (B1 A t c').bind fun t' => (Cn A k (i + 1) ts c).bind fun ts' => .ok (t' :: ts') := by
 rw [Cn]
 cases A.Hu c (binds k i) with
 | bad e => rfl
 | ok c' =>
  simp only [A5.bind]
  cases B1 A t c' with
  | bad e => rfl
  | ok t' => simp only; cases Cn A k (i + 1) ts c <;> rfl
theorem Cr (k : Int) (c : C) : Bv A k [] c = .ok [] := by rw [Bv]
theorem C2 (k : Int) (t : T) (ts : List T) (c : C) : Bv A k (t :: ts) c = (A.Hu c (0, more k)).bind fun c' => (B1 A t c').bind fun t' => (Bv A k ts c).bind fun ts' => .ok (t' :: ts') := by
 rw [Bv]
 cases A.Hu c (0, more k) with
 | bad e => rfl
 | ok c' =>
  simp only [A5.bind]
  cases B1 A t c' with
  | bad e => rfl
  | ok t' => simp only; cases Bv A k ts c <;> rfl
theorem Bs (k : Int) (c : C) : C6 A k [] c = .ok [] := by rw [C6]
theorem Bq (k : Int) (b : Br) (bs : List Br) (c : C) : C6 A k (b :: bs) c = (A.Ad c b.Ad).bind fun f => match f with
  | none => C6 A k bs c
  | some f' => (Bv A k b.kids c).bind fun ks' => (C6 A k bs c).bind fun bs' => .ok (.mk f' ks' :: bs') := by
 obtain ⟨f, ks⟩ := b
 rw [C6]
 simp only [Br.Ad, Br.kids]
 cases A.Ad c f with
 | bad e => rfl
 | ok o =>
  cases o with
  | none => rfl
  | some f' =>
   simp only [A5.bind]
   cases Bv A k ks c with
   | bad e => rfl
   | ok ks' => simp only; cases C6 A k bs c <;> rfl
theorem Sj (k : Int) (c : C) : ∀ (i : Nat) (l : List T) (t : T), Cn A k i (l ++ [t]) c = (Cn A k i l c).bind fun l' => (A.Hu c (binds k ((i + l.length : Nat) : Int))).bind fun c' => (B1 A t c').bind fun t' => .ok (l' ++ [t'])
 | i, [], t => by
  simp only [List.nil_append, C3, C4, A5.bind, List.length_nil, Nat.add_zero]
 | i, a :: l, t => by
  simp only [List.cons_append, C3, Sj k c (i + 1) l t, List.length_cons]
  rw [show i + 1 + l.length = i + (l.length + 1) by omega]
  cases A.Hu c (binds k i) with
  | bad e => rfl
  | ok c1 =>
   simp only [A5.bind]
   cases B1 A a c1 with
   | bad e => rfl
   | ok a' =>
    simp only
    cases Cn A k (i + 1) l c with
    | bad e => rfl
    | ok l' =>
     simp only
     cases A.Hu c (binds k ((i + (l.length + 1) : Nat) : Int)) with
     | bad e => rfl
     | ok c2 => simp only; cases B1 A t c2 <;> rfl
theorem Si (k : Int) (c : C) : ∀ (l : List T) (t : T), Bv A k (l ++ [t]) c = (Bv A k l c).bind fun l' => (A.Hu c (0, more k)).bind fun c' => (B1 A t c').bind fun t' => .ok (l' ++ [t'])
 | [], t => by simp only [List.nil_append, C2, Cr, A5.bind]
 | a :: l, t => by
  simp only [List.cons_append, C2, Si k c l t]
  cases A.Hu c (0, more k) with
  | bad e => rfl
  | ok c1 =>
   simp only [A5.bind]
   cases B1 A a c1 with
   | bad e => rfl
   | ok a' =>
    simp only
    cases Bv A k l c with
    | bad e => rfl
    | ok l' => simp only; cases B1 A t c1 <;> rfl
theorem Oc (k : Int) (c : C) : ∀ (l : List Br) (b : Br), C6 A k (l ++ [b]) c = (C6 A k l c).bind fun l' => (A.Ad c b.Ad).bind fun f => match f with
  | none => .ok l'
  | some f' => (Bv A k b.kids c).bind fun ks' => .ok (l' ++ [.mk f' ks'])
 | [], b => by
  simp only [List.nil_append, Bq, Bs, A5.bind]
 | a :: l, b => by
  simp only [List.cons_append, Bq, Oc k c l b]
  cases A.Ad c a.Ad with
  | bad e => rfl
  | ok o =>
   cases o with
   | none => rfl
   | some f' =>
    simp only [A5.bind]
    cases Bv A k a.kids c with
    | bad e => rfl
    | ok ks' =>
     simp only
     cases C6 A k l c with
     | bad e => rfl
     | ok l' =>
      simp only
      cases A.Ad c b.Ad with
      | bad e => rfl
      | ok o2 =>
       cases o2 with
       | none => rfl
       | some f2 => simp only; cases Bv A k b.kids c <;> rfl
theorem A2v {k e : Int} {c : C} : ∀ {l m : List T} {i : Nat}, Cn A k i l c = .bad e → Cn A k i (l ++ m) c = .bad e
 | [], m, i, h => by rw [C4] at h; cases h
 | a :: l, m, i, h => by
  rw [List.cons_append, C3]
  rw [C3] at h
  cases h1 : A.Hu c (binds k i) with
  | bad e' => rw [h1] at h; exact h
  | ok c1 =>
   rw [h1] at h
   simp only [A5.bind] at h ⊢
   cases h2 : B1 A a c1 with
   | bad e' => rw [h2] at h; exact h
   | ok a' =>
    rw [h2] at h
    simp only at h ⊢
    cases h3 : Cn A k (i + 1) l c with
    | bad e' => rw [h3] at h; rw [A2v h3]; exact h
    | ok l' => rw [h3] at h; cases h
theorem A2s {k e : Int} {c : C} : ∀ {l m : List T}, Bv A k l c = .bad e → Bv A k (l ++ m) c = .bad e
 | [], m, h => by rw [Cr] at h; cases h
 | a :: l, m, h => by
  rw [List.cons_append, C2]
  rw [C2] at h
  cases h1 : A.Hu c (0, more k) with
  | bad e' => rw [h1] at h; exact h
  | ok c1 =>
   rw [h1] at h
   simp only [A5.bind] at h ⊢
   cases h2 : B1 A a c1 with
   | bad e' => rw [h2] at h; exact h
   | ok a' =>
    rw [h2] at h
    simp only at h ⊢
    cases h3 : Bv A k l c with
    | bad e' => rw [h3] at h; rw [A2s h3]; exact h
    | ok l' => rw [h3] at h; cases h
theorem Vn {k e : Int} {c : C} : ∀ {l m : List Br}, C6 A k l c = .bad e → C6 A k (l ++ m) c = .bad e
 | [], m, h => by rw [Bs] at h; cases h
 | a :: l, m, h => by
  rw [List.cons_append, Bq]
  rw [Bq] at h
  cases h1 : A.Ad c a.Ad with
  | bad e' => rw [h1] at h; exact h
  | ok o =>
   rw [h1] at h
   cases o with
   | none => exact Vn (l := l) h
   | some f' =>
    simp only [A5.bind] at h ⊢
    cases h2 : Bv A k a.kids c with
    | bad e' => rw [h2] at h; exact h
    | ok a' =>
     rw [h2] at h
     simp only at h ⊢
     cases h3 : C6 A k l c with
     | bad e' => rw [h3] at h; rw [Vn h3]; exact h
     | ok l' => rw [h3] at h; cases h
theorem Qu {k : Int} {c : C} : ∀ {l l' : List T} {i : Nat}, Cn A k i l c = .ok l' → l'.length = l.length
 | [], l', i, h => by rw [C4] at h; injection h with h; subst h; rfl
 | a :: l, l', i, h => by
  rw [C3] at h
  obtain ⟨c1, _, h⟩ := A5.A0 h
  obtain ⟨t', _, h⟩ := A5.A0 h
  obtain ⟨ts', h3, h⟩ := A5.A0 h
  injection h with h
  subst h
  simp [Qu h3]
theorem Qs {k : Int} {c : C} : ∀ {l l' : List T}, Bv A k l c = .ok l' → l'.length = l.length
 | [], l', h => by rw [Cr] at h; injection h with h; subst h; rfl
 | a :: l, l', h => by
  rw [C2] at h
  obtain ⟨c1, _, h⟩ := A5.A0 h
  obtain ⟨t', _, h⟩ := A5.A0 h
  obtain ⟨ts', h3, h⟩ := A5.A0 h
  injection h with h
  subst h
  simp [Qs h3]
theorem Qv {k : Int} {c : C} : ∀ {l l' : List Br}, C6 A k l c = .ok l' → l'.length ≤ l.length
 | [], l', h => by rw [Bs] at h; injection h with h; subst h; simp
 | a :: l, l', h => by
  rw [Bq] at h
  obtain ⟨o, _, h⟩ := A5.A0 h
  cases o with
  | none => have := Qv (l := l) h; simp; omega
  | some f' =>
   obtain ⟨ks', _, h⟩ := A5.A0 h
   obtain ⟨bs', h3, h⟩ := A5.A0 h
   injection h with h
   subst h
   have := Qv h3
   simp; omega
end
theorem A6u {a0 a1 a2 a3 a4 a5 a6 a7 a8 a9 a10 a11 m : Bb} {L : List Bb} : (a0 :: a1 :: a2 :: a3 :: a4 :: a5 :: a6 :: a7 :: a8 :: a9 :: a10 :: a11 :: m :: L).Perm (m :: a0 :: a1 :: a2 :: a3 :: a4 :: a5 :: a6 :: a7 :: a8 :: a9 :: a10 :: a11 :: L) := (Hi.cons a0).trans Ah
theorem K3 {a0 a1 a2 a3 a4 a5 a6 a7 a8 a9 a10 a11 a12 m : Bb} {L : List Bb} : (a0 :: a1 :: a2 :: a3 :: a4 :: a5 :: a6 :: a7 :: a8 :: a9 :: a10 :: a11 :: a12 :: m :: L).Perm (m :: a0 :: a1 :: a2 :: a3 :: a4 :: a5 :: a6 :: a7 :: a8 :: a9 :: a10 :: a11 :: a12 :: L) := (A6u.cons a0).trans Ah
theorem K2 {a0 a1 a2 a3 a4 a5 a6 a7 a8 a9 a10 a11 a12 a13 m : Bb} {L : List Bb} : (a0 :: a1 :: a2 :: a3 :: a4 :: a5 :: a6 :: a7 :: a8 :: a9 :: a10 :: a11 :: a12 :: a13 :: m :: L).Perm (m :: a0 :: a1 :: a2 :: a3 :: a4 :: a5 :: a6 :: a7 :: a8 :: a9 :: a10 :: a11 :: a12 :: a13 :: L) := (K3.cons a0).trans Ah
theorem K1 {a0 a1 a2 a3 a4 a5 a6 a7 a8 a9 a10 a11 a12 a13 a14 m : Bb} {L : List Bb} : (a0 :: a1 :: a2 :: a3 :: a4 :: a5 :: a6 :: a7 :: a8 :: a9 :: a10 :: a11 :: a12 :: a13 :: a14 :: m :: L).Perm (m :: a0 :: a1 :: a2 :: a3 :: a4 :: a5 :: a6 :: a7 :: a8 :: a9 :: a10 :: a11 :: a12 :: a13 :: a14 :: L) := (K2.cons a0).trans Ah
def V3 (T : TypeId) (e : Int) : List PanicEntry := [{ v := .iface T (.int .i64 e), recovered := false }]
def L3 (P : Program) (T : TypeId) (k : FuncId) (args : Array Value) (pre : List Fact) {α : Type} (r : A5 α) {X : α → Type} (val : ∀ a : α, X a → Value) (N : ∀ a : α, X a → List Fact) (Ms1 : ∀ a : α, X a → List Bb) : Prop :=
 (∀ a, r = .ok a → Spec P k args pre [] (val a) (N a) (Ms1 a)) ∧ (∀ e, r = .bad e → Qo P k args pre (V3 T e))
def B9q (B : Ch) (T : TypeId) {α : Type} (r : A5 α) {X : α → Type} (val : ∀ a : α, X a → Value) (N : ∀ a : α, X a → List Fact) (Ms1 : ∀ a : α, X a → List Bb) (e : Ending) (w' : World) : Prop :=
 (∀ a, r = .ok a → Ends B (val a) (N a) (Ms1 a) e w') ∧ (∀ x, r = .bad x → e = .panicked (V3 T x) ∧ St B [] [] w')
section
variable {P : Program} {f : FuncId} {B : Ch} {n : Fz} {K : List Item} {σ : Nat → Value} {Γ : List Fact} {Ms : List Bb} {todo : List Item} {T : TypeId} {α : Type} {X : α → Type} {r : A5 α} {val : ∀ a : α, X a → Value} {N : ∀ a : α, X a → List Fact} {Ms1 : ∀ a : α, X a → List Bb}
theorem F0.D9m {R R' : Ending → World → Prop} (hm : ∀ e w, R e w → R' e w) (h : F0 P f R B n todo σ Γ Ms) : F0 P f R' B n todo σ Γ Ms := fun a w hr hs b cs hb hk => by
 obtain ⟨e, w', fr, hR, hc, hf, hl⟩ := h a w hr hs b cs hb hk
 exact ⟨e, w', fr, hm _ _ hR, hc, hf, hl⟩
theorem go_ok {a : α} (hr : r = .ok a) (h : F0 P f (Ends B (val a) (N a) (Ms1 a)) B n todo σ Γ Ms) : F0 P f (B9q B T r val N Ms1) B n todo σ Γ Ms :=
 F0.D9m (fun e w he => ⟨fun b hb => by rw [hr] at hb; injection hb with hb; subst hb; exact he, fun x hx => by rw [hr] at hx; cases hx⟩) h
theorem Nd {β : Type} (q : A5 β) {R : Ending → World → Prop} (h1 : ∀ a, q = .ok a → F0 P f R B n todo σ Γ Ms) (h2 : ∀ e, q = .bad e → F0 P f R B n todo σ Γ Ms) : F0 P f R B n todo σ Γ Ms := by
 cases hq : q with
 | ok a => exact h1 a hq
 | bad e => exact h2 e hq
theorem B8x {K : List Item} {it : Item} {R : Ending → World → Prop} {Ms' : List Bb} (p : Prop) (live : List (Nat × Value)) (h1 : (p → ∀ σ', Pd σ' live → F0 P f R B n K σ' Γ Ms') → F0 P f R B n (it :: K) σ Γ Ms) (h2 : p → ∀ base, F0 P f R B n K (stL base live) Γ Ms') : F0 P f R B n (it :: K) σ Γ Ms :=
 h1 (fun hp σ' hl => go_slots live hl (h2 hp))
theorem Ge {e : Int} (hr : r = .bad e) : ∀ w, St B [] [] w → B9q B T r val N Ms1 (.panicked (V3 T e)) w := fun w hs =>
 ⟨fun a ha => (by rw [hr] at ha; cases ha), fun x hx => (by rw [hr] at hx; injection hx with hx; subst hx; exact ⟨rfl, hs⟩)⟩
theorem Tz {k : FuncId} {fn : Func} {c : Code} {args : List Value} {pre : List Fact} {n : Nat} (hf : P.funcs[k]? = some fn) (hn : fn.ntmps = n) (hb : fn.body = some c) (ha : args.length ≤ n)
  (h : ∀ B : Ch, (∀ b, B.S0 b ↔ Bh [] b) → F0 P k (B9q B T r val N Ms1) B ⟨n, [], .normal⟩ [.code c] (fun t => args.getD t undef) pre []) : L3 P T k args.toArray pre r val N Ms1 := by
 have he : (fun t => args.toArray.getD t undef) = fun t => args.getD t undef := by
  funext t
  simp [Array.getD_eq_getD_getElem?, List.getD_eq_getElem?_getD]
 have key : ∀ ok w, (∀ b, ok b → b < w.heap.size ∧ ¬ Bh [] b) → St ⟨ok, Bh [], w⟩ pre [] w → Calls P k args.toArray w (B9q ⟨ok, Bh [], w⟩ T r val N Ms1) := by
  intro ok w hok hs
  refine B3i (n := ⟨n, [], .normal⟩) hf hb hn rfl rfl (by simpa using ha) hs ?_
  have := h ⟨ok, Bh [], w⟩ (fun _ => Iff.rfl)
  rw [he]
  exact this
 exact ⟨fun a hr ok w hok hs => (key ok w hok hs).mono fun e w' h => h.1 a hr, fun x hr ok w hok hs => (key ok w hok hs).mono fun e w' h => h.2 x hr⟩
end
def L5 (L : List Fact) : Fact := ⟨fun ok w => ∀ F, F ∈ L → F.f ok w, fun ok ok' w hs h F hF => F.mono ok ok' w hs (h F hF), fun ok w w' h hs F hF => F.loc ok w w' (h F hF) hs⟩
section
variable {B : Ch} {Γ : List Fact} {Ms : List Bb} {w : World} {L : List Fact}
theorem St.Xn (hs : St B Γ Ms w) (h : ∀ F, F ∈ L → F ∈ Γ) : St B (L5 L :: Γ) Ms w := hs.add (fun F hF => hs.facts F (h F hF))
theorem St.C3s (hs : St B [L5 L] Ms w) : St B L Ms w := ⟨hs.chg, fun F hF => hs.facts _ List.mem_cons_self F hF, hs.res, hs.lt, hs.disj⟩
theorem Spec.Xn {P : Program} {k : FuncId} {args : Array Value} {Ms0 : List Bb} {X : Type} {val : X → Value} {N : X → List Fact} {Ms1 : X → List Bb} (h : Spec P k args L Ms0 val N Ms1) : Spec P k args [L5 L] Ms0 val N Ms1 := fun ok w hok hs => h ok w hok hs.C3s
theorem Qo.Xn {P : Program} {k : FuncId} {args : Array Value} {chain : List PanicEntry} (h : Qo P k args L chain) : Qo P k args [L5 L] chain := fun ok w hok hs => h ok w hok hs.C3s
theorem L3.Xn {P : Program} {T : TypeId} {k : FuncId} {args : Array Value} {α : Type} {r : A5 α} {X : α → Type} {val : ∀ a : α, X a → Value} {N : ∀ a : α, X a → List Fact} {Ms1 : ∀ a : α, X a → List Bb} (h : L3 P T k args L r val N Ms1) : L3 P T k args [L5 L] r val N Ms1 := ⟨fun a ha => (h.1 a ha).Xn, fun e he => (h.2 e he).Xn⟩
end
section
variable {P : Program} [Tab P] {f : FuncId} {R : Ending → World → Prop} {B : Ch} {n : Fz} {K : List Item} {ops : Array Oper} {i : Nat} {l : List Nat} {σ : Nat → Value} {Γ : List Fact} {Ms : List Bb}
variable {dst : Option Tmp} {ty : TypeId} {v : Value} {x y : Operand}
theorem C5b {t : TypeId} {d : TypeDesc} (hu : Tab.und P t = some d) (hd : (match d with | .interface _ => true | _ => false) = false) (hx : ev σ x = v) : Co P σ (.makeInterface t x) ty (.iface t v) := fun w => by
 cases d <;> first | (simp at hd; done) | simp [Cj, execOp, hx, Instr.makeInterface, Dm hu]
theorem A7i {t : TypeId} {d : TypeDesc} (k_ : E0 P f R B n K ops l (Af σ dst (.iface t v)) Γ Ms) (hx : ev σ x = v := by exact Ab) (hu : Tab.und P t = some d := by rfl) (hdd : (match d with | .interface _ => true | _ => false) = false := by rfl) (hd : Ac n dst = true := by rfl) : Ew P f R B n K ops l (Cj dst (.makeInterface t x) ty) σ Γ Ms := Bg (C5b hu hdd hx) hd k_
theorem A7h {T : TypeId} {e : Int} (hR : ∀ w, St B [] [] w → R (.panicked (V3 T e)) w) (hx : ev σ x = .iface T (.int .i64 e) := by exact Ab) (hD : n.defs = [] := by rfl) (hK : okK n.kind := by first | exact .inl rfl | exact .inr rfl) : Ew P f R B n K ops l (Cj dst (.panic x) ty) σ Γ Ms := fun a w hr hs => by
 unfold Oper.wp
 rw [hr.eval]
 have e1 : (execOp (ev σ) (Cj dst (.panic x) ty)).run P w = .halt (.panic (.iface T (.int .i64 e))) w := by
  simp only [Cj, execOp, hx]
  rfl
 rw [e1, Oper.upon_panic]
 refine ⟨hK.imp id (fun h => ⟨h, hr.defs.trans hD⟩), fun fn hfn => ?_⟩
 rw [hr.defs, hD]
 exact hR w (St.Mx (A := Ms) (Ms := []) (by rw [List.append_nil]; exact hs.less (fun F hF => by cases hF)))
theorem B8i {c : FuncId} {cap : List Value} {ts : Array TypeId} {g : Operand} (k_ : E0 P f R B ⟨n.sz, ⟨.fn (.func c) cap.toArray, #[]⟩ :: n.defs, n.kind⟩ K ops l σ Γ Ms) (hg : ev σ g = .func (.func c) #[] cap.toArray := by rfl) : Ew P f R B n K ops l (Cj none (.defer { callee := .value g, args := #[], argTypes := ts }) ty) σ Γ Ms := fun a w hr hs => by
 unfold Oper.wp
 rw [hr.eval]
 have e1 : (execOp (ev σ) (Cj none (.defer { callee := .value g, args := #[], argTypes := ts }) ty)).run P w = .ok (.defer ⟨.fn (.func c) cap.toArray, #[]⟩) w := by
  simp [Cj, execOp, resolve, hg, Deferred.ofValue]
 rw [e1, Oper.upon_defer]
 exact k_ _ _ ⟨hr.size, hr.get, by show _ :: a.defers = _; rw [hr.defs]⟩ hs
end
def Qp (P : Program) (k : FuncId) (args : Array Value) (pre : List Fact) (Ms0 : List Bb) (u u' : FrameMode) (N : List Fact) (Ms1 : List Bb) : Prop :=
 ∀ ok w, (∀ b, ok b → b < w.heap.size ∧ ¬ Bh Ms0 b) → St ⟨ok, Bh Ms0, w⟩ pre Ms0 w → CallsD P k args u w fun e v w' => e = .returned (.tuple #[]) ∧ v = u' ∧ St ⟨ok, Bh Ms0, w⟩ N Ms1 w'
section
variable {P : Program} {f : FuncId} {fn : Func} {R : Ending → World → Prop} {B : Ch} {n : Fz} {K : List Item} {σ : Nat → Value} {Γ : List Fact} {Ms : List Bb}
theorem B8r {k : FuncId} {cap : List Value} {pre N : List Fact} {Ms0 Ms1 Ms2 : List Bb} {u u' : FrameMode} {tmps : Array Value} {w : World} (hu : u ≠ .run) (hc : ∀ (args : Array Value) (w : World), (callFunc k args).run P w = .ok (.enter k args) w) (hsp : Qp P k cap.toArray pre Ms0 u u' N Ms1) (hpre : ∀ F, F ∈ pre → F ∈ Γ) (hm : Ms.Perm (Ms0 ++ Ms2)) (hset : settle u' = .returning)
  (hs : St B Γ Ms w) (hres : ∀ w', St B (N ++ Γ) (Ms1 ++ Ms2) w' → ∃ v, (results fn tmps).run P w' = .ok v w' ∧ R (.returned v) w') : Leaves P fn tmps R [⟨.fn (.func k) cap.toArray, #[]⟩] u w := by
 refine leaves_cons (f := k) (args := cap.toArray) hu (by simp [invoke, hc]) ?_
 have hs' := hs.perm hm
 refine (hsp (On B (Ms0 ++ Ms2) w) w ?_ (hs'.hand hpre)).mono ?_
 ·intro b hb
  exact ⟨hb.2.1, fun hc => hb.2.2 (Dr.2 (.inl hc))⟩
 ·rintro e v w' ⟨rfl, rfl, hx⟩
  show Leaves P fn tmps R [] (settle v) w'
  rw [hset]
  obtain ⟨v', h1, h2⟩ := hres w' (hs'.frame hx)
  exact ⟨v', h1, h2⟩
theorem D0w {k : FuncId} {cap : List Value} {pre N : List Fact} {Ms0 Ms1 Ms2 : List Bb} (hf : P.funcs[f]? = some fn) (hc : ∀ (args : Array Value) (w : World), (callFunc k args).run P w = .ok (.enter k args) w) (hsp : Qp P k cap.toArray pre Ms0 .returning .returning N Ms1) (hpre : ∀ F, F ∈ pre → F ∈ Γ) (hm : Ms.Perm (Ms0 ++ Ms2))
  (hres : ∀ a w', Rel n a σ → St B (N ++ Γ) (Ms1 ++ Ms2) w' → ∃ v, (results fn a.tmps).run P w' = .ok v w' ∧ R (.returned v) w') (hD : n.defs = [⟨.fn (.func k) cap.toArray, #[]⟩] := by rfl) (hK : n.kind = .normal := by rfl) : F0 P f R B n (.code .ret :: K) σ Γ Ms := by
 intro a w hr hs b cs hb hk
 have hfn : P.funcs[b.fn]? = some fn := by rw [hb]; exact hf
 have hL : Leaves P fn a.tmps R a.defers .returning w := by
  rw [hr.defs, hD]
  exact B8r D8 hc hsp hpre hm rfl hs (fun w' h => hres a w' hr h)
 obtain ⟨e, w', fr, hR, hs', hf', hl⟩ := leaves_steps a.defers .returning w { b.at a (.code .ret :: K) with mode := .returning } cs rfl rfl rfl hfn (hk.trans hK) hL
 exact ⟨e, w', fr, hR, hs'.of_steps (.one step_ret), hf'.trans hb, .inl ⟨hK, hl⟩⟩
theorem D0g {ops : Array Oper} {l : List Nat} {dst : Option Tmp} {op : Op} {ty : TypeId} {c k : FuncId} {args : Array Value} {cap : List Value} {pre pre2 N : List Fact} {chain : List PanicEntry} {Ms0 Ms1 Ms2 : List Bb} {u' : FrameMode} (he : Qq P σ op ty c args) (hsp : Qo P c args pre chain) (hpre : ∀ F, F ∈ pre → F ∈ Γ) (hf : P.funcs[f]? = some fn)
  (hc : ∀ (args : Array Value) (w : World), (callFunc k args).run P w = .ok (.enter k args) w) (hsd : Qp P k cap.toArray pre2 Ms0 (.panicking chain) u' N Ms1) (hpre2 : ∀ F, F ∈ pre2 → F ∈ Γ) (hm : Ms.Perm (Ms0 ++ Ms2)) (hset : settle u' = .returning)
  (hres : ∀ a w', Rel n a σ → St B (N ++ Γ) (Ms1 ++ Ms2) w' → ∃ v, (results fn a.tmps).run P w' = .ok v w' ∧ R (.returned v) w') (hD : n.defs = [⟨.fn (.func k) cap.toArray, #[]⟩] := by rfl) (hK : n.kind = .normal := by rfl) : Ew P f R B n K ops l (Cj dst op ty) σ Γ Ms := by
 intro a w hr hs
 unfold Oper.wp
 rw [hr.eval, show (execOp (ev σ) (Cj dst op ty)).run P w = .ok (.enter c args) w by rw [Cj, Ek (d' := none)]; exact he w]
 have hs' : St B Γ ([] ++ Ms) w := hs
 refine (hsp (On B ([] ++ Ms) w) w (fun b hb => ⟨hb.2.1, Hk b⟩) (hs'.hand hpre)).mono ?_
 rintro e w' ⟨rfl, hx⟩
 refine ⟨.inl hK, fun fn' hfn' => ?_⟩
 rw [hf] at hfn'
 injection hfn' with hfn'
 subst hfn'
 rw [hr.defs, hD]
 have h1 : St B Γ Ms w' := by have := hs'.frame hx; simpa using this
 exact B8r D8 hc hsd hpre2 hm hset h1 (fun w' h => hres a w' hr h)
end
section
variable {P : Program} {f : FuncId} {fn : Func} {B : Ch} {Γ : List Fact} {Ms : List Bb}
theorem B6s {R : Ending → World → Prop} {n : Fz} {args : Array Value} {c : Code} {w : World} {d d2 : Tmp} {o1 o2 : Oper} {id : Nat} (hf : P.funcs[f]? = some fn) (hb : fn.body = some (.seq (.region id #[o1, o2] false) c)) (hn : fn.ntmps = n.sz) (hD : n.defs = []) (hk : n.kind = .deferred) (ha : args.size ≤ n.sz) (hs : St B Γ Ms w)
  (h1 : ∀ ρ w, (execOp ρ o1).run P w = .ok .recover w) (hd1 : o1.dst = some d) (hg1 : o1.guard = none) (h2 : ∀ ρ : Operand → Value, execOp ρ o2 = pure (.value (ρ (.tmp d)))) (hd2 : o2.dst = some d2) (hg2 : o2.guard = none) (hl1 : Nat.blt d n.sz = true) (hl2 : Nat.blt d2 n.sz = true)
  (h : F0 P f R B n [.code c] (Ro (Ro (fun t => args.getD t undef) d .nilIface) d2 .nilIface) Γ Ms) : CallsD P f args .returning w fun e u' w' => u' = .returning ∧ R e w' := by
 intro c0 cs hu
 let b : Frame := { (default : Frame) with fn := f, kind := .deferred }
 have henter : Frame.enter P f args .deferred = b.at { tmps := args ++ Array.replicate (fn.ntmps - args.size) undef, defers := [] } [.code (.seq (.region id #[o1, o2] false) c)] := by
  simp [Frame.enter, Frame.at, hf, hb, b]
 have hr0 := Vs (fn := fn) hn hD ha
 have hr1 := hr0.put (dst := some d) hl1 .nilIface
 have hr2 := hr1.put (dst := some d2) hl2 .nilIface
 have hS : wpOpsS P #[o1, o2] (fun e a' cs' w' => e = .normal ∧ a' = (({ tmps := args ++ Array.replicate (fn.ntmps - args.size) undef, defers := [] } : Act).put (some d) .nilIface).put (some d2) .nilIface ∧ cs' = c0 :: cs ∧ w' = w) [0, 1] { tmps := args ++ Array.replicate (fn.ntmps - args.size) undef, defers := [] } (c0 :: cs) w := by
  have e1 : (#[o1, o2])[0]? = some o1 := rfl
  have e2 : (#[o1, o2])[1]? = some o2 := rfl
  have hrec : recoverD (c0 :: cs) = none := by simp [recoverD, hu]
  have hput : ((({ tmps := args ++ Array.replicate (fn.ntmps - args.size) undef, defers := [] } : Act).put (some d) .nilIface).eval (.tmp d)) = .nilIface := by
   rw [hr1.eval]; simp [ev, Af, Jd]
  simp only [wpOpsS, e1, e2, Region.wanted, hg1, hg2, if_true, h1, hrec, hd1, h2]
  rw [hput]
  show Oper.upon P o2 _ _ _ (.ok (.value .nilIface) w)
  simp only [Oper.upon_value, hd2, and_self]
 obtain ⟨e, a', cs', w', ⟨rfl, rfl, rfl, rfl⟩, harr⟩ := wp_opsS [0, 1] _ _ _ hS b [.code c] rfl rfl
 obtain ⟨e, w2, fr, hR, hc, hf', hl⟩ := h _ w' hr2 hs b (c0 :: cs) rfl hk.symm
 rcases hl with ⟨h9, _⟩ | ⟨_, hk2, hgo⟩
 ·rw [hk] at h9; cases h9
 ·refine ⟨e, .returning, w2, fr, ⟨rfl, hR⟩, ?_, hk2, hgo⟩
  have hc0 : ({ c0 with mode := .returning } : Frame) = c0 := by rw [← hu]
  rw [henter, hc0]
  exact hc.of_steps (.head step_seq (.head step_region harr))
theorem A5n {args : List Value} {d d2 : Nat} {v : Value} : (Ro (Ro (fun t => args.toArray.getD t undef) d v) d2 v) = Ro (Ro (fun t => args.getD t undef) d v) d2 v := by
 have he : (fun t => args.toArray.getD t undef) = fun t => args.getD t undef := by
  funext t
  simp [Array.getD_eq_getD_getElem?, List.getD_eq_getElem?_getD]
 rw [he]
theorem B0a {args : List Value} {c : Code} {d d2 sz : Nat} {o1 o2 : Oper} {id : Nat} {v : Value} {older : List PanicEntry} {N pre : List Fact} {Ms0 Ms1 : List Bb} (hf : P.funcs[f]? = some fn) (hb : fn.body = some (.seq (.region id #[o1, o2] false) c)) (hn : fn.ntmps = sz) (ha : args.length ≤ sz)
  (h1 : ∀ ρ w, (execOp ρ o1).run P w = .ok .recover w) (hd1 : o1.dst = some d) (hg1 : o1.guard = none) (h2 : ∀ ρ : Operand → Value, execOp ρ o2 = pure (.value (ρ (.tmp d)))) (hd2 : o2.dst = some d2) (hg2 : o2.guard = none) (hl1 : Nat.blt d sz = true) (hl2 : Nat.blt d2 sz = true)
  (h : ∀ B : Ch, (∀ b, B.S0 b ↔ Bh Ms0 b) → F0 P f (Ends B (fun _ : Unit => .tuple #[]) (fun _ => N) (fun _ => Ms1)) B ⟨sz, [], .deferred⟩ [.code c] (Ro (Ro (fun t => args.getD t undef) d v) d2 v) pre Ms0) :
  Qp P f args.toArray pre Ms0 (.panicking ({ v, recovered := false } :: older)) (.panicking ({ v, recovered := true } :: older)) N Ms1 := by
 intro ok w hok hs
 refine (C2t (n := ⟨sz, [], .deferred⟩) hf hb hn rfl rfl (by simpa using ha) hs h1 hd1 hg1 h2 hd2 hg2 hl1 hl2 (by rw [A5n]; exact h ⟨ok, Bh Ms0, w⟩ (fun _ => Iff.rfl))).mono ?_
 rintro e u w' ⟨rfl, _, he, hx⟩
 exact ⟨he, rfl, hx⟩
theorem A3b {args : List Value} {c : Code} {d d2 sz : Nat} {o1 o2 : Oper} {id : Nat} {N pre : List Fact} {Ms0 Ms1 : List Bb} (hf : P.funcs[f]? = some fn) (hb : fn.body = some (.seq (.region id #[o1, o2] false) c)) (hn : fn.ntmps = sz) (ha : args.length ≤ sz)
  (h1 : ∀ ρ w, (execOp ρ o1).run P w = .ok .recover w) (hd1 : o1.dst = some d) (hg1 : o1.guard = none) (h2 : ∀ ρ : Operand → Value, execOp ρ o2 = pure (.value (ρ (.tmp d)))) (hd2 : o2.dst = some d2) (hg2 : o2.guard = none) (hl1 : Nat.blt d sz = true) (hl2 : Nat.blt d2 sz = true)
  (h : ∀ B : Ch, (∀ b, B.S0 b ↔ Bh Ms0 b) → F0 P f (Ends B (fun _ : Unit => .tuple #[]) (fun _ => N) (fun _ => Ms1)) B ⟨sz, [], .deferred⟩ [.code c] (Ro (Ro (fun t => args.getD t undef) d .nilIface) d2 .nilIface) pre Ms0) :
  Qp P f args.toArray pre Ms0 .returning .returning N Ms1 := by
 intro ok w hok hs
 refine (B6s (n := ⟨sz, [], .deferred⟩) hf hb hn rfl rfl (by simpa using ha) hs h1 hd1 hg1 h2 hd2 hg2 hl1 hl2 (by rw [A5n]; exact h ⟨ok, Bh Ms0, w⟩ (fun _ => Iff.rfl))).mono ?_
 rintro e u w' ⟨rfl, _, he, hx⟩
 exact ⟨he, rfl, hx⟩
end
section
variable {P : Program} [Tab P] {f : FuncId} {R : Ending → World → Prop} {B : Ch} {n : Fz} {K : List Item} {ops : Array Oper} {i : Nat} {l : List Nat} {σ : Nat → Value} {Γ : List Fact} {Ms : List Bb}
variable {dst : Option Tmp} {ty : TypeId} {v : Value} {x y : Operand}
theorem A2n {t : TypeId} (hu : (match Tab.und P t with | some (.interface _) => true | _ => false) = true) : ∃ m, Tab.und P t = some (.interface m) := by
 cases h : Tab.und P t with
 | none => rw [h] at hu; cases hu
 | some d => cases d <;> rw [h] at hu <;> first | exact ⟨_, rfl⟩ | cases hu
theorem C4j {t T : TypeId} {v : Value} (hu : (match Tab.und P t with | some (.interface _) => true | _ => false) = true) (w : World) : (Op.equal t (.iface T v) .nilIface).run P w = .ok false w := by
 obtain ⟨m, hu'⟩ := A2n hu
 have h1 : (Op.equalIn (9999 + 1) t (.iface T v) .nilIface).run P w = .ok false w := by
  unfold Op.equalIn
  rw [A0 (Dm hu' w)]
  rfl
 exact h1
theorem C4i {t : TypeId} (hu : (match Tab.und P t with | some (.interface _) => true | _ => false) = true) (w : World) : (Op.equal t .nilIface .nilIface).run P w = .ok true w := by
 obtain ⟨m, hu'⟩ := A2n hu
 have h1 : (Op.equalIn (9999 + 1) t .nilIface .nilIface).run P w = .ok true w := by
  unfold Op.equalIn
  rw [A0 (Dm hu' w)]
  rfl
 exact h1
theorem A4e {t t' T : TypeId} (k_ : E0 P f R B n K ops l (Af σ dst (.bool true)) Γ Ms) (hx : ev σ x = .iface T v := by exact Ab) (hu : (match Tab.und P t with | some (.interface _) => true | _ => false) = true := by rfl) (hd : Ac n dst = true := by rfl) : Ew P f R B n K ops l (Cj dst (.binOp .neq t x (.const .nilIface) t') ty) σ Γ Ms := Bg (Db hx (show ev σ (.const .nilIface) = Value.nilIface from rfl) (fun w => by simp [eqGuard_at_iface]) (fun w => by
 simp only [binOp]
 rw [A0 (C4j hu w)]; rfl)) hd k_
theorem B8g {t t' : TypeId} (k_ : E0 P f R B n K ops l (Af σ dst (.bool false)) Γ Ms) (hx : ev σ x = .nilIface := by exact Ab) (hu : (match Tab.und P t with | some (.interface _) => true | _ => false) = true := by rfl) (hd : Ac n dst = true := by rfl) : Ew P f R B n K ops l (Cj dst (.binOp .neq t x (.const .nilIface) t') ty) σ Γ Ms := Bg (Db hx (show ev σ (.const .nilIface) = Value.nilIface from rfl) (fun w => by cases x <;> rfl) (fun w => by
 simp only [binOp]
 rw [A0 (C4i hu w)]; rfl)) hd k_
theorem A4d {t T : TypeId} {d : TypeDesc} (k_ : E0 P f R B n K ops l (Af σ dst (.tuple #[v, .bool true])) Γ Ms) (hx : ev σ x = .iface T v := by exact Ab) (hu : Tab.und P T = some d := by rfl) (hdd : (match d with | .interface _ => true | _ => false) = false := by rfl) (hd : Ac n dst = true := by rfl) : Ew P f R B n K ops l (Cj dst (.typeAssert x t T true) ty) σ Γ Ms := Bg (fun w => by
 cases d <;> first | (simp at hdd; done) | simp [Cj, execOp, hx, Instr.typeAssert, Dm hu]) hd k_
end
section
variable {P : Program} [Tab P] {f : FuncId} {fn : Func} {B : Ch} {n : Fz} {K : List Item} {σ : Nat → Value} {Γ : List Fact} {Ms : List Bb} {X : Type} {val : X → Value} {N : X → List Fact} {Ms1 : X → List Bb}
theorem Sq {r t T r2 t2 T2 b b2 s bt : Nat} {zv v2 : Value} {d : TypeDesc} {lay : List (Nat × Nat)} {cs : List Value} {a : Act} {w : World} (hr : fn.results = #[.cell r t, .cell r2 t2]) (ha : Rel n a σ) (hs : St B Γ Ms w) (hb : σ r = .pointer (some ⟨b, 0, none⟩)) (hb2 : σ r2 = .pointer (some ⟨b2, 0, none⟩)) (hm : Aa b cs T ∈ Ms) (hm2 : Aa b2 [v2] T2 ∈ Ms)
  (hl : Tab.lay P t = some lay) (hi : Tab.inf P t = some (s, bt, zv)) (hcs : cs.length = s) (hu : Tab.und P t2 = some d) (hd : (match d with | .struct _ | .array _ _ => true | _ => false) = false) : (results fn a.tmps).run P w = .ok (.tuple #[.agg cs.toArray, v2]) w := by
 have h1 := ha.get r
 rw [hb] at h1
 have h3 := ha.get r2
 rw [hb2] at h3
 have h2 := Di (P := P) (bk := b) (off := 0) (w := w) hl hi hcs (fun j v hj => by rw [Nat.zero_add]; exact Kv hs hm j v hj)
 have h4 : (loadVar t2 ⟨b2, 0, none⟩).run P w = .ok v2 w := Et (P := P) (off := 0) (w := w) hu hd (Kv hs hm2 0 v2 rfl)
 have h1' : (a.tmps[r]?.getD undef) = .pointer (some ⟨b, 0, none⟩) := by simpa [Array.getD_eq_getD_getElem?] using h1
 have h3' : (a.tmps[r2]?.getD undef) = .pointer (some ⟨b2, 0, none⟩) := by simpa [Array.getD_eq_getD_getElem?] using h3
 simp [results, hr, asAddr, h1', h2, h3', h4]
theorem A3q {r t T r2 t2 T2 b b2 s bt : Nat} {zv v2 : Value} {d : TypeDesc} {lay : List (Nat × Nat)} {cs : List Value} (hf : P.funcs[f]? = some fn) (hr : fn.results = #[.cell r t, .cell r2 t2]) (x : X) (hb : σ r = .pointer (some ⟨b, 0, none⟩)) (hb2 : σ r2 = .pointer (some ⟨b2, 0, none⟩)) (hm : Aa b cs T ∈ Ms) (hm2 : Aa b2 [v2] T2 ∈ Ms)
  (hl : Tab.lay P t = some lay) (hi : Tab.inf P t = some (s, bt, zv)) (hcs : cs.length = s) (hu : Tab.und P t2 = some d) (hd : (match d with | .struct _ | .array _ _ => true | _ => false) = false) (hv : Value.tuple #[.agg cs.toArray, v2] = val x) (hs : ∀ w, St B Γ Ms w → St B (N x) (Ms1 x) w) (hD : n.defs = [] := by rfl) (hK : okK n.kind := by first | exact .inl rfl | exact .inr rfl) : F0 P f (Ends B val N Ms1) B n (.code .ret :: K) σ Γ Ms :=
 go_ret hf (fun a w ha h => (Sq hr ha h hb hb2 hm hm2 hl hi hcs hu hd).trans (by rw [hv])) (fun w h => ⟨x, rfl, hs w h⟩) hD hK
end
section
variable {P : Program} [Tab P] {f : FuncId} {fn : Func} {B : Ch} {n : Fz} {K : List Item} {σ : Nat → Value} {Γ : List Fact} {Ms : List Bb} {X : Type} {val : X → Value} {N : X → List Fact} {Ms1 : X → List Bb}
theorem B4x {r t T r2 t2 T2 b b2 s bt : Nat} {zv v2 : Value} {d : TypeDesc} {lay : List (Nat × Nat)} {cs : List Value} {k : FuncId} {cap : List Value} (hf : P.funcs[f]? = some fn) (hr : fn.results = #[.cell r t, .cell r2 t2]) (hc : ∀ (args : Array Value) (w : World), (callFunc k args).run P w = .ok (.enter k args) w) (hsp : Qp P k cap.toArray [] [] .returning .returning [] [])
  (x : X) (hb : σ r = .pointer (some ⟨b, 0, none⟩)) (hb2 : σ r2 = .pointer (some ⟨b2, 0, none⟩)) (hm : Aa b cs T ∈ Ms) (hm2 : Aa b2 [v2] T2 ∈ Ms)
  (hl : Tab.lay P t = some lay) (hi : Tab.inf P t = some (s, bt, zv)) (hcs : cs.length = s) (hu : Tab.und P t2 = some d) (hd : (match d with | .struct _ | .array _ _ => true | _ => false) = false) (hv : Value.tuple #[.agg cs.toArray, v2] = val x) (hs : ∀ w, St B Γ Ms w → St B (N x) (Ms1 x) w) (hD : n.defs = [⟨.fn (.func k) cap.toArray, #[]⟩] := by rfl) (hK : n.kind = .normal := by rfl) : F0 P f (Ends B val N Ms1) B n (.code .ret :: K) σ Γ Ms :=
 D0w (Ms2 := Ms) hf hc hsp (fun F hF => by cases hF) (List.Perm.refl _) (fun a w' ha h => ⟨_, Sq hr ha h hb hb2 hm hm2 hl hi hcs hu hd, ⟨x, by rw [hv], hs w' h⟩⟩) hD hK
theorem C5i {r t T r2 t2 T2 b b2 s bt : Nat} {zv v2 : Value} {d : TypeDesc} {lay : List (Nat × Nat)} {cs cs0 : List Value} {v0 : Value} {k c : FuncId} {cap : List Value} {ops : Array Oper} {l : List Nat} {dst : Option Tmp} {op : Op} {ty : TypeId} {args : Array Value} {pre : List Fact} {chain : List PanicEntry} {u' : FrameMode} {Ms2 : List Bb} (he : Qq P σ op ty c args) (hspp : Qo P c args pre chain) (hpre : ∀ F, F ∈ pre → F ∈ Γ)
  (hf : P.funcs[f]? = some fn) (hr : fn.results = #[.cell r t, .cell r2 t2]) (hc : ∀ (args : Array Value) (w : World), (callFunc k args).run P w = .ok (.enter k args) w) (hsp : Qp P k cap.toArray [] [Aa b cs0 T, Aa b2 [v0] T2] (.panicking chain) u' [] [Aa b cs T, Aa b2 [v2] T2]) (hset : settle u' = .returning) (hm : Ms.Perm (Aa b cs0 T :: Aa b2 [v0] T2 :: Ms2))
  (x : X) (hb : σ r = .pointer (some ⟨b, 0, none⟩)) (hb2 : σ r2 = .pointer (some ⟨b2, 0, none⟩))
  (hl : Tab.lay P t = some lay) (hi : Tab.inf P t = some (s, bt, zv)) (hcs : cs.length = s) (hu : Tab.und P t2 = some d) (hd : (match d with | .struct _ | .array _ _ => true | _ => false) = false) (hv : Value.tuple #[.agg cs.toArray, v2] = val x) (hs : ∀ w, St B Γ [] w → St B (N x) (Ms1 x) w) (hD : n.defs = [⟨.fn (.func k) cap.toArray, #[]⟩] := by rfl) (hK : n.kind = .normal := by rfl) : Ew P f (Ends B val N Ms1) B n K ops l (Cj dst op ty) σ Γ Ms :=
 D0g (Ms0 := [Aa b cs0 T, Aa b2 [v0] T2]) (Ms2 := Ms2) he hspp hpre hf hc hsp (fun F hF => by cases hF) hm hset (fun a w' ha h => ⟨_, Sq hr ha h hb hb2 (List.mem_cons_self) (List.mem_cons_of_mem _ List.mem_cons_self) hl hi hcs hu hd, ⟨x, by rw [hv], hs w' (St.Mx (A := Aa b cs T :: Aa b2 [v2] T2 :: Ms2) (Ms := []) (by rw [List.append_nil]; exact h))⟩⟩) hD hK
end
section
variable {P : Program} [Tab P] {f : FuncId} {R : Ending → World → Prop} {B : Ch} {n : Fz} {K : List Item} {ops : Array Oper} {i : Nat} {l : List Nat} {σ : Nat → Value} {Γ : List Fact} {Ms : List Bb}
variable {dst : Option Tmp} {ty : TypeId} {v : Value} {x y : Operand}
theorem C0v {s d : TypeId} {a : Nat} (hs : Tab.und P s = some (.int .u32)) (hd : Tab.und P d = some (.int .u64)) (hx : ev σ x = .int .u32 (a : Int)) (ha : a < 4294967296) : Co P σ (.convert s d x) ty (.int .u64 (a : Int)) := by
 have e : IntKind.u64.wrap (a : Int) = (a : Int) := by
  have : IntKind.u64.wrap (a : Int) = (a : Int) % 18446744073709551616 := by simp [IntKind.wrap, IntKind.bits, IntKind.signed]
  rw [this]; omega
 have := M1 (P := P) (ty := ty) hs hd hx
 rwa [e] at this
theorem C5t {s d : TypeId} {a : Nat} (k_ : E0 P f R B n K ops l (Af σ dst (.int .u64 (a : Int))) Γ Ms) (hx : ev σ x = .int .u32 (a : Int) := by exact Ab) (ha : a < 4294967296 := by first | assumption | omega) (hs : Tab.und P s = some (.int .u32) := by rfl) (hd' : Tab.und P d = some (.int .u64) := by rfl) (hd : Ac n dst = true := by rfl) : Ew P f R B n K ops l (Cj dst (.convert s d x) ty) σ Γ Ms := Bg (C0v hs hd' hx ha) hd k_
end
end Go.Hy
