/- Contracts of this program's functions and the laws that they need. -/
import Derived.WideShapes
import Derived.ArgAppend
import Derived.Test.YtpfjlbopkhdebaaGreatDoorP2
set_option linter.unusedVariables false
set_option linter.unusedSimpArgs false
set_option linter.unusedSectionVars false
namespace Go.Hy
section
variable {tn : Bool} {pn : Nat} {P : Program} [Tab P] {f : FuncId} {R : Ending → World → Prop} {B : Cu} {n : Fz} {K : List Item} {ops : Array Oper} {i : Nat} {l fin : List Nat} {σ : Nat → Value} {Γ : List Fact} {Ms Ms2 : List Bj}
variable {dst : Option Tmp} {op : Op} {ty : TypeId} {pos : String} {after : Array Edge} {v : Value} {x y z : Operand}
theorem Cf  (k_ : Ec P f R B n K ops l (Au σ dst v) Γ Ms) (h : ev σ x = v := by exact A5) (hd : Af n dst = true := by rfl) : Ew P f R B n K ops l (Ch dst (.move x) ty) σ Γ Ms := Be (C1i h) hd k_
theorem A1d  (k_ : NV tn pn P f R B n K ops fin l (Au σ dst v) Γ Ms) (h : ev σ x = v := by exact A5) (hd : Af n dst = true := by rfl) : L0 tn pn P f R B n K ops fin i l dst (.move x) ty σ Γ Ms := Dr (C1i h) hd k_
theorem D1f  (k_ : Ec P f R B n K ops l (Au σ dst v) Γ Ms) (h : ev σ x = v := by exact A5) (hd : Af n dst = true := by rfl) : Ew P f R B n K ops l (Ch dst (.assign x) ty) σ Γ Ms := Be (A6o h) hd k_
theorem C8b  (k_ : NV tn pn P f R B n K ops fin l (Au σ dst v) Γ Ms) (h : ev σ x = v := by exact A5) (hd : Af n dst = true := by rfl) : L0 tn pn P f R B n K ops fin i l dst (.assign x) ty σ Γ Ms := Dr (A6o h) hd k_
theorem C1v  (k_ : Ec P f R B n K ops l (Au σ dst v) Γ Ms) (hz : ev σ z = .bool true := by rfl) (h : ev σ x = v := by exact A5) (hd : Af n dst = true := by rfl) : Ew P f R B n K ops l (Ch dst (.pick z x y) ty) σ Γ Ms := Be (B3l hz h) hd k_
theorem C0e  (k_ : NV tn pn P f R B n K ops fin l (Au σ dst v) Γ Ms) (hz : ev σ z = .bool true := by rfl) (h : ev σ x = v := by exact A5) (hd : Af n dst = true := by rfl) : L0 tn pn P f R B n K ops fin i l dst (.pick z x y) ty σ Γ Ms := Dr (B3l hz h) hd k_
theorem C1w  (k_ : Ec P f R B n K ops l (Au σ dst v) Γ Ms) (hz : ev σ z = .bool false := by rfl) (h : ev σ y = v := by exact A5) (hd : Af n dst = true := by rfl) : Ew P f R B n K ops l (Ch dst (.pick z x y) ty) σ Γ Ms := Be (B3m hz h) hd k_
theorem C0f  (k_ : NV tn pn P f R B n K ops fin l (Au σ dst v) Γ Ms) (hz : ev σ z = .bool false := by rfl) (h : ev σ y = v := by exact A5) (hd : Af n dst = true := by rfl) : L0 tn pn P f R B n K ops fin i l dst (.pick z x y) ty σ Γ Ms := Dr (B3m hz h) hd k_
theorem E4v {t t' : TypeId} {a b : Int} (k_ : Ec P f R B n K ops l (Au σ dst (.int .i64 (a + b))) Γ Ms) (hx : ev σ x = .int .i64 a := by exact A5) (hy : ev σ y = .int .i64 b := by exact A5) (h : Ak (a + b) := by unfold Ak; first | omega | (unfold Ak at *; omega) | (unfold reach at *; omega) | (unfold Gd at *; omega) | (simp only [Ak, reach, Gd] at *; omega)) (hd : Af n dst = true := by rfl) : Ew P f R B n K ops l (Ch dst (.binOp .add t x y t') ty) σ Γ Ms := Be (D0j hx hy h) hd k_
theorem E3r {t t' : TypeId} {a b : Int} (k_ : NV tn pn P f R B n K ops fin l (Au σ dst (.int .i64 (a + b))) Γ Ms) (hx : ev σ x = .int .i64 a := by exact A5) (hy : ev σ y = .int .i64 b := by exact A5) (h : Ak (a + b) := by unfold Ak; first | omega | (unfold Ak at *; omega) | (unfold reach at *; omega) | (unfold Gd at *; omega) | (simp only [Ak, reach, Gd] at *; omega)) (hd : Af n dst = true := by rfl) : L0 tn pn P f R B n K ops fin i l dst (.binOp .add t x y t') ty σ Γ Ms := Dr (D0j hx hy h) hd k_
theorem D7p {t t' : TypeId} {a b : Int} (k_ : Ec P f R B n K ops l (Au σ dst (.int .i64 (a - b))) Γ Ms) (hx : ev σ x = .int .i64 a := by exact A5) (hy : ev σ y = .int .i64 b := by exact A5) (h : Ak (a - b) := by unfold Ak; first | omega | (unfold Ak at *; omega) | (unfold reach at *; omega) | (unfold Gd at *; omega) | (simp only [Ak, reach, Gd] at *; omega)) (hd : Af n dst = true := by rfl) : Ew P f R B n K ops l (Ch dst (.binOp .sub t x y t') ty) σ Γ Ms := Be (D0a hx hy h) hd k_
theorem D6z {t t' : TypeId} {a b : Int} (k_ : NV tn pn P f R B n K ops fin l (Au σ dst (.int .i64 (a - b))) Γ Ms) (hx : ev σ x = .int .i64 a := by exact A5) (hy : ev σ y = .int .i64 b := by exact A5) (h : Ak (a - b) := by unfold Ak; first | omega | (unfold Ak at *; omega) | (unfold reach at *; omega) | (unfold Gd at *; omega) | (simp only [Ak, reach, Gd] at *; omega)) (hd : Af n dst = true := by rfl) : L0 tn pn P f R B n K ops fin i l dst (.binOp .sub t x y t') ty σ Γ Ms := Dr (D0a hx hy h) hd k_
theorem E4o {t t' : TypeId} {a b : Int} (k_ : Ec P f R B n K ops l (Au σ dst (.int .i64 (a * b))) Γ Ms) (hx : ev σ x = .int .i64 a := by exact A5) (hy : ev σ y = .int .i64 b := by exact A5) (h : Ak (a * b) := by unfold Ak; first | omega | (unfold Ak at *; omega) | (unfold reach at *; omega) | (unfold Gd at *; omega) | (simp only [Ak, reach, Gd] at *; omega)) (hd : Af n dst = true := by rfl) : Ew P f R B n K ops l (Ch dst (.binOp .mul t x y t') ty) σ Γ Ms := Be (D9s hx hy h) hd k_
theorem D7s {t t' : TypeId} {k : IntKind} {a b : Int} (k_ : Ec P f R B n K ops l (Au σ dst (.bool (decide (a < b)))) Γ Ms) (hx : ev σ x = .int k a := by exact A5) (hy : ev σ y = .int k b := by exact A5) (hd : Af n dst = true := by rfl) : Ew P f R B n K ops l (Ch dst (.binOp .lss t x y t') ty) σ Γ Ms := Be (B7w hx hy) hd k_
theorem E3m {t t' : TypeId} {k : IntKind} {a b : Int} (k_ : NV tn pn P f R B n K ops fin l (Au σ dst (.bool (decide (a < b)))) Γ Ms) (hx : ev σ x = .int k a := by exact A5) (hy : ev σ y = .int k b := by exact A5) (hd : Af n dst = true := by rfl) : L0 tn pn P f R B n K ops fin i l dst (.binOp .lss t x y t') ty σ Γ Ms := Dr (B7w hx hy) hd k_
theorem E4q {t t' : TypeId} {k : IntKind} {a b : Int} (k_ : Ec P f R B n K ops l (Au σ dst (.bool (decide (a ≤ b)))) Γ Ms) (hx : ev σ x = .int k a := by exact A5) (hy : ev σ y = .int k b := by exact A5) (hd : Af n dst = true := by rfl) : Ew P f R B n K ops l (Ch dst (.binOp .leq t x y t') ty) σ Γ Ms := Be (D9u hx hy) hd k_
theorem D1a {t t' : TypeId} {k : IntKind} {a b : Int} (k_ : Ec P f R B n K ops l (Au σ dst (.bool (decide (b < a)))) Γ Ms) (hx : ev σ x = .int k a := by exact A5) (hy : ev σ y = .int k b := by exact A5) (hd : Af n dst = true := by rfl) : Ew P f R B n K ops l (Ch dst (.binOp .gtr t x y t') ty) σ Γ Ms := Be (D0h hx hy) hd k_
theorem E3p {t t' : TypeId} {k : IntKind} {a b : Int} (k_ : NV tn pn P f R B n K ops fin l (Au σ dst (.bool (decide (b < a)))) Γ Ms) (hx : ev σ x = .int k a := by exact A5) (hy : ev σ y = .int k b := by exact A5) (hd : Af n dst = true := by rfl) : L0 tn pn P f R B n K ops fin i l dst (.binOp .gtr t x y t') ty σ Γ Ms := Dr (D0h hx hy) hd k_
theorem D7u {t t' : TypeId} {k : IntKind} {a b : Int} (k_ : Ec P f R B n K ops l (Au σ dst (.bool (decide (b ≤ a)))) Γ Ms) (hx : ev σ x = .int k a := by exact A5) (hy : ev σ y = .int k b := by exact A5) (hd : Af n dst = true := by rfl) : Ew P f R B n K ops l (Ch dst (.binOp .geq t x y t') ty) σ Γ Ms := Be (D9w hx hy) hd k_
theorem Zm {t t' : TypeId} {k : IntKind} {a b : Int} (k_ : Ec P f R B n K ops l (Au σ dst (.bool (decide (a = b)))) Γ Ms) (hx : ev σ x = .int k a := by exact A5) (hy : ev σ y = .int k b := by exact A5) (hd : Af n dst = true := by rfl) : Ew P f R B n K ops l (Ch dst (.binOp .eql t x y t') ty) σ Γ Ms := Be (A9v hx hy) hd k_
theorem D7e {t t' : TypeId} {k : IntKind} {a b : Int} (k_ : NV tn pn P f R B n K ops fin l (Au σ dst (.bool (decide (a = b)))) Γ Ms) (hx : ev σ x = .int k a := by exact A5) (hy : ev σ y = .int k b := by exact A5) (hd : Af n dst = true := by rfl) : L0 tn pn P f R B n K ops fin i l dst (.binOp .eql t x y t') ty σ Γ Ms := Dr (A9v hx hy) hd k_
theorem A6t {t t' : TypeId} {k : IntKind} {a b : Int} (k_ : Ec P f R B n K ops l (Au σ dst (.bool (decide (a ≠ b)))) Γ Ms) (hx : ev σ x = .int k a := by exact A5) (hy : ev σ y = .int k b := by exact A5) (hd : Af n dst = true := by rfl) : Ew P f R B n K ops l (Ch dst (.binOp .neq t x y t') ty) σ Γ Ms := Be (B7v hx hy) hd k_
theorem C0g {t t' : TypeId} {k : IntKind} {a b : Int} (k_ : NV tn pn P f R B n K ops fin l (Au σ dst (.bool (decide (a ≠ b)))) Γ Ms) (hx : ev σ x = .int k a := by exact A5) (hy : ev σ y = .int k b := by exact A5) (hd : Af n dst = true := by rfl) : L0 tn pn P f R B n K ops fin i l dst (.binOp .neq t x y t') ty σ Γ Ms := Dr (B7v hx hy) hd k_
theorem C1y {t t' : TypeId} {s s' : ByteArray} (k_ : Ec P f R B n K ops l (Au σ dst (.bool (!(s.toList == s'.toList)))) Γ Ms) (hx : ev σ x = .string s := by exact A5) (hy : ev σ y = .string s' := by exact A5) (hd : Af n dst = true := by rfl) : Ew P f R B n K ops l (Ch dst (.binOp .neq t x y t') ty) σ Γ Ms := Be (D0d hx hy) hd k_
theorem D7b {t t' : TypeId} {s s' : ByteArray} (k_ : NV tn pn P f R B n K ops fin l (Au σ dst (.bool (!(s.toList == s'.toList)))) Γ Ms) (hx : ev σ x = .string s := by exact A5) (hy : ev σ y = .string s' := by exact A5) (hd : Af n dst = true := by rfl) : L0 tn pn P f R B n K ops fin i l dst (.binOp .neq t x y t') ty σ Γ Ms := Dr (D0d hx hy) hd k_
theorem D7r {t : TypeId} {c : Bool} (k_ : Ec P f R B n K ops l (Au σ dst (.bool (!c))) Γ Ms) (hx : ev σ x = .bool c := by exact A5) (hd : Af n dst = true := by rfl) : Ew P f R B n K ops l (Ch dst (.unOp .not t x) ty) σ Γ Ms := Be (D0b hx) hd k_
theorem A5k {t : TypeId} {c : Bool} (k_ : NV tn pn P f R B n K ops fin l (Au σ dst (.bool (!c))) Γ Ms) (hx : ev σ x = .bool c := by exact A5) (hd : Af n dst = true := by rfl) : L0 tn pn P f R B n K ops fin i l dst (.unOp .not t x) ty σ Γ Ms := Dr (D0b hx) hd k_
theorem C5r {vs : Array Value} {j : Nat} (k_ : Ec P f R B n K ops l (Au σ dst v) Γ Ms) (hx : ev σ x = .tuple vs := by exact A5) (hj : vs[j]? = some v := by exact A5) (hd : Af n dst = true := by rfl) : Ew P f R B n K ops l (Ch dst (.extract x j) ty) σ Γ Ms := Be (A2b hx hj) hd k_
theorem Tb {vs : Array Value} {j : Nat} (k_ : NV tn pn P f R B n K ops fin l (Au σ dst v) Γ Ms) (hx : ev σ x = .tuple vs := by exact A5) (hj : vs[j]? = some v := by exact A5) (hd : Af n dst = true := by rfl) : L0 tn pn P f R B n K ops fin i l dst (.extract x j) ty σ Γ Ms := Dr (A2b hx hj) hd k_
theorem B8e {fn : Fn} {cap : Array Operand} {vs : List Value} (k_ : Ec P f R B n K ops l (Au σ dst (.func fn #[] vs.toArray)) Γ Ms) (h : cap.toList.map (ev σ) = vs := by first | exact E8n (by first | ((conv => lhs; whnf); done) | rfl) | exact E8m (by first | ((conv => lhs; whnf); done) | rfl) (by first | ((conv => lhs; whnf); done) | rfl) | exact E8l (by first | ((conv => lhs; whnf); done) | rfl) (by first | ((conv => lhs; whnf); done) | rfl) (by first | ((conv => lhs; whnf); done) | rfl) | exact E8k (by first | ((conv => lhs; whnf); done) | rfl) (by first | ((conv => lhs; whnf); done) | rfl) (by first | ((conv => lhs; whnf); done) | rfl) (by first | ((conv => lhs; whnf); done) | rfl) | rfl) (hd : Af n dst = true := by rfl) : Ew P f R B n K ops l (Ch dst (.makeFunc fn #[] cap) ty) σ Γ Ms := Be (B3o h) hd k_
theorem D7t {ts : Array TypeId} {t e : TypeId} {A : Option Addr} {m c : Nat} (k_ : Ec P f R B n K ops l (Au σ dst (.int .i64 (m : Int))) Γ Ms) (hx : ev σ x = .slice A m c := by exact A5) (ht : ts[0]? = some t := by rfl) (hu : Tab.und P t = some (.slice e) := by rfl) (hd : Af n dst = true := by rfl) : Ew P f R B n K ops l (Ch dst (.call { callee := .builtin .len, args := #[x], argTypes := ts }) ty) σ Γ Ms := Be (C1j ht hu hx) hd k_
theorem A5l {ts : Array TypeId} {t e : TypeId} {A : Option Addr} {m c : Nat} (k_ : NV tn pn P f R B n K ops fin l (Au σ dst (.int .i64 (m : Int))) Γ Ms) (hx : ev σ x = .slice A m c := by exact A5) (ht : ts[0]? = some t := by rfl) (hu : Tab.und P t = some (.slice e) := by rfl) (hd : Af n dst = true := by rfl) : L0 tn pn P f R B n K ops fin i l dst (.call { callee := .builtin .len, args := #[x], argTypes := ts }) ty σ Γ Ms := Dr (C1j ht hu hx) hd k_
theorem Sp {ts : Array TypeId} {t : TypeId} {s : ByteArray} (k_ : Ec P f R B n K ops l (Au σ dst (.int .i64 (s.size : Int))) Γ Ms) (hx : ev σ x = .string s := by exact A5) (ht : ts[0]? = some t := by rfl) (hu : Tab.und P t = some .string := by rfl) (hd : Af n dst = true := by rfl) : Ew P f R B n K ops l (Ch dst (.call { callee := .builtin .len, args := #[x], argTypes := ts }) ty) σ Γ Ms := Be (C4z ht hu hx) hd k_
theorem D0v {ts : Array TypeId} {a b : Int} (k_ : Ec P f R B n K ops l (Au σ dst (.int .i64 (if b < a then b else a))) Γ Ms) (hx : ev σ x = .int .i64 a := by exact A5) (hy : ev σ y = .int .i64 b := by exact A5) (hd : Af n dst = true := by rfl) : Ew P f R B n K ops l (Ch dst (.call { callee := .builtin .min, args := #[x, y], argTypes := ts }) ty) σ Γ Ms := Be (D9t hx hy) hd k_
theorem V8 {t : TypeId} {j bk off o : Nat} (k_ : Ec P f R B n K ops l (Au σ dst (.pointer (some ⟨bk, off + o, none⟩))) Γ Ms) (hx : ev σ x = .pointer (some ⟨bk, off, none⟩) := by exact A5) (hf : Tab.foff P t j = some o := by rfl) (hd : Af n dst = true := by rfl) : Ew P f R B n K ops l (Ch dst (.fieldAddr t x j) ty) σ Γ Ms := Be (Ws hf hx) hd k_
theorem Nr {t : TypeId} {j bk off o : Nat} (k_ : NV tn pn P f R B n K ops fin l (Au σ dst (.pointer (some ⟨bk, off + o, none⟩))) Γ Ms) (hx : ev σ x = .pointer (some ⟨bk, off, none⟩) := by exact A5) (hf : Tab.foff P t j = some o := by rfl) (hd : Af n dst = true := by rfl) : L0 tn pn P f R B n K ops fin i l dst (.fieldAddr t x j) ty σ Γ Ms := Dr (Ws hf hx) hd k_
theorem B2 {t : TypeId} {s bt : Nat} {zv : Value} {parts : Array (Nat × Operand)} {pv : List (Nat × Value)} {l' : List (Nat × Nat)} {cs : List Value} (k_ : Ec P f R B n K ops l (Au σ dst (.agg cs.toArray)) Γ Ms) (hl : Tab.lay P t = some l' := by rfl) (hi : Tab.inf P t = some (s, bt, zv) := by rfl) (hp : parts.toList.map (fun (i, x) => (i, ev σ x)) = pv := by first | exact pv0  | exact pv1 (by first | ((conv => lhs; whnf); done) | rfl) | exact pv2 (by first | ((conv => lhs; whnf); done) | rfl) (by first | ((conv => lhs; whnf); done) | rfl) | exact pv3 (by first | ((conv => lhs; whnf); done) | rfl) (by first | ((conv => lhs; whnf); done) | rfl) (by first | ((conv => lhs; whnf); done) | rfl) | exact pv4 (by first | ((conv => lhs; whnf); done) | rfl) (by first | ((conv => lhs; whnf); done) | rfl) (by first | ((conv => lhs; whnf); done) | rfl) (by first | ((conv => lhs; whnf); done) | rfl) | exact pv5 (by first | ((conv => lhs; whnf); done) | rfl) (by first | ((conv => lhs; whnf); done) | rfl) (by first | ((conv => lhs; whnf); done) | rfl) (by first | ((conv => lhs; whnf); done) | rfl) (by first | ((conv => lhs; whnf); done) | rfl) | exact pv6 (by first | ((conv => lhs; whnf); done) | rfl) (by first | ((conv => lhs; whnf); done) | rfl) (by first | ((conv => lhs; whnf); done) | rfl) (by first | ((conv => lhs; whnf); done) | rfl) (by first | ((conv => lhs; whnf); done) | rfl) (by first | ((conv => lhs; whnf); done) | rfl) | rfl) (hb : Instr.fill (l'.toArray[·]?) zv.cells pv = some cs.toArray := by rfl) (hd : Af n dst = true := by rfl) : Ew P f R B n K ops l (Ch dst (.build t parts) ty) σ Γ Ms := Be (B3r hl hi hp hb) hd k_
theorem J3 {t : TypeId} {s bt : Nat} {zv : Value} {parts : Array (Nat × Operand)} {pv : List (Nat × Value)} {l' : List (Nat × Nat)} {cs : List Value} (k_ : NV tn pn P f R B n K ops fin l (Au σ dst (.agg cs.toArray)) Γ Ms) (hl : Tab.lay P t = some l' := by rfl) (hi : Tab.inf P t = some (s, bt, zv) := by rfl) (hp : parts.toList.map (fun (i, x) => (i, ev σ x)) = pv := by first | exact pv0  | exact pv1 (by first | ((conv => lhs; whnf); done) | rfl) | exact pv2 (by first | ((conv => lhs; whnf); done) | rfl) (by first | ((conv => lhs; whnf); done) | rfl) | exact pv3 (by first | ((conv => lhs; whnf); done) | rfl) (by first | ((conv => lhs; whnf); done) | rfl) (by first | ((conv => lhs; whnf); done) | rfl) | exact pv4 (by first | ((conv => lhs; whnf); done) | rfl) (by first | ((conv => lhs; whnf); done) | rfl) (by first | ((conv => lhs; whnf); done) | rfl) (by first | ((conv => lhs; whnf); done) | rfl) | exact pv5 (by first | ((conv => lhs; whnf); done) | rfl) (by first | ((conv => lhs; whnf); done) | rfl) (by first | ((conv => lhs; whnf); done) | rfl) (by first | ((conv => lhs; whnf); done) | rfl) (by first | ((conv => lhs; whnf); done) | rfl) | exact pv6 (by first | ((conv => lhs; whnf); done) | rfl) (by first | ((conv => lhs; whnf); done) | rfl) (by first | ((conv => lhs; whnf); done) | rfl) (by first | ((conv => lhs; whnf); done) | rfl) (by first | ((conv => lhs; whnf); done) | rfl) (by first | ((conv => lhs; whnf); done) | rfl) | rfl) (hb : Instr.fill (l'.toArray[·]?) zv.cells pv = some cs.toArray := by rfl) (hd : Af n dst = true := by rfl) : L0 tn pn P f R B n K ops fin i l dst (.build t parts) ty σ Γ Ms := Dr (B3r hl hi hp hb) hd k_
theorem Cj {t e : TypeId} {s bt bk o m c j : Nat} {zv : Value} {A : Option Addr} (k_ : Ec P f R B n K ops l (Au σ dst (.pointer (some ⟨bk, o + j * s, none⟩))) Γ Ms) (hx : ev σ x = .slice A m c := by exact A5) (hA : A = some ⟨bk, o, none⟩ := by first | assumption | rfl) (hy : ev σ y = .int .i64 (j : Int) := by exact A5) (hu : Tab.und P t = some (.slice e) := by rfl) (hi : Tab.inf P e = some (s, bt, zv) := by rfl) (h1 : j < m := by omega) (hd : Af n dst = true := by rfl) : Ew P f R B n K ops l (Ch dst (.indexAddr t x y) ty) σ Γ Ms := Be (D0g hu hi hx hA hy h1) hd k_
theorem G4 {t e : TypeId} {s bt bk o m c j : Nat} {zv : Value} {A : Option Addr} (k_ : NV tn pn P f R B n K ops fin l (Au σ dst (.pointer (some ⟨bk, o + j * s, none⟩))) Γ Ms) (hx : ev σ x = .slice A m c := by exact A5) (hA : A = some ⟨bk, o, none⟩ := by first | assumption | rfl) (hy : ev σ y = .int .i64 (j : Int) := by exact A5) (hu : Tab.und P t = some (.slice e) := by rfl) (hi : Tab.inf P e = some (s, bt, zv) := by rfl) (h1 : j < m := by omega) (hd : Af n dst = true := by rfl) : L0 tn pn P f R B n K ops fin i l dst (.indexAddr t x y) ty σ Γ Ms := Dr (D0g hu hi hx hA hy h1) hd k_
theorem D5t {t t' e : TypeId} {A : Option Addr} {m c : Nat} (k_ : Ec P f R B n K ops l (Au σ dst (.bool A.isNone)) Γ Ms) (hx : ev σ x = .slice A m c := by exact A5) (hy : ev σ y = .slice none 0 0 := by rfl) (hu : Tab.und P t = some (.slice e) := by rfl) (hd : Af n dst = true := by rfl) : Ew P f R B n K ops l (Ch dst (.binOp .eql t x y t') ty) σ Γ Ms := Be (B3n hu hx hy) hd k_
theorem D1e {t e : TypeId} {m s bt s' bt' : Nat} {zv zv' : Value} {parts : Array (Nat × Operand)} {pv : List (Nat × Value)} {cs : List Value} (k_ : Ec P f R B n K ops l (Au σ dst (.agg cs.toArray)) Γ Ms) (hu : Tab.und P t = some (.array m e) := by rfl) (hi : Tab.inf P t = some (s, bt, zv) := by rfl) (he : Tab.inf P e = some (s', bt', zv') := by rfl) (hp : parts.toList.map (fun (i, x) => (i, ev σ x)) = pv := by first | exact pv0  | exact pv1 (by first | ((conv => lhs; whnf); done) | rfl) | exact pv2 (by first | ((conv => lhs; whnf); done) | rfl) (by first | ((conv => lhs; whnf); done) | rfl) | exact pv3 (by first | ((conv => lhs; whnf); done) | rfl) (by first | ((conv => lhs; whnf); done) | rfl) (by first | ((conv => lhs; whnf); done) | rfl) | exact pv4 (by first | ((conv => lhs; whnf); done) | rfl) (by first | ((conv => lhs; whnf); done) | rfl) (by first | ((conv => lhs; whnf); done) | rfl) (by first | ((conv => lhs; whnf); done) | rfl) | exact pv5 (by first | ((conv => lhs; whnf); done) | rfl) (by first | ((conv => lhs; whnf); done) | rfl) (by first | ((conv => lhs; whnf); done) | rfl) (by first | ((conv => lhs; whnf); done) | rfl) (by first | ((conv => lhs; whnf); done) | rfl) | exact pv6 (by first | ((conv => lhs; whnf); done) | rfl) (by first | ((conv => lhs; whnf); done) | rfl) (by first | ((conv => lhs; whnf); done) | rfl) (by first | ((conv => lhs; whnf); done) | rfl) (by first | ((conv => lhs; whnf); done) | rfl) (by first | ((conv => lhs; whnf); done) | rfl) | rfl) (hb : Instr.fill (fun i => some (i * s', s')) zv.cells pv = some cs.toArray := by rfl) (hd : Af n dst = true := by rfl) : Ew P f R B n K ops l (Ch dst (.build t parts) ty) σ Γ Ms := Be (C5g hu hi he hp hb) hd k_
theorem E4u {t e : TypeId} {s bt b o m : Nat} {zv : Value} {j : Int} (k_ : Ec P f R B n K ops l (Au σ dst (.pointer (some ⟨b, o + j.toNat * s, none⟩))) Γ Ms) (hx : ev σ x = .pointer (some ⟨b, o, none⟩) := by exact A5) (hy : ev σ y = .int .i64 j := by exact A5) (hu : Tab.und P t = some (.array m e) := by rfl) (hi : Tab.inf P e = some (s, bt, zv) := by rfl) (h0 : 0 ≤ j := by omega) (h1 : j < m := by omega) (hd : Af n dst = true := by rfl) : Ew P f R B n K ops l (Ch dst (.indexAddr t x y) ty) σ Γ Ms := Be (D9v hu hi hx hy h0 h1) hd k_
theorem D1g {t t' : TypeId} {a b : Int} (k_ : Ec P f R B n K ops l (Au σ dst (.int .i64 (IntKind.i64.wrap (a + b)))) Γ Ms) (hx : ev σ x = .int .i64 a := by exact A5) (hy : ev σ y = .int .i64 b := by exact A5) (hd : Af n dst = true := by rfl) : Ew P f R B n K ops l (Ch dst (.binOp .add t x y t') ty) σ Γ Ms := Be (D5h hx hy) hd k_
theorem E0e {t t' : TypeId} {a b : Int} (k_ : Ec P f R B n K ops l (Au σ dst (.int .i64 (IntKind.i64.wrap (a - b)))) Γ Ms) (hx : ev σ x = .int .i64 a := by exact A5) (hy : ev σ y = .int .i64 b := by exact A5) (hd : Af n dst = true := by rfl) : Ew P f R B n K ops l (Ch dst (.binOp .sub t x y t') ty) σ Γ Ms := Be (D5b hx hy) hd k_
theorem Mr {t t' : TypeId} {a b : Nat} (k_ : Ec P f R B n K ops l (Au σ dst (.int .u32 ((a &&& b : Nat) : Int))) Γ Ms) (hx : ev σ x = .int .u32 (a : Int) := by exact A5) (hy : ev σ y = .int .u32 (b : Int) := by exact A5) (ha : a < 4294967296 := by first | assumption | omega) (hb : b < 4294967296 := by first | assumption | omega) (hd : Af n dst = true := by rfl) : Ew P f R B n K ops l (Ch dst (.binOp .and t x y t') ty) σ Γ Ms := Be (C1k hx hy ha hb) hd k_
theorem A1e {t t' : TypeId} {a b : Nat} (k_ : NV tn pn P f R B n K ops fin l (Au σ dst (.int .u32 ((a &&& b : Nat) : Int))) Γ Ms) (hx : ev σ x = .int .u32 (a : Int) := by exact A5) (hy : ev σ y = .int .u32 (b : Int) := by exact A5) (ha : a < 4294967296 := by first | assumption | omega) (hb : b < 4294967296 := by first | assumption | omega) (hd : Af n dst = true := by rfl) : L0 tn pn P f R B n K ops fin i l dst (.binOp .and t x y t') ty σ Γ Ms := Dr (C1k hx hy ha hb) hd k_
theorem N7 {t t' : TypeId} {a b : Nat} (k_ : Ec P f R B n K ops l (Au σ dst (.int .u32 ((a ||| b : Nat) : Int))) Γ Ms) (hx : ev σ x = .int .u32 (a : Int) := by exact A5) (hy : ev σ y = .int .u32 (b : Int) := by exact A5) (ha : a < 4294967296 := by first | assumption | omega) (hb : b < 4294967296 := by first | assumption | omega) (hd : Af n dst = true := by rfl) : Ew P f R B n K ops l (Ch dst (.binOp .or t x y t') ty) σ Γ Ms := Be (D9r hx hy ha hb) hd k_
theorem Sq {t t' : TypeId} {a b : Nat} (k_ : Ec P f R B n K ops l (Au σ dst (.int .u32 (Bi a b : Int))) Γ Ms) (hx : ev σ x = .int .u32 (a : Int) := by exact A5) (hy : ev σ y = .int .u32 (b : Int) := by exact A5) (hd : Af n dst = true := by rfl) : Ew P f R B n K ops l (Ch dst (.binOp .andNot t x y t') ty) σ Γ Ms := Be (B7x hx hy) hd k_
theorem B4b {t t' : TypeId} {k2 : IntKind} {a m : Nat} (k_ : Ec P f R B n K ops l (Au σ dst (.int .u32 ((a * 2 ^ (min m 32) % 4294967296 : Nat) : Int))) Γ Ms) (hx : ev σ x = .int .u32 (a : Int) := by exact A5) (hy : ev σ y = .int k2 (m : Int) := by exact A5) (hd : Af n dst = true := by rfl) : Ew P f R B n K ops l (Ch dst (.binOp .shl t x y t') ty) σ Γ Ms := Be (D5d hx hy) hd k_
theorem A2k {t t' : TypeId} {k2 : IntKind} {a m : Nat} (k_ : Ec P f R B n K ops l (Au σ dst (.int .u32 ((a / 2 ^ (min m 32) : Nat) : Int))) Γ Ms) (hx : ev σ x = .int .u32 (a : Int) := by exact A5) (hy : ev σ y = .int k2 (m : Int) := by exact A5) (hd : Af n dst = true := by rfl) : Ew P f R B n K ops l (Ch dst (.binOp .shr t x y t') ty) σ Γ Ms := Be (C1h hx hy) hd k_
theorem A1b {t t' : TypeId} {k2 : IntKind} {a m : Nat} (k_ : NV tn pn P f R B n K ops fin l (Au σ dst (.int .u32 ((a / 2 ^ (min m 32) : Nat) : Int))) Γ Ms) (hx : ev σ x = .int .u32 (a : Int) := by exact A5) (hy : ev σ y = .int k2 (m : Int) := by exact A5) (hd : Af n dst = true := by rfl) : L0 tn pn P f R B n K ops fin i l dst (.binOp .shr t x y t') ty σ Γ Ms := Dr (C1h hx hy) hd k_
theorem E3q {t t' : TypeId} {c c' : Cl} (k_ : NV tn pn P f R B n K ops fin l (Au σ dst (.bool (decide (c = c')))) Γ Ms) (hx : ev σ x = .agg (Aq c).toArray := by exact A5) (hy : ev σ y = .agg (Aq c').toArray := by exact A5) (ht : t = Tab.ceq P := by rfl) (hd : Af n dst = true := by rfl) : L0 tn pn P f R B n K ops fin i l dst (.binOp .eql t x y t') ty σ Γ Ms := Dr (D9x ht hx hy) hd k_
theorem E4n {t t' : TypeId} {c c' : Cl} (k_ : Ec P f R B n K ops l (Au σ dst (.bool (!decide (c = c')))) Γ Ms) (hx : ev σ x = .agg (Aq c).toArray := by exact A5) (hy : ev σ y = .agg (Aq c').toArray := by exact A5) (ht : t = Tab.ceq P := by rfl) (hd : Af n dst = true := by rfl) : Ew P f R B n K ops l (Ch dst (.binOp .neq t x y t') ty) σ Γ Ms := Be (D0e ht hx hy) hd k_
theorem C0h {t t' : TypeId} {c c' : Cl} (k_ : NV tn pn P f R B n K ops fin l (Au σ dst (.bool (!decide (c = c')))) Γ Ms) (hx : ev σ x = .agg (Aq c).toArray := by exact A5) (hy : ev σ y = .agg (Aq c').toArray := by exact A5) (ht : t = Tab.ceq P := by rfl) (hd : Af n dst = true := by rfl) : L0 tn pn P f R B n K ops fin i l dst (.binOp .neq t x y t') ty σ Γ Ms := Dr (D0e ht hx hy) hd k_
theorem E0h {t t' : TypeId} {a b : Nat} (k_ : Ec P f R B n K ops l (Au σ dst (.int .i64 ((a / b : Nat) : Int))) Γ Ms) (hx : ev σ x = .int .i64 (a : Int) := by exact A5) (hy : ev σ y = .int .i64 (b : Int) := by exact A5) (ha : a < 9223372036854775808 := by omega) (hb : 0 < b := by first | omega | exact Nat.pow_pos A2) (hd : Af n dst = true := by rfl) : Ew P f R B n K ops l (Ch dst (.binOp .quo t x y t') ty) σ Γ Ms := Be (D5g hx hy ha hb) hd k_
theorem E0g {t t' : TypeId} {a b : Nat} (k_ : Ec P f R B n K ops l (Au σ dst (.int .i64 ((a % b : Nat) : Int))) Γ Ms) (hx : ev σ x = .int .i64 (a : Int) := by exact A5) (hy : ev σ y = .int .i64 (b : Int) := by exact A5) (hb : 0 < b := by omega) (hd : Af n dst = true := by rfl) : Ew P f R B n K ops l (Ch dst (.binOp .rem t x y t') ty) σ Γ Ms := Be (D5f hx hy hb) hd k_
theorem C2b {t : TypeId} {s : ByteArray} {j : Int} {c : UInt8} (k_ : Ec P f R B n K ops l (Au σ dst (.int .u8 c.toNat)) Γ Ms) (hx : ev σ x = .string s := by exact A5) (hy : ev σ y = .int .i64 j := by exact A5) (hu : Tab.und P t = some .string := by rfl) (h0 : 0 ≤ j := by omega) (hc : s[j.toNat]? = some c := by assumption) (hd : Af n dst = true := by rfl) : Ew P f R B n K ops l (Ch dst (.index t x y) ty) σ Γ Ms := Be (B3p hu hx hy h0 hc) hd k_
theorem E0n {s d : TypeId} {k k' : IntKind} {ds : TypeDesc} {a : Int} (k_ : Ec P f R B n K ops l (Au σ dst (.int k' (k'.wrap a))) Γ Ms) (hx : ev σ x = .int k a := by exact A5) (hs : Tab.und P s = some ds := by rfl) (hd' : Tab.und P d = some (.int k') := by rfl) (hd : Af n dst = true := by rfl) : Ew P f R B n K ops l (Ch dst (.convert s d x) ty) σ Γ Ms := Be (Kg hs hd' hx) hd k_
theorem D5s {t T' : TypeId} {bk k : Nat} {cs : List Value} {d : TypeDesc} (k_ : Ec P f R B n K ops l (Au σ dst v) Γ Ms) (hx : ev σ x = .pointer (some ⟨bk, k, none⟩) := by exact A5) (hF : Ae bk cs T' ∈ Ms := by repeat (first | exact List.mem_cons_self | apply List.mem_cons_of_mem)) (hu : Tab.und P t = some d := by rfl) (hd' : (match d with | .struct _ | .array _ _ => true | _ => false) = false := by rfl) (hk : cs[k]? = some v := by exact A5) (hd : Af n dst = true := by rfl) : Ew P f R B n K ops l (Ch dst (.load t x) ty) σ Γ Ms := Hr (D2a hx hF hu hd' hk) hd k_
theorem E3o {t T' : TypeId} {bk k : Nat} {cs : List Value} {d : TypeDesc} (k_ : NV false pn P f R B n K ops fin l (Au σ dst v) Γ Ms) (hx : ev σ x = .pointer (some ⟨bk, k, none⟩) := by exact A5) (hF : Ae bk cs T' ∈ Ms := by repeat (first | exact List.mem_cons_self | apply List.mem_cons_of_mem)) (hu : Tab.und P t = some d := by rfl) (hd' : (match d with | .struct _ | .array _ _ => true | _ => false) = false := by rfl) (hk : cs[k]? = some v := by exact A5) (hd : Af n dst = true := by rfl) : L0 false pn P f R B n K ops fin i l dst (.load t x) ty σ Γ Ms := Tl (D2a hx hF hu hd' hk) rfl hd k_
theorem Qn {t T' : TypeId} {bk k : Nat} {cs : List Value} {l' : List (Nat × Nat)} {s bt : Nat} {zv : Value} {cs' : List Value} (k_ : Ec P f R B n K ops l (Au σ dst (.agg cs'.toArray)) Γ Ms) (hx : ev σ x = .pointer (some ⟨bk, k, none⟩) := by exact A5) (hF : Ae bk cs T' ∈ Ms := by repeat (first | exact List.mem_cons_self | apply List.mem_cons_of_mem)) (hu : Tab.lay P t = some l' := by rfl) (hi : Tab.inf P t = some (s, bt, zv) := by rfl) (hk : (cs.drop k).take s = cs' := by rfl) (hl : cs'.length = s := by rfl) (hd : Af n dst = true := by rfl) : Ew P f R B n K ops l (Ch dst (.load t x) ty) σ Γ Ms := Hr (D2b hx hF hu hi hk hl) hd k_
theorem D7c {t T' : TypeId} {bk k : Nat} {cs : List Value} {l' : List (Nat × Nat)} {s bt : Nat} {zv : Value} {cs' : List Value} (k_ : NV false pn P f R B n K ops fin l (Au σ dst (.agg cs'.toArray)) Γ Ms) (hx : ev σ x = .pointer (some ⟨bk, k, none⟩) := by exact A5) (hF : Ae bk cs T' ∈ Ms := by repeat (first | exact List.mem_cons_self | apply List.mem_cons_of_mem)) (hu : Tab.lay P t = some l' := by rfl) (hi : Tab.inf P t = some (s, bt, zv) := by rfl) (hk : (cs.drop k).take s = cs' := by rfl) (hl : cs'.length = s := by rfl) (hd : Af n dst = true := by rfl) : L0 false pn P f R B n K ops fin i l dst (.load t x) ty σ Γ Ms := Tl (D2b hx hF hu hi hk hl) rfl hd k_
theorem E4s {t : TypeId} {l' : List (Nat × Nat)} {bt bk o i' : Nat} {a : SH} {zv : Value} {ls : List Cl} (k_ : Ec P f R B n K ops l (Au σ dst (.agg (Aq (ls.getD i' A4)).toArray)) Γ Ms) (hx : ev σ x = .pointer (some ⟨bk, o + i' * 2, none⟩) := by exact A5) (hFa : CL ls a ∈ Γ ∧ a.1 = some ⟨bk, o, none⟩ := by exact ma0_) (hu : Tab.lay P t = some l' := by rfl) (hi : Tab.inf P t = some (2, bt, zv) := by rfl) (hlt : i' < ls.length := by omega) (hd : Af n dst = true := by rfl) : Ew P f R B n K ops l (Ch dst (.load t x) ty) σ Γ Ms := Hr (D1x hx hFa.1 hFa.2 hu hi hlt) hd k_
theorem A5m {t : TypeId} {l' : List (Nat × Nat)} {bt bk o i' : Nat} {a : SH} {zv : Value} {ls : List Cl} (k_ : NV false pn P f R B n K ops fin l (Au σ dst (.agg (Aq (ls.getD i' A4)).toArray)) Γ Ms) (hx : ev σ x = .pointer (some ⟨bk, o + i' * 2, none⟩) := by exact A5) (hFa : CL ls a ∈ Γ ∧ a.1 = some ⟨bk, o, none⟩ := by exact ma0_) (hu : Tab.lay P t = some l' := by rfl) (hi : Tab.inf P t = some (2, bt, zv) := by rfl) (hlt : i' < ls.length := by omega) (hd : Af n dst = true := by rfl) : L0 false pn P f R B n K ops fin i l dst (.load t x) ty σ Γ Ms := Tl (D1x hx hFa.1 hFa.2 hu hi hlt) rfl hd k_
theorem E6w {t : TypeId} {l' : List (Nat × Nat)} {bt bk o i' : Nat} {a : SH} {zv : Value} {ls : List Cl} (k_ : NV tn pn P f R B n K ops fin l (Au σ dst (.agg (Aq (ls.getD i' A4)).toArray)) Γ Ms) (hx : ev σ x = .pointer (some ⟨bk, o + i' * 2, none⟩) := by exact A5) (hFa : CL ls a ∈ Γ ∧ a.1 = some ⟨bk, o, none⟩ := by exact ma0_) (hu : Tab.lay P t = some l' := by rfl) (hi : Tab.inf P t = some (2, bt, zv) := by rfl) (hlt : i' < ls.length := by omega) (hd : Af n dst = true := by rfl) : L0 tn pn P f R B n K ops fin i l dst (.load t x) ty σ Γ Ms := Wy (D1x hx hFa.1 hFa.2 hu hi hlt) rfl hd k_
theorem D0z {t : TypeId} {d : TypeDesc} {bk o i' k : Nat} {a : SH} {ls : List Cl} (k_ : Ec P f R B n K ops l (Au σ dst v) Γ Ms) (hx : ev σ x = .pointer (some ⟨bk, o + i' * 2 + k, none⟩) := by exact A5) (hFa : CL ls a ∈ Γ ∧ a.1 = some ⟨bk, o, none⟩ := by exact ma0_) (hu : Tab.und P t = some d := by rfl) (hd' : (match d with | .struct _ | .array _ _ => true | _ => false) = false := by rfl) (hk : (Aq (ls.getD i' A4))[k]? = some v := by exact A5) (hlt : i' < ls.length := by omega) (hd : Af n dst = true := by rfl) : Ew P f R B n K ops l (Ch dst (.load t x) ty) σ Γ Ms := Hr (E0y hx hFa.1 hFa.2 hu hd' hk hlt) hd k_
theorem E4r {t : TypeId} {l' : List (Nat × Nat)} {bt bk o i' : Nat} {a : SH} {zv : Value} {ts : List T} {VR VK VS : Nat → SH} (k_ : Ec P f R B n K ops l (Au σ dst (.agg (tc (ts.getD i' t0) (VR i') (VK i') (VS i')).toArray)) Γ Ms) (hx : ev σ x = .pointer (some ⟨bk, o + i' * 6, none⟩) := by exact A5) (hFa : TLx ts a VR VK VS ∈ Γ ∧ a.1 = some ⟨bk, o, none⟩ := by exact ma0_) (hu : Tab.lay P t = some l' := by rfl) (hi : Tab.inf P t = some (6, bt, zv) := by rfl) (hlt : i' < ts.length := by omega) (hd : Af n dst = true := by rfl) : Ew P f R B n K ops l (Ch dst (.load t x) ty) σ Γ Ms := Hr (C2k hx hFa.1 hFa.2 hu hi hlt) hd k_
theorem E3n {t : TypeId} {l' : List (Nat × Nat)} {bt bk o i' : Nat} {a : SH} {zv : Value} {ts : List T} {VR VK VS : Nat → SH} (k_ : NV false pn P f R B n K ops fin l (Au σ dst (.agg (tc (ts.getD i' t0) (VR i') (VK i') (VS i')).toArray)) Γ Ms) (hx : ev σ x = .pointer (some ⟨bk, o + i' * 6, none⟩) := by exact A5) (hFa : TLx ts a VR VK VS ∈ Γ ∧ a.1 = some ⟨bk, o, none⟩ := by exact ma0_) (hu : Tab.lay P t = some l' := by rfl) (hi : Tab.inf P t = some (6, bt, zv) := by rfl) (hlt : i' < ts.length := by omega) (hd : Af n dst = true := by rfl) : L0 false pn P f R B n K ops fin i l dst (.load t x) ty σ Γ Ms := Tl (C2k hx hFa.1 hFa.2 hu hi hlt) rfl hd k_
theorem E0i {t : TypeId} {d : TypeDesc} {bk o i' k : Nat} {a : SH} {ts : List T} {VR VK VS : Nat → SH} (k_ : Ec P f R B n K ops l (Au σ dst v) Γ Ms) (hx : ev σ x = .pointer (some ⟨bk, o + i' * 6 + k, none⟩) := by exact A5) (hFa : TLx ts a VR VK VS ∈ Γ ∧ a.1 = some ⟨bk, o, none⟩ := by exact ma0_) (hu : Tab.und P t = some d := by rfl) (hd' : (match d with | .struct _ | .array _ _ => true | _ => false) = false := by rfl) (hk : (tc (ts.getD i' t0) (VR i') (VK i') (VS i'))[k]? = some v := by exact A5) (hlt : i' < ts.length := by omega) (hd : Af n dst = true := by rfl) : Ew P f R B n K ops l (Ch dst (.load t x) ty) σ Γ Ms := Hr (B4u hx hFa.1 hFa.2 hu hd' hk hlt) hd k_
theorem E2u {t : TypeId} {d : TypeDesc} {bk o i' k : Nat} {a : SH} {ts : List T} {VR VK VS : Nat → SH} (k_ : NV tn pn P f R B n K ops fin l (Au σ dst v) Γ Ms) (hx : ev σ x = .pointer (some ⟨bk, o + i' * 6 + k, none⟩) := by exact A5) (hFa : TLx ts a VR VK VS ∈ Γ ∧ a.1 = some ⟨bk, o, none⟩ := by exact ma0_) (hu : Tab.und P t = some d := by rfl) (hd' : (match d with | .struct _ | .array _ _ => true | _ => false) = false := by rfl) (hk : (tc (ts.getD i' t0) (VR i') (VK i') (VS i'))[k]? = some v := by exact A5) (hlt : i' < ts.length := by omega) (hd : Af n dst = true := by rfl) : L0 tn pn P f R B n K ops fin i l dst (.load t x) ty σ Γ Ms := Wy (B4u hx hFa.1 hFa.2 hu hd' hk hlt) rfl hd k_
theorem E4t {t : TypeId} {l' : List (Nat × Nat)} {bt bk o i' : Nat} {a : SH} {zv : Value} {bs : List Br} {VF VK : Nat → SH} (k_ : Ec P f R B n K ops l (Au σ dst (.agg (bc (bs.getD i' Bq) (VF i') (VK i')).toArray)) Γ Ms) (hx : ev σ x = .pointer (some ⟨bk, o + i' * 2, none⟩) := by exact A5) (hFa : BLx bs a VF VK ∈ Γ ∧ a.1 = some ⟨bk, o, none⟩ := by exact ma0_) (hu : Tab.lay P t = some l' := by rfl) (hi : Tab.inf P t = some (2, bt, zv) := by rfl) (hlt : i' < bs.length := by omega) (hd : Af n dst = true := by rfl) : Ew P f R B n K ops l (Ch dst (.load t x) ty) σ Γ Ms := Hr (E5h hx hFa.1 hFa.2 hu hi hlt) hd k_
theorem E0m {t : TypeId} {d : TypeDesc} {bk o i' k : Nat} {a : SH} {bs : List Br} {VF VK : Nat → SH} (k_ : Ec P f R B n K ops l (Au σ dst v) Γ Ms) (hx : ev σ x = .pointer (some ⟨bk, o + i' * 2 + k, none⟩) := by exact A5) (hFa : BLx bs a VF VK ∈ Γ ∧ a.1 = some ⟨bk, o, none⟩ := by exact ma0_) (hu : Tab.und P t = some d := by rfl) (hd' : (match d with | .struct _ | .array _ _ => true | _ => false) = false := by rfl) (hk : (bc (bs.getD i' Bq) (VF i') (VK i'))[k]? = some v := by exact A5) (hlt : i' < bs.length := by omega) (hd : Af n dst = true := by rfl) : Ew P f R B n K ops l (Ch dst (.load t x) ty) σ Γ Ms := Hr (D1y hx hFa.1 hFa.2 hu hd' hk hlt) hd k_
theorem Xx {t : TypeId} {d : TypeDesc} {bk o i' k : Nat} {a : SH} {bs : List Br} {VF VK : Nat → SH} (k_ : NV false pn P f R B n K ops fin l (Au σ dst v) Γ Ms) (hx : ev σ x = .pointer (some ⟨bk, o + i' * 2 + k, none⟩) := by exact A5) (hFa : BLx bs a VF VK ∈ Γ ∧ a.1 = some ⟨bk, o, none⟩ := by exact ma0_) (hu : Tab.und P t = some d := by rfl) (hd' : (match d with | .struct _ | .array _ _ => true | _ => false) = false := by rfl) (hk : (bc (bs.getD i' Bq) (VF i') (VK i'))[k]? = some v := by exact A5) (hlt : i' < bs.length := by omega) (hd : Af n dst = true := by rfl) : L0 false pn P f R B n K ops fin i l dst (.load t x) ty σ Γ Ms := Tl (D1y hx hFa.1 hFa.2 hu hd' hk hlt) rfl hd k_
theorem B3 {t : TypeId} {cs : List Value} (k_ : ∀ b, Ec P f R B n K ops l (Au σ dst ((fun b => .pointer (some ⟨b, 0, none⟩)) b)) Γ (Ae b cs t :: Ms)) (hx : (ev σ x).cells = cs.toArray := by rfl) (hd : Af n dst = true := by rfl) : Ew P f R B n K ops l (Ch dst (.box t x) ty) σ Γ Ms := Qc (E3d hx) hd k_
theorem Bf {t : TypeId} {s bt : Nat} {zv : Value} {cs : List Value} (k_ : ∀ b, Ec P f R B n K ops l (Au σ dst ((fun b => .pointer (some ⟨b, 0, none⟩)) b)) Γ (Ae b cs t :: Ms)) (hi : Tab.inf P t = some (s, bt, zv) := by rfl) (hz : zv.cells = cs.toArray := by rfl) (hd : Af n dst = true := by rfl) : Ew P f R B n K ops l (Ch dst (.alloc t) ty) σ Γ Ms := Qc (B6f hi hz) hd k_
theorem A1c {t : TypeId} {s bt : Nat} {zv : Value} {cs : List Value} (k_ : ∀ b, NV tn pn P f R B n K ops fin l (Au σ dst ((fun b => .pointer (some ⟨b, 0, none⟩)) b)) Γ (Ae b cs t :: Ms)) (hi : Tab.inf P t = some (s, bt, zv) := by rfl) (hz : zv.cells = cs.toArray := by rfl) (hd : Af n dst = true := by rfl) : L0 tn pn P f R B n K ops fin i l dst (.alloc t) ty σ Γ Ms := Wz (B6f hi hz) rfl hd k_
theorem E4p {t e : TypeId} {sz bt len : Nat} {zv : Value} {parts : Array (Nat × Operand)} {pv : List (Nat × Value)} {cs : List Value} (k_ : ∀ b, Ec P f R B n K ops l (Au σ dst ((fun b => .slice (some ⟨b, 0, none⟩) len len) b)) Γ (Ae b cs e :: Ms)) (hu : Tab.und P t = some (.slice e) := by rfl) (hi : Tab.inf P e = some (sz, bt, zv) := by rfl) (hle : len * sz ≤ 16777216 := by decide) (hp : parts.toList.map (fun (i, x) => (i, ev σ x)) = pv := by first | exact pv0  | exact pv1 (by first | ((conv => lhs; whnf); done) | rfl) | exact pv2 (by first | ((conv => lhs; whnf); done) | rfl) (by first | ((conv => lhs; whnf); done) | rfl) | exact pv3 (by first | ((conv => lhs; whnf); done) | rfl) (by first | ((conv => lhs; whnf); done) | rfl) (by first | ((conv => lhs; whnf); done) | rfl) | exact pv4 (by first | ((conv => lhs; whnf); done) | rfl) (by first | ((conv => lhs; whnf); done) | rfl) (by first | ((conv => lhs; whnf); done) | rfl) (by first | ((conv => lhs; whnf); done) | rfl) | exact pv5 (by first | ((conv => lhs; whnf); done) | rfl) (by first | ((conv => lhs; whnf); done) | rfl) (by first | ((conv => lhs; whnf); done) | rfl) (by first | ((conv => lhs; whnf); done) | rfl) (by first | ((conv => lhs; whnf); done) | rfl) | exact pv6 (by first | ((conv => lhs; whnf); done) | rfl) (by first | ((conv => lhs; whnf); done) | rfl) (by first | ((conv => lhs; whnf); done) | rfl) (by first | ((conv => lhs; whnf); done) | rfl) (by first | ((conv => lhs; whnf); done) | rfl) (by first | ((conv => lhs; whnf); done) | rfl) | rfl) (hf : Instr.fill (fun i => some (i * sz, sz)) ((List.range (len * sz)).map (zv.cells[· % zv.cells.size]!)).toArray pv = some cs.toArray := by rfl) (hd : Af n dst = true := by rfl) : Ew P f R B n K ops l (Ch dst (.buildSlice t len parts) ty) σ Γ Ms := Qc (B1k hu hi hle hp hf) hd k_
theorem Dd {t e : TypeId} {sz bt : Nat} {zv : Value} {cs : List Value} (k_ : ∀ b, Ec P f R B n K ops l (Au σ dst ((fun b => .slice (some ⟨b, 0, none⟩) 1 1) b)) Γ (Ae b cs e :: Ms)) (hu : Tab.und P t = some (.slice e) := by rfl) (hi : Tab.inf P e = some (sz, bt, zv) := by rfl) (hle : sz ≤ 16777216 := by decide) (hx : (ev σ x).cells = cs.toArray := by rfl) (hl : cs.length = sz := by rfl) (hd : Af n dst = true := by rfl) : Ew P f R B n K ops l (Ch dst (.buildSlice t 1 #[(0, x)]) ty) σ Γ Ms := Qc (B1j hu hi hle hx hl) hd k_
theorem Nq {t e : TypeId} {sz bt : Nat} {zv : Value} {cs : List Value} (k_ : ∀ b, NV tn pn P f R B n K ops fin l (Au σ dst ((fun b => .slice (some ⟨b, 0, none⟩) 1 1) b)) Γ (Ae b cs e :: Ms)) (hu : Tab.und P t = some (.slice e) := by rfl) (hi : Tab.inf P e = some (sz, bt, zv) := by rfl) (hle : sz ≤ 16777216 := by decide) (hx : (ev σ x).cells = cs.toArray := by rfl) (hl : cs.length = sz := by rfl) (hd : Af n dst = true := by rfl) : L0 tn pn P f R B n K ops fin i l dst (.buildSlice t 1 #[(0, x)]) ty σ Γ Ms := Wz (B1j hu hi hle hx hl) rfl hd k_
theorem D8p {t e : TypeId} {sz bt : Nat} {zv : Value} {cs : List Value} (F : Nat → List Fact) (hF : ∀ b M w, St B Γ (Ae b cs e :: M) w → St B (F b ++ Γ) M w) (k_ : ∀ b, NV tn pn P f R B n K ops fin l (Au σ dst ((fun b => .slice (some ⟨b, 0, none⟩) 1 1) b)) (F b ++ Γ) Ms) (hu : Tab.und P t = some (.slice e) := by rfl) (hi : Tab.inf P e = some (sz, bt, zv) := by rfl) (hle : sz ≤ 16777216 := by decide) (hx : (ev σ x).cells = cs.toArray := by rfl) (hl : cs.length = sz := by rfl) (hd : Af n dst = true := by rfl) (hz : Nat.beq pn 1000001 = true := by rfl) : L0 tn pn P f R B n K ops fin i l dst (.buildSlice t 1 #[(0, x)]) ty σ Γ Ms := C5s F (B1j hu hi hle hx hl) rfl rfl hF hd hz k_
theorem D0y {t e : TypeId} {sz bt : Nat} {zv : Value} {cs cs2 : List Value} (k_ : ∀ b, Ec P f R B n K ops l (Au σ dst ((fun b => .slice (some ⟨b, 0, none⟩) 2 2) b)) Γ (Ae b (cs ++ cs2) e :: Ms)) (hu : Tab.und P t = some (.slice e) := by rfl) (hi : Tab.inf P e = some (sz, bt, zv) := by rfl) (hle : 2 * sz ≤ 16777216 := by decide) (hx : (ev σ x).cells = cs.toArray := by rfl) (hy : (ev σ y).cells = cs2.toArray := by rfl) (hl : cs.length = sz := by rfl) (hl2 : cs2.length = sz := by rfl) (hd : Af n dst = true := by rfl) : Ew P f R B n K ops l (Ch dst (.buildSlice t 2 #[(0, x), (1, y)]) ty) σ Γ Ms := Qc (C3e hu hi hle hx hy hl hl2) hd k_
theorem D8q {t e : TypeId} {sz bt : Nat} {zv : Value} {cs cs2 : List Value} (k_ : ∀ b, NV tn pn P f R B n K ops fin l (Au σ dst ((fun b => .slice (some ⟨b, 0, none⟩) 2 2) b)) Γ (Ae b (cs ++ cs2) e :: Ms)) (hu : Tab.und P t = some (.slice e) := by rfl) (hi : Tab.inf P e = some (sz, bt, zv) := by rfl) (hle : 2 * sz ≤ 16777216 := by decide) (hx : (ev σ x).cells = cs.toArray := by rfl) (hy : (ev σ y).cells = cs2.toArray := by rfl) (hl : cs.length = sz := by rfl) (hl2 : cs2.length = sz := by rfl) (hd : Af n dst = true := by rfl) : L0 tn pn P f R B n K ops fin i l dst (.buildSlice t 2 #[(0, x), (1, y)]) ty σ Γ Ms := Wz (C3e hu hi hle hx hy hl hl2) rfl hd k_
theorem A2l {t e : TypeId} {sz bt : Nat} {zv : Value} (k_ : ∀ b, Ec P f R B n K ops l (Au σ dst ((fun b => .slice (some ⟨b, 0, none⟩) 0 0) b)) Γ (Ae b [] e :: Ms)) (hu : Tab.und P t = some (.slice e) := by rfl) (hi : Tab.inf P e = some (sz, bt, zv) := by rfl) (hd : Af n dst = true := by rfl) : Ew P f R B n K ops l (Ch dst (.buildSlice t 0 #[]) ty) σ Γ Ms := Qc (C3f hu hi) hd k_
theorem D8r {t e : TypeId} {sz bt : Nat} {zv : Value} (k_ : ∀ b, NV tn pn P f R B n K ops fin l (Au σ dst ((fun b => .slice (some ⟨b, 0, none⟩) 0 0) b)) Γ (Ae b [] e :: Ms)) (hu : Tab.und P t = some (.slice e) := by rfl) (hi : Tab.inf P e = some (sz, bt, zv) := by rfl) (hd : Af n dst = true := by rfl) : L0 tn pn P f R B n K ops fin i l dst (.buildSlice t 0 #[]) ty σ Γ Ms := Wz (C3f hu hi) rfl hd k_
theorem E7z {t T' : TypeId} {b s bt : Nat} {zv : Value} {cs cs' : List Value} (k_ : Ec P f R B n K ops l σ Γ (Ae b cs' T' :: Ms2)) (hx : ev σ x = .pointer (some ⟨b, 0, none⟩) := by exact A5) (hm : Ms.Perm (Ae b cs T' :: Ms2) := by first | exact Wr | exact Ah | exact C3 | exact Eb | exact Ea | exact Dw | exact Cr) (hy : (ev σ y).cells = cs'.toArray := by rfl) (hi : Tab.inf P t = some (s, bt, zv) := by rfl) (hl : cs'.length = s := by rfl) (hl2 : cs.length = s := by rfl) (h1 : K1 cs' = true := by rfl) : Ew P f R B n K ops l (Ch none (.store t x y) ty) σ Γ Ms := Wh (C8r hx hy hm hi hl hl2 h1) k_
theorem E4j {t T' : TypeId} {b k bt : Nat} {zv : Value} {cs cs' : List Value} (k_ : Ec P f R B n K ops l σ Γ (Ae b cs' T' :: Ms2)) (hx : ev σ x = .pointer (some ⟨b, k, none⟩) := by exact A5) (hm : Ms.Perm (Ae b cs T' :: Ms2) := by first | exact Wr | exact Ah | exact C3 | exact Eb | exact Ea | exact Dw | exact Cr) (hy : ev σ y = v := by exact A5) (hi : Tab.inf P t = some (1, bt, zv) := by rfl) (h1 : v.oneCell' = true := by rfl) (hk : k < cs.length := by exact Nat.le_of_ble_eq_true rfl) (hc : cs.set k v = cs' := by rfl) : Ew P f R B n K ops l (Ch none (.store t x y) ty) σ Γ Ms := by
 subst hc
 exact Wh (D4o hx hy hm hi h1 hk) k_
theorem Dj {t e T' : TypeId} {ts : Array TypeId} {sz bt n' m c b : Nat} {zv : Value} {a : SH} {xs cs : List Value} (k_ : ∀ a' : SH, Ec P f R B n K ops l (Au σ dst (sl a' (n' + m))) Γ (Av sz e a' (n' + m) (xs ++ cs) :: Ae b cs T' :: Ms2)) (hm : Ms.Perm (Av sz e a n' xs :: Ae b cs T' :: Ms2) := by first | exact Wr | exact Ah | exact C3 | exact Eb | exact Ea | exact Dw | exact Cr) (hx : ev σ x = sl a n' := by rfl) (hy : ev σ y = .slice (some ⟨b, 0, none⟩) m c := by exact A5) (hts : ts = #[t, t] := by rfl) (hu : Tab.und P t = some (.slice e) := by rfl) (hi : Tab.inf P e = some (sz, bt, zv) := by rfl) (hzs : zv.cells.size = sz := by rfl) (hsz : 0 < sz := by exact Nat.le_of_ble_eq_true rfl) (hl : cs.length = m * sz := by rfl) (h1 : K1 cs = true := by rfl) (hb : (n' + m) * bt ≤ 140737488355328 := by first | omega | (unfold reach at *; omega) | (unfold reach Gd at *; omega)) (hnm : n' + m ≤ 9223372036854775807 := by first | omega | (unfold reach at *; omega) | (unfold reach Gd at *; omega)) (hd : Af n dst = true := by rfl) : Ew P f R B n K ops l (Ch dst (.call { callee := .builtin .append, args := #[x, y], argTypes := ts }) ty) σ Γ Ms := A8x (C0k hm hx hy hts hu hi hzs hsz hl h1 hb hnm) hd k_
theorem Ka {t e : TypeId} {ts : Array TypeId} {bt n' : Nat} {zv : Value} {a b : SH} {xs : List Value} {ls : List Cl} (k_ : ∀ a' : SH, Ec P f R B n K ops l (Au σ dst (sl a' (n' + ls.length))) Γ (Av 2 e a' (n' + ls.length) (xs ++ Ab ls) :: Ms2)) (hF : CL ls b ∈ Γ) (hm : Ms.Perm (Av 2 e a n' xs :: Ms2) := by first | exact Wr | exact Ah | exact C3 | exact Eb | exact Ea | exact Dw | exact Cr) (hx : ev σ x = sl a n' := by rfl) (hy : ev σ y = sl b ls.length := by rfl) (hts : ts = #[t, t] := by rfl) (hu : Tab.und P t = some (.slice e) := by rfl) (hi : Tab.inf P e = some (2, bt, zv) := by rfl) (hzs : zv.cells.size = 2 := by rfl) (hb : (n' + ls.length) * bt ≤ 140737488355328 := by first | omega | (unfold reach at *; omega) | (unfold reach Gd at *; omega)) (hnm : n' + ls.length ≤ 9223372036854775807 := by first | omega | (unfold reach at *; omega) | (unfold reach Gd at *; omega)) (hd : Af n dst = true := by rfl) : Ew P f R B n K ops l (Ch dst (.call { callee := .builtin .append, args := #[x, y], argTypes := ts }) ty) σ Γ Ms := A8x (B2e hm hF hx hy hts hu hi hzs hb hnm) hd k_
theorem C5p [TyF P] [TabM P] {t : TypeId} (k_ : ∀ b, Ec P f R B n K ops l (Au σ dst (.map (some b))) Γ (A2u b [] :: Ms)) (hd : Af n dst = true := by rfl) : Ew P f R B n K ops l (Ch dst (.makeMap t none) ty) σ Γ Ms := A8x B6s hd k_
theorem C5q [TyF P] [TabM P] {t e : TypeId} {s bt b : Nat} {c : Cl} {keys : List Cl} (k_ : Ec P f R B n K ops l (Au σ dst (.bool (decide (c ∈ keys)))) Γ Ms) (hx : ev σ x = .map (some b) := by exact A5) (hm : A2u b keys ∈ Ms := by repeat (first | exact List.mem_cons_self | apply List.mem_cons_of_mem)) (hy : ev σ y = En c := by rfl) (hc : u32 c := by assumption) (hu : Tab.und P t = some (.map (TyF.tC P) e) := by rfl) (hi : Tab.inf P e = some (s, bt, .bool false) := by rfl) (hd : Af n dst = true := by rfl) : Ew P f R B n K ops l (Ch dst (.lookup t x y false) ty) σ Γ Ms := Hr (C6h hx hm hc hy hu hi) hd k_
theorem D0w [TyF P] [TabM P] {t e : TypeId} {b : Nat} {c : Cl} {keys : List Cl} (k_ : Ec P f R B n K ops l σ Γ (A2u b (keys ++ [c]) :: Ms2)) (hx : ev σ x = .map (some b) := by exact A5) (hm : Ms.Perm (A2u b keys :: Ms2) := by first | exact Wr | exact Ah | exact C3 | exact Eb | exact Ea | exact Dw | exact Cr) (hy : ev σ y = En c := by rfl) (hc : u32 c := by assumption) (hn : c ∉ keys := by assumption) (hz : ev σ z = .bool true := by rfl) (hu : Tab.und P t = some (.map (TyF.tC P) e) := by rfl) : Ew P f R B n K ops l (Ch none (.mapUpdate t x y z) ty) σ Γ Ms := Wh (A9g hx hm hc hn hy hz hu) k_
theorem B0w {c : FuncId} {args : Array Value} {as : Array Operand} {ts : Array TypeId} {g : Operand} (hg : ev σ g = .func (.func c) #[] #[]) (ha : as.toList.map (ev σ) = args.toList) (hc : ∀ (args : Array Value) (w : World), (callFunc c args).run P w = .ok (.enter c args) w) : T8 P σ (.call { callee := .value g, args := as, argTypes := ts }) ty c args := fun w => by
 have ha : as.map (ev σ) = args := Array.ext' (by simpa using ha)
 subst ha
 simp [Ch, execOp, resolve, hg, Deferred.ofValue, invoke, hc]
theorem B8z {c : FuncId} {args cap : List Value} {as : Array Operand} {ts : Array TypeId} {g : Operand} (hg : ev σ g = .func (.func c) #[] cap.toArray) (ha : as.toList.map (ev σ) = args) (hc : ∀ (args : Array Value) (w : World), (callFunc c args).run P w = .ok (.enter c args) w) : T8 P σ (.call { callee := .value g, args := as, argTypes := ts }) ty c (args ++ cap).toArray := fun w => by
 have ha : as.map (ev σ) = args.toArray := Array.ext' (by simpa using ha)
 simp [ha, Ch, execOp, resolve, hg, Deferred.ofValue, invoke, hc]
theorem A1 {c : FuncId} {args : Array Value} {as : Array Operand} {ts : Array TypeId} {g : Operand} {pre : List Fact} {Ms0 : List Bj} {X : Type} {val : X → Value} {N : X → List Fact} {Ms1 : X → List Bj}
  (hc : ∀ (args : Array Value) (w : World), (callFunc c args).run P w = .ok (.enter c args) w) (hsp : Spec P c args pre Ms0 val N Ms1) (kk : ∀ x, Ec P f R B n K ops l (Au σ dst (val x)) (N x ++ Γ) (Ms1 x ++ Ms2))
  (hg : ev σ g = .func (.func c) #[] #[] := by rfl) (ha : as.toList.map (ev σ) = args.toList := by rfl) (hpre : ∀ F, F ∈ pre → F ∈ Γ := by first | (simp; done) | (simp +contextual; done)) (hm : Ms.Perm (Ms0 ++ Ms2) := by first | exact List.Perm.refl _ | exact C9z | exact C9y | exact C9x | exact C9w | exact Ah | exact C3 | exact Eb | exact Ea | exact C9v) (hd : Af n dst = true := by rfl) : Ew P f R B n K ops l (Ch dst (.call { callee := .value g, args := as, argTypes := ts }) ty) σ Γ Ms :=
 C0o (B0w hg ha hc) hsp hpre hm hd kk
theorem Fo {c : FuncId} {args cap al : List Value} {as : Array Operand} {ts : Array TypeId} {g : Operand} {pre : List Fact} {Ms0 : List Bj} {X : Type} {val : X → Value} {N : X → List Fact} {Ms1 : X → List Bj}
  (hc : ∀ (args : Array Value) (w : World), (callFunc c args).run P w = .ok (.enter c args) w) (hsp : Spec P c al.toArray pre Ms0 val N Ms1) (kk : ∀ x, Ec P f R B n K ops l (Au σ dst (val x)) (N x ++ Γ) (Ms1 x ++ Ms2))
  (hg : ev σ g = .func (.func c) #[] cap.toArray := by rfl) (ha : as.toList.map (ev σ) = args := by rfl) (hal : args ++ cap = al := by rfl) (hpre : ∀ F, F ∈ pre → F ∈ Γ := by first | (simp; done) | (simp +contextual; done)) (hm : Ms.Perm (Ms0 ++ Ms2) := by first | exact List.Perm.refl _ | exact C9z | exact C9y | exact C9x | exact C9w | exact Ah | exact C3 | exact Eb | exact Ea | exact C9v) (hd : Af n dst = true := by rfl) : Ew P f R B n K ops l (Ch dst (.call { callee := .value g, args := as, argTypes := ts }) ty) σ Γ Ms :=
 C0o (B8z hg ha hc) (hal ▸ hsp) hpre hm hd kk
theorem Bk {c : FuncId} {args : Array Value} {as : Array Operand} {ts : Array TypeId} {g : Operand} {pre : List Fact} {X : Type} {val : X → Value} {N : X → List Fact} {Ms1 : X → List Bj}
  (hc : ∀ (args : Array Value) (w : World), (callFunc c args).run P w = .ok (.enter c args) w) (hsp : Spec P c args pre [] val N Ms1) (kk : ∀ x, NV tn pn P f R B n K ops fin l (Au σ dst (val x)) (N x ++ Γ) (Ms1 x ++ Ms))
  (hg : ev σ g = .func (.func c) #[] #[] := by rfl) (ha : as.toList.map (ev σ) = args.toList := by rfl) (hpre : ∀ F, F ∈ pre → F ∈ Γ := by first | (simp; done) | (simp +contextual; done)) (hd : Af n dst = true := by rfl) : L0 tn pn P f R B n K ops fin i l dst (.call { callee := .value g, args := as, argTypes := ts }) ty σ Γ Ms :=
 C2d (B0w hg ha hc) hsp hpre rfl rfl hd kk
theorem D7q {c : FuncId} {args : Array Value} {as : Array Operand} {ts : Array TypeId} {g : Operand} {pre : List Fact} {chain : List PanicEntry}
  (hc : ∀ (args : Array Value) (w : World), (callFunc c args).run P w = .ok (.enter c args) w) (hsp : T7 P c args pre chain) (hR : ∀ w, St B [] [] w → R (.panicked chain) w)
  (hg : ev σ g = .func (.func c) #[] #[] := by rfl) (ha : as.toList.map (ev σ) = args.toList := by rfl) (hpre : ∀ F, F ∈ pre → F ∈ Γ := by first | (simp; done) | (simp +contextual; done)) (hD : n.defs = [] := by rfl) (hK : okK n.kind := by first | exact .inl rfl | exact .inr rfl) : Ew P f R B n K ops l (Ch dst (.call { callee := .value g, args := as, argTypes := ts }) ty) σ Γ Ms :=
 D9a (B0w hg ha hc) hsp hpre hD hK hR
theorem D1l {c : FuncId} {args : Array Value} {as : Array Operand} {ts : Array TypeId} {g : Operand} {pre : List Fact} {chain : List PanicEntry} (ho : ops[i]? = some ⟨dst, .call { callee := .value g, args := as, argTypes := ts }, ty, pos, after, none⟩)
  (hc : ∀ (args : Array Value) (w : World), (callFunc c args).run P w = .ok (.enter c args) w) (hsp : T7 P c args pre chain) (hR : ∀ w, St B [] [] w → R (.panicked chain) w)
  (hg : ev σ g = .func (.func c) #[] #[] := by rfl) (ha : as.toList.map (ev σ) = args.toList := by rfl) (hpre : ∀ F, F ∈ pre → F ∈ Γ := by first | (simp; done) | (simp +contextual; done)) (hq : Nat.beq pn i = true := by rfl) (hD : n.defs = [] := by rfl) (hK : okK n.kind := by first | exact .inl rfl | exact .inr rfl) : NV tn pn P f R B n K ops fin (i :: l) σ Γ Ms :=
 E0o ho hq rfl rfl rfl (B0w hg ha hc) hsp hpre hD hK hR
theorem q0 (ho : ops[i]? = some ⟨dst, op, ty, pos, after, none⟩) (h : Ew P f R B n K ops l (Ch dst op ty) σ Γ Ms) : Ec P f R B n K ops (i :: l) σ Γ Ms := E4c ho h
theorem qT {g d : Nat} {want : Bool} {og : Oper} (ho : ops[i]? = some ⟨dst, op, ty, pos, after, some (g, want)⟩) (hog : ops[g]? = some og) (hgd : og.dst = some d) (h : Ew P f R B n K ops l (Ch dst op ty) σ Γ Ms) (ht : σ d = .bool want := by rfl) : Ec P f R B n K ops (i :: l) σ Γ Ms := D9k ho hog hgd ht h
theorem qF {g d : Nat} {want t : Bool} {og : Oper} (ho : ops[i]? = some ⟨dst, op, ty, pos, after, some (g, want)⟩) (hog : ops[g]? = some og) (hgd : og.dst = some d) (h : Ec P f R B n K ops l (Au σ dst undef) Γ Ms) (ht : σ d = .bool t := by conv => lhs; whnf) (hne : (t == want) = false := by rfl) (hd : Af n dst = true := by rfl) : Ec P f R B n K ops (i :: l) σ Γ Ms := D9l ho hog hgd ht hne hd h
theorem qU {g d : Nat} {want : Bool} {og : Oper} (ho : ops[i]? = some ⟨dst, op, ty, pos, after, some (g, want)⟩) (hog : ops[g]? = some og) (hgd : og.dst = some d) (h : Ec P f R B n K ops l (Au σ dst undef) Γ Ms) (ht : σ d = undef := by rfl) (hd : Af n dst = true := by rfl) : Ec P f R B n K ops (i :: l) σ Γ Ms := D9j ho hog hgd ht hd h
theorem nU {g d : Nat} {want : Bool} {og : Oper} (ho : ops[i]? = some ⟨dst, op, ty, pos, after, some (g, want)⟩) (hog : ops[g]? = some og) (hgd : og.dst = some d) (h : NV tn pn P f R B n K ops fin l (Au σ dst undef) Γ Ms) (ht : σ d = undef := by rfl) (hd : Af n dst = true := by rfl) (hn : Nat.beq pn i = false := by rfl) : NV tn pn P f R B n K ops fin (i :: l) σ Γ Ms := E0p ho hog hgd ht hd h hn
theorem qI {g d : Nat} {want t : Bool} {og : Oper} (ho : ops[i]? = some ⟨dst, op, ty, pos, after, some (g, want)⟩) (hog : ops[g]? = some og) (hgd : og.dst = some d) (ht : σ d = .bool t) (hon : t = want → Ew P f R B n K ops l (Ch dst op ty) (Tx σ d (.bool want)) Γ Ms) (hoff : t = !want → Ec P f R B n K ops l (Au (Tx σ d (.bool !want)) dst undef) Γ Ms) (hd : Af n dst = true := by rfl) : Ec P f R B n K ops (i :: l) σ Γ Ms := E4b ho hog hgd ht hd hon hoff
theorem n0 (ho : ops[i]? = some ⟨dst, op, ty, pos, after, none⟩) (h : L0 tn pn P f R B n K ops fin i l dst op ty σ Γ Ms) (hn : Nat.beq pn i = false := by rfl) : NV tn pn P f R B n K ops fin (i :: l) σ Γ Ms := E4x ho h hn
theorem nT {g d : Nat} {want : Bool} {og : Oper} (ho : ops[i]? = some ⟨dst, op, ty, pos, after, some (g, want)⟩) (hog : ops[g]? = some og) (hgd : og.dst = some d) (h : L0 tn pn P f R B n K ops fin i l dst op ty σ Γ Ms) (ht : σ d = .bool want := by rfl) (hn : Nat.beq pn i = false := by rfl) : NV tn pn P f R B n K ops fin (i :: l) σ Γ Ms := E0q ho hog hgd ht h hn
theorem nF {g d : Nat} {want t : Bool} {og : Oper} (ho : ops[i]? = some ⟨dst, op, ty, pos, after, some (g, want)⟩) (hog : ops[g]? = some og) (hgd : og.dst = some d) (h : NV tn pn P f R B n K ops fin l (Au σ dst undef) Γ Ms) (ht : σ d = .bool t := by conv => lhs; whnf) (hne : (t == want) = false := by rfl) (hd : Af n dst = true := by rfl) (hn : Nat.beq pn i = false := by rfl) : NV tn pn P f R B n K ops fin (i :: l) σ Γ Ms := E0r ho hog hgd ht hne hd h hn
theorem nI {g d : Nat} {want t : Bool} {og : Oper} (ho : ops[i]? = some ⟨dst, op, ty, pos, after, some (g, want)⟩) (hog : ops[g]? = some og) (hgd : og.dst = some d) (ht : σ d = .bool t) (hon : t = want → L0 tn pn P f R B n K ops fin i l dst op ty (Tx σ d (.bool want)) Γ Ms) (hoff : t = !want → NV tn pn P f R B n K ops fin l (Au (Tx σ d (.bool !want)) dst undef) Γ Ms) (hd : Af n dst = true := by rfl) (hn : Nat.beq pn i = false := by rfl) : NV tn pn P f R B n K ops fin (i :: l) σ Γ Ms := E4w ho hog hgd ht hd hon hoff hn
end
end Go.Hy
namespace Go.Hy
theorem Ir {a b c d e f g m : Bj} {L : List Bj} : (a :: b :: c :: d :: e :: f :: g :: m :: L).Perm (m :: a :: b :: c :: d :: e :: f :: g :: L) := (Cr.cons a).trans Ah
theorem I2 {a b c d e f g h m : Bj} {L : List Bj} : (a :: b :: c :: d :: e :: f :: g :: h :: m :: L).Perm (m :: a :: b :: c :: d :: e :: f :: g :: h :: L) := (Ir.cons a).trans Ah
theorem Rv {a b c d e f g h i m : Bj} {L : List Bj} : (a :: b :: c :: d :: e :: f :: g :: h :: i :: m :: L).Perm (m :: a :: b :: c :: d :: e :: f :: g :: h :: i :: L) := (I2.cons a).trans Ah
theorem Lh {a b c d e f g h i j m : Bj} {L : List Bj} : (a :: b :: c :: d :: e :: f :: g :: h :: i :: j :: m :: L).Perm (m :: a :: b :: c :: d :: e :: f :: g :: h :: i :: j :: L) := (Rv.cons a).trans Ah
theorem Is {a b c d e f g h i j k m : Bj} {L : List Bj} : (a :: b :: c :: d :: e :: f :: g :: h :: i :: j :: k :: m :: L).Perm (m :: a :: b :: c :: d :: e :: f :: g :: h :: i :: j :: k :: L) := (Lh.cons a).trans Ah
def Lk (x : Int) : List Value := [.int .i64 x]
abbrev Dz (l : List Int) : List Value := l.flatMap Lk
theorem Na (x : Int) : (Lk x).length = 1 := rfl
def E1e (ok : Nat → Prop) (l : List Int) (a : SH) (w : World) : Prop := rowAt ok 1 8 l.length a (fun i => Lk (l.getD i 0)) w ∧ ∀ x, x ∈ l → Ak x
def IL (l : List Int) (a : SH) : Fact := ⟨fun ok w => E1e ok l a w, fun _ _ _ hs h => ⟨h.1.mono hs, h.2⟩, fun _ _ _ h hs => ⟨h.1.loc hs, h.2⟩⟩
section
variable {B : Cu} {Γ : List Fact} {Ms : List Bj} {w : World}
theorem St.Mp {e : TypeId} {a : SH} {n : Nat} {xs : List Value} {l : List Int} (hs : St B Γ (Av 1 e a n xs :: Ms) w) {hBp : Prop} (hB : hBp) (hx : xs = Dz l) (hn : n = l.length) (hb : n * 8 ≤ reach) (hu : ∀ c, c ∈ l → Ak c) : St B (IL l a :: Γ) Ms w := by
 subst hx
 subst hn
 refine hs.Tc hB (fun ok hok hh => ⟨?_, hu⟩)
 exact Qi (F := Lk) Na 0 (hh : World.ownsRow _ _ _ _ _ _ _) rfl hb hok
theorem St.P0 {e : TypeId} {a : SH} {n : Nat} {l : List Cl} {c : Cl} (hs : St B Γ (Av 2 e a n (Ab l ++ Aq c) :: Ms) w) : St B Γ (Av 2 e a n (Ab (l ++ [c])) :: Ms) w := by
 have h : Ab (l ++ [c]) = Ab l ++ Aq c := by simp [Ab]
 rw [h]; exact hs
theorem St.B2g {e : TypeId} {a : SH} {n : Nat} {l : List Int} {c : Int} (hs : St B Γ (Av 1 e a n (Dz l ++ [.int .i64 c]) :: Ms) w) : St B Γ (Av 1 e a n (Dz (l ++ [c])) :: Ms) w := by
 have h : Dz (l ++ [c]) = Dz l ++ [.int .i64 c] := by simp [Dz, Lk]
 rw [h]; exact hs
theorem St.Ud {e : TypeId} {a : SH} {n : Nat} {l : List TP} {t : T} {vr vk vs : SH} (hs : St B Γ (Av 6 e a n (C8 l ++ tc t vr vk vs) :: Ms) w) : St B Γ (Av 6 e a n (C8 (l ++ [(t, vr, vk, vs)])) :: Ms) w := by
 have h : C8 (l ++ [(t, vr, vk, vs)]) = C8 l ++ tc t vr vk vs := by simp [C8, La]
 rw [h]; exact hs
theorem St.B2h {e : TypeId} {a : SH} {n : Nat} {l : List BP} {b : Br} {vf vk : SH} (hs : St B Γ (Av 2 e a n (Hj l ++ bc b vf vk) :: Ms) w) : St B Γ (Av 2 e a n (Hj (l ++ [(b, vf, vk)])) :: Ms) w := by
 have h : Hj (l ++ [(b, vf, vk)]) = Hj l ++ bc b vf vk := by simp [Hj, Mi]
 rw [h]; exact hs
theorem St.Gu {e : TypeId} {a : SH} {n : Nat} {l m : List Cl} (hs : St B Γ (Av 2 e a n (Ab l ++ Ab m) :: Ms) w) : St B Γ (Av 2 e a n (Ab (l ++ m)) :: Ms) w := by
 have h : Ab (l ++ m) = Ab l ++ Ab m := by simp [Ab]
 rw [h]; exact hs
theorem St.E0b {l : List Int} {a : SH} (hs : St B Γ Ms w) (hF : IL l a ∈ Γ) : l.length * 8 ≤ reach ∧ (0 < l.length → ∃ b o, a.1 = some ⟨b, o, Option.none⟩) ∧ ∀ c, c ∈ l → Ak c := by
 obtain ⟨h2, h4⟩ := hs.facts _ hF
 exact ⟨h2.2.1, fun hn => by obtain ⟨b, o, h3, _⟩ := h2.2.2 hn; exact ⟨b, o, h3⟩, h4⟩
end
section
variable {P : Program} {f : FuncId} {R : Ending → World → Prop} {B : Cu} {n : Fz} {todo : List Item} {σ : Nat → Value} {Γ : List Fact} {Ms : List Bj}
theorem Ku {l : List Int} {a : SH} (k : l.length * 8 ≤ reach → (0 < l.length → ∃ b o, a.1 = some ⟨b, o, none⟩) → (∀ c, c ∈ l → Ak c) → Fs P f R B n todo σ Γ Ms) (hF : IL l a ∈ Γ := by repeat (first | exact List.mem_cons_self | apply List.mem_cons_of_mem)) : Fs P f R B n todo σ Γ Ms :=
 Bz (p := l.length * 8 ≤ reach ∧ (0 < l.length → ∃ b o, a.1 = some ⟨b, o, none⟩) ∧ ∀ c, c ∈ l → Ak c) (fun w hs => hs.E0b hF) (fun h => k h.1 h.2.1 h.2.2)
theorem C2r {K : List Item} {it : Item} (p : Prop) (live : List (Nat × Value)) (h1 : (p → ∀ σ', Qu σ' live → Fs P f R B n K σ' Γ Ms) → Fs P f R B n (it :: K) σ Γ Ms) (h2 : p → ∀ base, Fs P f R B n K (stL base live) Γ Ms) : Fs P f R B n (it :: K) σ Γ Ms :=
 h1 (fun hp σ' hl => go_slots live hl (h2 hp))
theorem Ar {K : List Item} {c : Code} {X : Type} (Inv : X → Prop) (live : X → List (Nat × Value)) (E : X → List Fact → List Fact) (Mf : X → List Bj) (μ : X → Nat) (x0 : X) (h0 : Inv x0)
  (hl : Qu σ (live x0)) (hΓ : ∀ w, St B Γ Ms w → St B (E x0 Γ) (Mf x0) w)
  (round : ∀ x base, Inv x → (∀ x' σ', Inv x' → μ x' < μ x → Qu σ' (live x') → Fs P f R B n (.inLoop c :: K) σ' (E x' Γ) (Mf x')) →
   Fs P f R B n (.code c :: .inLoop c :: K) (stL base (live x)) (E x Γ) (Mf x)) :
  Fs P f R B n (.code (.loop c) :: K) σ Γ Ms := Ef Inv live (fun x => E x Γ) Mf μ x0 h0 hl hΓ round
end
theorem NV.conv {tn : Bool} {pn : Nat} {P : Program} {f : FuncId} {R : Ending → World → Prop} {B : Cu} {n : Fz} {K : List Item} {ops : Array Oper} {l fin : List Nat} {σ : Nat → Value} {Γ : List Fact} {Ms' : List Bj} (h : NV tn pn P f R B n K ops fin l σ Γ Ms') :
  ∀ {Ms : List Bj}, (∀ Γ M w, St B Γ (M ++ Ms) w → St B Γ (M ++ Ms') w) → NV tn pn P f R B n K ops fin l σ Γ Ms := by
 induction h with
 | done h => exact fun hc => .done (fun a w hr hs => h a w hr (hc _ [] w hs))
 | no h => exact fun hc => .no (fun ⟨w, hw⟩ => h ⟨w, hc _ [] w hw⟩)
 | pure ho hw hd h k ih => exact fun hc => .pure ho hw hd h (ih hc)
 | load ht ho hm hw hd h k ih => exact fun hc => .load ht ho hm hw hd (fun w hs => h w (hc _ [] w hs)) (ih hc)
 | off ho hw hd k ih => exact fun hc => .off ho hw hd (ih hc)
 | alloc ho hg hw hd h k ih => exact fun hc => .alloc ho hg hw hd h (fun b => ih b (fun Γ M w hs => by
   have := hc Γ (M ++ [Ae b _ _]) w (by simpa using hs)
   simpa using this))
 | allocF hz ho hg hgm hw hd h hF k ih => exact fun hc => .allocF hz ho hg hgm hw hd h hF (fun b => ih b hc)
 | call ht ho hg hm hw hd he hsp hpre k ih => exact fun hc => .call ht ho hg hm hw hd he hsp hpre (fun x => ih x (fun Γ M w hs => by
   have := hc Γ (M ++ _) w (by simpa using hs)
   simpa using this))
 | loadF ho hm hw hd h k ih => exact fun hc => .loadF ho hm hw hd h (ih hc)
 | pan ht ho hq hg hm hw he hsp hpre hR => exact fun hc => .pan ht ho hq hg hm hw he hsp hpre hR
 | @F7 i l o X val F r r' σ Γ Ms0 Ms2 ht ho hb hw hd hp h k hz ih =>
  intro Ms hc
  refine NV.F7 (F := F) (r := Ms) (r' := fun x => r' x ++ Ms2) (Ms2 := []) ht ho hb hw hd (by rw [List.append_nil]) (fun M w hs => ?_) (fun x => by rw [List.append_nil]; exact k x) hz
  have h0 : St B Γ (M ++ Ms0) w := hc _ M w (hs.perm List.perm_append_comm)
  have h1 : St B Γ (r ++ (Ms2 ++ M)) w := by
   rw [← List.append_assoc]
   exact h0.perm (List.perm_append_comm.trans (hp.append_right M))
  obtain ⟨x, w', h2, h3⟩ := h (Ms2 ++ M) w h1
  exact ⟨x, w', h2, by rw [List.append_assoc]; exact h3⟩
 | @sto i l o r r' σ Γ Ms0 Ms2 ho hb hw hd hp h k ih =>
  intro Ms hc
  refine NV.sto (r := Ms) (r' := r' ++ Ms2) (Ms2 := []) ho hb hw hd (by rw [List.append_nil]) (fun M w hs => ?_) (by rw [List.append_nil]; exact k)
  have h0 : St B Γ (M ++ Ms0) w := hc _ M w (hs.perm List.perm_append_comm)
  have h1 : St B Γ (r ++ (Ms2 ++ M)) w := by
   rw [← List.append_assoc]
   exact h0.perm (List.perm_append_comm.trans (hp.append_right M))
  obtain ⟨w', h2, h3⟩ := h (Ms2 ++ M) w h1
  exact ⟨w', h2, by rw [List.append_assoc]; exact h3⟩
theorem A0q {tn : Bool} {pn : Nat} {P : Program} {f : FuncId} {R : Ending → World → Prop} {B : Cu} {n : Fz} {K : List Item} {ops : Array Oper} {l fin : List Nat} {σ : Nat → Value} {Γ : List Fact} {Ms : List Bj} (A A' : List Bj) (hc : ∀ Γ L w, St B Γ (A ++ L) w → St B Γ (A' ++ L) w) (h : NV tn pn P f R B n K ops fin l σ Γ (A' ++ Ms)) : NV tn pn P f R B n K ops fin l σ Γ (A ++ Ms) :=
 h.conv (fun Γ M w hs => by
  have h1 := hc Γ (Ms ++ M) w (by simpa using hs.perm List.perm_append_comm)
  have h2 : St B Γ ((A' ++ Ms) ++ M) w := by simpa using h1
  exact h2.perm List.perm_append_comm)
section
variable {P : Program} [Tab P] {B : Cu} {σ : Nat → Value} {Γ : List Fact} {Ms : List Bj} {ty : TypeId} {x y : Operand} {k : IntKind} {a : Int} {v : Value}
theorem D1w {t : TypeId} {d : TypeDesc} {bk o i : Nat} {a : SH} {l : List Int} (hx : ev σ x = .pointer (some ⟨bk, o + i * 1, none⟩)) (hF : IL l a ∈ Γ) (ha : a.1 = some ⟨bk, o, none⟩) (hu : Tab.und P t = some d) (hd : (match d with | .struct _ | .array _ _ => true | _ => false) = false) (hlt : i < l.length) :
  Kz P B σ Γ Ms (.load t x) ty (.int .i64 (l.getD i 0)) := fun w hs => by
 have h3 := (J7 (hs.facts _ hF).1 ha hlt).2 0 (.int .i64 (l.getD i 0)) rfl
 rw [Nat.add_zero] at h3
 have h4 := E6 (P := P) hu hd h3
 generalize hv : l.getD i 0 = u at h4 ⊢
 simp only [Ch, execOp, hx, Instr.loadAt, Instr.sureAddr]
 rw [Nat.mul_one] at h4 ⊢
 simp [h4]
theorem C5a {s d : TypeId} {a : Nat} (hs : Tab.und P s = some (.int .u32)) (hd : Tab.und P d = some (.int .i64)) (hx : ev σ x = .int .u32 (a : Int)) (ha : a < 4294967296) : Cg P σ (.convert s d x) ty (.int .i64 (a : Int)) := by
 have e : IntKind.i64.wrap (a : Int) = (a : Int) := by rw [IntKind.wrap_i64]; omega
 have := Kg (P := P) (ty := ty) hs hd hx
 rwa [e] at this
theorem C5c {s d : TypeId} {a : Nat} (hs : Tab.und P s = some (.int .i64)) (hd : Tab.und P d = some (.int .u32)) (hx : ev σ x = .int .i64 (a : Int)) (ha : a < 4294967296) : Cg P σ (.convert s d x) ty (.int .u32 (a : Int)) := by
 have e : IntKind.u32.wrap (a : Int) = (a : Int) := by
  have : IntKind.u32.wrap (a : Int) = (a : Int) % 4294967296 := by simp [IntKind.wrap, IntKind.bits, IntKind.signed]
  rw [this]; omega
 have := Kg (P := P) (ty := ty) hs hd hx
 rwa [e] at this
theorem C5d {s d : TypeId} {a : Int} {m : Nat} (hs : Tab.und P s = some (.int .i64)) (hd : Tab.und P d = some (.int .u64)) (hx : ev σ x = .int .i64 a) (ha : a = (m : Int)) (hm : m < 18446744073709551616) : Cg P σ (.convert s d x) ty (.int .u64 (m : Int)) := by
 have e : IntKind.u64.wrap a = (m : Int) := by
  have : IntKind.u64.wrap a = a % 18446744073709551616 := by simp [IntKind.wrap, IntKind.bits, IntKind.signed]
  rw [this]; omega
 have := Kg (P := P) (ty := ty) hs hd hx
 rwa [e] at this
end
end Go.Hy
namespace Go.Hy
def Vj (a : SH) (sz k : Nat) : SH := (if a.2 = k then a.1 else a.1.map (·.add (k * sz)), a.2 - k)
section
variable {P : Program} [Tab P] {B : Cu} {σ : Nat → Value} {Γ : List Fact} {Ms : List Bj} {ty : TypeId} {x y : Operand}
theorem B7u {t e : TypeId} {s bt m c k : Nat} {zv : Value} {A : Option Addr} (hu : Tab.und P t = some (.slice e)) (hi : Tab.inf P e = some (s, bt, zv)) (hx : ev σ x = .slice A m c) (hy : ev σ y = .int .i64 (k : Int)) (hk : k ≤ c) : Cg P σ (.slice t x none (some y) none) ty (.slice A k c) := fun w => by
 have h0 : ∀ a : Option Addr, (a.map fun b : Addr => b.add 0) = a := fun a => by cases a <;> simp [Addr.add_zero']
 simp [Ch, execOp, hx, hy, Instr.sliceAt, Instr.slice, Instr.sliceBounds, Instr.sliceBound, asIntOf, Du hu, hk, Gi hi, h0]
theorem B7t {t e : TypeId} {s bt m k : Nat} {zv : Value} {a : SH} (hu : Tab.und P t = some (.slice e)) (hi : Tab.inf P e = some (s, bt, zv)) (hx : ev σ x = sl a m) (hy : ev σ y = .int .i64 (k : Int)) (hk : k ≤ m) : Cg P σ (.slice t x (some y) none none) ty (sl (Vj a s k) (m - k)) := fun w => by
 have hx' : ev σ x = .slice a.1 m a.2 := hx
 simp [Ch, execOp, hx', hy, Instr.sliceAt, Instr.slice, Instr.sliceBounds, Instr.sliceBound, asIntOf, Du hu, hk, Gi hi, sl, Vj]
end
theorem B7e {ok : Nat → Prop} {sz bt n k : Nat} {a : SH} {E : Nat → List Value} {w : World} (h : rowAt ok sz bt n a E w) (hk : k ≤ n) : rowAt ok sz bt k a E w :=
 ⟨Nat.le_trans hk h.1, Nat.le_trans (Nat.mul_le_mul_right bt hk) h.2.1, fun h0 => by
  obtain ⟨b, o, h1, h2, h3⟩ := h.2.2 A2
  exact ⟨b, o, h1, h2, fun i hi => h3 i A2⟩⟩
theorem B7f {ok : Nat → Prop} {sz bt n k : Nat} {a : SH} {E : Nat → List Value} {w : World} (h : rowAt ok sz bt n a E w) (hk : k ≤ n) : rowAt ok sz bt (n - k) (Vj a sz k) (fun i => E (i + k)) w := by
 refine ⟨Nat.sub_le_sub_right h.1 k, Nat.le_trans (Nat.mul_le_mul_right bt (Nat.sub_le n k)) h.2.1, fun h0 => ?_⟩
 obtain ⟨b, o, h1, h2, h3⟩ := h.2.2 A2
 have hne : a.2 ≠ k := by have := h.1; omega
 refine ⟨b, o + k * sz, by simp [Vj, hne, h1, Addr.add_lit], h2, fun i hi j v hv => ?_⟩
 have := h3 (i + k) A2 j v hv
 rwa [show o + k * sz + i * sz + j = o + (i + k) * sz + j by rw [Nat.add_mul]; omega]
theorem Zh {ok : Nat → Prop} {sz bt n : Nat} {a : SH} {E E' : Nat → List Value} {w : World} (h : rowAt ok sz bt n a E w) (he : ∀ i, i < n → E i = E' i) : rowAt ok sz bt n a E' w :=
 ⟨h.1, h.2.1, fun h0 => by
  obtain ⟨b, o, h1, h2, h3⟩ := h.2.2 h0
  exact ⟨b, o, h1, h2, fun i hi => by rw [← he i hi]; exact h3 i hi⟩⟩
theorem getD_take' {α : Type} {d : α} {l : List α} {k i : Nat} (h : i < k) : (l.take k).getD i d = l.getD i d := by
 simp [List.getD_eq_getElem?_getD, h]
theorem getD_drop' {α : Type} {d : α} {l : List α} {k i : Nat} : (l.drop k).getD i d = l.getD (i + k) d := by
 simp [List.getD_eq_getElem?_getD, Nat.add_comm]
section
variable {B : Cu} {Γ : List Fact} {Ms : List Bj} {w : World}
theorem St.D8u {l : List Cl} {a : SH} (k : Nat) (hs : St B Γ Ms w) (hF : CL l a ∈ Γ) (hk : k ≤ l.length) : St B (CL (l.take k) a :: Γ) Ms w := by
 obtain ⟨h2, h4⟩ := hs.facts _ hF
 refine hs.add ⟨?_, fun c hc => h4 c (List.mem_of_mem_take hc)⟩
 have e : (l.take k).length = k := by simp; omega
 rw [e]
 exact Zh (B7e h2 hk) (fun i hi => by rw [getD_take' hi])
theorem St.E2y {l : List Cl} {a : SH} (k : Nat) (hs : St B Γ Ms w) (hF : CL l a ∈ Γ) (hk : k ≤ l.length) : St B (CL (l.drop k) (Vj a 2 k) :: Γ) Ms w := by
 obtain ⟨h2, h4⟩ := hs.facts _ hF
 refine hs.add ⟨?_, fun c hc => h4 c (List.mem_of_mem_drop hc)⟩
 rw [List.length_drop]
 exact Zh (B7f h2 hk) (fun i hi => by rw [getD_drop'])
theorem St.E7a {l : List Cl} {a : SH} (hs : St B Γ Ms w) (hF : CL l a ∈ Γ) : l.length ≤ a.2 := (hs.facts _ hF).1.1
end
end Go.Hy
namespace Go.Hy
section
variable {P : Program} [Tab P] {σ : Nat → Value} {ty : TypeId} {x y : Operand}
theorem C0c (n : Int) : IntKind.u64.wrap n = n % 18446744073709551616 := by simp [IntKind.wrap, IntKind.bits, IntKind.signed]
theorem D5e {t t' : TypeId} {k2 : IntKind} {a m : Nat} (hx : ev σ x = .int .u64 (a : Int)) (hy : ev σ y = .int k2 (m : Int)) (hm : m ≤ 64) (hb : a * 2 ^ m < 18446744073709551616) : Cg P σ (.binOp .shl t x y t') ty (.int .u64 ((a * 2 ^ m : Nat) : Int)) :=
 Dp hx hy (fun w => C7 w) (fun w => by
  have e : IntKind.u64.wrap ((a : Int) * 2 ^ min (m : Int).toNat 64) = ((a * 2 ^ m : Nat) : Int) := by
   rw [C0c, Int.toNat_natCast, Nat.min_eq_left hm]
   have : ((a : Int) * 2 ^ m) = ((a * 2 ^ m : Nat) : Int) := by rw [Int.natCast_mul, Int.natCast_pow]; rfl
   rw [this]; omega
  have h0 : ¬ ((m : Int) < 0) := by omega
  simp only [binOp, Op.shift, if_neg h0]
  show Result.ok (Value.int .u64 (IntKind.u64.wrap ((a : Int) * 2 ^ min (m : Int).toNat 64))) w = _
  rw [e])
theorem D5c {t t' : TypeId} {a b : Nat} (hx : ev σ x = .int .u64 (a : Int)) (hy : ev σ y = .int .u64 (b : Int)) (h : b ≤ a) (ha : a < 18446744073709551616) : Cg P σ (.binOp .sub t x y t') ty (.int .u64 ((a - b : Nat) : Int)) :=
 Dp hx hy (fun w => C7 w) (fun w => by
  have e : IntKind.u64.wrap ((a : Int) - (b : Int)) = ((a - b : Nat) : Int) := by rw [C0c]; omega
  simp only [binOp, Op.intArith, ne_eq, not_true, if_false]
  show Result.ok (Value.int .u64 (IntKind.u64.wrap ((a : Int) - (b : Int)))) w = _
  rw [e])
theorem C5f {s d : TypeId} {a : Nat} (hs : Tab.und P s = some (.int .u64)) (hd : Tab.und P d = some (.int .u32)) (hx : ev σ x = .int .u64 (a : Int)) (ha : a < 4294967296) : Cg P σ (.convert s d x) ty (.int .u32 (a : Int)) := by
 have e : IntKind.u32.wrap (a : Int) = (a : Int) := by rw [C7v]; omega
 have := Kg (P := P) (ty := ty) hs hd hx
 rwa [e] at this
end
end Go.Hy
namespace Go.Hy
section
variable {P : Program} [Tab P] {σ : Nat → Value} {ty : TypeId} {x y : Operand}
end
end Go.Hy
namespace Go.Hy
open Go Go.ChangeShapes Go.WideShapes Go.RowKit
variable {P : Program} {H : Type} {enc : TypeId × Value → H} {W : World} {base : Nat} {v : Value} {d : DataW H} {ps : List MemPlace}
theorem Pj {t : TypeId} {ts : List TypeId} {ds : List (DataW H)} (h : ∀ x, x ∈ DataW.weightsEach P (t :: ts) (d :: ds) → x ≤ reach) : O3 P t d ∧ ∀ x, x ∈ DataW.weightsEach P ts ds → x ≤ reach :=
 ⟨fun x hx => h x (by simp only [DataW.weightsEach, List.mem_append]; exact .inl hx), fun x hx => h x (by simp only [DataW.weightsEach, List.mem_append]; exact .inr hx)⟩
theorem Uu {t : TypeId} {ts : List TypeId} {vs : List Value} {ds : List (DataW H)} (h : DataW.TrodAll enc P W 0 (fun _ => true) true (t :: ts) vs ds ps) :
  ∃ v vs' d ds' p q, vs = v :: vs' ∧ ds = d :: ds' ∧ DataW.Trod enc P W 0 (fun _ => true) true t v d p ∧ DataW.TrodAll enc P W 0 (fun _ => true) true ts vs' ds' q := by
 obtain ⟨v, vs1, d, ds1, a, b, h1, h2, h3, h4, h5⟩ := trodAll_cons h
 exact ⟨v, vs1, d, ds1, a, b, h1, h2, h4, h5⟩
theorem C3z {vs : List Value} {ds : List (DataW H)} (h : DataW.TrodAll enc P W 0 (fun _ => true) true [] vs ds ps) : vs = [] := by
 obtain ⟨h1, _, _⟩ := trodAll_nil h
 exact h1
theorem E7d {t : TypeId} (ht : P.underlying t = some (.int .i64)) (hval : Value.okWide P W .any base t v) (h : DataW.Trod enc P W 0 (fun _ => true) true t v d ps) : ∃ n : Int, v = .int .i64 n ∧ Ak n := by
 obtain ⟨n, rfl, _, _, hw⟩ := open_int ht hval h
 simp only [Lit.wf, Bool.and_eq_true, decide_eq_true_eq] at hw
 exact ⟨n, rfl, hw.1, hw.2⟩
variable [TyF P]
theorem E7e {t : TypeId} (ht : t = TyF.tC P) (hval : Value.okWide P W .any base t v) (h : DataW.Trod enc P W 0 (fun _ => true) true t v d ps) (hl : O3 P t d) : ∃ c : Cl, v = .agg (Aq c).toArray ∧ u32 c := by
 subst ht
 obtain ⟨cs, rfl, _⟩ := okWide_struct TyF.uC hval
 obtain ⟨fuel, hf⟩ := h
 obtain ⟨c, h1, h2⟩ := C1p hf hl
 exact ⟨c, by rw [← h1]; simp [Value.cells], h2⟩
end Go.Hy
namespace Go.Hy
def Dc (L : List Bj) : Bj := ⟨Bo L, fun w => (∀ m, m ∈ L → ∀ w', (∀ b, m.dom b → w'.heap[b]? = w.heap[b]?) → m.holds w') ∧ (L.Pairwise fun m m' => ∀ b, m.dom b → m'.dom b → False)⟩
section
variable {B : Cu} {Γ : List Fact} {Ms L L' : List Bj} {w : World}
theorem St.pack (hs : St B Γ (L ++ Ms) w) : St B Γ (Dc L :: Ms) w := by
 have hd : ∀ b, Bo (Dc L :: Ms) b ↔ Bo (L ++ Ms) b := fun b => by rw [Gt, Ej]; exact Iff.rfl
 refine ⟨hs.chg, fun F hF => F.mono _ _ _ (fun b hb => ⟨hb.1, hb.2.1, fun hc => hb.2.2 ((hd b).mp hc)⟩) (hs.facts F hF), ?_, ?_, ?_⟩
 ·intro m hm w' hw
  rcases List.mem_cons.mp hm with e | hm
  ·subst e
   exact ⟨fun m hm w2 hw2 => hs.res m (List.mem_append_left _ hm) w2 (fun b hb => (hw2 b hb).trans (hw b ⟨m, hm, hb⟩)), (List.pairwise_append.mp hs.disj).1⟩
  ·exact hs.res m (List.mem_append_right _ hm) w' hw
 ·intro m hm b hb
  rcases List.mem_cons.mp hm with e | hm
  ·subst e
   obtain ⟨m', hm', hb'⟩ := hb
   exact hs.lt m' (List.mem_append_left _ hm') b hb'
  ·exact hs.lt m (List.mem_append_right _ hm) b hb
 ·refine List.pairwise_cons.mpr ⟨fun m hm b hb hb2 => ?_, (List.pairwise_append.mp hs.disj).2.1⟩
  obtain ⟨m', hm', hb'⟩ := hb
  exact (List.pairwise_append.mp hs.disj).2.2 m' hm' m hm b hb' hb2
theorem St.unpack (hs : St B Γ (Dc L :: Ms) w) : St B Γ (L ++ Ms) w := by
 have hd : ∀ b, Bo (Dc L :: Ms) b ↔ Bo (L ++ Ms) b := fun b => by rw [Gt, Ej]; exact Iff.rfl
 have hb0 := hs.res (Dc L) List.mem_cons_self w (fun _ _ => rfl)
 refine ⟨hs.chg, fun F hF => F.mono _ _ _ (fun b hb => ⟨hb.1, hb.2.1, fun hc => hb.2.2 ((hd b).mpr hc)⟩) (hs.facts F hF), ?_, ?_, ?_⟩
 ·intro m hm w' hw
  rcases List.mem_append.mp hm with hm | hm
  ·exact hb0.1 m hm w' hw
  ·exact hs.res m (List.mem_cons_of_mem _ hm) w' hw
 ·intro m hm b hb
  rcases List.mem_append.mp hm with hm | hm
  ·exact hs.lt (Dc L) List.mem_cons_self b ⟨m, hm, hb⟩
  ·exact hs.lt m (List.mem_cons_of_mem _ hm) b hb
 ·exact List.pairwise_append.mpr ⟨hb0.2, (List.pairwise_cons.mp hs.disj).2, fun m hm m' hm' b hb hb' => (List.pairwise_cons.mp hs.disj).1 m' hm' b ⟨m, hm, hb⟩ hb'⟩
theorem St.Pu (hs : St B Γ Ms w) : St B Γ (Dc [] :: Ms) w := St.pack (L := []) hs
theorem St.D6p (hs : St B Γ (Dc L :: Dc L' :: Ms) w) : St B Γ (Dc (L' ++ L) :: Ms) w := by
 have h1 := (hs.unpack.perm List.perm_middle).unpack
 exact St.pack (by rw [List.append_assoc]; exact h1)
end
mutual
inductive HT where
 | mk (kind n : Int) (name : ByteArray) (r : List Cl) (vr : SH) (kids : List HT) (vk : SH) (sys : List HB) (vs : SH)
inductive HB where
 | mk (B1 : List Cl) (vf : SH) (kids : List HT) (vk : SH)
end
mutual
def HT.er : HT → T
 | .mk k n nm r _ ks _ ss _ => .mk k n nm r (HT.erL ks) (HT.erB ss)
def HT.erL : List HT → List T
 | [] => []
 | h :: hs => h.er :: HT.erL hs
def HT.erB : List HB → List Br
 | [] => []
 | .mk f _ ks _ :: bs => .mk f (HT.erL ks) :: HT.erB bs
end
def HB.er : HB → Br
 | .mk f _ ks _ => .mk f (HT.erL ks)
theorem HT.Jn : ∀ l : List HT, HT.erL l = l.map HT.er
 | [] => by simp [HT.erL]
 | h :: hs => by simp [HT.erL, HT.Jn hs]
theorem HT.Vg : ∀ l : List HB, HT.erB l = l.map HB.er
 | [] => by simp [HT.erB]
 | .mk f v ks u :: bs => by simp [HT.erB, HB.er, HT.Vg bs]
namespace HT
def vr : HT → SH | .mk _ _ _ _ v _ _ _ _ => v
def vk : HT → SH | .mk _ _ _ _ _ _ v _ _ => v
def vs : HT → SH | .mk _ _ _ _ _ _ _ _ v => v
def kids : HT → List HT | .mk _ _ _ _ _ ks _ _ _ => ks
def sys : HT → List HB | .mk _ _ _ _ _ _ _ ss _ => ss
def tp (h : HT) : TP := (h.er, h.vr, h.vk, h.vs)
end HT
namespace HB
def B1 : HB → List Cl | .mk f _ _ _ => f
def vf : HB → SH | .mk _ v _ _ => v
def kids : HB → List HT | .mk _ _ ks _ => ks
def vk : HB → SH | .mk _ _ _ v => v
def bp (b : HB) : BP := (b.er, b.vf, b.vk)
end HB
structure Tys where
 c : TypeId
 t : TypeId
 b : TypeId
mutual
def Gb (y : Tys) : HT → List Bj
 | .mk _ _ _ r v ks u ss x => Av 2 y.c v r.length (Ab r) :: Av 6 y.t u ks.length (C8 (ks.map HT.tp)) :: Av 2 y.b x ss.length (Hj (ss.map HB.bp)) :: (F1 y ks ++ Ps y ss)
def F1 (y : Tys) : List HT → List Bj
 | [] => []
 | h :: hs => Gb y h ++ F1 y hs
def Ps (y : Tys) : List HB → List Bj
 | [] => []
 | .mk f v ks u :: bs => (Av 2 y.c v f.length (Ab f) :: Av 6 y.t u ks.length (C8 (ks.map HT.tp)) :: F1 y ks) ++ Ps y bs
end
def brR (y : Tys) : HB → List Bj
 | .mk f v ks u => Av 2 y.c v f.length (Ab f) :: Av 6 y.t u ks.length (C8 (ks.map HT.tp)) :: F1 y ks
theorem B4v (y : Tys) : ∀ l, F1 y l = l.flatMap (Gb y)
 | [] => by simp [F1]
 | h :: hs => by simp [F1, B4v y hs]
theorem C2y (y : Tys) : ∀ l, Ps y l = l.flatMap (brR y)
 | [] => by simp [Ps]
 | .mk f v ks u :: bs => by simp [Ps, brR, C2y y bs]
mutual
def Rw : T → Prop
 | .mk k n nm r ks ss => Ak k ∧ Ak n ∧ nm.size ≤ Gd ∧ ((∀ c, c ∈ r → u32 c) ∧ r.length * 8 ≤ reach) ∧ ks.length * 104 ≤ reach ∧ ss.length * 48 ≤ reach ∧ okL ks ∧ okB ss
def okL : List T → Prop
 | [] => True
 | t :: ts => Rw t ∧ okL ts
def okB : List Br → Prop
 | [] => True
 | .mk f ks :: bs => ((∀ c, c ∈ f → u32 c) ∧ f.length * 8 ≤ reach) ∧ ks.length * 104 ≤ reach ∧ okL ks ∧ okB bs
end
mutual
theorem C1q {ok : Nat → Prop} {w : World} : ∀ {t : T} {vr vk vs : SH}, Gf ok t vr vk vs w → Rw t
 | .mk k n nm r ks ss, vr, vk, vs, h => by
  simp only [Gf] at h
  simp only [Rw]
  obtain ⟨h1, h2, h3, h4, ⟨VR, VK, VS, h6, h7⟩, ⟨VF, VK', h9, h10⟩⟩ := h
  exact ⟨h1, h2, h3, ⟨h4.2, h4.1.2.1⟩, h6.2.1, h9.2.1, B8a h7, D0t h10⟩
theorem B8a {ok : Nat → Prop} {w : World} : ∀ {ts : List T} {VR VK VS : Nat → SH}, Gv ok ts VR VK VS w → okL ts
 | [], _, _, _, _ => by simp only [okL]
 | t :: ts, _, _, _, h => by
  simp only [Gv] at h
  simp only [okL]
  exact ⟨C1q h.1, B8a h.2⟩
theorem D0t {ok : Nat → Prop} {w : World} : ∀ {bs : List Br} {VF VK : Nat → SH}, Ho ok bs VF VK w → okB bs
 | [], _, _, _ => by simp only [okB]
 | .mk f ks :: bs, _, _, h => by
  simp only [Ho, Pt] at h
  simp only [okB]
  obtain ⟨⟨h1, ⟨VR, VK, VS, h2, h3⟩⟩, h4⟩ := h
  exact ⟨⟨h1.2, h1.1.2.1⟩, h2.2.1, B8a h3, D0t h4⟩
end
theorem Wq {K S M : List Bj} {a : Bj} : (K ++ (S ++ a :: M)).Perm (a :: (K ++ (S ++ M))) := (List.perm_middle.append_left K).trans List.perm_middle
section
variable {B : Cu} {Γ : List Fact} {Ms : List Bj} {w : World}
mutual
theorem St.P1 (y : Tys) {hBp : Prop} (hB : hBp) : ∀ (h : HT) {Γ : List Fact} {Ms : List Bj}, Rw h.er → St B Γ (Gb y h ++ Ms) w → St B (RT h.er h.vr h.vk h.vs :: Γ) Ms w
 | .mk k n nm r v ks u ss x, Γ, Ms, hok, hs => by
  simp only [HT.er, Rw] at hok
  obtain ⟨o1, o2, o3, o4, o5, o6, o7, o8⟩ := hok
  simp only [Gb, List.cons_append, List.append_assoc] at hs
  have h1 := hs.Bx (l := r) hB rfl rfl o4.2 o4.1
  -- the rows of kids and branches wait behind the parts
  have h2 : St B (CL r v :: Γ) (F1 y ks ++ (Ps y ss ++ (Av 6 y.t u ks.length (C8 (ks.map HT.tp)) :: Av 2 y.b x ss.length (Hj (ss.map HB.bp)) :: Ms))) w := by
   exact h1.perm (((Wq.trans (Wq.cons _))).symm)
  have h3 := St.A1o y hB ks [] (by rw [HT.Jn] at o7; exact o7) (by simpa using h2.Xo)
  have h4 := St.B2m y hB ss [] (by rw [HT.Vg] at o8; exact o8) (h3.D3k)
  have h5 := h4.Le (ps := ks.map HT.tp) (ts := ks.map HT.er) hB E5 rfl (by simp [HT.tp, Function.comp_def]) E5 (by rw [HT.Jn, List.length_map] at o5; exact o5)
  have h6 := h5.A1p (ps := ss.map HB.bp) (bs := ss.map HB.er) hB E5 rfl (by simp [HB.bp, Function.comp_def]) E5 (by rw [HT.Vg, List.length_map] at o6; exact o6)
  have h7 := h6.C5w (k := k) (n := n) (nm := nm) (r := r) (vr := v) (ks := ks.map HT.er) (vk := u) (ss := ss.map HB.er) (vs := x) o1 o2 o3 E5 E5 E5
  simp only [HT.er, HT.Jn, HT.Vg, HT.vr, HT.vk, HT.vs]
  exact h7.less sx_
theorem St.A1o (y : Tys) {hBp : Prop} (hB : hBp) : ∀ (ks : List HT) (ps : List TP) {Γ : List Fact} {Ms : List Bj}, okL (ks.map HT.er) → St B (AP ps :: Γ) (F1 y ks ++ Ms) w → St B (AP (ps ++ ks.map HT.tp) :: Γ) Ms w
 | [], ps, Γ, Ms, hok, hs => by simpa [F1] using hs
 | h :: hs', ps, Γ, Ms, hok, hs => by
  simp only [List.map_cons, okL] at hok
  simp only [F1, List.append_assoc] at hs
  have h1 := St.P1 y hB h hok.1 hs
  have h2 := h1.Xp (ps := ps) (t := h.er) (vr := h.vr) (vk := h.vk) (vs := h.vs) E5 E5
  have h3 := St.A1o y hB hs' (ps ++ [h.tp]) (Γ := Γ) hok.2 (h2.less (by simp +contextual [HT.tp]))
  simpa using h3
theorem St.B2m (y : Tys) {hBp : Prop} (hB : hBp) : ∀ (bs : List HB) (ps : List BP) {Γ : List Fact} {Ms : List Bj}, okB (bs.map HB.er) → St B (BPs ps :: Γ) (Ps y bs ++ Ms) w → St B (BPs (ps ++ bs.map HB.bp) :: Γ) Ms w
 | [], ps, Γ, Ms, hok, hs => by simpa [Ps] using hs
 | .mk f v ks u :: bs, ps, Γ, Ms, hok, hs => by
  simp only [List.map_cons, HB.er, okB] at hok
  obtain ⟨o1, o2, o3, o4⟩ := hok
  simp only [Ps, List.cons_append, List.append_assoc] at hs
  have h1 := hs.Bx (l := f) hB rfl rfl o1.2 o1.1
  have h2 : St B (CL f v :: BPs ps :: Γ) (F1 y ks ++ (Av 6 y.t u ks.length (C8 (ks.map HT.tp)) :: (Ps y bs ++ Ms))) w := h1.perm (by exact List.perm_middle.symm)
  have h3 := St.A1o y hB ks [] (by rw [HT.Jn] at o3; exact o3) (by simpa using h2.Xo)
  have h4 := h3.Le (ps := ks.map HT.tp) (ts := ks.map HT.er) hB E5 rfl (by simp [HT.tp, Function.comp_def]) E5 (by rw [HT.Jn, List.length_map] at o2; exact o2)
  have h5 := h4.D3l (ps := ps) (f := f) (ks := ks.map HT.er) (vf := v) (vk := u) E5 E5 E5
  have h6 := St.B2m y hB bs (ps ++ [(.mk f (ks.map HT.er), v, u)]) (Γ := Γ) o4 (h5.less sx_)
  simpa [HB.bp, HB.er, HB.vf, HB.vk, HT.Jn] using h6
end
end
end Go.Hy
namespace Go.Hy
section
variable {B : Cu} {Γ : List Fact} {Ms K S : List Bj} {w : World} {a b c : Bj}
theorem St.E4g (hs : St B Γ (a :: b :: c :: Dc K :: Dc S :: Ms) w) : St B Γ (Dc (a :: b :: c :: (K ++ S)) :: Ms) w := by
 have h1 : St B Γ (Dc K :: Dc S :: a :: b :: c :: Ms) w := hs.perm (Eb.trans (Eb.cons _))
 have h2 : St B Γ (Dc S :: (K ++ a :: b :: c :: Ms)) w := h1.unpack.perm List.perm_middle
 have h3 : St B Γ (K ++ (S ++ a :: b :: c :: Ms)) w := h2.unpack.perm (by rw [← List.append_assoc, ← List.append_assoc]; exact List.perm_append_comm.append_right _)
 exact St.pack (L := a :: b :: c :: (K ++ S)) (by
  simp only [List.cons_append, List.append_assoc]
  exact h3.perm (Wq.trans ((Wq.trans (Wq.cons _)).cons _)))
theorem St.E4h (hs : St B Γ (a :: b :: Dc K :: Dc S :: Ms) w) : St B Γ (Dc (S ++ (a :: b :: K)) :: Ms) w := by
 have h1 : St B Γ (Dc K :: Dc S :: a :: b :: Ms) w := hs.perm (C3.trans (C3.cons _))
 have h2 : St B Γ (Dc S :: (K ++ a :: b :: Ms)) w := h1.unpack.perm List.perm_middle
 have h3 : St B Γ (S ++ (K ++ a :: b :: Ms)) w := h2.unpack
 exact St.pack (L := S ++ (a :: b :: K)) (by
  have : (S ++ a :: b :: K) ++ Ms = S ++ (a :: b :: (K ++ Ms)) := by simp
  rw [this]
  exact h3.perm ((List.perm_middle.trans (List.perm_middle.cons _)).append_left S))
theorem St.C2o {y : Tys} {hs : List HT} {h : HT} (h0 : St B Γ (Dc (Gb y h) :: Dc (F1 y hs) :: Ms) w) : St B Γ (Dc (F1 y (hs ++ [h])) :: Ms) w := by
 have := h0.D6p
 rwa [show F1 y hs ++ Gb y h = F1 y (hs ++ [h]) by simp [B4v]] at this
theorem St.D2h {y : Tys} {bs : List HB} {f : List Cl} {v u : SH} {ks : List HT} {n m : Nat} {fl tl : List Value} (hn : n = f.length) (hm : m = ks.length) (hf : fl = Ab f) (ht : tl = C8 (ks.map HT.tp)) (h0 : St B Γ (Av 2 y.c v n fl :: Av 6 y.t u m tl :: Dc (F1 y ks) :: Dc (Ps y bs) :: Ms) w) : St B Γ (Dc (Ps y (bs ++ [.mk f v ks u])) :: Ms) w := by
 subst hn; subst hm; subst hf; subst ht
 have := h0.E4h
 rwa [show Ps y bs ++ (Av 2 y.c v f.length (Ab f) :: Av 6 y.t u ks.length (C8 (ks.map HT.tp)) :: F1 y ks) = Ps y (bs ++ [.mk f v ks u]) by simp [C2y, brR]] at this
theorem St.C2m {y : Tys} {k n : Int} {nm : ByteArray} {r : List Cl} {v u x : SH} {ks : List HT} {ss : List HB} {n1 n2 n3 : Nat} {l1 l2 l3 : List Value} (e1 : n1 = r.length) (e2 : n2 = ks.length) (e3 : n3 = ss.length) (f1 : l1 = Ab r) (f2 : l2 = C8 (ks.map HT.tp)) (f3 : l3 = Hj (ss.map HB.bp))
  (h0 : St B Γ (Av 2 y.c v n1 l1 :: Av 6 y.t u n2 l2 :: Av 2 y.b x n3 l3 :: Dc (F1 y ks) :: Dc (Ps y ss) :: Ms) w) : St B Γ (Dc (Gb y (.mk k n nm r v ks u ss x)) :: Ms) w := by
 subst e1; subst e2; subst e3; subst f1; subst f2; subst f3
 simpa only [Gb] using h0.E4g
end
end Go.Hy
namespace Go.Hy
def setAt (cur : List Value) (o : Nat) (vs : List Value) : List Value := cur.take o ++ vs ++ cur.drop (o + vs.length)
theorem A6d {cur vs : List Value} {o : Nat} (h : o + vs.length ≤ cur.length) : (setAt cur o vs).length = cur.length := by
 simp [setAt]; omega
theorem B6x {cur rest : List Value} {v : Value} {o : Nat} (h : o + rest.length + 1 ≤ cur.length) : setAt (cur.set o v) (o + 1) rest = setAt cur o (v :: rest) := by
 unfold setAt
 have h1 : (cur.set o v).take (o + 1) = cur.take o ++ [v] := by
  rw [List.take_add_one, List.take_set_of_le (Nat.le_refl o)]
  simp [show o < cur.length by omega]
 rw [h1, List.drop_set_of_lt A2]
 simp only [List.length_cons, List.append_assoc, List.singleton_append]
 rw [show o + 1 + rest.length = o + (rest.length + 1) by omega]
theorem Wn {P : Program} (g : Nat) (t : TypeId) (off : Nat) : ∀ (vs : List Value) (i : Nat) (cur : List Value) (w : World), w.heap[g]? = some (.cells cur.toArray t (0, 0)) → off + i + vs.length ≤ cur.length → (∀ v, v ∈ vs → v.oneCell' = true) →
  ∃ w', (storeCells ⟨g, off, none⟩ vs i).run P w = .ok () w' ∧ w'.heap[g]? = some (.cells (setAt cur (off + i) vs).toArray t (0, 0)) ∧ Tz (fun x => x = g) w w'
 | [], i, cur, w, hg, hl, _ => ⟨w, rfl, by simpa [setAt] using hg, Tz.refl _ _⟩
 | v :: rest, i, cur, w, hg, hl, h1 => by
  have hi : off + i < cur.length := by simp at hl; omega
  have hadd : (⟨g, off, none⟩ : Addr).add i = ⟨g, off + i, none⟩ := Addr.add_lit ..
  have hcell : w.cell? ⟨g, off + i, none⟩ = some cur[off + i] := by simp [World.cell?, hg, hi]
  have hfro : w.frozen? ⟨g, off + i, none⟩ = false := by simp [World.frozen?, hg]
  have hst : (store ((⟨g, off, none⟩ : Addr).add i) v).run P w = .ok () (w.setCell ⟨g, off + i, none⟩ v) := by
   rw [hadd, run_store P w _ v _ (h1 v E5), hcell]
   simp [hfro]
  have hg2 : (w.setCell ⟨g, off + i, none⟩ v).heap[g]? = some (.cells (cur.set (off + i) v).toArray t (0, 0)) := by
   rw [Zd v hg]; simp
  obtain ⟨w', h2, h3, h4⟩ := Wn g t off rest (i + 1) (cur.set (off + i) v) _ hg2 (by simp at hl ⊢; omega) (fun u hu => h1 u (List.mem_cons_of_mem _ hu))
  refine ⟨w', ?_, ?_, (Tz.setCell w g (off + i) v).trans h4 (fun b hb => .inl hb)⟩
  ·simp only [storeCells]
   rw [Ai hst]; exact h2
  ·rw [h3, show off + (i + 1) = off + i + 1 by omega, B6x (by simp at hl; omega)]
theorem A6p {w : World} {e : TypeId} {sz n : Nat} {a : SH} {xs : List Value} (h : w.ownsRow 0 e sz (sl a n) n xs) (hn : 0 < n) : ∃ g cur, a.1 = some ⟨g, 0, none⟩ ∧ w.heap[g]? = some (.cells cur e (0, 0)) ∧ n ≤ a.2 ∧ a.2 ≤ maxLen ∧ cur.size = a.2 * sz ∧ cur.toList.take (n * sz) = xs ∧ xs.length = n * sz := by
 obtain ⟨ao, ac⟩ := a
 rcases h.2 with ⟨h1, h2⟩ | ⟨g, cap, cur, h1, h2, h3, h4, h5, h6, h7⟩
 ·omega
 ·have e1 : ao = some ⟨g, 0, none⟩ := by injection h1
  have e2 : ac = cap := by injection h1
  subst e1; subst e2
  exact ⟨g, cur, rfl, h3, h4, h5, h6, h7, h.1⟩
section
variable {B : Cu} {Γ : List Fact} {Ms Ms2 : List Bj} {w : World}
theorem St.A9j {sz n : Nat} {e : TypeId} {a : SH} {xs : List Value} (hs : St B Γ Ms w) (hm : Av sz e a n xs ∈ Ms) (hn : 0 < n) : ∃ g, a.1 = some ⟨g, 0, Option.none⟩ := by
 obtain ⟨g, cur, h1, _⟩ := A6p (hs.res _ hm w (fun _ _ => rfl)) hn
 exact ⟨g, h1⟩
theorem St.D4v {sz n g j : Nat} {e : TypeId} {a : SH} {xs : List Value} {v : Value} (hs : St B Γ Ms w) (hm : Av sz e a n xs ∈ Ms) (ha : a.1 = some ⟨g, 0, Option.none⟩) (hj : xs[j]? = some v) : w.cell? ⟨g, j, Option.none⟩ = some v := by
 have hown : w.ownsRow 0 e sz (sl a n) n xs := hs.res _ hm w (fun _ _ => rfl)
 have hb : (sl a n).ownBlock = some g := by obtain ⟨ao, ac⟩ := a; simp only at ha; subst ha; rfl
 have := hown.cells hb j v hj
 rwa [Addr.add_lit, Nat.zero_add] at this
theorem B5h {α : Type} {F : α → List Value} {sz : Nat} (hF : ∀ x, (F x).length = sz) : ∀ (l : List α) (i : Nat) (x : α), i < l.length → (l.set i x).flatMap F = setAt (l.flatMap F) (i * sz) (F x)
 | [], i, x, h => by simp at h
 | a :: l, 0, x, _ => by
  have ha := hF a
  have hx := hF x
  simp [setAt, hx, List.drop_append, ha]
 | a :: l, i + 1, x, h => by
  have ha := hF a
  have hx := hF x
  simp only [List.set_cons_succ, List.flatMap_cons, B5h hF l i x (by simpa using h)]
  unfold setAt
  rw [Nat.add_mul, Nat.one_mul, hx]
  have t1 : (F a).take (i * sz + sz) = F a := List.take_of_length_le A2
  have t2 : (F a).drop (i * sz + sz + sz) = [] := List.drop_of_length_le A2
  rw [List.take_append, List.drop_append, ha, t1, t2, show i * sz + sz - sz = i * sz by omega, show i * sz + sz + sz - sz = i * sz + sz by omega]
  simp
theorem B6w {cur vs : List Value} {o m : Nat} (h : o + vs.length ≤ m) (hm : m ≤ cur.length) : (setAt cur o vs).take m = setAt (cur.take m) o vs := by
 unfold setAt
 have a1 : (cur.take m).take o = cur.take o := by rw [List.take_take, Nat.min_eq_left A2]
 have a2 : (cur.take m).drop (o + vs.length) = (cur.drop (o + vs.length)).take (m - (o + vs.length)) := List.drop_take ..
 have len : (cur.take o ++ vs).length = o + vs.length := by simp; omega
 have a3 : (cur.take o ++ vs).take m = cur.take o ++ vs := List.take_of_length_le A2
 rw [a1, a2, List.take_append, len, a3]
theorem St.C9d {sz n g o : Nat} {e : TypeId} {a : SH} {xs vs : List Value} {P : Program} (hs : St B Γ (Av sz e a n xs :: Ms2) w) (ha : a.1 = some ⟨g, 0, Option.none⟩) (hn : 0 < n) (ho : o + vs.length ≤ n * sz) (h1 : ∀ v, v ∈ vs → v.oneCell' = true) :
  ∃ w', (storeCells ⟨g, o, Option.none⟩ vs).run P w = .ok () w' ∧ St B Γ (Av sz e a n (setAt xs o vs) :: Ms2) w' := by
 obtain ⟨g', cur, e1, e2, e3, e4, e5, e6, e7⟩ := A6p (hs.res _ List.mem_cons_self w (fun _ _ => rfl)) hn
 rw [ha] at e1
 injection e1 with e1; injection e1 with e1
 subst e1
 have hcl : cur.toList.length = cur.size := by simp
 have hle : n * sz ≤ cur.size := by rw [e5]; exact Nat.mul_le_mul_right sz e3
 obtain ⟨w', h2, h3, h4⟩ := Wn (P := P) g e o vs 0 cur.toList w (by simpa using e2) (by rw [hcl]; omega) h1
 rw [Nat.add_zero] at h3
 refine ⟨w', h2, hs.F7 ?_ (fun w2 hw2 => ?_) (fun b hb => ?_)⟩
 ·refine h4.mono (fun b hb => ?_)
  subst hb
  show (sl a n).ownBlock = some b
  obtain ⟨ao, ac⟩ := a; simp only at ha; subst ha; rfl
 ·have hb : (sl a n).ownBlock = some g := by obtain ⟨ao, ac⟩ := a; simp only at ha; subst ha; rfl
  refine ⟨by rw [A6d A2]; exact e7, .inr ⟨g, a.2, (setAt cur.toList o vs).toArray, ?_, Nat.zero_le _, (hw2 g hb).trans h3, e3, e4, ?_, ?_⟩⟩
  ·obtain ⟨ao, ac⟩ := a; simp only at ha; subst ha; rfl
  ·rw [List.size_toArray, A6d (by rw [hcl]; omega), hcl, e5]
  ·rw [← e6]
   exact B6w A2 (by rw [hcl]; omega)
 ·have hb : (sl a n).ownBlock = some b := hb
  have hb2 : b = g := by
   obtain ⟨ao, ac⟩ := a; simp only at ha; subst ha
   have : some g = some b := hb
   injection this with this; exact this.symm
  subst hb2
  exact ⟨(Array.getElem?_eq_some_iff.mp h3).1, .inl hb⟩
end
section
variable {P : Program} [Tab P] {B : Cu} {Γ : List Fact} {Ms Ms2 : List Bj} {σ : Nat → Value} {ty : TypeId} {x y : Operand} {v : Value}
theorem D1p {α : Type} {F : α → List Value} {sz : Nat} (hF : ∀ x, (F x).length = sz) (d0 : α) {t e : TypeId} {d : TypeDesc} {g i k n : Nat} {a : SH} {l : List α} (hx : ev σ x = .pointer (some ⟨g, 0 + i * sz + k, none⟩)) (hm : Av sz e a n (l.flatMap F) ∈ Ms) (ha : a.1 = some ⟨g, 0, none⟩) (hu : Tab.und P t = some d) (hd : (match d with | .struct _ | .array _ _ => true | _ => false) = false) (hlt : i < l.length) (hk : (F (l.getD i d0))[k]? = some v) :
  Kz P B σ Γ Ms (.load t x) ty v := fun w hs => by
 have h3 := hs.D4v hm ha (A0t hF d0 l i k v hlt hk)
 rw [Nat.zero_add] at hx
 simp [Ch, execOp, hx, Instr.loadAt, Instr.sureAddr, E6 hu hd h3]
theorem E0u {α : Type} {F : α → List Value} (hF : ∀ x, (F x).length = 1) (d0 : α) {t e : TypeId} {d : TypeDesc} {g i n : Nat} {a : SH} {l : List α} (hx : ev σ x = .pointer (some ⟨g, 0 + i * 1, none⟩)) (hm : Av 1 e a n (l.flatMap F) ∈ Ms) (ha : a.1 = some ⟨g, 0, none⟩) (hu : Tab.und P t = some d) (hd : (match d with | .struct _ | .array _ _ => true | _ => false) = false) (hlt : i < l.length) (hk : (F (l.getD i d0))[0]? = some v) :
  Kz P B σ Γ Ms (.load t x) ty v := by
 have hx' : ev σ x = .pointer (some ⟨g, 0 + i * 1 + 0, none⟩) := hx
 exact D1p hF d0 hx' hm ha hu hd hlt hk
theorem D4l {α : Type} {F : α → List Value} {sz : Nat} (hF : ∀ x, (F x).length = sz) {t e : TypeId} {bt g i n : Nat} {a : SH} {zv : Value} {l : List α} (u : α) (hx : ev σ x = .pointer (some ⟨g, 0 + i * sz, none⟩)) (hm : Ms.Perm (Av sz e a n (l.flatMap F) :: Ms2)) (ha : a.1 = some ⟨g, 0, none⟩) (hn : n = l.length) (hy : (ev σ y).cells = (F u).toArray) (hi : Tab.inf P t = some (sz, bt, zv)) (h1 : K1 (F u) = true) (hlt : i < l.length) :
  Z4 P B σ Γ Ms (.store t x y) ty Γ (Av sz e a n ((l.set i u).flatMap F) :: Ms2) := fun w hs => by
 have hs' := hs.perm hm
 have hmul : i * sz + sz ≤ n * sz := by
  have := Nat.mul_le_mul_right sz (show i + 1 ≤ n by omega)
  rwa [Nat.add_mul, Nat.one_mul] at this
 obtain ⟨w', hr, h2⟩ := hs'.C9d (P := P) (vs := F u) (o := i * sz) ha A2 (by rw [hF]; exact hmul) (fun v hv => List.all_eq_true.mp h1 v hv)
 refine ⟨w', ?_, by rw [B5h hF l i u hlt]; exact h2⟩
 have hr2 : (storeVar t ⟨g, 0 + i * sz, none⟩ (ev σ y)).run P w = .ok () w' := by
  unfold storeVar
  rw [Ai (Gi hi w)]
  simp only [hy, List.size_toArray, hF, ne_eq, not_true, if_false, Nat.zero_add]
  exact hr
 rw [Nat.zero_add] at hr2 hx
 simp [Ch, execOp, hx, Instr.storeAt, Instr.sureAddr, hr2]
end
end Go.Hy
namespace Go.Hy
section
variable {P : Program} {f : FuncId} {R : Ending → World → Prop} {B : Cu} {n : Fz} {K : List Item} {σ : Nat → Value} {Γ LF : List Fact} {Ms Ms2 Ms' : List Bj} {todo : List Item} {w : World}
theorem Ll (h : Ms = Ms') (k : Fs P f R B n todo σ Γ Ms') : Fs P f R B n todo σ Γ Ms := h ▸ k
theorem St.By {b : Nat} {cs : List Value} {T : TypeId} {hBp : Prop} (hB : hBp) (hs : St B Γ (Ae b cs T :: Ms) w) : St B (At b 0 cs :: Γ) Ms w := by
 refine hs.Tc hB (fun ok hok hh => ⟨hok b rfl, fun j v hj => ?_⟩)
 have hh : w.heap[b]? = some (.cells cs.toArray T (0, 0)) := hh
 simp [World.cell?, hh, hj]
end
end Go.Hy
namespace Go.Hy
section
variable {B : Cu} {Γ : List Fact} {Ms K S : List Bj} {w : World} {a b c : Bj}
def h0 : HT := .mk 0 0 (ByteArray.mk #[]) [] (none, 0) [] (none, 0) [] (none, 0)
def hb0 : HB := .mk [] (none, 0) [] (none, 0)
theorem Md {α : Type} (d : α) {l : List α} {i : Nat} (h : i < l.length) : l.drop i = l.getD i d :: l.drop (i + 1) := by
 rw [List.drop_eq_getElem_cons h, List.getD_eq_getElem?_getD, List.getElem?_eq_getElem h]; rfl
theorem Spec.conv {P : Program} {k : FuncId} {args args' : Array Value} {pre : List Fact} {Ms0 Ms0' : List Bj} {X : Type} {val : X → Value} {N : X → List Fact} {Ms1 : X → List Bj} (h : Spec P k args pre Ms0 val N Ms1) (ha : args = args') (hd : ∀ b, Bo Ms0' b ↔ Bo Ms0 b) (hs : ∀ B w, St B pre Ms0' w → St B pre Ms0 w) : Spec P k args' pre Ms0' val N Ms1 := by
 subst ha
 have e : Bo Ms0' = Bo Ms0 := funext fun b => propext (hd b)
 intro ok w hok hst
 rw [e] at hst ⊢
 exact h ok w (fun b hb => ⟨(hok b hb).1, fun hc => (hok b hb).2 ((hd b).2 hc)⟩) (hs _ _ hst)
mutual
theorem HT.E8h {P : HT → Prop} (h : ∀ k n nm r v ks u ss x, (∀ c, c ∈ ks → P c) → P (.mk k n nm r v ks u ss x)) : ∀ t, P t
 | .mk k n nm r v ks u ss x => h k n nm r v ks u ss x (HT.C6n h ks)
theorem HT.C6n {P : HT → Prop} (h : ∀ k n nm r v ks u ss x, (∀ c, c ∈ ks → P c) → P (.mk k n nm r v ks u ss x)) : ∀ ts : List HT, ∀ c, c ∈ ts → P c
 | [], _, hc => by cases hc
 | t :: ts, c, hc => by
  rcases List.mem_cons.mp hc with e | hc
  ·rw [e]; exact HT.E8h h t
  ·exact HT.C6n h ts c hc
end
end
end Go.Hy
namespace Go.Hy
theorem B0d {P : Program} {σ : Nat → Value} {op : Op} {ty : TypeId} {p q : Prop} [Decidable p] [Decidable q] (h : p ↔ q) (hp : Cg P σ op ty (.bool (decide p))) : Cg P σ op ty (.bool (decide q)) := by
 rwa [decide_eq_decide.mpr h] at hp
section
variable {tn : Bool} {pn : Nat} {P : Program} [Tab P] {f : FuncId} {R : Ending → World → Prop} {B : Cu} {n : Fz} {K : List Item} {ops : Array Oper} {i : Nat} {l fin : List Nat} {σ : Nat → Value} {Γ : List Fact} {Ms Ms2 : List Bj}
variable {dst : Option Tmp} {op : Op} {ty : TypeId} {pos : String} {after : Array Edge} {v : Value} {x y z : Operand}
theorem B8d {t t' : TypeId} {k2 : IntKind} {a m : Nat} (k_ : Ec P f R B n K ops l (Au σ dst (.int .u64 ((a * 2 ^ m : Nat) : Int))) Γ Ms) (hx : ev σ x = .int .u64 (a : Int) := by exact A5) (hy : ev σ y = .int k2 (m : Int) := by exact A5) (hm : m ≤ 64 := by first | assumption | omega) (hb : a * 2 ^ m < 18446744073709551616 := by first | assumption | omega) (hd : Af n dst = true := by rfl) : Ew P f R B n K ops l (Ch dst (.binOp .shl t x y t') ty) σ Γ Ms := Be (D5e hx hy hm hb) hd k_
theorem E0f {t t' : TypeId} {a b : Nat} (k_ : Ec P f R B n K ops l (Au σ dst (.int .u64 ((a - b : Nat) : Int))) Γ Ms) (hx : ev σ x = .int .u64 (a : Int) := by exact A5) (hy : ev σ y = .int .u64 (b : Int) := by exact A5) (h : b ≤ a := by first | assumption | omega) (ha : a < 18446744073709551616 := by first | assumption | omega) (hd : Af n dst = true := by rfl) : Ew P f R B n K ops l (Ch dst (.binOp .sub t x y t') ty) σ Γ Ms := Be (D5c hx hy h ha) hd k_
theorem B4d {s d : TypeId} {a : Nat} (k_ : Ec P f R B n K ops l (Au σ dst (.int .u32 (a : Int))) Γ Ms) (hx : ev σ x = .int .u64 (a : Int) := by exact A5) (ha : a < 4294967296 := by first | assumption | omega) (hs : Tab.und P s = some (.int .u64) := by rfl) (hd' : Tab.und P d = some (.int .u32) := by rfl) (hd : Af n dst = true := by rfl) : Ew P f R B n K ops l (Ch dst (.convert s d x) ty) σ Γ Ms := Be (C5f hs hd' hx ha) hd k_
theorem B4c {s d : TypeId} {a : Nat} (k_ : Ec P f R B n K ops l (Au σ dst (.int .i64 (a : Int))) Γ Ms) (hx : ev σ x = .int .u32 (a : Int) := by exact A5) (ha : a < 4294967296 := by first | assumption | omega) (hs : Tab.und P s = some (.int .u32) := by rfl) (hd' : Tab.und P d = some (.int .i64) := by rfl) (hd : Af n dst = true := by rfl) : Ew P f R B n K ops l (Ch dst (.convert s d x) ty) σ Γ Ms := Be (C5a hs hd' hx ha) hd k_
theorem D1d {s d : TypeId} {a : Nat} (k_ : Ec P f R B n K ops l (Au σ dst (.int .u32 (a : Int))) Γ Ms) (hx : ev σ x = .int .i64 (a : Int) := by exact A5) (ha : a < 4294967296 := by first | assumption | omega) (hs : Tab.und P s = some (.int .i64) := by rfl) (hd' : Tab.und P d = some (.int .u32) := by rfl) (hd : Af n dst = true := by rfl) : Ew P f R B n K ops l (Ch dst (.convert s d x) ty) σ Γ Ms := Be (C5c hs hd' hx ha) hd k_
theorem O1 {s d : TypeId} {a : Int} {m : Nat} (k_ : Ec P f R B n K ops l (Au σ dst (.int .u64 (m : Int))) Γ Ms) (hx : ev σ x = .int .i64 a := by exact A5) (ha : a = (m : Int) := by first | assumption | omega) (hm : m < 18446744073709551616 := by omega) (hs : Tab.und P s = some (.int .i64) := by rfl) (hd' : Tab.und P d = some (.int .u64) := by rfl) (hd : Af n dst = true := by rfl) : Ew P f R B n K ops l (Ch dst (.convert s d x) ty) σ Γ Ms := Be (C5d hs hd' hx ha hm) hd k_
theorem A6u {t : TypeId} {d : TypeDesc} {bk o i' : Nat} {a : SH} {ls : List Int} (k_ : Ec P f R B n K ops l (Au σ dst (.int .i64 (ls.getD i' 0))) Γ Ms) (hx : ev σ x = .pointer (some ⟨bk, o + i' * 1, none⟩) := by exact A5) (hFa : IL ls a ∈ Γ ∧ a.1 = some ⟨bk, o, none⟩ := by exact ma0_) (hu : Tab.und P t = some d := by rfl) (hd' : (match d with | .struct _ | .array _ _ => true | _ => false) = false := by rfl) (hlt : i' < ls.length := by omega) (hd : Af n dst = true := by rfl) : Ew P f R B n K ops l (Ch dst (.load t x) ty) σ Γ Ms := Hr (D1w hx hFa.1 hFa.2 hu hd' hlt) hd k_
theorem D7d {t : TypeId} {d : TypeDesc} {bk o i' : Nat} {a : SH} {ls : List Int} (k_ : NV false pn P f R B n K ops fin l (Au σ dst (.int .i64 (ls.getD i' 0))) Γ Ms) (hx : ev σ x = .pointer (some ⟨bk, o + i' * 1, none⟩) := by exact A5) (hFa : IL ls a ∈ Γ ∧ a.1 = some ⟨bk, o, none⟩ := by exact ma0_) (hu : Tab.und P t = some d := by rfl) (hd' : (match d with | .struct _ | .array _ _ => true | _ => false) = false := by rfl) (hlt : i' < ls.length := by omega) (hd : Af n dst = true := by rfl) : L0 false pn P f R B n K ops fin i l dst (.load t x) ty σ Γ Ms := Tl (D1w hx hFa.1 hFa.2 hu hd' hlt) rfl hd k_
theorem C3w {t e : TypeId} {s bt m c k : Nat} {zv : Value} {A : Option Addr} (k_ : NV tn pn P f R B n K ops fin l (Au σ dst (.slice A k c)) Γ Ms) (hx : ev σ x = .slice A m c := by exact A5) (hy : ev σ y = .int .i64 (k : Int) := by exact A5) (hk : k ≤ c := by omega) (hu : Tab.und P t = some (.slice e) := by rfl) (hi : Tab.inf P e = some (s, bt, zv) := by rfl) (hd : Af n dst = true := by rfl) : L0 tn pn P f R B n K ops fin i l dst (.slice t x none (some y) none) ty σ Γ Ms := Dr (B7u hu hi hx hy hk) hd k_
theorem C3v {t e : TypeId} {s bt m k : Nat} {zv : Value} {a : SH} (k_ : NV tn pn P f R B n K ops fin l (Au σ dst (sl (Vj a s k) (m - k))) Γ Ms) (hx : ev σ x = sl a m := by rfl) (hy : ev σ y = .int .i64 (k : Int) := by exact A5) (hk : k ≤ m := by omega) (hu : Tab.und P t = some (.slice e) := by rfl) (hi : Tab.inf P e = some (s, bt, zv) := by rfl) (hd : Af n dst = true := by rfl) : L0 tn pn P f R B n K ops fin i l dst (.slice t x (some y) none none) ty σ Γ Ms := Dr (B7t hu hi hx hy hk) hd k_
theorem D0x {t t' : TypeId} {a b : Nat} (k_ : Ec P f R B n K ops l (Au σ dst (.bool (decide (a < b)))) Γ Ms) (hx : ev σ x = .int .u32 (a : Int) := by exact A5) (hy : ev σ y = .int .u32 (b : Int) := by exact A5) (hd : Af n dst = true := by rfl) : Ew P f R B n K ops l (Ch dst (.binOp .lss t x y t') ty) σ Γ Ms := Be (B0d A2 (B7w hx hy)) hd k_
theorem D1b {t t' : TypeId} {a b : Nat} (k_ : Ec P f R B n K ops l (Au σ dst (.bool (decide (a = b)))) Γ Ms) (hx : ev σ x = .int .u32 (a : Int) := by exact A5) (hy : ev σ y = .int .u32 (b : Int) := by exact A5) (hd : Af n dst = true := by rfl) : Ew P f R B n K ops l (Ch dst (.binOp .eql t x y t') ty) σ Γ Ms := Be (B0d A2 (A9v hx hy)) hd k_
theorem E4m {t t' : TypeId} {a b : Nat} (k_ : Ec P f R B n K ops l (Au σ dst (.bool (decide (a ≠ b)))) Γ Ms) (hx : ev σ x = .int .u32 (a : Int) := by exact A5) (hy : ev σ y = .int .u32 (b : Int) := by exact A5) (hd : Af n dst = true := by rfl) : Ew P f R B n K ops l (Ch dst (.binOp .neq t x y t') ty) σ Γ Ms := Be (B0d A2 (B7v hx hy)) hd k_
theorem D8z {t e T' : TypeId} {ts : Array TypeId} {sz bt n' m c b : Nat} {zv : Value} {a : SH} {xs cs : List Value} (k_ : ∀ a' : SH, NV tn pn P f R B n K ops fin l (Au σ dst (sl a' (n' + m))) Γ (Av sz e a' (n' + m) (xs ++ cs) :: Ae b cs T' :: Ms2)) (hm : Ms.Perm (Av sz e a n' xs :: Ae b cs T' :: Ms2) := by first | exact Wr | exact Ah | exact C3 | exact Eb | exact Ea | exact Dw | exact Cr) (hx : ev σ x = sl a n' := by rfl) (hy : ev σ y = .slice (some ⟨b, 0, none⟩) m c := by exact A5) (hts : ts = #[t, t] := by rfl) (hu : Tab.und P t = some (.slice e) := by rfl) (hi : Tab.inf P e = some (sz, bt, zv) := by rfl) (hzs : zv.cells.size = sz := by rfl) (hsz : 0 < sz := by exact Nat.le_of_ble_eq_true rfl) (hl : cs.length = m * sz := by rfl) (h1 : K1 cs = true := by rfl) (hb : (n' + m) * bt ≤ 140737488355328 := by first | omega | (unfold reach at *; omega) | (unfold reach Gd at *; omega)) (hnm : n' + m ≤ 9223372036854775807 := by first | omega | (unfold reach at *; omega) | (unfold reach Gd at *; omega)) (hd : Af n dst = true := by rfl) : L0 tn pn P f R B n K ops fin i l dst (.call { callee := .builtin .append, args := #[x, y], argTypes := ts }) ty σ Γ Ms := C2c (r := [Av sz e a n' xs, Ae b cs T']) (r' := fun a' => [Av sz e a' (n' + m) (xs ++ cs), Ae b cs T']) (fun M => C0k (List.Perm.refl _) hx hy hts hu hi hzs hsz hl h1 hb hnm) rfl hd hm k_
theorem C0m {t e : TypeId} {ts : Array TypeId} {bt n' : Nat} {zv : Value} {a b : SH} {xs : List Value} {ls : List Cl} (k_ : ∀ a' : SH, NV tn pn P f R B n K ops fin l (Au σ dst (sl a' (n' + ls.length))) Γ (Av 2 e a' (n' + ls.length) (xs ++ Ab ls) :: Ms2)) (hF : CL ls b ∈ Γ) (hm : Ms.Perm (Av 2 e a n' xs :: Ms2) := by first | exact Wr | exact Ah | exact C3 | exact Eb | exact Ea | exact Dw | exact Cr) (hx : ev σ x = sl a n' := by rfl) (hy : ev σ y = sl b ls.length := by rfl) (hts : ts = #[t, t] := by rfl) (hu : Tab.und P t = some (.slice e) := by rfl) (hi : Tab.inf P e = some (2, bt, zv) := by rfl) (hzs : zv.cells.size = 2 := by rfl) (hb : (n' + ls.length) * bt ≤ 140737488355328 := by first | omega | (unfold reach at *; omega) | (unfold reach Gd at *; omega)) (hnm : n' + ls.length ≤ 9223372036854775807 := by first | omega | (unfold reach at *; omega) | (unfold reach Gd at *; omega)) (hd : Af n dst = true := by rfl) : L0 tn pn P f R B n K ops fin i l dst (.call { callee := .builtin .append, args := #[x, y], argTypes := ts }) ty σ Γ Ms := C2c (r := [Av 2 e a n' xs]) (r' := fun a' => [Av 2 e a' (n' + ls.length) (xs ++ Ab ls)]) (fun M => B2e (List.Perm.refl _) hF hx hy hts hu hi hzs hb hnm) rfl hd hm k_
end
section
variable {tn : Bool} {pn : Nat} {P : Program} [Tab P] {f : FuncId} {R : Ending → World → Prop} {B : Cu} {n : Fz} {K : List Item} {ops : Array Oper} {i : Nat} {l fin : List Nat} {σ : Nat → Value} {Γ : List Fact} {Ms Ms2 : List Bj}
variable {dst : Option Tmp} {op : Op} {ty : TypeId} {pos : String} {after : Array Edge} {v : Value} {x y z : Operand}
theorem C2a {t : TypeId} {d : TypeDesc} {bk k : Nat} {cs : List Value} (k_ : Ec P f R B n K ops l (Au σ dst v) Γ Ms) (hx : ev σ x = .pointer (some ⟨bk, k, none⟩) := by exact A5) (hF : At bk 0 cs ∈ Γ := by repeat (first | exact List.mem_cons_self | apply List.mem_cons_of_mem)) (hu : Tab.und P t = some d := by rfl) (hd' : (match d with | .struct _ | .array _ _ => true | _ => false) = false := by rfl) (hk : cs[k]? = some v := by exact A5) (hd : Af n dst = true := by rfl) : Ew P f R B n K ops l (Ch dst (.load t x) ty) σ Γ Ms := Hr (D1v (o := 0) (by rw [Nat.zero_add]; exact hx) hF hu hd' hk) hd k_
theorem T4 {t : TypeId} {d : TypeDesc} {bk k : Nat} {cs : List Value} (k_ : NV tn pn P f R B n K ops fin l (Au σ dst v) Γ Ms) (hx : ev σ x = .pointer (some ⟨bk, k, none⟩) := by exact A5) (hF : At bk 0 cs ∈ Γ := by repeat (first | exact List.mem_cons_self | apply List.mem_cons_of_mem)) (hu : Tab.und P t = some d := by rfl) (hd' : (match d with | .struct _ | .array _ _ => true | _ => false) = false := by rfl) (hk : cs[k]? = some v := by exact A5) (hd : Af n dst = true := by rfl) : L0 tn pn P f R B n K ops fin i l dst (.load t x) ty σ Γ Ms := Wy (D1v (o := 0) (by rw [Nat.zero_add]; exact hx) hF hu hd' hk) rfl hd k_
theorem B0b {t : TypeId} {l' : List (Nat × Nat)} {s bt bk k : Nat} {zv : Value} {cs cs' : List Value} (k_ : Ec P f R B n K ops l (Au σ dst (.agg cs'.toArray)) Γ Ms) (hx : ev σ x = .pointer (some ⟨bk, k, none⟩) := by exact A5) (hF : At bk 0 cs ∈ Γ := by repeat (first | exact List.mem_cons_self | apply List.mem_cons_of_mem)) (hu : Tab.lay P t = some l' := by rfl) (hi : Tab.inf P t = some (s, bt, zv) := by rfl) (hk : (cs.drop k).take s = cs' := by rfl) (hl : cs'.length = s := by rfl) (hd : Af n dst = true := by rfl) : Ew P f R B n K ops l (Ch dst (.load t x) ty) σ Γ Ms := Hr (D1z (o := 0) (by rw [Nat.zero_add]; exact hx) hF hu hi hk hl) hd k_
theorem E2t {t : TypeId} {l' : List (Nat × Nat)} {s bt bk k : Nat} {zv : Value} {cs cs' : List Value} (k_ : NV tn pn P f R B n K ops fin l (Au σ dst (.agg cs'.toArray)) Γ Ms) (hx : ev σ x = .pointer (some ⟨bk, k, none⟩) := by exact A5) (hF : At bk 0 cs ∈ Γ := by repeat (first | exact List.mem_cons_self | apply List.mem_cons_of_mem)) (hu : Tab.lay P t = some l' := by rfl) (hi : Tab.inf P t = some (s, bt, zv) := by rfl) (hk : (cs.drop k).take s = cs' := by rfl) (hl : cs'.length = s := by rfl) (hd : Af n dst = true := by rfl) : L0 tn pn P f R B n K ops fin i l dst (.load t x) ty σ Γ Ms := Wy (D1z (o := 0) (by rw [Nat.zero_add]; exact hx) hF hu hi hk hl) rfl hd k_
end
section
variable {α : Type}
def D6w (E : α → Fact) (l : List α) : Fact := ⟨fun ok w => ∀ x, x ∈ l → (E x).f ok w, fun _ _ _ hs h x hx => (E x).mono _ _ _ hs (h x hx), fun _ _ _ h hs x hx => (E x).loc _ _ _ (h x hx) hs⟩
def A5f (sz bt : Nat) (F : α → List Value) (E : α → Fact) (d : α) (l : List α) (a : SH) : Fact := ⟨fun ok w => rowAt ok sz bt l.length a (fun i => F (l.getD i d)) w ∧ ∀ x, x ∈ l → (E x).f ok w,
 fun _ _ _ hs h => ⟨h.1.mono hs, fun x hx => (E x).mono _ _ _ hs (h.2 x hx)⟩, fun _ _ _ h hs => ⟨h.1.loc hs, fun x hx => (E x).loc _ _ _ (h.2 x hx) hs⟩⟩
variable {B : Cu} {Γ : List Fact} {Ms : List Bj} {w : World} {E : α → Fact} {F : α → List Value} {sz bt n : Nat} {d : α} {l : List α} {a : SH}
theorem St.B9v (E : α → Fact) (hs : St B Γ Ms w) : St B (D6w E [] :: Γ) Ms w := hs.add (fun x hx => by cases hx)
theorem St.A4e {x : α} (hs : St B Γ Ms w) (h1 : D6w E l ∈ Γ) (h2 : E x ∈ Γ) : St B (D6w E (l ++ [x]) :: Γ) Ms w := by
 refine hs.add (fun y hy => ?_)
 rcases List.mem_append.mp hy with hy | hy
 ·exact hs.facts _ h1 y hy
 ·rw [List.mem_singleton] at hy; subst hy; exact hs.facts _ h2
theorem St.Y8 {e : TypeId} {xs : List Value} (hF : ∀ x, (F x).length = sz) (hs : St B Γ (Av sz e a n xs :: Ms) w) {hBp : Prop} (hB : hBp) (hA : D6w E l ∈ Γ) (hx : xs = l.flatMap F) (hn : n = l.length) (hb : n * bt ≤ reach) : St B (A5f sz bt F E d l a :: Γ) Ms w := by
 subst hx
 have hrow := hs.Tc (F := ⟨fun ok w => rowAt ok sz bt n a (fun i => F (l.getD i d)) w, fun _ _ _ hs h => h.mono hs, fun _ _ _ h hs => h.loc hs⟩) hB (fun ok hok hh => Qi (F := F) hF d (hh : World.ownsRow _ _ _ _ _ _ _) hn hb hok)
 have hr2 := hrow.facts _ List.mem_cons_self
 have h3 := hrow.facts _ (List.mem_cons_of_mem _ hA)
 exact hs.drop.add ⟨hn ▸ hr2, h3⟩
theorem St.D5k (hs : St B Γ Ms w) (hF : A5f sz bt F E d l a ∈ Γ) : l.length * bt ≤ reach ∧ (0 < l.length → ∃ b o, a.1 = some ⟨b, o, Option.none⟩) := by
 obtain ⟨h2, _⟩ := hs.facts _ hF
 exact ⟨h2.2.1, fun hn => by obtain ⟨b, o, h3, _⟩ := h2.2.2 hn; exact ⟨b, o, h3⟩⟩
theorem St.D4u {i : Nat} (hs : St B Γ Ms w) (hF : A5f sz bt F E d l a ∈ Γ) (hi : i < l.length) : St B (E (l.getD i d) :: Γ) Ms w := hs.add ((hs.facts _ hF).2 _ (Ac hi))
end
section
variable {α : Type} {P : Program} {f : FuncId} {R : Ending → World → Prop} {B : Cu} {n : Fz} {todo : List Item} {σ : Nat → Value} {Γ : List Fact} {Ms : List Bj} {E : α → Fact} {F : α → List Value} {sz bt : Nat} {d : α} {l : List α} {a : SH}
theorem A3f (hF : A5f sz bt F E d l a ∈ Γ) (k : l.length * bt ≤ reach → (0 < l.length → ∃ b o, a.1 = some ⟨b, o, none⟩) → Fs P f R B n todo σ Γ Ms) : Fs P f R B n todo σ Γ Ms := Bz (p := l.length * bt ≤ reach ∧ (0 < l.length → ∃ b o, a.1 = some ⟨b, o, none⟩)) (fun w hs => hs.D5k hF) (fun h => k h.1 h.2)
theorem C2q (hF : A5f sz bt F E d l a ∈ Γ) (i : Nat) (hi : i < l.length) (k : Fs P f R B n todo σ (E (l.getD i d) :: Γ) Ms) : Fs P f R B n todo σ Γ Ms := A0 (fun w hs => hs.D4u hF hi) k
variable [Tab P] {x y : Operand} {v : Value} {ty : TypeId}
theorem D6b {t : TypeId} {lay : List (Nat × Nat)} {bt' bk o i : Nat} {zv : Value} (hFs : ∀ x, (F x).length = sz) (hx : ev σ x = .pointer (some ⟨bk, o + i * sz, none⟩)) (hF : A5f sz bt F E d l a ∈ Γ) (ha : a.1 = some ⟨bk, o, none⟩) (hu : Tab.lay P t = some lay) (hi : Tab.inf P t = some (sz, bt', zv)) (hlt : i < l.length) :
  Kz P B σ Γ Ms (.load t x) ty (.agg (F (l.getD i d)).toArray) := fun w hs => by
 have h3 := (J7 (hs.facts _ hF).1 ha hlt).2
 have h4 := E7 (P := P) (bk := bk) (off := o + i * sz) (w := w) hu hi (cs := F (l.getD i d)) (hFs _) h3
 simp [Ch, execOp, hx, Instr.loadAt, Instr.sureAddr, h4]
theorem D6c {t : TypeId} {d' : TypeDesc} {bk o i k : Nat} (hx : ev σ x = .pointer (some ⟨bk, o + i * sz + k, none⟩)) (hF : A5f sz bt F E d l a ∈ Γ) (ha : a.1 = some ⟨bk, o, none⟩) (hu : Tab.und P t = some d') (hd : (match d' with | .struct _ | .array _ _ => true | _ => false) = false) (hk : (F (l.getD i d))[k]? = some v) (hlt : i < l.length) :
  Kz P B σ Γ Ms (.load t x) ty v := fun w hs => by
 have h3 := (J7 (hs.facts _ hF).1 ha hlt).2 k v hk
 simp [Ch, execOp, hx, Instr.loadAt, Instr.sureAddr, E6 hu hd h3]
theorem D6d {t : TypeId} {d' : TypeDesc} {bk o i : Nat} (hx : ev σ x = .pointer (some ⟨bk, o + i * 1, none⟩)) (hF : A5f 1 bt F E d l a ∈ Γ) (ha : a.1 = some ⟨bk, o, none⟩) (hu : Tab.und P t = some d') (hd : (match d' with | .struct _ | .array _ _ => true | _ => false) = false) (hk : (F (l.getD i d))[0]? = some v) (hlt : i < l.length) :
  Kz P B σ Γ Ms (.load t x) ty v := D6c (k := 0) hx hF ha hu hd hk hlt
end
abbrev QP := TP × Int × Int
def qE (q : QP) : Fact := RT q.1.1 q.1.2.1 q.1.2.2.1 q.1.2.2.2
abbrev IP := List Int × SH
def ipE (p : IP) : Fact := IL p.1 p.2
abbrev CP := List Cl × SH
def Tq (p : CP) : List Value := [sl p.2 p.1.length]
def cp0 : CP := ([], (none, 0))
abbrev cpE (p : CP) : Fact := CL p.1 p.2
abbrev CCF (l : List CP) (a : SH) : Fact := A5f 1 24 Tq cpE cp0 l a
section
variable {B : Cu} {Γ : List Fact} {Ms : List Bj} {w : World}
theorem St.D7v {e : TypeId} {b : Nat} {l : List Cl} {a : SH} (hs : St B Γ (Ae b [sl a l.length] e :: Ms) w) {hBp : Prop} (hB : hBp) (hF : CL l a ∈ Γ) : St B (CCF [(l, a)] (some ⟨b, 0, Option.none⟩, 1) :: Γ) Ms w :=
 ((((hs.Hw (sz := 1) (m := 1) rfl Jp).B9v cpE).A4e (x := (l, a)) List.mem_cons_self (List.mem_cons_of_mem _ hF)).Y8 (F := Tq) (E := cpE) (d := cp0) (bt := 24) (l := [(l, a)]) (fun _ => rfl) hB List.mem_cons_self rfl rfl Jp).less sx_
end
section
variable {P : Program} [Tab P] {B : Cu} {σ : Nat → Value} {Γ : List Fact} {Ms Ms2 : List Bj} {ty : TypeId} {x y z : Operand} {v : Value}
end
section
variable {P : Program} [Tab P] {f : FuncId} {fn : Func} {B : Cu} {n : Fz} {K : List Item} {σ : Nat → Value} {Γ : List Fact} {Ms : List Bj} {X : Type} {val : X → Value} {N : X → List Fact} {Ms1 : X → List Bj}
theorem Da {r t T : Nat} {r2 : Tmp} {b s bt : Nat} {zv v2 : Value} {lay : List (Nat × Nat)} {cs : List Value} (hf : P.funcs[f]? = some fn) (hr : fn.results = #[.cell r t, .tmp r2]) (x : X) (hb : σ r = .pointer (some ⟨b, 0, none⟩)) (hm : Ae b cs T ∈ Ms) (hl : Tab.lay P t = some lay) (hi : Tab.inf P t = some (s, bt, zv)) (hcs : cs.length = s) (h2 : σ r2 = v2) (hv : Value.tuple #[.agg cs.toArray, v2] = val x) (hs : ∀ w, St B Γ Ms w → St B (N x) (Ms1 x) w) (hD : n.defs = [] := by rfl) (hK : okK n.kind := by first | exact .inl rfl | exact .inr rfl) : Fs P f (Ends B val N Ms1) B n (.code .ret :: K) σ Γ Ms :=
 go_ret hf (fun a w ha h => by
  have h1 := ha.get r
  rw [hb] at h1
  have h3 := ha.get r2
  rw [h2] at h3
  have h4 := E7 (P := P) (bk := b) (off := 0) (w := w) hl hi hcs (fun j v hj => by rw [Nat.zero_add]; exact Ob h hm j v hj)
  have h1' : (a.tmps[r]?.getD undef) = .pointer (some ⟨b, 0, none⟩) := by simpa [Array.getD_eq_getD_getElem?] using h1
  have h3' : (a.tmps[r2]?.getD undef) = v2 := by simpa [Array.getD_eq_getD_getElem?] using h3
  simp [results, hr, asAddr, h1', h4, h3', ← hv]) (fun w h => ⟨x, rfl, hs w h⟩) hD hK
theorem St.No {w : World} (hs : St B Γ Ms w) : St B (RT t0 (Option.none, 0) (Option.none, 0) (Option.none, 0) :: Γ) Ms w :=
 ((((hs.D3 0).Uf 0).D1k 0).C5w (k := 0) (n := 0) (nm := ⟨#[]⟩) (r := []) (ks := []) (ss := []) (vr := (Option.none, 0)) (vk := (Option.none, 0)) (vs := (Option.none, 0)) (by unfold Ak; omega) (by unfold Ak; omega) (Nat.zero_le _) E5 E5 E5).less (by simp +contextual [t0])
end
section
variable {tn : Bool} {pn : Nat} {P : Program} [Tab P] {f : FuncId} {R : Ending → World → Prop} {B : Cu} {n : Fz} {K : List Item} {ops : Array Oper} {i : Nat} {l fin : List Nat} {σ : Nat → Value} {Γ : List Fact} {Ms Ms2 : List Bj}
variable {dst : Option Tmp} {op : Op} {ty : TypeId} {pos : String} {after : Array Edge} {v : Value} {x y z : Operand}
theorem E0l {t : TypeId} {d : TypeDesc} {bk o i' : Nat} {a : SH} {ls : List CP} (k_ : Ec P f R B n K ops l (Au σ dst v) Γ Ms) (hx : ev σ x = .pointer (some ⟨bk, o + i' * 1, none⟩) := by exact A5) (hFa : CCF ls a ∈ Γ ∧ a.1 = some ⟨bk, o, none⟩ := by exact ma0_) (hu : Tab.und P t = some d := by rfl) (hd' : (match d with | .struct _ | .array _ _ => true | _ => false) = false := by rfl) (hk : (Tq (ls.getD i' cp0))[0]? = some v := by exact A5) (hlt : i' < ls.length := by first | omega | (simp only [List.length_map, List.length_set]; omega) | (simp; omega)) (hd : Af n dst = true := by rfl) : Ew P f R B n K ops l (Ch dst (.load t x) ty) σ Γ Ms := Hr (D6d hx hFa.1 hFa.2 hu hd' hk hlt) hd k_
end
section
variable {tn : Bool} {pn : Nat} {P : Program} [Tab P] {f : FuncId} {R : Ending → World → Prop} {B : Cu} {n : Fz} {K : List Item} {ops : Array Oper} {i : Nat} {l fin : List Nat} {σ : Nat → Value} {Γ : List Fact} {Ms Ms2 : List Bj}
variable {dst : Option Tmp} {op : Op} {ty : TypeId} {pos : String} {after : Array Edge} {v : Value} {x y z : Operand}
theorem D0c {t : TypeId} {a : Int} (hx : ev σ x = .int .i64 a) (h : Ak (-a)) : Cg P σ (.unOp .neg t x) ty (.int .i64 (-a)) := fun w => by
 have e : IntKind.i64.wrap (0 - a) = -a := by rw [wrap64_in (by unfold Ak at *; omega)]; omega
 simp only [Ch, execOp, hx, Op.unary, Op.intArith, e]
 rfl
theorem E4l {t : TypeId} {a : Int} (k_ : Ec P f R B n K ops l (Au σ dst (.int .i64 (-a))) Γ Ms) (hx : ev σ x = .int .i64 a := by exact A5) (h : Ak (-a) := by first | omega | (unfold Ak at *; omega)) (hd : Af n dst = true := by rfl) : Ew P f R B n K ops l (Ch dst (.unOp .neg t x) ty) σ Γ Ms := Be (D0c hx h) hd k_
theorem D7a {t : TypeId} {a : Int} (k_ : NV tn pn P f R B n K ops fin l (Au σ dst (.int .i64 (-a))) Γ Ms) (hx : ev σ x = .int .i64 a := by exact A5) (h : Ak (-a) := by first | omega | (unfold Ak at *; omega)) (hd : Af n dst = true := by rfl) : L0 tn pn P f R B n K ops fin i l dst (.unOp .neg t x) ty σ Γ Ms := Dr (D0c hx h) hd k_
theorem Ym {t t' : TypeId} {k : IntKind} {a b : Int} (k_ : Ec P f R B n K ops l (Au σ dst (.bool true)) Γ Ms) (hx : ev σ x = .int k a := by exact A5) (hy : ev σ y = .int k b := by exact A5) (hp : a = b := by first | omega | (simp; done)) (hd : Af n dst = true := by rfl) : Ew P f R B n K ops l (Ch dst (.binOp .eql t x y t') ty) σ Γ Ms := Be (show Cg P σ (.binOp .eql t x y t') ty (.bool true) from (decide_eq_true hp : decide (a = b) = true) ▸ A9v hx hy) hd k_
theorem C7z {t T' : TypeId} {b s bt : Nat} {zv : Value} {cs cs' : List Value} (k_ : NV tn pn P f R B n K ops fin l σ Γ (Ae b cs' T' :: Ms2)) (hx : ev σ x = .pointer (some ⟨b, 0, none⟩) := by exact A5) (hm : Ms.Perm (Ae b cs T' :: Ms2) := by first | exact Wr | exact Ah | exact C3 | exact Eb | exact Ea | exact Dw | exact Cr | exact Ir | exact I2) (hy : (ev σ y).cells = cs'.toArray := by rfl) (hi : Tab.inf P t = some (s, bt, zv) := by rfl) (hl : cs'.length = s := by rfl) (hl2 : cs.length = s := by rfl) (h1 : K1 cs' = true := by rfl) : L0 tn pn P f R B n K ops fin i l none (.store t x y) ty σ Γ Ms := D1h (r := [Ae b cs T']) (r' := [Ae b cs' T']) (fun M => C8r hx hy (List.Perm.refl _) hi hl hl2 h1) rfl hm k_
end
inductive B9 (α : Type) where
 | ok (a : α)
 | bad (e : Int)
structure Tr (C : Type) where
 own : C → Int → Int → ByteArray → List Cl → B9 (T ⊕ (Int × List Cl))
 B1 : C → List Cl → B9 (Option (List Cl))
 S2 : C → Int × Int → B9 C
section
variable {C : Type} (A : Tr C)
mutual
def Cq : T → C → B9 T
 | .mk k n nm r ks ss, c => match A.own c k n nm r with
  | .bad e => .bad e
  | .ok (.inl u) => .ok u
  | .ok (.inr p) => match Fb k 0 ks c with
   | .bad e => .bad e
   | .ok ks' => match F6 k ss c with
    | .bad e => .bad e
    | .ok ss' => .ok (.mk k p.1 nm p.2 ks' ss')
def Fb (k : Int) : Nat → List T → C → B9 (List T)
 | _, [], _ => .ok []
 | i, t :: ts, c => match A.S2 c (binds k i) with
  | .bad e => .bad e
  | .ok c' => match Cq t c' with
   | .bad e => .bad e
   | .ok t' => match Fb k (i + 1) ts c with
    | .bad e => .bad e
    | .ok ts' => .ok (t' :: ts')
def Ee (k : Int) : List T → C → B9 (List T)
 | [], _ => .ok []
 | t :: ts, c => match A.S2 c (0, more k) with
  | .bad e => .bad e
  | .ok c' => match Cq t c' with
   | .bad e => .bad e
   | .ok t' => match Ee k ts c with
    | .bad e => .bad e
    | .ok ts' => .ok (t' :: ts')
def F6 (k : Int) : List Br → C → B9 (List Br)
 | [], _ => .ok []
 | .mk f ks :: bs, c => match A.B1 c f with
  | .bad e => .bad e
  | .ok none => F6 k bs c
  | .ok (some f') => match Ee k ks c with
   | .bad e => .bad e
   | .ok ks' => match F6 k bs c with
    | .bad e => .bad e
    | .ok bs' => .ok (.mk f' ks' :: bs')
end
variable {A}
def B9.bind {α β : Type} : B9 α → (α → B9 β) → B9 β
 | .ok a, f => f a
 | .bad e, _ => .bad e
theorem B9.Ai {α β : Type} {x : B9 α} {f : α → B9 β} {b : β} (h : x.bind f = .ok b) : ∃ a, x = .ok a ∧ f a = .ok b := by
 cases x with
 | ok a => exact ⟨a, rfl, h⟩
 | bad e => cases h
theorem Mg (t : T) (c : C) : Cq A t c = (A.own c t.kind t.n t.name t.r).bind fun o => match o with
  | .inl u => .ok u
  | .inr p => (Fb A t.kind 0 t.kids c).bind fun ks' => (F6 A t.kind t.sys c).bind fun ss' => .ok (.mk t.kind p.1 t.name p.2 ks' ss') := by
 obtain ⟨k, n, nm, r, ks, ss⟩ := t
 rw [Cq]
 simp only [T.kind, T.n, T.name, T.r, T.kids, T.sys]
 cases A.own c k n nm r with
 | bad e => rfl
 | ok o =>
  cases o with
  | inl u => rfl
  | inr p =>
   simp only [B9.bind]
   cases Fb A k 0 ks c with
   | bad e => rfl
   | ok ks' =>
    cases F6 A k ss c <;> rfl
theorem Gh (k : Int) (i : Nat) (c : C) : Fb A k i [] c = .ok [] := by rw [Fb]
theorem G6 (k : Int) (i : Nat) (t : T) (ts : List T) (c : C) : Fb A k i (t :: ts) c = (A.S2 c (binds k i)).bind fun c' => (Cq A t c').bind fun t' => (Fb A k (i + 1) ts c).bind fun ts' => .ok (t' :: ts') := by
 rw [Fb]
 cases A.S2 c (binds k i) with
 | bad e => rfl
 | ok c' =>
  simp only [B9.bind]
  cases Cq A t c' with
  | bad e => rfl
  | ok t' => simp only; cases Fb A k (i + 1) ts c <;> rfl
theorem Gg (k : Int) (c : C) : Ee A k [] c = .ok [] := by rw [Ee]
theorem G5 (k : Int) (t : T) (ts : List T) (c : C) : Ee A k (t :: ts) c = (A.S2 c (0, more k)).bind fun c' => (Cq A t c').bind fun t' => (Ee A k ts c).bind fun ts' => .ok (t' :: ts') := by
 rw [Ee]
 cases A.S2 c (0, more k) with
 | bad e => rfl
 | ok c' =>
  simp only [B9.bind]
  cases Cq A t c' with
  | bad e => rfl
  | ok t' => simp only; cases Ee A k ts c <;> rfl
theorem G2 (k : Int) (c : C) : F6 A k [] c = .ok [] := by rw [F6]
theorem G7 (k : Int) (b : Br) (bs : List Br) (c : C) : F6 A k (b :: bs) c = (A.B1 c b.B1).bind fun f => match f with
  | none => F6 A k bs c
  | some f' => (Ee A k b.kids c).bind fun ks' => (F6 A k bs c).bind fun bs' => .ok (.mk f' ks' :: bs') := by
 obtain ⟨f, ks⟩ := b
 rw [F6]
 simp only [Br.B1, Br.kids]
 cases A.B1 c f with
 | bad e => rfl
 | ok o =>
  cases o with
  | none => rfl
  | some f' =>
   simp only [B9.bind]
   cases Ee A k ks c with
   | bad e => rfl
   | ok ks' => simp only; cases F6 A k bs c <;> rfl
theorem Uw (k : Int) (c : C) : ∀ (i : Nat) (l : List T) (t : T), Fb A k i (l ++ [t]) c = (Fb A k i l c).bind fun l' => (A.S2 c (binds k ((i + l.length : Nat) : Int))).bind fun c' => (Cq A t c').bind fun t' => .ok (l' ++ [t'])
 | i, [], t => by
  simp only [List.nil_append, G6, Gh, B9.bind, List.length_nil, Nat.add_zero]
 | i, a :: l, t => by
  simp only [List.cons_append, G6, Uw k c (i + 1) l t, List.length_cons]
  rw [show i + 1 + l.length = i + (l.length + 1) by omega]
  cases A.S2 c (binds k i) with
  | bad e => rfl
  | ok c1 =>
   simp only [B9.bind]
   cases Cq A a c1 with
   | bad e => rfl
   | ok a' =>
    simp only
    cases Fb A k (i + 1) l c with
    | bad e => rfl
    | ok l' =>
     simp only
     cases A.S2 c (binds k ((i + (l.length + 1) : Nat) : Int)) with
     | bad e => rfl
     | ok c2 => simp only; cases Cq A t c2 <;> rfl
theorem Uv (k : Int) (c : C) : ∀ (l : List T) (t : T), Ee A k (l ++ [t]) c = (Ee A k l c).bind fun l' => (A.S2 c (0, more k)).bind fun c' => (Cq A t c').bind fun t' => .ok (l' ++ [t'])
 | [], t => by simp only [List.nil_append, G5, Gg, B9.bind]
 | a :: l, t => by
  simp only [List.cons_append, G5, Uv k c l t]
  cases A.S2 c (0, more k) with
  | bad e => rfl
  | ok c1 =>
   simp only [B9.bind]
   cases Cq A a c1 with
   | bad e => rfl
   | ok a' =>
    simp only
    cases Ee A k l c with
    | bad e => rfl
    | ok l' => simp only; cases Cq A t c1 <;> rfl
theorem Qy (k : Int) (c : C) : ∀ (l : List Br) (b : Br), F6 A k (l ++ [b]) c = (F6 A k l c).bind fun l' => (A.B1 c b.B1).bind fun f => match f with
  | none => .ok l'
  | some f' => (Ee A k b.kids c).bind fun ks' => .ok (l' ++ [.mk f' ks'])
 | [], b => by
  simp only [List.nil_append, G7, G2, B9.bind]
 | a :: l, b => by
  simp only [List.cons_append, G7, Qy k c l b]
  cases A.B1 c a.B1 with
  | bad e => rfl
  | ok o =>
   cases o with
   | none => rfl
   | some f' =>
    simp only [B9.bind]
    cases Ee A k a.kids c with
    | bad e => rfl
    | ok ks' =>
     simp only
     cases F6 A k l c with
     | bad e => rfl
     | ok l' =>
      simp only
      cases A.B1 c b.B1 with
      | bad e => rfl
      | ok o2 =>
       cases o2 with
       | none => rfl
       | some f2 => simp only; cases Ee A k b.kids c <;> rfl
theorem A5u {k e : Int} {c : C} : ∀ {l m : List T} {i : Nat}, Fb A k i l c = .bad e → Fb A k i (l ++ m) c = .bad e
 | [], m, i, h => by rw [Gh] at h; cases h
 | a :: l, m, i, h => by
  rw [List.cons_append, G6]
  rw [G6] at h
  cases h1 : A.S2 c (binds k i) with
  | bad e' => rw [h1] at h; exact h
  | ok c1 =>
   rw [h1] at h
   simp only [B9.bind] at h ⊢
   cases h2 : Cq A a c1 with
   | bad e' => rw [h2] at h; exact h
   | ok a' =>
    rw [h2] at h
    simp only at h ⊢
    cases h3 : Fb A k (i + 1) l c with
    | bad e' => rw [h3] at h; rw [A5u h3]; exact h
    | ok l' => rw [h3] at h; cases h
theorem A5r {k e : Int} {c : C} : ∀ {l m : List T}, Ee A k l c = .bad e → Ee A k (l ++ m) c = .bad e
 | [], m, h => by rw [Gg] at h; cases h
 | a :: l, m, h => by
  rw [List.cons_append, G5]
  rw [G5] at h
  cases h1 : A.S2 c (0, more k) with
  | bad e' => rw [h1] at h; exact h
  | ok c1 =>
   rw [h1] at h
   simp only [B9.bind] at h ⊢
   cases h2 : Cq A a c1 with
   | bad e' => rw [h2] at h; exact h
   | ok a' =>
    rw [h2] at h
    simp only at h ⊢
    cases h3 : Ee A k l c with
    | bad e' => rw [h3] at h; rw [A5r h3]; exact h
    | ok l' => rw [h3] at h; cases h
theorem Y3 {k e : Int} {c : C} : ∀ {l m : List Br}, F6 A k l c = .bad e → F6 A k (l ++ m) c = .bad e
 | [], m, h => by rw [G2] at h; cases h
 | a :: l, m, h => by
  rw [List.cons_append, G7]
  rw [G7] at h
  cases h1 : A.B1 c a.B1 with
  | bad e' => rw [h1] at h; exact h
  | ok o =>
   rw [h1] at h
   cases o with
   | none => exact Y3 (l := l) h
   | some f' =>
    simp only [B9.bind] at h ⊢
    cases h2 : Ee A k a.kids c with
    | bad e' => rw [h2] at h; exact h
    | ok a' =>
     rw [h2] at h
     simp only at h ⊢
     cases h3 : F6 A k l c with
     | bad e' => rw [h3] at h; rw [Y3 h3]; exact h
     | ok l' => rw [h3] at h; cases h
theorem Nd {k : Int} {c : C} : ∀ {l l' : List T} {i : Nat}, Fb A k i l c = .ok l' → l'.length = l.length
 | [], l', i, h => by rw [Gh] at h; injection h with h; subst h; rfl
 | a :: l, l', i, h => by
  rw [G6] at h
  obtain ⟨c1, _, h⟩ := B9.Ai h
  obtain ⟨t', _, h⟩ := B9.Ai h
  obtain ⟨ts', h3, h⟩ := B9.Ai h
  injection h with h
  subst h
  simp [Nd h3]
theorem Nc {k : Int} {c : C} : ∀ {l l' : List T}, Ee A k l c = .ok l' → l'.length = l.length
 | [], l', h => by rw [Gg] at h; injection h with h; subst h; rfl
 | a :: l, l', h => by
  rw [G5] at h
  obtain ⟨c1, _, h⟩ := B9.Ai h
  obtain ⟨t', _, h⟩ := B9.Ai h
  obtain ⟨ts', h3, h⟩ := B9.Ai h
  injection h with h
  subst h
  simp [Nc h3]
theorem M1 {k : Int} {c : C} : ∀ {l l' : List Br}, F6 A k l c = .ok l' → l'.length ≤ l.length
 | [], l', h => by rw [G2] at h; injection h with h; subst h; simp
 | a :: l, l', h => by
  rw [G7] at h
  obtain ⟨o, _, h⟩ := B9.Ai h
  cases o with
  | none => have := M1 (l := l) h; simp; omega
  | some f' =>
   obtain ⟨ks', _, h⟩ := B9.Ai h
   obtain ⟨bs', h3, h⟩ := B9.Ai h
   injection h with h
   subst h
   have := M1 h3
   simp; omega
end
end Go.Hy
