/- Contracts of this program's functions and the laws that they need: a separation logic over the machine's rules, one theorem each (partly printed by a program of this repository). -/
import Derived.ArgAppend
import Derived.Test.YtcofpfnnlageaaaGreatP2
import Derived.Test.YtcofpfnnlageaaaGreatP3
namespace Go.Hy
set_option linter.unusedVariables false
set_option linter.unusedSimpArgs false
set_option linter.unusedSectionVars false
set_option linter.unusedVariables false
set_option linter.unusedSectionVars false
theorem nat_dec {P : Program} {σ : Nat → Value} {op : Op} {ty : TypeId} {p q : Prop} [Decidable p] [Decidable q] (h : p ↔ q) (hp : PureE P σ op ty (.bool (decide p))) : PureE P σ op ty (.bool (decide q)) := by
  rwa [decide_eq_decide.mpr h] at hp
/-! Wrappers of further rules (printed by a program of this repository). -/
section
variable {tn : Bool} {P : Program} [Tab P] {f : FuncId} {R : Ending → World → Prop} {B : Base} {n : Nat} {K : List Item} {ops : Array Oper} {i : Nat} {l fin : List Nat} {σ : Nat → Value} {Γ : List Fact} {Ms Ms2 : List Res}
variable {dst : Option Tmp} {op : Op} {ty : TypeId} {pos : String} {after : Array Edge} {v : Value} {x y z : Operand}
theorem o_convUI {s d : TypeId} {a : Nat} (k_ : RgT P f R B n K ops l (putS σ dst (.int .i64 (a : Int))) Γ Ms) (hx : ev σ x = .int .u32 (a : Int) := by first | ((conv => lhs; whnf); done) | rfl) (ha : a < 4294967296 := by first | assumption | omega) (hs : Tab.und P s = some (.int .u32) := by rfl) (hd' : Tab.und P d = some (.int .i64) := by rfl) (hd : dstOk n dst = true := by rfl) : OpT P f R B n K ops l (opr dst (.convert s d x) ty) σ Γ Ms := sq_pure (pe_convUI hs hd' hx ha) hd k_
theorem o_convIU {s d : TypeId} {a : Nat} (k_ : RgT P f R B n K ops l (putS σ dst (.int .u32 (a : Int))) Γ Ms) (hx : ev σ x = .int .i64 (a : Int) := by first | ((conv => lhs; whnf); done) | rfl) (ha : a < 4294967296 := by first | assumption | omega) (hs : Tab.und P s = some (.int .i64) := by rfl) (hd' : Tab.und P d = some (.int .u32) := by rfl) (hd : dstOk n dst = true := by rfl) : OpT P f R B n K ops l (opr dst (.convert s d x) ty) σ Γ Ms := sq_pure (pe_convIU hs hd' hx ha) hd k_
theorem o_ldI {t : TypeId} {d : TypeDesc} {bk o i' : Nat} {a : SH} {ls : List Int} (k_ : RgT P f R B n K ops l (putS σ dst (.int .i64 (ls.getD i' 0))) Γ Ms) (hx : ev σ x = .pointer (some ⟨bk, o + i' * 1, none⟩) := by first | ((conv => lhs; whnf); done) | rfl) (hFa : IL ls a ∈ Γ ∧ a.1 = some ⟨bk, o, none⟩ := by first | exact ⟨List.Mem.head _, by assumption⟩ | exact ⟨List.Mem.tail _ (List.Mem.head _), by assumption⟩ | exact ⟨List.Mem.tail _ (List.Mem.tail _ (List.Mem.head _)), by assumption⟩ | exact ⟨List.Mem.tail _ (List.Mem.tail _ (List.Mem.tail _ (List.Mem.head _))), by assumption⟩ | exact ⟨List.Mem.tail _ (List.Mem.tail _ (List.Mem.tail _ (List.Mem.tail _ (List.Mem.head _)))), by assumption⟩ | exact ⟨List.Mem.tail _ (List.Mem.tail _ (List.Mem.tail _ (List.Mem.tail _ (List.Mem.tail _ (List.Mem.head _))))), by assumption⟩ | exact ⟨List.Mem.tail _ (List.Mem.tail _ (List.Mem.tail _ (List.Mem.tail _ (List.Mem.tail _ (List.Mem.tail _ (List.Mem.head _)))))), by assumption⟩ | exact ⟨List.Mem.tail _ (List.Mem.tail _ (List.Mem.tail _ (List.Mem.tail _ (List.Mem.tail _ (List.Mem.tail _ (List.Mem.tail _ (List.Mem.head _))))))), by assumption⟩ | exact ⟨List.Mem.tail _ (List.Mem.tail _ (List.Mem.tail _ (List.Mem.tail _ (List.Mem.tail _ (List.Mem.tail _ (List.Mem.tail _ (List.Mem.tail _ (List.Mem.head _)))))))), by assumption⟩ | exact ⟨List.Mem.tail _ (List.Mem.tail _ (List.Mem.tail _ (List.Mem.tail _ (List.Mem.tail _ (List.Mem.tail _ (List.Mem.tail _ (List.Mem.tail _ (List.Mem.tail _ (List.Mem.head _))))))))), by assumption⟩ | exact ⟨List.Mem.tail _ (List.Mem.tail _ (List.Mem.tail _ (List.Mem.tail _ (List.Mem.tail _ (List.Mem.tail _ (List.Mem.tail _ (List.Mem.tail _ (List.Mem.tail _ (List.Mem.tail _ (List.Mem.head _)))))))))), by assumption⟩ | exact ⟨List.Mem.tail _ (List.Mem.tail _ (List.Mem.tail _ (List.Mem.tail _ (List.Mem.tail _ (List.Mem.tail _ (List.Mem.tail _ (List.Mem.tail _ (List.Mem.tail _ (List.Mem.tail _ (List.Mem.tail _ (List.Mem.head _))))))))))), by assumption⟩ | exact ⟨List.Mem.tail _ (List.Mem.tail _ (List.Mem.tail _ (List.Mem.tail _ (List.Mem.tail _ (List.Mem.tail _ (List.Mem.tail _ (List.Mem.tail _ (List.Mem.tail _ (List.Mem.tail _ (List.Mem.tail _ (List.Mem.tail _ (List.Mem.head _)))))))))))), by assumption⟩ | exact ⟨List.Mem.tail _ (List.Mem.tail _ (List.Mem.tail _ (List.Mem.tail _ (List.Mem.tail _ (List.Mem.tail _ (List.Mem.tail _ (List.Mem.tail _ (List.Mem.tail _ (List.Mem.tail _ (List.Mem.tail _ (List.Mem.tail _ (List.Mem.tail _ (List.Mem.head _))))))))))))), by assumption⟩) (hu : Tab.und P t = some d := by rfl) (hd' : (match d with | .struct _ | .array _ _ => true | _ => false) = false := by rfl) (hlt : i' < ls.length := by omega) (hd : dstOk n dst = true := by rfl) : OpT P f R B n K ops l (opr dst (.load t x) ty) σ Γ Ms := sq_load (le_int hx hFa.1 hFa.2 hu hd' hlt) hd k_
theorem v_ldI {t : TypeId} {d : TypeDesc} {bk o i' : Nat} {a : SH} {ls : List Int} (k_ : NV false P f R B n K ops fin l (putS σ dst (.int .i64 (ls.getD i' 0))) Γ Ms) (hx : ev σ x = .pointer (some ⟨bk, o + i' * 1, none⟩) := by first | ((conv => lhs; whnf); done) | rfl) (hFa : IL ls a ∈ Γ ∧ a.1 = some ⟨bk, o, none⟩ := by first | exact ⟨List.Mem.head _, by assumption⟩ | exact ⟨List.Mem.tail _ (List.Mem.head _), by assumption⟩ | exact ⟨List.Mem.tail _ (List.Mem.tail _ (List.Mem.head _)), by assumption⟩ | exact ⟨List.Mem.tail _ (List.Mem.tail _ (List.Mem.tail _ (List.Mem.head _))), by assumption⟩ | exact ⟨List.Mem.tail _ (List.Mem.tail _ (List.Mem.tail _ (List.Mem.tail _ (List.Mem.head _)))), by assumption⟩ | exact ⟨List.Mem.tail _ (List.Mem.tail _ (List.Mem.tail _ (List.Mem.tail _ (List.Mem.tail _ (List.Mem.head _))))), by assumption⟩ | exact ⟨List.Mem.tail _ (List.Mem.tail _ (List.Mem.tail _ (List.Mem.tail _ (List.Mem.tail _ (List.Mem.tail _ (List.Mem.head _)))))), by assumption⟩ | exact ⟨List.Mem.tail _ (List.Mem.tail _ (List.Mem.tail _ (List.Mem.tail _ (List.Mem.tail _ (List.Mem.tail _ (List.Mem.tail _ (List.Mem.head _))))))), by assumption⟩ | exact ⟨List.Mem.tail _ (List.Mem.tail _ (List.Mem.tail _ (List.Mem.tail _ (List.Mem.tail _ (List.Mem.tail _ (List.Mem.tail _ (List.Mem.tail _ (List.Mem.head _)))))))), by assumption⟩ | exact ⟨List.Mem.tail _ (List.Mem.tail _ (List.Mem.tail _ (List.Mem.tail _ (List.Mem.tail _ (List.Mem.tail _ (List.Mem.tail _ (List.Mem.tail _ (List.Mem.tail _ (List.Mem.head _))))))))), by assumption⟩ | exact ⟨List.Mem.tail _ (List.Mem.tail _ (List.Mem.tail _ (List.Mem.tail _ (List.Mem.tail _ (List.Mem.tail _ (List.Mem.tail _ (List.Mem.tail _ (List.Mem.tail _ (List.Mem.tail _ (List.Mem.head _)))))))))), by assumption⟩ | exact ⟨List.Mem.tail _ (List.Mem.tail _ (List.Mem.tail _ (List.Mem.tail _ (List.Mem.tail _ (List.Mem.tail _ (List.Mem.tail _ (List.Mem.tail _ (List.Mem.tail _ (List.Mem.tail _ (List.Mem.tail _ (List.Mem.head _))))))))))), by assumption⟩ | exact ⟨List.Mem.tail _ (List.Mem.tail _ (List.Mem.tail _ (List.Mem.tail _ (List.Mem.tail _ (List.Mem.tail _ (List.Mem.tail _ (List.Mem.tail _ (List.Mem.tail _ (List.Mem.tail _ (List.Mem.tail _ (List.Mem.tail _ (List.Mem.head _)))))))))))), by assumption⟩ | exact ⟨List.Mem.tail _ (List.Mem.tail _ (List.Mem.tail _ (List.Mem.tail _ (List.Mem.tail _ (List.Mem.tail _ (List.Mem.tail _ (List.Mem.tail _ (List.Mem.tail _ (List.Mem.tail _ (List.Mem.tail _ (List.Mem.tail _ (List.Mem.tail _ (List.Mem.head _))))))))))))), by assumption⟩) (hu : Tab.und P t = some d := by rfl) (hd' : (match d with | .struct _ | .array _ _ => true | _ => false) = false := by rfl) (hlt : i' < ls.length := by omega) (hd : dstOk n dst = true := by rfl) : NvT false P f R B n K ops fin i l dst (.load t x) ty σ Γ Ms := nv_load (le_int hx hFa.1 hFa.2 hu hd' hlt) rfl hd k_
theorem v_sliceHi {t e : TypeId} {s bt m c k : Nat} {zv : Value} {A : Option Addr} (k_ : NV tn P f R B n K ops fin l (putS σ dst (.slice A k c)) Γ Ms) (hx : ev σ x = .slice A m c := by first | ((conv => lhs; whnf); done) | rfl) (hy : ev σ y = .int .i64 (k : Int) := by first | ((conv => lhs; whnf); done) | rfl) (hk : k ≤ c := by omega) (hu : Tab.und P t = some (.slice e) := by rfl) (hi : Tab.inf P e = some (s, bt, zv) := by rfl) (hd : dstOk n dst = true := by rfl) : NvT tn P f R B n K ops fin i l dst (.slice t x none (some y) none) ty σ Γ Ms := nv_pure (pe_sliceHi hu hi hx hy hk) hd k_
theorem v_sliceLo {t e : TypeId} {s bt m k : Nat} {zv : Value} {a : SH} (k_ : NV tn P f R B n K ops fin l (putS σ dst (sl (dropSH a s k) (m - k))) Γ Ms) (hx : ev σ x = sl a m := by rfl) (hy : ev σ y = .int .i64 (k : Int) := by first | ((conv => lhs; whnf); done) | rfl) (hk : k ≤ m := by omega) (hu : Tab.und P t = some (.slice e) := by rfl) (hi : Tab.inf P e = some (s, bt, zv) := by rfl) (hd : dstOk n dst = true := by rfl) : NvT tn P f R B n K ops fin i l dst (.slice t x (some y) none none) ty σ Γ Ms := nv_pure (pe_sliceLo hu hi hx hy hk) hd k_
theorem o_lssU {t t' : TypeId} {a b : Nat} (k_ : RgT P f R B n K ops l (putS σ dst (.bool (decide (a < b)))) Γ Ms) (hx : ev σ x = .int .u32 (a : Int) := by first | ((conv => lhs; whnf); done) | rfl) (hy : ev σ y = .int .u32 (b : Int) := by first | ((conv => lhs; whnf); done) | rfl) (hd : dstOk n dst = true := by rfl) : OpT P f R B n K ops l (opr dst (.binOp .lss t x y t') ty) σ Γ Ms := sq_pure (nat_dec (by omega) (pe_lss hx hy)) hd k_
theorem o_eqU {t t' : TypeId} {a b : Nat} (k_ : RgT P f R B n K ops l (putS σ dst (.bool (decide (a = b)))) Γ Ms) (hx : ev σ x = .int .u32 (a : Int) := by first | ((conv => lhs; whnf); done) | rfl) (hy : ev σ y = .int .u32 (b : Int) := by first | ((conv => lhs; whnf); done) | rfl) (hd : dstOk n dst = true := by rfl) : OpT P f R B n K ops l (opr dst (.binOp .eql t x y t') ty) σ Γ Ms := sq_pure (nat_dec (by omega) (pe_eqI hx hy)) hd k_
theorem t_appS {t e T' : TypeId} {ts : Array TypeId} {sz bt n' m c b : Nat} {zv : Value} {a : SH} {xs cs : List Value} (k_ : ∀ a' : SH, NV true P f R B n K ops fin l (putS σ dst (sl a' (n' + m))) Γ (rowS sz e a' (n' + m) (xs ++ cs) :: boxR b cs T' :: Ms2)) (hm : Ms.Perm (rowS sz e a n' xs :: boxR b cs T' :: Ms2) := by first | exact perm0 | exact perm1 | exact perm2 | exact perm3 | exact perm4 | exact perm5 | exact perm6) (hx : ev σ x = sl a n' := by rfl) (hy : ev σ y = .slice (some ⟨b, 0, none⟩) m c := by first | ((conv => lhs; whnf); done) | rfl) (hts : ts = #[t, t] := by rfl) (hu : Tab.und P t = some (.slice e) := by rfl) (hi : Tab.inf P e = some (sz, bt, zv) := by rfl) (hzs : zv.cells.size = sz := by rfl) (hsz : 0 < sz := by exact Nat.le_of_ble_eq_true rfl) (hl : cs.length = m * sz := by rfl) (h1 : oneCells cs = true := by rfl) (hb : (n' + m) * bt ≤ 140737488355328 := by first | omega | (unfold reach at *; omega) | (unfold reach cap47 at *; omega)) (hnm : n' + m ≤ 9223372036854775807 := by first | omega | (unfold reach at *; omega) | (unfold reach cap47 at *; omega)) (hd : dstOk n dst = true := by rfl) : NvT true P f R B n K ops fin i l dst (.call { callee := .builtin .append, args := #[x, y], argTypes := ts }) ty σ Γ Ms := nv_turn (r := [rowS sz e a n' xs, boxR b cs T']) (r' := fun a' => [rowS sz e a' (n' + m) (xs ++ cs), boxR b cs T']) (fun M => te_appS (List.Perm.refl _) hx hy hts hu hi hzs hsz hl h1 hb hnm) rfl hd hm k_
theorem t_appCL {t e : TypeId} {ts : Array TypeId} {bt n' : Nat} {zv : Value} {a b : SH} {xs : List Value} {ls : List Cl} (k_ : ∀ a' : SH, NV true P f R B n K ops fin l (putS σ dst (sl a' (n' + ls.length))) Γ (rowS 2 e a' (n' + ls.length) (xs ++ clFlat ls) :: Ms2)) (hF : CL ls b ∈ Γ) (hm : Ms.Perm (rowS 2 e a n' xs :: Ms2) := by first | exact perm0 | exact perm1 | exact perm2 | exact perm3 | exact perm4 | exact perm5 | exact perm6) (hx : ev σ x = sl a n' := by rfl) (hy : ev σ y = sl b ls.length := by rfl) (hts : ts = #[t, t] := by rfl) (hu : Tab.und P t = some (.slice e) := by rfl) (hi : Tab.inf P e = some (2, bt, zv) := by rfl) (hzs : zv.cells.size = 2 := by rfl) (hb : (n' + ls.length) * bt ≤ 140737488355328 := by first | omega | (unfold reach at *; omega) | (unfold reach cap47 at *; omega)) (hnm : n' + ls.length ≤ 9223372036854775807 := by first | omega | (unfold reach at *; omega) | (unfold reach cap47 at *; omega)) (hd : dstOk n dst = true := by rfl) : NvT true P f R B n K ops fin i l dst (.call { callee := .builtin .append, args := #[x, y], argTypes := ts }) ty σ Γ Ms := nv_turn (r := [rowS 2 e a n' xs]) (r' := fun a' => [rowS 2 e a' (n' + ls.length) (xs ++ clFlat ls)]) (fun M => te_appCL (List.Perm.refl _) hF hx hy hts hu hi hzs hb hnm) rfl hd hm k_
end
end Go.Hy
namespace Go.Hy
set_option linter.unusedVariables false
set_option linter.unusedSimpArgs false
set_option linter.unusedSectionVars false
set_option linter.unusedVariables false
set_option linter.unusedSectionVars false
/-! Wrappers of rules for rows of the call's own (printed by a program of this repository). -/
section
variable {tn : Bool} {P : Program} [Tab P] {f : FuncId} {R : Ending → World → Prop} {B : Base} {n : Nat} {K : List Item} {ops : Array Oper} {i : Nat} {l fin : List Nat} {σ : Nat → Value} {Γ : List Fact} {Ms Ms2 : List Res}
variable {dst : Option Tmp} {op : Op} {ty : TypeId} {pos : String} {after : Array Edge} {v : Value} {x y z : Operand}
theorem o_ldRT {t e : TypeId} {l' : List (Nat × Nat)} {bt g i' n' : Nat} {a : SH} {zv : Value} {ls : List TP} (k_ : RgT P f R B n K ops l (putS σ dst (.agg (tpCells (ls.getD i' tp0)).toArray)) Γ Ms) (hx : ev σ x = .pointer (some ⟨g, 0 + i' * 6, none⟩) := by first | ((conv => lhs; whnf); done) | rfl) (hma : rowS 6 e a n' (ls.flatMap tpCells) ∈ Ms ∧ a.1 = some ⟨g, 0, none⟩ := by first | exact ⟨List.Mem.head _, by assumption⟩ | exact ⟨List.Mem.tail _ (List.Mem.head _), by assumption⟩ | exact ⟨List.Mem.tail _ (List.Mem.tail _ (List.Mem.head _)), by assumption⟩ | exact ⟨List.Mem.tail _ (List.Mem.tail _ (List.Mem.tail _ (List.Mem.head _))), by assumption⟩ | exact ⟨List.Mem.tail _ (List.Mem.tail _ (List.Mem.tail _ (List.Mem.tail _ (List.Mem.head _)))), by assumption⟩ | exact ⟨List.Mem.tail _ (List.Mem.tail _ (List.Mem.tail _ (List.Mem.tail _ (List.Mem.tail _ (List.Mem.head _))))), by assumption⟩ | exact ⟨List.Mem.tail _ (List.Mem.tail _ (List.Mem.tail _ (List.Mem.tail _ (List.Mem.tail _ (List.Mem.tail _ (List.Mem.head _)))))), by assumption⟩ | exact ⟨List.Mem.tail _ (List.Mem.tail _ (List.Mem.tail _ (List.Mem.tail _ (List.Mem.tail _ (List.Mem.tail _ (List.Mem.tail _ (List.Mem.head _))))))), by assumption⟩ | exact ⟨List.Mem.tail _ (List.Mem.tail _ (List.Mem.tail _ (List.Mem.tail _ (List.Mem.tail _ (List.Mem.tail _ (List.Mem.tail _ (List.Mem.tail _ (List.Mem.head _)))))))), by assumption⟩ | exact ⟨List.Mem.tail _ (List.Mem.tail _ (List.Mem.tail _ (List.Mem.tail _ (List.Mem.tail _ (List.Mem.tail _ (List.Mem.tail _ (List.Mem.tail _ (List.Mem.tail _ (List.Mem.head _))))))))), by assumption⟩ | exact ⟨List.Mem.tail _ (List.Mem.tail _ (List.Mem.tail _ (List.Mem.tail _ (List.Mem.tail _ (List.Mem.tail _ (List.Mem.tail _ (List.Mem.tail _ (List.Mem.tail _ (List.Mem.tail _ (List.Mem.head _)))))))))), by assumption⟩ | exact ⟨List.Mem.tail _ (List.Mem.tail _ (List.Mem.tail _ (List.Mem.tail _ (List.Mem.tail _ (List.Mem.tail _ (List.Mem.tail _ (List.Mem.tail _ (List.Mem.tail _ (List.Mem.tail _ (List.Mem.tail _ (List.Mem.head _))))))))))), by assumption⟩) (hu : Tab.lay P t = some l' := by rfl) (hi : Tab.inf P t = some (6, bt, zv) := by rfl) (hlt : i' < ls.length := by first | omega | (simp only [List.length_map, List.length_set]; omega) | (simp; omega)) (hd : dstOk n dst = true := by rfl) : OpT P f R B n K ops l (opr dst (.load t x) ty) σ Γ Ms := sq_load (lr_elem (F := tpCells) (fun _ => rfl) tp0 hx hma.1 hma.2 hu hi hlt) hd k_
theorem o_ldRTf {t e : TypeId} {d : TypeDesc} {g i' k n' : Nat} {a : SH} {ls : List TP} (k_ : RgT P f R B n K ops l (putS σ dst v) Γ Ms) (hx : ev σ x = .pointer (some ⟨g, 0 + i' * 6 + k, none⟩) := by first | ((conv => lhs; whnf); done) | rfl) (hma : rowS 6 e a n' (ls.flatMap tpCells) ∈ Ms ∧ a.1 = some ⟨g, 0, none⟩ := by first | exact ⟨List.Mem.head _, by assumption⟩ | exact ⟨List.Mem.tail _ (List.Mem.head _), by assumption⟩ | exact ⟨List.Mem.tail _ (List.Mem.tail _ (List.Mem.head _)), by assumption⟩ | exact ⟨List.Mem.tail _ (List.Mem.tail _ (List.Mem.tail _ (List.Mem.head _))), by assumption⟩ | exact ⟨List.Mem.tail _ (List.Mem.tail _ (List.Mem.tail _ (List.Mem.tail _ (List.Mem.head _)))), by assumption⟩ | exact ⟨List.Mem.tail _ (List.Mem.tail _ (List.Mem.tail _ (List.Mem.tail _ (List.Mem.tail _ (List.Mem.head _))))), by assumption⟩ | exact ⟨List.Mem.tail _ (List.Mem.tail _ (List.Mem.tail _ (List.Mem.tail _ (List.Mem.tail _ (List.Mem.tail _ (List.Mem.head _)))))), by assumption⟩ | exact ⟨List.Mem.tail _ (List.Mem.tail _ (List.Mem.tail _ (List.Mem.tail _ (List.Mem.tail _ (List.Mem.tail _ (List.Mem.tail _ (List.Mem.head _))))))), by assumption⟩ | exact ⟨List.Mem.tail _ (List.Mem.tail _ (List.Mem.tail _ (List.Mem.tail _ (List.Mem.tail _ (List.Mem.tail _ (List.Mem.tail _ (List.Mem.tail _ (List.Mem.head _)))))))), by assumption⟩ | exact ⟨List.Mem.tail _ (List.Mem.tail _ (List.Mem.tail _ (List.Mem.tail _ (List.Mem.tail _ (List.Mem.tail _ (List.Mem.tail _ (List.Mem.tail _ (List.Mem.tail _ (List.Mem.head _))))))))), by assumption⟩ | exact ⟨List.Mem.tail _ (List.Mem.tail _ (List.Mem.tail _ (List.Mem.tail _ (List.Mem.tail _ (List.Mem.tail _ (List.Mem.tail _ (List.Mem.tail _ (List.Mem.tail _ (List.Mem.tail _ (List.Mem.head _)))))))))), by assumption⟩ | exact ⟨List.Mem.tail _ (List.Mem.tail _ (List.Mem.tail _ (List.Mem.tail _ (List.Mem.tail _ (List.Mem.tail _ (List.Mem.tail _ (List.Mem.tail _ (List.Mem.tail _ (List.Mem.tail _ (List.Mem.tail _ (List.Mem.head _))))))))))), by assumption⟩) (hu : Tab.und P t = some d := by rfl) (hd' : (match d with | .struct _ | .array _ _ => true | _ => false) = false := by rfl) (hk : (tpCells (ls.getD i' tp0))[k]? = some v := by first | ((conv => lhs; whnf); done) | rfl) (hlt : i' < ls.length := by first | omega | (simp only [List.length_map, List.length_set]; omega) | (simp; omega)) (hd : dstOk n dst = true := by rfl) : OpT P f R B n K ops l (opr dst (.load t x) ty) σ Γ Ms := sq_load (lr_field (F := tpCells) (fun _ => rfl) tp0 hx hma.1 hma.2 hu hd' hlt hk) hd k_
theorem o_ldRBf {t e : TypeId} {d : TypeDesc} {g i' k n' : Nat} {a : SH} {ls : List BP} (k_ : RgT P f R B n K ops l (putS σ dst v) Γ Ms) (hx : ev σ x = .pointer (some ⟨g, 0 + i' * 2 + k, none⟩) := by first | ((conv => lhs; whnf); done) | rfl) (hma : rowS 2 e a n' (ls.flatMap bpCells) ∈ Ms ∧ a.1 = some ⟨g, 0, none⟩ := by first | exact ⟨List.Mem.head _, by assumption⟩ | exact ⟨List.Mem.tail _ (List.Mem.head _), by assumption⟩ | exact ⟨List.Mem.tail _ (List.Mem.tail _ (List.Mem.head _)), by assumption⟩ | exact ⟨List.Mem.tail _ (List.Mem.tail _ (List.Mem.tail _ (List.Mem.head _))), by assumption⟩ | exact ⟨List.Mem.tail _ (List.Mem.tail _ (List.Mem.tail _ (List.Mem.tail _ (List.Mem.head _)))), by assumption⟩ | exact ⟨List.Mem.tail _ (List.Mem.tail _ (List.Mem.tail _ (List.Mem.tail _ (List.Mem.tail _ (List.Mem.head _))))), by assumption⟩ | exact ⟨List.Mem.tail _ (List.Mem.tail _ (List.Mem.tail _ (List.Mem.tail _ (List.Mem.tail _ (List.Mem.tail _ (List.Mem.head _)))))), by assumption⟩ | exact ⟨List.Mem.tail _ (List.Mem.tail _ (List.Mem.tail _ (List.Mem.tail _ (List.Mem.tail _ (List.Mem.tail _ (List.Mem.tail _ (List.Mem.head _))))))), by assumption⟩ | exact ⟨List.Mem.tail _ (List.Mem.tail _ (List.Mem.tail _ (List.Mem.tail _ (List.Mem.tail _ (List.Mem.tail _ (List.Mem.tail _ (List.Mem.tail _ (List.Mem.head _)))))))), by assumption⟩ | exact ⟨List.Mem.tail _ (List.Mem.tail _ (List.Mem.tail _ (List.Mem.tail _ (List.Mem.tail _ (List.Mem.tail _ (List.Mem.tail _ (List.Mem.tail _ (List.Mem.tail _ (List.Mem.head _))))))))), by assumption⟩ | exact ⟨List.Mem.tail _ (List.Mem.tail _ (List.Mem.tail _ (List.Mem.tail _ (List.Mem.tail _ (List.Mem.tail _ (List.Mem.tail _ (List.Mem.tail _ (List.Mem.tail _ (List.Mem.tail _ (List.Mem.head _)))))))))), by assumption⟩ | exact ⟨List.Mem.tail _ (List.Mem.tail _ (List.Mem.tail _ (List.Mem.tail _ (List.Mem.tail _ (List.Mem.tail _ (List.Mem.tail _ (List.Mem.tail _ (List.Mem.tail _ (List.Mem.tail _ (List.Mem.tail _ (List.Mem.head _))))))))))), by assumption⟩) (hu : Tab.und P t = some d := by rfl) (hd' : (match d with | .struct _ | .array _ _ => true | _ => false) = false := by rfl) (hk : (bpCells (ls.getD i' bp0))[k]? = some v := by first | ((conv => lhs; whnf); done) | rfl) (hlt : i' < ls.length := by first | omega | (simp only [List.length_map, List.length_set]; omega) | (simp; omega)) (hd : dstOk n dst = true := by rfl) : OpT P f R B n K ops l (opr dst (.load t x) ty) σ Γ Ms := sq_load (lr_field (F := bpCells) (fun _ => rfl) bp0 hx hma.1 hma.2 hu hd' hlt hk) hd k_
theorem v_ldRBf {t e : TypeId} {d : TypeDesc} {g i' k n' : Nat} {a : SH} {ls : List BP} (k_ : NV false P f R B n K ops fin l (putS σ dst v) Γ Ms) (hx : ev σ x = .pointer (some ⟨g, 0 + i' * 2 + k, none⟩) := by first | ((conv => lhs; whnf); done) | rfl) (hma : rowS 2 e a n' (ls.flatMap bpCells) ∈ Ms ∧ a.1 = some ⟨g, 0, none⟩ := by first | exact ⟨List.Mem.head _, by assumption⟩ | exact ⟨List.Mem.tail _ (List.Mem.head _), by assumption⟩ | exact ⟨List.Mem.tail _ (List.Mem.tail _ (List.Mem.head _)), by assumption⟩ | exact ⟨List.Mem.tail _ (List.Mem.tail _ (List.Mem.tail _ (List.Mem.head _))), by assumption⟩ | exact ⟨List.Mem.tail _ (List.Mem.tail _ (List.Mem.tail _ (List.Mem.tail _ (List.Mem.head _)))), by assumption⟩ | exact ⟨List.Mem.tail _ (List.Mem.tail _ (List.Mem.tail _ (List.Mem.tail _ (List.Mem.tail _ (List.Mem.head _))))), by assumption⟩ | exact ⟨List.Mem.tail _ (List.Mem.tail _ (List.Mem.tail _ (List.Mem.tail _ (List.Mem.tail _ (List.Mem.tail _ (List.Mem.head _)))))), by assumption⟩ | exact ⟨List.Mem.tail _ (List.Mem.tail _ (List.Mem.tail _ (List.Mem.tail _ (List.Mem.tail _ (List.Mem.tail _ (List.Mem.tail _ (List.Mem.head _))))))), by assumption⟩ | exact ⟨List.Mem.tail _ (List.Mem.tail _ (List.Mem.tail _ (List.Mem.tail _ (List.Mem.tail _ (List.Mem.tail _ (List.Mem.tail _ (List.Mem.tail _ (List.Mem.head _)))))))), by assumption⟩ | exact ⟨List.Mem.tail _ (List.Mem.tail _ (List.Mem.tail _ (List.Mem.tail _ (List.Mem.tail _ (List.Mem.tail _ (List.Mem.tail _ (List.Mem.tail _ (List.Mem.tail _ (List.Mem.head _))))))))), by assumption⟩ | exact ⟨List.Mem.tail _ (List.Mem.tail _ (List.Mem.tail _ (List.Mem.tail _ (List.Mem.tail _ (List.Mem.tail _ (List.Mem.tail _ (List.Mem.tail _ (List.Mem.tail _ (List.Mem.tail _ (List.Mem.head _)))))))))), by assumption⟩ | exact ⟨List.Mem.tail _ (List.Mem.tail _ (List.Mem.tail _ (List.Mem.tail _ (List.Mem.tail _ (List.Mem.tail _ (List.Mem.tail _ (List.Mem.tail _ (List.Mem.tail _ (List.Mem.tail _ (List.Mem.tail _ (List.Mem.head _))))))))))), by assumption⟩) (hu : Tab.und P t = some d := by rfl) (hd' : (match d with | .struct _ | .array _ _ => true | _ => false) = false := by rfl) (hk : (bpCells (ls.getD i' bp0))[k]? = some v := by first | ((conv => lhs; whnf); done) | rfl) (hlt : i' < ls.length := by first | omega | (simp only [List.length_map, List.length_set]; omega) | (simp; omega)) (hd : dstOk n dst = true := by rfl) : NvT false P f R B n K ops fin i l dst (.load t x) ty σ Γ Ms := nv_load (lr_field (F := bpCells) (fun _ => rfl) bp0 hx hma.1 hma.2 hu hd' hlt hk) rfl hd k_
theorem o_ldg {t : TypeId} {d : TypeDesc} {bk k : Nat} {cs : List Value} (k_ : RgT P f R B n K ops l (putS σ dst v) Γ Ms) (hx : ev σ x = .pointer (some ⟨bk, k, none⟩) := by first | ((conv => lhs; whnf); done) | rfl) (hF : At bk 0 cs ∈ Γ := by repeat (first | exact List.mem_cons_self | apply List.mem_cons_of_mem)) (hu : Tab.und P t = some d := by rfl) (hd' : (match d with | .struct _ | .array _ _ => true | _ => false) = false := by rfl) (hk : cs[k]? = some v := by first | ((conv => lhs; whnf); done) | rfl) (hd : dstOk n dst = true := by rfl) : OpT P f R B n K ops l (opr dst (.load t x) ty) σ Γ Ms := sq_load (le_one (o := 0) (by rw [Nat.zero_add]; exact hx) hF hu hd' hk) hd k_
theorem f_ldg {t : TypeId} {d : TypeDesc} {bk k : Nat} {cs : List Value} (k_ : NV tn P f R B n K ops fin l (putS σ dst v) Γ Ms) (hx : ev σ x = .pointer (some ⟨bk, k, none⟩) := by first | ((conv => lhs; whnf); done) | rfl) (hF : At bk 0 cs ∈ Γ := by repeat (first | exact List.mem_cons_self | apply List.mem_cons_of_mem)) (hu : Tab.und P t = some d := by rfl) (hd' : (match d with | .struct _ | .array _ _ => true | _ => false) = false := by rfl) (hk : cs[k]? = some v := by first | ((conv => lhs; whnf); done) | rfl) (hd : dstOk n dst = true := by rfl) : NvT tn P f R B n K ops fin i l dst (.load t x) ty σ Γ Ms := nv_loadF (le_one (o := 0) (by rw [Nat.zero_add]; exact hx) hF hu hd' hk) rfl hd k_
theorem f_ldgs {t : TypeId} {l' : List (Nat × Nat)} {s bt bk k : Nat} {zv : Value} {cs cs' : List Value} (k_ : NV tn P f R B n K ops fin l (putS σ dst (.agg cs'.toArray)) Γ Ms) (hx : ev σ x = .pointer (some ⟨bk, k, none⟩) := by first | ((conv => lhs; whnf); done) | rfl) (hF : At bk 0 cs ∈ Γ := by repeat (first | exact List.mem_cons_self | apply List.mem_cons_of_mem)) (hu : Tab.lay P t = some l' := by rfl) (hi : Tab.inf P t = some (s, bt, zv) := by rfl) (hk : (cs.drop k).take s = cs' := by rfl) (hl : cs'.length = s := by rfl) (hd : dstOk n dst = true := by rfl) : NvT tn P f R B n K ops fin i l dst (.load t x) ty σ Γ Ms := nv_loadF (le_agg (o := 0) (by rw [Nat.zero_add]; exact hx) hF hu hi hk hl) rfl hd k_
end
end Go.Hy
namespace Go.Hy
set_option linter.unusedVariables false
set_option linter.unusedSimpArgs false
set_option linter.unusedSectionVars false
set_option linter.unusedVariables false
set_option linter.unusedSimpArgs false
set_option linter.unusedSectionVars false
/-! ### Rows of any kind of element, known for good -/
section
variable {α : Type}
def AllF (E : α → Fact) (l : List α) : Fact := ⟨fun ok w => ∀ x, x ∈ l → (E x).f ok w, fun _ _ _ hs h x hx => (E x).mono _ _ _ hs (h x hx), fun _ _ _ h hs x hx => (E x).loc _ _ _ (h x hx) hs⟩
def RowF (sz bt : Nat) (F : α → List Value) (E : α → Fact) (d : α) (l : List α) (a : SH) : Fact := ⟨fun ok w => rowAt ok sz bt l.length a (fun i => F (l.getD i d)) w ∧ ∀ x, x ∈ l → (E x).f ok w,
  fun _ _ _ hs h => ⟨h.1.mono hs, fun x hx => (E x).mono _ _ _ hs (h.2 x hx)⟩, fun _ _ _ h hs => ⟨h.1.loc hs, fun x hx => (E x).loc _ _ _ (h.2 x hx) hs⟩⟩
variable {B : Base} {Γ : List Fact} {Ms : List Res} {w : World} {E : α → Fact} {F : α → List Value} {sz bt n : Nat} {d : α} {l : List α} {a : SH}
theorem St.allNil (E : α → Fact) (hs : St B Γ Ms w) : St B (AllF E [] :: Γ) Ms w := hs.add (fun x hx => by cases hx)
theorem St.allAdd {x : α} (hs : St B Γ Ms w) (h1 : AllF E l ∈ Γ) (h2 : E x ∈ Γ) : St B (AllF E (l ++ [x]) :: Γ) Ms w := by
  refine hs.add (fun y hy => ?_)
  rcases List.mem_append.mp hy with hy | hy
  · exact hs.facts _ h1 y hy
  · rw [List.mem_singleton] at hy; subst hy; exact hs.facts _ h2
theorem St.settleRow {e : TypeId} {xs : List Value} (hF : ∀ x, (F x).length = sz) (hs : St B Γ (rowS sz e a n xs :: Ms) w) {hBp : Prop} (hB : hBp) (hA : AllF E l ∈ Γ) (hx : xs = l.flatMap F) (hn : n = l.length) (hb : n * bt ≤ reach) : St B (RowF sz bt F E d l a :: Γ) Ms w := by
  subst hx
  have hrow := hs.settle0 (F := ⟨fun ok w => rowAt ok sz bt n a (fun i => F (l.getD i d)) w, fun _ _ _ hs h => h.mono hs, fun _ _ _ h hs => h.loc hs⟩) hB (fun ok hok hh => own_rowAt (F := F) hF d (hh : World.ownsRow _ _ _ _ _ _ _) hn hb hok)
  have hr2 := hrow.facts _ List.mem_cons_self
  have h3 := hrow.facts _ (List.mem_cons_of_mem _ hA)
  exact hs.drop.add ⟨hn ▸ hr2, h3⟩
theorem St.nilRow (c : Nat) (hs : St B Γ Ms w) : St B (RowF sz bt F E d [] (Option.none, c) :: Γ) Ms w := hs.add ⟨⟨Nat.zero_le _, by simp, fun h => absurd h (by simp)⟩, fun x hx => by cases hx⟩
theorem St.openRow (hs : St B Γ Ms w) (hF : RowF sz bt F E d l a ∈ Γ) : l.length * bt ≤ reach ∧ (0 < l.length → ∃ b o, a.1 = some ⟨b, o, Option.none⟩) := by
  obtain ⟨h2, _⟩ := hs.facts _ hF
  exact ⟨h2.2.1, fun hn => by obtain ⟨b, o, h3, _⟩ := h2.2.2 hn; exact ⟨b, o, h3⟩⟩
theorem St.rowElem {i : Nat} (hs : St B Γ Ms w) (hF : RowF sz bt F E d l a ∈ Γ) (hi : i < l.length) : St B (E (l.getD i d) :: Γ) Ms w := hs.add ((hs.facts _ hF).2 _ (getD_mem hi))
end
section
variable {α : Type} {P : Program} {f : FuncId} {R : Ending → World → Prop} {B : Base} {n : Nat} {todo : List Item} {σ : Nat → Value} {Γ : List Fact} {Ms : List Res} {E : α → Fact} {F : α → List Value} {sz bt : Nat} {d : α} {l : List α} {a : SH}
theorem go_openRow (hF : RowF sz bt F E d l a ∈ Γ) (k : l.length * bt ≤ reach → (0 < l.length → ∃ b o, a.1 = some ⟨b, o, none⟩) → GoT P f R B n todo σ Γ Ms) : GoT P f R B n todo σ Γ Ms := go_know (p := l.length * bt ≤ reach ∧ (0 < l.length → ∃ b o, a.1 = some ⟨b, o, none⟩)) (fun w hs => hs.openRow hF) (fun h => k h.1 h.2)
theorem go_elem (hF : RowF sz bt F E d l a ∈ Γ) (i : Nat) (hi : i < l.length) (k : GoT P f R B n todo σ (E (l.getD i d) :: Γ) Ms) : GoT P f R B n todo σ Γ Ms := go_state (fun w hs => hs.rowElem hF hi) k
variable [Tab P] {x y : Operand} {v : Value} {ty : TypeId}
theorem le_rowE {t : TypeId} {lay : List (Nat × Nat)} {bt' bk o i : Nat} {zv : Value} (hFs : ∀ x, (F x).length = sz) (hx : ev σ x = .pointer (some ⟨bk, o + i * sz, none⟩)) (hF : RowF sz bt F E d l a ∈ Γ) (ha : a.1 = some ⟨bk, o, none⟩) (hu : Tab.lay P t = some lay) (hi : Tab.inf P t = some (sz, bt', zv)) (hlt : i < l.length) :
    LoadE P B σ Γ Ms (.load t x) ty (.agg (F (l.getD i d)).toArray) := fun w hs => by
  have h3 := (row_cells (hs.facts _ hF).1 ha hlt).2
  have h4 := run_loadVar_agg (P := P) (bk := bk) (off := o + i * sz) (w := w) hu hi (cs := F (l.getD i d)) (hFs _) h3
  simp [opr, execOp, hx, Instr.loadAt, Instr.sureAddr, h4]
/-- Some cells of an element, from the k-th on. -/
theorem le_rowS {t : TypeId} {lay : List (Nat × Nat)} {s bt' bk o i k : Nat} {zv : Value} {cs : List Value} (hx : ev σ x = .pointer (some ⟨bk, o + i * sz + k, none⟩)) (hF : RowF sz bt F E d l a ∈ Γ) (ha : a.1 = some ⟨bk, o, none⟩) (hu : Tab.lay P t = some lay) (hi : Tab.inf P t = some (s, bt', zv)) (hlt : i < l.length) (hk : ((F (l.getD i d)).drop k).take s = cs) (hl : cs.length = s) :
    LoadE P B σ Γ Ms (.load t x) ty (.agg cs.toArray) := fun w hs => by
  have h3 := (row_cells (hs.facts _ hF).1 ha hlt).2
  have h4 := run_loadVar_agg (P := P) (bk := bk) (off := o + i * sz + k) (w := w) hu hi (cs := cs) hl (fun j v hj => by
    rw [← hk, List.getElem?_take] at hj
    split at hj
    · rw [List.getElem?_drop] at hj
      have := h3 _ _ hj
      rwa [← Nat.add_assoc] at this
    · cases hj)
  simp [opr, execOp, hx, Instr.loadAt, Instr.sureAddr, h4]
theorem le_rowC {t : TypeId} {d' : TypeDesc} {bk o i k : Nat} (hx : ev σ x = .pointer (some ⟨bk, o + i * sz + k, none⟩)) (hF : RowF sz bt F E d l a ∈ Γ) (ha : a.1 = some ⟨bk, o, none⟩) (hu : Tab.und P t = some d') (hd : (match d' with | .struct _ | .array _ _ => true | _ => false) = false) (hk : (F (l.getD i d))[k]? = some v) (hlt : i < l.length) :
    LoadE P B σ Γ Ms (.load t x) ty v := fun w hs => by
  have h3 := (row_cells (hs.facts _ hF).1 ha hlt).2 k v hk
  simp [opr, execOp, hx, Instr.loadAt, Instr.sureAddr, run_loadVar_one hu hd h3]
theorem le_row1 {t : TypeId} {d' : TypeDesc} {bk o i : Nat} (hx : ev σ x = .pointer (some ⟨bk, o + i * 1, none⟩)) (hF : RowF 1 bt F E d l a ∈ Γ) (ha : a.1 = some ⟨bk, o, none⟩) (hu : Tab.und P t = some d') (hd : (match d' with | .struct _ | .array _ _ => true | _ => false) = false) (hk : (F (l.getD i d))[0]? = some v) (hlt : i < l.length) :
    LoadE P B σ Γ Ms (.load t x) ty v := le_rowC (k := 0) hx hF ha hu hd hk hlt
end
/-! ### Spots and paths -/
abbrev QP := TP × Int × Int
def spCells (q : QP) : List Value := tpCells q.1 ++ [.int .i64 q.2.1, .int .i64 q.2.2]
abbrev spFlat (l : List QP) : List Value := l.flatMap spCells
def qp0 : QP := (tp0, 0, 0)
def qE (q : QP) : Fact := RT q.1.1 q.1.2.1 q.1.2.2.1 q.1.2.2.2
def qer (q : QP) : Part := (q.1.1, q.2)
abbrev SPF (l : List QP) (a : SH) : Fact := RowF 8 120 spCells qE qp0 l a
abbrev IP := List Int × SH
def ipCells (p : IP) : List Value := [sl p.2 p.1.length]
abbrev ipFlat (l : List IP) : List Value := l.flatMap ipCells
def ip0 : IP := ([], (none, 0))
def ipE (p : IP) : Fact := IL p.1 p.2
abbrev IIF (l : List IP) (a : SH) : Fact := RowF 1 24 ipCells ipE ip0 l a
section
variable {B : Base} {Γ : List Fact} {Ms : List Res} {w : World}
theorem St.snocQ {e : TypeId} {a : SH} {n : Nat} {l : List QP} {q : QP} {cs : List Value} (hc : cs = spCells q) (hs : St B Γ (rowS 8 e a n (spFlat l ++ cs) :: Ms) w) : St B Γ (rowS 8 e a n (spFlat (l ++ [q])) :: Ms) w := by
  subst hc
  have h : spFlat (l ++ [q]) = spFlat l ++ spCells q := by simp [spFlat]
  rw [h]; exact hs
theorem St.snocII {e : TypeId} {a : SH} {n : Nat} {l : List IP} {q : IP} {cs : List Value} (hc : cs = ipCells q) (hs : St B Γ (rowS 1 e a n (ipFlat l ++ cs) :: Ms) w) : St B Γ (rowS 1 e a n (ipFlat (l ++ [q])) :: Ms) w := by
  subst hc
  have h : ipFlat (l ++ [q]) = ipFlat l ++ ipCells q := by simp [ipFlat]
  rw [h]; exact hs
theorem St.appFlatI {e : TypeId} {a : SH} {n : Nat} {l m : List Int} (hs : St B Γ (rowS 1 e a n (intFlat l ++ intFlat m) :: Ms) w) : St B Γ (rowS 1 e a n (intFlat (l ++ m)) :: Ms) w := by
  have h : intFlat (l ++ m) = intFlat l ++ intFlat m := by simp [intFlat]
  rw [h]; exact hs
end
end Go.Hy
namespace Go.Hy
set_option linter.unusedVariables false
set_option linter.unusedSimpArgs false
set_option linter.unusedSectionVars false
theorem fill_spot012 {l : List (Nat × Nat)} {zv a b c d e f : Value} {x y : Int} (hl : l = [(0, 6), (6, 1), (7, 1)]) (hz : zv.cells = #[.int .i64 0, .int .i64 0, .string ⟨#[]⟩, .slice none 0 0, .slice none 0 0, .slice none 0 0, .int .i64 0, .int .i64 0]) : Instr.fill (l.toArray[·]?) zv.cells [(0, .agg [a, b, c, d, e, f].toArray), (1, .int .i64 x), (2, .int .i64 y)] = some [a, b, c, d, e, f, .int .i64 x, .int .i64 y].toArray := by
  subst hl; rw [hz]; simp [Instr.fill, Value.cells]
theorem fill_spot0 {l : List (Nat × Nat)} {zv a b c d e f : Value} (hl : l = [(0, 6), (6, 1), (7, 1)]) (hz : zv.cells = #[.int .i64 0, .int .i64 0, .string ⟨#[]⟩, .slice none 0 0, .slice none 0 0, .slice none 0 0, .int .i64 0, .int .i64 0]) : Instr.fill (l.toArray[·]?) zv.cells [(0, .agg [a, b, c, d, e, f].toArray)] = some [a, b, c, d, e, f, .int .i64 0, .int .i64 0].toArray := by
  subst hl; rw [hz]; simp [Instr.fill, Value.cells]
end Go.Hy
namespace Go.Hy
set_option linter.unusedVariables false
set_option linter.unusedSimpArgs false
set_option linter.unusedSectionVars false
set_option linter.unusedVariables false
set_option linter.unusedSimpArgs false
set_option linter.unusedSectionVars false
section
variable {P : Program} [Tab P] {B : Base} {σ : Nat → Value} {Γ : List Fact} {Ms Ms2 : List Res} {ty : TypeId} {x y z : Operand} {v : Value}
theorem pe_nilCheck {ad : Addr} (hx : ev σ x = .pointer (some ad)) : PureE P σ (.nilCheck x) ty (.pointer (some ad)) := fun w => by
  simp [opr, execOp, hx]
/-- A slice with no room behind it. -/
theorem pe_slice3 {t e : TypeId} {s bt m c k : Nat} {zv : Value} {A : Option Addr} (hu : Tab.und P t = some (.slice e)) (hi : Tab.inf P e = some (s, bt, zv)) (hx : ev σ x = .slice A m c) (hy : ev σ y = .int .i64 (k : Int)) (hz : ev σ z = .int .i64 (k : Int)) (hk : k ≤ c) : PureE P σ (.slice t x none (some y) (some z)) ty (.slice A k k) := fun w => by
  have h0 : ∀ a : Option Addr, (a.map fun b : Addr => b.add 0) = a := fun a => by cases a <;> simp [Addr.add_zero']
  simp [opr, execOp, hx, hy, hz, Instr.sliceAt, Instr.slice, Instr.sliceBounds, Instr.sliceBound, asIntOf, run_und0 hu, hk, run_size0 hi, h0]
theorem intFlat_one (l : List Int) : oneCells (intFlat l) = true := by
  unfold oneCells
  rw [List.all_eq_true]
  intro v hv
  obtain ⟨c, _, hc⟩ := List.mem_flatMap.mp hv
  simp only [intCells, List.mem_cons, List.not_mem_nil, or_false] at hc
  rcases hc with rfl; rfl
/-- append to a slice with no room behind it, which a fact tells of: a new row. -/
theorem te_appFull {t e T : TypeId} {ts : Array TypeId} {bt m c b : Nat} {zv : Value} {a : SH} {l : List Int} {cs : List Value} (hF : IL l a ∈ Γ) (hm : Ms.Perm (boxR b cs T :: Ms2)) (hx : ev σ x = .slice a.1 l.length l.length) (hy : ev σ y = .slice (some ⟨b, 0, none⟩) m c) (hts : ts = #[t, t]) (hu : Tab.und P t = some (.slice e)) (hi : Tab.inf P e = some (1, bt, zv)) (hzs : zv.cells.size = 1)
    (hl : cs.length = m) (hm0 : 0 < m) (h1 : oneCells cs = true) (hb : (l.length + m) * bt ≤ 140737488355328) (hnm : l.length + m ≤ 9223372036854775807) :
    TurnE P B σ Γ Ms (.call { callee := .builtin .append, args := #[x, y], argTypes := ts }) ty (fun a' : SH => sl a' (l.length + m)) (fun _ => Γ) (fun a' => rowS 1 e a' (l.length + m) (intFlat l ++ cs) :: boxR b cs T :: Ms2) := fun w hs => by
  have hs' := hs.perm hm
  have hcl : intsAt (okOf B Ms w) l a w := hs.facts _ hF
  have hnews : ∀ j u, cs[j]? = some u → w.cell? ((⟨b, 0, none⟩ : Addr).add j) = some u := fun j u hj => by
    rw [Addr.add_lit, Nat.zero_add]; exact box_cell hs' List.mem_cons_self j u hj
  obtain ⟨i, hi1, hi2, hi3, hi4⟩ := Tab.inf_ok e 1 bt zv hi
  have key : ∃ v' w', (Builtin.append_ #[t, t] ty #[.slice a.1 l.length l.length, .slice (some ⟨b, 0, none⟩) m c]).run P w = .ok v' w' ∧ w'.ownsRow w.heap.size e 1 v' (l.length + m) (intFlat l ++ cs) ∧ w.grownBy w' none := by
    obtain ⟨ao, ac⟩ := a
    cases ao with
    | some ad =>
      refine run_append_arg_grows (P := P) w t ty e i zv 1 bt (Tab.und_ok t _ hu) hi1 hi4 hi2 hi3 hzs (by omega) ad l.length l.length (intFlat l) (flat_len intCells_len l) (fun j u hj => ?_) ⟨b, 0, none⟩ m c cs (by omega) hnews (by omega) (by simpa [maxLen] using hnm) hb
      obtain ⟨h1, h2⟩ := flat_get intCells_len 0 l j u hj
      obtain ⟨bk, o, hbk, _, hrow⟩ := hcl.1.2.2 (by omega)
      injection hbk with hbk
      subst hbk
      have := hrow (j / 1) h1 (j % 1) u h2
      rw [Addr.add_lit]
      rwa [show o + j / 1 * 1 + j % 1 = o + j by omega] at this
    | none =>
      have h0 : l.length = 0 := by
        rcases Nat.eq_zero_or_pos l.length with h | h
        · exact h
        · obtain ⟨bk, o, hbk, _⟩ := hcl.1.2.2 h; cases hbk
      have hl0 : l = [] := List.eq_nil_of_length_eq_zero h0
      subst hl0
      obtain ⟨v', w', hr, h2, h3, _, _⟩ := run_append_own_at (P := P) w w.heap.size t ty e i zv 1 bt (Tab.und_ok t _ hu) hi1 hi4 hi2 hi3 hzs (by omega) (.slice none 0 0) 0 [] ⟨rfl, .inl ⟨rfl, rfl⟩⟩ ⟨b, 0, none⟩ m c cs (by omega) hnews (fun u hu => by have := List.all_eq_true.1 h1 u hu; exact this) (by simpa [maxLen] using hnm) (by simpa using hb) (Nat.le_refl _)
      exact ⟨v', w', hr, h2, h3⟩
  obtain ⟨v', w', hr, h2, h3⟩ := key
  have h2' : w'.ownsRow 0 e 1 v' (l.length + m) (intFlat l ++ cs) := ⟨h2.1, h2.2.imp id (fun ⟨g, cap, cur, q1, q2, q3⟩ => ⟨g, cap, cur, q1, Nat.zero_le _, q3⟩)⟩
  obtain ⟨a', rfl⟩ := owns_sh h2'
  refine ⟨a', w', ?_, ?_⟩
  · subst hts
    simp [opr, execOp, resolve, invoke, builtin, hx, hy, hr]
  · refine hs'.born ⟨h3.os, h3.tape, h3.output, h3.size, fun k hk hn => h3.block k hk (fun e => by cases e)⟩ (fun w2 hw2 => rowR_keeps h2' hw2) (fun k hk => ?_)
    have hk : (sl a' (l.length + m)).ownBlock = some k := hk
    rcases h2.2 with ⟨_, q⟩ | ⟨g, cap, cur, q1, q2, q3, _⟩
    · omega
    · rw [q1] at hk
      have : g = k := by injection hk
      subst this
      exact ⟨(Array.getElem?_eq_some_iff.mp q3).1, q2⟩
/-- append of whole numbers that a fact tells of, to a row of the call's own. -/
theorem te_appIL {t e : TypeId} {ts : Array TypeId} {bt n : Nat} {zv : Value} {a b : SH} {xs : List Value} {l : List Int} (hm : Ms.Perm (rowS 1 e a n xs :: Ms2)) (hF : IL l b ∈ Γ) (hx : ev σ x = sl a n) (hy : ev σ y = sl b l.length) (hts : ts = #[t, t]) (hu : Tab.und P t = some (.slice e)) (hi : Tab.inf P e = some (1, bt, zv)) (hzs : zv.cells.size = 1)
    (hb : (n + l.length) * bt ≤ 140737488355328) (hnm : n + l.length ≤ 9223372036854775807) :
    TurnE P B σ Γ Ms (.call { callee := .builtin .append, args := #[x, y], argTypes := ts }) ty (fun a' : SH => sl a' (n + l.length)) (fun _ => Γ) (fun a' => rowS 1 e a' (n + l.length) (xs ++ intFlat l) :: Ms2) := by
  obtain ⟨bo, bc⟩ := b
  cases bo with
  | some ad =>
    refine te_appendW (m := l.length) hts hu hi hzs (by omega) hx hy hm (fun w hs j u hj => ?_) (flat_len intCells_len l) (intFlat_one l) hb hnm
    obtain ⟨h1, h2⟩ := flat_get intCells_len 0 l j u hj
    have hcl : intsAt (okOf B Ms w) l (some ad, bc) w := hs.facts _ hF
    obtain ⟨bk, o, hbk, _, hrow⟩ := hcl.1.2.2 (by omega)
    injection hbk with hbk
    subst hbk
    have := hrow (j / 1) h1 (j % 1) u h2
    rw [Addr.add_lit]
    rwa [show o + j / 1 * 1 + j % 1 = o + j by omega] at this
  | none =>
    intro w hs
    have hs' := hs.perm hm
    have hcl : intsAt (okOf B Ms w) l (none, bc) w := hs.facts _ hF
    have hl : l.length = 0 := by
      rcases Nat.eq_zero_or_pos l.length with h | h
      · exact h
      · obtain ⟨bk, o, hbk, _⟩ := hcl.1.2.2 h; cases hbk
    have hown : w.ownsRow 0 e 1 (sl a n) n xs := hs'.res _ List.mem_cons_self w (fun _ _ => rfl)
    have hl2 : l = [] := List.eq_nil_of_length_eq_zero hl
    subst hl2
    refine ⟨a, w, ?_, by simpa using hs'⟩
    subst hts
    have hle : n ≤ a.2 := by
      rcases hown.2 with ⟨h1, h2⟩ | ⟨g, cap, cur, h1, _, _, h3, _⟩
      · omega
      · injection h1 with _ _ h1; omega
    obtain ⟨ao, ac⟩ := a
    simp only at hle
    cases ao with
    | none => simp [opr, execOp, resolve, invoke, builtin, hx, hy, sl, Builtin.append_, run_und0 hu, run_size0 hi, Builtin.lenOf, hle, Builtin.firstCells]
    | some ad => simp [opr, execOp, resolve, invoke, builtin, hx, hy, sl, Builtin.append_, run_und0 hu, run_size0 hi, Builtin.lenOf, hle, Builtin.firstCells, storeCells]
/-- Some cells of a variable are written. -/
theorem se_part {t T : TypeId} {b k s bt : Nat} {zv : Value} {cs vs : List Value} (hx : ev σ x = .pointer (some ⟨b, k, none⟩)) (hy : (ev σ y).cells = vs.toArray) (hm : Ms.Perm (boxR b cs T :: Ms2)) (hi : Tab.inf P t = some (s, bt, zv)) (hl : vs.length = s) (h1 : oneCells vs = true) (hk : k + s ≤ cs.length) :
    StoreE P B σ Γ Ms (.store t x y) ty Γ (boxR b (setAt cs k vs) T :: Ms2) := fun w hs => by
  have hs' := hs.perm hm
  have hg : w.heap[b]? = some (.cells cs.toArray T (0, 0)) := hs'.res _ List.mem_cons_self w (fun _ _ => rfl)
  obtain ⟨w', h2, h3, h4⟩ := run_storeMid (P := P) b T k vs 0 cs w hg (by omega) (fun v hv => by have := List.all_eq_true.1 h1 v hv; exact this)
  have hr : (storeVar t ⟨b, k, none⟩ (ev σ y)).run P w = .ok () w' := by
    unfold storeVar
    rw [bind_ok (run_size0 hi w)]
    simp only [hy, List.size_toArray, hl, ne_eq, not_true, if_false]
    exact h2
  refine ⟨w', by simp [opr, execOp, hx, Instr.storeAt, Instr.sureAddr, hr], hs'.turn (h4.mono (fun b' hb => hb)) (fun w2 hw2 => ?_) (fun b' hb => ?_)⟩
  · show w2.heap[b]? = _
    rw [hw2 b rfl]; simpa using h3
  · have hb : b' = b := hb
    subst hb
    exact ⟨(Array.getElem?_eq_some_iff.mp h3).1, .inl rfl⟩
end
section
variable {P : Program} [Tab P] {f : FuncId} {fn : Func} {B : Base} {n : Nat} {K : List Item} {σ : Nat → Value} {Γ : List Fact} {Ms : List Res} {X : Type} {val : X → Value} {N : X → List Fact} {Ms1 : X → List Res}
/-- Two results, of which the first lies in a variable. -/
theorem retCT {r t T : Nat} {r2 : Tmp} {b s bt : Nat} {zv v2 : Value} {lay : List (Nat × Nat)} {cs : List Value} (hf : P.funcs[f]? = some fn) (hr : fn.results = #[.cell r t, .tmp r2]) (x : X) (hb : σ r = .pointer (some ⟨b, 0, none⟩)) (hm : boxR b cs T ∈ Ms) (hl : Tab.lay P t = some lay) (hi : Tab.inf P t = some (s, bt, zv)) (hcs : cs.length = s) (h2 : σ r2 = v2) (hv : Value.tuple #[.agg cs.toArray, v2] = val x) (hs : ∀ w, St B Γ Ms w → St B (N x) (Ms1 x) w) : GoT P f (Ends B val N Ms1) B n (.code .ret :: K) σ Γ Ms :=
  go_ret hf (fun a w ha h => by
    have h1 := ha.get r
    rw [hb] at h1
    have h3 := ha.get r2
    rw [h2] at h3
    have h4 := run_loadVar_agg (P := P) (bk := b) (off := 0) (w := w) hl hi hcs (fun j v hj => by rw [Nat.zero_add]; exact box_cell h hm j v hj)
    have h1' : (a.tmps[r]?.getD undef) = .pointer (some ⟨b, 0, none⟩) := by simpa [Array.getD_eq_getD_getElem?] using h1
    have h3' : (a.tmps[r2]?.getD undef) = v2 := by simpa [Array.getD_eq_getD_getElem?] using h3
    simp [results, hr, asAddr, h1', h4, h3', ← hv]) (fun w h => ⟨x, rfl, hs w h⟩)
theorem St.zeroRT {w : World} (hs : St B Γ Ms w) : St B (RT t0 (Option.none, 0) (Option.none, 0) (Option.none, 0) :: Γ) Ms w :=
  ((((hs.nilCL 0).nilTL 0).nilBL 0).mkRT (k := 0) (n := 0) (nm := ⟨#[]⟩) (r := []) (ks := []) (ss := []) (vr := (Option.none, 0)) (vk := (Option.none, 0)) (vs := (Option.none, 0)) (by unfold in64; omega) (by unfold in64; omega) (Nat.zero_le _) (by simp) (by simp) (by simp)).less (by simp +contextual [t0])
end
end Go.Hy
namespace Go.Hy
set_option linter.unusedVariables false
set_option linter.unusedSimpArgs false
set_option linter.unusedSectionVars false
set_option linter.unusedVariables false
set_option linter.unusedSectionVars false
/-! Wrappers of rules for spots and paths (printed by a program of this repository). -/
section
variable {tn : Bool} {P : Program} [Tab P] {f : FuncId} {R : Ending → World → Prop} {B : Base} {n : Nat} {K : List Item} {ops : Array Oper} {i : Nat} {l fin : List Nat} {σ : Nat → Value} {Γ : List Fact} {Ms Ms2 : List Res}
variable {dst : Option Tmp} {op : Op} {ty : TypeId} {pos : String} {after : Array Edge} {v : Value} {x y z : Operand}
theorem o_nilC {ad : Addr} (k_ : RgT P f R B n K ops l (putS σ dst (.pointer (some ad))) Γ Ms) (hx : ev σ x = .pointer (some ad) := by first | ((conv => lhs; whnf); done) | rfl) (hd : dstOk n dst = true := by rfl) : OpT P f R B n K ops l (opr dst (.nilCheck x) ty) σ Γ Ms := sq_pure (pe_nilCheck hx) hd k_
theorem v_nilC {ad : Addr} (k_ : NV tn P f R B n K ops fin l (putS σ dst (.pointer (some ad))) Γ Ms) (hx : ev σ x = .pointer (some ad) := by first | ((conv => lhs; whnf); done) | rfl) (hd : dstOk n dst = true := by rfl) : NvT tn P f R B n K ops fin i l dst (.nilCheck x) ty σ Γ Ms := nv_pure (pe_nilCheck hx) hd k_
theorem v_slice3 {t e : TypeId} {s bt m c k : Nat} {zv : Value} {A : Option Addr} (k_ : NV tn P f R B n K ops fin l (putS σ dst (.slice A k k)) Γ Ms) (hx : ev σ x = .slice A m c := by first | ((conv => lhs; whnf); done) | rfl) (hy : ev σ y = .int .i64 (k : Int) := by first | ((conv => lhs; whnf); done) | rfl) (hz : ev σ z = .int .i64 (k : Int) := by first | ((conv => lhs; whnf); done) | rfl) (hk : k ≤ c := by omega) (hu : Tab.und P t = some (.slice e) := by rfl) (hi : Tab.inf P e = some (s, bt, zv) := by rfl) (hd : dstOk n dst = true := by rfl) : NvT tn P f R B n K ops fin i l dst (.slice t x none (some y) (some z)) ty σ Γ Ms := nv_pure (pe_slice3 hu hi hx hy hz hk) hd k_
theorem o_ldQ {t : TypeId} {l' : List (Nat × Nat)} {bt bk o i' : Nat} {a : SH} {zv : Value} {ls : List QP} (k_ : RgT P f R B n K ops l (putS σ dst (.agg (spCells (ls.getD i' qp0)).toArray)) Γ Ms) (hx : ev σ x = .pointer (some ⟨bk, o + i' * 8, none⟩) := by first | ((conv => lhs; whnf); done) | rfl) (hFa : SPF ls a ∈ Γ ∧ a.1 = some ⟨bk, o, none⟩ := by first | exact ⟨List.Mem.head _, by assumption⟩ | exact ⟨List.Mem.tail _ (List.Mem.head _), by assumption⟩ | exact ⟨List.Mem.tail _ (List.Mem.tail _ (List.Mem.head _)), by assumption⟩ | exact ⟨List.Mem.tail _ (List.Mem.tail _ (List.Mem.tail _ (List.Mem.head _))), by assumption⟩ | exact ⟨List.Mem.tail _ (List.Mem.tail _ (List.Mem.tail _ (List.Mem.tail _ (List.Mem.head _)))), by assumption⟩ | exact ⟨List.Mem.tail _ (List.Mem.tail _ (List.Mem.tail _ (List.Mem.tail _ (List.Mem.tail _ (List.Mem.head _))))), by assumption⟩ | exact ⟨List.Mem.tail _ (List.Mem.tail _ (List.Mem.tail _ (List.Mem.tail _ (List.Mem.tail _ (List.Mem.tail _ (List.Mem.head _)))))), by assumption⟩ | exact ⟨List.Mem.tail _ (List.Mem.tail _ (List.Mem.tail _ (List.Mem.tail _ (List.Mem.tail _ (List.Mem.tail _ (List.Mem.tail _ (List.Mem.head _))))))), by assumption⟩ | exact ⟨List.Mem.tail _ (List.Mem.tail _ (List.Mem.tail _ (List.Mem.tail _ (List.Mem.tail _ (List.Mem.tail _ (List.Mem.tail _ (List.Mem.tail _ (List.Mem.head _)))))))), by assumption⟩ | exact ⟨List.Mem.tail _ (List.Mem.tail _ (List.Mem.tail _ (List.Mem.tail _ (List.Mem.tail _ (List.Mem.tail _ (List.Mem.tail _ (List.Mem.tail _ (List.Mem.tail _ (List.Mem.head _))))))))), by assumption⟩ | exact ⟨List.Mem.tail _ (List.Mem.tail _ (List.Mem.tail _ (List.Mem.tail _ (List.Mem.tail _ (List.Mem.tail _ (List.Mem.tail _ (List.Mem.tail _ (List.Mem.tail _ (List.Mem.tail _ (List.Mem.head _)))))))))), by assumption⟩ | exact ⟨List.Mem.tail _ (List.Mem.tail _ (List.Mem.tail _ (List.Mem.tail _ (List.Mem.tail _ (List.Mem.tail _ (List.Mem.tail _ (List.Mem.tail _ (List.Mem.tail _ (List.Mem.tail _ (List.Mem.tail _ (List.Mem.head _))))))))))), by assumption⟩ | exact ⟨List.Mem.tail _ (List.Mem.tail _ (List.Mem.tail _ (List.Mem.tail _ (List.Mem.tail _ (List.Mem.tail _ (List.Mem.tail _ (List.Mem.tail _ (List.Mem.tail _ (List.Mem.tail _ (List.Mem.tail _ (List.Mem.tail _ (List.Mem.head _)))))))))))), by assumption⟩ | exact ⟨List.Mem.tail _ (List.Mem.tail _ (List.Mem.tail _ (List.Mem.tail _ (List.Mem.tail _ (List.Mem.tail _ (List.Mem.tail _ (List.Mem.tail _ (List.Mem.tail _ (List.Mem.tail _ (List.Mem.tail _ (List.Mem.tail _ (List.Mem.tail _ (List.Mem.head _))))))))))))), by assumption⟩) (hu : Tab.lay P t = some l' := by rfl) (hi : Tab.inf P t = some (8, bt, zv) := by rfl) (hlt : i' < ls.length := by first | omega | (simp only [List.length_map, List.length_set]; omega) | (simp; omega)) (hd : dstOk n dst = true := by rfl) : OpT P f R B n K ops l (opr dst (.load t x) ty) σ Γ Ms := sq_load (le_rowE (F := spCells) (fun _ => rfl) hx hFa.1 hFa.2 hu hi hlt) hd k_
theorem f_ldQs {t : TypeId} {l' : List (Nat × Nat)} {s bt bk o i' k : Nat} {a : SH} {zv : Value} {cs : List Value} {ls : List QP} (k_ : NV tn P f R B n K ops fin l (putS σ dst (.agg cs.toArray)) Γ Ms) (hx : ev σ x = .pointer (some ⟨bk, o + i' * 8 + k, none⟩) := by first | ((conv => lhs; whnf); done) | rfl) (hFa : SPF ls a ∈ Γ ∧ a.1 = some ⟨bk, o, none⟩ := by first | exact ⟨List.Mem.head _, by assumption⟩ | exact ⟨List.Mem.tail _ (List.Mem.head _), by assumption⟩ | exact ⟨List.Mem.tail _ (List.Mem.tail _ (List.Mem.head _)), by assumption⟩ | exact ⟨List.Mem.tail _ (List.Mem.tail _ (List.Mem.tail _ (List.Mem.head _))), by assumption⟩ | exact ⟨List.Mem.tail _ (List.Mem.tail _ (List.Mem.tail _ (List.Mem.tail _ (List.Mem.head _)))), by assumption⟩ | exact ⟨List.Mem.tail _ (List.Mem.tail _ (List.Mem.tail _ (List.Mem.tail _ (List.Mem.tail _ (List.Mem.head _))))), by assumption⟩ | exact ⟨List.Mem.tail _ (List.Mem.tail _ (List.Mem.tail _ (List.Mem.tail _ (List.Mem.tail _ (List.Mem.tail _ (List.Mem.head _)))))), by assumption⟩ | exact ⟨List.Mem.tail _ (List.Mem.tail _ (List.Mem.tail _ (List.Mem.tail _ (List.Mem.tail _ (List.Mem.tail _ (List.Mem.tail _ (List.Mem.head _))))))), by assumption⟩ | exact ⟨List.Mem.tail _ (List.Mem.tail _ (List.Mem.tail _ (List.Mem.tail _ (List.Mem.tail _ (List.Mem.tail _ (List.Mem.tail _ (List.Mem.tail _ (List.Mem.head _)))))))), by assumption⟩ | exact ⟨List.Mem.tail _ (List.Mem.tail _ (List.Mem.tail _ (List.Mem.tail _ (List.Mem.tail _ (List.Mem.tail _ (List.Mem.tail _ (List.Mem.tail _ (List.Mem.tail _ (List.Mem.head _))))))))), by assumption⟩ | exact ⟨List.Mem.tail _ (List.Mem.tail _ (List.Mem.tail _ (List.Mem.tail _ (List.Mem.tail _ (List.Mem.tail _ (List.Mem.tail _ (List.Mem.tail _ (List.Mem.tail _ (List.Mem.tail _ (List.Mem.head _)))))))))), by assumption⟩ | exact ⟨List.Mem.tail _ (List.Mem.tail _ (List.Mem.tail _ (List.Mem.tail _ (List.Mem.tail _ (List.Mem.tail _ (List.Mem.tail _ (List.Mem.tail _ (List.Mem.tail _ (List.Mem.tail _ (List.Mem.tail _ (List.Mem.head _))))))))))), by assumption⟩ | exact ⟨List.Mem.tail _ (List.Mem.tail _ (List.Mem.tail _ (List.Mem.tail _ (List.Mem.tail _ (List.Mem.tail _ (List.Mem.tail _ (List.Mem.tail _ (List.Mem.tail _ (List.Mem.tail _ (List.Mem.tail _ (List.Mem.tail _ (List.Mem.head _)))))))))))), by assumption⟩ | exact ⟨List.Mem.tail _ (List.Mem.tail _ (List.Mem.tail _ (List.Mem.tail _ (List.Mem.tail _ (List.Mem.tail _ (List.Mem.tail _ (List.Mem.tail _ (List.Mem.tail _ (List.Mem.tail _ (List.Mem.tail _ (List.Mem.tail _ (List.Mem.tail _ (List.Mem.head _))))))))))))), by assumption⟩) (hu : Tab.lay P t = some l' := by rfl) (hi : Tab.inf P t = some (s, bt, zv) := by rfl) (hlt : i' < ls.length := by first | omega | (simp only [List.length_map, List.length_set]; omega) | (simp; omega)) (hk : ((spCells (ls.getD i' qp0)).drop k).take s = cs := by rfl) (hl : cs.length = s := by rfl) (hd : dstOk n dst = true := by rfl) : NvT tn P f R B n K ops fin i l dst (.load t x) ty σ Γ Ms := nv_loadF (le_rowS hx hFa.1 hFa.2 hu hi hlt hk hl) rfl hd k_
theorem f_ldQf {t : TypeId} {d : TypeDesc} {bk o i' k : Nat} {a : SH} {ls : List QP} (k_ : NV tn P f R B n K ops fin l (putS σ dst v) Γ Ms) (hx : ev σ x = .pointer (some ⟨bk, o + i' * 8 + k, none⟩) := by first | ((conv => lhs; whnf); done) | rfl) (hFa : SPF ls a ∈ Γ ∧ a.1 = some ⟨bk, o, none⟩ := by first | exact ⟨List.Mem.head _, by assumption⟩ | exact ⟨List.Mem.tail _ (List.Mem.head _), by assumption⟩ | exact ⟨List.Mem.tail _ (List.Mem.tail _ (List.Mem.head _)), by assumption⟩ | exact ⟨List.Mem.tail _ (List.Mem.tail _ (List.Mem.tail _ (List.Mem.head _))), by assumption⟩ | exact ⟨List.Mem.tail _ (List.Mem.tail _ (List.Mem.tail _ (List.Mem.tail _ (List.Mem.head _)))), by assumption⟩ | exact ⟨List.Mem.tail _ (List.Mem.tail _ (List.Mem.tail _ (List.Mem.tail _ (List.Mem.tail _ (List.Mem.head _))))), by assumption⟩ | exact ⟨List.Mem.tail _ (List.Mem.tail _ (List.Mem.tail _ (List.Mem.tail _ (List.Mem.tail _ (List.Mem.tail _ (List.Mem.head _)))))), by assumption⟩ | exact ⟨List.Mem.tail _ (List.Mem.tail _ (List.Mem.tail _ (List.Mem.tail _ (List.Mem.tail _ (List.Mem.tail _ (List.Mem.tail _ (List.Mem.head _))))))), by assumption⟩ | exact ⟨List.Mem.tail _ (List.Mem.tail _ (List.Mem.tail _ (List.Mem.tail _ (List.Mem.tail _ (List.Mem.tail _ (List.Mem.tail _ (List.Mem.tail _ (List.Mem.head _)))))))), by assumption⟩ | exact ⟨List.Mem.tail _ (List.Mem.tail _ (List.Mem.tail _ (List.Mem.tail _ (List.Mem.tail _ (List.Mem.tail _ (List.Mem.tail _ (List.Mem.tail _ (List.Mem.tail _ (List.Mem.head _))))))))), by assumption⟩ | exact ⟨List.Mem.tail _ (List.Mem.tail _ (List.Mem.tail _ (List.Mem.tail _ (List.Mem.tail _ (List.Mem.tail _ (List.Mem.tail _ (List.Mem.tail _ (List.Mem.tail _ (List.Mem.tail _ (List.Mem.head _)))))))))), by assumption⟩ | exact ⟨List.Mem.tail _ (List.Mem.tail _ (List.Mem.tail _ (List.Mem.tail _ (List.Mem.tail _ (List.Mem.tail _ (List.Mem.tail _ (List.Mem.tail _ (List.Mem.tail _ (List.Mem.tail _ (List.Mem.tail _ (List.Mem.head _))))))))))), by assumption⟩ | exact ⟨List.Mem.tail _ (List.Mem.tail _ (List.Mem.tail _ (List.Mem.tail _ (List.Mem.tail _ (List.Mem.tail _ (List.Mem.tail _ (List.Mem.tail _ (List.Mem.tail _ (List.Mem.tail _ (List.Mem.tail _ (List.Mem.tail _ (List.Mem.head _)))))))))))), by assumption⟩ | exact ⟨List.Mem.tail _ (List.Mem.tail _ (List.Mem.tail _ (List.Mem.tail _ (List.Mem.tail _ (List.Mem.tail _ (List.Mem.tail _ (List.Mem.tail _ (List.Mem.tail _ (List.Mem.tail _ (List.Mem.tail _ (List.Mem.tail _ (List.Mem.tail _ (List.Mem.head _))))))))))))), by assumption⟩) (hu : Tab.und P t = some d := by rfl) (hd' : (match d with | .struct _ | .array _ _ => true | _ => false) = false := by rfl) (hk : (spCells (ls.getD i' qp0))[k]? = some v := by first | ((conv => lhs; whnf); done) | rfl) (hlt : i' < ls.length := by first | omega | (simp only [List.length_map, List.length_set]; omega) | (simp; omega)) (hd : dstOk n dst = true := by rfl) : NvT tn P f R B n K ops fin i l dst (.load t x) ty σ Γ Ms := nv_loadF (le_rowC hx hFa.1 hFa.2 hu hd' hk hlt) rfl hd k_
theorem o_ldII {t : TypeId} {d : TypeDesc} {bk o i' : Nat} {a : SH} {ls : List IP} (k_ : RgT P f R B n K ops l (putS σ dst v) Γ Ms) (hx : ev σ x = .pointer (some ⟨bk, o + i' * 1, none⟩) := by first | ((conv => lhs; whnf); done) | rfl) (hFa : IIF ls a ∈ Γ ∧ a.1 = some ⟨bk, o, none⟩ := by first | exact ⟨List.Mem.head _, by assumption⟩ | exact ⟨List.Mem.tail _ (List.Mem.head _), by assumption⟩ | exact ⟨List.Mem.tail _ (List.Mem.tail _ (List.Mem.head _)), by assumption⟩ | exact ⟨List.Mem.tail _ (List.Mem.tail _ (List.Mem.tail _ (List.Mem.head _))), by assumption⟩ | exact ⟨List.Mem.tail _ (List.Mem.tail _ (List.Mem.tail _ (List.Mem.tail _ (List.Mem.head _)))), by assumption⟩ | exact ⟨List.Mem.tail _ (List.Mem.tail _ (List.Mem.tail _ (List.Mem.tail _ (List.Mem.tail _ (List.Mem.head _))))), by assumption⟩ | exact ⟨List.Mem.tail _ (List.Mem.tail _ (List.Mem.tail _ (List.Mem.tail _ (List.Mem.tail _ (List.Mem.tail _ (List.Mem.head _)))))), by assumption⟩ | exact ⟨List.Mem.tail _ (List.Mem.tail _ (List.Mem.tail _ (List.Mem.tail _ (List.Mem.tail _ (List.Mem.tail _ (List.Mem.tail _ (List.Mem.head _))))))), by assumption⟩ | exact ⟨List.Mem.tail _ (List.Mem.tail _ (List.Mem.tail _ (List.Mem.tail _ (List.Mem.tail _ (List.Mem.tail _ (List.Mem.tail _ (List.Mem.tail _ (List.Mem.head _)))))))), by assumption⟩ | exact ⟨List.Mem.tail _ (List.Mem.tail _ (List.Mem.tail _ (List.Mem.tail _ (List.Mem.tail _ (List.Mem.tail _ (List.Mem.tail _ (List.Mem.tail _ (List.Mem.tail _ (List.Mem.head _))))))))), by assumption⟩ | exact ⟨List.Mem.tail _ (List.Mem.tail _ (List.Mem.tail _ (List.Mem.tail _ (List.Mem.tail _ (List.Mem.tail _ (List.Mem.tail _ (List.Mem.tail _ (List.Mem.tail _ (List.Mem.tail _ (List.Mem.head _)))))))))), by assumption⟩ | exact ⟨List.Mem.tail _ (List.Mem.tail _ (List.Mem.tail _ (List.Mem.tail _ (List.Mem.tail _ (List.Mem.tail _ (List.Mem.tail _ (List.Mem.tail _ (List.Mem.tail _ (List.Mem.tail _ (List.Mem.tail _ (List.Mem.head _))))))))))), by assumption⟩ | exact ⟨List.Mem.tail _ (List.Mem.tail _ (List.Mem.tail _ (List.Mem.tail _ (List.Mem.tail _ (List.Mem.tail _ (List.Mem.tail _ (List.Mem.tail _ (List.Mem.tail _ (List.Mem.tail _ (List.Mem.tail _ (List.Mem.tail _ (List.Mem.head _)))))))))))), by assumption⟩ | exact ⟨List.Mem.tail _ (List.Mem.tail _ (List.Mem.tail _ (List.Mem.tail _ (List.Mem.tail _ (List.Mem.tail _ (List.Mem.tail _ (List.Mem.tail _ (List.Mem.tail _ (List.Mem.tail _ (List.Mem.tail _ (List.Mem.tail _ (List.Mem.tail _ (List.Mem.head _))))))))))))), by assumption⟩) (hu : Tab.und P t = some d := by rfl) (hd' : (match d with | .struct _ | .array _ _ => true | _ => false) = false := by rfl) (hk : (ipCells (ls.getD i' ip0))[0]? = some v := by first | ((conv => lhs; whnf); done) | rfl) (hlt : i' < ls.length := by first | omega | (simp only [List.length_map, List.length_set]; omega) | (simp; omega)) (hd : dstOk n dst = true := by rfl) : OpT P f R B n K ops l (opr dst (.load t x) ty) σ Γ Ms := sq_load (le_row1 hx hFa.1 hFa.2 hu hd' hk hlt) hd k_
theorem o_sreT {t e : TypeId} {bt g i' n' : Nat} {a : SH} {zv : Value} {ls : List TP} (u : TP) (k_ : RgT P f R B n K ops l σ Γ (rowS 6 e a n' ((ls.set i' u).flatMap tpCells) :: Ms2)) (hx : ev σ x = .pointer (some ⟨g, 0 + i' * 6, none⟩) := by first | ((conv => lhs; whnf); done) | rfl) (hm : Ms.Perm (rowS 6 e a n' (ls.flatMap tpCells) :: Ms2) := by first | exact perm0 | exact perm1 | exact perm2 | exact perm3 | exact perm4 | exact perm5 | exact perm6 | exact perm7 | exact perm8) (ha : a.1 = some ⟨g, 0, none⟩ := by assumption) (hn : n' = ls.length := by first | rfl | omega | (simp; done) | (simp; omega)) (hy : (ev σ y).cells = (tpCells u).toArray := by rfl) (hi : Tab.inf P t = some (6, bt, zv) := by rfl) (h1 : oneCells (tpCells u) = true := by rfl) (hlt : i' < ls.length := by first | omega | (simp only [List.length_map, List.length_set]; omega) | (simp; omega)) : OpT P f R B n K ops l (opr none (.store t x y) ty) σ Γ Ms := sq_store (sr_elem (F := tpCells) (fun _ => rfl) u hx hm ha hn hy hi h1 hlt) k_
theorem o_stp {t T' : TypeId} {b k s bt : Nat} {zv : Value} {cs vs cs' : List Value} (k_ : RgT P f R B n K ops l σ Γ (boxR b cs' T' :: Ms2)) (hx : ev σ x = .pointer (some ⟨b, k, none⟩) := by first | ((conv => lhs; whnf); done) | rfl) (hm : Ms.Perm (boxR b cs T' :: Ms2) := by first | exact perm0 | exact perm1 | exact perm2 | exact perm3 | exact perm4 | exact perm5 | exact perm6 | exact perm7 | exact perm8) (hy : (ev σ y).cells = vs.toArray := by rfl) (hi : Tab.inf P t = some (s, bt, zv) := by rfl) (hl : vs.length = s := by rfl) (h1 : oneCells vs = true := by rfl) (hk : k + s ≤ cs.length := by exact Nat.le_of_ble_eq_true rfl) (hc : setAt cs k vs = cs' := by rfl) : OpT P f R B n K ops l (opr none (.store t x y) ty) σ Γ Ms := by
  subst hc
  exact sq_store (se_part hx hy hm hi hl h1 hk) k_
theorem o_appIL {t e : TypeId} {ts : Array TypeId} {bt n' : Nat} {zv : Value} {a b : SH} {xs : List Value} {ls : List Int} (k_ : ∀ a' : SH, RgT P f R B n K ops l (putS σ dst (sl a' (n' + ls.length))) Γ (rowS 1 e a' (n' + ls.length) (xs ++ intFlat ls) :: Ms2)) (hF : IL ls b ∈ Γ) (hm : Ms.Perm (rowS 1 e a n' xs :: Ms2) := by first | exact perm0 | exact perm1 | exact perm2 | exact perm3 | exact perm4 | exact perm5 | exact perm6 | exact perm7 | exact perm8) (hx : ev σ x = sl a n' := by rfl) (hy : ev σ y = sl b ls.length := by rfl) (hts : ts = #[t, t] := by rfl) (hu : Tab.und P t = some (.slice e) := by rfl) (hi : Tab.inf P e = some (1, bt, zv) := by rfl) (hzs : zv.cells.size = 1 := by rfl) (hb : (n' + ls.length) * bt ≤ 140737488355328 := by first | omega | (unfold reach at *; omega) | (simp only [List.length_append, List.length_cons, List.length_nil]; unfold reach at *; omega)) (hnm : n' + ls.length ≤ 9223372036854775807 := by first | omega | (unfold reach at *; omega) | (simp only [List.length_append, List.length_cons, List.length_nil]; unfold reach at *; omega)) (hd : dstOk n dst = true := by rfl) : OpT P f R B n K ops l (opr dst (.call { callee := .builtin .append, args := #[x, y], argTypes := ts }) ty) σ Γ Ms := sq_turn (te_appIL hm hF hx hy hts hu hi hzs hb hnm) hd k_
theorem t_appFull {t e T' : TypeId} {ts : Array TypeId} {bt m c b : Nat} {zv : Value} {a : SH} {ls : List Int} {cs : List Value} (k_ : ∀ a' : SH, NV true P f R B n K ops fin l (putS σ dst (sl a' (ls.length + m))) Γ (rowS 1 e a' (ls.length + m) (intFlat ls ++ cs) :: boxR b cs T' :: Ms2)) (hF : IL ls a ∈ Γ) (hm : Ms.Perm (boxR b cs T' :: Ms2) := by first | exact perm0 | exact perm1 | exact perm2 | exact perm3 | exact perm4 | exact perm5 | exact perm6 | exact perm7 | exact perm8) (hx : ev σ x = .slice a.1 ls.length ls.length := by first | ((conv => lhs; whnf); done) | rfl) (hy : ev σ y = .slice (some ⟨b, 0, none⟩) m c := by first | ((conv => lhs; whnf); done) | rfl) (hts : ts = #[t, t] := by rfl) (hu : Tab.und P t = some (.slice e) := by rfl) (hi : Tab.inf P e = some (1, bt, zv) := by rfl) (hzs : zv.cells.size = 1 := by rfl) (hl : cs.length = m := by rfl) (hm0 : 0 < m := by decide) (h1 : oneCells cs = true := by rfl) (hb : (ls.length + m) * bt ≤ 140737488355328 := by first | omega | (unfold reach at *; omega) | (simp only [List.length_append, List.length_cons, List.length_nil]; unfold reach at *; omega)) (hnm : ls.length + m ≤ 9223372036854775807 := by first | omega | (unfold reach at *; omega) | (simp only [List.length_append, List.length_cons, List.length_nil]; unfold reach at *; omega)) (hd : dstOk n dst = true := by rfl) : NvT true P f R B n K ops fin i l dst (.call { callee := .builtin .append, args := #[x, y], argTypes := ts }) ty σ Γ Ms := nv_turn (r := [boxR b cs T']) (r' := fun a' => [rowS 1 e a' (ls.length + m) (intFlat ls ++ cs), boxR b cs T']) (fun M => te_appFull hF (List.Perm.refl _) hx hy hts hu hi hzs hl hm0 h1 hb hnm) rfl hd hm k_
end
end Go.Hy
namespace Go.Hy
set_option linter.unusedVariables false
set_option linter.unusedSimpArgs false
set_option linter.unusedSectionVars false
set_option linter.unusedVariables false
set_option linter.unusedSimpArgs false
end Go.Hy
namespace Go.Hy
set_option linter.unusedVariables false
set_option linter.unusedSimpArgs false
set_option linter.unusedSectionVars false
theorem take_snoc {α : Type} {l : List α} {i : Nat} {x : α} (h : l[i]? = some x) : l.take (i + 1) = l.take i ++ [x] := by
  rw [List.take_add_one, h]; rfl
theorem sys_le {t : T} {s : Nat} (h : s ≤ t.sys.length) : t.kids.length + sysBefore s t.sys ≤ (parts t).length := by
  rw [parts_length]
  have : ∀ (bs : List Br) (i : Nat), i ≤ bs.length → sysBefore i bs ≤ sysBefore bs.length bs := by
    intro bs
    induction bs with
    | nil => intro i h; simp at h; subst h; exact Nat.le_refl _
    | cons b bs ih =>
      intro i h
      cases i with
      | zero => simp [sysBefore]
      | succ i => have := ih i (by simpa using h); simp only [sysBefore, List.length_cons]; omega
  have := this t.sys s h
  omega
end Go.Hy
namespace Go.Hy
set_option linter.unusedVariables false
set_option linter.unusedSimpArgs false
set_option linter.unusedSectionVars false
theorem size_pos' (t : T) : 1 ≤ size t := by
  rw [size_eq]
  have : ∀ (l : List Part) (a : Nat), a ≤ l.foldl (fun a p => a + size p.1) a := by
    intro l
    induction l with
    | nil => intro a; exact Nat.le_refl _
    | cons p l ih => intro a; exact Nat.le_trans (Nat.le_add_right _ _) (ih _)
  exact this _ _
theorem parts_len (t : T) : (parts t).length < size t := by
  rw [size_eq]
  have : ∀ (l : List Part) (a : Nat), a + l.length ≤ l.foldl (fun a p => a + size p.1) a := by
    intro l
    induction l with
    | nil => intro a; exact Nat.le_refl _
    | cons p l ih => intro a; have h1 := ih (a + size p.1); have h2 := size_pos' p.1; simp only [List.foldl_cons, List.length_cons]; omega
  have := this (parts t) 1
  omega
end Go.Hy
namespace Go.Hy
set_option linter.unusedVariables false
set_option linter.unusedSimpArgs false
set_option linter.unusedSectionVars false
def partAt (t : T) (k : Int) : Option Part := if 0 ≤ k then (parts t)[k.toNat]? else none
def addPt (q s : Part) : Part := (s.1, s.2.1 + q.2.1, s.2.2 + q.2.2)
def getP : T → List Int → Option Part
  | t, [] => some (t, 0, 0)
  | t, k :: p => (partAt t k).bind fun q => (getP q.1 p).map (addPt q)
def getRes (t : T) (p : List Int) : Int × Part := if formedP t ≠ 0 then (formedP t, (t0, 0, 0)) else match getP t p with | none => (90, (t0, 0, 0)) | some s => (0, s)
theorem addPt_zero (t : T) (o : Option Part) : o.map (addPt (t, 0, 0)) = o := by
  cases o with
  | none => rfl
  | some s => simp [addPt]
theorem addPt_add (c q : Part) (o : Option Part) : (o.map (addPt q)).map (addPt c) = o.map (addPt (q.1, c.2.1 + q.2.1, c.2.2 + q.2.2)) := by
  cases o with
  | none => rfl
  | some s => simp only [addPt, Option.map_some]; congr 3 <;> omega
theorem getP_step {c q : Part} {p : List Int} {i m : Nat} (hi : i < p.length) (hm : p.getD i 0 = (m : Int)) (hq : (parts c.1)[m]? = some q) : (getP c.1 (p.drop i)).map (addPt c) = (getP q.1 (p.drop (i + 1))).map (addPt (q.1, c.2.1 + q.2.1, c.2.2 + q.2.2)) := by
  rw [show p.drop i = p.getD i 0 :: p.drop (i + 1) by rw [List.drop_eq_getElem_cons hi, List.getD_eq_getElem?_getD, List.getElem?_eq_getElem hi]; rfl]
  simp only [getP, partAt, hm]
  rw [if_pos (Int.natCast_nonneg _), Int.toNat_natCast, hq]
  exact addPt_add c q _
theorem getP_miss {c : Part} {p : List Int} {i : Nat} (hi : i < p.length) (h : p.getD i 0 < 0 ∨ ((parts c.1).length : Int) ≤ p.getD i 0) : (getP c.1 (p.drop i)).map (addPt c) = none := by
  rw [show p.drop i = p.getD i 0 :: p.drop (i + 1) by rw [List.drop_eq_getElem_cons hi, List.getD_eq_getElem?_getD, List.getElem?_eq_getElem hi]; rfl]
  simp only [getP, partAt]
  split
  · rw [List.getElem?_eq_none (by omega)]; rfl
  · rfl
theorem getP_end {c : Part} {p : List Int} {i : Nat} (hi : i = p.length) : (getP c.1 (p.drop i)).map (addPt c) = some c := by
  rw [hi, List.drop_length]
  simp [getP, addPt]
theorem binds_01 (k i : Int) : 0 ≤ (binds k i).1 ∧ (binds k i).1 ≤ 1 ∧ 0 ≤ (binds k i).2 ∧ (binds k i).2 ≤ 1 := by
  unfold binds
  repeat (first | split | (refine ⟨?_, ?_, ?_, ?_⟩ <;> simp))
theorem parts_01 {t : T} {p : Part} (h : p ∈ parts t) : 0 ≤ p.2.1 ∧ p.2.1 ≤ 1 ∧ 0 ≤ p.2.2 ∧ p.2.2 ≤ 1 := by
  unfold parts at h
  rcases List.mem_append.mp h with h | h
  · have : ∀ (ks : List T) (i : Nat), p ∈ kidParts t.kind i ks → 0 ≤ p.2.1 ∧ p.2.1 ≤ 1 ∧ 0 ≤ p.2.2 ∧ p.2.2 ≤ 1 := by
      intro ks
      induction ks with
      | nil => intro i h; simp [kidParts] at h
      | cons k ks ih =>
        intro i h
        rcases List.mem_cons.mp h with e | h
        · subst e; exact binds_01 _ _
        · exact ih _ h
    exact this _ _ h
  · have : ∀ (bs : List Br), p ∈ sysParts t.kind bs → 0 ≤ p.2.1 ∧ p.2.1 ≤ 1 ∧ 0 ≤ p.2.2 ∧ p.2.2 ≤ 1 := by
      intro bs
      induction bs with
      | nil => intro h; simp [sysParts] at h
      | cons b bs ih =>
        intro h
        rcases List.mem_append.mp h with h | h
        · obtain ⟨k, _, e⟩ := List.mem_map.mp h
          subst e
          show 0 ≤ (0 : Int) ∧ (0 : Int) ≤ 1 ∧ 0 ≤ more t.kind ∧ more t.kind ≤ 1
          unfold more
          split <;> omega
        · exact ih h
    exact this _ h
theorem size_part_lt {t : T} {p : Part} (h : p ∈ parts t) : size p.1 < size t := by
  obtain ⟨m, hm, e⟩ := List.mem_iff_getElem.mp h
  have h1 := size_part (t := t) (m := m) (p := p) (by rw [List.getElem?_eq_getElem hm, e])
  have h2 : 1 ≤ sizeUpto t m := by
    unfold sizeUpto pfold
    have : ∀ (l : List Part) (a : Nat), a ≤ l.foldl (fun a p => a + size p.1) a := by
      intro l
      induction l with
      | nil => intro a; exact Nat.le_refl _
      | cons p l ih => intro a; exact Nat.le_trans (Nat.le_add_right _ _) (ih _)
    exact this _ _
  omega
theorem qer_at {qs : List QP} {t : T} {m : Nat} (h : qs.map qer = parts t) (hm : m < qs.length) : (parts t)[m]? = some (qer (qs.getD m qp0)) := by
  rw [← h, List.getElem?_map, List.getD_eq_getElem?_getD, List.getElem?_eq_getElem hm]; rfl
end Go.Hy
namespace Go.Hy
set_option linter.unusedVariables false
set_option linter.unusedSimpArgs false
set_option linter.unusedSectionVars false
@[simp] theorem qE_def (q : QP) : qE q = RT q.1.1 q.1.2.1 q.1.2.2.1 q.1.2.2.2 := rfl
@[simp] theorem ipE_def (q : IP) : ipE q = IL q.1 q.2 := rfl
def idxCat : Nat → List (List (List Int)) → List (List Int)
  | _, [] => []
  | k, r :: rs => r.map ((k : Int) :: ·) ++ idxCat (k + 1) rs
def everyP : T → List (List Int) := pf (fun _ l => [] :: idxCat 0 (l.map (·.2)))
theorem everyP_eq (t : T) : everyP t = [] :: idxCat 0 ((parts t).map fun p => everyP p.1) := by
  conv => lhs; rw [everyP, pf_eq]
  simp only [List.map_map]
  rfl
def everyTo (t : T) (m : Nat) : List (List Int) := [] :: idxCat 0 (((parts t).take m).map fun p => everyP p.1)
theorem everyTo_all (t : T) : everyTo t (parts t).length = everyP t := by rw [everyTo, List.take_length, ← everyP_eq]
theorem idxCat_snoc : ∀ (rs : List (List (List Int))) (k : Nat) (r : List (List Int)), idxCat k (rs ++ [r]) = idxCat k rs ++ r.map (((k + rs.length : Nat) : Int) :: ·)
  | [], k, r => by simp [idxCat]
  | x :: rs, k, r => by
    simp only [List.cons_append, idxCat, idxCat_snoc rs (k + 1) r, List.append_assoc, List.length_cons]
    rw [show k + 1 + rs.length = k + (rs.length + 1) by omega]
theorem everyTo_succ {t : T} {m : Nat} {q : Part} (h : (parts t)[m]? = some q) : everyTo t (m + 1) = everyTo t m ++ (everyP q.1).map ((m : Int) :: ·) := by
  have hm : m < (parts t).length := (List.getElem?_eq_some_iff.mp h).1
  unfold everyTo
  rw [take_snoc h, List.map_append, List.map_cons, List.map_nil, idxCat_snoc]
  simp only [List.cons_append, List.length_map, List.length_take, Nat.zero_add]
  rw [Nat.min_eq_left (by omega)]
theorem every_len : ∀ t : T, (everyP t).length = size t := T.ind fun t ih => by
  have key : ∀ (l : List Part) (k a : Nat), (∀ p, p ∈ l → (everyP p.1).length = size p.1) → a + (idxCat k (l.map fun p => everyP p.1)).length = l.foldl (fun a p => a + size p.1) a := by
    intro l
    induction l with
    | nil => intro k a _; simp [idxCat]
    | cons p l ihl =>
      intro k a h
      simp only [List.map_cons, idxCat, List.length_append, List.length_map, List.foldl_cons]
      rw [← ihl (k + 1) (a + size p.1) (fun p hp => h p (List.mem_cons_of_mem _ hp)), h p List.mem_cons_self]
      omega
  rw [everyP_eq, size_eq, List.length_cons, ← key (parts t) 0 1 ih]
  omega
theorem everyTo_len {t : T} {m : Nat} (h : m ≤ (parts t).length) : (everyTo t m).length = sizeUpto t m := by
  induction m with
  | zero => simp [everyTo, idxCat, sizeUpto, pfold]
  | succ m ih =>
    obtain ⟨q, hq⟩ := part_of_lt (t := t) (m := m) (by omega)
    rw [everyTo_succ hq, sizeUpto_succ hq, List.length_append, List.length_map, every_len, ih (by omega)]
end Go.Hy
namespace Go.Hy
set_option linter.unusedVariables false
set_option linter.unusedSimpArgs false
set_option linter.unusedSectionVars false
def allL (t : T) : List (List Int) := if formedP t ≠ 0 then [] else everyP t
end Go.Hy
namespace Go.Hy
set_option linter.unusedVariables false
set_option linter.unusedSimpArgs false
set_option linter.unusedSectionVars false
section
variable {α : Type} {B : Base} {Γ : List Fact} {Ms : List Res} {w : World} {E : α → Fact} {l : List α}
end
end Go.Hy
namespace Go.Hy
set_option linter.unusedVariables false
set_option linter.unusedSimpArgs false
set_option linter.unusedSectionVars false
set_option linter.unusedVariables false
set_option linter.unusedSimpArgs false
/-! ### A term put into a place -/
def setBr : List Br → Nat → T → List Br
  | [], _, _ => []
  | b :: bs, k, x => if k < b.kids.length then .mk b.face (b.kids.set k x) :: bs else b :: setBr bs (k - b.kids.length) x
def putPart (t : T) (k : Nat) (x : T) : T := if k < t.kids.length then .mk t.kind t.n t.name t.r (t.kids.set k x) t.sys else .mk t.kind t.n t.name t.r t.kids (setBr t.sys (k - t.kids.length) x)
def setP : T → List Int → T → Option T
  | _, [], u => some u
  | t, k :: p, u => (partAt t k).bind fun q => (setP q.1 p u).map fun x => putPart t k.toNat x
section
variable {B : Base} {Γ : List Fact} {Ms : List Res} {w : World}
/-- A row of the call's own, as the block it lies in; and back. -/
theorem St.rowBox {sz n : Nat} {e : TypeId} {a : SH} {xs : List Value} (hn : 0 < n) (hs : St B Γ (rowS sz e a n xs :: Ms) w) : ∃ x : Nat × List Value, (a.1 = some ⟨x.1, 0, Option.none⟩ ∧ x.2.take (n * sz) = xs ∧ x.2.length = a.2 * sz ∧ n ≤ a.2 ∧ a.2 ≤ maxLen) ∧ St B Γ (boxR x.1 x.2 e :: Ms) w := by
  obtain ⟨g, cur, e1, e2, e3, e4, e5, e6, e7⟩ := own_block (hs.res _ List.mem_cons_self w (fun _ _ => rfl)) hn
  have hob : (sl a n).ownBlock = some g := by obtain ⟨ao, ac⟩ := a; simp only at e1; subst e1; rfl
  refine ⟨(g, cur.toList), ⟨e1, e6, by simpa using e5, e3, e4⟩, hs.turn (m' := boxR g cur.toList e) (Chg.refl _ _) (fun w2 hw2 => ?_) (fun k hk => ?_)⟩
  · show w2.heap[g]? = _
    rw [hw2 g rfl]; simpa using e2
  · have hk : k = g := hk
    subst hk
    exact ⟨(Array.getElem?_eq_some_iff.mp e2).1, .inl hob⟩
theorem St.boxRowT {sz n g : Nat} {e : TypeId} {a : SH} {cur xs : List Value} (ha : a.1 = some ⟨g, 0, Option.none⟩) (hl : cur.length = a.2 * sz) (hn : n ≤ a.2) (hm : a.2 ≤ maxLen) (hx : cur.take (n * sz) = xs) (hs : St B Γ (boxR g cur e :: Ms) w) : St B Γ (rowS sz e a n xs :: Ms) w := by
  have hg : w.heap[g]? = some (.cells cur.toArray e (0, 0)) := hs.res _ List.mem_cons_self w (fun _ _ => rfl)
  have hlt := (hs.lt _ List.mem_cons_self g rfl).1
  obtain ⟨ao, ac⟩ := a
  simp only at ha hl hn hm
  subst ha
  have hxl : xs.length = n * sz := by rw [← hx, List.length_take, hl, Nat.min_eq_left (Nat.mul_le_mul_right sz hn)]
  refine hs.turn (m' := rowS sz e (some ⟨g, 0, Option.none⟩, ac) n xs) (Chg.refl _ _) (fun w2 hw2 => ⟨hxl, .inr ⟨g, ac, cur.toArray, rfl, Nat.zero_le _, ?_, hn, hm, by simpa using hl, by simpa using hx⟩⟩) (fun k hk => ?_)
  · rw [hw2 g rfl]; exact hg
  · have hk : (sl (some ⟨g, 0, Option.none⟩, ac) n).ownBlock = some k := hk
    have hk : some g = some k := hk
    injection hk with hk
    subst hk
    exact ⟨hlt, .inl rfl⟩
theorem kidsR_app (y : Tys) (a b : List HT) : kidsR y (a ++ b) = kidsR y a ++ kidsR y b := by simp [kidsR_eq]
theorem brsR_app (y : Tys) (a b : List HB) : brsR y (a ++ b) = brsR y a ++ brsR y b := by simp [brsR_eq]
/-- One kid's tree is taken out; another is put there. -/
theorem St.takeK {y : Tys} {ks : List HT} {k : Nat} (hk : k < ks.length) (hs : St B Γ (bigR (kidsR y ks) :: Ms) w) : St B Γ (bigR (treeR y (ks.getD k h0)) :: bigR (kidsR y (ks.take k) ++ kidsR y (ks.drop (k + 1))) :: Ms) w := by
  have e : kidsR y ks = kidsR y (ks.take k) ++ (treeR y (ks.getD k h0) ++ kidsR y (ks.drop (k + 1))) := by
    conv => lhs; rw [← List.take_append_drop k ks, kidsR_app, drop_getD h0 hk]
    simp only [kidsR]
  rw [e] at hs
  have h1 : St B Γ (bigR (treeR y (ks.getD k h0) ++ (kidsR y (ks.take k) ++ kidsR y (ks.drop (k + 1)))) :: Ms) w := hs.bigPerm (by
    rw [← List.append_assoc, ← List.append_assoc]
    exact List.perm_append_comm.append_right _)
  exact h1.bigSplit
theorem St.putK {y : Tys} {ks : List HT} {k : Nat} {h : HT} (hk : k < ks.length) (hs : St B Γ (bigR (treeR y h) :: bigR (kidsR y (ks.take k) ++ kidsR y (ks.drop (k + 1))) :: Ms) w) : St B Γ (bigR (kidsR y (ks.set k h)) :: Ms) w := by
  have e : kidsR y (ks.set k h) = kidsR y (ks.take k) ++ (treeR y h ++ kidsR y (ks.drop (k + 1))) := by
    rw [List.set_eq_take_append_cons_drop, if_pos hk, kidsR_app]
    simp only [kidsR]
  rw [e]
  have h1 := hs.bigJoin
  refine h1.bigPerm ?_
  rw [List.append_assoc]
  exact List.perm_append_comm.append_left _
end
end Go.Hy
namespace Go.Hy
set_option linter.unusedVariables false
set_option linter.unusedSimpArgs false
set_option linter.unusedSectionVars false
theorem take_of_flat {α : Type} {F : α → List Value} {sz : Nat} (hF : ∀ x, (F x).length = sz) (d : α) : ∀ (l : List α) (m : Nat), m < l.length → ((l.flatMap F).drop (m * sz)).take sz = F (l.getD m d)
  | [], m, h => by simp at h
  | a :: l, 0, _ => by
    have ha := hF a
    simp only [Nat.zero_mul, List.drop_zero, List.flatMap_cons, List.getD_cons_zero]
    rw [List.take_append_of_le_length (by omega), List.take_of_length_le (by omega)]
  | a :: l, m + 1, h => by
    have ha := hF a
    simp only [List.flatMap_cons, List.getD_cons_succ]
    rw [Nat.add_mul, Nat.one_mul, List.drop_append, List.drop_of_length_le (by omega), List.nil_append, ha, Nat.add_sub_cancel]
    exact take_of_flat hF d l m (by simpa using h)
theorem take_in_row {α : Type} {F : α → List Value} {sz n : Nat} (hF : ∀ x, (F x).length = sz) (d : α) {l : List α} {m : Nat} {cur : List Value} (hx : cur.take (n * sz) = l.flatMap F) (hn : n = l.length) (hm : m < l.length) : (cur.drop (0 + m * sz)).take sz = F (l.getD m d) := by
  rw [← take_of_flat hF d l m hm, ← hx, Nat.zero_add, List.drop_take, List.take_take, Nat.min_eq_left]
  have := Nat.mul_le_mul_right sz (show m + 1 ≤ n by omega)
  rw [Nat.add_mul, Nat.one_mul] at this
  omega
theorem set_in_row {α : Type} {F : α → List Value} {sz n : Nat} (hF : ∀ x, (F x).length = sz) {l : List α} {m : Nat} {cur : List Value} (u : α) (hx : cur.take (n * sz) = l.flatMap F) (hn : n = l.length) (hm : m < l.length) (hc : n * sz ≤ cur.length) : (setAt cur (0 + m * sz) (F u)).take (n * sz) = (l.set m u).flatMap F := by
  have := Nat.mul_le_mul_right sz (show m + 1 ≤ n by omega)
  rw [Nat.add_mul, Nat.one_mul] at this
  rw [Nat.zero_add, setAt_take (by rw [hF]; omega) hc, hx, flat_set hF l m u hm]
theorem setAt_same {cs vs : List Value} {o : Nat} (h : (cs.drop o).take vs.length = vs) : setAt cs o vs = cs := by
  unfold setAt
  rw [← List.drop_drop]
  conv => lhs; rw [List.append_assoc]; arg 2; arg 1; rw [← h]
  rw [List.take_append_drop, List.take_append_drop]
section
variable {B : Base} {Γ : List Fact} {Ms : List Res} {w : World}
theorem St.dropIL {l : List Int} {a : SH} (k : Nat) (hs : St B Γ Ms w) (hF : IL l a ∈ Γ) (hk : k ≤ l.length) : St B (IL (l.drop k) (dropSH a 1 k) :: Γ) Ms w := by
  obtain ⟨h1, h2⟩ := hs.facts _ hF
  refine hs.add ⟨?_, fun c hc => h2 c (List.mem_of_mem_drop hc)⟩
  have h3 := rowAt_drop h1 hk
  rw [List.length_drop]
  have e : (fun i => intCells ((l.drop k).getD i 0)) = fun i => intCells (l.getD (i + k) 0) := by
    funext i
    rw [List.getD_eq_getElem?_getD, List.getD_eq_getElem?_getD, List.getElem?_drop, Nat.add_comm]
  rw [e]
  exact h3
end
end Go.Hy
namespace Go.Hy
set_option linter.unusedVariables false
set_option linter.unusedSimpArgs false
set_option linter.unusedSectionVars false
theorem setBr_at : ∀ (bs : List Br) (s j : Nat) (x : T), s < bs.length → j < (bs.getD s br0).kids.length → setBr bs (sysBefore s bs + j) x = bs.set s (.mk (bs.getD s br0).face ((bs.getD s br0).kids.set j x))
  | [], s, j, x, h, _ => by simp at h
  | b :: bs, 0, j, x, _, hj => by
    have hj : j < b.kids.length := by simpa using hj
    simp [setBr, sysBefore, hj]
  | b :: bs, s + 1, j, x, h, hj => by
    have hj : j < (bs.getD s br0).kids.length := by simpa using hj
    have ih := setBr_at bs s j x (by simpa using h) hj
    simp only [setBr, sysBefore, List.getD_cons_succ, List.set_cons_succ]
    have hn : ¬ (b.kids.length + sysBefore s bs + j < b.kids.length) := by omega
    have hd : b.kids.length + sysBefore s bs + j - b.kids.length = sysBefore s bs + j := by omega
    simp only [hn, if_false, hd, ih]
theorem put_kid {k n : Int} {nm : ByteArray} {r : List Cl} {v u x : SH} {ks : List HT} {ss : List HB} {m : Nat} {h : HT} (hm : m < ks.length) : (HT.mk k n nm r v (ks.set m h) u ss x).er = putPart (HT.mk k n nm r v ks u ss x).er m h.er := by
  simp only [HT.er, HT.erL_eq, HT.erB_eq, putPart, T.kids, T.kind, T.n, T.name, T.r, T.sys, List.length_map, hm, if_true, List.map_set]
theorem er_face {b : HB} {f : List Cl} {v u : SH} {ks : List HT} (h : b = .mk f v ks u) : b.er = .mk f (ks.map HT.er) := by
  subst h; simp [HB.er, HT.erL_eq]
theorem put_sys {k n : Int} {nm : ByteArray} {r : List Cl} {v u x : SH} {ks : List HT} {ss : List HB} {s j : Nat} {f : List Cl} {v2 u2 : SH} {ks2 : List HT} {h : HT} (hs : s < ss.length) (hb : ss.getD s hb0 = .mk f v2 ks2 u2) (hj : j < ks2.length) :
    (HT.mk k n nm r v ks u (ss.set s (.mk f v2 (ks2.set j h) u2)) x).er = putPart (HT.mk k n nm r v ks u ss x).er (ks.length + sysBefore s (ss.map HB.er) + j) h.er := by
  have hg : (ss.map HB.er).getD s br0 = .mk f (ks2.map HT.er) := by rw [getD_map (d := hb0) hs, er_face hb]
  have h1 := setBr_at (ss.map HB.er) s j h.er (by simpa using hs) (by rw [hg]; simpa [Br.kids] using hj)
  simp only [HT.er, HT.erL_eq, HT.erB_eq, putPart, T.kids, T.kind, T.n, T.name, T.r, T.sys, List.length_map]
  split
  · omega
  rw [show ks.length + sysBefore s (ss.map HB.er) + j - ks.length = sysBefore s (ss.map HB.er) + j by omega, h1, hg, List.map_set]
  simp [HB.er, HT.erL_eq, Br.face, Br.kids, List.map_set]
theorem flat_set_same {α : Type} {F : α → List Value} (d : α) : ∀ (l : List α) (i : Nat) (u : α), i < l.length → F u = F (l.getD i d) → (l.set i u).flatMap F = l.flatMap F
  | [], i, u, h, _ => by simp at h
  | a :: l, 0, u, _, h => by simpa using h
  | a :: l, i + 1, u, h, hu => by
    simp only [List.set_cons_succ, List.flatMap_cons]
    rw [flat_set_same d l i u (by simpa using h) (by simpa using hu)]
section
variable {B : Base} {Γ : List Fact} {Ms : List Res} {w : World}
theorem St.takeB {y : Tys} {ss : List HB} {s : Nat} {f : List Cl} {v u : SH} {ks : List HT} (hi : s < ss.length) (he : ss.getD s hb0 = .mk f v ks u) (hs : St B Γ (bigR (brsR y ss) :: Ms) w) :
    St B Γ (rowS 2 y.c v f.length (clFlat f) :: rowS 6 y.t u ks.length (tpFlat (ks.map HT.tp)) :: bigR (kidsR y ks) :: bigR (brsR y (ss.take s) ++ brsR y (ss.drop (s + 1))) :: Ms) w := by
  have e : brsR y ss = brsR y (ss.take s) ++ ((rowS 2 y.c v f.length (clFlat f) :: rowS 6 y.t u ks.length (tpFlat (ks.map HT.tp)) :: kidsR y ks) ++ brsR y (ss.drop (s + 1))) := by
    conv => lhs; rw [← List.take_append_drop s ss, brsR_app, drop_getD hb0 hi, he]
    simp only [brsR]
  rw [e] at hs
  have h1 : St B Γ (bigR ((rowS 2 y.c v f.length (clFlat f) :: rowS 6 y.t u ks.length (tpFlat (ks.map HT.tp)) :: kidsR y ks) ++ (brsR y (ss.take s) ++ brsR y (ss.drop (s + 1)))) :: Ms) w := hs.bigPerm (by
    rw [← List.append_assoc, ← List.append_assoc]
    exact List.perm_append_comm.append_right _)
  simp only [List.cons_append] at h1
  exact h1.unpackB
theorem St.putB {y : Tys} {ss : List HB} {s : Nat} {f : List Cl} {v u : SH} {ks : List HT} (hi : s < ss.length) (hs : St B Γ (rowS 2 y.c v f.length (clFlat f) :: rowS 6 y.t u ks.length (tpFlat (ks.map HT.tp)) :: bigR (kidsR y ks) :: bigR (brsR y (ss.take s) ++ brsR y (ss.drop (s + 1))) :: Ms) w) :
    St B Γ (bigR (brsR y (ss.set s (.mk f v ks u))) :: Ms) w := by
  have e : brsR y (ss.set s (.mk f v ks u)) = brsR y (ss.take s) ++ ((rowS 2 y.c v f.length (clFlat f) :: rowS 6 y.t u ks.length (tpFlat (ks.map HT.tp)) :: kidsR y ks) ++ brsR y (ss.drop (s + 1))) := by
    rw [List.set_eq_take_append_cons_drop, if_pos hi, brsR_app]
    simp only [brsR]
  rw [e]
  refine (hs.packB).bigPerm ?_
  rw [List.append_assoc]
  exact List.perm_append_comm.append_left _
end
end Go.Hy
namespace Go.Hy
set_option linter.unusedVariables false
set_option linter.unusedSimpArgs false
set_option linter.unusedSectionVars false
theorem cons_getD {p : List Int} (h : 0 < p.length) : p = p.getD 0 0 :: p.drop 1 := by
  cases p with
  | nil => simp at h
  | cons a p => simp
theorem setP_cons {t u : T} {p : List Int} (h : 0 < p.length) : setP t p u = (partAt t (p.getD 0 0)).bind fun q => (setP q.1 (p.drop 1) u).map fun x => putPart t (p.getD 0 0).toNat x := by
  conv => lhs; rw [cons_getD h]
  rfl
theorem setP_at {t u : T} {p : List Int} {m : Nat} {q : Part} (h : 0 < p.length) (hm : p.getD 0 0 = (m : Int)) (hq : (parts t)[m]? = some q) : setP t p u = (setP q.1 (p.drop 1) u).map fun x => putPart t m x := by
  rw [setP_cons h, partAt, hm, if_pos (Int.natCast_nonneg _), Int.toNat_natCast, hq]; rfl
theorem setP_miss {t u : T} {p : List Int} (h : 0 < p.length) (hm : p.getD 0 0 < 0 ∨ ((parts t).length : Int) ≤ p.getD 0 0) : setP t p u = none := by
  rw [setP_cons h, partAt]
  split
  · rw [List.getElem?_eq_none (by omega)]; rfl
  · rfl
theorem setP_nil {t u : T} {p : List Int} (h : p.length = 0) : setP t p u = some u := by
  rw [List.eq_nil_of_length_eq_zero h]; rfl
section
variable {P : Program} {f : FuncId} {R : Ending → World → Prop} {B : Base} {n : Nat} {todo : List Item} {σ : Nat → Value} {Γ : List Fact} {Ms : List Res}
theorem go_rowBox {sz m : Nat} {e : TypeId} {a : SH} {xs : List Value} {Ms2 : List Res} (hn : 0 < m) (hm : Ms.Perm (rowS sz e a m xs :: Ms2))
    (k : ∀ (g : Nat) (cur : List Value), a.1 = some ⟨g, 0, none⟩ → cur.take (m * sz) = xs → cur.length = a.2 * sz → m ≤ a.2 → a.2 ≤ maxLen → GoT P f R B n todo σ Γ (boxR g cur e :: Ms2)) : GoT P f R B n todo σ Γ Ms := fun a' w hr hs => by
  obtain ⟨x, ⟨h1, h2, h3, h4, h5⟩, hs'⟩ := (hs.perm hm).rowBox hn
  exact k x.1 x.2 h1 h2 h3 h4 h5 a' w hr hs'
end
mutual
theorem HT.indA {P : HT → Prop} (h : ∀ k n nm r v ks u ss x, (∀ c, c ∈ ks → P c) → (∀ b, b ∈ ss → ∀ c, c ∈ b.kids → P c) → P (.mk k n nm r v ks u ss x)) : ∀ t, P t
  | .mk k n nm r v ks u ss x => h k n nm r v ks u ss x (HT.indAL h ks) (HT.indAB h ss)
theorem HT.indAL {P : HT → Prop} (h : ∀ k n nm r v ks u ss x, (∀ c, c ∈ ks → P c) → (∀ b, b ∈ ss → ∀ c, c ∈ b.kids → P c) → P (.mk k n nm r v ks u ss x)) : ∀ ts : List HT, ∀ c, c ∈ ts → P c
  | [], _, hc => by cases hc
  | t :: ts, c, hc => by
    rcases List.mem_cons.mp hc with e | hc
    · rw [e]; exact HT.indA h t
    · exact HT.indAL h ts c hc
theorem HT.indAB {P : HT → Prop} (h : ∀ k n nm r v ks u ss x, (∀ c, c ∈ ks → P c) → (∀ b, b ∈ ss → ∀ c, c ∈ b.kids → P c) → P (.mk k n nm r v ks u ss x)) : ∀ bs : List HB, ∀ b, b ∈ bs → ∀ c, c ∈ b.kids → P c
  | [], _, hb => by cases hb
  | .mk f v ks u :: bs, b, hb => by
    rcases List.mem_cons.mp hb with e | hb
    · rw [e]; exact HT.indAL h ks
    · exact HT.indAB h bs b hb
end
def putMs (y : Tys) (b o : Nat) (cs : List Value) (ty : TypeId) : Option HT → List Res
  | none => []
  | some h => [boxR b (setAt cs o (tc h.er h.vr h.vk h.vs)) ty, bigR (treeR y h)]
end Go.Hy
namespace Go.Hy
set_option linter.unusedVariables false
set_option linter.unusedSimpArgs false
set_option linter.unusedSectionVars false
theorem okL_set {ts : List T} {x : T} {k : Nat} (h : okL ts) (hx : okT x) : okL (ts.set k x) := okL_iff.2 fun t ht => by
  rcases List.mem_or_eq_of_mem_set ht with h1 | h1
  · exact okL_iff.1 h t h1
  · exact h1 ▸ hx
theorem okB_setBr {x : T} (hx : okT x) : ∀ (bs : List Br) (k : Nat), okB bs → okB (setBr bs k x)
  | [], k, h => by simpa [setBr] using h
  | .mk f ks :: bs, k, h => by
    simp only [okB] at h
    obtain ⟨h1, h2, h3, h4⟩ := h
    by_cases hk : k < ks.length
    · have e : setBr (.mk f ks :: bs) k x = .mk f (ks.set k x) :: bs := by simp [setBr, Br.kids, Br.face, hk]
      rw [e]
      simp only [okB]
      exact ⟨h1, by rw [List.length_set]; exact h2, okL_set h3 hx, h4⟩
    · have e : setBr (.mk f ks :: bs) k x = .mk f ks :: setBr bs (k - ks.length) x := by simp [setBr, Br.kids, hk]
      rw [e]
      simp only [okB]
      exact ⟨h1, h2, h3, okB_setBr hx bs _ h4⟩
theorem setBr_len {x : T} : ∀ (bs : List Br) (k : Nat), (setBr bs k x).length = bs.length
  | [], k => by simp [setBr]
  | b :: bs, k => by
    by_cases hk : k < b.kids.length
    · simp [setBr, hk]
    · simp [setBr, hk, setBr_len bs]
theorem okT_put {t x : T} {k : Nat} (h : okT t) (hx : okT x) : okT (putPart t k x) := by
  obtain ⟨kk, n, nm, r, ks, ss⟩ := t
  simp only [okT] at h
  obtain ⟨h1, h2, h3, h4, h5, h6, h7, h8⟩ := h
  unfold putPart
  by_cases hk : k < ks.length
  · simp only [T.kids, hk, if_true, T.kind, T.n, T.name, T.r, T.sys, okT]
    exact ⟨h1, h2, h3, h4, by rw [List.length_set]; exact h5, h6, okL_set h7 hx, h8⟩
  · simp only [T.kids, hk, if_false, T.kind, T.n, T.name, T.r, T.sys, okT]
    exact ⟨h1, h2, h3, h4, h5, by rw [setBr_len]; exact h6, h7, okB_setBr hx _ _ h8⟩
theorem okT_part {t : T} {p : Part} (h : okT t) (hp : p ∈ parts t) : okT p.1 := by
  obtain ⟨kk, n, nm, r, ks, ss⟩ := t
  simp only [okT] at h
  obtain ⟨_, _, _, _, _, _, h7, h8⟩ := h
  have h9 : p.1 ∈ (parts (T.mk kk n nm r ks ss)).map (fun p => id p.1) := List.mem_map.mpr ⟨p, hp, rfl⟩
  rw [parts_map] at h9
  rcases List.mem_append.mp h9 with h9 | h9
  · exact okL_iff.1 h7 _ (by simpa [T.kids] using h9)
  · obtain ⟨l, hl, hm⟩ := List.mem_flatten.mp h9
    obtain ⟨b, hb, e⟩ := List.mem_map.mp hl
    subst e
    exact okL_iff.1 (okB_iff.1 h8 b hb).2.2 _ (by simpa using hm)
theorem okT_setP : ∀ (p : List Int) {t u x : T}, okT t → okT u → setP t p u = some x → okT x
  | [], t, u, x, _, hu, h => by simp only [setP, Option.some.injEq] at h; exact h ▸ hu
  | k :: p, t, u, x, ht, hu, h => by
    simp only [setP] at h
    obtain ⟨q, hq, h⟩ := Option.bind_eq_some_iff.mp h
    obtain ⟨y, hy, h⟩ := Option.map_eq_some_iff.mp h
    subst h
    unfold partAt at hq
    split at hq
    · exact okT_put ht (okT_setP p (okT_part ht (List.mem_of_getElem? hq)) hu hy)
    · cases hq
end Go.Hy
namespace Go.Hy
set_option linter.unusedVariables false
set_option linter.unusedSimpArgs false
set_option linter.unusedSectionVars false
theorem kidParts_set (kind : Int) : ∀ (ks : List T) (s k : Nat) (x : T), k < ks.length → kidParts kind s (ks.set k x) = (kidParts kind s ks).set k (x, binds kind ((s + k : Nat) : Int))
  | [], s, k, x, h => by simp at h
  | a :: ks, s, 0, x, _ => by simp [kidParts]
  | a :: ks, s, k + 1, x, h => by
    simp only [List.set_cons_succ, kidParts]
    rw [kidParts_set kind ks (s + 1) k x (by simpa using h), show s + 1 + k = s + (k + 1) by omega]
theorem sysParts_set (kind : Int) : ∀ (bs : List Br) (k : Nat) (x : T), k < (sysParts kind bs).length → sysParts kind (setBr bs k x) = (sysParts kind bs).set k (x, 0, more kind)
  | [], k, x, h => by simp [sysParts] at h
  | .mk f ks :: bs, k, x, h => by
    by_cases hk : k < ks.length
    · have e : setBr (.mk f ks :: bs) k x = .mk f (ks.set k x) :: bs := by simp [setBr, Br.kids, Br.face, hk]
      rw [e]
      simp only [sysParts, Br.kids]
      rw [List.set_append_left _ _ (by simpa using hk), List.map_set]
    · have e : setBr (.mk f ks :: bs) k x = .mk f ks :: setBr bs (k - ks.length) x := by simp [setBr, Br.kids, hk]
      rw [e]
      simp only [sysParts, Br.kids, List.length_append, List.length_map] at h ⊢
      rw [List.set_append_right _ _ (by simp; omega), sysParts_set kind bs _ x (by omega)]
      simp
/-- What a node's parts are when one of them is another. -/
theorem parts_put {t x : T} {k : Nat} {q : Part} (h : (parts t)[k]? = some q) : parts (putPart t k x) = (parts t).set k (x, q.2) := by
  obtain ⟨kk, n, nm, r, ks, ss⟩ := t
  have hk := (List.getElem?_eq_some_iff.mp h).1
  by_cases h1 : k < ks.length
  · have e : putPart (.mk kk n nm r ks ss) k x = .mk kk n nm r (ks.set k x) ss := by simp [putPart, T.kids, T.kind, T.n, T.name, T.r, T.sys, h1]
    have hq := parts_kid (.mk kk n nm r ks ss) k h1
    rw [hq] at h
    injection h with h
    subst h
    rw [e]
    simp only [parts, T.kids, T.kind, T.sys]
    rw [kidParts_set _ _ _ _ _ h1, List.set_append_left _ _ (by rw [kidParts_length]; exact h1), Nat.zero_add]
  · have e : putPart (.mk kk n nm r ks ss) k x = .mk kk n nm r ks (setBr ss (k - ks.length) x) := by simp [putPart, T.kids, T.kind, T.n, T.name, T.r, T.sys, h1]
    rw [e]
    simp only [parts, T.kids, T.kind, T.sys] at h hk ⊢
    rw [List.length_append, kidParts_length] at hk
    rw [List.getElem?_append_right (by rw [kidParts_length]; omega), kidParts_length] at h
    rw [sysParts_set _ _ _ _ (by omega), List.set_append_right _ _ (by rw [kidParts_length]; omega), kidParts_length]
    have h2 : q.2 = (0, more kk) := by
      have hm := List.mem_of_getElem? h
      have : ∀ (bs : List Br), q ∈ sysParts kk bs → q.2 = (0, more kk) := by
        intro bs
        induction bs with
        | nil => intro h; simp [sysParts] at h
        | cons b bs ih =>
          intro h
          rcases List.mem_append.mp h with h | h
          · obtain ⟨c, _, e⟩ := List.mem_map.mp h
            subst e; rfl
          · exact ih h
      exact this _ hm
    rw [h2]
theorem size_sum2 (t : T) : size t = 1 + ((parts t).map fun p => size p.1).sum := by
  rw [size_eq]
  have : ∀ (l : List Part) (a : Nat), l.foldl (fun a p => a + size p.1) a = a + (l.map fun p => size p.1).sum := by
    intro l
    induction l with
    | nil => intro a; simp
    | cons p l ih => intro a; simp only [List.foldl_cons, ih, List.map_cons, List.sum_cons]; omega
  exact this _ _
theorem sum_set : ∀ (l : List Nat) (k a b : Nat), l[k]? = some a → (l.set k b).sum + a = l.sum + b
  | [], k, a, b, h => by simp at h
  | c :: l, 0, a, b, h => by
    simp only [List.getElem?_cons_zero, Option.some.injEq] at h
    subst h
    simp only [List.set_cons_zero, List.sum_cons]; omega
  | c :: l, k + 1, a, b, h => by
    have := sum_set l k a b (by simpa using h)
    simp only [List.set_cons_succ, List.sum_cons]; omega
theorem size_put {t x : T} {k : Nat} {q : Part} (h : (parts t)[k]? = some q) : size (putPart t k x) + size q.1 = size t + size x := by
  rw [size_sum2 (putPart t k x), size_sum2 t, parts_put h, List.map_set]
  have := sum_set ((parts t).map fun p => size p.1) k (size q.1) (size x) (by rw [List.getElem?_map, h]; rfl)
  simp only at this ⊢
  omega
theorem size_setP : ∀ (p : List Int) {t u x : T}, setP t p u = some x → ∃ s, getP t p = some s ∧ size x + size s.1 = size t + size u
  | [], t, u, x, h => by
    simp only [setP, Option.some.injEq] at h
    subst h
    exact ⟨(t, 0, 0), rfl, Nat.add_comm _ _⟩
  | k :: p, t, u, x, h => by
    simp only [setP] at h
    obtain ⟨q, hq, h⟩ := Option.bind_eq_some_iff.mp h
    obtain ⟨y, hy, h⟩ := Option.map_eq_some_iff.mp h
    subst h
    obtain ⟨s, hs, e⟩ := size_setP p hy
    refine ⟨addPt q s, by simp only [getP, hq, Option.bind_some, hs, Option.map_some], ?_⟩
    unfold partAt at hq
    split at hq
    · have h1 := size_put (x := y) hq
      have : (addPt q s).1 = s.1 := rfl
      rw [this]
      omega
    · cases hq
end Go.Hy
namespace Go.Hy
set_option linter.unusedVariables false
set_option linter.unusedSimpArgs false
set_option linter.unusedSectionVars false
def putRes (t : T) (p : List Int) (u : T) : Int × T := if formedP t ≠ 0 then (formedP t, t0) else if formedP u ≠ 0 then (formedP u, t0) else match setP t p u with | none => (90, t0) | some x => if formedP x ≠ 0 then (formedP x, t0) else (0, x)
end Go.Hy
namespace Go.Hy
set_option linter.unusedVariables false
set_option linter.unusedSimpArgs false
set_option linter.unusedSectionVars false
set_option linter.unusedVariables false
end Go.Hy
namespace Go.Hy
set_option linter.unusedVariables false
set_option linter.unusedSimpArgs false
set_option linter.unusedSectionVars false
theorem setP_step {t u a : T} {k : Int} {p : List Int} (h : setP t (k :: p) u = some a) : ∃ m q x, k = (m : Nat) ∧ (parts t)[m]? = some q ∧ setP q.1 p u = some x ∧ a = putPart t m x := by
  simp only [setP] at h
  obtain ⟨q, hq, h⟩ := Option.bind_eq_some_iff.mp h
  obtain ⟨x, hx, h⟩ := Option.map_eq_some_iff.mp h
  unfold partAt at hq
  split at hq
  · exact ⟨k.toNat, q, x, by omega, hq, hx, h.symm⟩
  · cases hq
end Go.Hy
namespace Go.Hy
set_option linter.unusedVariables false
set_option linter.unusedSimpArgs false
set_option linter.unusedSectionVars false
theorem formed_size {t : T} (h : formedP t = 0) : size t ≤ 20000 := by
  unfold formedP at h
  split at h
  · rename_i hs; exact absurd h hs
  · rename_i hs
    simp only [ne_eq, Decidable.not_not, sized] at hs
    split at hs
    · cases hs
    · split at hs
      · cases hs
      · omega
end Go.Hy
namespace Go.Hy
set_option linter.unusedVariables false
set_option linter.unusedSimpArgs false
set_option linter.unusedSectionVars false
set_option linter.unusedVariables false
/-! ### Clauses, formulas -/
def meetC (c d : Cl) : Cl := ⟨c.pos ||| d.pos, c.neg ||| d.neg⟩
theorem below_meet (c d : Cl) : decide (meetC c d = c) = below c d := by
  obtain ⟨p, n⟩ := c
  obtain ⟨p', n'⟩ := d
  simp [meetC, below]
def orUpto (l : List Cl) (i : Nat) : Nat := (l.take i).foldl (fun a c => a ||| (c.pos ||| c.neg)) 0
theorem orUpto_succ {l : List Cl} {i : Nat} (h : i < l.length) : orUpto l (i + 1) = orUpto l i ||| ((l.getD i cl0).pos ||| (l.getD i cl0).neg) := by
  unfold orUpto; rw [take_succ_getD (d := cl0) h, List.foldl_append]; rfl
theorem orUpto_lt {l : List Cl} (h : ∀ c, c ∈ l → u32 c) : ∀ i, orUpto l i < 4294967296 := by
  intro i
  have : ∀ (m : List Cl) (a : Nat), (∀ c, c ∈ m → u32 c) → a < 4294967296 → m.foldl (fun a c => a ||| (c.pos ||| c.neg)) a < 4294967296 := by
    intro m
    induction m with
    | nil => intro a _ h; exact h
    | cons c m ih =>
      intro a hm ha
      have hc := hm c List.mem_cons_self
      exact ih _ (fun d hd => hm d (List.mem_cons_of_mem _ hd)) (Nat.or_lt_two_pow (n := 32) ha (Nat.or_lt_two_pow (n := 32) hc.1 hc.2))
  exact this _ 0 (fun c hc => h c (List.mem_of_mem_take hc)) (by omega)
theorem fDims_eq (l : List Cl) : fDims l = orUpto l l.length &&& 16777215 := by
  unfold fDims orUpto; rw [List.take_length]
theorem andNot_zero {s : Nat} (hs : s < 4294967296) : decide ((andNot32 s 16777215 : Int) = 0) = decide (s < 16777216) := by
  apply decide_eq_decide.mpr
  have h : andNot32 s 16777215 = s / 16777216 * 16777216 := by
    unfold andNot32
    have e : (BitVec.ofNat 32 s &&& ~~~ BitVec.ofNat 32 16777215).toNat = s / 16777216 * 16777216 := by
      apply Nat.eq_of_testBit_eq
      intro i
      rw [← BitVec.getLsbD, BitVec.getLsbD_and, BitVec.getLsbD_not, BitVec.getLsbD_ofNat, BitVec.getLsbD_ofNat]
      rw [show s / 16777216 * 16777216 = (s / 2 ^ 24) * 2 ^ 24 from rfl, Nat.testBit_mul_two_pow, Nat.testBit_div_two_pow]
      rw [show (16777215 : Nat) = 2 ^ 24 - 1 from rfl, Nat.testBit_two_pow_sub_one]
      by_cases h1 : i < 32
      · by_cases h2 : 24 ≤ i
        · simp [h1, h2, Nat.sub_add_cancel h2]
        · simp [h1, h2]; omega
      · have : s.testBit i = false := Nat.testBit_lt_two_pow (Nat.lt_of_lt_of_le hs (Nat.pow_le_pow_right (n := 2) (by omega) (show 32 ≤ i by omega)))
        have h2 : 24 ≤ i := by omega
        simp [h1, h2, Nat.sub_add_cancel h2, this]
    exact e
  omega
end Go.Hy
namespace Go.Hy
set_option linter.unusedVariables false
set_option linter.unusedSimpArgs false
set_option linter.unusedSectionVars false
/-! ### Least -/
def idxP (g : Cl → Bool) (l : List Cl) : Int := if l.any g then (l.findIdx g : Int) else -1
theorem getD_get {α : Type} {d : α} {l : List α} {i : Nat} (h : i < l.length) : l.getD i d = l[i] := by
  rw [List.getD_eq_getElem?_getD, List.getElem?_eq_getElem h]; rfl
theorem idxP_at {g : Cl → Bool} {l : List Cl} {i : Nat} (h : i < l.length) (hg : g (l.getD i cl0) = true) (hb : ∀ j, j < i → g (l.getD j cl0) = false) : idxP g l = i := by
  have hany : l.any g = true := List.any_eq_true.mpr ⟨_, getD_mem h, hg⟩
  have hidx : l.findIdx g = i := by
    rw [List.findIdx_eq h]
    refine ⟨by rw [← getD_get (d := cl0) h]; exact hg, fun j hj => ?_⟩
    have := hb j hj
    rwa [getD_get (d := cl0) (by omega)] at this
  unfold idxP
  rw [hany, hidx]; rfl
theorem idxP_none {g : Cl → Bool} {l : List Cl} (hb : ∀ j, j < l.length → g (l.getD j cl0) = false) : idxP g l = -1 := by
  have hany : l.any g = false := by
    rw [List.any_eq_false]
    intro x hx
    obtain ⟨j, hj, e⟩ := List.mem_iff_getElem.mp hx
    have := hb j hj
    rw [getD_get (d := cl0) hj, e] at this
    simp [this]
  unfold idxP; rw [hany]; rfl
theorem idxP_nonneg (g : Cl → Bool) (l : List Cl) : decide (0 ≤ idxP g l) = l.any g := by
  unfold idxP
  cases l.any g
  · rfl
  · simp
/-- Each once, in the order of the first. -/
def once (l : List Cl) : List Cl := l.foldl (fun o c => if c ∈ o then o else o ++ [c]) []
theorem once_snoc (l : List Cl) (c : Cl) : once (l ++ [c]) = if c ∈ once l then once l else once l ++ [c] := by
  unfold once; rw [List.foldl_append]; rfl
theorem once_gen (c : Cl) : ∀ (l o : List Cl), (c ∈ l.foldl (fun o c => if c ∈ o then o else o ++ [c]) o ↔ c ∈ o ∨ c ∈ l) ∧ (l.foldl (fun o c => if c ∈ o then o else o ++ [c]) o).length ≤ o.length + l.length
  | [], o => by simp
  | d :: l, o => by
    have ih := once_gen c l (if d ∈ o then o else o ++ [d])
    rw [List.foldl_cons]
    constructor
    · rw [ih.1, List.mem_cons]
      split
      · rename_i h
        constructor
        · rintro (h2 | h2)
          · exact .inl h2
          · exact .inr (.inr h2)
        · rintro (h2 | h2 | h2)
          · exact .inl h2
          · exact .inl (h2 ▸ h)
          · exact .inr h2
      · rw [List.mem_append, List.mem_singleton, or_assoc]
    · have h3 := ih.2
      have h4 : (if d ∈ o then o else o ++ [d]).length ≤ o.length + 1 := by split <;> simp
      simp only [List.length_cons]; omega
theorem once_mem (c : Cl) (l : List Cl) : c ∈ once l ↔ c ∈ l := by
  have := (once_gen c l []).1
  simpa [once] using this
theorem once_len (l : List Cl) : (once l).length ≤ l.length := by
  have := (once_gen cl0 l []).2
  simpa [once] using this
/-- Is a clause needless in a list? -/
def needless (l : List Cl) (c : Cl) : Bool := l.any fun d => !decide (c = d) && below c d
def kept (l : List Cl) : List Cl := (once l).filter fun c => !needless (once l) c
/-- Sorted, and the same clauses. -/
def SortOf (l l' : List Cl) : Prop := l'.Perm l ∧ l'.Pairwise fun a b => lessC b a = false
/-- What clause.Least tells: an error's number, and the clauses. -/
def LeastIs (l : List Cl) (r : Int × List Cl) : Prop :=
  if l.all right24 = false then r = (2, []) else if 64 < (kept l).length then r = (3, []) else r.1 = 0 ∧ SortOf (kept l) r.2
end Go.Hy
namespace Go.Hy
set_option linter.unusedVariables false
set_option linter.unusedSimpArgs false
set_option linter.unusedSectionVars false
theorem all_of {l : List Cl} {g : Cl → Bool} (h : ∀ j, j < l.length → g (l.getD j cl0) = true) : l.all g = true := by
  rw [List.all_eq_true]
  intro x hx
  obtain ⟨j, hj, e⟩ := List.mem_iff_getElem.mp hx
  have := h j hj
  rwa [getD_get (d := cl0) hj, e] at this
theorem all_not {l : List Cl} {g : Cl → Bool} {i : Nat} (hi : i < l.length) (h : g (l.getD i cl0) = false) : l.all g = false := by
  rw [List.all_eq_false]
  exact ⟨l.getD i cl0, getD_mem hi, by rw [h]; decide⟩
def keptUpto (l : List Cl) (i : Nat) : List Cl := ((once l).take i).filter fun c => !needless (once l) c
theorem keptUpto_succ {l : List Cl} {i : Nat} (h : i < (once l).length) : keptUpto l (i + 1) = if needless (once l) ((once l).getD i cl0) then keptUpto l i else keptUpto l i ++ [(once l).getD i cl0] := by
  unfold keptUpto
  rw [take_succ_getD (d := cl0) h, List.filter_append]
  cases hn : needless (once l) ((once l).getD i cl0)
  · rw [List.filter_cons_of_pos (by rw [hn]; rfl)]; simp
  · rw [List.filter_cons_of_neg (by rw [hn]; decide)]; simp
theorem keptUpto_all (l : List Cl) : keptUpto l (once l).length = kept l := by simp [keptUpto, kept]
theorem keptUpto_len (l : List Cl) (i : Nat) : (keptUpto l i).length ≤ l.length := by
  unfold keptUpto
  have h1 := List.length_filter_le (fun c => !needless (once l) c) ((once l).take i)
  have h2 := once_len l
  simp only [List.length_take] at h1
  omega
theorem once_take_succ {l : List Cl} {i : Nat} (h : i < l.length) : once (l.take (i + 1)) = if l.getD i cl0 ∈ once (l.take i) then once (l.take i) else once (l.take i) ++ [l.getD i cl0] := by
  rw [take_succ_getD (d := cl0) h, once_snoc]
theorem once_take_len (l : List Cl) (i : Nat) : (once (l.take i)).length ≤ l.length := by
  have := once_len (l.take i); simp only [List.length_take] at this; omega
theorem kept_mem {l : List Cl} {c : Cl} (h : c ∈ kept l) : c ∈ l := by
  unfold kept at h
  exact (once_mem c l).mp (List.mem_filter.mp h).1
end Go.Hy
namespace Go.Hy
set_option linter.unusedVariables false
set_option linter.unusedSimpArgs false
set_option linter.unusedSectionVars false
set_option linter.unusedVariables false
/-! ### What Least tells of a formula that may be -/
theorem lessC_tri (a b : Cl) : lessC a b = true ∨ a = b ∨ lessC b a = true := by
  obtain ⟨p, n⟩ := a
  obtain ⟨p', n'⟩ := b
  simp only [lessC, Bool.or_eq_true, Bool.and_eq_true, decide_eq_true_eq, Cl.mk.injEq]
  omega
theorem lessC_asym {a b : Cl} (h : lessC a b = true) : lessC b a = false := by
  simp only [lessC, Bool.or_eq_true, Bool.and_eq_true, decide_eq_true_eq, Bool.or_eq_false_iff, Bool.and_eq_false_iff, decide_eq_false_iff_not] at *
  omega
theorem lessC_trans {a b c : Cl} (h : lessC a b = true) (h2 : lessC b c = true) : lessC a c = true := by
  simp only [lessC, Bool.or_eq_true, Bool.and_eq_true, decide_eq_true_eq] at *
  omega
theorem lessC_irr (a : Cl) : lessC a a = false := by simp [lessC]
theorem antis {a b : Cl} (h : lessC a b = false) (h2 : lessC b a = false) : a = b := by
  rcases lessC_tri a b with h3 | h3 | h3
  · rw [h] at h3; cases h3
  · exact h3
  · rw [h2] at h3; cases h3
/-- Two that are sorted, of the same clauses, are one. -/
theorem sorted_eq : ∀ {l m : List Cl}, l.Perm m → (l.Pairwise fun a b => lessC b a = false) → (m.Pairwise fun a b => lessC b a = false) → l = m
  | [], m, hp, _, _ => by have := hp.length_eq; cases m with | nil => rfl | cons _ _ => simp at this
  | a :: l, [], hp, _, _ => by have := hp.length_eq; simp at this
  | a :: l, b :: m, hp, h1, h2 => by
    rw [List.pairwise_cons] at h1 h2
    have ha : a ∈ b :: m := hp.mem_iff.mp List.mem_cons_self
    have hb : b ∈ a :: l := hp.mem_iff.mpr List.mem_cons_self
    have e : a = b := by
      rcases List.mem_cons.mp ha with h | h
      · exact h
      · rcases List.mem_cons.mp hb with h3 | h3
        · exact h3.symm
        · exact antis (h2.1 a h |> fun x => x) (h1.1 b h3) |> fun x => by exact x
    subst e
    rw [sorted_eq (List.Perm.cons_inv hp) h1.2 h2.2]
theorem sortedC_iff : ∀ {l : List Cl}, sortedC l = true ↔ l.Pairwise fun a b => lessC a b = true
  | [] => by simp [sortedC]
  | [a] => by simp [sortedC]
  | a :: b :: l => by
    rw [sortedC, Bool.and_eq_true, sortedC_iff (l := b :: l), List.pairwise_cons (a := a)]
    constructor
    · rintro ⟨h1, h2⟩
      refine ⟨fun c hc => ?_, h2⟩
      rcases List.mem_cons.mp hc with h | h
      · exact h ▸ h1
      · exact lessC_trans h1 ((List.pairwise_cons.mp h2).1 c h)
    · rintro ⟨h1, h2⟩
      exact ⟨h1 b List.mem_cons_self, h2⟩
theorem once_of_nodup {l : List Cl} (h : l.Pairwise fun a b => lessC a b = true) : once l = l := by
  have : ∀ (m o : List Cl), ((o ++ m).Pairwise fun a b => lessC a b = true) → m.foldl (fun o c => if c ∈ o then o else o ++ [c]) o = o ++ m := by
    intro m
    induction m with
    | nil => intro o _; simp
    | cons c m ih =>
      intro o h
      rw [List.foldl_cons]
      have hn : c ∉ o := by
        intro hc
        have := (List.pairwise_append.mp h).2.2 c hc c List.mem_cons_self
        rw [lessC_irr] at this; cases this
      rw [if_neg hn, ih (o ++ [c]) (by simpa using h)]
      simp
  have := this l [] (by simpa using h)
  simpa [once] using this
theorem apart_iff {l : List Cl} : apart l = true ↔ ∀ a, a ∈ l → ∀ b, b ∈ l → a = b ∨ below a b = false := by
  unfold apart
  simp only [List.all_eq_true, Bool.or_eq_true, decide_eq_true_eq, Bool.not_eq_true']
theorem needless_iff {l : List Cl} {c : Cl} : needless l c = false ↔ ∀ d, d ∈ l → c = d ∨ below c d = false := by
  unfold needless
  rw [List.any_eq_false]
  constructor
  · intro h d hd
    have := h d hd
    simp only [Bool.and_eq_true, Bool.not_eq_true', decide_eq_false_iff_not, not_and, Bool.not_eq_true] at this
    by_cases e : c = d
    · exact .inl e
    · exact .inr (this e)
  · intro h d hd
    simp only [Bool.and_eq_true, Bool.not_eq_true', decide_eq_false_iff_not, not_and, Bool.not_eq_true]
    intro e
    exact (h d hd).resolve_left e
theorem least_right {l : List Cl} {r : Int × List Cl} (h : LeastIs l r) : (decide (r.1 = 0) && decide (r.2 = l)) = fRight l := by
  rw [Bool.eq_iff_iff, Bool.and_eq_true, decide_eq_true_eq, decide_eq_true_eq]
  unfold LeastIs at h
  constructor
  · rintro ⟨h1, h2⟩
    split at h
    · rw [h] at h1; cases h1
    · rename_i hr
      split at h
      · rw [h] at h1; cases h1
      · rename_i h64
        obtain ⟨_, hp, hs⟩ := h
        rw [h2] at hp hs
        have hr' : l.all right24 = true := by simpa using hr
        have hlen := hp.length_eq
        have hk1 : (kept l).length ≤ (once l).length := by unfold kept; exact List.length_filter_le _ _
        have ho := once_len l
        have hkeep : kept l = once l := by
          have : (kept l).Sublist (once l) := by unfold kept; exact List.filter_sublist
          exact this.eq_of_length (by omega)
        have hnd : ∀ c, c ∈ l → needless (once l) c = false := by
          intro c hc
          have : c ∈ kept l := hp.mem_iff.mp hc
          unfold kept at this
          have := (List.mem_filter.mp this).2
          simpa using this
        have hap : apart l = true := apart_iff.mpr fun a ha b hb => needless_iff.mp (hnd a ha) b ((once_mem b l).mpr hb)
        have hnodup : (once l).Nodup := by
          have : ∀ (m o : List Cl), o.Nodup → (m.foldl (fun o c => if c ∈ o then o else o ++ [c]) o).Nodup := by
            intro m
            induction m with
            | nil => intro o h; exact h
            | cons c m ih =>
              intro o h
              rw [List.foldl_cons]
              apply ih
              split
              · exact h
              · rename_i hn
                rw [List.nodup_append]
                refine ⟨h, by simp, ?_⟩
                intro a ha b hb e
                rw [List.mem_singleton] at hb
                exact hn (hb ▸ e ▸ ha)
          exact this l [] List.nodup_nil
        have hln : l.Nodup := (hp.nodup_iff).mpr (hkeep ▸ hnodup)
        have hst : sortedC l = true := by
          rw [sortedC_iff]
          have hboth : l.Pairwise fun a b => lessC b a = false ∧ a ≠ b := hs.and hln
          exact hboth.imp fun {a b} ⟨h3, h4⟩ => by
            rcases lessC_tri a b with h5 | h5 | h5
            · exact h5
            · exact absurd h5 h4
            · rw [h3] at h5; cases h5
        unfold fRight
        rw [hr', hst, hap]
        simp; omega
  · intro hf
    unfold fRight at hf
    simp only [Bool.and_eq_true, decide_eq_true_eq] at hf
    obtain ⟨⟨⟨hr, hs⟩, ha⟩, h64⟩ := hf
    have hs' := sortedC_iff.mp hs
    have ho := once_of_nodup hs'
    have hk : kept l = l := by
      unfold kept
      rw [ho, List.filter_eq_self]
      intro c hc
      have : needless l c = false := needless_iff.mpr fun d hd => apart_iff.mp ha c hc d hd
      simp [this]
    rw [hr, if_neg (by decide), hk, if_neg (by omega)] at h
    exact ⟨h.1, sorted_eq h.2.1 h.2.2 (hs'.imp fun h => lessC_asym h)⟩
end Go.Hy
namespace Go.Hy
set_option linter.unusedVariables false
set_option linter.unusedSimpArgs false
set_option linter.unusedSectionVars false
set_option linter.unusedVariables false
/-! ### Sets of dimensions as bits of a number, by the document's definitions -/
def hasM (s : Nat) (i : Int) : Bool := decide (0 ≤ i) && decide (i < 24) && s.testBit i.toNat
theorem hasM_eq (s : Nat) (i : Int) : hasM s i = (decide (0 ≤ i) && decide (i < 24) && decide (s / 2 ^ i.toNat % 2 = 1)) := by
  unfold hasM; rw [Nat.testBit_eq_decide_div_mod_eq]
/-- The dimensions of a set below a number, rising. -/
def listTo (s n : Nat) : List Int := ((List.range n).filter s.testBit).map fun (i : Nat) => (i : Int)
abbrev listM (s : Nat) : List Int := listTo s 24
theorem listTo_succ (s n : Nat) : listTo s (n + 1) = if s.testBit n then listTo s n ++ [(n : Int)] else listTo s n := by
  unfold listTo
  rw [List.range_succ, List.filter_append]
  cases h : s.testBit n <;> simp [h]
theorem listTo_in {s n : Nat} {x : Int} (h : x ∈ listTo s n) : 0 ≤ x ∧ x < n := by
  unfold listTo at h
  simp only [List.mem_map, List.mem_filter, List.mem_range] at h
  obtain ⟨i, ⟨h1, _⟩, rfl⟩ := h
  omega
theorem listTo_mem {s n : Nat} {x : Int} : x ∈ listTo s n ↔ 0 ≤ x ∧ x < n ∧ s.testBit x.toNat = true := by
  unfold listTo
  simp only [List.mem_map, List.mem_filter, List.mem_range]
  constructor
  · rintro ⟨i, ⟨h1, h2⟩, rfl⟩; exact ⟨by omega, by omega, by simpa using h2⟩
  · rintro ⟨h1, h2, h3⟩; exact ⟨x.toNat, ⟨by omega, h3⟩, by omega⟩
theorem listTo_len (s n : Nat) : (listTo s n).length ≤ n := by
  unfold listTo
  rw [List.length_map]
  have := List.length_filter_le s.testBit (List.range n)
  simpa using this
/-- The set of dimensions. -/
def setM (l : List Int) : Nat := (l.map fun x => 2 ^ x.toNat).sum
def setTo (l : List Int) (i : Nat) : Nat := setM (l.take i)
theorem setTo_zero (l : List Int) : setTo l 0 = 0 := by simp [setTo, setM]
theorem setTo_all (l : List Int) : setTo l l.length = setM l := by simp [setTo]
theorem setTo_succ {l : List Int} {i : Nat} (h : i < l.length) : setTo l (i + 1) = setTo l i + 2 ^ (l.getD i 0).toNat := by
  unfold setTo setM; rw [take_succ_getD (d := 0) h, List.map_append, List.sum_append]; simp
theorem setM_le {l : List Int} (h : ∀ x, x ∈ l → 0 ≤ x ∧ x < 24) : setM l ≤ l.length * 8388608 := by
  unfold setM
  induction l with
  | nil => simp
  | cons a l ih =>
    have h1 := ih (fun x hx => h x (List.mem_cons_of_mem _ hx))
    have h2 := h a List.mem_cons_self
    have h3 : 2 ^ a.toNat ≤ 8388608 := Nat.pow_le_pow_right (n := 2) (j := 23) (by omega) (by omega)
    simp only [List.map_cons, List.sum_cons, List.length_cons]
    generalize 2 ^ a.toNat = q at *
    omega
theorem setTo_le {l : List Int} (h : ∀ x, x ∈ l → 0 ≤ x ∧ x < 24) (i : Nat) : setTo l i ≤ l.length * 8388608 := by
  have h1 := setM_le (l := l.take i) (fun x hx => h x (List.mem_of_mem_take hx))
  have h2 : (l.take i).length ≤ l.length := by simp; omega
  exact Nat.le_trans h1 (Nat.mul_le_mul_right 8388608 h2)
theorem setM_listTo (s : Nat) : ∀ n, setM (listTo s n) = s % 2 ^ n
  | 0 => by
    have h : listTo s 0 = [] := by unfold listTo; rw [List.range_zero, List.filter_nil, List.map_nil]
    rw [h, Nat.pow_zero, Nat.mod_one, setM, List.map_nil, List.sum_nil]
  | n + 1 => by
    rw [listTo_succ, Nat.mod_pow_succ]
    have ih := setM_listTo s n
    have hb := Nat.testBit_eq_decide_div_mod_eq (x := s) (i := n)
    by_cases h : s / 2 ^ n % 2 = 1
    · rw [hb, decide_eq_true h, if_pos rfl, h]
      have e : setM (listTo s n ++ [(n : Int)]) = setM (listTo s n) + 2 ^ n := by simp [setM]
      rw [e, ih, Nat.mul_one]
    · have h0 : s / 2 ^ n % 2 = 0 := by omega
      rw [hb, decide_eq_false h, if_neg (by simp), h0, ih]; simp
theorem and24 (s : Nat) : s &&& 16777215 = s % 2 ^ 24 := by
  rw [show (16777215 : Nat) = 2 ^ 24 - 1 from rfl, Nat.and_two_pow_sub_one_eq_mod]
theorem setM_listM (s : Nat) : setM (listM s) = s &&& 16777215 := by rw [setM_listTo, and24]
end Go.Hy
namespace Go.Hy
set_option linter.unusedVariables false
set_option linter.unusedSimpArgs false
set_option linter.unusedSectionVars false
set_option linter.unusedVariables false
/-! ### The document's clauses and formulas -/
theorem succ_inv {p : Nat → Prop} {i : Nat} (h : ∀ j, j < i → p j) (hi : p i) : ∀ j, j < i + 1 → p j := fun j hj => by
  rcases Nat.lt_succ_iff_lt_or_eq.mp hj with h2 | h2
  · exact h j h2
  · exact h2 ▸ hi
theorem any_false_of {α : Type} {d : α} {l : List α} {g : α → Bool} (h : ∀ j, j < l.length → g (l.getD j d) = false) : l.any g = false := by
  rw [List.any_eq_false]
  intro x hx
  obtain ⟨j, hj, e⟩ := List.mem_iff_getElem.mp hx
  have := h j hj
  rw [getD_get (d := d) hj, e] at this
  simp [this]
theorem any_true_at {α : Type} {d : α} {l : List α} {g : α → Bool} {i : Nat} (hi : i < l.length) (h : g (l.getD i d) = true) : l.any g = true := List.any_eq_true.mpr ⟨_, getD_mem hi, h⟩
theorem all_true_of {α : Type} {d : α} {l : List α} {g : α → Bool} (h : ∀ j, j < l.length → g (l.getD j d) = true) : l.all g = true := by
  rw [List.all_eq_true]
  intro x hx
  obtain ⟨j, hj, e⟩ := List.mem_iff_getElem.mp hx
  have := h j hj
  rwa [getD_get (d := d) hj, e] at this
theorem all_false_at {α : Type} {d : α} {l : List α} {g : α → Bool} {i : Nat} (hi : i < l.length) (h : g (l.getD i d) = false) : l.all g = false := by
  rw [List.all_eq_false]
  exact ⟨l.getD i d, getD_mem hi, by rw [h]; decide⟩
def rclash (c : Cl) : Bool := (List.range 24).any fun i => hasM c.pos (i : Int) && hasM c.neg (i : Int)
theorem rclash_eq {c : Cl} (h : right24 c = true) : rclash c = clash c := by
  simp only [right24, Bool.and_eq_true, decide_eq_true_eq] at h
  rw [Bool.eq_iff_iff]
  unfold rclash clash
  rw [List.any_eq_true, decide_eq_true_eq]
  constructor
  · rintro ⟨i, hi, hb⟩ h0
    simp only [hasM, Bool.and_eq_true, decide_eq_true_eq, Int.toNat_natCast] at hb
    have := congrArg (fun n => Nat.testBit n i) h0
    simp only [Nat.testBit_and, Nat.zero_testBit] at this
    rw [hb.1.2, hb.2.2] at this
    cases this
  · intro h0
    obtain ⟨i, hi⟩ : ∃ i, (c.pos &&& c.neg).testBit i = true := by
      apply Classical.byContradiction
      intro hn
      exact h0 (Nat.eq_of_testBit_eq fun i => by
        rw [Nat.zero_testBit]
        cases hb : (c.pos &&& c.neg).testBit i
        · rfl
        · exact absurd ⟨i, hb⟩ hn)
    rw [Nat.testBit_and, Bool.and_eq_true] at hi
    have hlt : i < 24 := by
      apply Classical.byContradiction
      intro hge
      have : c.pos.testBit i = false := Nat.testBit_lt_two_pow (Nat.lt_of_lt_of_le h.1 (Nat.pow_le_pow_right (n := 2) (by omega) (show 24 ≤ i by omega)))
      rw [this] at hi; cases hi.1
    exact ⟨i, List.mem_range.mpr hlt, by simp [hasM, hi.1, hi.2]; omega⟩
/-! A clause is put in its place. -/
def insC (c : Cl) : List Cl → List Cl
  | [] => [c]
  | d :: l => if lessC d c then d :: insC c l else if d = c then d :: l else c :: d :: l
def rl (l : List Cl) (m : List Cl) : List Cl := m.foldl (fun o c => if needless l c then o else insC c o) []
def rlTo (l : List Cl) (i : Nat) : List Cl := rl l (l.take i)
abbrev refLeast (l : List Cl) : List Cl := rl l l
theorem rlTo_zero (l : List Cl) : rlTo l 0 = [] := by simp [rlTo, rl]
theorem rlTo_all (l : List Cl) : rlTo l l.length = refLeast l := by simp [rlTo]
theorem rlTo_succ {l : List Cl} {i : Nat} (h : i < l.length) : rlTo l (i + 1) = if needless l (l.getD i cl0) then rlTo l i else insC (l.getD i cl0) (rlTo l i) := by
  unfold rlTo rl; rw [take_succ_getD (d := cl0) h, List.foldl_append]; rfl
theorem insC_mem {c x : Cl} : ∀ {l : List Cl}, x ∈ insC c l ↔ x = c ∨ x ∈ l
  | [] => by simp [insC]
  | d :: l => by
    unfold insC
    split
    · rw [List.mem_cons, insC_mem (l := l), List.mem_cons]
      constructor
      · rintro (h | h | h)
        · exact .inr (.inl h)
        · exact .inl h
        · exact .inr (.inr h)
      · rintro (h | h | h)
        · exact .inr (.inl h)
        · exact .inl h
        · exact .inr (.inr h)
    · split
      · rename_i h
        subst h
        simp
      · simp
theorem insC_len (c : Cl) : ∀ l : List Cl, (insC c l).length ≤ l.length + 1
  | [] => by simp [insC]
  | d :: l => by
    unfold insC
    have := insC_len c l
    split
    · simp; omega
    · split <;> simp
theorem insC_sorted {c : Cl} : ∀ {l : List Cl}, (l.Pairwise fun a b => lessC a b = true) → (insC c l).Pairwise fun a b => lessC a b = true
  | [], _ => by simp [insC]
  | d :: l, h => by
    rw [List.pairwise_cons] at h
    unfold insC
    split
    · rename_i hd
      rw [List.pairwise_cons]
      refine ⟨fun x hx => ?_, insC_sorted h.2⟩
      rcases insC_mem.mp hx with e | e
      · exact e ▸ hd
      · exact h.1 x e
    · rename_i hd
      split
      · exact List.pairwise_cons.mpr h
      · rename_i hne
        have hcd : lessC c d = true := by
          rcases lessC_tri c d with h3 | h3 | h3
          · exact h3
          · exact absurd h3.symm hne
          · exact absurd h3 hd
        rw [List.pairwise_cons]
        refine ⟨fun x hx => ?_, List.pairwise_cons.mpr h⟩
        rcases List.mem_cons.mp hx with e | e
        · exact e ▸ hcd
        · exact lessC_trans hcd (h.1 x e)
theorem rl_sorted (l : List Cl) : ∀ (m o : List Cl), (o.Pairwise fun a b => lessC a b = true) → (m.foldl (fun o c => if needless l c then o else insC c o) o).Pairwise fun a b => lessC a b = true
  | [], o, h => h
  | c :: m, o, h => by
    rw [List.foldl_cons]
    apply rl_sorted l m
    split
    · exact h
    · exact insC_sorted h
theorem rl_mem (l : List Cl) (x : Cl) : ∀ (m o : List Cl), x ∈ m.foldl (fun o c => if needless l c then o else insC c o) o ↔ x ∈ o ∨ (x ∈ m ∧ needless l x = false)
  | [], o => by simp
  | c :: m, o => by
    rw [List.foldl_cons, rl_mem l x m]
    by_cases hn : needless l c = true
    · rw [if_pos hn, List.mem_cons]
      constructor
      · rintro (h | ⟨h, h2⟩)
        · exact .inl h
        · exact .inr ⟨.inr h, h2⟩
      · rintro (h | ⟨h | h, h2⟩)
        · exact .inl h
        · subst h; rw [hn] at h2; cases h2
        · exact .inr ⟨h, h2⟩
    · rw [if_neg hn, insC_mem, List.mem_cons]
      constructor
      · rintro ((h | h) | ⟨h, h2⟩)
        · subst h; exact .inr ⟨.inl rfl, by simpa using hn⟩
        · exact .inl h
        · exact .inr ⟨.inr h, h2⟩
      · rintro (h | ⟨h | h, h2⟩)
        · exact .inl (.inr h)
        · exact .inl (.inl h)
        · exact .inr ⟨h, h2⟩
theorem refLeast_mem {l : List Cl} {x : Cl} : x ∈ refLeast l ↔ x ∈ l ∧ needless l x = false := by
  have := rl_mem l x l []
  simpa [refLeast, rl] using this
theorem refLeast_sorted (l : List Cl) : (refLeast l).Pairwise fun a b => lessC a b = true := rl_sorted l l [] List.Pairwise.nil
theorem rlTo_len (l : List Cl) (i : Nat) : (rlTo l i).length ≤ i := by
  have : ∀ (m o : List Cl), (m.foldl (fun o c => if needless l c then o else insC c o) o).length ≤ o.length + m.length := by
    intro m
    induction m with
    | nil => intro o; simp
    | cons c m ih =>
      intro o
      rw [List.foldl_cons]
      have h1 := ih (if needless l c then o else insC c o)
      have h2 : (if needless l c = true then o else insC c o).length ≤ o.length + 1 := by
        split
        · omega
        · exact insC_len c o
      simp only [List.length_cons]; omega
  have := this (l.take i) []
  unfold rlTo rl
  simp at this ⊢
  omega
theorem rlTo_in {l : List Cl} {i : Nat} {c : Cl} (h : c ∈ rlTo l i) : c ∈ l := by
  have := (rl_mem l c (l.take i) []).mp h
  rcases this with h | h
  · cases h
  · exact List.mem_of_mem_take h.1
theorem strict_ext : ∀ {l m : List Cl}, (l.Pairwise fun a b => lessC a b = true) → (m.Pairwise fun a b => lessC a b = true) → (∀ x, x ∈ l ↔ x ∈ m) → l = m
  | [], [], _, _, _ => rfl
  | [], b :: m, _, _, h => by have := (h b).mpr List.mem_cons_self; cases this
  | a :: l, [], _, _, h => by have := (h a).mp List.mem_cons_self; cases this
  | a :: l, b :: m, h1, h2, h => by
    rw [List.pairwise_cons] at h1 h2
    have e : a = b := by
      rcases List.mem_cons.mp ((h a).mp List.mem_cons_self) with h3 | h3
      · exact h3
      · rcases List.mem_cons.mp ((h b).mpr List.mem_cons_self) with h4 | h4
        · exact h4.symm
        · have h5 := h2.1 a h3
          have h6 := h1.1 b h4
          rw [lessC_asym h5] at h6; cases h6
    subst e
    congr 1
    apply strict_ext h1.2 h2.2
    intro x
    have hx := h x
    rw [List.mem_cons, List.mem_cons] at hx
    constructor
    · intro h3
      rcases hx.mp (.inr h3) with h4 | h4
      · subst h4; have := h1.1 x h3; rw [lessC_irr] at this; cases this
      · exact h4
    · intro h3
      rcases hx.mpr (.inr h3) with h4 | h4
      · subst h4; have := h2.1 x h3; rw [lessC_irr] at this; cases this
      · exact h4
theorem needless_once (l : List Cl) (c : Cl) : needless (once l) c = needless l c := by
  unfold needless
  rw [Bool.eq_iff_iff, List.any_eq_true, List.any_eq_true]
  constructor
  · rintro ⟨d, h1, h2⟩; exact ⟨d, (once_mem d l).mp h1, h2⟩
  · rintro ⟨d, h1, h2⟩; exact ⟨d, (once_mem d l).mpr h1, h2⟩
theorem once_nodup (l : List Cl) : (once l).Nodup := by
  have : ∀ (m o : List Cl), o.Nodup → (m.foldl (fun o c => if c ∈ o then o else o ++ [c]) o).Nodup := by
    intro m
    induction m with
    | nil => intro o h; exact h
    | cons c m ih =>
      intro o h
      rw [List.foldl_cons]
      apply ih
      split
      · exact h
      · rename_i hn
        rw [List.nodup_append]
        refine ⟨h, by simp, ?_⟩
        intro a ha b hb e
        rw [List.mem_singleton] at hb
        exact hn (hb ▸ e ▸ ha)
  exact this l [] List.nodup_nil
theorem sortOf_ex (l : List Cl) : ∃ m, SortOf l m := by
  refine ⟨l.mergeSort (fun a b => !lessC b a), List.mergeSort_perm _ _, ?_⟩
  have := List.pairwise_mergeSort (le := fun a b => !lessC b a) (fun a b c h1 h2 => by
    simp only [Bool.not_eq_true'] at *
    simp only [lessC, Bool.or_eq_false_iff, Bool.and_eq_false_iff, decide_eq_false_iff_not] at *
    omega) (fun a b => by
    rcases lessC_tri a b with h | h | h
    · simp [lessC_asym h]
    · subst h; simp [lessC_irr]
    · simp [lessC_asym h]) l
  exact this.imp fun h => by simpa using h
theorem sortOf_eq {l m : List Cl} (h : SortOf (kept l) m) : m = refLeast l := by
  have hnd : m.Nodup := (h.1.nodup_iff).mpr (by unfold kept; exact (once_nodup l).filter _)
  have hb : m.Pairwise fun a b => lessC b a = false ∧ a ≠ b := h.2.and hnd
  refine strict_ext ?_ (refLeast_sorted l) (fun x => ?_)
  · exact hb.imp fun {a b} ⟨h3, h4⟩ => by
      rcases lessC_tri a b with h5 | h5 | h5
      · exact h5
      · exact absurd h5 h4
      · rw [h3] at h5; cases h5
  · rw [h.1.mem_iff, refLeast_mem]
    unfold kept
    rw [List.mem_filter, once_mem, needless_once]
    simp
/-- What Least tells: an error's number, and the clauses. -/
def leastF (l : List Cl) : Int × List Cl := if l.all right24 = false then (2, []) else if 64 < (refLeast l).length then (3, []) else (0, refLeast l)
theorem leastIs_eq {l : List Cl} {r : Int × List Cl} (h : LeastIs l r) : r = leastF l := by
  unfold LeastIs at h
  unfold leastF
  by_cases h1 : l.all right24 = false
  · rw [if_pos h1] at h ⊢; exact h
  · rw [if_neg h1] at h ⊢
    by_cases h2 : 64 < (kept l).length
    · have h3 : (kept l).length = (refLeast l).length := by
        obtain ⟨m, hm⟩ := sortOf_ex (kept l)
        rw [← hm.1.length_eq, sortOf_eq hm]
      rw [if_pos h2] at h
      rw [if_pos (by omega)]; exact h
    · rw [if_neg h2] at h
      have e := sortOf_eq h.2
      have h3 : (kept l).length = (refLeast l).length := by rw [← h.2.1.length_eq, e]
      rw [if_neg (by omega)]
      exact Prod.ext h.1 e
theorem leastF_right (l : List Cl) : (decide ((leastF l).1 = 0) && decide ((leastF l).2 = l)) = fRight l := by
  obtain ⟨r, hr⟩ : ∃ r, LeastIs l r := by
    unfold LeastIs
    by_cases h1 : l.all right24 = false
    · exact ⟨_, by rw [if_pos h1]⟩
    · by_cases h2 : 64 < (kept l).length
      · exact ⟨_, by rw [if_neg h1, if_pos h2]⟩
      · obtain ⟨m, hm⟩ := sortOf_ex (kept l)
        exact ⟨(0, m), by rw [if_neg h1, if_neg h2]; exact ⟨rfl, hm⟩⟩
  rw [← leastIs_eq hr]
  exact least_right hr
/-- A clause in its place, by the place. -/
theorem insC_at {c : Cl} : ∀ {l : List Cl} {k : Nat}, k ≤ l.length → (∀ j, j < k → lessC (l.getD j cl0) c = true) → (k < l.length → lessC (l.getD k cl0) c = false) → insC c l = if k < l.length ∧ l.getD k cl0 = c then l else l.take k ++ [c] ++ l.drop k
  | [], k, hk, h1, h2 => by simp at hk; subst hk; simp [insC]
  | d :: l, 0, hk, h1, h2 => by
    have h := h2 (by simp)
    simp only [List.getD_cons_zero] at h
    unfold insC
    rw [h, if_neg (by decide)]
    simp
  | d :: l, k + 1, hk, h1, h2 => by
    have h := h1 0 (by omega)
    simp only [List.getD_cons_zero] at h
    unfold insC
    rw [if_pos h, insC_at (l := l) (k := k) (by simpa using hk) (fun j hj => by simpa using h1 (j + 1) (by omega)) (fun hlt => by simpa using h2 (by simpa using hlt))]
    simp only [List.length_cons, List.getD_cons_succ, List.take_succ_cons, List.drop_succ_cons, List.cons_append, Nat.add_lt_add_iff_right]
    split <;> rfl
end Go.Hy
namespace Go.Hy
set_option linter.unusedVariables false
set_option linter.unusedSimpArgs false
set_option linter.unusedSectionVars false
set_option linter.unusedVariables false
/-! ### How great a term is: nodes, clauses, bytes -/
def bulkG (t : T) (ks : List Nat) (bs : List (List Nat)) : Nat := 1 + t.r.length + t.name.size + ks.sum + ((t.sys.zip bs).map fun p => 1 + p.1.face.length + p.2.sum).sum
def bulk : T → Nat := tf bulkG
def brBulk (b : Br) : Nat := 1 + b.face.length + (b.kids.map bulk).sum
theorem bulk_eq (t : T) : bulk t = 1 + t.r.length + t.name.size + (t.kids.map bulk).sum + (t.sys.map brBulk).sum := by
  conv => lhs; rw [bulk, tf_eq]
  unfold bulkG
  congr 2
  generalize t.sys = l
  induction l with
  | nil => rfl
  | cons b l ih => simp only [List.map_cons, List.zip_cons_cons, List.map_cons]; rw [ih]; rfl
def bK (t : T) (i : Nat) : Nat := 1 + t.r.length + t.name.size + ((t.kids.take i).map bulk).sum
def bS (t : T) (i : Nat) : Nat := bK t t.kids.length + ((t.sys.take i).map brBulk).sum
def bJ (t : T) (i j : Nat) : Nat := bS t i + 1 + (t.sys.getD i br0).face.length + (((t.sys.getD i br0).kids.take j).map bulk).sum
theorem sum_take_succ {α : Type} (f : α → Nat) {l : List α} {i : Nat} {d : α} (h : i < l.length) : ((l.take (i + 1)).map f).sum = ((l.take i).map f).sum + f (l.getD i d) := by
  rw [take_succ_getD (d := d) h, List.map_append, List.sum_append]; simp
theorem sum_take_le {α : Type} (f : α → Nat) : ∀ (l : List α) (i : Nat), ((l.take i).map f).sum ≤ (l.map f).sum
  | [], i => by simp
  | a :: l, 0 => by simp
  | a :: l, i + 1 => by have := sum_take_le f l i; simp only [List.take_succ_cons, List.map_cons, List.sum_cons]; omega
theorem bK_zero (t : T) : bK t 0 = 1 + t.r.length + t.name.size := by simp [bK]
theorem bK_succ {t : T} {i : Nat} (h : i < t.kids.length) : bK t (i + 1) = bK t i + bulk (t.kids.getD i t0) := by
  unfold bK; rw [sum_take_succ bulk h (d := t0)]; omega
theorem bS_zero (t : T) : bS t 0 = bK t t.kids.length := by simp [bS]
theorem bJ_zero (t : T) (i : Nat) : bJ t i 0 = bS t i + 1 + (t.sys.getD i br0).face.length := by simp [bJ]
theorem bJ_succ {t : T} {i j : Nat} (h : j < (t.sys.getD i br0).kids.length) : bJ t i (j + 1) = bJ t i j + bulk ((t.sys.getD i br0).kids.getD j t0) := by
  unfold bJ; rw [sum_take_succ bulk h (d := t0)]; omega
theorem bS_succ {t : T} {i : Nat} (h : i < t.sys.length) : bS t (i + 1) = bJ t i (t.sys.getD i br0).kids.length := by
  unfold bS bJ bS; rw [sum_take_succ brBulk h (d := br0), List.take_length]; unfold brBulk; omega
theorem bS_all (t : T) : bS t t.sys.length = bulk t := by
  rw [bulk_eq]; unfold bS bK; rw [List.take_length, List.take_length]
theorem bS_le (t : T) (i : Nat) : bS t i ≤ bulk t := by
  rw [bulk_eq]; unfold bS bK; rw [List.take_length]; have := sum_take_le brBulk t.sys i; omega
theorem bK_le (t : T) (i : Nat) : bK t i ≤ bulk t := by
  rw [bulk_eq]; unfold bK; have := sum_take_le bulk t.kids i; omega
theorem bJ_le {t : T} {i j : Nat} (h : i < t.sys.length) : bJ t i j ≤ bulk t := by
  have h1 := bS_le t (i + 1)
  rw [bS_succ h] at h1
  unfold bJ at h1 ⊢
  rw [List.take_length] at h1
  have := sum_take_le bulk (t.sys.getD i br0).kids j
  omega
/-- What a count has come to, as far as 'most'. -/
def BulkIs (t : T) (part : Nat) (most n : Int) : Prop := 0 ≤ n ∧ n ≤ 2 * most + 1 ∧ ((n ≤ most ∧ n = part) ∨ (most < n ∧ most < bulk t))
theorem size_le_bulk : ∀ t, size t ≤ bulk t := T.ind fun t ih => by
  have hk : ∀ (F G : T → Nat) (l : List T), (∀ k, k ∈ l → F k ≤ G k) → (l.map F).sum ≤ (l.map G).sum := by
    intro F G l
    induction l with
    | nil => intro _; simp
    | cons a l ih => intro h; have := ih (fun k hk => h k (List.mem_cons_of_mem _ hk)); have := h a List.mem_cons_self; simp only [List.map_cons, List.sum_cons]; omega
  have e : size t = 1 + ((parts t).map fun p => size p.1).sum := by
    rw [size_eq]
    have : ∀ (l : List Part) (a : Nat), l.foldl (fun a p => a + size p.1) a = a + (l.map fun p => size p.1).sum := by
      intro l
      induction l with
      | nil => intro a; simp
      | cons b l ih => intro a; rw [List.foldl_cons, ih]; simp; omega
    exact this _ _
  rw [e, parts_map, bulk_eq, List.sum_append]
  have h1 := hk size bulk t.kids (fun k hk => by obtain ⟨p, hp, e⟩ := kid_mem_parts hk; exact e ▸ ih p hp)
  have h2 : ((t.sys.map fun b => b.kids.map size).flatten).sum ≤ (t.sys.map brBulk).sum := by
    have : ∀ (l : List Br), (∀ b, b ∈ l → b ∈ t.sys) → ((l.map fun b => b.kids.map size).flatten).sum ≤ (l.map brBulk).sum := by
      intro l
      induction l with
      | nil => intro _; simp
      | cons b l ih2 =>
        intro h
        have h3 := ih2 (fun b hb => h b (List.mem_cons_of_mem _ hb))
        have h4 := hk size bulk b.kids (fun k hk => by obtain ⟨p, hp, e⟩ := sys_mem_parts (h b List.mem_cons_self) hk; exact e ▸ ih p hp)
        simp only [List.map_cons, List.flatten_cons, List.sum_append, List.sum_cons]
        have hb : brBulk b = 1 + b.face.length + (b.kids.map bulk).sum := rfl
        rw [hb]
        omega
    exact this t.sys (fun _ h => h)
  omega
end Go.Hy
