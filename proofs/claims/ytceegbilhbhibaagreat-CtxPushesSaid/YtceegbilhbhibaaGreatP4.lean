/- Contracts of this program's functions and the laws that they need: a separation logic over the machine's rules, one theorem each (partly printed by a program of this repository). -/
import Derived.ArgAppend
import Derived.Test.YtceegbilhbhibaaGreatP2
import Derived.Test.YtceegbilhbhibaaGreatP3
set_option linter.unusedVariables false
set_option linter.unusedSimpArgs false
set_option linter.unusedSectionVars false
namespace Go.Hy
section
variable {P : Program} {f : FuncId} {R : Ending → World → Prop} {B : Base} {n : Fz} {K : List Item} {σ : Nat → Value} {Γ LF : List Fact} {Ms Ms2 Ms' : List Res} {todo : List Item} {w : World}
/-- What is owned, said in other words. -/
theorem go_ms (h : Ms = Ms') (k : GoT P f R B n todo σ Γ Ms') : GoT P f R B n todo σ Γ Ms := h ▸ k
/-- What a thing that is owned tells, while nobody writes to it. -/
def Lends (m : Res) (LF : List Fact) : Prop := ∀ w : World, (∀ w' : World, (∀ b, m.dom b → w'.heap[b]? = w.heap[b]?) → m.holds w') → (∀ b, m.dom b → b < w.heap.size) → ∀ F, F ∈ LF → F.f m.dom w
theorem St.reok {ok ok' S : Nat → Prop} {w0 : World} (h : St ⟨ok, S, w0⟩ Γ Ms w) : St ⟨ok', S, w0⟩ [] Ms w := ⟨h.chg, fun _ hF => (by cases hF), h.res, h.lt, h.disj⟩
/-- One item, while a thing that is owned is known. -/
theorem go_lend {it : Item} (m : Res) (hl : Lends m LF) (hm0 : Ms.Perm (m :: Ms2)) (live : List (Nat × Value))
    (h1 : ∀ B', (∀ σ', LiveL σ' live → GoT P f R B' n K σ' (LF ++ Γ) Ms2) → GoT P f R B' n (it :: K) σ (LF ++ Γ) Ms2) (h2 : ∀ base, GoT P f R B n K (stL base live) Γ Ms) : GoT P f R B n (it :: K) σ Γ Ms := by
  intro a w hr hs
  have hm : Ms.Perm (Ms2 ++ [m]) := hm0.trans (List.perm_append_comm (l₁ := [m]))
  have hs1 := hs.perm hm
  have hmm : m ∈ Ms2 ++ [m] := List.mem_append_right _ List.mem_cons_self
  have hs2 : St ⟨fun b => okOf B (Ms2 ++ [m]) w b ∨ m.dom b, domAll Ms2, w⟩ (LF ++ Γ) Ms2 w := by
    refine ⟨Chg.refl _ _, fun F hF => ?_, fun m' h' => hs1.res m' (List.mem_append_left _ h'), fun m' h' b hb => ⟨(hs1.lt m' (List.mem_append_left _ h') b hb).1, .inl ⟨m', h', hb⟩⟩, (List.pairwise_append.mp hs1.disj).1⟩
    rcases List.mem_append.mp hF with hF | hF
    · refine F.mono _ _ _ (fun b hb => ⟨.inl (.inr hb), (hs1.lt m hmm b hb).1, ?_⟩) (hl w (hs1.res m hmm) (fun b hb => (hs1.lt m hmm b hb).1) F hF)
      rintro ⟨m', h', hb'⟩
      exact (List.pairwise_append.mp hs1.disj).2.2 m' h' m List.mem_cons_self b hb' hb
    · exact F.mono _ _ _ (fun b hb => ⟨.inl (.inl hb), hb.2.1, fun hc => hb.2.2 (domAll_append.2 (.inl hc))⟩) (hs1.facts F hF)
  refine h1 _ (fun σ' hσ a' w' hr' hs' => ?_) a w hr hs2
  have h3 := (hs1.frame (N := []) (St.reok hs')).perm hm.symm
  exact go_slots live hσ h2 a' w' hr' h3
/-- A variable that is written no more. -/
theorem St.settleBox {b : Nat} {cs : List Value} {T : TypeId} {hBp : Prop} (hB : hBp) (hs : St B Γ (boxR b cs T :: Ms) w) : St B (At b 0 cs :: Γ) Ms w := by
  refine hs.settle0 hB (fun ok hok hh => ⟨hok b rfl, fun j v hj => ?_⟩)
  have hh : w.heap[b]? = some (.cells cs.toArray T (0, 0)) := hh
  simp [World.cell?, hh, hj]
end
end Go.Hy
namespace Go.Hy
section
variable {B : Base} {Γ : List Fact} {Ms K S : List Res} {w : World} {a b c : Res}
theorem St.unpackT (hs : St B Γ (bigR (a :: b :: c :: (K ++ S)) :: Ms) w) : St B Γ (a :: b :: c :: bigR K :: bigR S :: Ms) w := by
  have h1 : St B Γ (a :: b :: c :: (K ++ (S ++ Ms))) w := by simpa only [List.cons_append, List.append_assoc] using hs.unpack
  have h2 : St B Γ (K ++ (S ++ (a :: b :: c :: Ms))) w := h1.perm ((permOut.trans ((permOut.trans (permOut.cons _)).cons _)).symm)
  have h3 : St B Γ (S ++ (bigR K :: a :: b :: c :: Ms)) w := (St.pack h2).perm List.perm_middle.symm
  exact ((((St.pack h3).perm perm1).perm perm4).perm perm4).perm perm4
def h0 : HT := .mk 0 0 (ByteArray.mk #[]) [] (none, 0) [] (none, 0) [] (none, 0)
def hb0 : HB := .mk [] (none, 0) [] (none, 0)
theorem drop_getD {α : Type} (d : α) {l : List α} {i : Nat} (h : i < l.length) : l.drop i = l.getD i d :: l.drop (i + 1) := by
  rw [List.drop_eq_getElem_cons h, List.getD_eq_getElem?_getD, List.getElem?_eq_getElem h]; rfl
theorem getD_map {α β : Type} {d : α} {e : β} {f : α → β} {l : List α} {i : Nat} (h : i < l.length) : (l.map f).getD i e = f (l.getD i d) := by
  rw [List.getD_eq_getElem?_getD, List.getD_eq_getElem?_getD, List.getElem?_map, List.getElem?_eq_getElem h]; rfl
theorem St.openHT {y : Tys} {k n : Int} {nm : ByteArray} {r : List Cl} {v u x : SH} {ks : List HT} {ss : List HB} (hs : St B Γ (bigR (treeR y (.mk k n nm r v ks u ss x)) :: Ms) w) :
    St B Γ (rowS 2 y.c v r.length (clFlat r) :: rowS 6 y.t u ks.length (tpFlat (ks.map HT.tp)) :: rowS 2 y.b x ss.length (bpFlat (ss.map HB.bp)) :: bigR (kidsR y ks) :: bigR (brsR y ss) :: Ms) w := by
  simp only [treeR] at hs
  exact hs.unpackT
theorem St.peelK {y : Tys} {ks : List HT} {i : Nat} (hi : i < ks.length) (hs : St B Γ (bigR (kidsR y (ks.drop i)) :: Ms) w) : St B Γ (bigR (treeR y (ks.getD i h0)) :: bigR (kidsR y (ks.drop (i + 1))) :: Ms) w := by
  rw [drop_getD h0 hi] at hs
  simp only [kidsR] at hs
  exact hs.bigSplit
theorem St.rowLen {sz n : Nat} {e : TypeId} {a : SH} {xs : List Value} (hs : St B Γ Ms w) (hm : rowS sz e a n xs ∈ Ms) : n ≤ 9223372036854775807 := by
  rcases Nat.eq_zero_or_pos n with h | h
  · omega
  · obtain ⟨g, cur, _, _, h3, h4, _⟩ := own_block (hs.res _ hm w (fun _ _ => rfl)) h
    have : maxLen = 9223372036854775807 := rfl
    omega
theorem Spec.conv {P : Program} {k : FuncId} {args args' : Array Value} {pre : List Fact} {Ms0 Ms0' : List Res} {X : Type} {val : X → Value} {N : X → List Fact} {Ms1 : X → List Res} (h : Spec P k args pre Ms0 val N Ms1) (ha : args = args') (hd : ∀ b, domAll Ms0' b ↔ domAll Ms0 b) (hs : ∀ B w, St B pre Ms0' w → St B pre Ms0 w) : Spec P k args' pre Ms0' val N Ms1 := by
  subst ha
  have e : domAll Ms0' = domAll Ms0 := funext fun b => propext (hd b)
  intro ok w hok hst
  rw [e] at hst ⊢
  exact h ok w (fun b hb => ⟨(hok b hb).1, fun hc => (hok b hb).2 ((hd b).2 hc)⟩) (hs _ _ hst)
mutual
theorem HT.indK {P : HT → Prop} (h : ∀ k n nm r v ks u ss x, (∀ c, c ∈ ks → P c) → P (.mk k n nm r v ks u ss x)) : ∀ t, P t
  | .mk k n nm r v ks u ss x => h k n nm r v ks u ss x (HT.indL h ks)
theorem HT.indL {P : HT → Prop} (h : ∀ k n nm r v ks u ss x, (∀ c, c ∈ ks → P c) → P (.mk k n nm r v ks u ss x)) : ∀ ts : List HT, ∀ c, c ∈ ts → P c
  | [], _, hc => by cases hc
  | t :: ts, c, hc => by
    rcases List.mem_cons.mp hc with e | hc
    · rw [e]; exact HT.indK h t
    · exact HT.indL h ts c hc
end
end
end Go.Hy
namespace Go.Hy
theorem nat_dec {P : Program} {σ : Nat → Value} {op : Op} {ty : TypeId} {p q : Prop} [Decidable p] [Decidable q] (h : p ↔ q) (hp : PureE P σ op ty (.bool (decide p))) : PureE P σ op ty (.bool (decide q)) := by
  rwa [decide_eq_decide.mpr h] at hp
/-! Wrappers of further rules (printed by a program of this repository). -/
section
variable {tn : Bool} {pn : Nat} {P : Program} [Tab P] {f : FuncId} {R : Ending → World → Prop} {B : Base} {n : Fz} {K : List Item} {ops : Array Oper} {i : Nat} {l fin : List Nat} {σ : Nat → Value} {Γ : List Fact} {Ms Ms2 : List Res}
variable {dst : Option Tmp} {op : Op} {ty : TypeId} {pos : String} {after : Array Edge} {v : Value} {x y z : Operand}
theorem o_shl6 {t t' : TypeId} {k2 : IntKind} {a m : Nat} (k_ : RgT P f R B n K ops l (putS σ dst (.int .u64 ((a * 2 ^ m : Nat) : Int))) Γ Ms) (hx : ev σ x = .int .u64 (a : Int) := by exact wn_) (hy : ev σ y = .int k2 (m : Int) := by exact wn_) (hm : m ≤ 64 := by first | assumption | omega) (hb : a * 2 ^ m < 18446744073709551616 := by first | assumption | omega) (hd : dstOk n dst = true := by rfl) : OpT P f R B n K ops l (opr dst (.binOp .shl t x y t') ty) σ Γ Ms := sq_pure (pe_shl6 hx hy hm hb) hd k_
theorem o_sub6 {t t' : TypeId} {a b : Nat} (k_ : RgT P f R B n K ops l (putS σ dst (.int .u64 ((a - b : Nat) : Int))) Γ Ms) (hx : ev σ x = .int .u64 (a : Int) := by exact wn_) (hy : ev σ y = .int .u64 (b : Int) := by exact wn_) (h : b ≤ a := by first | assumption | omega) (ha : a < 18446744073709551616 := by first | assumption | omega) (hd : dstOk n dst = true := by rfl) : OpT P f R B n K ops l (opr dst (.binOp .sub t x y t') ty) σ Γ Ms := sq_pure (pe_sub6 hx hy h ha) hd k_
theorem o_conv6U {s d : TypeId} {a : Nat} (k_ : RgT P f R B n K ops l (putS σ dst (.int .u32 (a : Int))) Γ Ms) (hx : ev σ x = .int .u64 (a : Int) := by exact wn_) (ha : a < 4294967296 := by first | assumption | omega) (hs : Tab.und P s = some (.int .u64) := by rfl) (hd' : Tab.und P d = some (.int .u32) := by rfl) (hd : dstOk n dst = true := by rfl) : OpT P f R B n K ops l (opr dst (.convert s d x) ty) σ Γ Ms := sq_pure (pe_conv6U hs hd' hx ha) hd k_
theorem o_convUI {s d : TypeId} {a : Nat} (k_ : RgT P f R B n K ops l (putS σ dst (.int .i64 (a : Int))) Γ Ms) (hx : ev σ x = .int .u32 (a : Int) := by exact wn_) (ha : a < 4294967296 := by first | assumption | omega) (hs : Tab.und P s = some (.int .u32) := by rfl) (hd' : Tab.und P d = some (.int .i64) := by rfl) (hd : dstOk n dst = true := by rfl) : OpT P f R B n K ops l (opr dst (.convert s d x) ty) σ Γ Ms := sq_pure (pe_convUI hs hd' hx ha) hd k_
theorem o_convIU {s d : TypeId} {a : Nat} (k_ : RgT P f R B n K ops l (putS σ dst (.int .u32 (a : Int))) Γ Ms) (hx : ev σ x = .int .i64 (a : Int) := by exact wn_) (ha : a < 4294967296 := by first | assumption | omega) (hs : Tab.und P s = some (.int .i64) := by rfl) (hd' : Tab.und P d = some (.int .u32) := by rfl) (hd : dstOk n dst = true := by rfl) : OpT P f R B n K ops l (opr dst (.convert s d x) ty) σ Γ Ms := sq_pure (pe_convIU hs hd' hx ha) hd k_
theorem o_convI6 {s d : TypeId} {a : Int} {m : Nat} (k_ : RgT P f R B n K ops l (putS σ dst (.int .u64 (m : Int))) Γ Ms) (hx : ev σ x = .int .i64 a := by exact wn_) (ha : a = (m : Int) := by first | assumption | omega) (hm : m < 18446744073709551616 := by omega) (hs : Tab.und P s = some (.int .i64) := by rfl) (hd' : Tab.und P d = some (.int .u64) := by rfl) (hd : dstOk n dst = true := by rfl) : OpT P f R B n K ops l (opr dst (.convert s d x) ty) σ Γ Ms := sq_pure (pe_convI6 hs hd' hx ha hm) hd k_
theorem o_ldI {t : TypeId} {d : TypeDesc} {bk o i' : Nat} {a : SH} {ls : List Int} (k_ : RgT P f R B n K ops l (putS σ dst (.int .i64 (ls.getD i' 0))) Γ Ms) (hx : ev σ x = .pointer (some ⟨bk, o + i' * 1, none⟩) := by exact wn_) (hFa : IL ls a ∈ Γ ∧ a.1 = some ⟨bk, o, none⟩ := by exact ma0_) (hu : Tab.und P t = some d := by rfl) (hd' : (match d with | .struct _ | .array _ _ => true | _ => false) = false := by rfl) (hlt : i' < ls.length := by omega) (hd : dstOk n dst = true := by rfl) : OpT P f R B n K ops l (opr dst (.load t x) ty) σ Γ Ms := sq_load (le_int hx hFa.1 hFa.2 hu hd' hlt) hd k_
theorem v_sliceHi {t e : TypeId} {s bt m c k : Nat} {zv : Value} {A : Option Addr} (k_ : NV tn pn P f R B n K ops fin l (putS σ dst (.slice A k c)) Γ Ms) (hx : ev σ x = .slice A m c := by exact wn_) (hy : ev σ y = .int .i64 (k : Int) := by exact wn_) (hk : k ≤ c := by omega) (hu : Tab.und P t = some (.slice e) := by rfl) (hi : Tab.inf P e = some (s, bt, zv) := by rfl) (hd : dstOk n dst = true := by rfl) : NvT tn pn P f R B n K ops fin i l dst (.slice t x none (some y) none) ty σ Γ Ms := nv_pure (pe_sliceHi hu hi hx hy hk) hd k_
theorem v_sliceLo {t e : TypeId} {s bt m k : Nat} {zv : Value} {a : SH} (k_ : NV tn pn P f R B n K ops fin l (putS σ dst (sl (dropSH a s k) (m - k))) Γ Ms) (hx : ev σ x = sl a m := by rfl) (hy : ev σ y = .int .i64 (k : Int) := by exact wn_) (hk : k ≤ m := by omega) (hu : Tab.und P t = some (.slice e) := by rfl) (hi : Tab.inf P e = some (s, bt, zv) := by rfl) (hd : dstOk n dst = true := by rfl) : NvT tn pn P f R B n K ops fin i l dst (.slice t x (some y) none none) ty σ Γ Ms := nv_pure (pe_sliceLo hu hi hx hy hk) hd k_
theorem o_lssU {t t' : TypeId} {a b : Nat} (k_ : RgT P f R B n K ops l (putS σ dst (.bool (decide (a < b)))) Γ Ms) (hx : ev σ x = .int .u32 (a : Int) := by exact wn_) (hy : ev σ y = .int .u32 (b : Int) := by exact wn_) (hd : dstOk n dst = true := by rfl) : OpT P f R B n K ops l (opr dst (.binOp .lss t x y t') ty) σ Γ Ms := sq_pure (nat_dec (by omega) (pe_lss hx hy)) hd k_
theorem o_eqU {t t' : TypeId} {a b : Nat} (k_ : RgT P f R B n K ops l (putS σ dst (.bool (decide (a = b)))) Γ Ms) (hx : ev σ x = .int .u32 (a : Int) := by exact wn_) (hy : ev σ y = .int .u32 (b : Int) := by exact wn_) (hd : dstOk n dst = true := by rfl) : OpT P f R B n K ops l (opr dst (.binOp .eql t x y t') ty) σ Γ Ms := sq_pure (nat_dec (by omega) (pe_eqI hx hy)) hd k_
theorem t_appS {t e T' : TypeId} {ts : Array TypeId} {sz bt n' m c b : Nat} {zv : Value} {a : SH} {xs cs : List Value} (k_ : ∀ a' : SH, NV tn pn P f R B n K ops fin l (putS σ dst (sl a' (n' + m))) Γ (rowS sz e a' (n' + m) (xs ++ cs) :: boxR b cs T' :: Ms2)) (hm : Ms.Perm (rowS sz e a n' xs :: boxR b cs T' :: Ms2) := by first | exact perm0 | exact perm1 | exact perm2 | exact perm3 | exact perm4 | exact perm5 | exact perm6) (hx : ev σ x = sl a n' := by rfl) (hy : ev σ y = .slice (some ⟨b, 0, none⟩) m c := by exact wn_) (hts : ts = #[t, t] := by rfl) (hu : Tab.und P t = some (.slice e) := by rfl) (hi : Tab.inf P e = some (sz, bt, zv) := by rfl) (hzs : zv.cells.size = sz := by rfl) (hsz : 0 < sz := by exact Nat.le_of_ble_eq_true rfl) (hl : cs.length = m * sz := by rfl) (h1 : oneCells cs = true := by rfl) (hb : (n' + m) * bt ≤ 140737488355328 := by first | omega | (unfold reach at *; omega) | (unfold reach cap47 at *; omega)) (hnm : n' + m ≤ 9223372036854775807 := by first | omega | (unfold reach at *; omega) | (unfold reach cap47 at *; omega)) (hd : dstOk n dst = true := by rfl) : NvT tn pn P f R B n K ops fin i l dst (.call { callee := .builtin .append, args := #[x, y], argTypes := ts }) ty σ Γ Ms := nv_turn (r := [rowS sz e a n' xs, boxR b cs T']) (r' := fun a' => [rowS sz e a' (n' + m) (xs ++ cs), boxR b cs T']) (fun M => te_appS (List.Perm.refl _) hx hy hts hu hi hzs hsz hl h1 hb hnm) rfl hd hm k_
theorem t_appCL {t e : TypeId} {ts : Array TypeId} {bt n' : Nat} {zv : Value} {a b : SH} {xs : List Value} {ls : List Cl} (k_ : ∀ a' : SH, NV tn pn P f R B n K ops fin l (putS σ dst (sl a' (n' + ls.length))) Γ (rowS 2 e a' (n' + ls.length) (xs ++ clFlat ls) :: Ms2)) (hF : CL ls b ∈ Γ) (hm : Ms.Perm (rowS 2 e a n' xs :: Ms2) := by first | exact perm0 | exact perm1 | exact perm2 | exact perm3 | exact perm4 | exact perm5 | exact perm6) (hx : ev σ x = sl a n' := by rfl) (hy : ev σ y = sl b ls.length := by rfl) (hts : ts = #[t, t] := by rfl) (hu : Tab.und P t = some (.slice e) := by rfl) (hi : Tab.inf P e = some (2, bt, zv) := by rfl) (hzs : zv.cells.size = 2 := by rfl) (hb : (n' + ls.length) * bt ≤ 140737488355328 := by first | omega | (unfold reach at *; omega) | (unfold reach cap47 at *; omega)) (hnm : n' + ls.length ≤ 9223372036854775807 := by first | omega | (unfold reach at *; omega) | (unfold reach cap47 at *; omega)) (hd : dstOk n dst = true := by rfl) : NvT tn pn P f R B n K ops fin i l dst (.call { callee := .builtin .append, args := #[x, y], argTypes := ts }) ty σ Γ Ms := nv_turn (r := [rowS 2 e a n' xs]) (r' := fun a' => [rowS 2 e a' (n' + ls.length) (xs ++ clFlat ls)]) (fun M => te_appCL (List.Perm.refl _) hF hx hy hts hu hi hzs hb hnm) rfl hd hm k_
end
end Go.Hy
namespace Go.Hy
/-! Wrappers of rules for rows of the call's own (printed by a program of this repository). -/
section
variable {tn : Bool} {pn : Nat} {P : Program} [Tab P] {f : FuncId} {R : Ending → World → Prop} {B : Base} {n : Fz} {K : List Item} {ops : Array Oper} {i : Nat} {l fin : List Nat} {σ : Nat → Value} {Γ : List Fact} {Ms Ms2 : List Res}
variable {dst : Option Tmp} {op : Op} {ty : TypeId} {pos : String} {after : Array Edge} {v : Value} {x y z : Operand}
theorem o_ldRTf {t e : TypeId} {d : TypeDesc} {g i' k n' : Nat} {a : SH} {ls : List TP} (k_ : RgT P f R B n K ops l (putS σ dst v) Γ Ms) (hx : ev σ x = .pointer (some ⟨g, 0 + i' * 6 + k, none⟩) := by exact wn_) (hma : rowS 6 e a n' (ls.flatMap tpCells) ∈ Ms ∧ a.1 = some ⟨g, 0, none⟩ := by exact ma1_) (hu : Tab.und P t = some d := by rfl) (hd' : (match d with | .struct _ | .array _ _ => true | _ => false) = false := by rfl) (hk : (tpCells (ls.getD i' tp0))[k]? = some v := by exact wn_) (hlt : i' < ls.length := by first | omega | (simp only [List.length_map, List.length_set]; omega) | (simp; omega)) (hd : dstOk n dst = true := by rfl) : OpT P f R B n K ops l (opr dst (.load t x) ty) σ Γ Ms := sq_load (lr_field (F := tpCells) (fun _ => rfl) tp0 hx hma.1 hma.2 hu hd' hlt hk) hd k_
theorem o_srfT {t e : TypeId} {bt g i' k n' : Nat} {a : SH} {zv : Value} {ls : List TP} (u : TP) (k_ : RgT P f R B n K ops l σ Γ (rowS 6 e a n' ((ls.set i' u).flatMap tpCells) :: Ms2)) (hx : ev σ x = .pointer (some ⟨g, 0 + i' * 6 + k, none⟩) := by exact wn_) (hm : Ms.Perm (rowS 6 e a n' (ls.flatMap tpCells) :: Ms2) := by first | exact perm0 | exact perm1 | exact perm2 | exact perm3 | exact perm4 | exact perm5 | exact perm6 | exact perm7 | exact perm8) (ha : a.1 = some ⟨g, 0, none⟩ := by assumption) (hn : n' = ls.length := by first | rfl | omega | (simp; done) | (simp; omega)) (hy : ev σ y = v := by exact wn_) (hi : Tab.inf P t = some (1, bt, zv) := by rfl) (h1 : v.oneCell' = true := by rfl) (hlt : i' < ls.length := by first | omega | (simp only [List.length_map, List.length_set]; omega) | (simp; omega)) (hk : k < 6 := by decide) (hu : tpCells u = (tpCells (ls.getD i' tp0)).set k v := by rfl) : OpT P f R B n K ops l (opr none (.store t x y) ty) σ Γ Ms := sq_store (sr_field (F := tpCells) (fun _ => rfl) tp0 u hx hm ha hn hy hi h1 hlt hk hu) k_
theorem o_ldg {t : TypeId} {d : TypeDesc} {bk k : Nat} {cs : List Value} (k_ : RgT P f R B n K ops l (putS σ dst v) Γ Ms) (hx : ev σ x = .pointer (some ⟨bk, k, none⟩) := by exact wn_) (hF : At bk 0 cs ∈ Γ := by repeat (first | exact List.mem_cons_self | apply List.mem_cons_of_mem)) (hu : Tab.und P t = some d := by rfl) (hd' : (match d with | .struct _ | .array _ _ => true | _ => false) = false := by rfl) (hk : cs[k]? = some v := by exact wn_) (hd : dstOk n dst = true := by rfl) : OpT P f R B n K ops l (opr dst (.load t x) ty) σ Γ Ms := sq_load (le_one (o := 0) (by rw [Nat.zero_add]; exact hx) hF hu hd' hk) hd k_
theorem f_ldg {t : TypeId} {d : TypeDesc} {bk k : Nat} {cs : List Value} (k_ : NV tn pn P f R B n K ops fin l (putS σ dst v) Γ Ms) (hx : ev σ x = .pointer (some ⟨bk, k, none⟩) := by exact wn_) (hF : At bk 0 cs ∈ Γ := by repeat (first | exact List.mem_cons_self | apply List.mem_cons_of_mem)) (hu : Tab.und P t = some d := by rfl) (hd' : (match d with | .struct _ | .array _ _ => true | _ => false) = false := by rfl) (hk : cs[k]? = some v := by exact wn_) (hd : dstOk n dst = true := by rfl) : NvT tn pn P f R B n K ops fin i l dst (.load t x) ty σ Γ Ms := nv_loadF (le_one (o := 0) (by rw [Nat.zero_add]; exact hx) hF hu hd' hk) rfl hd k_
theorem o_ldgs {t : TypeId} {l' : List (Nat × Nat)} {s bt bk k : Nat} {zv : Value} {cs cs' : List Value} (k_ : RgT P f R B n K ops l (putS σ dst (.agg cs'.toArray)) Γ Ms) (hx : ev σ x = .pointer (some ⟨bk, k, none⟩) := by exact wn_) (hF : At bk 0 cs ∈ Γ := by repeat (first | exact List.mem_cons_self | apply List.mem_cons_of_mem)) (hu : Tab.lay P t = some l' := by rfl) (hi : Tab.inf P t = some (s, bt, zv) := by rfl) (hk : (cs.drop k).take s = cs' := by rfl) (hl : cs'.length = s := by rfl) (hd : dstOk n dst = true := by rfl) : OpT P f R B n K ops l (opr dst (.load t x) ty) σ Γ Ms := sq_load (le_agg (o := 0) (by rw [Nat.zero_add]; exact hx) hF hu hi hk hl) hd k_
theorem f_ldgs {t : TypeId} {l' : List (Nat × Nat)} {s bt bk k : Nat} {zv : Value} {cs cs' : List Value} (k_ : NV tn pn P f R B n K ops fin l (putS σ dst (.agg cs'.toArray)) Γ Ms) (hx : ev σ x = .pointer (some ⟨bk, k, none⟩) := by exact wn_) (hF : At bk 0 cs ∈ Γ := by repeat (first | exact List.mem_cons_self | apply List.mem_cons_of_mem)) (hu : Tab.lay P t = some l' := by rfl) (hi : Tab.inf P t = some (s, bt, zv) := by rfl) (hk : (cs.drop k).take s = cs' := by rfl) (hl : cs'.length = s := by rfl) (hd : dstOk n dst = true := by rfl) : NvT tn pn P f R B n K ops fin i l dst (.load t x) ty σ Γ Ms := nv_loadF (le_agg (o := 0) (by rw [Nat.zero_add]; exact hx) hF hu hi hk hl) rfl hd k_
end
end Go.Hy
namespace Go.Hy
/-! ### Rows of any kind of element, known for good -/
section
variable {α : Type}
def AllF (E : α → Fact) (l : List α) : Fact := ⟨fun ok w => ∀ x, x ∈ l → (E x).f ok w, fun _ _ _ hs h x hx => (E x).mono _ _ _ hs (h x hx), fun _ _ _ h hs x hx => (E x).loc _ _ _ (h x hx) hs⟩
def RowF (sz bt : Nat) (F : α → List Value) (E : α → Fact) (d : α) (l : List α) (a : SH) : Fact := ⟨fun ok w => rowAt ok sz bt l.length a (fun i => F (l.getD i d)) w ∧ ∀ x, x ∈ l → (E x).f ok w,
  fun _ _ _ hs h => ⟨h.1.mono hs, fun x hx => (E x).mono _ _ _ hs (h.2 x hx)⟩, fun _ _ _ h hs => ⟨h.1.loc hs, fun x hx => (E x).loc _ _ _ (h.2 x hx) hs⟩⟩
variable {B : Base} {Γ : List Fact} {Ms : List Res} {w : World} {E : α → Fact} {F : α → List Value} {sz bt n : Nat} {d : α} {l : List α} {a : SH}
theorem St.allNil (E : α → Fact) (hs : St B Γ Ms w) : St B (AllF E [] :: Γ) Ms w := hs.add (fun x hx => by cases hx)
theorem St.allAdd {x : α} (hs : St B Γ Ms w) (h1 : AllF E l ∈ Γ) (h2 : E x ∈ Γ) : St B (AllF E (l ++ [x]) :: Γ) Ms w := by
  refine hs.add (fun y hy => ?_)
  rcases List.mem_append.mp hy with hy | hy
  · exact hs.facts _ h1 y hy
  · rw [List.mem_singleton] at hy; subst hy; exact hs.facts _ h2
theorem St.settleRow {e : TypeId} {xs : List Value} (hF : ∀ x, (F x).length = sz) (hs : St B Γ (rowS sz e a n xs :: Ms) w) {hBp : Prop} (hB : hBp) (hA : AllF E l ∈ Γ) (hx : xs = l.flatMap F) (hn : n = l.length) (hb : n * bt ≤ reach) : St B (RowF sz bt F E d l a :: Γ) Ms w := by
  subst hx
  have hrow := hs.settle0 (F := ⟨fun ok w => rowAt ok sz bt n a (fun i => F (l.getD i d)) w, fun _ _ _ hs h => h.mono hs, fun _ _ _ h hs => h.loc hs⟩) hB (fun ok hok hh => own_rowAt (F := F) hF d (hh : World.ownsRow _ _ _ _ _ _ _) hn hb hok)
  have hr2 := hrow.facts _ List.mem_cons_self
  have h3 := hrow.facts _ (List.mem_cons_of_mem _ hA)
  exact hs.drop.add ⟨hn ▸ hr2, h3⟩
theorem St.openRow (hs : St B Γ Ms w) (hF : RowF sz bt F E d l a ∈ Γ) : l.length * bt ≤ reach ∧ (0 < l.length → ∃ b o, a.1 = some ⟨b, o, Option.none⟩) := by
  obtain ⟨h2, _⟩ := hs.facts _ hF
  exact ⟨h2.2.1, fun hn => by obtain ⟨b, o, h3, _⟩ := h2.2.2 hn; exact ⟨b, o, h3⟩⟩
theorem St.rowElem {i : Nat} (hs : St B Γ Ms w) (hF : RowF sz bt F E d l a ∈ Γ) (hi : i < l.length) : St B (E (l.getD i d) :: Γ) Ms w := hs.add ((hs.facts _ hF).2 _ (getD_mem hi))
end
section
variable {α : Type} {P : Program} {f : FuncId} {R : Ending → World → Prop} {B : Base} {n : Fz} {todo : List Item} {σ : Nat → Value} {Γ : List Fact} {Ms : List Res} {E : α → Fact} {F : α → List Value} {sz bt : Nat} {d : α} {l : List α} {a : SH}
theorem go_openRow (hF : RowF sz bt F E d l a ∈ Γ) (k : l.length * bt ≤ reach → (0 < l.length → ∃ b o, a.1 = some ⟨b, o, none⟩) → GoT P f R B n todo σ Γ Ms) : GoT P f R B n todo σ Γ Ms := go_know (p := l.length * bt ≤ reach ∧ (0 < l.length → ∃ b o, a.1 = some ⟨b, o, none⟩)) (fun w hs => hs.openRow hF) (fun h => k h.1 h.2)
theorem go_elem (hF : RowF sz bt F E d l a ∈ Γ) (i : Nat) (hi : i < l.length) (k : GoT P f R B n todo σ (E (l.getD i d) :: Γ) Ms) : GoT P f R B n todo σ Γ Ms := go_state (fun w hs => hs.rowElem hF hi) k
variable [Tab P] {x y : Operand} {v : Value} {ty : TypeId}
theorem le_rowC {t : TypeId} {d' : TypeDesc} {bk o i k : Nat} (hx : ev σ x = .pointer (some ⟨bk, o + i * sz + k, none⟩)) (hF : RowF sz bt F E d l a ∈ Γ) (ha : a.1 = some ⟨bk, o, none⟩) (hu : Tab.und P t = some d') (hd : (match d' with | .struct _ | .array _ _ => true | _ => false) = false) (hk : (F (l.getD i d))[k]? = some v) (hlt : i < l.length) :
    LoadE P B σ Γ Ms (.load t x) ty v := fun w hs => by
  have h3 := (row_cells (hs.facts _ hF).1 ha hlt).2 k v hk
  simp [opr, execOp, hx, Instr.loadAt, Instr.sureAddr, run_loadVar_one hu hd h3]
theorem le_row1 {t : TypeId} {d' : TypeDesc} {bk o i : Nat} (hx : ev σ x = .pointer (some ⟨bk, o + i * 1, none⟩)) (hF : RowF 1 bt F E d l a ∈ Γ) (ha : a.1 = some ⟨bk, o, none⟩) (hu : Tab.und P t = some d') (hd : (match d' with | .struct _ | .array _ _ => true | _ => false) = false) (hk : (F (l.getD i d))[0]? = some v) (hlt : i < l.length) :
    LoadE P B σ Γ Ms (.load t x) ty v := le_rowC (k := 0) hx hF ha hu hd hk hlt
end
/-! ### Spots and paths -/
abbrev QP := TP × Int × Int
def qE (q : QP) : Fact := RT q.1.1 q.1.2.1 q.1.2.2.1 q.1.2.2.2
abbrev IP := List Int × SH
def ipE (p : IP) : Fact := IL p.1 p.2
abbrev CP := List Cl × SH
def cpCells (p : CP) : List Value := [sl p.2 p.1.length]
def cp0 : CP := ([], (none, 0))
abbrev cpE (p : CP) : Fact := CL p.1 p.2
abbrev CCF (l : List CP) (a : SH) : Fact := RowF 1 24 cpCells cpE cp0 l a
section
variable {B : Base} {Γ : List Fact} {Ms : List Res} {w : World}
/-- A list of one list of clauses, just written down. -/
theorem St.litCC {e : TypeId} {b : Nat} {l : List Cl} {a : SH} (hs : St B Γ (boxR b [sl a l.length] e :: Ms) w) {hBp : Prop} (hB : hBp) (hF : CL l a ∈ Γ) : St B (CCF [(l, a)] (some ⟨b, 0, Option.none⟩, 1) :: Γ) Ms w :=
  ((((hs.boxRow (sz := 1) (m := 1) rfl (by decide)).allNil cpE).allAdd (x := (l, a)) List.mem_cons_self (List.mem_cons_of_mem _ hF)).settleRow (F := cpCells) (E := cpE) (d := cp0) (bt := 24) (l := [(l, a)]) (fun _ => rfl) hB List.mem_cons_self rfl rfl (by decide)).less (by simp +contextual)
end
end Go.Hy
namespace Go.Hy
section
variable {P : Program} [Tab P] {B : Base} {σ : Nat → Value} {Γ : List Fact} {Ms Ms2 : List Res} {ty : TypeId} {x y z : Operand} {v : Value}
end
section
variable {P : Program} [Tab P] {f : FuncId} {fn : Func} {B : Base} {n : Fz} {K : List Item} {σ : Nat → Value} {Γ : List Fact} {Ms : List Res} {X : Type} {val : X → Value} {N : X → List Fact} {Ms1 : X → List Res}
/-- Two results, of which the first lies in a variable. -/
theorem retCT {r t T : Nat} {r2 : Tmp} {b s bt : Nat} {zv v2 : Value} {lay : List (Nat × Nat)} {cs : List Value} (hf : P.funcs[f]? = some fn) (hr : fn.results = #[.cell r t, .tmp r2]) (x : X) (hb : σ r = .pointer (some ⟨b, 0, none⟩)) (hm : boxR b cs T ∈ Ms) (hl : Tab.lay P t = some lay) (hi : Tab.inf P t = some (s, bt, zv)) (hcs : cs.length = s) (h2 : σ r2 = v2) (hv : Value.tuple #[.agg cs.toArray, v2] = val x) (hs : ∀ w, St B Γ Ms w → St B (N x) (Ms1 x) w) (hD : n.defs = [] := by rfl) (hK : okK n.kind := by first | exact .inl rfl | exact .inr rfl) : GoT P f (Ends B val N Ms1) B n (.code .ret :: K) σ Γ Ms :=
  go_ret hf (fun a w ha h => by
    have h1 := ha.get r
    rw [hb] at h1
    have h3 := ha.get r2
    rw [h2] at h3
    have h4 := run_loadVar_agg (P := P) (bk := b) (off := 0) (w := w) hl hi hcs (fun j v hj => by rw [Nat.zero_add]; exact box_cell h hm j v hj)
    have h1' : (a.tmps[r]?.getD undef) = .pointer (some ⟨b, 0, none⟩) := by simpa [Array.getD_eq_getD_getElem?] using h1
    have h3' : (a.tmps[r2]?.getD undef) = v2 := by simpa [Array.getD_eq_getD_getElem?] using h3
    simp [results, hr, asAddr, h1', h4, h3', ← hv]) (fun w h => ⟨x, rfl, hs w h⟩) hD hK
theorem St.zeroRT {w : World} (hs : St B Γ Ms w) : St B (RT t0 (Option.none, 0) (Option.none, 0) (Option.none, 0) :: Γ) Ms w :=
  ((((hs.nilCL 0).nilTL 0).nilBL 0).mkRT (k := 0) (n := 0) (nm := ⟨#[]⟩) (r := []) (ks := []) (ss := []) (vr := (Option.none, 0)) (vk := (Option.none, 0)) (vs := (Option.none, 0)) (by unfold in64; omega) (by unfold in64; omega) (Nat.zero_le _) (by simp) (by simp) (by simp)).less (by simp +contextual [t0])
end
end Go.Hy
namespace Go.Hy
/-! Wrappers of rules for spots and paths (printed by a program of this repository). -/
section
variable {tn : Bool} {pn : Nat} {P : Program} [Tab P] {f : FuncId} {R : Ending → World → Prop} {B : Base} {n : Fz} {K : List Item} {ops : Array Oper} {i : Nat} {l fin : List Nat} {σ : Nat → Value} {Γ : List Fact} {Ms Ms2 : List Res}
variable {dst : Option Tmp} {op : Op} {ty : TypeId} {pos : String} {after : Array Edge} {v : Value} {x y z : Operand}
theorem o_ldCC {t : TypeId} {d : TypeDesc} {bk o i' : Nat} {a : SH} {ls : List CP} (k_ : RgT P f R B n K ops l (putS σ dst v) Γ Ms) (hx : ev σ x = .pointer (some ⟨bk, o + i' * 1, none⟩) := by exact wn_) (hFa : CCF ls a ∈ Γ ∧ a.1 = some ⟨bk, o, none⟩ := by exact ma0_) (hu : Tab.und P t = some d := by rfl) (hd' : (match d with | .struct _ | .array _ _ => true | _ => false) = false := by rfl) (hk : (cpCells (ls.getD i' cp0))[0]? = some v := by exact wn_) (hlt : i' < ls.length := by first | omega | (simp only [List.length_map, List.length_set]; omega) | (simp; omega)) (hd : dstOk n dst = true := by rfl) : OpT P f R B n K ops l (opr dst (.load t x) ty) σ Γ Ms := sq_load (le_row1 hx hFa.1 hFa.2 hu hd' hk hlt) hd k_
end
end Go.Hy
namespace Go.Hy
/-! Wrappers: comparisons whose answer is known (printed by a program of this repository). -/
section
variable {tn : Bool} {pn : Nat} {P : Program} [Tab P] {f : FuncId} {R : Ending → World → Prop} {B : Base} {n : Fz} {K : List Item} {ops : Array Oper} {i : Nat} {l fin : List Nat} {σ : Nat → Value} {Γ : List Fact} {Ms Ms2 : List Res}
variable {dst : Option Tmp} {op : Op} {ty : TypeId} {pos : String} {after : Array Edge} {v : Value} {x y z : Operand}
theorem pe_neg {t : TypeId} {a : Int} (hx : ev σ x = .int .i64 a) (h : in64 (-a)) : PureE P σ (.unOp .neg t x) ty (.int .i64 (-a)) := fun w => by
  have e : IntKind.i64.wrap (0 - a) = -a := by rw [wrap64_in (by unfold in64 at *; omega)]; omega
  simp only [opr, execOp, hx, Op.unary, Op.intArith, e]
  rfl
theorem o_neg {t : TypeId} {a : Int} (k_ : RgT P f R B n K ops l (putS σ dst (.int .i64 (-a))) Γ Ms) (hx : ev σ x = .int .i64 a := by exact wn_) (h : in64 (-a) := by first | omega | (unfold in64 at *; omega)) (hd : dstOk n dst = true := by rfl) : OpT P f R B n K ops l (opr dst (.unOp .neg t x) ty) σ Γ Ms := sq_pure (pe_neg hx h) hd k_
theorem v_neg {t : TypeId} {a : Int} (k_ : NV tn pn P f R B n K ops fin l (putS σ dst (.int .i64 (-a))) Γ Ms) (hx : ev σ x = .int .i64 a := by exact wn_) (h : in64 (-a) := by first | omega | (unfold in64 at *; omega)) (hd : dstOk n dst = true := by rfl) : NvT tn pn P f R B n K ops fin i l dst (.unOp .neg t x) ty σ Γ Ms := nv_pure (pe_neg hx h) hd k_
theorem o_eqIY {t t' : TypeId} {k : IntKind} {a b : Int} (k_ : RgT P f R B n K ops l (putS σ dst (.bool true)) Γ Ms) (hx : ev σ x = .int k a := by exact wn_) (hy : ev σ y = .int k b := by exact wn_) (hp : a = b := by first | omega | (simp; done)) (hd : dstOk n dst = true := by rfl) : OpT P f R B n K ops l (opr dst (.binOp .eql t x y t') ty) σ Γ Ms := sq_pure (show PureE P σ (.binOp .eql t x y t') ty (.bool true) from (decide_eq_true hp : decide (a = b) = true) ▸ pe_eqI hx hy) hd k_
theorem v_st {t T' : TypeId} {b s bt : Nat} {zv : Value} {cs cs' : List Value} (k_ : NV tn pn P f R B n K ops fin l σ Γ (boxR b cs' T' :: Ms2)) (hx : ev σ x = .pointer (some ⟨b, 0, none⟩) := by exact wn_) (hm : Ms.Perm (boxR b cs T' :: Ms2) := by first | exact perm0 | exact perm1 | exact perm2 | exact perm3 | exact perm4 | exact perm5 | exact perm6 | exact perm7 | exact perm8) (hy : (ev σ y).cells = cs'.toArray := by rfl) (hi : Tab.inf P t = some (s, bt, zv) := by rfl) (hl : cs'.length = s := by rfl) (hl2 : cs.length = s := by rfl) (h1 : oneCells cs' = true := by rfl) : NvT tn pn P f R B n K ops fin i l none (.store t x y) ty σ Γ Ms := nv_store (r := [boxR b cs T']) (r' := [boxR b cs' T']) (fun M => se_box hx hy (List.Perm.refl _) hi hl hl2 h1) rfl hm k_
end
end Go.Hy
namespace Go.Hy
/-! Wrappers of rules for rows of whole numbers of the call's own (printed by a program of this repository). -/
section
variable {tn : Bool} {pn : Nat} {P : Program} [Tab P] {f : FuncId} {R : Ending → World → Prop} {B : Base} {n : Fz} {K : List Item} {ops : Array Oper} {i : Nat} {l fin : List Nat} {σ : Nat → Value} {Γ : List Fact} {Ms Ms2 : List Res}
variable {dst : Option Tmp} {op : Op} {ty : TypeId} {pos : String} {after : Array Edge} {v : Value} {x y z : Operand}
theorem o_ldRI {t e : TypeId} {d : TypeDesc} {g i' n' : Nat} {a : SH} {ls : List Int} (k_ : RgT P f R B n K ops l (putS σ dst (.int .i64 (ls.getD i' 0))) Γ Ms) (hx : ev σ x = .pointer (some ⟨g, 0 + i' * 1, none⟩) := by exact wn_) (hma : rowS 1 e a n' (intFlat ls) ∈ Ms ∧ a.1 = some ⟨g, 0, none⟩ := by exact ma1_) (hu : Tab.und P t = some d := by rfl) (hd' : (match d with | .struct _ | .array _ _ => true | _ => false) = false := by rfl) (hlt : i' < ls.length := by first | omega | (simp only [List.length_map, List.length_set]; omega) | (simp; omega)) (hd : dstOk n dst = true := by rfl) : OpT P f R B n K ops l (opr dst (.load t x) ty) σ Γ Ms := sq_load (lr_one (F := intCells) intCells_len 0 hx hma.1 hma.2 hu hd' hlt rfl) hd k_
theorem o_srI {t e : TypeId} {bt g i' n' : Nat} {a : SH} {zv : Value} {ls : List Int} (u : Int) (k_ : RgT P f R B n K ops l σ Γ (rowS 1 e a n' (intFlat (ls.set i' u)) :: Ms2)) (hx : ev σ x = .pointer (some ⟨g, 0 + i' * 1, none⟩) := by exact wn_) (hm : Ms.Perm (rowS 1 e a n' (intFlat ls) :: Ms2) := by first | exact perm0 | exact perm1 | exact perm2 | exact perm3 | exact perm4 | exact perm5 | exact perm6 | exact perm7 | exact perm8) (ha : a.1 = some ⟨g, 0, none⟩ := by assumption) (hn : n' = ls.length := by first | rfl | omega | (simp; done) | (simp; omega)) (hy : (ev σ y).cells = (intCells u).toArray := by exact wn_) (hi : Tab.inf P t = some (1, bt, zv) := by rfl) (hlt : i' < ls.length := by first | omega | (simp only [List.length_map, List.length_set]; omega) | (simp; omega)) : OpT P f R B n K ops l (opr none (.store t x y) ty) σ Γ Ms := sq_store (sr_elem (F := intCells) intCells_len u hx hm ha hn hy hi rfl hlt) k_
end
end Go.Hy
namespace Go.Hy
/-! ### A way through a term: each node becomes another, or the way ends in a refusal -/
inductive Res1 (α : Type) where
  | ok (a : α)
  | bad (e : Int)
structure Tr (C : Type) where
  own : C → Int → Int → ByteArray → List Cl → Res1 (T ⊕ (Int × List Cl))
  face : C → List Cl → Res1 (Option (List Cl))
  kid : C → Int × Int → Res1 C
section
variable {C : Type} (A : Tr C)
mutual
def trav : T → C → Res1 T
  | .mk k n nm r ks ss, c => match A.own c k n nm r with
    | .bad e => .bad e
    | .ok (.inl u) => .ok u
    | .ok (.inr p) => match travL k 0 ks c with
      | .bad e => .bad e
      | .ok ks' => match travB k ss c with
        | .bad e => .bad e
        | .ok ss' => .ok (.mk k p.1 nm p.2 ks' ss')
def travL (k : Int) : Nat → List T → C → Res1 (List T)
  | _, [], _ => .ok []
  | i, t :: ts, c => match A.kid c (binds k i) with
    | .bad e => .bad e
    | .ok c' => match trav t c' with
      | .bad e => .bad e
      | .ok t' => match travL k (i + 1) ts c with
        | .bad e => .bad e
        | .ok ts' => .ok (t' :: ts')
def travS (k : Int) : List T → C → Res1 (List T)
  | [], _ => .ok []
  | t :: ts, c => match A.kid c (0, more k) with
    | .bad e => .bad e
    | .ok c' => match trav t c' with
      | .bad e => .bad e
      | .ok t' => match travS k ts c with
        | .bad e => .bad e
        | .ok ts' => .ok (t' :: ts')
def travB (k : Int) : List Br → C → Res1 (List Br)
  | [], _ => .ok []
  | .mk f ks :: bs, c => match A.face c f with
    | .bad e => .bad e
    | .ok none => travB k bs c
    | .ok (some f') => match travS k ks c with
      | .bad e => .bad e
      | .ok ks' => match travB k bs c with
        | .bad e => .bad e
        | .ok bs' => .ok (.mk f' ks' :: bs')
end
variable {A}
def Res1.bind {α β : Type} : Res1 α → (α → Res1 β) → Res1 β
  | .ok a, f => f a
  | .bad e, _ => .bad e
theorem Res1.bind_ok {α β : Type} {x : Res1 α} {f : α → Res1 β} {b : β} (h : x.bind f = .ok b) : ∃ a, x = .ok a ∧ f a = .ok b := by
  cases x with
  | ok a => exact ⟨a, rfl, h⟩
  | bad e => cases h
/-! The same, with bind. -/
theorem trav_eq (t : T) (c : C) : trav A t c = (A.own c t.kind t.n t.name t.r).bind fun o => match o with
    | .inl u => .ok u
    | .inr p => (travL A t.kind 0 t.kids c).bind fun ks' => (travB A t.kind t.sys c).bind fun ss' => .ok (.mk t.kind p.1 t.name p.2 ks' ss') := by
  obtain ⟨k, n, nm, r, ks, ss⟩ := t
  rw [trav]
  simp only [T.kind, T.n, T.name, T.r, T.kids, T.sys]
  cases A.own c k n nm r with
  | bad e => rfl
  | ok o =>
    cases o with
    | inl u => rfl
    | inr p =>
      simp only [Res1.bind]
      cases travL A k 0 ks c with
      | bad e => rfl
      | ok ks' =>
        cases travB A k ss c <;> rfl
theorem travL_nil (k : Int) (i : Nat) (c : C) : travL A k i [] c = .ok [] := by rw [travL]
theorem travL_cons (k : Int) (i : Nat) (t : T) (ts : List T) (c : C) : travL A k i (t :: ts) c = (A.kid c (binds k i)).bind fun c' => (trav A t c').bind fun t' => (travL A k (i + 1) ts c).bind fun ts' => .ok (t' :: ts') := by
  rw [travL]
  cases A.kid c (binds k i) with
  | bad e => rfl
  | ok c' =>
    simp only [Res1.bind]
    cases trav A t c' with
    | bad e => rfl
    | ok t' => simp only; cases travL A k (i + 1) ts c <;> rfl
theorem travS_nil (k : Int) (c : C) : travS A k [] c = .ok [] := by rw [travS]
theorem travS_cons (k : Int) (t : T) (ts : List T) (c : C) : travS A k (t :: ts) c = (A.kid c (0, more k)).bind fun c' => (trav A t c').bind fun t' => (travS A k ts c).bind fun ts' => .ok (t' :: ts') := by
  rw [travS]
  cases A.kid c (0, more k) with
  | bad e => rfl
  | ok c' =>
    simp only [Res1.bind]
    cases trav A t c' with
    | bad e => rfl
    | ok t' => simp only; cases travS A k ts c <;> rfl
theorem travB_nil (k : Int) (c : C) : travB A k [] c = .ok [] := by rw [travB]
theorem travB_cons (k : Int) (b : Br) (bs : List Br) (c : C) : travB A k (b :: bs) c = (A.face c b.face).bind fun f => match f with
    | none => travB A k bs c
    | some f' => (travS A k b.kids c).bind fun ks' => (travB A k bs c).bind fun bs' => .ok (.mk f' ks' :: bs') := by
  obtain ⟨f, ks⟩ := b
  rw [travB]
  simp only [Br.face, Br.kids]
  cases A.face c f with
  | bad e => rfl
  | ok o =>
    cases o with
    | none => rfl
    | some f' =>
      simp only [Res1.bind]
      cases travS A k ks c with
      | bad e => rfl
      | ok ks' => simp only; cases travB A k bs c <;> rfl
/-! The first so many. -/
theorem travL_snoc (k : Int) (c : C) : ∀ (i : Nat) (l : List T) (t : T), travL A k i (l ++ [t]) c = (travL A k i l c).bind fun l' => (A.kid c (binds k ((i + l.length : Nat) : Int))).bind fun c' => (trav A t c').bind fun t' => .ok (l' ++ [t'])
  | i, [], t => by
    simp only [List.nil_append, travL_cons, travL_nil, Res1.bind, List.length_nil, Nat.add_zero]
  | i, a :: l, t => by
    simp only [List.cons_append, travL_cons, travL_snoc k c (i + 1) l t, List.length_cons]
    rw [show i + 1 + l.length = i + (l.length + 1) by omega]
    cases A.kid c (binds k i) with
    | bad e => rfl
    | ok c1 =>
      simp only [Res1.bind]
      cases trav A a c1 with
      | bad e => rfl
      | ok a' =>
        simp only
        cases travL A k (i + 1) l c with
        | bad e => rfl
        | ok l' =>
          simp only
          cases A.kid c (binds k ((i + (l.length + 1) : Nat) : Int)) with
          | bad e => rfl
          | ok c2 => simp only; cases trav A t c2 <;> rfl
theorem travS_snoc (k : Int) (c : C) : ∀ (l : List T) (t : T), travS A k (l ++ [t]) c = (travS A k l c).bind fun l' => (A.kid c (0, more k)).bind fun c' => (trav A t c').bind fun t' => .ok (l' ++ [t'])
  | [], t => by simp only [List.nil_append, travS_cons, travS_nil, Res1.bind]
  | a :: l, t => by
    simp only [List.cons_append, travS_cons, travS_snoc k c l t]
    cases A.kid c (0, more k) with
    | bad e => rfl
    | ok c1 =>
      simp only [Res1.bind]
      cases trav A a c1 with
      | bad e => rfl
      | ok a' =>
        simp only
        cases travS A k l c with
        | bad e => rfl
        | ok l' => simp only; cases trav A t c1 <;> rfl
theorem travB_snoc (k : Int) (c : C) : ∀ (l : List Br) (b : Br), travB A k (l ++ [b]) c = (travB A k l c).bind fun l' => (A.face c b.face).bind fun f => match f with
    | none => .ok l'
    | some f' => (travS A k b.kids c).bind fun ks' => .ok (l' ++ [.mk f' ks'])
  | [], b => by
    simp only [List.nil_append, travB_cons, travB_nil, Res1.bind]
  | a :: l, b => by
    simp only [List.cons_append, travB_cons, travB_snoc k c l b]
    cases A.face c a.face with
    | bad e => rfl
    | ok o =>
      cases o with
      | none => rfl
      | some f' =>
        simp only [Res1.bind]
        cases travS A k a.kids c with
        | bad e => rfl
        | ok ks' =>
          simp only
          cases travB A k l c with
          | bad e => rfl
          | ok l' =>
            simp only
            cases A.face c b.face with
            | bad e => rfl
            | ok o2 =>
              cases o2 with
              | none => rfl
              | some f2 => simp only; cases travS A k b.kids c <;> rfl
/-- What comes behind a refusal is not looked at. -/
theorem travL_bad {k e : Int} {c : C} : ∀ {l m : List T} {i : Nat}, travL A k i l c = .bad e → travL A k i (l ++ m) c = .bad e
  | [], m, i, h => by rw [travL_nil] at h; cases h
  | a :: l, m, i, h => by
    rw [List.cons_append, travL_cons]
    rw [travL_cons] at h
    cases h1 : A.kid c (binds k i) with
    | bad e' => rw [h1] at h; exact h
    | ok c1 =>
      rw [h1] at h
      simp only [Res1.bind] at h ⊢
      cases h2 : trav A a c1 with
      | bad e' => rw [h2] at h; exact h
      | ok a' =>
        rw [h2] at h
        simp only at h ⊢
        cases h3 : travL A k (i + 1) l c with
        | bad e' => rw [h3] at h; rw [travL_bad h3]; exact h
        | ok l' => rw [h3] at h; cases h
theorem travS_bad {k e : Int} {c : C} : ∀ {l m : List T}, travS A k l c = .bad e → travS A k (l ++ m) c = .bad e
  | [], m, h => by rw [travS_nil] at h; cases h
  | a :: l, m, h => by
    rw [List.cons_append, travS_cons]
    rw [travS_cons] at h
    cases h1 : A.kid c (0, more k) with
    | bad e' => rw [h1] at h; exact h
    | ok c1 =>
      rw [h1] at h
      simp only [Res1.bind] at h ⊢
      cases h2 : trav A a c1 with
      | bad e' => rw [h2] at h; exact h
      | ok a' =>
        rw [h2] at h
        simp only at h ⊢
        cases h3 : travS A k l c with
        | bad e' => rw [h3] at h; rw [travS_bad h3]; exact h
        | ok l' => rw [h3] at h; cases h
theorem travB_bad {k e : Int} {c : C} : ∀ {l m : List Br}, travB A k l c = .bad e → travB A k (l ++ m) c = .bad e
  | [], m, h => by rw [travB_nil] at h; cases h
  | a :: l, m, h => by
    rw [List.cons_append, travB_cons]
    rw [travB_cons] at h
    cases h1 : A.face c a.face with
    | bad e' => rw [h1] at h; exact h
    | ok o =>
      rw [h1] at h
      cases o with
      | none => exact travB_bad (l := l) h
      | some f' =>
        simp only [Res1.bind] at h ⊢
        cases h2 : travS A k a.kids c with
        | bad e' => rw [h2] at h; exact h
        | ok a' =>
          rw [h2] at h
          simp only at h ⊢
          cases h3 : travB A k l c with
          | bad e' => rw [h3] at h; rw [travB_bad h3]; exact h
          | ok l' => rw [h3] at h; cases h
theorem travL_len {k : Int} {c : C} : ∀ {l l' : List T} {i : Nat}, travL A k i l c = .ok l' → l'.length = l.length
  | [], l', i, h => by rw [travL_nil] at h; injection h with h; subst h; rfl
  | a :: l, l', i, h => by
    rw [travL_cons] at h
    obtain ⟨c1, _, h⟩ := Res1.bind_ok h
    obtain ⟨t', _, h⟩ := Res1.bind_ok h
    obtain ⟨ts', h3, h⟩ := Res1.bind_ok h
    injection h with h
    subst h
    simp [travL_len h3]
theorem travS_len {k : Int} {c : C} : ∀ {l l' : List T}, travS A k l c = .ok l' → l'.length = l.length
  | [], l', h => by rw [travS_nil] at h; injection h with h; subst h; rfl
  | a :: l, l', h => by
    rw [travS_cons] at h
    obtain ⟨c1, _, h⟩ := Res1.bind_ok h
    obtain ⟨t', _, h⟩ := Res1.bind_ok h
    obtain ⟨ts', h3, h⟩ := Res1.bind_ok h
    injection h with h
    subst h
    simp [travS_len h3]
theorem travB_len {k : Int} {c : C} : ∀ {l l' : List Br}, travB A k l c = .ok l' → l'.length ≤ l.length
  | [], l', h => by rw [travB_nil] at h; injection h with h; subst h; simp
  | a :: l, l', h => by
    rw [travB_cons] at h
    obtain ⟨o, _, h⟩ := Res1.bind_ok h
    cases o with
    | none => have := travB_len (l := l) h; simp; omega
    | some f' =>
      obtain ⟨ks', _, h⟩ := Res1.bind_ok h
      obtain ⟨bs', h3, h⟩ := Res1.bind_ok h
      injection h with h
      subst h
      have := travB_len h3
      simp; omega
end
end Go.Hy
namespace Go.Hy
/-! ### Bringing to the front -/
theorem perm12 {a0 a1 a2 a3 a4 a5 a6 a7 a8 a9 a10 a11 m : Res} {L : List Res} : (a0 :: a1 :: a2 :: a3 :: a4 :: a5 :: a6 :: a7 :: a8 :: a9 :: a10 :: a11 :: m :: L).Perm (m :: a0 :: a1 :: a2 :: a3 :: a4 :: a5 :: a6 :: a7 :: a8 :: a9 :: a10 :: a11 :: L) := (perm11.cons a0).trans perm1
theorem perm13 {a0 a1 a2 a3 a4 a5 a6 a7 a8 a9 a10 a11 a12 m : Res} {L : List Res} : (a0 :: a1 :: a2 :: a3 :: a4 :: a5 :: a6 :: a7 :: a8 :: a9 :: a10 :: a11 :: a12 :: m :: L).Perm (m :: a0 :: a1 :: a2 :: a3 :: a4 :: a5 :: a6 :: a7 :: a8 :: a9 :: a10 :: a11 :: a12 :: L) := (perm12.cons a0).trans perm1
theorem perm14 {a0 a1 a2 a3 a4 a5 a6 a7 a8 a9 a10 a11 a12 a13 m : Res} {L : List Res} : (a0 :: a1 :: a2 :: a3 :: a4 :: a5 :: a6 :: a7 :: a8 :: a9 :: a10 :: a11 :: a12 :: a13 :: m :: L).Perm (m :: a0 :: a1 :: a2 :: a3 :: a4 :: a5 :: a6 :: a7 :: a8 :: a9 :: a10 :: a11 :: a12 :: a13 :: L) := (perm13.cons a0).trans perm1
theorem perm15 {a0 a1 a2 a3 a4 a5 a6 a7 a8 a9 a10 a11 a12 a13 a14 m : Res} {L : List Res} : (a0 :: a1 :: a2 :: a3 :: a4 :: a5 :: a6 :: a7 :: a8 :: a9 :: a10 :: a11 :: a12 :: a13 :: a14 :: m :: L).Perm (m :: a0 :: a1 :: a2 :: a3 :: a4 :: a5 :: a6 :: a7 :: a8 :: a9 :: a10 :: a11 :: a12 :: a13 :: a14 :: L) := (perm14.cons a0).trans perm1
/-! ### Calls that hand back, or panic with a number -/
def errChain (T : TypeId) (e : Int) : List PanicEntry := [{ v := .iface T (.int .i64 e), recovered := false }]
/-- A call's contract, where what it comes to is a refusal, or not. -/
def SpecR (P : Program) (T : TypeId) (k : FuncId) (args : Array Value) (pre : List Fact) {α : Type} (r : Res1 α) {X : α → Type} (val : ∀ a : α, X a → Value) (N : ∀ a : α, X a → List Fact) (Ms1 : ∀ a : α, X a → List Res) : Prop :=
  (∀ a, r = .ok a → Spec P k args pre [] (val a) (N a) (Ms1 a)) ∧ (∀ e, r = .bad e → SpecP P k args pre (errChain T e))
def EndsR (B : Base) (T : TypeId) {α : Type} (r : Res1 α) {X : α → Type} (val : ∀ a : α, X a → Value) (N : ∀ a : α, X a → List Fact) (Ms1 : ∀ a : α, X a → List Res) (e : Ending) (w' : World) : Prop :=
  (∀ a, r = .ok a → Ends B (val a) (N a) (Ms1 a) e w') ∧ (∀ x, r = .bad x → e = .panicked (errChain T x) ∧ St B [] [] w')
section
variable {P : Program} {f : FuncId} {B : Base} {n : Fz} {K : List Item} {σ : Nat → Value} {Γ : List Fact} {Ms : List Res} {todo : List Item} {T : TypeId} {α : Type} {X : α → Type} {r : Res1 α} {val : ∀ a : α, X a → Value} {N : ∀ a : α, X a → List Fact} {Ms1 : ∀ a : α, X a → List Res}
theorem GoT.monoR {R R' : Ending → World → Prop} (hm : ∀ e w, R e w → R' e w) (h : GoT P f R B n todo σ Γ Ms) : GoT P f R' B n todo σ Γ Ms := fun a w hr hs b cs hb hk => by
  obtain ⟨e, w', fr, hR, hc, hf, hl⟩ := h a w hr hs b cs hb hk
  exact ⟨e, w', fr, hm _ _ hR, hc, hf, hl⟩
theorem go_ok {a : α} (hr : r = .ok a) (h : GoT P f (Ends B (val a) (N a) (Ms1 a)) B n todo σ Γ Ms) : GoT P f (EndsR B T r val N Ms1) B n todo σ Γ Ms :=
  GoT.monoR (fun e w he => ⟨fun b hb => by rw [hr] at hb; injection hb with hb; subst hb; exact he, fun x hx => by rw [hr] at hx; cases hx⟩) h
theorem go_res {β : Type} (q : Res1 β) {R : Ending → World → Prop} (h1 : ∀ a, q = .ok a → GoT P f R B n todo σ Γ Ms) (h2 : ∀ e, q = .bad e → GoT P f R B n todo σ Γ Ms) : GoT P f R B n todo σ Γ Ms := by
  cases hq : q with
  | ok a => exact h1 a hq
  | bad e => exact h2 e hq
theorem go_cutR {K : List Item} {it : Item} {R : Ending → World → Prop} {Ms' : List Res} (p : Prop) (live : List (Nat × Value)) (h1 : (p → ∀ σ', LiveL σ' live → GoT P f R B n K σ' Γ Ms') → GoT P f R B n (it :: K) σ Γ Ms) (h2 : p → ∀ base, GoT P f R B n K (stL base live) Γ Ms') : GoT P f R B n (it :: K) σ Γ Ms :=
  h1 (fun hp σ' hl => go_slots live hl (h2 hp))
theorem endsR_bad {e : Int} (hr : r = .bad e) : ∀ w, St B [] [] w → EndsR B T r val N Ms1 (.panicked (errChain T e)) w := fun w hs =>
  ⟨fun a ha => (by rw [hr] at ha; cases ha), fun x hx => (by rw [hr] at hx; injection hx with hx; subst hx; exact ⟨rfl, hs⟩)⟩
theorem specR_go {k : FuncId} {fn : Func} {c : Code} {args : List Value} {pre : List Fact} {n : Nat} (hf : P.funcs[k]? = some fn) (hn : fn.ntmps = n) (hb : fn.body = some c) (ha : args.length ≤ n)
    (h : ∀ B : Base, (∀ b, B.S0 b ↔ domAll [] b) → GoT P k (EndsR B T r val N Ms1) B ⟨n, [], .normal⟩ [.code c] (fun t => args.getD t undef) pre []) : SpecR P T k args.toArray pre r val N Ms1 := by
  have he : (fun t => args.toArray.getD t undef) = fun t => args.getD t undef := by
    funext t
    simp [Array.getD_eq_getD_getElem?, List.getD_eq_getElem?_getD]
  have key : ∀ ok w, (∀ b, ok b → b < w.heap.size ∧ ¬ domAll [] b) → St ⟨ok, domAll [], w⟩ pre [] w → Calls P k args.toArray w (EndsR ⟨ok, domAll [], w⟩ T r val N Ms1) := by
    intro ok w hok hs
    refine calls_go (n := ⟨n, [], .normal⟩) hf hb hn rfl rfl (by simpa using ha) hs ?_
    have := h ⟨ok, domAll [], w⟩ (fun _ => Iff.rfl)
    rw [he]
    exact this
  exact ⟨fun a hr ok w hok hs => (key ok w hok hs).mono fun e w' h => h.1 a hr, fun x hr ok w hok hs => (key ok w hok hs).mono fun e w' h => h.2 x hr⟩
end
/-! ### Several facts as one -/
def AllFs (L : List Fact) : Fact := ⟨fun ok w => ∀ F, F ∈ L → F.f ok w, fun ok ok' w hs h F hF => F.mono ok ok' w hs (h F hF), fun ok w w' h hs F hF => F.loc ok w w' (h F hF) hs⟩
section
variable {B : Base} {Γ : List Fact} {Ms : List Res} {w : World} {L : List Fact}
theorem St.conj (hs : St B Γ Ms w) (h : ∀ F, F ∈ L → F ∈ Γ) : St B (AllFs L :: Γ) Ms w := hs.add (fun F hF => hs.facts F (h F hF))
theorem St.unconj (hs : St B [AllFs L] Ms w) : St B L Ms w := ⟨hs.chg, fun F hF => hs.facts _ List.mem_cons_self F hF, hs.res, hs.lt, hs.disj⟩
theorem Spec.conj {P : Program} {k : FuncId} {args : Array Value} {Ms0 : List Res} {X : Type} {val : X → Value} {N : X → List Fact} {Ms1 : X → List Res} (h : Spec P k args L Ms0 val N Ms1) : Spec P k args [AllFs L] Ms0 val N Ms1 := fun ok w hok hs => h ok w hok hs.unconj
theorem SpecP.conj {P : Program} {k : FuncId} {args : Array Value} {chain : List PanicEntry} (h : SpecP P k args L chain) : SpecP P k args [AllFs L] chain := fun ok w hok hs => h ok w hok hs.unconj
theorem SpecR.conj {P : Program} {T : TypeId} {k : FuncId} {args : Array Value} {α : Type} {r : Res1 α} {X : α → Type} {val : ∀ a : α, X a → Value} {N : ∀ a : α, X a → List Fact} {Ms1 : ∀ a : α, X a → List Res} (h : SpecR P T k args L r val N Ms1) : SpecR P T k args [AllFs L] r val N Ms1 := ⟨fun a ha => (h.1 a ha).conj, fun e he => (h.2 e he).conj⟩
end
/-! ### Operations -/
section
variable {P : Program} [Tab P] {f : FuncId} {R : Ending → World → Prop} {B : Base} {n : Fz} {K : List Item} {ops : Array Oper} {i : Nat} {l : List Nat} {σ : Nat → Value} {Γ : List Fact} {Ms : List Res}
variable {dst : Option Tmp} {ty : TypeId} {v : Value} {x y : Operand}
theorem pe_makeI {t : TypeId} {d : TypeDesc} (hu : Tab.und P t = some d) (hd : (match d with | .interface _ => true | _ => false) = false) (hx : ev σ x = v) : PureE P σ (.makeInterface t x) ty (.iface t v) := fun w => by
  cases d <;> first | (simp at hd; done) | simp [opr, execOp, hx, Instr.makeInterface, run_und0 hu]
theorem o_makeI {t : TypeId} {d : TypeDesc} (k_ : RgT P f R B n K ops l (putS σ dst (.iface t v)) Γ Ms) (hx : ev σ x = v := by exact wn_) (hu : Tab.und P t = some d := by rfl) (hdd : (match d with | .interface _ => true | _ => false) = false := by rfl) (hd : dstOk n dst = true := by rfl) : OpT P f R B n K ops l (opr dst (.makeInterface t x) ty) σ Γ Ms := sq_pure (pe_makeI hu hdd hx) hd k_
/-- The text's own panic. -/
theorem o_panic {T : TypeId} {e : Int} (hR : ∀ w, St B [] [] w → R (.panicked (errChain T e)) w) (hx : ev σ x = .iface T (.int .i64 e) := by exact wn_) (hD : n.defs = [] := by rfl) (hK : okK n.kind := by first | exact .inl rfl | exact .inr rfl) : OpT P f R B n K ops l (opr dst (.panic x) ty) σ Γ Ms := fun a w hr hs => by
  unfold Oper.wp
  rw [hr.eval]
  have e1 : (execOp (ev σ) (opr dst (.panic x) ty)).run P w = .halt (.panic (.iface T (.int .i64 e))) w := by
    simp only [opr, execOp, hx]
    rfl
  rw [e1, Oper.upon_panic]
  refine ⟨hK.imp id (fun h => ⟨h, hr.defs.trans hD⟩), fun fn hfn => ?_⟩
  rw [hr.defs, hD]
  exact hR w (St.dropAll (A := Ms) (Ms := []) (by rw [List.append_nil]; exact hs.less (fun F hF => by cases hF)))
/-- A call waits till the frame is left. -/
theorem o_defer {c : FuncId} {cap : List Value} {ts : Array TypeId} {g : Operand} (k_ : RgT P f R B ⟨n.sz, ⟨.fn (.func c) cap.toArray, #[]⟩ :: n.defs, n.kind⟩ K ops l σ Γ Ms) (hg : ev σ g = .func (.func c) #[] cap.toArray := by rfl) : OpT P f R B n K ops l (opr none (.defer { callee := .value g, args := #[], argTypes := ts }) ty) σ Γ Ms := fun a w hr hs => by
  unfold Oper.wp
  rw [hr.eval]
  have e1 : (execOp (ev σ) (opr none (.defer { callee := .value g, args := #[], argTypes := ts }) ty)).run P w = .ok (.defer ⟨.fn (.func c) cap.toArray, #[]⟩) w := by
    simp [opr, execOp, resolve, hg, Deferred.ofValue]
  rw [e1, Oper.upon_defer]
  exact k_ _ _ ⟨hr.size, hr.get, by show _ :: a.defers = _; rw [hr.defs]⟩ hs
end
/-! ### Frames in which a call waits -/
/-- What a deferred call does. -/
def SpecD (P : Program) (k : FuncId) (args : Array Value) (pre : List Fact) (Ms0 : List Res) (u u' : FrameMode) (N : List Fact) (Ms1 : List Res) : Prop :=
  ∀ ok w, (∀ b, ok b → b < w.heap.size ∧ ¬ domAll Ms0 b) → St ⟨ok, domAll Ms0, w⟩ pre Ms0 w → CallsD P k args u w fun e v w' => e = .returned (.tuple #[]) ∧ v = u' ∧ St ⟨ok, domAll Ms0, w⟩ N Ms1 w'
section
variable {P : Program} {f : FuncId} {fn : Func} {R : Ending → World → Prop} {B : Base} {n : Fz} {K : List Item} {σ : Nat → Value} {Γ : List Fact} {Ms : List Res}
theorem leaves1 {k : FuncId} {cap : List Value} {pre N : List Fact} {Ms0 Ms1 Ms2 : List Res} {u u' : FrameMode} {tmps : Array Value} {w : World} (hu : u ≠ .run) (hc : ∀ (args : Array Value) (w : World), (callFunc k args).run P w = .ok (.enter k args) w) (hsp : SpecD P k cap.toArray pre Ms0 u u' N Ms1) (hpre : ∀ F, F ∈ pre → F ∈ Γ) (hm : Ms.Perm (Ms0 ++ Ms2)) (hset : settle u' = .returning)
    (hs : St B Γ Ms w) (hres : ∀ w', St B (N ++ Γ) (Ms1 ++ Ms2) w' → ∃ v, (results fn tmps).run P w' = .ok v w' ∧ R (.returned v) w') : Leaves P fn tmps R [⟨.fn (.func k) cap.toArray, #[]⟩] u w := by
  refine leaves_cons (f := k) (args := cap.toArray) hu (by simp [invoke, hc]) ?_
  have hs' := hs.perm hm
  refine (hsp (okOf B (Ms0 ++ Ms2) w) w ?_ (hs'.hand hpre)).mono ?_
  · intro b hb
    exact ⟨hb.2.1, fun hc => hb.2.2 (domAll_append.2 (.inl hc))⟩
  · rintro e v w' ⟨rfl, rfl, hx⟩
    show Leaves P fn tmps R [] (settle v) w'
    rw [hset]
    obtain ⟨v', h1, h2⟩ := hres w' (hs'.frame hx)
    exact ⟨v', h1, h2⟩
/-- Leaving, where a call waits. -/
theorem go_retD {k : FuncId} {cap : List Value} {pre N : List Fact} {Ms0 Ms1 Ms2 : List Res} (hf : P.funcs[f]? = some fn) (hc : ∀ (args : Array Value) (w : World), (callFunc k args).run P w = .ok (.enter k args) w) (hsp : SpecD P k cap.toArray pre Ms0 .returning .returning N Ms1) (hpre : ∀ F, F ∈ pre → F ∈ Γ) (hm : Ms.Perm (Ms0 ++ Ms2))
    (hres : ∀ a w', Rel n a σ → St B (N ++ Γ) (Ms1 ++ Ms2) w' → ∃ v, (results fn a.tmps).run P w' = .ok v w' ∧ R (.returned v) w') (hD : n.defs = [⟨.fn (.func k) cap.toArray, #[]⟩] := by rfl) (hK : n.kind = .normal := by rfl) : GoT P f R B n (.code .ret :: K) σ Γ Ms := by
  intro a w hr hs b cs hb hk
  have hfn : P.funcs[b.fn]? = some fn := by rw [hb]; exact hf
  have hL : Leaves P fn a.tmps R a.defers .returning w := by
    rw [hr.defs, hD]
    exact leaves1 (by simp) hc hsp hpre hm rfl hs (fun w' h => hres a w' hr h)
  obtain ⟨e, w', fr, hR, hs', hf', hl⟩ := leaves_steps a.defers .returning w { b.at a (.code .ret :: K) with mode := .returning } cs rfl rfl rfl hfn (hk.trans hK) hL
  exact ⟨e, w', fr, hR, hs'.of_steps (.one step_ret), hf'.trans hb, .inl ⟨hK, hl⟩⟩
/-- A call that panics, where a call waits. -/
theorem op_panD {ops : Array Oper} {l : List Nat} {dst : Option Tmp} {op : Op} {ty : TypeId} {c k : FuncId} {args : Array Value} {cap : List Value} {pre pre2 N : List Fact} {chain : List PanicEntry} {Ms0 Ms1 Ms2 : List Res} {u' : FrameMode} (he : EnterE P σ op ty c args) (hsp : SpecP P c args pre chain) (hpre : ∀ F, F ∈ pre → F ∈ Γ) (hf : P.funcs[f]? = some fn)
    (hc : ∀ (args : Array Value) (w : World), (callFunc k args).run P w = .ok (.enter k args) w) (hsd : SpecD P k cap.toArray pre2 Ms0 (.panicking chain) u' N Ms1) (hpre2 : ∀ F, F ∈ pre2 → F ∈ Γ) (hm : Ms.Perm (Ms0 ++ Ms2)) (hset : settle u' = .returning)
    (hres : ∀ a w', Rel n a σ → St B (N ++ Γ) (Ms1 ++ Ms2) w' → ∃ v, (results fn a.tmps).run P w' = .ok v w' ∧ R (.returned v) w') (hD : n.defs = [⟨.fn (.func k) cap.toArray, #[]⟩] := by rfl) (hK : n.kind = .normal := by rfl) : OpT P f R B n K ops l (opr dst op ty) σ Γ Ms := by
  intro a w hr hs
  unfold Oper.wp
  rw [hr.eval, show (execOp (ev σ) (opr dst op ty)).run P w = .ok (.enter c args) w by rw [opr, exec_opr (d' := none)]; exact he w]
  have hs' : St B Γ ([] ++ Ms) w := hs
  refine (hsp (okOf B ([] ++ Ms) w) w (fun b hb => ⟨hb.2.1, domAll_nil b⟩) (hs'.hand hpre)).mono ?_
  rintro e w' ⟨rfl, hx⟩
  refine ⟨.inl hK, fun fn' hfn' => ?_⟩
  rw [hf] at hfn'
  injection hfn' with hfn'
  subst hfn'
  rw [hr.defs, hD]
  have h1 : St B Γ Ms w' := by have := hs'.frame hx; simpa using this
  exact leaves1 (by simp) hc hsd hpre2 hm hset h1 (fun w' h => hres a w' hr h)
end
/-! ### A deferred closure that begins with recover -/
section
variable {P : Program} {f : FuncId} {fn : Func} {B : Base} {Γ : List Fact} {Ms : List Res}
theorem callsD_goN {R : Ending → World → Prop} {n : Fz} {args : Array Value} {c : Code} {w : World} {d d2 : Tmp} {o1 o2 : Oper} {id : Nat} (hf : P.funcs[f]? = some fn) (hb : fn.body = some (.seq (.region id #[o1, o2] false) c)) (hn : fn.ntmps = n.sz) (hD : n.defs = []) (hk : n.kind = .deferred) (ha : args.size ≤ n.sz) (hs : St B Γ Ms w)
    (h1 : ∀ ρ w, (execOp ρ o1).run P w = .ok .recover w) (hd1 : o1.dst = some d) (hg1 : o1.guard = none) (h2 : ∀ ρ : Operand → Value, execOp ρ o2 = pure (.value (ρ (.tmp d)))) (hd2 : o2.dst = some d2) (hg2 : o2.guard = none) (hl1 : Nat.blt d n.sz = true) (hl2 : Nat.blt d2 n.sz = true)
    (h : GoT P f R B n [.code c] (upd (upd (fun t => args.getD t undef) d .nilIface) d2 .nilIface) Γ Ms) : CallsD P f args .returning w fun e u' w' => u' = .returning ∧ R e w' := by
  intro c0 cs hu
  let b : Frame := { (default : Frame) with fn := f, kind := .deferred }
  have henter : Frame.enter P f args .deferred = b.at { tmps := args ++ Array.replicate (fn.ntmps - args.size) undef, defers := [] } [.code (.seq (.region id #[o1, o2] false) c)] := by
    simp [Frame.enter, Frame.at, hf, hb, b]
  have hr0 := rel_enter (fn := fn) hn hD ha
  have hr1 := hr0.put (dst := some d) hl1 .nilIface
  have hr2 := hr1.put (dst := some d2) hl2 .nilIface
  have hS : wpOpsS P #[o1, o2] (fun e a' cs' w' => e = .normal ∧ a' = (({ tmps := args ++ Array.replicate (fn.ntmps - args.size) undef, defers := [] } : Act).put (some d) .nilIface).put (some d2) .nilIface ∧ cs' = c0 :: cs ∧ w' = w) [0, 1] { tmps := args ++ Array.replicate (fn.ntmps - args.size) undef, defers := [] } (c0 :: cs) w := by
    have e1 : (#[o1, o2])[0]? = some o1 := rfl
    have e2 : (#[o1, o2])[1]? = some o2 := rfl
    have hrec : recoverD (c0 :: cs) = none := by simp [recoverD, hu]
    have hput : ((({ tmps := args ++ Array.replicate (fn.ntmps - args.size) undef, defers := [] } : Act).put (some d) .nilIface).eval (.tmp d)) = .nilIface := by
      rw [hr1.eval]; simp [ev, putS, upd_same]
    simp only [wpOpsS, e1, e2, Region.wanted, hg1, hg2, if_true, h1, hrec, hd1, h2]
    rw [hput]
    show Oper.upon P o2 _ _ _ (.ok (.value .nilIface) w)
    simp only [Oper.upon_value, hd2, and_self]
  obtain ⟨e, a', cs', w', ⟨rfl, rfl, rfl, rfl⟩, harr⟩ := wp_opsS [0, 1] _ _ _ hS b [.code c] rfl rfl
  obtain ⟨e, w2, fr, hR, hc, hf', hl⟩ := h _ w' hr2 hs b (c0 :: cs) rfl hk.symm
  rcases hl with ⟨h9, _⟩ | ⟨_, hk2, hgo⟩
  · rw [hk] at h9; cases h9
  · refine ⟨e, .returning, w2, fr, ⟨rfl, hR⟩, ?_, hk2, hgo⟩
    have hc0 : ({ c0 with mode := .returning } : Frame) = c0 := by rw [← hu]
    rw [henter, hc0]
    exact hc.of_steps (.head step_seq (.head step_region harr))
theorem args_list {args : List Value} {d d2 : Nat} {v : Value} : (upd (upd (fun t => args.toArray.getD t undef) d v) d2 v) = upd (upd (fun t => args.getD t undef) d v) d2 v := by
  have he : (fun t => args.toArray.getD t undef) = fun t => args.getD t undef := by
    funext t
    simp [Array.getD_eq_getD_getElem?, List.getD_eq_getElem?_getD]
  rw [he]
theorem specD_go {args : List Value} {c : Code} {d d2 sz : Nat} {o1 o2 : Oper} {id : Nat} {v : Value} {older : List PanicEntry} {N pre : List Fact} {Ms0 Ms1 : List Res} (hf : P.funcs[f]? = some fn) (hb : fn.body = some (.seq (.region id #[o1, o2] false) c)) (hn : fn.ntmps = sz) (ha : args.length ≤ sz)
    (h1 : ∀ ρ w, (execOp ρ o1).run P w = .ok .recover w) (hd1 : o1.dst = some d) (hg1 : o1.guard = none) (h2 : ∀ ρ : Operand → Value, execOp ρ o2 = pure (.value (ρ (.tmp d)))) (hd2 : o2.dst = some d2) (hg2 : o2.guard = none) (hl1 : Nat.blt d sz = true) (hl2 : Nat.blt d2 sz = true)
    (h : ∀ B : Base, (∀ b, B.S0 b ↔ domAll Ms0 b) → GoT P f (Ends B (fun _ : Unit => .tuple #[]) (fun _ => N) (fun _ => Ms1)) B ⟨sz, [], .deferred⟩ [.code c] (upd (upd (fun t => args.getD t undef) d v) d2 v) pre Ms0) :
    SpecD P f args.toArray pre Ms0 (.panicking ({ v, recovered := false } :: older)) (.panicking ({ v, recovered := true } :: older)) N Ms1 := by
  intro ok w hok hs
  refine (callsD_go (n := ⟨sz, [], .deferred⟩) hf hb hn rfl rfl (by simpa using ha) hs h1 hd1 hg1 h2 hd2 hg2 hl1 hl2 (by rw [args_list]; exact h ⟨ok, domAll Ms0, w⟩ (fun _ => Iff.rfl))).mono ?_
  rintro e u w' ⟨rfl, _, he, hx⟩
  exact ⟨he, rfl, hx⟩
theorem specD_goN {args : List Value} {c : Code} {d d2 sz : Nat} {o1 o2 : Oper} {id : Nat} {N pre : List Fact} {Ms0 Ms1 : List Res} (hf : P.funcs[f]? = some fn) (hb : fn.body = some (.seq (.region id #[o1, o2] false) c)) (hn : fn.ntmps = sz) (ha : args.length ≤ sz)
    (h1 : ∀ ρ w, (execOp ρ o1).run P w = .ok .recover w) (hd1 : o1.dst = some d) (hg1 : o1.guard = none) (h2 : ∀ ρ : Operand → Value, execOp ρ o2 = pure (.value (ρ (.tmp d)))) (hd2 : o2.dst = some d2) (hg2 : o2.guard = none) (hl1 : Nat.blt d sz = true) (hl2 : Nat.blt d2 sz = true)
    (h : ∀ B : Base, (∀ b, B.S0 b ↔ domAll Ms0 b) → GoT P f (Ends B (fun _ : Unit => .tuple #[]) (fun _ => N) (fun _ => Ms1)) B ⟨sz, [], .deferred⟩ [.code c] (upd (upd (fun t => args.getD t undef) d .nilIface) d2 .nilIface) pre Ms0) :
    SpecD P f args.toArray pre Ms0 .returning .returning N Ms1 := by
  intro ok w hok hs
  refine (callsD_goN (n := ⟨sz, [], .deferred⟩) hf hb hn rfl rfl (by simpa using ha) hs h1 hd1 hg1 h2 hd2 hg2 hl1 hl2 (by rw [args_list]; exact h ⟨ok, domAll Ms0, w⟩ (fun _ => Iff.rfl))).mono ?_
  rintro e u w' ⟨rfl, _, he, hx⟩
  exact ⟨he, rfl, hx⟩
end
section
variable {P : Program} [Tab P] {f : FuncId} {R : Ending → World → Prop} {B : Base} {n : Fz} {K : List Item} {ops : Array Oper} {i : Nat} {l : List Nat} {σ : Nat → Value} {Γ : List Fact} {Ms : List Res}
variable {dst : Option Tmp} {ty : TypeId} {v : Value} {x y : Operand}
theorem und_iface {t : TypeId} (hu : (match Tab.und P t with | some (.interface _) => true | _ => false) = true) : ∃ m, Tab.und P t = some (.interface m) := by
  cases h : Tab.und P t with
  | none => rw [h] at hu; cases hu
  | some d => cases d <;> rw [h] at hu <;> first | exact ⟨_, rfl⟩ | cases hu
theorem run_eqIN {t T : TypeId} {v : Value} (hu : (match Tab.und P t with | some (.interface _) => true | _ => false) = true) (w : World) : (Op.equal t (.iface T v) .nilIface).run P w = .ok false w := by
  obtain ⟨m, hu'⟩ := und_iface hu
  have h1 : (Op.equalIn (9999 + 1) t (.iface T v) .nilIface).run P w = .ok false w := by
    unfold Op.equalIn
    rw [bind_ok (run_und0 hu' w)]
    rfl
  exact h1
theorem run_eqNN {t : TypeId} (hu : (match Tab.und P t with | some (.interface _) => true | _ => false) = true) (w : World) : (Op.equal t .nilIface .nilIface).run P w = .ok true w := by
  obtain ⟨m, hu'⟩ := und_iface hu
  have h1 : (Op.equalIn (9999 + 1) t .nilIface .nilIface).run P w = .ok true w := by
    unfold Op.equalIn
    rw [bind_ok (run_und0 hu' w)]
    rfl
  exact h1
theorem o_neIface {t t' T : TypeId} (k_ : RgT P f R B n K ops l (putS σ dst (.bool true)) Γ Ms) (hx : ev σ x = .iface T v := by exact wn_) (hu : (match Tab.und P t with | some (.interface _) => true | _ => false) = true := by rfl) (hd : dstOk n dst = true := by rfl) : OpT P f R B n K ops l (opr dst (.binOp .neq t x (.const .nilIface) t') ty) σ Γ Ms := sq_pure (run_bin hx (show ev σ (.const .nilIface) = Value.nilIface from rfl) (fun w => by simp [eqGuard_at_iface]) (fun w => by
  simp only [binOp]
  rw [bind_ok (run_eqIN hu w)]; rfl)) hd k_
theorem o_neNil {t t' : TypeId} (k_ : RgT P f R B n K ops l (putS σ dst (.bool false)) Γ Ms) (hx : ev σ x = .nilIface := by exact wn_) (hu : (match Tab.und P t with | some (.interface _) => true | _ => false) = true := by rfl) (hd : dstOk n dst = true := by rfl) : OpT P f R B n K ops l (opr dst (.binOp .neq t x (.const .nilIface) t') ty) σ Γ Ms := sq_pure (run_bin hx (show ev σ (.const .nilIface) = Value.nilIface from rfl) (fun w => by cases x <;> rfl) (fun w => by
  simp only [binOp]
  rw [bind_ok (run_eqNN hu w)]; rfl)) hd k_
theorem o_tassert {t T : TypeId} {d : TypeDesc} (k_ : RgT P f R B n K ops l (putS σ dst (.tuple #[v, .bool true])) Γ Ms) (hx : ev σ x = .iface T v := by exact wn_) (hu : Tab.und P T = some d := by rfl) (hdd : (match d with | .interface _ => true | _ => false) = false := by rfl) (hd : dstOk n dst = true := by rfl) : OpT P f R B n K ops l (opr dst (.typeAssert x t T true) ty) σ Γ Ms := sq_pure (fun w => by
  cases d <;> first | (simp at hdd; done) | simp [opr, execOp, hx, Instr.typeAssert, run_und0 hu]) hd k_
end
/-! ### Two results that lie in variables -/
section
variable {P : Program} [Tab P] {f : FuncId} {fn : Func} {B : Base} {n : Fz} {K : List Item} {σ : Nat → Value} {Γ : List Fact} {Ms : List Res} {X : Type} {val : X → Value} {N : X → List Fact} {Ms1 : X → List Res}
theorem results_CC {r t T r2 t2 T2 b b2 s bt : Nat} {zv v2 : Value} {d : TypeDesc} {lay : List (Nat × Nat)} {cs : List Value} {a : Act} {w : World} (hr : fn.results = #[.cell r t, .cell r2 t2]) (ha : Rel n a σ) (hs : St B Γ Ms w) (hb : σ r = .pointer (some ⟨b, 0, none⟩)) (hb2 : σ r2 = .pointer (some ⟨b2, 0, none⟩)) (hm : boxR b cs T ∈ Ms) (hm2 : boxR b2 [v2] T2 ∈ Ms)
    (hl : Tab.lay P t = some lay) (hi : Tab.inf P t = some (s, bt, zv)) (hcs : cs.length = s) (hu : Tab.und P t2 = some d) (hd : (match d with | .struct _ | .array _ _ => true | _ => false) = false) : (results fn a.tmps).run P w = .ok (.tuple #[.agg cs.toArray, v2]) w := by
  have h1 := ha.get r
  rw [hb] at h1
  have h3 := ha.get r2
  rw [hb2] at h3
  have h2 := run_loadVar_agg (P := P) (bk := b) (off := 0) (w := w) hl hi hcs (fun j v hj => by rw [Nat.zero_add]; exact box_cell hs hm j v hj)
  have h4 : (loadVar t2 ⟨b2, 0, none⟩).run P w = .ok v2 w := run_loadVar_one (P := P) (off := 0) (w := w) hu hd (box_cell hs hm2 0 v2 rfl)
  have h1' : (a.tmps[r]?.getD undef) = .pointer (some ⟨b, 0, none⟩) := by simpa [Array.getD_eq_getD_getElem?] using h1
  have h3' : (a.tmps[r2]?.getD undef) = .pointer (some ⟨b2, 0, none⟩) := by simpa [Array.getD_eq_getD_getElem?] using h3
  simp [results, hr, asAddr, h1', h2, h3', h4]
theorem retCC {r t T r2 t2 T2 b b2 s bt : Nat} {zv v2 : Value} {d : TypeDesc} {lay : List (Nat × Nat)} {cs : List Value} (hf : P.funcs[f]? = some fn) (hr : fn.results = #[.cell r t, .cell r2 t2]) (x : X) (hb : σ r = .pointer (some ⟨b, 0, none⟩)) (hb2 : σ r2 = .pointer (some ⟨b2, 0, none⟩)) (hm : boxR b cs T ∈ Ms) (hm2 : boxR b2 [v2] T2 ∈ Ms)
    (hl : Tab.lay P t = some lay) (hi : Tab.inf P t = some (s, bt, zv)) (hcs : cs.length = s) (hu : Tab.und P t2 = some d) (hd : (match d with | .struct _ | .array _ _ => true | _ => false) = false) (hv : Value.tuple #[.agg cs.toArray, v2] = val x) (hs : ∀ w, St B Γ Ms w → St B (N x) (Ms1 x) w) (hD : n.defs = [] := by rfl) (hK : okK n.kind := by first | exact .inl rfl | exact .inr rfl) : GoT P f (Ends B val N Ms1) B n (.code .ret :: K) σ Γ Ms :=
  go_ret hf (fun a w ha h => (results_CC hr ha h hb hb2 hm hm2 hl hi hcs hu hd).trans (by rw [hv])) (fun w h => ⟨x, rfl, hs w h⟩) hD hK
end
/-! ### Leaving with two results in variables, where a call waits -/
section
variable {P : Program} [Tab P] {f : FuncId} {fn : Func} {B : Base} {n : Fz} {K : List Item} {σ : Nat → Value} {Γ : List Fact} {Ms : List Res} {X : Type} {val : X → Value} {N : X → List Fact} {Ms1 : X → List Res}
theorem retDCC {r t T r2 t2 T2 b b2 s bt : Nat} {zv v2 : Value} {d : TypeDesc} {lay : List (Nat × Nat)} {cs : List Value} {k : FuncId} {cap : List Value} (hf : P.funcs[f]? = some fn) (hr : fn.results = #[.cell r t, .cell r2 t2]) (hc : ∀ (args : Array Value) (w : World), (callFunc k args).run P w = .ok (.enter k args) w) (hsp : SpecD P k cap.toArray [] [] .returning .returning [] [])
    (x : X) (hb : σ r = .pointer (some ⟨b, 0, none⟩)) (hb2 : σ r2 = .pointer (some ⟨b2, 0, none⟩)) (hm : boxR b cs T ∈ Ms) (hm2 : boxR b2 [v2] T2 ∈ Ms)
    (hl : Tab.lay P t = some lay) (hi : Tab.inf P t = some (s, bt, zv)) (hcs : cs.length = s) (hu : Tab.und P t2 = some d) (hd : (match d with | .struct _ | .array _ _ => true | _ => false) = false) (hv : Value.tuple #[.agg cs.toArray, v2] = val x) (hs : ∀ w, St B Γ Ms w → St B (N x) (Ms1 x) w) (hD : n.defs = [⟨.fn (.func k) cap.toArray, #[]⟩] := by rfl) (hK : n.kind = .normal := by rfl) : GoT P f (Ends B val N Ms1) B n (.code .ret :: K) σ Γ Ms :=
  go_retD (Ms2 := Ms) hf hc hsp (fun F hF => by cases hF) (List.Perm.refl _) (fun a w' ha h => ⟨_, results_CC hr ha h hb hb2 hm hm2 hl hi hcs hu hd, ⟨x, by rw [hv], hs w' h⟩⟩) hD hK
theorem panDCC {r t T r2 t2 T2 b b2 s bt : Nat} {zv v2 : Value} {d : TypeDesc} {lay : List (Nat × Nat)} {cs cs0 : List Value} {v0 : Value} {k c : FuncId} {cap : List Value} {ops : Array Oper} {l : List Nat} {dst : Option Tmp} {op : Op} {ty : TypeId} {args : Array Value} {pre : List Fact} {chain : List PanicEntry} {u' : FrameMode} {Ms2 : List Res} (he : EnterE P σ op ty c args) (hspp : SpecP P c args pre chain) (hpre : ∀ F, F ∈ pre → F ∈ Γ)
    (hf : P.funcs[f]? = some fn) (hr : fn.results = #[.cell r t, .cell r2 t2]) (hc : ∀ (args : Array Value) (w : World), (callFunc k args).run P w = .ok (.enter k args) w) (hsp : SpecD P k cap.toArray [] [boxR b cs0 T, boxR b2 [v0] T2] (.panicking chain) u' [] [boxR b cs T, boxR b2 [v2] T2]) (hset : settle u' = .returning) (hm : Ms.Perm (boxR b cs0 T :: boxR b2 [v0] T2 :: Ms2))
    (x : X) (hb : σ r = .pointer (some ⟨b, 0, none⟩)) (hb2 : σ r2 = .pointer (some ⟨b2, 0, none⟩))
    (hl : Tab.lay P t = some lay) (hi : Tab.inf P t = some (s, bt, zv)) (hcs : cs.length = s) (hu : Tab.und P t2 = some d) (hd : (match d with | .struct _ | .array _ _ => true | _ => false) = false) (hv : Value.tuple #[.agg cs.toArray, v2] = val x) (hs : ∀ w, St B Γ [] w → St B (N x) (Ms1 x) w) (hD : n.defs = [⟨.fn (.func k) cap.toArray, #[]⟩] := by rfl) (hK : n.kind = .normal := by rfl) : OpT P f (Ends B val N Ms1) B n K ops l (opr dst op ty) σ Γ Ms :=
  op_panD (Ms0 := [boxR b cs0 T, boxR b2 [v0] T2]) (Ms2 := Ms2) he hspp hpre hf hc hsp (fun F hF => by cases hF) hm hset (fun a w' ha h => ⟨_, results_CC hr ha h hb hb2 (List.mem_cons_self) (List.mem_cons_of_mem _ List.mem_cons_self) hl hi hcs hu hd, ⟨x, by rw [hv], hs w' (St.dropAll (A := boxR b cs T :: boxR b2 [v2] T2 :: Ms2) (Ms := []) (by rw [List.append_nil]; exact h))⟩⟩) hD hK
end
/-! ### More operations -/
section
variable {P : Program} [Tab P] {f : FuncId} {R : Ending → World → Prop} {B : Base} {n : Fz} {K : List Item} {ops : Array Oper} {i : Nat} {l : List Nat} {σ : Nat → Value} {Γ : List Fact} {Ms : List Res}
variable {dst : Option Tmp} {ty : TypeId} {v : Value} {x y : Operand}
theorem pe_convU6 {s d : TypeId} {a : Nat} (hs : Tab.und P s = some (.int .u32)) (hd : Tab.und P d = some (.int .u64)) (hx : ev σ x = .int .u32 (a : Int)) (ha : a < 4294967296) : PureE P σ (.convert s d x) ty (.int .u64 (a : Int)) := by
  have e : IntKind.u64.wrap (a : Int) = (a : Int) := by
    have : IntKind.u64.wrap (a : Int) = (a : Int) % 18446744073709551616 := by simp [IntKind.wrap, IntKind.bits, IntKind.signed]
    rw [this]; omega
  have := pe_convert (P := P) (ty := ty) hs hd hx
  rwa [e] at this
theorem o_convU6 {s d : TypeId} {a : Nat} (k_ : RgT P f R B n K ops l (putS σ dst (.int .u64 (a : Int))) Γ Ms) (hx : ev σ x = .int .u32 (a : Int) := by exact wn_) (ha : a < 4294967296 := by first | assumption | omega) (hs : Tab.und P s = some (.int .u32) := by rfl) (hd' : Tab.und P d = some (.int .u64) := by rfl) (hd : dstOk n dst = true := by rfl) : OpT P f R B n K ops l (opr dst (.convert s d x) ty) σ Γ Ms := sq_pure (pe_convU6 hs hd' hx ha) hd k_
end
end Go.Hy
namespace Go.Hy
/-! ### Clauses, formulas -/
def meetC (c d : Cl) : Cl := ⟨c.pos ||| d.pos, c.neg ||| d.neg⟩
theorem below_meet (c d : Cl) : decide (meetC c d = c) = below c d := by
  obtain ⟨p, n⟩ := c
  obtain ⟨p', n'⟩ := d
  simp [meetC, below]
def orUpto (l : List Cl) (i : Nat) : Nat := (l.take i).foldl (fun a c => a ||| (c.pos ||| c.neg)) 0
theorem orUpto_succ {l : List Cl} {i : Nat} (h : i < l.length) : orUpto l (i + 1) = orUpto l i ||| ((l.getD i cl0).pos ||| (l.getD i cl0).neg) := by
  unfold orUpto; rw [take_succ_getD (d := cl0) h, List.foldl_append]; rfl
theorem orUpto_lt {l : List Cl} (h : ∀ c, c ∈ l → u32 c) : ∀ i, orUpto l i < 4294967296 := by
  intro i
  have : ∀ (m : List Cl) (a : Nat), (∀ c, c ∈ m → u32 c) → a < 4294967296 → m.foldl (fun a c => a ||| (c.pos ||| c.neg)) a < 4294967296 := by
    intro m
    induction m with
    | nil => intro a _ h; exact h
    | cons c m ih =>
      intro a hm ha
      have hc := hm c List.mem_cons_self
      exact ih _ (fun d hd => hm d (List.mem_cons_of_mem _ hd)) (Nat.or_lt_two_pow (n := 32) ha (Nat.or_lt_two_pow (n := 32) hc.1 hc.2))
  exact this _ 0 (fun c hc => h c (List.mem_of_mem_take hc)) (by omega)
theorem fDims_eq (l : List Cl) : fDims l = orUpto l l.length &&& 16777215 := by
  unfold fDims orUpto; rw [List.take_length]
theorem andNot_zero {s : Nat} (hs : s < 4294967296) : decide ((andNot32 s 16777215 : Int) = 0) = decide (s < 16777216) := by
  apply decide_eq_decide.mpr
  have h : andNot32 s 16777215 = s / 16777216 * 16777216 := by
    unfold andNot32
    have e : (BitVec.ofNat 32 s &&& ~~~ BitVec.ofNat 32 16777215).toNat = s / 16777216 * 16777216 := by
      apply Nat.eq_of_testBit_eq
      intro i
      rw [← BitVec.getLsbD, BitVec.getLsbD_and, BitVec.getLsbD_not, BitVec.getLsbD_ofNat, BitVec.getLsbD_ofNat]
      rw [show s / 16777216 * 16777216 = (s / 2 ^ 24) * 2 ^ 24 from rfl, Nat.testBit_mul_two_pow, Nat.testBit_div_two_pow]
      rw [show (16777215 : Nat) = 2 ^ 24 - 1 from rfl, Nat.testBit_two_pow_sub_one]
      by_cases h1 : i < 32
      · by_cases h2 : 24 ≤ i
        · simp [h1, h2, Nat.sub_add_cancel h2]
        · simp [h1, h2]; omega
      · have : s.testBit i = false := Nat.testBit_lt_two_pow (Nat.lt_of_lt_of_le hs (Nat.pow_le_pow_right (n := 2) (by omega) (show 32 ≤ i by omega)))
        have h2 : 24 ≤ i := by omega
        simp [h1, h2, Nat.sub_add_cancel h2, this]
    exact e
  omega
end Go.Hy
namespace Go.Hy
/-! ### Least -/
def idxP (g : Cl → Bool) (l : List Cl) : Int := if l.any g then (l.findIdx g : Int) else -1
theorem getD_get {α : Type} {d : α} {l : List α} {i : Nat} (h : i < l.length) : l.getD i d = l[i] := by
  rw [List.getD_eq_getElem?_getD, List.getElem?_eq_getElem h]; rfl
theorem idxP_at {g : Cl → Bool} {l : List Cl} {i : Nat} (h : i < l.length) (hg : g (l.getD i cl0) = true) (hb : ∀ j, j < i → g (l.getD j cl0) = false) : idxP g l = i := by
  have hany : l.any g = true := List.any_eq_true.mpr ⟨_, getD_mem h, hg⟩
  have hidx : l.findIdx g = i := by
    rw [List.findIdx_eq h]
    refine ⟨by rw [← getD_get (d := cl0) h]; exact hg, fun j hj => ?_⟩
    have := hb j hj
    rwa [getD_get (d := cl0) (by omega)] at this
  unfold idxP
  rw [hany, hidx]; rfl
theorem idxP_none {g : Cl → Bool} {l : List Cl} (hb : ∀ j, j < l.length → g (l.getD j cl0) = false) : idxP g l = -1 := by
  have hany : l.any g = false := by
    rw [List.any_eq_false]
    intro x hx
    obtain ⟨j, hj, e⟩ := List.mem_iff_getElem.mp hx
    have := hb j hj
    rw [getD_get (d := cl0) hj, e] at this
    simp [this]
  unfold idxP; rw [hany]; rfl
theorem idxP_nonneg (g : Cl → Bool) (l : List Cl) : decide (0 ≤ idxP g l) = l.any g := by
  unfold idxP
  cases l.any g
  · rfl
  · simp
/-- Each once, in the order of the first. -/
def once (l : List Cl) : List Cl := l.foldl (fun o c => if c ∈ o then o else o ++ [c]) []
theorem once_snoc (l : List Cl) (c : Cl) : once (l ++ [c]) = if c ∈ once l then once l else once l ++ [c] := by
  unfold once; rw [List.foldl_append]; rfl
theorem once_gen (c : Cl) : ∀ (l o : List Cl), (c ∈ l.foldl (fun o c => if c ∈ o then o else o ++ [c]) o ↔ c ∈ o ∨ c ∈ l) ∧ (l.foldl (fun o c => if c ∈ o then o else o ++ [c]) o).length ≤ o.length + l.length
  | [], o => by simp
  | d :: l, o => by
    have ih := once_gen c l (if d ∈ o then o else o ++ [d])
    rw [List.foldl_cons]
    constructor
    · rw [ih.1, List.mem_cons]
      split
      · rename_i h
        constructor
        · rintro (h2 | h2)
          · exact .inl h2
          · exact .inr (.inr h2)
        · rintro (h2 | h2 | h2)
          · exact .inl h2
          · exact .inl (h2 ▸ h)
          · exact .inr h2
      · rw [List.mem_append, List.mem_singleton, or_assoc]
    · have h3 := ih.2
      have h4 : (if d ∈ o then o else o ++ [d]).length ≤ o.length + 1 := by split <;> simp
      simp only [List.length_cons]; omega
theorem once_mem (c : Cl) (l : List Cl) : c ∈ once l ↔ c ∈ l := by
  have := (once_gen c l []).1
  simpa [once] using this
theorem once_len (l : List Cl) : (once l).length ≤ l.length := by
  have := (once_gen cl0 l []).2
  simpa [once] using this
/-- Is a clause needless in a list? -/
def needless (l : List Cl) (c : Cl) : Bool := l.any fun d => !decide (c = d) && below c d
def kept (l : List Cl) : List Cl := (once l).filter fun c => !needless (once l) c
/-- Sorted, and the same clauses. -/
def SortOf (l l' : List Cl) : Prop := l'.Perm l ∧ l'.Pairwise fun a b => lessC b a = false
/-- What clause.Least tells: an error's number, and the clauses. -/
def LeastIs (l : List Cl) (r : Int × List Cl) : Prop :=
  if l.all right24 = false then r = (2, []) else if 64 < (kept l).length then r = (3, []) else r.1 = 0 ∧ SortOf (kept l) r.2
end Go.Hy
namespace Go.Hy
theorem all_of {l : List Cl} {g : Cl → Bool} (h : ∀ j, j < l.length → g (l.getD j cl0) = true) : l.all g = true := by
  rw [List.all_eq_true]
  intro x hx
  obtain ⟨j, hj, e⟩ := List.mem_iff_getElem.mp hx
  have := h j hj
  rwa [getD_get (d := cl0) hj, e] at this
theorem all_not {l : List Cl} {g : Cl → Bool} {i : Nat} (hi : i < l.length) (h : g (l.getD i cl0) = false) : l.all g = false := by
  rw [List.all_eq_false]
  exact ⟨l.getD i cl0, getD_mem hi, by rw [h]; decide⟩
def keptUpto (l : List Cl) (i : Nat) : List Cl := ((once l).take i).filter fun c => !needless (once l) c
theorem keptUpto_succ {l : List Cl} {i : Nat} (h : i < (once l).length) : keptUpto l (i + 1) = if needless (once l) ((once l).getD i cl0) then keptUpto l i else keptUpto l i ++ [(once l).getD i cl0] := by
  unfold keptUpto
  rw [take_succ_getD (d := cl0) h, List.filter_append]
  cases hn : needless (once l) ((once l).getD i cl0)
  · rw [List.filter_cons_of_pos (by rw [hn]; rfl)]; simp
  · rw [List.filter_cons_of_neg (by rw [hn]; decide)]; simp
theorem keptUpto_all (l : List Cl) : keptUpto l (once l).length = kept l := by simp [keptUpto, kept]
theorem keptUpto_len (l : List Cl) (i : Nat) : (keptUpto l i).length ≤ l.length := by
  unfold keptUpto
  have h1 := List.length_filter_le (fun c => !needless (once l) c) ((once l).take i)
  have h2 := once_len l
  simp only [List.length_take] at h1
  omega
theorem once_take_succ {l : List Cl} {i : Nat} (h : i < l.length) : once (l.take (i + 1)) = if l.getD i cl0 ∈ once (l.take i) then once (l.take i) else once (l.take i) ++ [l.getD i cl0] := by
  rw [take_succ_getD (d := cl0) h, once_snoc]
theorem once_take_len (l : List Cl) (i : Nat) : (once (l.take i)).length ≤ l.length := by
  have := once_len (l.take i); simp only [List.length_take] at this; omega
theorem kept_mem {l : List Cl} {c : Cl} (h : c ∈ kept l) : c ∈ l := by
  unfold kept at h
  exact (once_mem c l).mp (List.mem_filter.mp h).1
end Go.Hy
namespace Go.Hy
/-! ### What Least tells of a formula that may be -/
theorem lessC_tri (a b : Cl) : lessC a b = true ∨ a = b ∨ lessC b a = true := by
  obtain ⟨p, n⟩ := a
  obtain ⟨p', n'⟩ := b
  simp only [lessC, Bool.or_eq_true, Bool.and_eq_true, decide_eq_true_eq, Cl.mk.injEq]
  omega
theorem lessC_asym {a b : Cl} (h : lessC a b = true) : lessC b a = false := by
  simp only [lessC, Bool.or_eq_true, Bool.and_eq_true, decide_eq_true_eq, Bool.or_eq_false_iff, Bool.and_eq_false_iff, decide_eq_false_iff_not] at *
  omega
theorem lessC_trans {a b c : Cl} (h : lessC a b = true) (h2 : lessC b c = true) : lessC a c = true := by
  simp only [lessC, Bool.or_eq_true, Bool.and_eq_true, decide_eq_true_eq] at *
  omega
theorem lessC_irr (a : Cl) : lessC a a = false := by simp [lessC]
theorem antis {a b : Cl} (h : lessC a b = false) (h2 : lessC b a = false) : a = b := by
  rcases lessC_tri a b with h3 | h3 | h3
  · rw [h] at h3; cases h3
  · exact h3
  · rw [h2] at h3; cases h3
/-- Two that are sorted, of the same clauses, are one. -/
theorem sorted_eq : ∀ {l m : List Cl}, l.Perm m → (l.Pairwise fun a b => lessC b a = false) → (m.Pairwise fun a b => lessC b a = false) → l = m
  | [], m, hp, _, _ => by have := hp.length_eq; cases m with | nil => rfl | cons _ _ => simp at this
  | a :: l, [], hp, _, _ => by have := hp.length_eq; simp at this
  | a :: l, b :: m, hp, h1, h2 => by
    rw [List.pairwise_cons] at h1 h2
    have ha : a ∈ b :: m := hp.mem_iff.mp List.mem_cons_self
    have hb : b ∈ a :: l := hp.mem_iff.mpr List.mem_cons_self
    have e : a = b := by
      rcases List.mem_cons.mp ha with h | h
      · exact h
      · rcases List.mem_cons.mp hb with h3 | h3
        · exact h3.symm
        · exact antis (h2.1 a h |> fun x => x) (h1.1 b h3) |> fun x => by exact x
    subst e
    rw [sorted_eq (List.Perm.cons_inv hp) h1.2 h2.2]
theorem sortedC_iff : ∀ {l : List Cl}, sortedC l = true ↔ l.Pairwise fun a b => lessC a b = true
  | [] => by simp [sortedC]
  | [a] => by simp [sortedC]
  | a :: b :: l => by
    rw [sortedC, Bool.and_eq_true, sortedC_iff (l := b :: l), List.pairwise_cons (a := a)]
    constructor
    · rintro ⟨h1, h2⟩
      refine ⟨fun c hc => ?_, h2⟩
      rcases List.mem_cons.mp hc with h | h
      · exact h ▸ h1
      · exact lessC_trans h1 ((List.pairwise_cons.mp h2).1 c h)
    · rintro ⟨h1, h2⟩
      exact ⟨h1 b List.mem_cons_self, h2⟩
theorem once_of_nodup {l : List Cl} (h : l.Pairwise fun a b => lessC a b = true) : once l = l := by
  have : ∀ (m o : List Cl), ((o ++ m).Pairwise fun a b => lessC a b = true) → m.foldl (fun o c => if c ∈ o then o else o ++ [c]) o = o ++ m := by
    intro m
    induction m with
    | nil => intro o _; simp
    | cons c m ih =>
      intro o h
      rw [List.foldl_cons]
      have hn : c ∉ o := by
        intro hc
        have := (List.pairwise_append.mp h).2.2 c hc c List.mem_cons_self
        rw [lessC_irr] at this; cases this
      rw [if_neg hn, ih (o ++ [c]) (by simpa using h)]
      simp
  have := this l [] (by simpa using h)
  simpa [once] using this
theorem apart_iff {l : List Cl} : apart l = true ↔ ∀ a, a ∈ l → ∀ b, b ∈ l → a = b ∨ below a b = false := by
  unfold apart
  simp only [List.all_eq_true, Bool.or_eq_true, decide_eq_true_eq, Bool.not_eq_true']
theorem needless_iff {l : List Cl} {c : Cl} : needless l c = false ↔ ∀ d, d ∈ l → c = d ∨ below c d = false := by
  unfold needless
  rw [List.any_eq_false]
  constructor
  · intro h d hd
    have := h d hd
    simp only [Bool.and_eq_true, Bool.not_eq_true', decide_eq_false_iff_not, not_and, Bool.not_eq_true] at this
    by_cases e : c = d
    · exact .inl e
    · exact .inr (this e)
  · intro h d hd
    simp only [Bool.and_eq_true, Bool.not_eq_true', decide_eq_false_iff_not, not_and, Bool.not_eq_true]
    intro e
    exact (h d hd).resolve_left e
theorem least_right {l : List Cl} {r : Int × List Cl} (h : LeastIs l r) : (decide (r.1 = 0) && decide (r.2 = l)) = fRight l := by
  rw [Bool.eq_iff_iff, Bool.and_eq_true, decide_eq_true_eq, decide_eq_true_eq]
  unfold LeastIs at h
  constructor
  · rintro ⟨h1, h2⟩
    split at h
    · rw [h] at h1; cases h1
    · rename_i hr
      split at h
      · rw [h] at h1; cases h1
      · rename_i h64
        obtain ⟨_, hp, hs⟩ := h
        rw [h2] at hp hs
        have hr' : l.all right24 = true := by simpa using hr
        have hlen := hp.length_eq
        have hk1 : (kept l).length ≤ (once l).length := by unfold kept; exact List.length_filter_le _ _
        have ho := once_len l
        have hkeep : kept l = once l := by
          have : (kept l).Sublist (once l) := by unfold kept; exact List.filter_sublist
          exact this.eq_of_length (by omega)
        have hnd : ∀ c, c ∈ l → needless (once l) c = false := by
          intro c hc
          have : c ∈ kept l := hp.mem_iff.mp hc
          unfold kept at this
          have := (List.mem_filter.mp this).2
          simpa using this
        have hap : apart l = true := apart_iff.mpr fun a ha b hb => needless_iff.mp (hnd a ha) b ((once_mem b l).mpr hb)
        have hnodup : (once l).Nodup := by
          have : ∀ (m o : List Cl), o.Nodup → (m.foldl (fun o c => if c ∈ o then o else o ++ [c]) o).Nodup := by
            intro m
            induction m with
            | nil => intro o h; exact h
            | cons c m ih =>
              intro o h
              rw [List.foldl_cons]
              apply ih
              split
              · exact h
              · rename_i hn
                rw [List.nodup_append]
                refine ⟨h, by simp, ?_⟩
                intro a ha b hb e
                rw [List.mem_singleton] at hb
                exact hn (hb ▸ e ▸ ha)
          exact this l [] List.nodup_nil
        have hln : l.Nodup := (hp.nodup_iff).mpr (hkeep ▸ hnodup)
        have hst : sortedC l = true := by
          rw [sortedC_iff]
          have hboth : l.Pairwise fun a b => lessC b a = false ∧ a ≠ b := hs.and hln
          exact hboth.imp fun {a b} ⟨h3, h4⟩ => by
            rcases lessC_tri a b with h5 | h5 | h5
            · exact h5
            · exact absurd h5 h4
            · rw [h3] at h5; cases h5
        unfold fRight
        rw [hr', hst, hap]
        simp; omega
  · intro hf
    unfold fRight at hf
    simp only [Bool.and_eq_true, decide_eq_true_eq] at hf
    obtain ⟨⟨⟨hr, hs⟩, ha⟩, h64⟩ := hf
    have hs' := sortedC_iff.mp hs
    have ho := once_of_nodup hs'
    have hk : kept l = l := by
      unfold kept
      rw [ho, List.filter_eq_self]
      intro c hc
      have : needless l c = false := needless_iff.mpr fun d hd => apart_iff.mp ha c hc d hd
      simp [this]
    rw [hr, if_neg (by decide), hk, if_neg (by omega)] at h
    exact ⟨h.1, sorted_eq h.2.1 h.2.2 (hs'.imp fun h => lessC_asym h)⟩
end Go.Hy
namespace Go.Hy
/-! ### Sets of dimensions as bits of a number, by the document's definitions -/
def hasM (s : Nat) (i : Int) : Bool := decide (0 ≤ i) && decide (i < 24) && s.testBit i.toNat
theorem hasM_eq (s : Nat) (i : Int) : hasM s i = (decide (0 ≤ i) && decide (i < 24) && decide (s / 2 ^ i.toNat % 2 = 1)) := by
  unfold hasM; rw [Nat.testBit_eq_decide_div_mod_eq]
/-- The dimensions of a set below a number, rising. -/
def listTo (s n : Nat) : List Int := ((List.range n).filter s.testBit).map fun (i : Nat) => (i : Int)
abbrev listM (s : Nat) : List Int := listTo s 24
theorem listTo_succ (s n : Nat) : listTo s (n + 1) = if s.testBit n then listTo s n ++ [(n : Int)] else listTo s n := by
  unfold listTo
  rw [List.range_succ, List.filter_append]
  cases h : s.testBit n <;> simp [h]
theorem listTo_in {s n : Nat} {x : Int} (h : x ∈ listTo s n) : 0 ≤ x ∧ x < n := by
  unfold listTo at h
  simp only [List.mem_map, List.mem_filter, List.mem_range] at h
  obtain ⟨i, ⟨h1, _⟩, rfl⟩ := h
  omega
theorem listTo_mem {s n : Nat} {x : Int} : x ∈ listTo s n ↔ 0 ≤ x ∧ x < n ∧ s.testBit x.toNat = true := by
  unfold listTo
  simp only [List.mem_map, List.mem_filter, List.mem_range]
  constructor
  · rintro ⟨i, ⟨h1, h2⟩, rfl⟩; exact ⟨by omega, by omega, by simpa using h2⟩
  · rintro ⟨h1, h2, h3⟩; exact ⟨x.toNat, ⟨by omega, h3⟩, by omega⟩
theorem listTo_len (s n : Nat) : (listTo s n).length ≤ n := by
  unfold listTo
  rw [List.length_map]
  have := List.length_filter_le s.testBit (List.range n)
  simpa using this
/-- The set of dimensions. -/
def setM (l : List Int) : Nat := (l.map fun x => 2 ^ x.toNat).sum
def setTo (l : List Int) (i : Nat) : Nat := setM (l.take i)
theorem setTo_zero (l : List Int) : setTo l 0 = 0 := by simp [setTo, setM]
theorem setTo_all (l : List Int) : setTo l l.length = setM l := by simp [setTo]
theorem setTo_succ {l : List Int} {i : Nat} (h : i < l.length) : setTo l (i + 1) = setTo l i + 2 ^ (l.getD i 0).toNat := by
  unfold setTo setM; rw [take_succ_getD (d := 0) h, List.map_append, List.sum_append]; simp
theorem setM_le {l : List Int} (h : ∀ x, x ∈ l → 0 ≤ x ∧ x < 24) : setM l ≤ l.length * 8388608 := by
  unfold setM
  induction l with
  | nil => simp
  | cons a l ih =>
    have h1 := ih (fun x hx => h x (List.mem_cons_of_mem _ hx))
    have h2 := h a List.mem_cons_self
    have h3 : 2 ^ a.toNat ≤ 8388608 := Nat.pow_le_pow_right (n := 2) (j := 23) (by omega) (by omega)
    simp only [List.map_cons, List.sum_cons, List.length_cons]
    generalize 2 ^ a.toNat = q at *
    omega
theorem setTo_le {l : List Int} (h : ∀ x, x ∈ l → 0 ≤ x ∧ x < 24) (i : Nat) : setTo l i ≤ l.length * 8388608 := by
  have h1 := setM_le (l := l.take i) (fun x hx => h x (List.mem_of_mem_take hx))
  have h2 : (l.take i).length ≤ l.length := by simp; omega
  exact Nat.le_trans h1 (Nat.mul_le_mul_right 8388608 h2)
theorem setM_listTo (s : Nat) : ∀ n, setM (listTo s n) = s % 2 ^ n
  | 0 => by
    have h : listTo s 0 = [] := by unfold listTo; rw [List.range_zero, List.filter_nil, List.map_nil]
    rw [h, Nat.pow_zero, Nat.mod_one, setM, List.map_nil, List.sum_nil]
  | n + 1 => by
    rw [listTo_succ, Nat.mod_pow_succ]
    have ih := setM_listTo s n
    have hb := Nat.testBit_eq_decide_div_mod_eq (x := s) (i := n)
    by_cases h : s / 2 ^ n % 2 = 1
    · rw [hb, decide_eq_true h, if_pos rfl, h]
      have e : setM (listTo s n ++ [(n : Int)]) = setM (listTo s n) + 2 ^ n := by simp [setM]
      rw [e, ih, Nat.mul_one]
    · have h0 : s / 2 ^ n % 2 = 0 := by omega
      rw [hb, decide_eq_false h, if_neg (by simp), h0, ih]; simp
theorem and24 (s : Nat) : s &&& 16777215 = s % 2 ^ 24 := by
  rw [show (16777215 : Nat) = 2 ^ 24 - 1 from rfl, Nat.and_two_pow_sub_one_eq_mod]
theorem setM_listM (s : Nat) : setM (listM s) = s &&& 16777215 := by rw [setM_listTo, and24]
end Go.Hy
namespace Go.Hy
/-! ### The document's clauses and formulas -/
theorem succ_inv {p : Nat → Prop} {i : Nat} (h : ∀ j, j < i → p j) (hi : p i) : ∀ j, j < i + 1 → p j := fun j hj => by
  rcases Nat.lt_succ_iff_lt_or_eq.mp hj with h2 | h2
  · exact h j h2
  · exact h2 ▸ hi
theorem any_false_of {α : Type} {d : α} {l : List α} {g : α → Bool} (h : ∀ j, j < l.length → g (l.getD j d) = false) : l.any g = false := by
  rw [List.any_eq_false]
  intro x hx
  obtain ⟨j, hj, e⟩ := List.mem_iff_getElem.mp hx
  have := h j hj
  rw [getD_get (d := d) hj, e] at this
  simp [this]
theorem any_true_at {α : Type} {d : α} {l : List α} {g : α → Bool} {i : Nat} (hi : i < l.length) (h : g (l.getD i d) = true) : l.any g = true := List.any_eq_true.mpr ⟨_, getD_mem hi, h⟩
theorem all_true_of {α : Type} {d : α} {l : List α} {g : α → Bool} (h : ∀ j, j < l.length → g (l.getD j d) = true) : l.all g = true := by
  rw [List.all_eq_true]
  intro x hx
  obtain ⟨j, hj, e⟩ := List.mem_iff_getElem.mp hx
  have := h j hj
  rwa [getD_get (d := d) hj, e] at this
theorem all_false_at {α : Type} {d : α} {l : List α} {g : α → Bool} {i : Nat} (hi : i < l.length) (h : g (l.getD i d) = false) : l.all g = false := by
  rw [List.all_eq_false]
  exact ⟨l.getD i d, getD_mem hi, by rw [h]; decide⟩
def rclash (c : Cl) : Bool := (List.range 24).any fun i => hasM c.pos (i : Int) && hasM c.neg (i : Int)
theorem rclash_eq {c : Cl} (h : right24 c = true) : rclash c = clash c := by
  simp only [right24, Bool.and_eq_true, decide_eq_true_eq] at h
  rw [Bool.eq_iff_iff]
  unfold rclash clash
  rw [List.any_eq_true, decide_eq_true_eq]
  constructor
  · rintro ⟨i, hi, hb⟩ h0
    simp only [hasM, Bool.and_eq_true, decide_eq_true_eq, Int.toNat_natCast] at hb
    have := congrArg (fun n => Nat.testBit n i) h0
    simp only [Nat.testBit_and, Nat.zero_testBit] at this
    rw [hb.1.2, hb.2.2] at this
    cases this
  · intro h0
    obtain ⟨i, hi⟩ : ∃ i, (c.pos &&& c.neg).testBit i = true := by
      apply Classical.byContradiction
      intro hn
      exact h0 (Nat.eq_of_testBit_eq fun i => by
        rw [Nat.zero_testBit]
        cases hb : (c.pos &&& c.neg).testBit i
        · rfl
        · exact absurd ⟨i, hb⟩ hn)
    rw [Nat.testBit_and, Bool.and_eq_true] at hi
    have hlt : i < 24 := by
      apply Classical.byContradiction
      intro hge
      have : c.pos.testBit i = false := Nat.testBit_lt_two_pow (Nat.lt_of_lt_of_le h.1 (Nat.pow_le_pow_right (n := 2) (by omega) (show 24 ≤ i by omega)))
      rw [this] at hi; cases hi.1
    exact ⟨i, List.mem_range.mpr hlt, by simp [hasM, hi.1, hi.2]; omega⟩
/-! A clause is put in its place. -/
def insC (c : Cl) : List Cl → List Cl
  | [] => [c]
  | d :: l => if lessC d c then d :: insC c l else if d = c then d :: l else c :: d :: l
def rl (l : List Cl) (m : List Cl) : List Cl := m.foldl (fun o c => if needless l c then o else insC c o) []
def rlTo (l : List Cl) (i : Nat) : List Cl := rl l (l.take i)
abbrev refLeast (l : List Cl) : List Cl := rl l l
theorem rlTo_zero (l : List Cl) : rlTo l 0 = [] := by simp [rlTo, rl]
theorem rlTo_all (l : List Cl) : rlTo l l.length = refLeast l := by simp [rlTo]
theorem rlTo_succ {l : List Cl} {i : Nat} (h : i < l.length) : rlTo l (i + 1) = if needless l (l.getD i cl0) then rlTo l i else insC (l.getD i cl0) (rlTo l i) := by
  unfold rlTo rl; rw [take_succ_getD (d := cl0) h, List.foldl_append]; rfl
theorem insC_mem {c x : Cl} : ∀ {l : List Cl}, x ∈ insC c l ↔ x = c ∨ x ∈ l
  | [] => by simp [insC]
  | d :: l => by
    unfold insC
    split
    · rw [List.mem_cons, insC_mem (l := l), List.mem_cons]
      constructor
      · rintro (h | h | h)
        · exact .inr (.inl h)
        · exact .inl h
        · exact .inr (.inr h)
      · rintro (h | h | h)
        · exact .inr (.inl h)
        · exact .inl h
        · exact .inr (.inr h)
    · split
      · rename_i h
        subst h
        simp
      · simp
theorem insC_len (c : Cl) : ∀ l : List Cl, (insC c l).length ≤ l.length + 1
  | [] => by simp [insC]
  | d :: l => by
    unfold insC
    have := insC_len c l
    split
    · simp; omega
    · split <;> simp
theorem insC_sorted {c : Cl} : ∀ {l : List Cl}, (l.Pairwise fun a b => lessC a b = true) → (insC c l).Pairwise fun a b => lessC a b = true
  | [], _ => by simp [insC]
  | d :: l, h => by
    rw [List.pairwise_cons] at h
    unfold insC
    split
    · rename_i hd
      rw [List.pairwise_cons]
      refine ⟨fun x hx => ?_, insC_sorted h.2⟩
      rcases insC_mem.mp hx with e | e
      · exact e ▸ hd
      · exact h.1 x e
    · rename_i hd
      split
      · exact List.pairwise_cons.mpr h
      · rename_i hne
        have hcd : lessC c d = true := by
          rcases lessC_tri c d with h3 | h3 | h3
          · exact h3
          · exact absurd h3.symm hne
          · exact absurd h3 hd
        rw [List.pairwise_cons]
        refine ⟨fun x hx => ?_, List.pairwise_cons.mpr h⟩
        rcases List.mem_cons.mp hx with e | e
        · exact e ▸ hcd
        · exact lessC_trans hcd (h.1 x e)
theorem rl_sorted (l : List Cl) : ∀ (m o : List Cl), (o.Pairwise fun a b => lessC a b = true) → (m.foldl (fun o c => if needless l c then o else insC c o) o).Pairwise fun a b => lessC a b = true
  | [], o, h => h
  | c :: m, o, h => by
    rw [List.foldl_cons]
    apply rl_sorted l m
    split
    · exact h
    · exact insC_sorted h
theorem rl_mem (l : List Cl) (x : Cl) : ∀ (m o : List Cl), x ∈ m.foldl (fun o c => if needless l c then o else insC c o) o ↔ x ∈ o ∨ (x ∈ m ∧ needless l x = false)
  | [], o => by simp
  | c :: m, o => by
    rw [List.foldl_cons, rl_mem l x m]
    by_cases hn : needless l c = true
    · rw [if_pos hn, List.mem_cons]
      constructor
      · rintro (h | ⟨h, h2⟩)
        · exact .inl h
        · exact .inr ⟨.inr h, h2⟩
      · rintro (h | ⟨h | h, h2⟩)
        · exact .inl h
        · subst h; rw [hn] at h2; cases h2
        · exact .inr ⟨h, h2⟩
    · rw [if_neg hn, insC_mem, List.mem_cons]
      constructor
      · rintro ((h | h) | ⟨h, h2⟩)
        · subst h; exact .inr ⟨.inl rfl, by simpa using hn⟩
        · exact .inl h
        · exact .inr ⟨.inr h, h2⟩
      · rintro (h | ⟨h | h, h2⟩)
        · exact .inl (.inr h)
        · exact .inl (.inl h)
        · exact .inr ⟨h, h2⟩
theorem refLeast_mem {l : List Cl} {x : Cl} : x ∈ refLeast l ↔ x ∈ l ∧ needless l x = false := by
  have := rl_mem l x l []
  simpa [refLeast, rl] using this
theorem refLeast_sorted (l : List Cl) : (refLeast l).Pairwise fun a b => lessC a b = true := rl_sorted l l [] List.Pairwise.nil
theorem rlTo_len (l : List Cl) (i : Nat) : (rlTo l i).length ≤ i := by
  have : ∀ (m o : List Cl), (m.foldl (fun o c => if needless l c then o else insC c o) o).length ≤ o.length + m.length := by
    intro m
    induction m with
    | nil => intro o; simp
    | cons c m ih =>
      intro o
      rw [List.foldl_cons]
      have h1 := ih (if needless l c then o else insC c o)
      have h2 : (if needless l c = true then o else insC c o).length ≤ o.length + 1 := by
        split
        · omega
        · exact insC_len c o
      simp only [List.length_cons]; omega
  have := this (l.take i) []
  unfold rlTo rl
  simp at this ⊢
  omega
theorem rlTo_in {l : List Cl} {i : Nat} {c : Cl} (h : c ∈ rlTo l i) : c ∈ l := by
  have := (rl_mem l c (l.take i) []).mp h
  rcases this with h | h
  · cases h
  · exact List.mem_of_mem_take h.1
theorem strict_ext : ∀ {l m : List Cl}, (l.Pairwise fun a b => lessC a b = true) → (m.Pairwise fun a b => lessC a b = true) → (∀ x, x ∈ l ↔ x ∈ m) → l = m
  | [], [], _, _, _ => rfl
  | [], b :: m, _, _, h => by have := (h b).mpr List.mem_cons_self; cases this
  | a :: l, [], _, _, h => by have := (h a).mp List.mem_cons_self; cases this
  | a :: l, b :: m, h1, h2, h => by
    rw [List.pairwise_cons] at h1 h2
    have e : a = b := by
      rcases List.mem_cons.mp ((h a).mp List.mem_cons_self) with h3 | h3
      · exact h3
      · rcases List.mem_cons.mp ((h b).mpr List.mem_cons_self) with h4 | h4
        · exact h4.symm
        · have h5 := h2.1 a h3
          have h6 := h1.1 b h4
          rw [lessC_asym h5] at h6; cases h6
    subst e
    congr 1
    apply strict_ext h1.2 h2.2
    intro x
    have hx := h x
    rw [List.mem_cons, List.mem_cons] at hx
    constructor
    · intro h3
      rcases hx.mp (.inr h3) with h4 | h4
      · subst h4; have := h1.1 x h3; rw [lessC_irr] at this; cases this
      · exact h4
    · intro h3
      rcases hx.mpr (.inr h3) with h4 | h4
      · subst h4; have := h2.1 x h3; rw [lessC_irr] at this; cases this
      · exact h4
theorem needless_once (l : List Cl) (c : Cl) : needless (once l) c = needless l c := by
  unfold needless
  rw [Bool.eq_iff_iff, List.any_eq_true, List.any_eq_true]
  constructor
  · rintro ⟨d, h1, h2⟩; exact ⟨d, (once_mem d l).mp h1, h2⟩
  · rintro ⟨d, h1, h2⟩; exact ⟨d, (once_mem d l).mpr h1, h2⟩
theorem once_nodup (l : List Cl) : (once l).Nodup := by
  have : ∀ (m o : List Cl), o.Nodup → (m.foldl (fun o c => if c ∈ o then o else o ++ [c]) o).Nodup := by
    intro m
    induction m with
    | nil => intro o h; exact h
    | cons c m ih =>
      intro o h
      rw [List.foldl_cons]
      apply ih
      split
      · exact h
      · rename_i hn
        rw [List.nodup_append]
        refine ⟨h, by simp, ?_⟩
        intro a ha b hb e
        rw [List.mem_singleton] at hb
        exact hn (hb ▸ e ▸ ha)
  exact this l [] List.nodup_nil
theorem sortOf_ex (l : List Cl) : ∃ m, SortOf l m := by
  refine ⟨l.mergeSort (fun a b => !lessC b a), List.mergeSort_perm _ _, ?_⟩
  have := List.pairwise_mergeSort (le := fun a b => !lessC b a) (fun a b c h1 h2 => by
    simp only [Bool.not_eq_true'] at *
    simp only [lessC, Bool.or_eq_false_iff, Bool.and_eq_false_iff, decide_eq_false_iff_not] at *
    omega) (fun a b => by
    rcases lessC_tri a b with h | h | h
    · simp [lessC_asym h]
    · subst h; simp [lessC_irr]
    · simp [lessC_asym h]) l
  exact this.imp fun h => by simpa using h
theorem sortOf_eq {l m : List Cl} (h : SortOf (kept l) m) : m = refLeast l := by
  have hnd : m.Nodup := (h.1.nodup_iff).mpr (by unfold kept; exact (once_nodup l).filter _)
  have hb : m.Pairwise fun a b => lessC b a = false ∧ a ≠ b := h.2.and hnd
  refine strict_ext ?_ (refLeast_sorted l) (fun x => ?_)
  · exact hb.imp fun {a b} ⟨h3, h4⟩ => by
      rcases lessC_tri a b with h5 | h5 | h5
      · exact h5
      · exact absurd h5 h4
      · rw [h3] at h5; cases h5
  · rw [h.1.mem_iff, refLeast_mem]
    unfold kept
    rw [List.mem_filter, once_mem, needless_once]
    simp
/-- What Least tells: an error's number, and the clauses. -/
def leastF (l : List Cl) : Int × List Cl := if l.all right24 = false then (2, []) else if 64 < (refLeast l).length then (3, []) else (0, refLeast l)
theorem leastIs_eq {l : List Cl} {r : Int × List Cl} (h : LeastIs l r) : r = leastF l := by
  unfold LeastIs at h
  unfold leastF
  by_cases h1 : l.all right24 = false
  · rw [if_pos h1] at h ⊢; exact h
  · rw [if_neg h1] at h ⊢
    by_cases h2 : 64 < (kept l).length
    · have h3 : (kept l).length = (refLeast l).length := by
        obtain ⟨m, hm⟩ := sortOf_ex (kept l)
        rw [← hm.1.length_eq, sortOf_eq hm]
      rw [if_pos h2] at h
      rw [if_pos (by omega)]; exact h
    · rw [if_neg h2] at h
      have e := sortOf_eq h.2
      have h3 : (kept l).length = (refLeast l).length := by rw [← h.2.1.length_eq, e]
      rw [if_neg (by omega)]
      exact Prod.ext h.1 e
theorem leastF_right (l : List Cl) : (decide ((leastF l).1 = 0) && decide ((leastF l).2 = l)) = fRight l := by
  obtain ⟨r, hr⟩ : ∃ r, LeastIs l r := by
    unfold LeastIs
    by_cases h1 : l.all right24 = false
    · exact ⟨_, by rw [if_pos h1]⟩
    · by_cases h2 : 64 < (kept l).length
      · exact ⟨_, by rw [if_neg h1, if_pos h2]⟩
      · obtain ⟨m, hm⟩ := sortOf_ex (kept l)
        exact ⟨(0, m), by rw [if_neg h1, if_neg h2]; exact ⟨rfl, hm⟩⟩
  rw [← leastIs_eq hr]
  exact least_right hr
/-- A clause in its place, by the place. -/
theorem insC_at {c : Cl} : ∀ {l : List Cl} {k : Nat}, k ≤ l.length → (∀ j, j < k → lessC (l.getD j cl0) c = true) → (k < l.length → lessC (l.getD k cl0) c = false) → insC c l = if k < l.length ∧ l.getD k cl0 = c then l else l.take k ++ [c] ++ l.drop k
  | [], k, hk, h1, h2 => by simp at hk; subst hk; simp [insC]
  | d :: l, 0, hk, h1, h2 => by
    have h := h2 (by simp)
    simp only [List.getD_cons_zero] at h
    unfold insC
    rw [h, if_neg (by decide)]
    simp
  | d :: l, k + 1, hk, h1, h2 => by
    have h := h1 0 (by omega)
    simp only [List.getD_cons_zero] at h
    unfold insC
    rw [if_pos h, insC_at (l := l) (k := k) (by simpa using hk) (fun j hj => by simpa using h1 (j + 1) (by omega)) (fun hlt => by simpa using h2 (by simpa using hlt))]
    simp only [List.length_cons, List.getD_cons_succ, List.take_succ_cons, List.drop_succ_cons, List.cons_append, Nat.add_lt_add_iff_right]
    split <;> rfl
end Go.Hy
namespace Go.Hy
/-! ### How great a term is: nodes, clauses, bytes -/
def bulkG (t : T) (ks : List Nat) (bs : List (List Nat)) : Nat := 1 + t.r.length + t.name.size + ks.sum + ((t.sys.zip bs).map fun p => 1 + p.1.face.length + p.2.sum).sum
def bulk : T → Nat := tf bulkG
def brBulk (b : Br) : Nat := 1 + b.face.length + (b.kids.map bulk).sum
theorem bulk_eq (t : T) : bulk t = 1 + t.r.length + t.name.size + (t.kids.map bulk).sum + (t.sys.map brBulk).sum := by
  conv => lhs; rw [bulk, tf_eq]
  unfold bulkG
  congr 2
  generalize t.sys = l
  induction l with
  | nil => rfl
  | cons b l ih => simp only [List.map_cons, List.zip_cons_cons, List.map_cons]; rw [ih]; rfl
def bK (t : T) (i : Nat) : Nat := 1 + t.r.length + t.name.size + ((t.kids.take i).map bulk).sum
def bS (t : T) (i : Nat) : Nat := bK t t.kids.length + ((t.sys.take i).map brBulk).sum
def bJ (t : T) (i j : Nat) : Nat := bS t i + 1 + (t.sys.getD i br0).face.length + (((t.sys.getD i br0).kids.take j).map bulk).sum
theorem sum_take_succ {α : Type} (f : α → Nat) {l : List α} {i : Nat} {d : α} (h : i < l.length) : ((l.take (i + 1)).map f).sum = ((l.take i).map f).sum + f (l.getD i d) := by
  rw [take_succ_getD (d := d) h, List.map_append, List.sum_append]; simp
theorem sum_take_le {α : Type} (f : α → Nat) : ∀ (l : List α) (i : Nat), ((l.take i).map f).sum ≤ (l.map f).sum
  | [], i => by simp
  | a :: l, 0 => by simp
  | a :: l, i + 1 => by have := sum_take_le f l i; simp only [List.take_succ_cons, List.map_cons, List.sum_cons]; omega
theorem bK_zero (t : T) : bK t 0 = 1 + t.r.length + t.name.size := by simp [bK]
theorem bK_succ {t : T} {i : Nat} (h : i < t.kids.length) : bK t (i + 1) = bK t i + bulk (t.kids.getD i t0) := by
  unfold bK; rw [sum_take_succ bulk h (d := t0)]; omega
theorem bS_zero (t : T) : bS t 0 = bK t t.kids.length := by simp [bS]
theorem bJ_zero (t : T) (i : Nat) : bJ t i 0 = bS t i + 1 + (t.sys.getD i br0).face.length := by simp [bJ]
theorem bJ_succ {t : T} {i j : Nat} (h : j < (t.sys.getD i br0).kids.length) : bJ t i (j + 1) = bJ t i j + bulk ((t.sys.getD i br0).kids.getD j t0) := by
  unfold bJ; rw [sum_take_succ bulk h (d := t0)]; omega
theorem bS_succ {t : T} {i : Nat} (h : i < t.sys.length) : bS t (i + 1) = bJ t i (t.sys.getD i br0).kids.length := by
  unfold bS bJ bS; rw [sum_take_succ brBulk h (d := br0), List.take_length]; unfold brBulk; omega
theorem bS_all (t : T) : bS t t.sys.length = bulk t := by
  rw [bulk_eq]; unfold bS bK; rw [List.take_length, List.take_length]
theorem bS_le (t : T) (i : Nat) : bS t i ≤ bulk t := by
  rw [bulk_eq]; unfold bS bK; rw [List.take_length]; have := sum_take_le brBulk t.sys i; omega
theorem bK_le (t : T) (i : Nat) : bK t i ≤ bulk t := by
  rw [bulk_eq]; unfold bK; have := sum_take_le bulk t.kids i; omega
theorem bJ_le {t : T} {i j : Nat} (h : i < t.sys.length) : bJ t i j ≤ bulk t := by
  have h1 := bS_le t (i + 1)
  rw [bS_succ h] at h1
  unfold bJ at h1 ⊢
  rw [List.take_length] at h1
  have := sum_take_le bulk (t.sys.getD i br0).kids j
  omega
/-- What a count has come to, as far as 'most'. -/
def BulkIs (t : T) (part : Nat) (most n : Int) : Prop := 0 ≤ n ∧ n ≤ 2 * most + 1 ∧ ((n ≤ most ∧ n = part) ∨ (most < n ∧ most < bulk t))
theorem size_le_bulk : ∀ t, size t ≤ bulk t := T.ind fun t ih => by
  have hk : ∀ (F G : T → Nat) (l : List T), (∀ k, k ∈ l → F k ≤ G k) → (l.map F).sum ≤ (l.map G).sum := by
    intro F G l
    induction l with
    | nil => intro _; simp
    | cons a l ih => intro h; have := ih (fun k hk => h k (List.mem_cons_of_mem _ hk)); have := h a List.mem_cons_self; simp only [List.map_cons, List.sum_cons]; omega
  have e : size t = 1 + ((parts t).map fun p => size p.1).sum := by
    rw [size_eq]
    have : ∀ (l : List Part) (a : Nat), l.foldl (fun a p => a + size p.1) a = a + (l.map fun p => size p.1).sum := by
      intro l
      induction l with
      | nil => intro a; simp
      | cons b l ih => intro a; rw [List.foldl_cons, ih]; simp; omega
    exact this _ _
  rw [e, parts_map, bulk_eq, List.sum_append]
  have h1 := hk size bulk t.kids (fun k hk => by obtain ⟨p, hp, e⟩ := kid_mem_parts hk; exact e ▸ ih p hp)
  have h2 : ((t.sys.map fun b => b.kids.map size).flatten).sum ≤ (t.sys.map brBulk).sum := by
    have : ∀ (l : List Br), (∀ b, b ∈ l → b ∈ t.sys) → ((l.map fun b => b.kids.map size).flatten).sum ≤ (l.map brBulk).sum := by
      intro l
      induction l with
      | nil => intro _; simp
      | cons b l ih2 =>
        intro h
        have h3 := ih2 (fun b hb => h b (List.mem_cons_of_mem _ hb))
        have h4 := hk size bulk b.kids (fun k hk => by obtain ⟨p, hp, e⟩ := sys_mem_parts (h b List.mem_cons_self) hk; exact e ▸ ih p hp)
        simp only [List.map_cons, List.flatten_cons, List.sum_append, List.sum_cons]
        have hb : brBulk b = 1 + b.face.length + (b.kids.map bulk).sum := rfl
        rw [hb]
        omega
    exact this t.sys (fun _ h => h)
  omega
end Go.Hy
