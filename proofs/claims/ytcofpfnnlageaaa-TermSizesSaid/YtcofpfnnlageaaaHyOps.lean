/- What each operation does, as a rule. -/
import Derived.Test.YtcofpfnnlageaaaHyFacts
import Derived.Laws.Entries
import Derived.Laws.Tables
import Derived.Laws.OwnMore
import Derived.Laws.StructEq
import Derived.Laws.Cells
import Derived.Laws.BitsLemmas
import Derived.Maps.AppendAt
import Derived.Tactics
set_option linter.unusedVariables false
set_option linter.unusedSectionVars false
namespace Go.Hy
set_option linter.unusedVariables false
set_option linter.unusedSimpArgs false
set_option linter.unusedSectionVars false

/-! ### What is asked of the program's tables -/
class Tab (P : Program) where
  und : TypeId → Option TypeDesc
  und_ok : ∀ t d, und t = some d → P.underlying t = some d
  inf : TypeId → Option (Nat × Nat × Value)
  inf_ok : ∀ t s b z, inf t = some (s, b, z) → ∃ i, P.info? t = some i ∧ i.size = s ∧ i.bytes = b ∧ i.zero = some z
  /-- where a struct's field lies -/
  foff : TypeId → Nat → Option Nat
  foff_ok : ∀ t j o, foff t j = some o → ∃ fs fl i, P.underlying t = some (.struct fs) ∧ fs[j]? = some fl ∧ fl.offset = o ∧ P.info? fl.type = some i ∧ i.size ≠ 0
  /-- a struct's fields: place and size -/
  lay : TypeId → Option (List (Nat × Nat))
  lay_ok : ∀ t l, lay t = some l → ∃ fs, P.underlying t = some (.struct fs) ∧ fs.toList.mapM (fun f => (P.info? f.type).map fun i => (f.offset, i.size)) = some l
  mixed : P.follows .mixedOrders = true
  /-- the type of clauses: what '==' tells of two -/
  ceq : TypeId
  ceq_ok : ∀ (a b c d : Int) (w : World), (Op.equalIn 10000 ceq (.agg #[.int .u32 a, .int .u32 b]) (.agg #[.int .u32 c, .int .u32 d])).run P w = .ok (a == c && b == d) w
  ceqG : P.eqGuardType P.depth ceq = false

section
variable {P : Program} [Tab P]
theorem run_und0 {t : TypeId} {d : TypeDesc} (h : Tab.und P t = some d) (w : World) : (underlying t).run P w = .ok d w := run_underlying (Tab.und_ok t d h) w
theorem run_size0 {t : TypeId} {s b : Nat} {z : Value} (h : Tab.inf P t = some (s, b, z)) (w : World) : (sizeOf t).run P w = .ok s w := by
  obtain ⟨i, h1, h2, h3, h4⟩ := Tab.inf_ok t s b z h
  simp [sizeOf, typeInfo, h1, h2]
theorem run_zero0 {t : TypeId} {s b : Nat} {z : Value} (h : Tab.inf P t = some (s, b, z)) (w : World) : (zeroValue t).run P w = .ok z w := by
  obtain ⟨i, h1, h2, h3, h4⟩ := Tab.inf_ok t s b z h
  simp [zeroValue, typeInfo, h1, h4]
end

theorem bind_ok {P : Program} {α β : Type} {s : Sem α} {k : α → Sem β} {w w' : World} {a : α} (h : s.run P w = .ok a w') : (s >>= k).run P w = (k a).run P w' := by
  rw [Sem.run_bind, h]; rfl
theorem pure_ok {P : Program} {α : Type} (a : α) (w : World) : (pure a : Sem α).run P w = .ok a w := rfl

/-! ### One operation at a time -/
section
variable {tn : Bool} {P : Program} {f : FuncId} {R : Ending → World → Prop} {B : Base} {n : Nat} {K : List Item} {ops : Array Oper} {i : Nat} {l fin : List Nat} {σ : Nat → Value} {Γ : List Fact} {Ms : List Res}
variable {dst : Option Tmp} {op : Op} {ty : TypeId} {pos : String} {after : Array Edge} {v : Value}

/-- An operation without what the run doesn't look at. -/
def opr (dst : Option Tmp) (op : Op) (ty : TypeId) : Oper := ⟨dst, op, ty, "", #[], none⟩
theorem exec_opr (ρ : Operand → Value) (dst : Option Tmp) (op : Op) (ty : TypeId) (pos : String) (after : Array Edge) (g : Option (Nat × Bool)) (d' : Option Tmp) : execOp ρ ⟨dst, op, ty, pos, after, g⟩ = execOp ρ (opr d' op ty) := by
  cases op <;> rfl
theorem opT_opr {g : Option (Nat × Bool)} (h : OpT P f R B n K ops l (opr dst op ty) σ Γ Ms) : OpT P f R B n K ops l ⟨dst, op, ty, pos, after, g⟩ σ Γ Ms := by
  intro a w hr hs
  have := h a w hr hs
  unfold Oper.wp at this ⊢
  rw [exec_opr (d' := dst)]
  exact this

theorem rg_at (ho : ops[i]? = some ⟨dst, op, ty, pos, after, none⟩) (h : OpT P f R B n K ops l (opr dst op ty) σ Γ Ms) : RgT P f R B n K ops (i :: l) σ Γ Ms := rg_cons ho rfl (opT_opr h)
/-- Behind a guard; its slot then shows the answer. -/
theorem rg_if {g d : Nat} {want t : Bool} {og : Oper} (ho : ops[i]? = some ⟨dst, op, ty, pos, after, some (g, want)⟩) (hog : ops[g]? = some og) (hgd : og.dst = some d) (ht : σ d = .bool t) (hd : dstOk n dst = true)
    (hon : t = want → OpT P f R B n K ops l (opr dst op ty) (upd σ d (.bool want)) Γ Ms) (hoff : t = !want → RgT P f R B n K ops l (putS (upd σ d (.bool !want)) dst undef) Γ Ms) : RgT P f R B n K ops (i :: l) σ Γ Ms := by
  have hb : (ops[g]?).bind (·.dst) = some d := by rw [hog]; exact hgd
  refine rg_guard ho rfl hb ht hd (fun h => ?_) (fun h => ?_)
  · have h : t = want := by simpa using h
    have := hon h
    subst h
    rw [upd_id ht] at this
    exact opT_opr this
  · have h : t = !want := by cases t <;> cases want <;> simp_all
    have := hoff h
    subst h
    rw [upd_id ht] at this
    exact this
/-- Behind a guard whose answer is known. -/
theorem rg_ifT {g d : Nat} {want : Bool} {og : Oper} (ho : ops[i]? = some ⟨dst, op, ty, pos, after, some (g, want)⟩) (hog : ops[g]? = some og) (hgd : og.dst = some d) (ht : σ d = .bool want)
    (hon : OpT P f R B n K ops l (opr dst op ty) σ Γ Ms) : RgT P f R B n K ops (i :: l) σ Γ Ms := by
  refine rg_on ho ?_ (opT_opr hon)
  simp only [wantS, hog, Option.bind_some, hgd, ht]
  cases want <;> rfl
theorem rg_ifF {g d : Nat} {want t : Bool} {og : Oper} (ho : ops[i]? = some ⟨dst, op, ty, pos, after, some (g, want)⟩) (hog : ops[g]? = some og) (hgd : og.dst = some d) (ht : σ d = .bool t) (hne : (t == want) = false) (hd : dstOk n dst = true)
    (hoff : RgT P f R B n K ops l (putS σ dst undef) Γ Ms) : RgT P f R B n K ops (i :: l) σ Γ Ms := by
  refine rg_off ho ?_ hd hoff
  simp only [wantS, hog, Option.bind_some, hgd, ht, hne]

theorem rg_ifU {g d : Nat} {want : Bool} {og : Oper} (ho : ops[i]? = some ⟨dst, op, ty, pos, after, some (g, want)⟩) (hog : ops[g]? = some og) (hgd : og.dst = some d) (ht : σ d = undef) (hd : dstOk n dst = true)
    (hoff : RgT P f R B n K ops l (putS σ dst undef) Γ Ms) : RgT P f R B n K ops (i :: l) σ Γ Ms := by
  refine rg_off ho ?_ hd hoff
  simp only [wantS, hog, Option.bind_some, hgd, ht, undef]

/-! What an operation does. -/
def PureE (P : Program) (σ : Nat → Value) (op : Op) (ty : TypeId) (v : Value) : Prop := ∀ w, (execOp (ev σ) (opr none op ty)).run P w = .ok (.value v) w
def LoadE (P : Program) (B : Base) (σ : Nat → Value) (Γ : List Fact) (Ms : List Res) (op : Op) (ty : TypeId) (v : Value) : Prop := ∀ w, St B Γ Ms w → (execOp (ev σ) (opr none op ty)).run P w = .ok (.value v) w
def AllocE (P : Program) (σ : Nat → Value) (op : Op) (ty : TypeId) (val : Nat → Value) (cs : List Value) (T : TypeId) : Prop :=
  ∀ w, (execOp (ev σ) (opr none op ty)).run P w = .ok (.value (val w.heap.size)) { w with heap := w.heap.push (.cells cs.toArray T (0, 0)) }
def EnterE (P : Program) (σ : Nat → Value) (op : Op) (ty : TypeId) (k : FuncId) (args : Array Value) : Prop := ∀ w, (execOp (ev σ) (opr none op ty)).run P w = .ok (.enter k args) w
/-- A store, an append: what is owned turns. -/
def TurnE (P : Program) (B : Base) (σ : Nat → Value) (Γ : List Fact) (Ms : List Res) (op : Op) (ty : TypeId) {X : Type} (val : X → Value) (Γ' : X → List Fact) (Ms' : X → List Res) : Prop :=
  ∀ w, St B Γ Ms w → ∃ x w', (execOp (ev σ) (opr none op ty)).run P w = .ok (.value (val x)) w' ∧ St B (Γ' x) (Ms' x) w'
def StoreE (P : Program) (B : Base) (σ : Nat → Value) (Γ : List Fact) (Ms : List Res) (op : Op) (ty : TypeId) (Γ' : List Fact) (Ms' : List Res) : Prop :=
  ∀ w, St B Γ Ms w → ∃ w', (execOp (ev σ) (opr none op ty)).run P w = .ok .skip w' ∧ St B Γ' Ms' w'

theorem sq_pure (h : PureE P σ op ty v) (hd : dstOk n dst = true) (k : RgT P f R B n K ops l (putS σ dst v) Γ Ms) : OpT P f R B n K ops l (opr dst op ty) σ Γ Ms :=
  op_pure (o := opr dst op ty) (fun w => by rw [opr, exec_opr (d' := none)]; exact h w) hd k
theorem sq_load (h : LoadE P B σ Γ Ms op ty v) (hd : dstOk n dst = true) (k : RgT P f R B n K ops l (putS σ dst v) Γ Ms) : OpT P f R B n K ops l (opr dst op ty) σ Γ Ms :=
  op_load (o := opr dst op ty) (fun w hs => by rw [opr, exec_opr (d' := none)]; exact h w hs) hd k
theorem sq_alloc {val : Nat → Value} {cs : List Value} {T : TypeId} (h : AllocE P σ op ty val cs T) (hd : dstOk n dst = true) (k : ∀ b, RgT P f R B n K ops l (putS σ dst (val b)) Γ (boxR b cs T :: Ms)) : OpT P f R B n K ops l (opr dst op ty) σ Γ Ms :=
  op_alloc (o := opr dst op ty) (fun w => by rw [opr, exec_opr (d' := none)]; exact h w) hd k
theorem sq_call {c : FuncId} {args : Array Value} {pre : List Fact} {Ms0 Ms2 : List Res} {X : Type} {val : X → Value} {N : X → List Fact} {Ms1 : X → List Res}
    (he : EnterE P σ op ty c args) (hsp : Spec P c args pre Ms0 val N Ms1) (hpre : ∀ F, F ∈ pre → F ∈ Γ) (hm : Ms.Perm (Ms0 ++ Ms2)) (hd : dstOk n dst = true)
    (kk : ∀ x, RgT P f R B n K ops l (putS σ dst (val x)) (N x ++ Γ) (Ms1 x ++ Ms2)) : OpT P f R B n K ops l (opr dst op ty) σ Γ Ms :=
  op_call (o := opr dst op ty) (fun w => by rw [opr, exec_opr (d' := none)]; exact he w) hd hsp hpre hm kk
theorem sq_turn {X : Type} {val : X → Value} {Γ' : X → List Fact} {Ms' : X → List Res} (h : TurnE P B σ Γ Ms op ty val Γ' Ms') (hd : dstOk n dst = true) (k : ∀ x, RgT P f R B n K ops l (putS σ dst (val x)) (Γ' x) (Ms' x)) : OpT P f R B n K ops l (opr dst op ty) σ Γ Ms :=
  op_val (o := opr dst op ty) val Γ' Ms' hd (fun w hs => by rw [opr, exec_opr (d' := none)]; exact h w hs) k
theorem sq_store {Γ' : List Fact} {Ms' : List Res} (h : StoreE P B σ Γ Ms op ty Γ' Ms') (k : RgT P f R B n K ops l σ Γ' Ms') : OpT P f R B n K ops l (opr none op ty) σ Γ Ms :=
  op_unit (o := opr none op ty) rfl h k

/-- The same in a region that draws. -/
def NvT (tn : Bool) (P : Program) (f : FuncId) (R : Ending → World → Prop) (B : Base) (n : Nat) (K : List Item) (ops : Array Oper) (fin : List Nat) (i : Nat) (l : List Nat) (dst : Option Tmp) (op : Op) (ty : TypeId) (σ : Nat → Value) (Γ : List Fact) (Ms : List Res) : Prop :=
  ∀ pos after g, ops[i]? = some ⟨dst, op, ty, pos, after, g⟩ → wantS ops σ ⟨dst, op, ty, pos, after, g⟩ = true → NV tn P f R B n K ops fin (i :: l) σ Γ Ms
theorem nv_at (ho : ops[i]? = some ⟨dst, op, ty, pos, after, none⟩) (h : NvT tn P f R B n K ops fin i l dst op ty σ Γ Ms) : NV tn P f R B n K ops fin (i :: l) σ Γ Ms := h _ _ _ ho rfl
theorem nv_if {g d : Nat} {want t : Bool} {og : Oper} (ho : ops[i]? = some ⟨dst, op, ty, pos, after, some (g, want)⟩) (hog : ops[g]? = some og) (hgd : og.dst = some d) (ht : σ d = .bool t) (hd : dstOk n dst = true)
    (hon : t = want → NvT tn P f R B n K ops fin i l dst op ty (upd σ d (.bool want)) Γ Ms) (hoff : t = !want → NV tn P f R B n K ops fin l (putS (upd σ d (.bool !want)) dst undef) Γ Ms) : NV tn P f R B n K ops fin (i :: l) σ Γ Ms := by
  have hw : wantS ops σ ⟨dst, op, ty, pos, after, some (g, want)⟩ = (t == want) := by simp only [wantS, hog, Option.bind_some, hgd, ht]
  cases hb : (t == want) with
  | true =>
    have h : t = want := by simpa using hb
    have := hon h
    subst h
    rw [upd_id ht] at this
    exact this _ _ _ ho (hw.trans hb)
  | false =>
    have h : t = !want := by cases t <;> cases want <;> simp_all
    have := hoff h
    subst h
    rw [upd_id ht] at this
    exact .off ho (hw.trans hb) hd this
theorem nv_ifT {g d : Nat} {want : Bool} {og : Oper} (ho : ops[i]? = some ⟨dst, op, ty, pos, after, some (g, want)⟩) (hog : ops[g]? = some og) (hgd : og.dst = some d) (ht : σ d = .bool want)
    (hon : NvT tn P f R B n K ops fin i l dst op ty σ Γ Ms) : NV tn P f R B n K ops fin (i :: l) σ Γ Ms := by
  refine hon _ _ _ ho ?_
  simp only [wantS, hog, Option.bind_some, hgd, ht]
  cases want <;> rfl
theorem nv_ifU {g d : Nat} {want : Bool} {og : Oper} (ho : ops[i]? = some ⟨dst, op, ty, pos, after, some (g, want)⟩) (hog : ops[g]? = some og) (hgd : og.dst = some d) (ht : σ d = undef) (hd : dstOk n dst = true)
    (hoff : NV tn P f R B n K ops fin l (putS σ dst undef) Γ Ms) : NV tn P f R B n K ops fin (i :: l) σ Γ Ms :=
  .off ho (by simp only [wantS, hog, Option.bind_some, hgd, ht, undef]) hd hoff
theorem nv_ifF {g d : Nat} {want t : Bool} {og : Oper} (ho : ops[i]? = some ⟨dst, op, ty, pos, after, some (g, want)⟩) (hog : ops[g]? = some og) (hgd : og.dst = some d) (ht : σ d = .bool t) (hne : (t == want) = false) (hd : dstOk n dst = true)
    (hoff : NV tn P f R B n K ops fin l (putS σ dst undef) Γ Ms) : NV tn P f R B n K ops fin (i :: l) σ Γ Ms :=
  .off ho (by simp only [wantS, hog, Option.bind_some, hgd, ht, hne]) hd hoff
theorem nv_pure (h : PureE P σ op ty v) (hd : dstOk n dst = true) (k : NV tn P f R B n K ops fin l (putS σ dst v) Γ Ms) : NvT tn P f R B n K ops fin i l dst op ty σ Γ Ms :=
  fun _ _ _ ho hw => .pure ho hw hd (fun w => by rw [exec_opr (d' := none)]; exact h w) k
theorem nv_load (h : LoadE P B σ Γ Ms op ty v) (hm : movB op = false) (hd : dstOk n dst = true) (k : NV false P f R B n K ops fin l (putS σ dst v) Γ Ms) : NvT false P f R B n K ops fin i l dst op ty σ Γ Ms :=
  fun _ _ _ ho hw => .load rfl ho hm hw hd (fun w hs => by rw [exec_opr (d' := none)]; exact h w hs) k
theorem nv_loadF (h : LoadE P B σ Γ [] op ty v) (hm : movB op = false) (hd : dstOk n dst = true) (k : NV tn P f R B n K ops fin l (putS σ dst v) Γ Ms) : NvT tn P f R B n K ops fin i l dst op ty σ Γ Ms :=
  fun _ _ _ ho hw => .loadF ho hm hw hd (fun w hs => by rw [exec_opr (d' := none)]; exact h w hs) k
theorem nv_turn {X : Type} {val : X → Value} {r Ms2 : List Res} {r' : X → List Res} (h : ∀ M, TurnE P B σ Γ (r ++ M) op ty val (fun _ => Γ) (fun x => r' x ++ M)) (hb : turnB op = true) (hd : dstOk n dst = true) (hp : Ms.Perm (r ++ Ms2)) (k : ∀ x, NV true P f R B n K ops fin l (putS σ dst (val x)) Γ (r' x ++ Ms2)) : NvT true P f R B n K ops fin i l dst op ty σ Γ Ms :=
  fun _ _ _ ho hw => .turn rfl ho hb hw hd hp (fun M w hs => by rw [exec_opr (d' := none)]; exact h M w hs) k
theorem nv_alloc {val : Nat → Value} {cs : List Value} {T : TypeId} (h : AllocE P σ op ty val cs T) (hg : growB op = true) (hd : dstOk n dst = true) (k : ∀ b, NV tn P f R B n K ops fin l (putS σ dst (val b)) Γ (boxR b cs T :: Ms)) : NvT tn P f R B n K ops fin i l dst op ty σ Γ Ms :=
  fun _ _ _ ho hw => .alloc ho hg hw hd (fun w => by rw [exec_opr (d' := none)]; exact h w) k
theorem nv_call {c : FuncId} {args : Array Value} {pre : List Fact} {X : Type} {val : X → Value} {N : X → List Fact} {Ms1 : X → List Res}
    (he : EnterE P σ op ty c args) (hsp : Spec P c args pre [] val N Ms1) (hpre : ∀ F, F ∈ pre → F ∈ Γ) (hg : growB op = true) (hm : movB op = false) (hd : dstOk n dst = true)
    (kk : ∀ x, NV false P f R B n K ops fin l (putS σ dst (val x)) (N x ++ Γ) (Ms1 x ++ Ms)) : NvT false P f R B n K ops fin i l dst op ty σ Γ Ms :=
  fun _ _ _ ho hw => .call rfl ho hg hm hw hd (fun w => by rw [exec_opr (d' := none)]; exact he w) hsp hpre kk
end

/-! ### Operations that look at no memory -/
section
variable {P : Program} {σ : Nat → Value} {ty : TypeId} {x y z : Operand} {v : Value} {k : IntKind} {a b : Int}
theorem pe_move (h : ev σ x = v) : PureE P σ (.move x) ty v := fun w => by subst h; rfl
theorem pe_assign (h : ev σ x = v) : PureE P σ (.assign x) ty v := fun w => by subst h; rfl
theorem pe_pickT (hz : ev σ z = .bool true) (h : ev σ x = v) : PureE P σ (.pick z x y) ty v := fun w => by
  subst h
  simp only [opr, execOp, hz, asBool]
  rfl
theorem pe_pickF (hz : ev σ z = .bool false) (h : ev σ y = v) : PureE P σ (.pick z x y) ty v := fun w => by
  subst h
  simp only [opr, execOp, hz, asBool]
  rfl
theorem wrap64_in {n : Int} (h : in64 n) : IntKind.i64.wrap n = n := by
  have h1 := h.1
  have h2 := h.2
  rw [IntKind.wrap_i64]
  omega
theorem eqGuard_int {bop : BinOp} {t : TypeId} {x y : Operand} {k k' : IntKind} {a b : Int} (w : World) : (eqGuard bop t x y (.int k a) (.int k' b)).run P w = .ok () w := by
  cases bop <;> rfl
theorem run_bin {bop : BinOp} {t t' : TypeId} {va vb : Value} (hx : ev σ x = va) (hy : ev σ y = vb) (hg : ∀ w, (eqGuard bop t x y va vb).run P w = .ok () w) (hr : ∀ w, (binOp bop t va vb).run P w = .ok v w) : PureE P σ (.binOp bop t x y t') ty v := fun w => by
  simp only [opr, execOp, hx, hy]
  have h1 : (do eqGuard bop t x y va vb; binOp bop t va vb : Sem Value).run P w = .ok v w := by rw [bind_ok (hg w)]; exact hr w
  rw [bind_ok h1]
  rfl
theorem pe_add {t t' : TypeId} (hx : ev σ x = .int .i64 a) (hy : ev σ y = .int .i64 b) (h : in64 (a + b)) : PureE P σ (.binOp .add t x y t') ty (.int .i64 (a + b)) :=
  run_bin hx hy (fun w => eqGuard_int w) (fun w => by simp only [binOp, Op.intArith, ne_eq, not_true, if_false, wrap64_in h]; rfl)
theorem pe_sub {t t' : TypeId} (hx : ev σ x = .int .i64 a) (hy : ev σ y = .int .i64 b) (h : in64 (a - b)) : PureE P σ (.binOp .sub t x y t') ty (.int .i64 (a - b)) :=
  run_bin hx hy (fun w => eqGuard_int w) (fun w => by simp only [binOp, Op.intArith, ne_eq, not_true, if_false, wrap64_in h]; rfl)
theorem pe_mul {t t' : TypeId} (hx : ev σ x = .int .i64 a) (hy : ev σ y = .int .i64 b) (h : in64 (a * b)) : PureE P σ (.binOp .mul t x y t') ty (.int .i64 (a * b)) :=
  run_bin hx hy (fun w => eqGuard_int w) (fun w => by simp only [binOp, Op.intArith, ne_eq, not_true, if_false, wrap64_in h]; rfl)
theorem pe_lss {t t' : TypeId} (hx : ev σ x = .int k a) (hy : ev σ y = .int k b) : PureE P σ (.binOp .lss t x y t') ty (.bool (decide (a < b))) :=
  run_bin hx hy (fun w => eqGuard_int w) (fun w => by simp only [binOp, Op.intCmp, ne_eq, not_true, if_false]; rfl)
theorem pe_leq {t t' : TypeId} (hx : ev σ x = .int k a) (hy : ev σ y = .int k b) : PureE P σ (.binOp .leq t x y t') ty (.bool (decide (a ≤ b))) :=
  run_bin hx hy (fun w => eqGuard_int w) (fun w => by simp only [binOp, Op.intCmp, ne_eq, not_true, if_false]; rfl)
theorem pe_gtr {t t' : TypeId} (hx : ev σ x = .int k a) (hy : ev σ y = .int k b) : PureE P σ (.binOp .gtr t x y t') ty (.bool (decide (b < a))) :=
  run_bin hx hy (fun w => eqGuard_int w) (fun w => by simp only [binOp, Op.intCmp, ne_eq, not_true, if_false]; rfl)
theorem pe_geq {t t' : TypeId} (hx : ev σ x = .int k a) (hy : ev σ y = .int k b) : PureE P σ (.binOp .geq t x y t') ty (.bool (decide (b ≤ a))) :=
  run_bin hx hy (fun w => eqGuard_int w) (fun w => by simp only [binOp, Op.intCmp, ne_eq, not_true, if_false]; rfl)
theorem pe_eqI {t t' : TypeId} (hx : ev σ x = .int k a) (hy : ev σ y = .int k b) : PureE P σ (.binOp .eql t x y t') ty (.bool (decide (a = b))) :=
  run_bin hx hy (fun w => eqGuard_int w) (fun w => by simp only [binOp, Op.intCmp, ne_eq, not_true, if_false]; rfl)
theorem pe_neI {t t' : TypeId} (hx : ev σ x = .int k a) (hy : ev σ y = .int k b) : PureE P σ (.binOp .neq t x y t') ty (.bool (decide (a ≠ b))) :=
  run_bin hx hy (fun w => eqGuard_int w) (fun w => by
    simp only [binOp, Op.intCmp, ne_eq, not_true, if_false]
    show Result.ok (Value.bool (a != b)) w = _
    simp [bne, decide_not]; rfl)
theorem pe_eqS {t t' : TypeId} {s s' : ByteArray} (hx : ev σ x = .string s) (hy : ev σ y = .string s') : PureE P σ (.binOp .eql t x y t') ty (.bool (s.toList == s'.toList)) :=
  run_bin hx hy (fun w => rfl) (fun w => rfl)
theorem pe_neS {t t' : TypeId} {s s' : ByteArray} (hx : ev σ x = .string s) (hy : ev σ y = .string s') : PureE P σ (.binOp .neq t x y t') ty (.bool (!(s.toList == s'.toList))) :=
  run_bin hx hy (fun w => rfl) (fun w => rfl)
theorem pe_not {t : TypeId} {c : Bool} (hx : ev σ x = .bool c) : PureE P σ (.unOp .not t x) ty (.bool (!c)) := fun w => by
  simp only [opr, execOp, hx]
  rfl
theorem pe_extract {vs : Array Value} {j : Nat} (hx : ev σ x = .tuple vs) (hj : vs[j]? = some v) : PureE P σ (.extract x j) ty v := fun w => by
  simp only [opr, execOp, hx, Instr.extract, hj]
  rfl
theorem pe_makeFunc {fn : Fn} {cap : Array Operand} {vs : List Value} (h : cap.toList.map (ev σ) = vs) : PureE P σ (.makeFunc fn #[] cap) ty (.func fn #[] vs.toArray) := fun w => by
  have h : cap.map (ev σ) = vs.toArray := Array.ext' (by simpa using h)
  simp [opr, execOp, Instr.makeFunc, h]
theorem cap1 {a : Operand} {u : Value} (h : ev σ a = u) : (#[a] : Array Operand).toList.map (ev σ) = [u] := by simp [h]
theorem cap2 {a b : Operand} {u v : Value} (h : ev σ a = u) (h2 : ev σ b = v) : (#[a, b] : Array Operand).toList.map (ev σ) = [u, v] := by simp [h, h2]
theorem cap3 {a b c : Operand} {u v w : Value} (h : ev σ a = u) (h2 : ev σ b = v) (h3 : ev σ c = w) : (#[a, b, c] : Array Operand).toList.map (ev σ) = [u, v, w] := by simp [h, h2, h3]
theorem cap4 {a b c d : Operand} {u v w x : Value} (h : ev σ a = u) (h2 : ev σ b = v) (h3 : ev σ c = w) (h4 : ev σ d = x) : (#[a, b, c, d] : Array Operand).toList.map (ev σ) = [u, v, w, x] := by simp [h, h2, h3, h4]
theorem pe_lenS [Tab P] {ts : Array TypeId} {t e : TypeId} {A : Option Addr} {m c : Nat} (ht : ts[0]? = some t) (hu : Tab.und P t = some (.slice e)) (hx : ev σ x = .slice A m c) : PureE P σ (.call { callee := .builtin .len, args := #[x], argTypes := ts }) ty (.int .i64 (m : Int)) := fun w => by
  simp [opr, execOp, resolve, invoke, builtin, Builtin.len_, ht, hx, run_und0 hu, goInt]
theorem pe_lenStr [Tab P] {ts : Array TypeId} {t : TypeId} {s : ByteArray} (ht : ts[0]? = some t) (hu : Tab.und P t = some .string) (hx : ev σ x = .string s) : PureE P σ (.call { callee := .builtin .len, args := #[x], argTypes := ts }) ty (.int .i64 (s.size : Int)) := fun w => by
  simp [opr, execOp, resolve, invoke, builtin, Builtin.len_, ht, hx, run_und0 hu, goInt]
theorem pe_max {ts : Array TypeId} (hx : ev σ x = .int .i64 a) (hy : ev σ y = .int .i64 b) : PureE P σ (.call { callee := .builtin .max, args := #[x, y], argTypes := ts }) ty (.int .i64 (if b > a then b else a)) := fun w => by
  simp [opr, execOp, resolve, invoke, builtin, Builtin.max_, Builtin.max2, hx, hy]
theorem pe_min {ts : Array TypeId} (hx : ev σ x = .int .i64 a) (hy : ev σ y = .int .i64 b) : PureE P σ (.call { callee := .builtin .min, args := #[x, y], argTypes := ts }) ty (.int .i64 (if b < a then b else a)) := fun w => by
  simp [opr, execOp, resolve, invoke, builtin, Builtin.min_, Builtin.min2, hx, hy]

/-- Where a field lies. -/
theorem pe_fieldAddr [Tab P] {t : TypeId} {j bk off o : Nat} (hf : Tab.foff P t j = some o) (hx : ev σ x = .pointer (some ⟨bk, off, none⟩)) :
    PureE P σ (.fieldAddr t x j) ty (.pointer (some ⟨bk, off + o, none⟩)) := fun w => by
  obtain ⟨fs, fl, i, h1, h2, h3, h4, h5⟩ := Tab.foff_ok t j o hf
  have hs : (sizeOf fl.type).run P w = .ok i.size w := by simp [sizeOf, typeInfo, h4]
  simp [opr, execOp, hx, Instr.fieldAt, run_underlying h1, h2, Instr.sureAddr, fieldPlace, hs, h5, Addr.add_lit, h3]
theorem pe_build [Tab P] {t : TypeId} {s bt : Nat} {zv : Value} {parts : Array (Nat × Operand)} {pv : List (Nat × Value)} {l : List (Nat × Nat)} {cs : List Value} (hl : Tab.lay P t = some l) (hi : Tab.inf P t = some (s, bt, zv)) (hp : parts.toList.map (fun (i, x) => (i, ev σ x)) = pv) (hb : Instr.fill (l.toArray[·]?) zv.cells pv = some cs.toArray) : PureE P σ (.build t parts) ty (.agg cs.toArray) := fun w => by
  have hp : (parts.map fun (i, x) => (i, ev σ x)).toList = pv := by rw [Array.toList_map]; exact hp
  subst hp
  obtain ⟨fs, h1, h2⟩ := Tab.lay_ok t l hl
  obtain ⟨i, h3, h4, h5, h6⟩ := Tab.inf_ok t s bt zv hi
  have hb' : P.built t (parts.map fun (i, x) => (i, ev σ x)).toList = some cs.toArray := by
    unfold Program.built
    simp only [h3, h1, h6, h2]
    exact hb
  simp only [opr, execOp]
  rw [bind_ok (run_build w t _ cs.toArray hb')]
  rfl
theorem pe_indexAddr [Tab P] {t e : TypeId} {s bt bk o m c : Nat} {zv : Value} {j : Int} (hu : Tab.und P t = some (.slice e)) (hi : Tab.inf P e = some (s, bt, zv)) {A : Option Addr} (hx : ev σ x = .slice A m c) (hA : A = some ⟨bk, o, none⟩) (hy : ev σ y = .int .i64 j) (h0 : 0 ≤ j) (h1 : j < m) :
    PureE P σ (.indexAddr t x y) ty (.pointer (some ⟨bk, o + j.toNat * s, none⟩)) := fun w => by
  subst hA
  simp [opr, execOp, hx, hy, Instr.indexAt, asIntOf, run_und0 hu, h0, h1, run_size0 hi, Addr.add_lit]
theorem pv0 {σ : Nat → Value} : (#[] : Array (Nat × Operand)).toList.map (fun (i, x) => (i, ev σ x)) = [] := by simp
theorem pv1 {i0 : Nat} {x0 : Operand} {u0 : Value} {σ : Nat → Value} (h0 : ev σ x0 = u0) : (#[(i0, x0)] : Array (Nat × Operand)).toList.map (fun (i, x) => (i, ev σ x)) = [(i0, u0)] := by simp [h0]
theorem pv2 {i0 i1 : Nat} {x0 x1 : Operand} {u0 u1 : Value} {σ : Nat → Value} (h0 : ev σ x0 = u0) (h1 : ev σ x1 = u1) : (#[(i0, x0), (i1, x1)] : Array (Nat × Operand)).toList.map (fun (i, x) => (i, ev σ x)) = [(i0, u0), (i1, u1)] := by simp [h0, h1]
theorem pv3 {i0 i1 i2 : Nat} {x0 x1 x2 : Operand} {u0 u1 u2 : Value} {σ : Nat → Value} (h0 : ev σ x0 = u0) (h1 : ev σ x1 = u1) (h2 : ev σ x2 = u2) : (#[(i0, x0), (i1, x1), (i2, x2)] : Array (Nat × Operand)).toList.map (fun (i, x) => (i, ev σ x)) = [(i0, u0), (i1, u1), (i2, u2)] := by simp [h0, h1, h2]
theorem pv4 {i0 i1 i2 i3 : Nat} {x0 x1 x2 x3 : Operand} {u0 u1 u2 u3 : Value} {σ : Nat → Value} (h0 : ev σ x0 = u0) (h1 : ev σ x1 = u1) (h2 : ev σ x2 = u2) (h3 : ev σ x3 = u3) : (#[(i0, x0), (i1, x1), (i2, x2), (i3, x3)] : Array (Nat × Operand)).toList.map (fun (i, x) => (i, ev σ x)) = [(i0, u0), (i1, u1), (i2, u2), (i3, u3)] := by simp [h0, h1, h2, h3]
theorem pv5 {i0 i1 i2 i3 i4 : Nat} {x0 x1 x2 x3 x4 : Operand} {u0 u1 u2 u3 u4 : Value} {σ : Nat → Value} (h0 : ev σ x0 = u0) (h1 : ev σ x1 = u1) (h2 : ev σ x2 = u2) (h3 : ev σ x3 = u3) (h4 : ev σ x4 = u4) : (#[(i0, x0), (i1, x1), (i2, x2), (i3, x3), (i4, x4)] : Array (Nat × Operand)).toList.map (fun (i, x) => (i, ev σ x)) = [(i0, u0), (i1, u1), (i2, u2), (i3, u3), (i4, u4)] := by simp [h0, h1, h2, h3, h4]
theorem pv6 {i0 i1 i2 i3 i4 i5 : Nat} {x0 x1 x2 x3 x4 x5 : Operand} {u0 u1 u2 u3 u4 u5 : Value} {σ : Nat → Value} (h0 : ev σ x0 = u0) (h1 : ev σ x1 = u1) (h2 : ev σ x2 = u2) (h3 : ev σ x3 = u3) (h4 : ev σ x4 = u4) (h5 : ev σ x5 = u5) : (#[(i0, x0), (i1, x1), (i2, x2), (i3, x3), (i4, x4), (i5, x5)] : Array (Nat × Operand)).toList.map (fun (i, x) => (i, ev σ x)) = [(i0, u0), (i1, u1), (i2, u2), (i3, u3), (i4, u4), (i5, u5)] := by simp [h0, h1, h2, h3, h4, h5]
theorem pe_buildA [Tab P] {t e : TypeId} {m s bt s' bt' : Nat} {zv zv' : Value} {parts : Array (Nat × Operand)} {pv : List (Nat × Value)} {cs : List Value} (hu : Tab.und P t = some (.array m e)) (hi : Tab.inf P t = some (s, bt, zv)) (he : Tab.inf P e = some (s', bt', zv')) (hp : parts.toList.map (fun (i, x) => (i, ev σ x)) = pv) (hb : Instr.fill (fun i => some (i * s', s')) zv.cells pv = some cs.toArray) : PureE P σ (.build t parts) ty (.agg cs.toArray) := fun w => by
  have hp : (parts.map fun (i, x) => (i, ev σ x)).toList = pv := by rw [Array.toList_map]; exact hp
  subst hp
  obtain ⟨i, h3, h4, h5, h6⟩ := Tab.inf_ok t s bt zv hi
  obtain ⟨i', h3', h4', h5', h6'⟩ := Tab.inf_ok e s' bt' zv' he
  have hb' : P.built t (parts.map fun (i, x) => (i, ev σ x)).toList = some cs.toArray := by
    unfold Program.built
    simp only [h3, Tab.und_ok t _ hu, h6, h3', h4']
    exact hb
  simp only [opr, execOp]
  rw [bind_ok (run_build w t _ cs.toArray hb')]
  rfl
theorem pe_ixA [Tab P] {t e : TypeId} {s bt b o m : Nat} {zv : Value} {j : Int} (hu : Tab.und P t = some (.array m e)) (hi : Tab.inf P e = some (s, bt, zv)) (hx : ev σ x = .pointer (some ⟨b, o, none⟩)) (hy : ev σ y = .int .i64 j) (h0 : 0 ≤ j) (h1 : j < m) :
    PureE P σ (.indexAddr t x y) ty (.pointer (some ⟨b, o + j.toNat * s, none⟩)) := fun w => by
  simp [opr, execOp, hx, hy, Instr.indexAt, Instr.sureAddr, asIntOf, run_und0 hu, h0, h1, run_size0 hi, Addr.add_lit]
theorem pe_addW {t t' : TypeId} (hx : ev σ x = .int .i64 a) (hy : ev σ y = .int .i64 b) : PureE P σ (.binOp .add t x y t') ty (.int .i64 (IntKind.i64.wrap (a + b))) :=
  run_bin hx hy (fun w => eqGuard_int w) (fun w => by simp only [binOp, Op.intArith, ne_eq, not_true, if_false]; rfl)
theorem pe_subW {t t' : TypeId} (hx : ev σ x = .int .i64 a) (hy : ev σ y = .int .i64 b) : PureE P σ (.binOp .sub t x y t') ty (.int .i64 (IntKind.i64.wrap (a - b))) :=
  run_bin hx hy (fun w => eqGuard_int w) (fun w => by simp only [binOp, Op.intArith, ne_eq, not_true, if_false]; rfl)
/-! Words of 32 bits -/
theorem wrapu (n : Int) : IntKind.u32.wrap n = n % 4294967296 := by
  unfold IntKind.wrap
  have h : IntKind.u32.signed = false := rfl
  have h2 : (2 ^ IntKind.u32.bits : Int) = 4294967296 := rfl
  simp only [h, h2, Bool.false_and, Bool.false_eq_true, if_false]
theorem wrap_u32 {n : Nat} (h : n < 4294967296) : IntKind.u32.wrap (n : Int) = n := by
  rw [wrapu]; omega
theorem bv32 {n : Nat} (h : n < 4294967296) : (BitVec.ofInt 32 (n : Int)).toNat = n := by
  rw [BitVec.toNat_ofInt]; omega
theorem pe_andU {t t' : TypeId} {a b : Nat} (hx : ev σ x = .int .u32 (a : Int)) (hy : ev σ y = .int .u32 (b : Int)) (ha : a < 4294967296) (hb : b < 4294967296) : PureE P σ (.binOp .and t x y t') ty (.int .u32 ((a &&& b : Nat) : Int)) :=
  run_bin hx hy (fun w => eqGuard_int w) (fun w => by
    have e : (BitVec.ofInt 32 (a : Int) &&& BitVec.ofInt 32 (b : Int)).toNat = a &&& b := by rw [BitVec.toNat_and, bv32 ha, bv32 hb]
    have hl : a &&& b < 4294967296 := Nat.lt_of_le_of_lt Nat.and_le_left ha
    show Result.ok (Value.int .u32 (IntKind.u32.wrap ((BitVec.ofInt 32 (a : Int) &&& BitVec.ofInt 32 (b : Int)).toNat : Int))) w = _
    rw [e, wrap_u32 hl])
theorem pe_orU {t t' : TypeId} {a b : Nat} (hx : ev σ x = .int .u32 (a : Int)) (hy : ev σ y = .int .u32 (b : Int)) (ha : a < 4294967296) (hb : b < 4294967296) : PureE P σ (.binOp .or t x y t') ty (.int .u32 ((a ||| b : Nat) : Int)) :=
  run_bin hx hy (fun w => eqGuard_int w) (fun w => by
    have e : (BitVec.ofInt 32 (a : Int) ||| BitVec.ofInt 32 (b : Int)).toNat = a ||| b := by rw [BitVec.toNat_or, bv32 ha, bv32 hb]
    have hl : a ||| b < 4294967296 := Nat.or_lt_two_pow (n := 32) ha hb
    show Result.ok (Value.int .u32 (IntKind.u32.wrap ((BitVec.ofInt 32 (a : Int) ||| BitVec.ofInt 32 (b : Int)).toNat : Int))) w = _
    rw [e, wrap_u32 hl])
def andNot32 (a b : Nat) : Nat := (BitVec.ofNat 32 a &&& ~~~ BitVec.ofNat 32 b).toNat
theorem andNot32_lt (a b : Nat) : andNot32 a b < 4294967296 := (BitVec.ofNat 32 a &&& ~~~ BitVec.ofNat 32 b).isLt
theorem pe_andNotU {t t' : TypeId} {a b : Nat} (hx : ev σ x = .int .u32 (a : Int)) (hy : ev σ y = .int .u32 (b : Int)) : PureE P σ (.binOp .andNot t x y t') ty (.int .u32 (andNot32 a b : Int)) :=
  run_bin hx hy (fun w => eqGuard_int w) (fun w => by
    show Result.ok (Value.int .u32 (IntKind.u32.wrap ((BitVec.ofInt 32 (a : Int) &&& ~~~ BitVec.ofInt 32 (b : Int)).toNat : Int))) w = _
    rw [BitVec.ofInt_natCast, BitVec.ofInt_natCast]
    rw [show (BitVec.ofNat 32 a &&& ~~~ BitVec.ofNat 32 b).toNat = andNot32 a b from rfl, wrap_u32 (andNot32_lt a b)])
theorem pe_shlU {t t' : TypeId} {k2 : IntKind} {a m : Nat} (hx : ev σ x = .int .u32 (a : Int)) (hy : ev σ y = .int k2 (m : Int)) : PureE P σ (.binOp .shl t x y t') ty (.int .u32 ((a * 2 ^ (min m 32) % 4294967296 : Nat) : Int)) :=
  run_bin hx hy (fun w => eqGuard_int w) (fun w => by
    have e : IntKind.u32.wrap ((a : Int) * 2 ^ min (m : Int).toNat 32) = ((a * 2 ^ (min m 32) % 4294967296 : Nat) : Int) := by
      rw [wrapu, Int.toNat_natCast, Int.natCast_emod, Int.natCast_mul, Int.natCast_pow]; rfl
    have h0 : ¬ ((m : Int) < 0) := by omega
    simp only [binOp, Op.shift, if_neg h0]
    show Result.ok (Value.int .u32 (IntKind.u32.wrap ((a : Int) * 2 ^ min (m : Int).toNat 32))) w = _
    rw [e])
theorem pe_shrU {t t' : TypeId} {k2 : IntKind} {a m : Nat} (hx : ev σ x = .int .u32 (a : Int)) (hy : ev σ y = .int k2 (m : Int)) : PureE P σ (.binOp .shr t x y t') ty (.int .u32 ((a / 2 ^ (min m 32) : Nat) : Int)) :=
  run_bin hx hy (fun w => eqGuard_int w) (fun w => by
    have e : ((a : Int).fdiv (2 ^ min (m : Int).toNat 32)) = ((a / 2 ^ (min m 32) : Nat) : Int) := by
      rw [Int.toNat_natCast, Int.fdiv_eq_ediv_of_nonneg _ (by exact Int.le_of_lt (Int.pow_pos (by decide))), Int.natCast_ediv, Int.natCast_pow]; rfl
    have h0 : ¬ ((m : Int) < 0) := by omega
    simp only [binOp, Op.shift, if_neg h0]
    show Result.ok (Value.int .u32 ((a : Int).fdiv (2 ^ min (m : Int).toNat 32))) w = _
    rw [e])
theorem pe_quoN {t t' : TypeId} {a b : Nat} (hx : ev σ x = .int .i64 (a : Int)) (hy : ev σ y = .int .i64 (b : Int)) (ha : a < 9223372036854775808) (hb : 0 < b) : PureE P σ (.binOp .quo t x y t') ty (.int .i64 ((a / b : Nat) : Int)) :=
  run_bin hx hy (fun w => eqGuard_int w) (fun w => by
    have hle : a / b ≤ a := Nat.div_le_self a b
    have h0 : ¬ ((b : Int) = 0) := by omega
    have e : (a : Int).tdiv (b : Int) = ((a / b : Nat) : Int) := by rw [Int.ofNat_tdiv]
    simp only [binOp, Op.intDiv, ne_eq, not_true, if_false, if_neg h0]
    rw [e]
    generalize a / b = q at hle
    rw [wrap64_in (by unfold in64; omega)]; rfl)
theorem pe_remN {t t' : TypeId} {a b : Nat} (hx : ev σ x = .int .i64 (a : Int)) (hy : ev σ y = .int .i64 (b : Int)) (hb : 0 < b) : PureE P σ (.binOp .rem t x y t') ty (.int .i64 ((a % b : Nat) : Int)) :=
  run_bin hx hy (fun w => eqGuard_int w) (fun w => by
    have h0 : ¬ ((b : Int) = 0) := by omega
    have e : (a : Int).tmod (b : Int) = ((a % b : Nat) : Int) := by rw [Int.ofNat_tmod]
    simp only [binOp, Op.intDiv, ne_eq, not_true, if_false, if_neg h0]
    rw [e]; rfl)
theorem pe_ixN [Tab P] {t e : TypeId} {s bt bk o m c j : Nat} {zv : Value} (hu : Tab.und P t = some (.slice e)) (hi : Tab.inf P e = some (s, bt, zv)) {A : Option Addr} (hx : ev σ x = .slice A m c) (hA : A = some ⟨bk, o, none⟩) (hy : ev σ y = .int .i64 (j : Int)) (h1 : j < m) :
    PureE P σ (.indexAddr t x y) ty (.pointer (some ⟨bk, o + j * s, none⟩)) := by
  have := pe_indexAddr (ty := ty) hu hi hx hA hy (Int.natCast_nonneg _) (by omega)
  rwa [Int.toNat_natCast] at this
theorem pe_nilSlice [Tab P] {t t' e : TypeId} {A : Option Addr} {m c : Nat} (hu : Tab.und P t = some (.slice e)) (hx : ev σ x = .slice A m c) (hy : ev σ y = .slice none 0 0) : PureE P σ (.binOp .eql t x y t') ty (.bool A.isNone) := by
  have h1 : ∀ w, (Op.equalIn (9999 + 1) t (.slice A m c) (.slice none 0 0)).run P w = .ok A.isNone w := fun w => by
    unfold Op.equalIn
    rw [bind_ok (run_und0 hu w)]
    cases A <;> rfl
  refine run_bin hx hy (fun w => by simp [eqGuard_at_slice]) (fun w => ?_)
  show ((do pure (.bool (← Op.equal t (.slice A m c) (.slice none 0 0))) : Sem Value)).run P w = _
  rw [bind_ok (show (Op.equal t (.slice A m c) (.slice none 0 0)).run P w = _ from h1 w)]
  rfl
theorem pe_indexStr [Tab P] {t : TypeId} {s : ByteArray} {j : Int} {c : UInt8} (hu : Tab.und P t = some .string) (hx : ev σ x = .string s) (hy : ev σ y = .int .i64 j) (h0 : 0 ≤ j) (hc : s[j.toNat]? = some c) : PureE P σ (.index t x y) ty (.int .u8 c.toNat) := fun w => by
  simp [opr, execOp, hx, hy, Instr.index, asIntOf, run_und0 hu, h0, hc]
theorem cl_eq (c d : Cl) : ((c.pos : Int) == (d.pos : Int) && (c.neg : Int) == (d.neg : Int)) = decide (c = d) := by
  obtain ⟨p, n⟩ := c; obtain ⟨p', n'⟩ := d
  rw [Bool.eq_iff_iff, Bool.and_eq_true, beq_iff_eq, beq_iff_eq, decide_eq_true_iff, Cl.mk.injEq, Int.ofNat_inj, Int.ofNat_inj]
theorem pe_eqC [Tab P] {t t' : TypeId} {c d : Cl} (ht : t = Tab.ceq P) (hx : ev σ x = .agg (clCells c).toArray) (hy : ev σ y = .agg (clCells d).toArray) : PureE P σ (.binOp .eql t x y t') ty (.bool (decide (c = d))) := by
  subst ht
  exact run_bin hx hy (fun w => run_eqGuard_agg w _ _ _ _ _ _ Tab.ceqG) (fun w => by
    show (binOp .eql (Tab.ceq P) (.agg #[.int .u32 c.pos, .int .u32 c.neg]) (.agg #[.int .u32 d.pos, .int .u32 d.neg])).run P w = _
    rw [run_eql_struct, Tab.ceq_ok, cl_eq]; rfl)
theorem pe_neC [Tab P] {t t' : TypeId} {c d : Cl} (ht : t = Tab.ceq P) (hx : ev σ x = .agg (clCells c).toArray) (hy : ev σ y = .agg (clCells d).toArray) : PureE P σ (.binOp .neq t x y t') ty (.bool (!decide (c = d))) := by
  subst ht
  exact run_bin hx hy (fun w => run_eqGuard_agg w _ _ _ _ _ _ Tab.ceqG) (fun w => by
    show (binOp .neq (Tab.ceq P) (.agg #[.int .u32 c.pos, .int .u32 c.neg]) (.agg #[.int .u32 d.pos, .int .u32 d.neg])).run P w = _
    rw [run_neq_struct, Tab.ceq_ok, cl_eq]; rfl)
theorem pe_convert [Tab P] {s d : TypeId} {k' : IntKind} {ds : TypeDesc} (hs : Tab.und P s = some ds) (hd : Tab.und P d = some (.int k')) (hx : ev σ x = .int k a) : PureE P σ (.convert s d x) ty (.int k' (k'.wrap a)) := fun w => by
  simp [opr, execOp, hx, convert, run_und0 hs, run_und0 hd, Conv.intToInt]
end

/-! ### Operations that read -/
section
variable {P : Program} [Tab P] {B : Base} {σ : Nat → Value} {Γ : List Fact} {Ms : List Res} {ty : TypeId} {x y : Operand} {v : Value}
theorem run_loadVar_agg {t : TypeId} {l : List (Nat × Nat)} {s bt : Nat} {zv : Value} {bk off : Nat} {cs : List Value} {w : World} (hu : Tab.lay P t = some l) (hi : Tab.inf P t = some (s, bt, zv)) (hl : cs.length = s) (hc : ∀ j v, cs[j]? = some v → w.cell? ⟨bk, off + j, none⟩ = some v) :
    (loadVar t ⟨bk, off, none⟩).run P w = .ok (.agg cs.toArray) w := by
  have h1 := run_loadCells_list (P := P) w ⟨bk, off, none⟩ cs (fun j v hj => by rw [Addr.add_lit]; exact hc j v hj)
  rw [hl] at h1
  obtain ⟨fs, h2, _⟩ := Tab.lay_ok t l hu
  simp [loadVar, isAgg, run_underlying h2, run_size0 hi, h1]
theorem isAgg_false {t : TypeId} {d : TypeDesc} (hu : Tab.und P t = some d) (hd : (match d with | .struct _ | .array _ _ => true | _ => false) = false) (w : World) : (isAgg t).run P w = .ok false w := by
  unfold isAgg
  rw [bind_ok (run_und0 hu w)]
  cases d <;> simp_all
theorem run_loadVar_one {t : TypeId} {d : TypeDesc} {bk off : Nat} {w : World} (hu : Tab.und P t = some d) (hd : (match d with | .struct _ | .array _ _ => true | _ => false) = false) (hc : w.cell? ⟨bk, off, none⟩ = some v) :
    (loadVar t ⟨bk, off, none⟩).run P w = .ok v w := by
  unfold loadVar
  rw [bind_ok (isAgg_false hu hd w)]
  simp [hc]

/-- One cell of a fact. -/
theorem le_one {t : TypeId} {d : TypeDesc} {bk o k : Nat} {cs : List Value} (hx : ev σ x = .pointer (some ⟨bk, o + k, none⟩)) (hF : At bk o cs ∈ Γ) (hu : Tab.und P t = some d) (hd : (match d with | .struct _ | .array _ _ => true | _ => false) = false) (hk : cs[k]? = some v) : LoadE P B σ Γ Ms (.load t x) ty v := fun w hs => by
  have h1 := (hs.facts _ hF).2 k v hk
  simp [opr, execOp, hx, Instr.loadAt, Instr.sureAddr, run_loadVar_one hu hd h1]
/-- A struct's cells, from the k-th of a fact on. -/
theorem le_agg {t : TypeId} {l : List (Nat × Nat)} {s bt : Nat} {zv : Value} {bk o k : Nat} {cs cs' : List Value} (hx : ev σ x = .pointer (some ⟨bk, o + k, none⟩)) (hF : At bk o cs ∈ Γ) (hu : Tab.lay P t = some l) (hi : Tab.inf P t = some (s, bt, zv)) (hk : (cs.drop k).take s = cs') (hl : cs'.length = s) : LoadE P B σ Γ Ms (.load t x) ty (.agg cs'.toArray) := fun w hs => by
  have h1 := (hs.facts _ hF).2
  have h2 := run_loadVar_agg (P := P) (bk := bk) (off := o + k) (w := w) hu hi hl (fun j v hj => by
    subst hk
    have : cs[k + j]? = some v := by
      rw [List.getElem?_take] at hj
      split at hj
      · rwa [List.getElem?_drop] at hj
      · cases hj
    have := h1 (k + j) v this
    rwa [← Nat.add_assoc] at this)
  simp [opr, execOp, hx, Instr.loadAt, Instr.sureAddr, h2]
theorem box_cell {w : World} {b : Nat} {cs : List Value} {T : TypeId} (hs : St B Γ Ms w) (hm : boxR b cs T ∈ Ms) : ∀ j v, cs[j]? = some v → w.cell? ⟨b, j, none⟩ = some v := by
  intro j v hj
  have h1 : w.heap[b]? = some (.cells cs.toArray T (0, 0)) := hs.res _ hm w (fun _ _ => rfl)
  simp [World.cell?, h1, hj]
theorem lb_one {t T : TypeId} {d : TypeDesc} {bk k : Nat} {cs : List Value} (hx : ev σ x = .pointer (some ⟨bk, k, none⟩)) (hF : boxR bk cs T ∈ Ms) (hu : Tab.und P t = some d) (hd : (match d with | .struct _ | .array _ _ => true | _ => false) = false) (hk : cs[k]? = some v) : LoadE P B σ Γ Ms (.load t x) ty v := fun w hs => by
  have h1 := box_cell hs hF k v hk
  simp [opr, execOp, hx, Instr.loadAt, Instr.sureAddr, run_loadVar_one hu hd h1]
theorem lb_agg {t T : TypeId} {l : List (Nat × Nat)} {s bt : Nat} {zv : Value} {bk k : Nat} {cs cs' : List Value} (hx : ev σ x = .pointer (some ⟨bk, k, none⟩)) (hF : boxR bk cs T ∈ Ms) (hu : Tab.lay P t = some l) (hi : Tab.inf P t = some (s, bt, zv)) (hk : (cs.drop k).take s = cs') (hl : cs'.length = s) : LoadE P B σ Γ Ms (.load t x) ty (.agg cs'.toArray) := fun w hs => by
  have h1 := box_cell hs hF
  have h2 := run_loadVar_agg (P := P) (bk := bk) (off := k) (w := w) hu hi hl (fun j v hj => by
    subst hk
    have : cs[k + j]? = some v := by
      rw [List.getElem?_take] at hj
      split at hj
      · rwa [List.getElem?_drop] at hj
      · cases hj
    exact h1 (k + j) v this)
  simp [opr, execOp, hx, Instr.loadAt, Instr.sureAddr, h2]

/-! ### New variables -/
theorem ae_box {t : TypeId} {cs : List Value} (hx : (ev σ x).cells = cs.toArray) : AllocE P σ (.box t x) ty (fun b => .pointer (some ⟨b, 0, none⟩)) cs t := fun w => by
  simp [opr, execOp, Instr.box, newVar, newRow, hx, newObj, Sem.run, Result.andThen]
theorem ae_alloc {t : TypeId} {s bt : Nat} {zv : Value} {cs : List Value} (hi : Tab.inf P t = some (s, bt, zv)) (hz : zv.cells = cs.toArray) : AllocE P σ (.alloc t) ty (fun b => .pointer (some ⟨b, 0, none⟩)) cs t := fun w => by
  simp [opr, execOp, Instr.alloc, newVar, newRow, run_zero0 hi, hz]

/-! ### Stores -/
theorem setCell_row {w : World} {b j : Nat} {cs : Array Value} {T : TypeId} (v : Value) (h : w.heap[b]? = some (.cells cs T (0, 0))) : (w.setCell ⟨b, j, none⟩ v).heap[b]? = some (.cells (cs.setIfInBounds j v) T (0, 0)) := by
  simp [World.setCell, Array.getElem?_modify, h]
theorem St.store {w w' : World} {b : Nat} {cs cs' : List Value} {T : TypeId} (hs : St B Γ (boxR b cs T :: Ms) w) (hc : Chg (fun x => x = b) w w') (hh : w'.heap[b]? = some (.cells cs'.toArray T (0, 0))) : St B Γ (boxR b cs' T :: Ms) w' := by
  refine hs.turn hc (fun w2 h2 => ?_) (fun x hx => ?_)
  · show w2.heap[b]? = _
    rw [h2 b rfl]; exact hh
  · have hx : x = b := hx
    subst hx
    exact ⟨(Array.getElem?_eq_some_iff.1 hh).1, .inl rfl⟩
theorem perm0 {m : Res} {L : List Res} : (m :: L).Perm (m :: L) := List.Perm.refl _
theorem permA {L M : List Res} : (L ++ M).Perm (M ++ L) := List.perm_append_comm
theorem permA1 {a : Res} {M : List Res} : (a :: M).Perm (M ++ [a]) := List.perm_append_comm (l₁ := [_])
theorem permA2 {a b : Res} {M : List Res} : (a :: b :: M).Perm (M ++ [a, b]) := List.perm_append_comm (l₁ := [_, _])
theorem permA3 {a b c : Res} {M : List Res} : (a :: b :: c :: M).Perm (M ++ [a, b, c]) := List.perm_append_comm (l₁ := [_, _, _])
theorem permA4 {a b c d : Res} {M : List Res} : (a :: b :: c :: d :: M).Perm (M ++ [a, b, c, d]) := List.perm_append_comm (l₁ := [_, _, _, _])
theorem perm1 {a m : Res} {L : List Res} : (a :: m :: L).Perm (m :: a :: L) := List.Perm.swap _ _ _
theorem permR3 {a b c : Res} {L : List Res} : (c :: b :: a :: L).Perm (a :: b :: c :: L) := (List.Perm.swap _ _ _).trans (((List.Perm.swap _ _ _).cons _).trans (List.Perm.swap _ _ _))
theorem perm2 {a b m : Res} {L : List Res} : (a :: b :: m :: L).Perm (m :: a :: b :: L) := (perm1.cons a).trans perm1
theorem perm3 {a b c m : Res} {L : List Res} : (a :: b :: c :: m :: L).Perm (m :: a :: b :: c :: L) := (perm2.cons a).trans perm1
theorem perm4 {a b c d m : Res} {L : List Res} : (a :: b :: c :: d :: m :: L).Perm (m :: a :: b :: c :: d :: L) := (perm3.cons a).trans perm1
theorem perm5 {a b c d e m : Res} {L : List Res} : (a :: b :: c :: d :: e :: m :: L).Perm (m :: a :: b :: c :: d :: e :: L) := (perm4.cons a).trans perm1
theorem perm6 {a b c d e f m : Res} {L : List Res} : (a :: b :: c :: d :: e :: f :: m :: L).Perm (m :: a :: b :: c :: d :: e :: f :: L) := (perm5.cons a).trans perm1

def oneCells (cs : List Value) : Bool := cs.all (·.oneCell')
/-- A whole variable is written. -/
theorem se_box {t T : TypeId} {b s bt : Nat} {zv : Value} {cs cs' : List Value} {Ms2 : List Res} (hx : ev σ x = .pointer (some ⟨b, 0, none⟩)) (hy : (ev σ y).cells = cs'.toArray) (hm : Ms.Perm (boxR b cs T :: Ms2)) (hi : Tab.inf P t = some (s, bt, zv)) (hl : cs'.length = s) (hl2 : cs.length = s) (h1 : oneCells cs' = true) :
    StoreE P B σ Γ Ms (.store t x y) ty Γ (boxR b cs' T :: Ms2) := fun w hs => by
  have hs' := hs.perm hm
  have hg : w.heap[b]? = some (.cells cs.toArray T (0, 0)) := hs'.res _ List.mem_cons_self w (fun _ _ => rfl)
  have hst := run_storeCells_from (P := P) b T cs' 0 cs.toArray w hg (by simp; omega) (fun v hv => by have := List.all_eq_true.1 h1 v hv; exact this)
  have hr : (storeVar t ⟨b, 0, none⟩ (ev σ y)).run P w = .ok () (w.setRow b cs'.toArray) := by
    unfold storeVar
    rw [bind_ok (run_size0 hi w)]
    simp [hy, hl]
    simpa using hst
  refine ⟨w.setRow b cs'.toArray, ?_, hs'.store ⟨rfl, rfl, rfl, by simp, fun k _ hk => setRow_other w b k _ hk⟩ (setRow_heap w b cs.toArray cs'.toArray T (0, 0) hg)⟩
  simp [opr, execOp, hx, Instr.storeAt, Instr.sureAddr, hr]
/-- One cell of a variable is written. -/
theorem se_cell {t T : TypeId} {b k bt : Nat} {zv v : Value} {cs : List Value} {Ms2 : List Res} (hx : ev σ x = .pointer (some ⟨b, k, none⟩)) (hy : ev σ y = v) (hm : Ms.Perm (boxR b cs T :: Ms2)) (hi : Tab.inf P t = some (1, bt, zv)) (h1 : v.oneCell' = true) (hk : k < cs.length) :
    StoreE P B σ Γ Ms (.store t x y) ty Γ (boxR b (cs.set k v) T :: Ms2) := fun w hs => by
  have hs' := hs.perm hm
  have hg : w.heap[b]? = some (.cells cs.toArray T (0, 0)) := hs'.res _ List.mem_cons_self w (fun _ _ => rfl)
  have hcell : w.cell? ⟨b, k, none⟩ = some cs[k] := by simp [World.cell?, hg, hk]
  have hfro : w.frozen? ⟨b, k, none⟩ = false := by simp [World.frozen?, hg]
  have hvc : v.cells = #[v] := by cases v <;> simp_all [Value.cells, Value.oneCell']
  have hr : (storeVar t ⟨b, k, none⟩ v).run P w = .ok () (w.setCell ⟨b, k, none⟩ v) := by
    unfold storeVar
    rw [bind_ok (run_size0 hi w)]
    simp only [hvc, List.size_toArray, List.length_cons, List.length_nil, ne_eq, not_true, if_false]
    show (do store ((⟨b, k, none⟩ : Addr).add 0) v; pure () : Sem Unit).run P w = _
    have hst : (store ((⟨b, k, none⟩ : Addr).add 0) v).run P w = .ok () (w.setCell ⟨b, k, none⟩ v) := by
      rw [Addr.add_zero', run_store P w ⟨b, k, none⟩ v _ h1, hcell]
      simp [hfro]
    rw [bind_ok hst]
    rfl
  refine ⟨w.setCell ⟨b, k, none⟩ v, ?_, hs'.store (Chg.setCell w b k v) ?_⟩
  · simp [opr, execOp, hx, hy, Instr.storeAt, Instr.sureAddr, hr]
  · rw [setCell_row v hg]; simp

/-! ### Slices of the call's own -/
def rowR (sz : Nat) (e : TypeId) (v : Value) (n : Nat) (xs : List Value) : Res := ⟨fun b => v.ownBlock = some b, fun w => w.ownsRow 0 e sz v n xs⟩
theorem rowR_keeps {sz n : Nat} {e : TypeId} {v : Value} {xs : List Value} {w w2 : World} (h : w.ownsRow 0 e sz v n xs) (hb : ∀ b, v.ownBlock = some b → w2.heap[b]? = w.heap[b]?) : w2.ownsRow 0 e sz v n xs := by
  refine ⟨h.1, ?_⟩
  rcases h.2 with h2 | ⟨g, cap, cur, h1, h2, h3, h4⟩
  · exact .inl h2
  · exact .inr ⟨g, cap, cur, h1, h2, by rw [hb g (by rw [h1]; rfl)]; exact h3, h4⟩
/-- A nil slice, to be grown. -/
theorem St.row0 {w : World} (sz : Nat) (e : TypeId) (hs : St B Γ Ms w) : St B Γ (rowR sz e (.slice none 0 0) 0 [] :: Ms) w := by
  refine hs.born (Chg.refl _ _) (fun w2 _ => ⟨by simp, .inl ⟨rfl, rfl⟩⟩) (fun b hb => ?_)
  have hb : Value.ownBlock (.slice none 0 0) = some b := hb
  simp [Value.ownBlock] at hb
/-- append of what lies in a variable of the call's own (a literal's array). -/
theorem te_append {t e T : TypeId} {ts : Array TypeId} {sz bt n m c b : Nat} {zv v : Value} {xs cs : List Value} {Ms2 : List Res} (hts : ts = #[t, t]) (hu : Tab.und P t = some (.slice e)) (hi : Tab.inf P e = some (sz, bt, zv)) (hzs : zv.cells.size = sz) (hsz : 0 < sz)
    (hx : ev σ x = v) (hy : ev σ y = .slice (some ⟨b, 0, none⟩) m c) (hm : Ms.Perm (rowR sz e v n xs :: boxR b cs T :: Ms2)) (hl : cs.length = m * sz) (h1 : oneCells cs = true) (hb : (n + m) * bt ≤ 140737488355328) (hnm : n + m ≤ 9223372036854775807) :
    TurnE P B σ Γ Ms (.call { callee := .builtin .append, args := #[x, y], argTypes := ts }) ty (fun v' => v') (fun _ => Γ) (fun v' => rowR sz e v' (n + m) (xs ++ cs) :: Ms2) := fun w hs => by
  have hs' := hs.perm hm
  obtain ⟨i, hi1, hi2, hi3, hi4⟩ := Tab.inf_ok e sz bt zv hi
  have hown : w.ownsRow 0 e sz v n xs := hs'.res _ List.mem_cons_self w (fun _ _ => rfl)
  have hbox := box_cell hs' (List.mem_cons_of_mem _ List.mem_cons_self)
  obtain ⟨v', w', hr, h2, h3, _, h5⟩ := run_append_own_at (P := P) w 0 t ty e i zv sz bt (Tab.und_ok t _ hu) hi1 hi4 hi2 hi3 hzs hsz v n xs hown ⟨b, 0, none⟩ m c cs hl (fun j u hj => by rw [Addr.add_lit, Nat.zero_add]; exact hbox j u hj) (fun u hu => by have := List.all_eq_true.1 h1 u hu; exact this) (by simpa [maxLen] using hnm) hb (Nat.zero_le _)
  refine ⟨v', w', ?_, ?_⟩
  · subst hts
    simp [opr, execOp, resolve, invoke, builtin, hx, hy, hr]
  · have hs2 := (hs'.perm perm1).drop
    refine hs2.turn ⟨h3.os, h3.tape, h3.output, h3.size, fun k hk hn => h3.block k hk (fun e => hn e.symm)⟩ (fun w2 hw2 => rowR_keeps h2 hw2) (fun k hk => ?_)
    have hk : v'.ownBlock = some k := hk
    refine ⟨(h2.lt k hk).2, ?_⟩
    rcases h5 with h5 | h5
    · exact .inl (h5.symm.trans hk)
    · rw [h5] at hk; injection hk with hk; exact .inr (Nat.le_of_eq hk)
theorem ae_lit {t e : TypeId} {sz bt len : Nat} {zv : Value} {parts : Array (Nat × Operand)} {pv : List (Nat × Value)} {cs : List Value} (hu : Tab.und P t = some (.slice e)) (hi : Tab.inf P e = some (sz, bt, zv)) (hle : len * sz ≤ 16777216) (hp : parts.toList.map (fun (i, x) => (i, ev σ x)) = pv)
    (hf : Instr.fill (fun i => some (i * sz, sz)) ((List.range (len * sz)).map (zv.cells[· % zv.cells.size]!)).toArray pv = some cs.toArray) :
    AllocE P σ (.buildSlice t len parts) ty (fun b => .slice (some ⟨b, 0, none⟩) len len) cs e := fun w => by
  have hp : (parts.map fun (i, x) => (i, ev σ x)).toList = pv := by rw [Array.toList_map]; exact hp
  have hf : Instr.fill (fun i => some (i * sz, sz)) ((Array.range (len * sz)).map (zv.cells[· % zv.cells.size]!)) pv = some cs.toArray := by rw [← hf]; congr 1; apply Array.ext'; simp
  subst hp
  have key : (Instr.buildSlice t len (parts.map fun (i, x) => (i, ev σ x))).run P w = .ok (.slice (some ⟨w.heap.size, 0, none⟩) len len) { w with heap := w.heap.push (.cells cs.toArray e (0, 0)) } := by
    unfold Instr.buildSlice
    rw [bind_ok (run_und0 hu w)]
    simp only
    rw [bind_ok (run_size0 hi w)]
    have hng : ¬ len * sz > 2 ^ 24 := by simp; omega
    rw [if_neg hng]
    by_cases hz : len * sz = 0
    · rw [hz] at hf ⊢
      simp only [if_true]
      have hr : Array.range 0 = #[] := rfl
      rw [hr] at hf ⊢
      simp only [Array.map_empty] at hf ⊢
      rw [bind_ok (pure_ok (P := P) (#[] : Array Value) w)]
      rw [hf]
      rfl
    · rw [if_neg hz]
      rw [bind_ok (run_zero0 hi w)]
      rw [bind_ok (pure_ok (P := P) zv.cells w)]
      rw [hf]
      rfl
  simp only [opr, execOp]
  rw [bind_ok key]
  rfl
/-! ### Elements of lists -/
theorem row_cells {bk o sz bt n i : Nat} {a : SH} {E : Nat → List Value} {ok : Nat → Prop} {w : World} (h : rowAt ok sz bt n a E w) (ha : a.1 = some ⟨bk, o, none⟩) (hi : i < n) : ok bk ∧ ∀ j v, (E i)[j]? = some v → w.cell? ⟨bk, o + i * sz + j, none⟩ = some v := by
  obtain ⟨b, o', h1, h2, h3⟩ := h.2.2 (by omega)
  rw [ha] at h1
  injection h1 with h1
  injection h1 with h1 h1'
  subst h1 h1'
  exact ⟨h2, h3 i hi⟩
theorem le_cl {t : TypeId} {lay : List (Nat × Nat)} {bt bk o i : Nat} {a : SH} {zv : Value} {l : List Cl} (hx : ev σ x = .pointer (some ⟨bk, o + i * 2, none⟩)) (hF : CL l a ∈ Γ) (ha : a.1 = some ⟨bk, o, none⟩) (hu : Tab.lay P t = some lay) (hi : Tab.inf P t = some (2, bt, zv)) (hlt : i < l.length) :
    LoadE P B σ Γ Ms (.load t x) ty (.agg (clCells (l.getD i cl0)).toArray) := fun w hs => by
  have h3 := (row_cells (hs.facts _ hF).1 ha hlt).2
  have h4 := run_loadVar_agg (P := P) (bk := bk) (off := o + i * 2) (w := w) hu hi (cs := clCells (l.getD i cl0)) rfl h3
  simp [opr, execOp, hx, Instr.loadAt, Instr.sureAddr, h4]
theorem le_term {t : TypeId} {lay : List (Nat × Nat)} {bt bk o i : Nat} {a : SH} {zv : Value} {ts : List T} {VR VK VS : Nat → SH} (hx : ev σ x = .pointer (some ⟨bk, o + i * 6, none⟩)) (hF : TLx ts a VR VK VS ∈ Γ) (ha : a.1 = some ⟨bk, o, none⟩) (hu : Tab.lay P t = some lay) (hi : Tab.inf P t = some (6, bt, zv)) (hlt : i < ts.length) :
    LoadE P B σ Γ Ms (.load t x) ty (.agg (tc (ts.getD i t0) (VR i) (VK i) (VS i)).toArray) := fun w hs => by
  have h3 := (row_cells (hs.facts _ hF).1 ha hlt).2
  have h4 := run_loadVar_agg (P := P) (bk := bk) (off := o + i * 6) (w := w) hu hi (cs := tc (ts.getD i t0) (VR i) (VK i) (VS i)) rfl h3
  simp [opr, execOp, hx, Instr.loadAt, Instr.sureAddr, h4]
theorem le_br {t : TypeId} {lay : List (Nat × Nat)} {bt bk o i : Nat} {a : SH} {zv : Value} {bs : List Br} {VF VK : Nat → SH} (hx : ev σ x = .pointer (some ⟨bk, o + i * 2, none⟩)) (hF : BLx bs a VF VK ∈ Γ) (ha : a.1 = some ⟨bk, o, none⟩) (hu : Tab.lay P t = some lay) (hi : Tab.inf P t = some (2, bt, zv)) (hlt : i < bs.length) :
    LoadE P B σ Γ Ms (.load t x) ty (.agg (bc (bs.getD i br0) (VF i) (VK i)).toArray) := fun w hs => by
  have h3 := (row_cells (hs.facts _ hF).1 ha hlt).2
  have h4 := run_loadVar_agg (P := P) (bk := bk) (off := o + i * 2) (w := w) hu hi (cs := bc (bs.getD i br0) (VF i) (VK i)) rfl h3
  simp [opr, execOp, hx, Instr.loadAt, Instr.sureAddr, h4]
/-- One field of an element. -/
theorem le_termf {t : TypeId} {d : TypeDesc} {bk o i k : Nat} {a : SH} {ts : List T} {VR VK VS : Nat → SH} (hx : ev σ x = .pointer (some ⟨bk, o + i * 6 + k, none⟩)) (hF : TLx ts a VR VK VS ∈ Γ) (ha : a.1 = some ⟨bk, o, none⟩) (hu : Tab.und P t = some d) (hd : (match d with | .struct _ | .array _ _ => true | _ => false) = false) (hk : (tc (ts.getD i t0) (VR i) (VK i) (VS i))[k]? = some v) (hlt : i < ts.length) :
    LoadE P B σ Γ Ms (.load t x) ty v := fun w hs => by
  have h3 := (row_cells (hs.facts _ hF).1 ha hlt).2 k v hk
  simp [opr, execOp, hx, Instr.loadAt, Instr.sureAddr, run_loadVar_one hu hd h3]
theorem le_brf {t : TypeId} {d : TypeDesc} {bk o i k : Nat} {a : SH} {bs : List Br} {VF VK : Nat → SH} (hx : ev σ x = .pointer (some ⟨bk, o + i * 2 + k, none⟩)) (hF : BLx bs a VF VK ∈ Γ) (ha : a.1 = some ⟨bk, o, none⟩) (hu : Tab.und P t = some d) (hd : (match d with | .struct _ | .array _ _ => true | _ => false) = false) (hk : (bc (bs.getD i br0) (VF i) (VK i))[k]? = some v) (hlt : i < bs.length) :
    LoadE P B σ Γ Ms (.load t x) ty v := fun w hs => by
  have h3 := (row_cells (hs.facts _ hF).1 ha hlt).2 k v hk
  simp [opr, execOp, hx, Instr.loadAt, Instr.sureAddr, run_loadVar_one hu hd h3]
theorem le_clf {t : TypeId} {d : TypeDesc} {bk o i k : Nat} {a : SH} {l : List Cl} (hx : ev σ x = .pointer (some ⟨bk, o + i * 2 + k, none⟩)) (hF : CL l a ∈ Γ) (ha : a.1 = some ⟨bk, o, none⟩) (hu : Tab.und P t = some d) (hd : (match d with | .struct _ | .array _ _ => true | _ => false) = false) (hk : (clCells (l.getD i cl0))[k]? = some v) (hlt : i < l.length) :
    LoadE P B σ Γ Ms (.load t x) ty v := fun w hs => by
  have h3 := (row_cells (hs.facts _ hF).1 ha hlt).2 k v hk
  simp [opr, execOp, hx, Instr.loadAt, Instr.sureAddr, run_loadVar_one hu hd h3]

/-! ### What is known, otherwise said -/
theorem St.open {w : World} {t : T} {vr vk vs : SH} (hs : St B Γ Ms w) (hF : RT t vr vk vs ∈ Γ) : St B (CL t.r vr :: TL t.kids vk :: BL t.sys vs :: Γ) Ms w ∧ in64 t.kind ∧ in64 t.n ∧ t.name.size ≤ cap47 := by
  obtain ⟨h1, h2, h3, h4, h5, h6⟩ := termAt_parts (hs.facts _ hF)
  exact ⟨((hs.add (F := BL t.sys vs) h6).add (F := TL t.kids vk) h5).add (F := CL t.r vr) h4, h1, h2, h3⟩
theorem St.openTL {w : World} {ts : List T} {a : SH} (hs : St B Γ Ms w) (hF : TL ts a ∈ Γ) : ∃ VR VK VS, St B (TLx ts a VR VK VS :: Γ) Ms w ∧ ts.length * 104 ≤ reach ∧ (0 < ts.length → ∃ b o, a.1 = some ⟨b, o, none⟩) := by
  obtain ⟨VR, VK, VS, h2⟩ := hs.facts _ hF
  exact ⟨VR, VK, VS, hs.add h2, h2.1.2.1, fun hn => by obtain ⟨b, o, h3, _⟩ := h2.1.2.2 hn; exact ⟨b, o, h3⟩⟩
theorem St.openBL {w : World} {bs : List Br} {a : SH} (hs : St B Γ Ms w) (hF : BL bs a ∈ Γ) : ∃ VF VK, St B (BLx bs a VF VK :: Γ) Ms w ∧ bs.length * 48 ≤ reach ∧ (0 < bs.length → ∃ b o, a.1 = some ⟨b, o, none⟩) := by
  obtain ⟨VF, VK, h2⟩ := hs.facts _ hF
  exact ⟨VF, VK, hs.add h2, h2.1.2.1, fun hn => by obtain ⟨b, o, h3, _⟩ := h2.1.2.2 hn; exact ⟨b, o, h3⟩⟩
theorem St.openCL {w : World} {l : List Cl} {a : SH} (hs : St B Γ Ms w) (hF : CL l a ∈ Γ) : l.length * 8 ≤ reach ∧ (0 < l.length → ∃ b o, a.1 = some ⟨b, o, none⟩) ∧ ∀ c, c ∈ l → u32 c := by
  obtain ⟨h2, h4⟩ := hs.facts _ hF
  exact ⟨h2.2.1, fun hn => by obtain ⟨b, o, h3, _⟩ := h2.2.2 hn; exact ⟨b, o, h3⟩, h4⟩
theorem St.kid {w : World} {ts : List T} {a : SH} {i : Nat} {VR VK VS : Nat → SH} (hs : St B Γ Ms w) (hF : TLx ts a VR VK VS ∈ Γ) (hi : i < ts.length) : St B (RT (ts.getD i t0) (VR i) (VK i) (VS i) :: Γ) Ms w := by
  refine hs.add ?_
  have h1 := (hs.facts _ hF).2
  refine allAt_get h1 ?_
  simp [List.getD_eq_getElem?_getD, hi]
theorem St.branch {w : World} {bs : List Br} {a : SH} {i : Nat} {VF VK : Nat → SH} (hs : St B Γ Ms w) (hF : BLx bs a VF VK ∈ Γ) (hi : i < bs.length) : St B (CL (bs.getD i br0).face (VF i) :: TL (bs.getD i br0).kids (VK i) :: Γ) Ms w := by
  have h1 := (hs.facts _ hF).2
  have h2 : brAt (okOf B Ms w) (bs.getD i br0) (VF i) (VK i) w := brsAt_get h1 (by simp [List.getD_eq_getElem?_getD, hi])
  obtain ⟨h3, h4⟩ := brAt_parts h2
  exact (hs.add (F := TL (bs.getD i br0).kids (VK i)) h4).add (F := CL (bs.getD i br0).face (VF i)) h3
end

section
variable {P : Program} {f : FuncId} {R : Ending → World → Prop} {B : Base} {n : Nat} {todo : List Item} {σ : Nat → Value} {Γ : List Fact} {Ms : List Res}
/-- Something is known of what is there. -/
theorem go_know {p : Prop} (h : ∀ w, St B Γ Ms w → p) (k : p → GoT P f R B n todo σ Γ Ms) : GoT P f R B n todo σ Γ Ms := fun a w hr hs => k (h w hs) a w hr hs
theorem go_ghost {X : Type} {Γ' : X → List Fact} {Ms' : X → List Res} (h : ∀ w, St B Γ Ms w → ∃ x, St B (Γ' x) (Ms' x) w) (k : ∀ x, GoT P f R B n todo σ (Γ' x) (Ms' x)) : GoT P f R B n todo σ Γ Ms := fun a w hr hs => by
  obtain ⟨x, hx⟩ := h w hs
  exact k x a w hr hx
theorem go_open {t : T} {vr vk vs : SH} (k : in64 t.kind → in64 t.n → t.name.size ≤ cap47 → GoT P f R B n todo σ (CL t.r vr :: TL t.kids vk :: BL t.sys vs :: Γ) Ms) (hF : RT t vr vk vs ∈ Γ := by repeat (first | exact List.mem_cons_self | apply List.mem_cons_of_mem)) : GoT P f R B n todo σ Γ Ms :=
  fun a w hr hs => by obtain ⟨h1, h2, h3, h4⟩ := hs.open hF; exact k h2 h3 h4 a w hr h1
theorem go_openTL {ts : List T} {a : SH} (k : ∀ VR VK VS, ts.length * 104 ≤ reach → (0 < ts.length → ∃ b o, a.1 = some ⟨b, o, none⟩) → GoT P f R B n todo σ (TLx ts a VR VK VS :: Γ) Ms) (hF : TL ts a ∈ Γ := by repeat (first | exact List.mem_cons_self | apply List.mem_cons_of_mem)) : GoT P f R B n todo σ Γ Ms :=
  fun a w hr hs => by obtain ⟨VR, VK, VS, h2, h3, h4⟩ := hs.openTL hF; exact k VR VK VS h3 h4 a w hr h2
theorem go_openBL {bs : List Br} {a : SH} (k : ∀ VF VK, bs.length * 48 ≤ reach → (0 < bs.length → ∃ b o, a.1 = some ⟨b, o, none⟩) → GoT P f R B n todo σ (BLx bs a VF VK :: Γ) Ms) (hF : BL bs a ∈ Γ := by repeat (first | exact List.mem_cons_self | apply List.mem_cons_of_mem)) : GoT P f R B n todo σ Γ Ms :=
  fun a w hr hs => by obtain ⟨VF, VK, h2, h3, h4⟩ := hs.openBL hF; exact k VF VK h3 h4 a w hr h2
theorem go_openCL {l : List Cl} {a : SH} (k : l.length * 8 ≤ reach → (0 < l.length → ∃ b o, a.1 = some ⟨b, o, none⟩) → (∀ c, c ∈ l → u32 c) → GoT P f R B n todo σ Γ Ms) (hF : CL l a ∈ Γ := by repeat (first | exact List.mem_cons_self | apply List.mem_cons_of_mem)) : GoT P f R B n todo σ Γ Ms :=
  fun a w hr hs => by obtain ⟨h2, h3, h4⟩ := hs.openCL hF; exact k h2 h3 h4 a w hr hs
theorem go_kid {ts : List T} {a : SH} {VR VK VS : Nat → SH} (i : Nat) (hi : i < ts.length) (k : GoT P f R B n todo σ (RT (ts.getD i t0) (VR i) (VK i) (VS i) :: Γ) Ms) (hF : TLx ts a VR VK VS ∈ Γ := by repeat (first | exact List.mem_cons_self | apply List.mem_cons_of_mem)) : GoT P f R B n todo σ Γ Ms := fun a w hr hs => k a w hr (hs.kid hF hi)
theorem go_branch {bs : List Br} {a : SH} {VF VK : Nat → SH} (i : Nat) (hi : i < bs.length) (k : GoT P f R B n todo σ (CL (bs.getD i br0).face (VF i) :: TL (bs.getD i br0).kids (VK i) :: Γ) Ms) (hF : BLx bs a VF VK ∈ Γ := by repeat (first | exact List.mem_cons_self | apply List.mem_cons_of_mem)) : GoT P f R B n todo σ Γ Ms := fun a w hr hs => k a w hr (hs.branch hF hi)
end

/-! ### A call's contract, proved by a run -/
/-- What a run that keeps a contract ends in. -/
def Ends (B : Base) {X : Type} (val : X → Value) (N : X → List Fact) (Ms1 : X → List Res) (e : Ending) (w' : World) : Prop := ∃ x, e = .returned (val x) ∧ St B (N x) (Ms1 x) w'
theorem spec_go {P : Program} {k : FuncId} {fn : Func} {c : Code} {args : List Value} {pre : List Fact} {Ms0 : List Res} {X : Type} {val : X → Value} {N : X → List Fact} {Ms1 : X → List Res} {n : Nat}
    (hf : P.funcs[k]? = some fn) (hn : fn.ntmps = n) (hb : fn.body = some c) (ha : args.length ≤ n)
    (h : ∀ B : Base, (∀ b, B.S0 b ↔ domAll Ms0 b) → GoT P k (Ends B val N Ms1) B n [.code c] (fun t => args.getD t undef) pre Ms0) : Spec P k args.toArray pre Ms0 val N Ms1 := by
  intro ok w hok hs
  refine calls_go hf hb hn (by simpa using ha) hs ?_
  have := h ⟨ok, domAll Ms0, w⟩ (fun _ => Iff.rfl)
  have he : (fun t => args.toArray.getD t undef) = fun t => args.getD t undef := by
    funext t
    simp [Array.getD_eq_getD_getElem?, List.getD_eq_getElem?_getD]
  rw [he]
  exact this
section
variable {P : Program} [Tab P] {f : FuncId} {fn : Func} {B : Base} {n : Nat} {K : List Item} {σ : Nat → Value} {Γ : List Fact} {Ms : List Res} {X : Type} {val : X → Value} {N : X → List Fact} {Ms1 : X → List Res}
theorem St.none {w : World} (hs : St B Γ Ms w) : St B [] [] w := by
  have h1 : St B [] Ms w := hs.less (fun F hF => by cases hF)
  have : ∀ (A : List Res), St B [] A w → St B [] [] w := by
    intro A
    induction A with
    | nil => exact id
    | cons m A ih => exact fun h => ih h.drop
  exact this Ms h1
theorem St.bare {w : World} (hs : St B Γ Ms w) : St B Γ [] w := by
  have : ∀ (A : List Res), St B Γ A w → St B Γ [] w := by
    intro A
    induction A with
    | nil => exact id
    | cons m A ih => exact fun h => ih h.drop
  exact this Ms hs
theorem St.dropR {w : World} {A C : List Res} (hs : St B Γ (A ++ C) w) : St B Γ A w := by
  have h := hs.perm (List.perm_append_comm)
  have : ∀ (C A : List Res), St B Γ (C ++ A) w → St B Γ A w := by
    intro C
    induction C with
    | nil => exact fun _ h => h
    | cons m C ih => exact fun A h => ih A h.drop
  exact this C A h
theorem results1 {r : Tmp} (hr : fn.results = #[.tmp r]) {a : Act} {w : World} (h : Rel n a σ) : (results fn a.tmps).run P w = .ok (σ r) w := by
  rw [results_tmp hr, h.get]
theorem results2 {r r2 : Tmp} (hr : fn.results = #[.tmp r, .tmp r2]) {a : Act} {w : World} (h : Rel n a σ) : (results fn a.tmps).run P w = .ok (.tuple #[σ r, σ r2]) w := by
  rw [results_tmp2 hr, h.get, h.get]
theorem results3 {r r2 r3 : Tmp} (hr : fn.results = #[.tmp r, .tmp r2, .tmp r3]) {a : Act} {w : World} (h : Rel n a σ) : (results fn a.tmps).run P w = .ok (.tuple #[σ r, σ r2, σ r3]) w := by
  have h1 := h.get r
  have h2 := h.get r2
  have h3 := h.get r3
  simp [results, hr, ← h1, ← h2, ← h3]
theorem ret1 {r : Tmp} {v : Value} (hf : P.funcs[f]? = some fn) (hr : fn.results = #[.tmp r]) (h1 : σ r = v) (x : X) (hv : v = val x) (hs : ∀ w, St B Γ Ms w → St B (N x) (Ms1 x) w) : GoT P f (Ends B val N Ms1) B n (.code .ret :: K) σ Γ Ms :=
  go_ret hf (fun a w ha _ => (results1 hr ha).trans (by rw [h1, hv])) (fun w h => ⟨x, rfl, hs w h⟩)
theorem ret0 (hf : P.funcs[f]? = some fn) (hr : fn.results = #[]) (x : X) (hv : Value.tuple #[] = val x) (hs : ∀ w, St B Γ Ms w → St B (N x) (Ms1 x) w) : GoT P f (Ends B val N Ms1) B n (.code .ret :: K) σ Γ Ms :=
  go_ret hf (fun a w ha _ => by rw [results_none hr, hv]) (fun w h => ⟨x, rfl, hs w h⟩)
theorem ret2 {r r2 : Tmp} {v v2 : Value} (hf : P.funcs[f]? = some fn) (hr : fn.results = #[.tmp r, .tmp r2]) (h1 : σ r = v) (h2 : σ r2 = v2) (x : X) (hv : Value.tuple #[v, v2] = val x) (hs : ∀ w, St B Γ Ms w → St B (N x) (Ms1 x) w) : GoT P f (Ends B val N Ms1) B n (.code .ret :: K) σ Γ Ms :=
  go_ret hf (fun a w ha _ => (results2 hr ha).trans (by rw [h1, h2, hv])) (fun w h => ⟨x, rfl, hs w h⟩)
theorem ret3 {r r2 r3 : Tmp} {v v2 v3 : Value} (hf : P.funcs[f]? = some fn) (hr : fn.results = #[.tmp r, .tmp r2, .tmp r3]) (h1 : σ r = v) (h2 : σ r2 = v2) (h3 : σ r3 = v3) (x : X) (hv : Value.tuple #[v, v2, v3] = val x) (hs : ∀ w, St B Γ Ms w → St B (N x) (Ms1 x) w) : GoT P f (Ends B val N Ms1) B n (.code .ret :: K) σ Γ Ms :=
  go_ret hf (fun a w ha _ => (results3 hr ha).trans (by rw [h1, h2, h3, hv])) (fun w h => ⟨x, rfl, hs w h⟩)
theorem end1 {r : Tmp} {v : Value} (hf : P.funcs[f]? = some fn) (hr : fn.results = #[.tmp r]) (h1 : σ r = v) (x : X) (hv : v = val x) (hs : ∀ w, St B Γ Ms w → St B (N x) (Ms1 x) w) : GoT P f (Ends B val N Ms1) B n [] σ Γ Ms :=
  go_end hf (fun a w ha _ => (results1 hr ha).trans (by rw [h1, hv])) (fun w h => ⟨x, rfl, hs w h⟩)
theorem end0 (hf : P.funcs[f]? = some fn) (hr : fn.results = #[]) (x : X) (hv : Value.tuple #[] = val x) (hs : ∀ w, St B Γ Ms w → St B (N x) (Ms1 x) w) : GoT P f (Ends B val N Ms1) B n [] σ Γ Ms :=
  go_end hf (fun a w ha _ => by rw [results_none hr, hv]) (fun w h => ⟨x, rfl, hs w h⟩)
theorem end2 {r r2 : Tmp} {v v2 : Value} (hf : P.funcs[f]? = some fn) (hr : fn.results = #[.tmp r, .tmp r2]) (h1 : σ r = v) (h2 : σ r2 = v2) (x : X) (hv : Value.tuple #[v, v2] = val x) (hs : ∀ w, St B Γ Ms w → St B (N x) (Ms1 x) w) : GoT P f (Ends B val N Ms1) B n [] σ Γ Ms :=
  go_end hf (fun a w ha _ => (results2 hr ha).trans (by rw [h1, h2, hv])) (fun w h => ⟨x, rfl, hs w h⟩)
theorem end3 {r r2 r3 : Tmp} {v v2 v3 : Value} (hf : P.funcs[f]? = some fn) (hr : fn.results = #[.tmp r, .tmp r2, .tmp r3]) (h1 : σ r = v) (h2 : σ r2 = v2) (h3 : σ r3 = v3) (x : X) (hv : Value.tuple #[v, v2, v3] = val x) (hs : ∀ w, St B Γ Ms w → St B (N x) (Ms1 x) w) : GoT P f (Ends B val N Ms1) B n [] σ Γ Ms :=
  go_end hf (fun a w ha _ => (results3 hr ha).trans (by rw [h1, h2, h3, hv])) (fun w h => ⟨x, rfl, hs w h⟩)
/-- A result that lies in a variable. -/
theorem retC {r t T : Nat} {b s bt : Nat} {zv : Value} {lay : List (Nat × Nat)} {cs : List Value} (hf : P.funcs[f]? = some fn) (hr : fn.results = #[.cell r t]) (x : X) (hb : σ r = .pointer (some ⟨b, 0, none⟩)) (hm : boxR b cs T ∈ Ms) (hl : Tab.lay P t = some lay) (hi : Tab.inf P t = some (s, bt, zv)) (hcs : cs.length = s) (hv : Value.agg cs.toArray = val x) (hs : ∀ w, St B Γ Ms w → St B (N x) (Ms1 x) w) : GoT P f (Ends B val N Ms1) B n (.code .ret :: K) σ Γ Ms :=
  go_ret hf (fun a w ha h => by
    have h1 := ha.get r
    rw [hb] at h1
    have h2 := run_loadVar_agg (P := P) (bk := b) (off := 0) (w := w) hl hi hcs (fun j v hj => by rw [Nat.zero_add]; exact box_cell h hm j v hj)
    have h1' : (a.tmps[r]?.getD undef) = .pointer (some ⟨b, 0, none⟩) := by simpa [Array.getD_eq_getD_getElem?] using h1
    simp [results, hr, asAddr, h1', h2, ← hv]) (fun w h => ⟨x, rfl, hs w h⟩)
end
end Go.Hy
