/- Contracts of this program's functions and the laws that they need: a separation logic over the machine's rules, one theorem each (partly printed by a program of this repository). -/
import Derived.HandedShaped
import Derived.DeepKeys4
import Derived.Carry
import Derived.WideLaws
import Derived.MapKept
import Derived.WideShapes
import Derived.Test.YtcofpfnnlageaaaGreatP2
namespace Go.Hy
set_option linter.unusedVariables false
set_option linter.unusedSimpArgs false
set_option linter.unusedSectionVars false
open Go Go.ChangeShapes Go.RowKit
set_option linter.unusedVariables false
/-! ### From a contract to a row -/
theorem Spec.calls {P : Program} {f : FuncId} {args : Array Value} {pre : List Fact} {X : Type} {val : X → Value} {N : X → List Fact} {Ms1 : X → List Res} (h : Spec P f args pre [] val N Ms1) (hv : ∀ x, val x = .bool true) {W : World} (hp : ∀ F, F ∈ pre → F.f (okw W) W) :
    Calls P f args W fun e W' => e = .returned (.bool true) ∧ Below W.heap.size W W' := by
  refine (h (okw W) W (fun b hb => ⟨hb, domAll_nil b⟩) ⟨Chg.refl _ _, fun F hF => F.mono _ _ W (fun b hb => ⟨.inl hb, hb, domAll_nil b⟩) (hp F hF), fun m hm => (by cases hm), fun m hm => (by cases hm), List.Pairwise.nil⟩).mono ?_
  intro e W' ⟨x, he, hs⟩
  exact ⟨by rw [he, hv x], ⟨hs.chg.os, hs.chg.tape, hs.chg.output, hs.chg.size, fun k hk => hs.chg.block k hk (domAll_nil k)⟩⟩
theorem trodAll_stays {P : Program} {H : Type} {enc : TypeId × Value → H} (hl : laidOutB P = true) {W W' : World} (hb : Below W.heap.size W W') : ∀ {ts : List TypeId} {vs : List Value} {ds : List (DataW H)} {ps : List MemPlace}, (∀ t, t ∈ ts → P.readableRec t = true ∧ t < P.types.size) →
    DataW.TrodAll enc P W 0 (fun _ => true) true ts vs ds ps → (∀ x ∈ ps, x.block < W.heap.size) → DataW.TrodAll enc P W' 0 (fun b => decide (b < W.heap.size)) true ts vs ds ps
  | [], _, _, _, _, h, _ => by
    obtain ⟨rfl, rfl, rfl⟩ := trodAll_nil h
    exact rfl
  | t :: ts, _, _, _, ht, h, hlt => by
    obtain ⟨v, vs1, d, ds1, a, b, rfl, rfl, rfl, h1, h2⟩ := trodAll_cons h
    have h3 := ht t List.mem_cons_self
    exact ⟨a, b, Below.trod hl h3.1 h3.2 h1 hb (fun x hx => hlt x (List.mem_append_left _ hx)), trodAll_stays hl hb (fun t' h' => ht t' (List.mem_cons_of_mem _ h')) h2 (fun x hx => hlt x (List.mem_append_right _ hx)), rfl⟩
theorem law_lifted {C : Checked} {os : Os} {f : FuncId} {fn : Func} {s : ChangeSpec} {conds : List PathCond} {ts : List TypeId} {tb : TypeId} {H : Type} {enc : TypeId × Value → H}
    (own : ownKnob C.prog.godebug = none) (started : os.Started) (noInit : C.prog.inits.idxOf? f = none) (hfn : C.prog.funcs[f]? = some fn)
    (witness : ∃ (w : World) (tape : Tape) (i : Input), w.os = os ∧ (w.forCall tape i).Shaped C.prog ∧ i.vars = [] ∧ Input.okWide C.prog (w.forCall tape i) .any w.heap.size f i ∧
      s.pre6 enc C.prog fn conds false (w.forCall tape i).memory i.args ∧ Assume.holds {} C.prog (lone (Frame.enter C.prog f i.args .normal) [] (w.forCall tape i)))
    (laid : laidOutB C.prog = true) (hps : fn.params.toList = ts) (hread : ts.all (fun t => C.prog.readableRec t && decide (t < C.prog.types.size)) = true) (hres : fn.resultTypes = #[tb]) (hbool : C.prog.underlying tb = some .bool) (hvars : s.vars = [])
    (hsays : ∀ ds : List (DataW H), ds.length = ts.length → s.fn H ds = { results := [.lit (.bool true)], args := ds })
    (hcall : ∀ (W : World) (base : Nat) (args : Array Value) (ds : List (DataW H)) (p : List MemPlace), (∀ (j : Nat) t v, ts[j]? = some t → args[j]? = some v → Value.okWide C.prog W .any base t v) →
      DataW.TrodAll enc C.prog W 0 (fun _ => true) true ts args.toList ds p → (∀ x, x ∈ DataW.weightsEach C.prog ts ds → x ≤ reach) →
      Calls C.prog f args W fun e W' => e = .returned (.bool true) ∧ Below W.heap.size W W') :
    ReturnsInHanded {} C os f .any (s.pre6 enc C.prog fn conds false) (s.post enc C.prog fn false true false false) := by
  refine returnsInHanded_of_change_shaped own started noInit hfn witness ?_
  intro W base args ds gs before hval hW hcnd hwt _ _
  have hW' := hW
  obtain ⟨p, q, hA, hV, rfl, hfz, hnd⟩ := hW
  rw [hvars] at hV
  obtain ⟨rfl, rfl⟩ := trodVars_none hV
  rw [hps] at hA hwt
  have hlen : ∀ {ts : List TypeId} {vs : List Value} {ds : List (DataW H)} {ps : List MemPlace}, DataW.TrodAll enc C.prog W 0 (fun _ => true) true ts vs ds ps → ds.length = ts.length := by
    intro ts
    induction ts with
    | nil => intro vs ds ps h; obtain ⟨_, rfl, _⟩ := trodAll_nil h; rfl
    | cons t ts ih =>
      intro vs ds ps h
      obtain ⟨v, vs1, d, ds1, a, b, rfl, rfl, rfl, _, h2⟩ := trodAll_cons h
      simp [ih h2]
  have hvt : s.plain.varTypes C.prog = [] := by
    have : s.plain.vars = [] := hvars
    unfold DataSpec.varTypes; rw [this]; rfl
  have hw2 : ∀ x, x ∈ DataW.weightsEach C.prog ts ds → x ≤ reach := by
    intro x hx
    rw [List.append_nil, hvt, List.append_nil] at hwt
    have := List.all_eq_true.mp hwt x hx
    exact of_decide_eq_true this
  refine (hcall W base args ds p (fun j t v ht hv => hval j t v (by rw [← Array.getElem?_toList, hps]; exact ht) hv) hA hw2).mono ?_
  intro e W' ⟨he, hb⟩
  have hlt : ∀ x ∈ p, x.block < W.heap.size := fun x hx => hW'.lt x (by simpa using hx)
  refine ⟨.bool true, he, ds, [], p ++ [], [], p, [], hW', ?_, ?_, ?_, hb.frame _, fun h => by cases h⟩
  · rw [List.append_nil, hsays ds (hlen hA), hres]
    exact ⟨[], [], ⟨1, by simp [DataW.trod, Value.cells, hbool]⟩, rfl, rfl⟩
  · rw [List.append_nil, hsays ds (hlen hA), hps]
    refine trodAll_stays laid hb (fun t ht => ?_) hA hlt
    have := List.all_eq_true.mp hread t ht
    simpa using this
  · rw [List.append_nil, hsays ds (hlen hA), hvars]
    rfl
end Go.Hy
namespace Go.Hy
set_option linter.unusedVariables false
set_option linter.unusedSimpArgs false
set_option linter.unusedSectionVars false
open Go
set_option linter.unusedVariables false
set_option linter.unusedSectionVars false
/-! ### A map from clauses to bools that has 'true' alone -/
abbrev keyV (c : Cl) : Value := .agg (clCells c).toArray
class TabM (P : Program) [TyF P] where
  law : WideMaps.KeyLaw P (TyF.tC P)
  kt : P.keyType (TyF.tC P) = true
  names : (TyF.fC P).all (·.name != "_") = true
  npos : 0 < P.types.size
section
variable {P : Program} [Tab P] [TyF P] [TabM P] {B : Base} {σ : Nat → Value} {Γ : List Fact} {Ms : List Res} {ty : TypeId} {x y z : Operand}
theorem keyOf_cl {c : Cl} (hc : u32 c) : ∃ l, keyOf P (TyF.tC P) (keyV c) = some l := by
  have hpos : ∃ D, P.types.size + 1 = D + 1 + 1 := ⟨P.types.size - 1, by have := TabM.npos (P := P); omega⟩
  obtain ⟨D, hD⟩ := hpos
  obtain ⟨f0, f1, hf, e0, e1⟩ : ∃ f0 f1, (TyF.fC P).toList = [f0, f1] ∧ (f0.offset, f0.type) = (0, TyF.tU P) ∧ (f1.offset, f1.type) = (1, TyF.tU P) := by
    have := TyF.pC (P := P)
    match hl : (TyF.fC P).toList, this with
    | [f0, f1], h => simp only [List.map_cons, List.map_nil, List.cons.injEq, and_true] at h; exact ⟨f0, f1, rfl, h.1, h.2⟩
    | [], h => simp at h
    | [_], h => simp at h
    | _ :: _ :: _ :: _, h => simp at h
  have o0 := (Prod.mk.inj e0).1
  have t0' := (Prod.mk.inj e0).2
  have o1 := (Prod.mk.inj e1).1
  have t1' := (Prod.mk.inj e1).2
  have hw : ∀ n : Nat, n < 4294967296 → (Lit.int .u32 (n : Int)).wf = true := by
    intro n hn
    have h1 : IntKind.u32.min = 0 := rfl
    have h2 : IntKind.u32.max = 4294967295 := rfl
    simp only [Lit.wf, h1, h2, Bool.and_eq_true, decide_eq_true_eq]; omega
  refine ⟨.string (keyBytes [.int .u32 (c.pos : Int), .int .u32 (c.neg : Int)]), ?_⟩
  unfold keyOf
  rw [TyF.uC]
  simp only [TabM.kt, Value.formed, TyF.uC, TyF.c2.1, clCells, List.size_toArray, List.length_cons, List.length_nil, beq_self_eq_true, Bool.and_self, if_true, Value.cells]
  rw [hD]
  simp [Program.keyLits, TyF.uC, TyF.c2.1, TabM.names, hf, o0, o1, t0', t1', TyF.c1.2.2.1, TyF.uU, hw _ hc.1, hw _ hc.2]
def mapR (b : Nat) (keys : List Cl) : Res := ⟨fun x => x = b, fun w => (∀ c, c ∈ keys → u32 c) ∧ ∃ es clock, w.heap[b]? = some (.map es clock) ∧ es.toList.map (·.key) = keys.map keyV ∧ ∀ e, e ∈ es.toList → e.val = .bool true⟩
theorem te_makeMap {t : TypeId} : TurnE P B σ Γ Ms (.makeMap t none) ty (fun b : Nat => .map (some b)) (fun _ => Γ) (fun b => mapR b [] :: Ms) := fun w hs => by
  refine ⟨w.heap.size, w.alloc (.map #[] 0), ?_, ?_⟩
  · have hr : (Instr.makeMap t none).run P w = .ok (.map (some w.heap.size)) (w.alloc (.map #[] 0)) := rfl
    simp [opr, execOp, hr]
  · refine hs.born (m := mapR w.heap.size []) (Chg.push _ w _) (fun w2 hw2 => ⟨fun c hc => (by cases hc), #[], 0, ?_, rfl, fun e he => by simp at he⟩) (fun b hb => ?_)
    · rw [hw2 _ rfl]
      show (w.heap.push (.map #[] 0))[w.heap.size]? = _
      simp
    · have hb : b = w.heap.size := hb
      subst hb
      exact ⟨by simp, Nat.le_refl _⟩
theorem keyV_inj {c d : Cl} : keyV c = keyV d ↔ c = d := by
  obtain ⟨p, n⟩ := c; obtain ⟨p', n'⟩ := d
  simp [keyV, clCells, Int.ofNat_inj]
theorem map_find {c : Cl} {keys : List Cl} {es : Array MapEntry} (hc : u32 c) (hk : ∀ d, d ∈ keys → u32 d) (he : es.toList.map (·.key) = keys.map keyV) (hv : ∀ e, e ∈ es.toList → e.val = .bool true) (w : World) :
    ((Instr.findKey (TyF.tC P) (keyV c) es.toList).run P w = .ok none w ∧ c ∉ keys) ∨ (∃ j, (Instr.findKey (TyF.tC P) (keyV c) es.toList).run P w = .ok (some (j, .bool true)) w) ∧ c ∈ keys := by
  obtain ⟨l, hl⟩ := keyOf_cl (P := P) hc
  have hall : ∀ e ∈ es.toList, ∃ l, keyOf P (TyF.tC P) e.key = some l := by
    intro e hme
    have : e.key ∈ keys.map keyV := he ▸ List.mem_map_of_mem hme
    obtain ⟨d, hd, e2⟩ := List.mem_map.mp this
    obtain ⟨l2, hl2⟩ := keyOf_cl (P := P) (hk d hd)
    exact ⟨l2, by rw [← e2]; exact hl2⟩
  rcases (TabM.law (P := P)).find w hl es.toList hall with ⟨h1, h2⟩ | ⟨j, e, h1, h2, h3⟩
  · refine .inl ⟨h1, fun hm => ?_⟩
    have : keyV c ∈ es.toList.map (·.key) := he ▸ List.mem_map_of_mem hm
    obtain ⟨e, hme, e2⟩ := List.mem_map.mp this
    exact h2 e hme e2
  · refine .inr ⟨⟨j, ?_⟩, ?_⟩
    · rw [hv e (List.mem_of_getElem? h2)] at h1; exact h1
    · have : e.key ∈ keys.map keyV := he ▸ List.mem_map_of_mem (List.mem_of_getElem? h2)
      rw [h3] at this
      obtain ⟨d, hd, e2⟩ := List.mem_map.mp this
      exact keyV_inj.mp e2 ▸ hd
theorem le_lookup {t e : TypeId} {s bt b : Nat} {c : Cl} {keys : List Cl} (hx : ev σ x = .map (some b)) (hm : mapR b keys ∈ Ms) (hc : u32 c) (hy : ev σ y = keyV c) (hu : Tab.und P t = some (.map (TyF.tC P) e)) (hi : Tab.inf P e = some (s, bt, .bool false)) :
    LoadE P B σ Γ Ms (.lookup t x y false) ty (.bool (decide (c ∈ keys))) := fun w hs => by
  obtain ⟨hk, es, clock, hb, he, hv⟩ : (∀ c, c ∈ keys → u32 c) ∧ ∃ es clock, w.heap[b]? = some (.map es clock) ∧ es.toList.map (·.key) = keys.map keyV ∧ ∀ e, e ∈ es.toList → e.val = .bool true := hs.res _ hm w (fun _ _ => rfl)
  obtain ⟨l, hl⟩ := keyOf_cl (P := P) hc
  have hch := (TabM.law (P := P)).check w es.isEmpty hl
  have hr : (Instr.lookup t (.map (some b)) (keyV c) false).run P w = .ok (.bool (decide (c ∈ keys))) w := by
    rcases map_find (P := P) hc hk he hv w with ⟨h1, h2⟩ | ⟨⟨j, h1⟩, h2⟩
    · simp [Instr.lookup, run_und0 hu, run_getObj_map w b es clock hb, hch, h1, run_zero0 hi, h2]
    · simp [Instr.lookup, run_und0 hu, run_getObj_map w b es clock hb, hch, h1, run_zero0 hi, h2]
  simp [opr, execOp, hx, hy, hr]
theorem se_mapUpdate {t e : TypeId} {b : Nat} {c : Cl} {keys : List Cl} {Ms2 : List Res} (hx : ev σ x = .map (some b)) (hm : Ms.Perm (mapR b keys :: Ms2)) (hc : u32 c) (hn : c ∉ keys) (hy : ev σ y = keyV c) (hz : ev σ z = .bool true) (hu : Tab.und P t = some (.map (TyF.tC P) e)) :
    StoreE P B σ Γ Ms (.mapUpdate t x y z) ty Γ (mapR b (keys ++ [c]) :: Ms2) := fun w hs => by
  have hs' := hs.perm hm
  obtain ⟨hk, es, clock, hb, he, hv⟩ : (∀ c, c ∈ keys → u32 c) ∧ ∃ es clock, w.heap[b]? = some (.map es clock) ∧ es.toList.map (·.key) = keys.map keyV ∧ ∀ e, e ∈ es.toList → e.val = .bool true := hs'.res _ List.mem_cons_self w (fun _ _ => rfl)
  obtain ⟨l, hl⟩ := keyOf_cl (P := P) hc
  have hch := (TabM.law (P := P)).check w false hl
  have hlt : b < w.heap.size := (Array.getElem?_eq_some_iff.mp hb).1
  have hb2 : w.heap[b] = .map es clock := (Array.getElem?_eq_some_iff.mp hb).2
  have hr : (Instr.mapUpdate t (.map (some b)) (keyV c) (.bool true)).run P w = .ok () { w with heap := w.heap.setIfInBounds b (.map (es.push { key := keyV c, val := .bool true, born := clock }) (clock + 1)) } := by
    rcases map_find (P := P) hc hk he hv w with ⟨h1, h2⟩ | ⟨⟨j, h1⟩, h2⟩
    · simp [Instr.mapUpdate, run_und0 hu, run_getObj_map w b es clock hb, hch, h1, setObj, Sem.run, hlt, hb2]
    · exact absurd h2 hn
  refine ⟨{ w with heap := w.heap.setIfInBounds b (.map (es.push { key := keyV c, val := .bool true, born := clock }) (clock + 1)) }, by simp [opr, execOp, hx, hy, hz, hr], ?_⟩
  refine hs'.turn (m' := mapR b (keys ++ [c])) ⟨rfl, rfl, rfl, by simp, fun k hk hn => by
    have hn : k ≠ b := hn
    simp [Array.getElem?_setIfInBounds, hn.symm]⟩ (fun w2 hw2 => ⟨fun d hd => ?_, es.push { key := keyV c, val := .bool true, born := clock }, clock + 1, ?_, ?_, ?_⟩) (fun k hk => ?_)
  · rcases List.mem_append.mp hd with hd | hd
    · exact hk d hd
    · rw [List.mem_singleton] at hd; exact hd ▸ hc
  · rw [hw2 b rfl]; simp [hlt]
  · simp [he]
  · intro e he2
    rw [Array.toList_push, List.mem_append, List.mem_singleton] at he2
    rcases he2 with h | h
    · exact hv e h
    · rw [h]
  · have hk2 : k = b := hk
    subst hk2
    exact ⟨by simpa using hlt, .inl rfl⟩
end
end Go.Hy
namespace Go.Hy
set_option linter.unusedVariables false
set_option linter.unusedSimpArgs false
set_option linter.unusedSectionVars false
set_option linter.unusedVariables false
set_option linter.unusedSectionVars false
/-! Wrappers: an operation and its side conditions, which are tried by themselves. 'o_..': in a region in its order; 'v_..': in one that draws. -/
section
variable {tn : Bool} {P : Program} [Tab P] {f : FuncId} {R : Ending → World → Prop} {B : Base} {n : Nat} {K : List Item} {ops : Array Oper} {i : Nat} {l fin : List Nat} {σ : Nat → Value} {Γ : List Fact} {Ms Ms2 : List Res}
variable {dst : Option Tmp} {op : Op} {ty : TypeId} {pos : String} {after : Array Edge} {v : Value} {x y z : Operand}
theorem o_move  (k_ : RgT P f R B n K ops l (putS σ dst v) Γ Ms) (h : ev σ x = v := by first | ((conv => lhs; whnf); done) | rfl) (hd : dstOk n dst = true := by rfl) : OpT P f R B n K ops l (opr dst (.move x) ty) σ Γ Ms := sq_pure (pe_move h) hd k_
theorem v_move  (k_ : NV tn P f R B n K ops fin l (putS σ dst v) Γ Ms) (h : ev σ x = v := by first | ((conv => lhs; whnf); done) | rfl) (hd : dstOk n dst = true := by rfl) : NvT tn P f R B n K ops fin i l dst (.move x) ty σ Γ Ms := nv_pure (pe_move h) hd k_
theorem o_assign  (k_ : RgT P f R B n K ops l (putS σ dst v) Γ Ms) (h : ev σ x = v := by first | ((conv => lhs; whnf); done) | rfl) (hd : dstOk n dst = true := by rfl) : OpT P f R B n K ops l (opr dst (.assign x) ty) σ Γ Ms := sq_pure (pe_assign h) hd k_
theorem v_assign  (k_ : NV tn P f R B n K ops fin l (putS σ dst v) Γ Ms) (h : ev σ x = v := by first | ((conv => lhs; whnf); done) | rfl) (hd : dstOk n dst = true := by rfl) : NvT tn P f R B n K ops fin i l dst (.assign x) ty σ Γ Ms := nv_pure (pe_assign h) hd k_
theorem o_pickT  (k_ : RgT P f R B n K ops l (putS σ dst v) Γ Ms) (hz : ev σ z = .bool true := by rfl) (h : ev σ x = v := by first | ((conv => lhs; whnf); done) | rfl) (hd : dstOk n dst = true := by rfl) : OpT P f R B n K ops l (opr dst (.pick z x y) ty) σ Γ Ms := sq_pure (pe_pickT hz h) hd k_
theorem v_pickT  (k_ : NV tn P f R B n K ops fin l (putS σ dst v) Γ Ms) (hz : ev σ z = .bool true := by rfl) (h : ev σ x = v := by first | ((conv => lhs; whnf); done) | rfl) (hd : dstOk n dst = true := by rfl) : NvT tn P f R B n K ops fin i l dst (.pick z x y) ty σ Γ Ms := nv_pure (pe_pickT hz h) hd k_
theorem o_pickF  (k_ : RgT P f R B n K ops l (putS σ dst v) Γ Ms) (hz : ev σ z = .bool false := by rfl) (h : ev σ y = v := by first | ((conv => lhs; whnf); done) | rfl) (hd : dstOk n dst = true := by rfl) : OpT P f R B n K ops l (opr dst (.pick z x y) ty) σ Γ Ms := sq_pure (pe_pickF hz h) hd k_
theorem v_pickF  (k_ : NV tn P f R B n K ops fin l (putS σ dst v) Γ Ms) (hz : ev σ z = .bool false := by rfl) (h : ev σ y = v := by first | ((conv => lhs; whnf); done) | rfl) (hd : dstOk n dst = true := by rfl) : NvT tn P f R B n K ops fin i l dst (.pick z x y) ty σ Γ Ms := nv_pure (pe_pickF hz h) hd k_
theorem o_add {t t' : TypeId} {a b : Int} (k_ : RgT P f R B n K ops l (putS σ dst (.int .i64 (a + b))) Γ Ms) (hx : ev σ x = .int .i64 a := by first | ((conv => lhs; whnf); done) | rfl) (hy : ev σ y = .int .i64 b := by first | ((conv => lhs; whnf); done) | rfl) (h : in64 (a + b) := by unfold in64; first | omega | (unfold in64 at *; omega) | (unfold reach at *; omega) | (unfold cap47 at *; omega) | (simp only [in64, reach, cap47] at *; omega)) (hd : dstOk n dst = true := by rfl) : OpT P f R B n K ops l (opr dst (.binOp .add t x y t') ty) σ Γ Ms := sq_pure (pe_add hx hy h) hd k_
theorem v_add {t t' : TypeId} {a b : Int} (k_ : NV tn P f R B n K ops fin l (putS σ dst (.int .i64 (a + b))) Γ Ms) (hx : ev σ x = .int .i64 a := by first | ((conv => lhs; whnf); done) | rfl) (hy : ev σ y = .int .i64 b := by first | ((conv => lhs; whnf); done) | rfl) (h : in64 (a + b) := by unfold in64; first | omega | (unfold in64 at *; omega) | (unfold reach at *; omega) | (unfold cap47 at *; omega) | (simp only [in64, reach, cap47] at *; omega)) (hd : dstOk n dst = true := by rfl) : NvT tn P f R B n K ops fin i l dst (.binOp .add t x y t') ty σ Γ Ms := nv_pure (pe_add hx hy h) hd k_
theorem o_sub {t t' : TypeId} {a b : Int} (k_ : RgT P f R B n K ops l (putS σ dst (.int .i64 (a - b))) Γ Ms) (hx : ev σ x = .int .i64 a := by first | ((conv => lhs; whnf); done) | rfl) (hy : ev σ y = .int .i64 b := by first | ((conv => lhs; whnf); done) | rfl) (h : in64 (a - b) := by unfold in64; first | omega | (unfold in64 at *; omega) | (unfold reach at *; omega) | (unfold cap47 at *; omega) | (simp only [in64, reach, cap47] at *; omega)) (hd : dstOk n dst = true := by rfl) : OpT P f R B n K ops l (opr dst (.binOp .sub t x y t') ty) σ Γ Ms := sq_pure (pe_sub hx hy h) hd k_
theorem o_mul {t t' : TypeId} {a b : Int} (k_ : RgT P f R B n K ops l (putS σ dst (.int .i64 (a * b))) Γ Ms) (hx : ev σ x = .int .i64 a := by first | ((conv => lhs; whnf); done) | rfl) (hy : ev σ y = .int .i64 b := by first | ((conv => lhs; whnf); done) | rfl) (h : in64 (a * b) := by unfold in64; first | omega | (unfold in64 at *; omega) | (unfold reach at *; omega) | (unfold cap47 at *; omega) | (simp only [in64, reach, cap47] at *; omega)) (hd : dstOk n dst = true := by rfl) : OpT P f R B n K ops l (opr dst (.binOp .mul t x y t') ty) σ Γ Ms := sq_pure (pe_mul hx hy h) hd k_
theorem o_lss {t t' : TypeId} {k : IntKind} {a b : Int} (k_ : RgT P f R B n K ops l (putS σ dst (.bool (decide (a < b)))) Γ Ms) (hx : ev σ x = .int k a := by first | ((conv => lhs; whnf); done) | rfl) (hy : ev σ y = .int k b := by first | ((conv => lhs; whnf); done) | rfl) (hd : dstOk n dst = true := by rfl) : OpT P f R B n K ops l (opr dst (.binOp .lss t x y t') ty) σ Γ Ms := sq_pure (pe_lss hx hy) hd k_
theorem v_lss {t t' : TypeId} {k : IntKind} {a b : Int} (k_ : NV tn P f R B n K ops fin l (putS σ dst (.bool (decide (a < b)))) Γ Ms) (hx : ev σ x = .int k a := by first | ((conv => lhs; whnf); done) | rfl) (hy : ev σ y = .int k b := by first | ((conv => lhs; whnf); done) | rfl) (hd : dstOk n dst = true := by rfl) : NvT tn P f R B n K ops fin i l dst (.binOp .lss t x y t') ty σ Γ Ms := nv_pure (pe_lss hx hy) hd k_
theorem o_leq {t t' : TypeId} {k : IntKind} {a b : Int} (k_ : RgT P f R B n K ops l (putS σ dst (.bool (decide (a ≤ b)))) Γ Ms) (hx : ev σ x = .int k a := by first | ((conv => lhs; whnf); done) | rfl) (hy : ev σ y = .int k b := by first | ((conv => lhs; whnf); done) | rfl) (hd : dstOk n dst = true := by rfl) : OpT P f R B n K ops l (opr dst (.binOp .leq t x y t') ty) σ Γ Ms := sq_pure (pe_leq hx hy) hd k_
theorem o_gtr {t t' : TypeId} {k : IntKind} {a b : Int} (k_ : RgT P f R B n K ops l (putS σ dst (.bool (decide (b < a)))) Γ Ms) (hx : ev σ x = .int k a := by first | ((conv => lhs; whnf); done) | rfl) (hy : ev σ y = .int k b := by first | ((conv => lhs; whnf); done) | rfl) (hd : dstOk n dst = true := by rfl) : OpT P f R B n K ops l (opr dst (.binOp .gtr t x y t') ty) σ Γ Ms := sq_pure (pe_gtr hx hy) hd k_
theorem v_gtr {t t' : TypeId} {k : IntKind} {a b : Int} (k_ : NV tn P f R B n K ops fin l (putS σ dst (.bool (decide (b < a)))) Γ Ms) (hx : ev σ x = .int k a := by first | ((conv => lhs; whnf); done) | rfl) (hy : ev σ y = .int k b := by first | ((conv => lhs; whnf); done) | rfl) (hd : dstOk n dst = true := by rfl) : NvT tn P f R B n K ops fin i l dst (.binOp .gtr t x y t') ty σ Γ Ms := nv_pure (pe_gtr hx hy) hd k_
theorem o_geq {t t' : TypeId} {k : IntKind} {a b : Int} (k_ : RgT P f R B n K ops l (putS σ dst (.bool (decide (b ≤ a)))) Γ Ms) (hx : ev σ x = .int k a := by first | ((conv => lhs; whnf); done) | rfl) (hy : ev σ y = .int k b := by first | ((conv => lhs; whnf); done) | rfl) (hd : dstOk n dst = true := by rfl) : OpT P f R B n K ops l (opr dst (.binOp .geq t x y t') ty) σ Γ Ms := sq_pure (pe_geq hx hy) hd k_
theorem o_eqI {t t' : TypeId} {k : IntKind} {a b : Int} (k_ : RgT P f R B n K ops l (putS σ dst (.bool (decide (a = b)))) Γ Ms) (hx : ev σ x = .int k a := by first | ((conv => lhs; whnf); done) | rfl) (hy : ev σ y = .int k b := by first | ((conv => lhs; whnf); done) | rfl) (hd : dstOk n dst = true := by rfl) : OpT P f R B n K ops l (opr dst (.binOp .eql t x y t') ty) σ Γ Ms := sq_pure (pe_eqI hx hy) hd k_
theorem v_eqI {t t' : TypeId} {k : IntKind} {a b : Int} (k_ : NV tn P f R B n K ops fin l (putS σ dst (.bool (decide (a = b)))) Γ Ms) (hx : ev σ x = .int k a := by first | ((conv => lhs; whnf); done) | rfl) (hy : ev σ y = .int k b := by first | ((conv => lhs; whnf); done) | rfl) (hd : dstOk n dst = true := by rfl) : NvT tn P f R B n K ops fin i l dst (.binOp .eql t x y t') ty σ Γ Ms := nv_pure (pe_eqI hx hy) hd k_
theorem o_neI {t t' : TypeId} {k : IntKind} {a b : Int} (k_ : RgT P f R B n K ops l (putS σ dst (.bool (decide (a ≠ b)))) Γ Ms) (hx : ev σ x = .int k a := by first | ((conv => lhs; whnf); done) | rfl) (hy : ev σ y = .int k b := by first | ((conv => lhs; whnf); done) | rfl) (hd : dstOk n dst = true := by rfl) : OpT P f R B n K ops l (opr dst (.binOp .neq t x y t') ty) σ Γ Ms := sq_pure (pe_neI hx hy) hd k_
theorem v_neI {t t' : TypeId} {k : IntKind} {a b : Int} (k_ : NV tn P f R B n K ops fin l (putS σ dst (.bool (decide (a ≠ b)))) Γ Ms) (hx : ev σ x = .int k a := by first | ((conv => lhs; whnf); done) | rfl) (hy : ev σ y = .int k b := by first | ((conv => lhs; whnf); done) | rfl) (hd : dstOk n dst = true := by rfl) : NvT tn P f R B n K ops fin i l dst (.binOp .neq t x y t') ty σ Γ Ms := nv_pure (pe_neI hx hy) hd k_
theorem o_neS {t t' : TypeId} {s s' : ByteArray} (k_ : RgT P f R B n K ops l (putS σ dst (.bool (!(s.toList == s'.toList)))) Γ Ms) (hx : ev σ x = .string s := by first | ((conv => lhs; whnf); done) | rfl) (hy : ev σ y = .string s' := by first | ((conv => lhs; whnf); done) | rfl) (hd : dstOk n dst = true := by rfl) : OpT P f R B n K ops l (opr dst (.binOp .neq t x y t') ty) σ Γ Ms := sq_pure (pe_neS hx hy) hd k_
theorem v_neS {t t' : TypeId} {s s' : ByteArray} (k_ : NV tn P f R B n K ops fin l (putS σ dst (.bool (!(s.toList == s'.toList)))) Γ Ms) (hx : ev σ x = .string s := by first | ((conv => lhs; whnf); done) | rfl) (hy : ev σ y = .string s' := by first | ((conv => lhs; whnf); done) | rfl) (hd : dstOk n dst = true := by rfl) : NvT tn P f R B n K ops fin i l dst (.binOp .neq t x y t') ty σ Γ Ms := nv_pure (pe_neS hx hy) hd k_
theorem o_not {t : TypeId} {c : Bool} (k_ : RgT P f R B n K ops l (putS σ dst (.bool (!c))) Γ Ms) (hx : ev σ x = .bool c := by first | ((conv => lhs; whnf); done) | rfl) (hd : dstOk n dst = true := by rfl) : OpT P f R B n K ops l (opr dst (.unOp .not t x) ty) σ Γ Ms := sq_pure (pe_not hx) hd k_
theorem v_not {t : TypeId} {c : Bool} (k_ : NV tn P f R B n K ops fin l (putS σ dst (.bool (!c))) Γ Ms) (hx : ev σ x = .bool c := by first | ((conv => lhs; whnf); done) | rfl) (hd : dstOk n dst = true := by rfl) : NvT tn P f R B n K ops fin i l dst (.unOp .not t x) ty σ Γ Ms := nv_pure (pe_not hx) hd k_
theorem o_extract {vs : Array Value} {j : Nat} (k_ : RgT P f R B n K ops l (putS σ dst v) Γ Ms) (hx : ev σ x = .tuple vs := by first | ((conv => lhs; whnf); done) | rfl) (hj : vs[j]? = some v := by first | ((conv => lhs; whnf); done) | rfl) (hd : dstOk n dst = true := by rfl) : OpT P f R B n K ops l (opr dst (.extract x j) ty) σ Γ Ms := sq_pure (pe_extract hx hj) hd k_
theorem o_func {fn : Fn} {cap : Array Operand} {vs : List Value} (k_ : RgT P f R B n K ops l (putS σ dst (.func fn #[] vs.toArray)) Γ Ms) (h : cap.toList.map (ev σ) = vs := by first | exact cap1 (by first | ((conv => lhs; whnf); done) | rfl) | exact cap2 (by first | ((conv => lhs; whnf); done) | rfl) (by first | ((conv => lhs; whnf); done) | rfl) | exact cap3 (by first | ((conv => lhs; whnf); done) | rfl) (by first | ((conv => lhs; whnf); done) | rfl) (by first | ((conv => lhs; whnf); done) | rfl) | exact cap4 (by first | ((conv => lhs; whnf); done) | rfl) (by first | ((conv => lhs; whnf); done) | rfl) (by first | ((conv => lhs; whnf); done) | rfl) (by first | ((conv => lhs; whnf); done) | rfl) | rfl) (hd : dstOk n dst = true := by rfl) : OpT P f R B n K ops l (opr dst (.makeFunc fn #[] cap) ty) σ Γ Ms := sq_pure (pe_makeFunc h) hd k_
theorem o_len {ts : Array TypeId} {t e : TypeId} {A : Option Addr} {m c : Nat} (k_ : RgT P f R B n K ops l (putS σ dst (.int .i64 (m : Int))) Γ Ms) (hx : ev σ x = .slice A m c := by first | ((conv => lhs; whnf); done) | rfl) (ht : ts[0]? = some t := by rfl) (hu : Tab.und P t = some (.slice e) := by rfl) (hd : dstOk n dst = true := by rfl) : OpT P f R B n K ops l (opr dst (.call { callee := .builtin .len, args := #[x], argTypes := ts }) ty) σ Γ Ms := sq_pure (pe_lenS ht hu hx) hd k_
theorem v_len {ts : Array TypeId} {t e : TypeId} {A : Option Addr} {m c : Nat} (k_ : NV tn P f R B n K ops fin l (putS σ dst (.int .i64 (m : Int))) Γ Ms) (hx : ev σ x = .slice A m c := by first | ((conv => lhs; whnf); done) | rfl) (ht : ts[0]? = some t := by rfl) (hu : Tab.und P t = some (.slice e) := by rfl) (hd : dstOk n dst = true := by rfl) : NvT tn P f R B n K ops fin i l dst (.call { callee := .builtin .len, args := #[x], argTypes := ts }) ty σ Γ Ms := nv_pure (pe_lenS ht hu hx) hd k_
theorem o_lenStr {ts : Array TypeId} {t : TypeId} {s : ByteArray} (k_ : RgT P f R B n K ops l (putS σ dst (.int .i64 (s.size : Int))) Γ Ms) (hx : ev σ x = .string s := by first | ((conv => lhs; whnf); done) | rfl) (ht : ts[0]? = some t := by rfl) (hu : Tab.und P t = some .string := by rfl) (hd : dstOk n dst = true := by rfl) : OpT P f R B n K ops l (opr dst (.call { callee := .builtin .len, args := #[x], argTypes := ts }) ty) σ Γ Ms := sq_pure (pe_lenStr ht hu hx) hd k_
theorem o_fa {t : TypeId} {j bk off o : Nat} (k_ : RgT P f R B n K ops l (putS σ dst (.pointer (some ⟨bk, off + o, none⟩))) Γ Ms) (hx : ev σ x = .pointer (some ⟨bk, off, none⟩) := by first | ((conv => lhs; whnf); done) | rfl) (hf : Tab.foff P t j = some o := by rfl) (hd : dstOk n dst = true := by rfl) : OpT P f R B n K ops l (opr dst (.fieldAddr t x j) ty) σ Γ Ms := sq_pure (pe_fieldAddr hf hx) hd k_
theorem v_fa {t : TypeId} {j bk off o : Nat} (k_ : NV tn P f R B n K ops fin l (putS σ dst (.pointer (some ⟨bk, off + o, none⟩))) Γ Ms) (hx : ev σ x = .pointer (some ⟨bk, off, none⟩) := by first | ((conv => lhs; whnf); done) | rfl) (hf : Tab.foff P t j = some o := by rfl) (hd : dstOk n dst = true := by rfl) : NvT tn P f R B n K ops fin i l dst (.fieldAddr t x j) ty σ Γ Ms := nv_pure (pe_fieldAddr hf hx) hd k_
theorem o_build {t : TypeId} {s bt : Nat} {zv : Value} {parts : Array (Nat × Operand)} {pv : List (Nat × Value)} {l' : List (Nat × Nat)} {cs : List Value} (k_ : RgT P f R B n K ops l (putS σ dst (.agg cs.toArray)) Γ Ms) (hl : Tab.lay P t = some l' := by rfl) (hi : Tab.inf P t = some (s, bt, zv) := by rfl) (hp : parts.toList.map (fun (i, x) => (i, ev σ x)) = pv := by first | exact pv0  | exact pv1 (by first | ((conv => lhs; whnf); done) | rfl) | exact pv2 (by first | ((conv => lhs; whnf); done) | rfl) (by first | ((conv => lhs; whnf); done) | rfl) | exact pv3 (by first | ((conv => lhs; whnf); done) | rfl) (by first | ((conv => lhs; whnf); done) | rfl) (by first | ((conv => lhs; whnf); done) | rfl) | exact pv4 (by first | ((conv => lhs; whnf); done) | rfl) (by first | ((conv => lhs; whnf); done) | rfl) (by first | ((conv => lhs; whnf); done) | rfl) (by first | ((conv => lhs; whnf); done) | rfl) | exact pv5 (by first | ((conv => lhs; whnf); done) | rfl) (by first | ((conv => lhs; whnf); done) | rfl) (by first | ((conv => lhs; whnf); done) | rfl) (by first | ((conv => lhs; whnf); done) | rfl) (by first | ((conv => lhs; whnf); done) | rfl) | exact pv6 (by first | ((conv => lhs; whnf); done) | rfl) (by first | ((conv => lhs; whnf); done) | rfl) (by first | ((conv => lhs; whnf); done) | rfl) (by first | ((conv => lhs; whnf); done) | rfl) (by first | ((conv => lhs; whnf); done) | rfl) (by first | ((conv => lhs; whnf); done) | rfl) | rfl) (hb : Instr.fill (l'.toArray[·]?) zv.cells pv = some cs.toArray := by rfl) (hd : dstOk n dst = true := by rfl) : OpT P f R B n K ops l (opr dst (.build t parts) ty) σ Γ Ms := sq_pure (pe_build hl hi hp hb) hd k_
theorem v_build {t : TypeId} {s bt : Nat} {zv : Value} {parts : Array (Nat × Operand)} {pv : List (Nat × Value)} {l' : List (Nat × Nat)} {cs : List Value} (k_ : NV tn P f R B n K ops fin l (putS σ dst (.agg cs.toArray)) Γ Ms) (hl : Tab.lay P t = some l' := by rfl) (hi : Tab.inf P t = some (s, bt, zv) := by rfl) (hp : parts.toList.map (fun (i, x) => (i, ev σ x)) = pv := by first | exact pv0  | exact pv1 (by first | ((conv => lhs; whnf); done) | rfl) | exact pv2 (by first | ((conv => lhs; whnf); done) | rfl) (by first | ((conv => lhs; whnf); done) | rfl) | exact pv3 (by first | ((conv => lhs; whnf); done) | rfl) (by first | ((conv => lhs; whnf); done) | rfl) (by first | ((conv => lhs; whnf); done) | rfl) | exact pv4 (by first | ((conv => lhs; whnf); done) | rfl) (by first | ((conv => lhs; whnf); done) | rfl) (by first | ((conv => lhs; whnf); done) | rfl) (by first | ((conv => lhs; whnf); done) | rfl) | exact pv5 (by first | ((conv => lhs; whnf); done) | rfl) (by first | ((conv => lhs; whnf); done) | rfl) (by first | ((conv => lhs; whnf); done) | rfl) (by first | ((conv => lhs; whnf); done) | rfl) (by first | ((conv => lhs; whnf); done) | rfl) | exact pv6 (by first | ((conv => lhs; whnf); done) | rfl) (by first | ((conv => lhs; whnf); done) | rfl) (by first | ((conv => lhs; whnf); done) | rfl) (by first | ((conv => lhs; whnf); done) | rfl) (by first | ((conv => lhs; whnf); done) | rfl) (by first | ((conv => lhs; whnf); done) | rfl) | rfl) (hb : Instr.fill (l'.toArray[·]?) zv.cells pv = some cs.toArray := by rfl) (hd : dstOk n dst = true := by rfl) : NvT tn P f R B n K ops fin i l dst (.build t parts) ty σ Γ Ms := nv_pure (pe_build hl hi hp hb) hd k_
theorem o_ixN {t e : TypeId} {s bt bk o m c j : Nat} {zv : Value} {A : Option Addr} (k_ : RgT P f R B n K ops l (putS σ dst (.pointer (some ⟨bk, o + j * s, none⟩))) Γ Ms) (hx : ev σ x = .slice A m c := by first | ((conv => lhs; whnf); done) | rfl) (hA : A = some ⟨bk, o, none⟩ := by first | assumption | rfl) (hy : ev σ y = .int .i64 (j : Int) := by first | ((conv => lhs; whnf); done) | rfl) (hu : Tab.und P t = some (.slice e) := by rfl) (hi : Tab.inf P e = some (s, bt, zv) := by rfl) (h1 : j < m := by omega) (hd : dstOk n dst = true := by rfl) : OpT P f R B n K ops l (opr dst (.indexAddr t x y) ty) σ Γ Ms := sq_pure (pe_ixN hu hi hx hA hy h1) hd k_
theorem v_ixN {t e : TypeId} {s bt bk o m c j : Nat} {zv : Value} {A : Option Addr} (k_ : NV tn P f R B n K ops fin l (putS σ dst (.pointer (some ⟨bk, o + j * s, none⟩))) Γ Ms) (hx : ev σ x = .slice A m c := by first | ((conv => lhs; whnf); done) | rfl) (hA : A = some ⟨bk, o, none⟩ := by first | assumption | rfl) (hy : ev σ y = .int .i64 (j : Int) := by first | ((conv => lhs; whnf); done) | rfl) (hu : Tab.und P t = some (.slice e) := by rfl) (hi : Tab.inf P e = some (s, bt, zv) := by rfl) (h1 : j < m := by omega) (hd : dstOk n dst = true := by rfl) : NvT tn P f R B n K ops fin i l dst (.indexAddr t x y) ty σ Γ Ms := nv_pure (pe_ixN hu hi hx hA hy h1) hd k_
theorem o_eqNil {t t' e : TypeId} {A : Option Addr} {m c : Nat} (k_ : RgT P f R B n K ops l (putS σ dst (.bool A.isNone)) Γ Ms) (hx : ev σ x = .slice A m c := by first | ((conv => lhs; whnf); done) | rfl) (hy : ev σ y = .slice none 0 0 := by rfl) (hu : Tab.und P t = some (.slice e) := by rfl) (hd : dstOk n dst = true := by rfl) : OpT P f R B n K ops l (opr dst (.binOp .eql t x y t') ty) σ Γ Ms := sq_pure (pe_nilSlice hu hx hy) hd k_
theorem o_buildA {t e : TypeId} {m s bt s' bt' : Nat} {zv zv' : Value} {parts : Array (Nat × Operand)} {pv : List (Nat × Value)} {cs : List Value} (k_ : RgT P f R B n K ops l (putS σ dst (.agg cs.toArray)) Γ Ms) (hu : Tab.und P t = some (.array m e) := by rfl) (hi : Tab.inf P t = some (s, bt, zv) := by rfl) (he : Tab.inf P e = some (s', bt', zv') := by rfl) (hp : parts.toList.map (fun (i, x) => (i, ev σ x)) = pv := by first | exact pv0  | exact pv1 (by first | ((conv => lhs; whnf); done) | rfl) | exact pv2 (by first | ((conv => lhs; whnf); done) | rfl) (by first | ((conv => lhs; whnf); done) | rfl) | exact pv3 (by first | ((conv => lhs; whnf); done) | rfl) (by first | ((conv => lhs; whnf); done) | rfl) (by first | ((conv => lhs; whnf); done) | rfl) | exact pv4 (by first | ((conv => lhs; whnf); done) | rfl) (by first | ((conv => lhs; whnf); done) | rfl) (by first | ((conv => lhs; whnf); done) | rfl) (by first | ((conv => lhs; whnf); done) | rfl) | exact pv5 (by first | ((conv => lhs; whnf); done) | rfl) (by first | ((conv => lhs; whnf); done) | rfl) (by first | ((conv => lhs; whnf); done) | rfl) (by first | ((conv => lhs; whnf); done) | rfl) (by first | ((conv => lhs; whnf); done) | rfl) | exact pv6 (by first | ((conv => lhs; whnf); done) | rfl) (by first | ((conv => lhs; whnf); done) | rfl) (by first | ((conv => lhs; whnf); done) | rfl) (by first | ((conv => lhs; whnf); done) | rfl) (by first | ((conv => lhs; whnf); done) | rfl) (by first | ((conv => lhs; whnf); done) | rfl) | rfl) (hb : Instr.fill (fun i => some (i * s', s')) zv.cells pv = some cs.toArray := by rfl) (hd : dstOk n dst = true := by rfl) : OpT P f R B n K ops l (opr dst (.build t parts) ty) σ Γ Ms := sq_pure (pe_buildA hu hi he hp hb) hd k_
theorem o_ixA {t e : TypeId} {s bt b o m : Nat} {zv : Value} {j : Int} (k_ : RgT P f R B n K ops l (putS σ dst (.pointer (some ⟨b, o + j.toNat * s, none⟩))) Γ Ms) (hx : ev σ x = .pointer (some ⟨b, o, none⟩) := by first | ((conv => lhs; whnf); done) | rfl) (hy : ev σ y = .int .i64 j := by first | ((conv => lhs; whnf); done) | rfl) (hu : Tab.und P t = some (.array m e) := by rfl) (hi : Tab.inf P e = some (s, bt, zv) := by rfl) (h0 : 0 ≤ j := by omega) (h1 : j < m := by omega) (hd : dstOk n dst = true := by rfl) : OpT P f R B n K ops l (opr dst (.indexAddr t x y) ty) σ Γ Ms := sq_pure (pe_ixA hu hi hx hy h0 h1) hd k_
theorem o_addW {t t' : TypeId} {a b : Int} (k_ : RgT P f R B n K ops l (putS σ dst (.int .i64 (IntKind.i64.wrap (a + b)))) Γ Ms) (hx : ev σ x = .int .i64 a := by first | ((conv => lhs; whnf); done) | rfl) (hy : ev σ y = .int .i64 b := by first | ((conv => lhs; whnf); done) | rfl) (hd : dstOk n dst = true := by rfl) : OpT P f R B n K ops l (opr dst (.binOp .add t x y t') ty) σ Γ Ms := sq_pure (pe_addW hx hy) hd k_
theorem o_andU32 {t t' : TypeId} {a b : Nat} (k_ : RgT P f R B n K ops l (putS σ dst (.int .u32 ((a &&& b : Nat) : Int))) Γ Ms) (hx : ev σ x = .int .u32 (a : Int) := by first | ((conv => lhs; whnf); done) | rfl) (hy : ev σ y = .int .u32 (b : Int) := by first | ((conv => lhs; whnf); done) | rfl) (ha : a < 4294967296 := by first | assumption | omega) (hb : b < 4294967296 := by first | assumption | omega) (hd : dstOk n dst = true := by rfl) : OpT P f R B n K ops l (opr dst (.binOp .and t x y t') ty) σ Γ Ms := sq_pure (pe_andU hx hy ha hb) hd k_
theorem o_orU32 {t t' : TypeId} {a b : Nat} (k_ : RgT P f R B n K ops l (putS σ dst (.int .u32 ((a ||| b : Nat) : Int))) Γ Ms) (hx : ev σ x = .int .u32 (a : Int) := by first | ((conv => lhs; whnf); done) | rfl) (hy : ev σ y = .int .u32 (b : Int) := by first | ((conv => lhs; whnf); done) | rfl) (ha : a < 4294967296 := by first | assumption | omega) (hb : b < 4294967296 := by first | assumption | omega) (hd : dstOk n dst = true := by rfl) : OpT P f R B n K ops l (opr dst (.binOp .or t x y t') ty) σ Γ Ms := sq_pure (pe_orU hx hy ha hb) hd k_
theorem o_andNotU32 {t t' : TypeId} {a b : Nat} (k_ : RgT P f R B n K ops l (putS σ dst (.int .u32 (andNot32 a b : Int))) Γ Ms) (hx : ev σ x = .int .u32 (a : Int) := by first | ((conv => lhs; whnf); done) | rfl) (hy : ev σ y = .int .u32 (b : Int) := by first | ((conv => lhs; whnf); done) | rfl) (hd : dstOk n dst = true := by rfl) : OpT P f R B n K ops l (opr dst (.binOp .andNot t x y t') ty) σ Γ Ms := sq_pure (pe_andNotU hx hy) hd k_
theorem o_shrU32 {t t' : TypeId} {k2 : IntKind} {a m : Nat} (k_ : RgT P f R B n K ops l (putS σ dst (.int .u32 ((a / 2 ^ (min m 32) : Nat) : Int))) Γ Ms) (hx : ev σ x = .int .u32 (a : Int) := by first | ((conv => lhs; whnf); done) | rfl) (hy : ev σ y = .int k2 (m : Int) := by first | ((conv => lhs; whnf); done) | rfl) (hd : dstOk n dst = true := by rfl) : OpT P f R B n K ops l (opr dst (.binOp .shr t x y t') ty) σ Γ Ms := sq_pure (pe_shrU hx hy) hd k_
theorem v_eqC {t t' : TypeId} {c c' : Cl} (k_ : NV tn P f R B n K ops fin l (putS σ dst (.bool (decide (c = c')))) Γ Ms) (hx : ev σ x = .agg (clCells c).toArray := by first | ((conv => lhs; whnf); done) | rfl) (hy : ev σ y = .agg (clCells c').toArray := by first | ((conv => lhs; whnf); done) | rfl) (ht : t = Tab.ceq P := by rfl) (hd : dstOk n dst = true := by rfl) : NvT tn P f R B n K ops fin i l dst (.binOp .eql t x y t') ty σ Γ Ms := nv_pure (pe_eqC ht hx hy) hd k_
theorem o_neC {t t' : TypeId} {c c' : Cl} (k_ : RgT P f R B n K ops l (putS σ dst (.bool (!decide (c = c')))) Γ Ms) (hx : ev σ x = .agg (clCells c).toArray := by first | ((conv => lhs; whnf); done) | rfl) (hy : ev σ y = .agg (clCells c').toArray := by first | ((conv => lhs; whnf); done) | rfl) (ht : t = Tab.ceq P := by rfl) (hd : dstOk n dst = true := by rfl) : OpT P f R B n K ops l (opr dst (.binOp .neq t x y t') ty) σ Γ Ms := sq_pure (pe_neC ht hx hy) hd k_
theorem v_neC {t t' : TypeId} {c c' : Cl} (k_ : NV tn P f R B n K ops fin l (putS σ dst (.bool (!decide (c = c')))) Γ Ms) (hx : ev σ x = .agg (clCells c).toArray := by first | ((conv => lhs; whnf); done) | rfl) (hy : ev σ y = .agg (clCells c').toArray := by first | ((conv => lhs; whnf); done) | rfl) (ht : t = Tab.ceq P := by rfl) (hd : dstOk n dst = true := by rfl) : NvT tn P f R B n K ops fin i l dst (.binOp .neq t x y t') ty σ Γ Ms := nv_pure (pe_neC ht hx hy) hd k_
theorem o_quoN {t t' : TypeId} {a b : Nat} (k_ : RgT P f R B n K ops l (putS σ dst (.int .i64 ((a / b : Nat) : Int))) Γ Ms) (hx : ev σ x = .int .i64 (a : Int) := by first | ((conv => lhs; whnf); done) | rfl) (hy : ev σ y = .int .i64 (b : Int) := by first | ((conv => lhs; whnf); done) | rfl) (ha : a < 9223372036854775808 := by omega) (hb : 0 < b := by first | omega | exact Nat.pow_pos (by omega)) (hd : dstOk n dst = true := by rfl) : OpT P f R B n K ops l (opr dst (.binOp .quo t x y t') ty) σ Γ Ms := sq_pure (pe_quoN hx hy ha hb) hd k_
theorem o_remN {t t' : TypeId} {a b : Nat} (k_ : RgT P f R B n K ops l (putS σ dst (.int .i64 ((a % b : Nat) : Int))) Γ Ms) (hx : ev σ x = .int .i64 (a : Int) := by first | ((conv => lhs; whnf); done) | rfl) (hy : ev σ y = .int .i64 (b : Int) := by first | ((conv => lhs; whnf); done) | rfl) (hb : 0 < b := by omega) (hd : dstOk n dst = true := by rfl) : OpT P f R B n K ops l (opr dst (.binOp .rem t x y t') ty) σ Γ Ms := sq_pure (pe_remN hx hy hb) hd k_
theorem o_ixStr {t : TypeId} {s : ByteArray} {j : Int} {c : UInt8} (k_ : RgT P f R B n K ops l (putS σ dst (.int .u8 c.toNat)) Γ Ms) (hx : ev σ x = .string s := by first | ((conv => lhs; whnf); done) | rfl) (hy : ev σ y = .int .i64 j := by first | ((conv => lhs; whnf); done) | rfl) (hu : Tab.und P t = some .string := by rfl) (h0 : 0 ≤ j := by omega) (hc : s[j.toNat]? = some c := by assumption) (hd : dstOk n dst = true := by rfl) : OpT P f R B n K ops l (opr dst (.index t x y) ty) σ Γ Ms := sq_pure (pe_indexStr hu hx hy h0 hc) hd k_
theorem o_conv {s d : TypeId} {k k' : IntKind} {ds : TypeDesc} {a : Int} (k_ : RgT P f R B n K ops l (putS σ dst (.int k' (k'.wrap a))) Γ Ms) (hx : ev σ x = .int k a := by first | ((conv => lhs; whnf); done) | rfl) (hs : Tab.und P s = some ds := by rfl) (hd' : Tab.und P d = some (.int k') := by rfl) (hd : dstOk n dst = true := by rfl) : OpT P f R B n K ops l (opr dst (.convert s d x) ty) σ Γ Ms := sq_pure (pe_convert hs hd' hx) hd k_
theorem o_ld {t T' : TypeId} {bk k : Nat} {cs : List Value} {d : TypeDesc} (k_ : RgT P f R B n K ops l (putS σ dst v) Γ Ms) (hx : ev σ x = .pointer (some ⟨bk, k, none⟩) := by first | ((conv => lhs; whnf); done) | rfl) (hF : boxR bk cs T' ∈ Ms := by repeat (first | exact List.mem_cons_self | apply List.mem_cons_of_mem)) (hu : Tab.und P t = some d := by rfl) (hd' : (match d with | .struct _ | .array _ _ => true | _ => false) = false := by rfl) (hk : cs[k]? = some v := by first | ((conv => lhs; whnf); done) | rfl) (hd : dstOk n dst = true := by rfl) : OpT P f R B n K ops l (opr dst (.load t x) ty) σ Γ Ms := sq_load (lb_one hx hF hu hd' hk) hd k_
theorem v_ld {t T' : TypeId} {bk k : Nat} {cs : List Value} {d : TypeDesc} (k_ : NV false P f R B n K ops fin l (putS σ dst v) Γ Ms) (hx : ev σ x = .pointer (some ⟨bk, k, none⟩) := by first | ((conv => lhs; whnf); done) | rfl) (hF : boxR bk cs T' ∈ Ms := by repeat (first | exact List.mem_cons_self | apply List.mem_cons_of_mem)) (hu : Tab.und P t = some d := by rfl) (hd' : (match d with | .struct _ | .array _ _ => true | _ => false) = false := by rfl) (hk : cs[k]? = some v := by first | ((conv => lhs; whnf); done) | rfl) (hd : dstOk n dst = true := by rfl) : NvT false P f R B n K ops fin i l dst (.load t x) ty σ Γ Ms := nv_load (lb_one hx hF hu hd' hk) rfl hd k_
theorem o_lds {t T' : TypeId} {bk k : Nat} {cs : List Value} {l' : List (Nat × Nat)} {s bt : Nat} {zv : Value} {cs' : List Value} (k_ : RgT P f R B n K ops l (putS σ dst (.agg cs'.toArray)) Γ Ms) (hx : ev σ x = .pointer (some ⟨bk, k, none⟩) := by first | ((conv => lhs; whnf); done) | rfl) (hF : boxR bk cs T' ∈ Ms := by repeat (first | exact List.mem_cons_self | apply List.mem_cons_of_mem)) (hu : Tab.lay P t = some l' := by rfl) (hi : Tab.inf P t = some (s, bt, zv) := by rfl) (hk : (cs.drop k).take s = cs' := by rfl) (hl : cs'.length = s := by rfl) (hd : dstOk n dst = true := by rfl) : OpT P f R B n K ops l (opr dst (.load t x) ty) σ Γ Ms := sq_load (lb_agg hx hF hu hi hk hl) hd k_
theorem v_lds {t T' : TypeId} {bk k : Nat} {cs : List Value} {l' : List (Nat × Nat)} {s bt : Nat} {zv : Value} {cs' : List Value} (k_ : NV false P f R B n K ops fin l (putS σ dst (.agg cs'.toArray)) Γ Ms) (hx : ev σ x = .pointer (some ⟨bk, k, none⟩) := by first | ((conv => lhs; whnf); done) | rfl) (hF : boxR bk cs T' ∈ Ms := by repeat (first | exact List.mem_cons_self | apply List.mem_cons_of_mem)) (hu : Tab.lay P t = some l' := by rfl) (hi : Tab.inf P t = some (s, bt, zv) := by rfl) (hk : (cs.drop k).take s = cs' := by rfl) (hl : cs'.length = s := by rfl) (hd : dstOk n dst = true := by rfl) : NvT false P f R B n K ops fin i l dst (.load t x) ty σ Γ Ms := nv_load (lb_agg hx hF hu hi hk hl) rfl hd k_
theorem o_ldC {t : TypeId} {l' : List (Nat × Nat)} {bt bk o i' : Nat} {a : SH} {zv : Value} {ls : List Cl} (k_ : RgT P f R B n K ops l (putS σ dst (.agg (clCells (ls.getD i' cl0)).toArray)) Γ Ms) (hx : ev σ x = .pointer (some ⟨bk, o + i' * 2, none⟩) := by first | ((conv => lhs; whnf); done) | rfl) (hFa : CL ls a ∈ Γ ∧ a.1 = some ⟨bk, o, none⟩ := by first | exact ⟨List.Mem.head _, by assumption⟩ | exact ⟨List.Mem.tail _ (List.Mem.head _), by assumption⟩ | exact ⟨List.Mem.tail _ (List.Mem.tail _ (List.Mem.head _)), by assumption⟩ | exact ⟨List.Mem.tail _ (List.Mem.tail _ (List.Mem.tail _ (List.Mem.head _))), by assumption⟩ | exact ⟨List.Mem.tail _ (List.Mem.tail _ (List.Mem.tail _ (List.Mem.tail _ (List.Mem.head _)))), by assumption⟩ | exact ⟨List.Mem.tail _ (List.Mem.tail _ (List.Mem.tail _ (List.Mem.tail _ (List.Mem.tail _ (List.Mem.head _))))), by assumption⟩ | exact ⟨List.Mem.tail _ (List.Mem.tail _ (List.Mem.tail _ (List.Mem.tail _ (List.Mem.tail _ (List.Mem.tail _ (List.Mem.head _)))))), by assumption⟩ | exact ⟨List.Mem.tail _ (List.Mem.tail _ (List.Mem.tail _ (List.Mem.tail _ (List.Mem.tail _ (List.Mem.tail _ (List.Mem.tail _ (List.Mem.head _))))))), by assumption⟩ | exact ⟨List.Mem.tail _ (List.Mem.tail _ (List.Mem.tail _ (List.Mem.tail _ (List.Mem.tail _ (List.Mem.tail _ (List.Mem.tail _ (List.Mem.tail _ (List.Mem.head _)))))))), by assumption⟩ | exact ⟨List.Mem.tail _ (List.Mem.tail _ (List.Mem.tail _ (List.Mem.tail _ (List.Mem.tail _ (List.Mem.tail _ (List.Mem.tail _ (List.Mem.tail _ (List.Mem.tail _ (List.Mem.head _))))))))), by assumption⟩ | exact ⟨List.Mem.tail _ (List.Mem.tail _ (List.Mem.tail _ (List.Mem.tail _ (List.Mem.tail _ (List.Mem.tail _ (List.Mem.tail _ (List.Mem.tail _ (List.Mem.tail _ (List.Mem.tail _ (List.Mem.head _)))))))))), by assumption⟩ | exact ⟨List.Mem.tail _ (List.Mem.tail _ (List.Mem.tail _ (List.Mem.tail _ (List.Mem.tail _ (List.Mem.tail _ (List.Mem.tail _ (List.Mem.tail _ (List.Mem.tail _ (List.Mem.tail _ (List.Mem.tail _ (List.Mem.head _))))))))))), by assumption⟩ | exact ⟨List.Mem.tail _ (List.Mem.tail _ (List.Mem.tail _ (List.Mem.tail _ (List.Mem.tail _ (List.Mem.tail _ (List.Mem.tail _ (List.Mem.tail _ (List.Mem.tail _ (List.Mem.tail _ (List.Mem.tail _ (List.Mem.tail _ (List.Mem.head _)))))))))))), by assumption⟩ | exact ⟨List.Mem.tail _ (List.Mem.tail _ (List.Mem.tail _ (List.Mem.tail _ (List.Mem.tail _ (List.Mem.tail _ (List.Mem.tail _ (List.Mem.tail _ (List.Mem.tail _ (List.Mem.tail _ (List.Mem.tail _ (List.Mem.tail _ (List.Mem.tail _ (List.Mem.head _))))))))))))), by assumption⟩) (hu : Tab.lay P t = some l' := by rfl) (hi : Tab.inf P t = some (2, bt, zv) := by rfl) (hlt : i' < ls.length := by omega) (hd : dstOk n dst = true := by rfl) : OpT P f R B n K ops l (opr dst (.load t x) ty) σ Γ Ms := sq_load (le_cl hx hFa.1 hFa.2 hu hi hlt) hd k_
theorem v_ldC {t : TypeId} {l' : List (Nat × Nat)} {bt bk o i' : Nat} {a : SH} {zv : Value} {ls : List Cl} (k_ : NV false P f R B n K ops fin l (putS σ dst (.agg (clCells (ls.getD i' cl0)).toArray)) Γ Ms) (hx : ev σ x = .pointer (some ⟨bk, o + i' * 2, none⟩) := by first | ((conv => lhs; whnf); done) | rfl) (hFa : CL ls a ∈ Γ ∧ a.1 = some ⟨bk, o, none⟩ := by first | exact ⟨List.Mem.head _, by assumption⟩ | exact ⟨List.Mem.tail _ (List.Mem.head _), by assumption⟩ | exact ⟨List.Mem.tail _ (List.Mem.tail _ (List.Mem.head _)), by assumption⟩ | exact ⟨List.Mem.tail _ (List.Mem.tail _ (List.Mem.tail _ (List.Mem.head _))), by assumption⟩ | exact ⟨List.Mem.tail _ (List.Mem.tail _ (List.Mem.tail _ (List.Mem.tail _ (List.Mem.head _)))), by assumption⟩ | exact ⟨List.Mem.tail _ (List.Mem.tail _ (List.Mem.tail _ (List.Mem.tail _ (List.Mem.tail _ (List.Mem.head _))))), by assumption⟩ | exact ⟨List.Mem.tail _ (List.Mem.tail _ (List.Mem.tail _ (List.Mem.tail _ (List.Mem.tail _ (List.Mem.tail _ (List.Mem.head _)))))), by assumption⟩ | exact ⟨List.Mem.tail _ (List.Mem.tail _ (List.Mem.tail _ (List.Mem.tail _ (List.Mem.tail _ (List.Mem.tail _ (List.Mem.tail _ (List.Mem.head _))))))), by assumption⟩ | exact ⟨List.Mem.tail _ (List.Mem.tail _ (List.Mem.tail _ (List.Mem.tail _ (List.Mem.tail _ (List.Mem.tail _ (List.Mem.tail _ (List.Mem.tail _ (List.Mem.head _)))))))), by assumption⟩ | exact ⟨List.Mem.tail _ (List.Mem.tail _ (List.Mem.tail _ (List.Mem.tail _ (List.Mem.tail _ (List.Mem.tail _ (List.Mem.tail _ (List.Mem.tail _ (List.Mem.tail _ (List.Mem.head _))))))))), by assumption⟩ | exact ⟨List.Mem.tail _ (List.Mem.tail _ (List.Mem.tail _ (List.Mem.tail _ (List.Mem.tail _ (List.Mem.tail _ (List.Mem.tail _ (List.Mem.tail _ (List.Mem.tail _ (List.Mem.tail _ (List.Mem.head _)))))))))), by assumption⟩ | exact ⟨List.Mem.tail _ (List.Mem.tail _ (List.Mem.tail _ (List.Mem.tail _ (List.Mem.tail _ (List.Mem.tail _ (List.Mem.tail _ (List.Mem.tail _ (List.Mem.tail _ (List.Mem.tail _ (List.Mem.tail _ (List.Mem.head _))))))))))), by assumption⟩ | exact ⟨List.Mem.tail _ (List.Mem.tail _ (List.Mem.tail _ (List.Mem.tail _ (List.Mem.tail _ (List.Mem.tail _ (List.Mem.tail _ (List.Mem.tail _ (List.Mem.tail _ (List.Mem.tail _ (List.Mem.tail _ (List.Mem.tail _ (List.Mem.head _)))))))))))), by assumption⟩ | exact ⟨List.Mem.tail _ (List.Mem.tail _ (List.Mem.tail _ (List.Mem.tail _ (List.Mem.tail _ (List.Mem.tail _ (List.Mem.tail _ (List.Mem.tail _ (List.Mem.tail _ (List.Mem.tail _ (List.Mem.tail _ (List.Mem.tail _ (List.Mem.tail _ (List.Mem.head _))))))))))))), by assumption⟩) (hu : Tab.lay P t = some l' := by rfl) (hi : Tab.inf P t = some (2, bt, zv) := by rfl) (hlt : i' < ls.length := by omega) (hd : dstOk n dst = true := by rfl) : NvT false P f R B n K ops fin i l dst (.load t x) ty σ Γ Ms := nv_load (le_cl hx hFa.1 hFa.2 hu hi hlt) rfl hd k_
theorem f_ldC {t : TypeId} {l' : List (Nat × Nat)} {bt bk o i' : Nat} {a : SH} {zv : Value} {ls : List Cl} (k_ : NV tn P f R B n K ops fin l (putS σ dst (.agg (clCells (ls.getD i' cl0)).toArray)) Γ Ms) (hx : ev σ x = .pointer (some ⟨bk, o + i' * 2, none⟩) := by first | ((conv => lhs; whnf); done) | rfl) (hFa : CL ls a ∈ Γ ∧ a.1 = some ⟨bk, o, none⟩ := by first | exact ⟨List.Mem.head _, by assumption⟩ | exact ⟨List.Mem.tail _ (List.Mem.head _), by assumption⟩ | exact ⟨List.Mem.tail _ (List.Mem.tail _ (List.Mem.head _)), by assumption⟩ | exact ⟨List.Mem.tail _ (List.Mem.tail _ (List.Mem.tail _ (List.Mem.head _))), by assumption⟩ | exact ⟨List.Mem.tail _ (List.Mem.tail _ (List.Mem.tail _ (List.Mem.tail _ (List.Mem.head _)))), by assumption⟩ | exact ⟨List.Mem.tail _ (List.Mem.tail _ (List.Mem.tail _ (List.Mem.tail _ (List.Mem.tail _ (List.Mem.head _))))), by assumption⟩ | exact ⟨List.Mem.tail _ (List.Mem.tail _ (List.Mem.tail _ (List.Mem.tail _ (List.Mem.tail _ (List.Mem.tail _ (List.Mem.head _)))))), by assumption⟩ | exact ⟨List.Mem.tail _ (List.Mem.tail _ (List.Mem.tail _ (List.Mem.tail _ (List.Mem.tail _ (List.Mem.tail _ (List.Mem.tail _ (List.Mem.head _))))))), by assumption⟩ | exact ⟨List.Mem.tail _ (List.Mem.tail _ (List.Mem.tail _ (List.Mem.tail _ (List.Mem.tail _ (List.Mem.tail _ (List.Mem.tail _ (List.Mem.tail _ (List.Mem.head _)))))))), by assumption⟩ | exact ⟨List.Mem.tail _ (List.Mem.tail _ (List.Mem.tail _ (List.Mem.tail _ (List.Mem.tail _ (List.Mem.tail _ (List.Mem.tail _ (List.Mem.tail _ (List.Mem.tail _ (List.Mem.head _))))))))), by assumption⟩ | exact ⟨List.Mem.tail _ (List.Mem.tail _ (List.Mem.tail _ (List.Mem.tail _ (List.Mem.tail _ (List.Mem.tail _ (List.Mem.tail _ (List.Mem.tail _ (List.Mem.tail _ (List.Mem.tail _ (List.Mem.head _)))))))))), by assumption⟩ | exact ⟨List.Mem.tail _ (List.Mem.tail _ (List.Mem.tail _ (List.Mem.tail _ (List.Mem.tail _ (List.Mem.tail _ (List.Mem.tail _ (List.Mem.tail _ (List.Mem.tail _ (List.Mem.tail _ (List.Mem.tail _ (List.Mem.head _))))))))))), by assumption⟩ | exact ⟨List.Mem.tail _ (List.Mem.tail _ (List.Mem.tail _ (List.Mem.tail _ (List.Mem.tail _ (List.Mem.tail _ (List.Mem.tail _ (List.Mem.tail _ (List.Mem.tail _ (List.Mem.tail _ (List.Mem.tail _ (List.Mem.tail _ (List.Mem.head _)))))))))))), by assumption⟩ | exact ⟨List.Mem.tail _ (List.Mem.tail _ (List.Mem.tail _ (List.Mem.tail _ (List.Mem.tail _ (List.Mem.tail _ (List.Mem.tail _ (List.Mem.tail _ (List.Mem.tail _ (List.Mem.tail _ (List.Mem.tail _ (List.Mem.tail _ (List.Mem.tail _ (List.Mem.head _))))))))))))), by assumption⟩) (hu : Tab.lay P t = some l' := by rfl) (hi : Tab.inf P t = some (2, bt, zv) := by rfl) (hlt : i' < ls.length := by omega) (hd : dstOk n dst = true := by rfl) : NvT tn P f R B n K ops fin i l dst (.load t x) ty σ Γ Ms := nv_loadF (le_cl hx hFa.1 hFa.2 hu hi hlt) rfl hd k_
theorem o_ldCf {t : TypeId} {d : TypeDesc} {bk o i' k : Nat} {a : SH} {ls : List Cl} (k_ : RgT P f R B n K ops l (putS σ dst v) Γ Ms) (hx : ev σ x = .pointer (some ⟨bk, o + i' * 2 + k, none⟩) := by first | ((conv => lhs; whnf); done) | rfl) (hFa : CL ls a ∈ Γ ∧ a.1 = some ⟨bk, o, none⟩ := by first | exact ⟨List.Mem.head _, by assumption⟩ | exact ⟨List.Mem.tail _ (List.Mem.head _), by assumption⟩ | exact ⟨List.Mem.tail _ (List.Mem.tail _ (List.Mem.head _)), by assumption⟩ | exact ⟨List.Mem.tail _ (List.Mem.tail _ (List.Mem.tail _ (List.Mem.head _))), by assumption⟩ | exact ⟨List.Mem.tail _ (List.Mem.tail _ (List.Mem.tail _ (List.Mem.tail _ (List.Mem.head _)))), by assumption⟩ | exact ⟨List.Mem.tail _ (List.Mem.tail _ (List.Mem.tail _ (List.Mem.tail _ (List.Mem.tail _ (List.Mem.head _))))), by assumption⟩ | exact ⟨List.Mem.tail _ (List.Mem.tail _ (List.Mem.tail _ (List.Mem.tail _ (List.Mem.tail _ (List.Mem.tail _ (List.Mem.head _)))))), by assumption⟩ | exact ⟨List.Mem.tail _ (List.Mem.tail _ (List.Mem.tail _ (List.Mem.tail _ (List.Mem.tail _ (List.Mem.tail _ (List.Mem.tail _ (List.Mem.head _))))))), by assumption⟩ | exact ⟨List.Mem.tail _ (List.Mem.tail _ (List.Mem.tail _ (List.Mem.tail _ (List.Mem.tail _ (List.Mem.tail _ (List.Mem.tail _ (List.Mem.tail _ (List.Mem.head _)))))))), by assumption⟩ | exact ⟨List.Mem.tail _ (List.Mem.tail _ (List.Mem.tail _ (List.Mem.tail _ (List.Mem.tail _ (List.Mem.tail _ (List.Mem.tail _ (List.Mem.tail _ (List.Mem.tail _ (List.Mem.head _))))))))), by assumption⟩ | exact ⟨List.Mem.tail _ (List.Mem.tail _ (List.Mem.tail _ (List.Mem.tail _ (List.Mem.tail _ (List.Mem.tail _ (List.Mem.tail _ (List.Mem.tail _ (List.Mem.tail _ (List.Mem.tail _ (List.Mem.head _)))))))))), by assumption⟩ | exact ⟨List.Mem.tail _ (List.Mem.tail _ (List.Mem.tail _ (List.Mem.tail _ (List.Mem.tail _ (List.Mem.tail _ (List.Mem.tail _ (List.Mem.tail _ (List.Mem.tail _ (List.Mem.tail _ (List.Mem.tail _ (List.Mem.head _))))))))))), by assumption⟩ | exact ⟨List.Mem.tail _ (List.Mem.tail _ (List.Mem.tail _ (List.Mem.tail _ (List.Mem.tail _ (List.Mem.tail _ (List.Mem.tail _ (List.Mem.tail _ (List.Mem.tail _ (List.Mem.tail _ (List.Mem.tail _ (List.Mem.tail _ (List.Mem.head _)))))))))))), by assumption⟩ | exact ⟨List.Mem.tail _ (List.Mem.tail _ (List.Mem.tail _ (List.Mem.tail _ (List.Mem.tail _ (List.Mem.tail _ (List.Mem.tail _ (List.Mem.tail _ (List.Mem.tail _ (List.Mem.tail _ (List.Mem.tail _ (List.Mem.tail _ (List.Mem.tail _ (List.Mem.head _))))))))))))), by assumption⟩) (hu : Tab.und P t = some d := by rfl) (hd' : (match d with | .struct _ | .array _ _ => true | _ => false) = false := by rfl) (hk : (clCells (ls.getD i' cl0))[k]? = some v := by first | ((conv => lhs; whnf); done) | rfl) (hlt : i' < ls.length := by omega) (hd : dstOk n dst = true := by rfl) : OpT P f R B n K ops l (opr dst (.load t x) ty) σ Γ Ms := sq_load (le_clf hx hFa.1 hFa.2 hu hd' hk hlt) hd k_
theorem o_ldT {t : TypeId} {l' : List (Nat × Nat)} {bt bk o i' : Nat} {a : SH} {zv : Value} {ts : List T} {VR VK VS : Nat → SH} (k_ : RgT P f R B n K ops l (putS σ dst (.agg (tc (ts.getD i' t0) (VR i') (VK i') (VS i')).toArray)) Γ Ms) (hx : ev σ x = .pointer (some ⟨bk, o + i' * 6, none⟩) := by first | ((conv => lhs; whnf); done) | rfl) (hFa : TLx ts a VR VK VS ∈ Γ ∧ a.1 = some ⟨bk, o, none⟩ := by first | exact ⟨List.Mem.head _, by assumption⟩ | exact ⟨List.Mem.tail _ (List.Mem.head _), by assumption⟩ | exact ⟨List.Mem.tail _ (List.Mem.tail _ (List.Mem.head _)), by assumption⟩ | exact ⟨List.Mem.tail _ (List.Mem.tail _ (List.Mem.tail _ (List.Mem.head _))), by assumption⟩ | exact ⟨List.Mem.tail _ (List.Mem.tail _ (List.Mem.tail _ (List.Mem.tail _ (List.Mem.head _)))), by assumption⟩ | exact ⟨List.Mem.tail _ (List.Mem.tail _ (List.Mem.tail _ (List.Mem.tail _ (List.Mem.tail _ (List.Mem.head _))))), by assumption⟩ | exact ⟨List.Mem.tail _ (List.Mem.tail _ (List.Mem.tail _ (List.Mem.tail _ (List.Mem.tail _ (List.Mem.tail _ (List.Mem.head _)))))), by assumption⟩ | exact ⟨List.Mem.tail _ (List.Mem.tail _ (List.Mem.tail _ (List.Mem.tail _ (List.Mem.tail _ (List.Mem.tail _ (List.Mem.tail _ (List.Mem.head _))))))), by assumption⟩ | exact ⟨List.Mem.tail _ (List.Mem.tail _ (List.Mem.tail _ (List.Mem.tail _ (List.Mem.tail _ (List.Mem.tail _ (List.Mem.tail _ (List.Mem.tail _ (List.Mem.head _)))))))), by assumption⟩ | exact ⟨List.Mem.tail _ (List.Mem.tail _ (List.Mem.tail _ (List.Mem.tail _ (List.Mem.tail _ (List.Mem.tail _ (List.Mem.tail _ (List.Mem.tail _ (List.Mem.tail _ (List.Mem.head _))))))))), by assumption⟩ | exact ⟨List.Mem.tail _ (List.Mem.tail _ (List.Mem.tail _ (List.Mem.tail _ (List.Mem.tail _ (List.Mem.tail _ (List.Mem.tail _ (List.Mem.tail _ (List.Mem.tail _ (List.Mem.tail _ (List.Mem.head _)))))))))), by assumption⟩ | exact ⟨List.Mem.tail _ (List.Mem.tail _ (List.Mem.tail _ (List.Mem.tail _ (List.Mem.tail _ (List.Mem.tail _ (List.Mem.tail _ (List.Mem.tail _ (List.Mem.tail _ (List.Mem.tail _ (List.Mem.tail _ (List.Mem.head _))))))))))), by assumption⟩ | exact ⟨List.Mem.tail _ (List.Mem.tail _ (List.Mem.tail _ (List.Mem.tail _ (List.Mem.tail _ (List.Mem.tail _ (List.Mem.tail _ (List.Mem.tail _ (List.Mem.tail _ (List.Mem.tail _ (List.Mem.tail _ (List.Mem.tail _ (List.Mem.head _)))))))))))), by assumption⟩ | exact ⟨List.Mem.tail _ (List.Mem.tail _ (List.Mem.tail _ (List.Mem.tail _ (List.Mem.tail _ (List.Mem.tail _ (List.Mem.tail _ (List.Mem.tail _ (List.Mem.tail _ (List.Mem.tail _ (List.Mem.tail _ (List.Mem.tail _ (List.Mem.tail _ (List.Mem.head _))))))))))))), by assumption⟩) (hu : Tab.lay P t = some l' := by rfl) (hi : Tab.inf P t = some (6, bt, zv) := by rfl) (hlt : i' < ts.length := by omega) (hd : dstOk n dst = true := by rfl) : OpT P f R B n K ops l (opr dst (.load t x) ty) σ Γ Ms := sq_load (le_term hx hFa.1 hFa.2 hu hi hlt) hd k_
theorem v_ldT {t : TypeId} {l' : List (Nat × Nat)} {bt bk o i' : Nat} {a : SH} {zv : Value} {ts : List T} {VR VK VS : Nat → SH} (k_ : NV false P f R B n K ops fin l (putS σ dst (.agg (tc (ts.getD i' t0) (VR i') (VK i') (VS i')).toArray)) Γ Ms) (hx : ev σ x = .pointer (some ⟨bk, o + i' * 6, none⟩) := by first | ((conv => lhs; whnf); done) | rfl) (hFa : TLx ts a VR VK VS ∈ Γ ∧ a.1 = some ⟨bk, o, none⟩ := by first | exact ⟨List.Mem.head _, by assumption⟩ | exact ⟨List.Mem.tail _ (List.Mem.head _), by assumption⟩ | exact ⟨List.Mem.tail _ (List.Mem.tail _ (List.Mem.head _)), by assumption⟩ | exact ⟨List.Mem.tail _ (List.Mem.tail _ (List.Mem.tail _ (List.Mem.head _))), by assumption⟩ | exact ⟨List.Mem.tail _ (List.Mem.tail _ (List.Mem.tail _ (List.Mem.tail _ (List.Mem.head _)))), by assumption⟩ | exact ⟨List.Mem.tail _ (List.Mem.tail _ (List.Mem.tail _ (List.Mem.tail _ (List.Mem.tail _ (List.Mem.head _))))), by assumption⟩ | exact ⟨List.Mem.tail _ (List.Mem.tail _ (List.Mem.tail _ (List.Mem.tail _ (List.Mem.tail _ (List.Mem.tail _ (List.Mem.head _)))))), by assumption⟩ | exact ⟨List.Mem.tail _ (List.Mem.tail _ (List.Mem.tail _ (List.Mem.tail _ (List.Mem.tail _ (List.Mem.tail _ (List.Mem.tail _ (List.Mem.head _))))))), by assumption⟩ | exact ⟨List.Mem.tail _ (List.Mem.tail _ (List.Mem.tail _ (List.Mem.tail _ (List.Mem.tail _ (List.Mem.tail _ (List.Mem.tail _ (List.Mem.tail _ (List.Mem.head _)))))))), by assumption⟩ | exact ⟨List.Mem.tail _ (List.Mem.tail _ (List.Mem.tail _ (List.Mem.tail _ (List.Mem.tail _ (List.Mem.tail _ (List.Mem.tail _ (List.Mem.tail _ (List.Mem.tail _ (List.Mem.head _))))))))), by assumption⟩ | exact ⟨List.Mem.tail _ (List.Mem.tail _ (List.Mem.tail _ (List.Mem.tail _ (List.Mem.tail _ (List.Mem.tail _ (List.Mem.tail _ (List.Mem.tail _ (List.Mem.tail _ (List.Mem.tail _ (List.Mem.head _)))))))))), by assumption⟩ | exact ⟨List.Mem.tail _ (List.Mem.tail _ (List.Mem.tail _ (List.Mem.tail _ (List.Mem.tail _ (List.Mem.tail _ (List.Mem.tail _ (List.Mem.tail _ (List.Mem.tail _ (List.Mem.tail _ (List.Mem.tail _ (List.Mem.head _))))))))))), by assumption⟩ | exact ⟨List.Mem.tail _ (List.Mem.tail _ (List.Mem.tail _ (List.Mem.tail _ (List.Mem.tail _ (List.Mem.tail _ (List.Mem.tail _ (List.Mem.tail _ (List.Mem.tail _ (List.Mem.tail _ (List.Mem.tail _ (List.Mem.tail _ (List.Mem.head _)))))))))))), by assumption⟩ | exact ⟨List.Mem.tail _ (List.Mem.tail _ (List.Mem.tail _ (List.Mem.tail _ (List.Mem.tail _ (List.Mem.tail _ (List.Mem.tail _ (List.Mem.tail _ (List.Mem.tail _ (List.Mem.tail _ (List.Mem.tail _ (List.Mem.tail _ (List.Mem.tail _ (List.Mem.head _))))))))))))), by assumption⟩) (hu : Tab.lay P t = some l' := by rfl) (hi : Tab.inf P t = some (6, bt, zv) := by rfl) (hlt : i' < ts.length := by omega) (hd : dstOk n dst = true := by rfl) : NvT false P f R B n K ops fin i l dst (.load t x) ty σ Γ Ms := nv_load (le_term hx hFa.1 hFa.2 hu hi hlt) rfl hd k_
theorem o_ldTf {t : TypeId} {d : TypeDesc} {bk o i' k : Nat} {a : SH} {ts : List T} {VR VK VS : Nat → SH} (k_ : RgT P f R B n K ops l (putS σ dst v) Γ Ms) (hx : ev σ x = .pointer (some ⟨bk, o + i' * 6 + k, none⟩) := by first | ((conv => lhs; whnf); done) | rfl) (hFa : TLx ts a VR VK VS ∈ Γ ∧ a.1 = some ⟨bk, o, none⟩ := by first | exact ⟨List.Mem.head _, by assumption⟩ | exact ⟨List.Mem.tail _ (List.Mem.head _), by assumption⟩ | exact ⟨List.Mem.tail _ (List.Mem.tail _ (List.Mem.head _)), by assumption⟩ | exact ⟨List.Mem.tail _ (List.Mem.tail _ (List.Mem.tail _ (List.Mem.head _))), by assumption⟩ | exact ⟨List.Mem.tail _ (List.Mem.tail _ (List.Mem.tail _ (List.Mem.tail _ (List.Mem.head _)))), by assumption⟩ | exact ⟨List.Mem.tail _ (List.Mem.tail _ (List.Mem.tail _ (List.Mem.tail _ (List.Mem.tail _ (List.Mem.head _))))), by assumption⟩ | exact ⟨List.Mem.tail _ (List.Mem.tail _ (List.Mem.tail _ (List.Mem.tail _ (List.Mem.tail _ (List.Mem.tail _ (List.Mem.head _)))))), by assumption⟩ | exact ⟨List.Mem.tail _ (List.Mem.tail _ (List.Mem.tail _ (List.Mem.tail _ (List.Mem.tail _ (List.Mem.tail _ (List.Mem.tail _ (List.Mem.head _))))))), by assumption⟩ | exact ⟨List.Mem.tail _ (List.Mem.tail _ (List.Mem.tail _ (List.Mem.tail _ (List.Mem.tail _ (List.Mem.tail _ (List.Mem.tail _ (List.Mem.tail _ (List.Mem.head _)))))))), by assumption⟩ | exact ⟨List.Mem.tail _ (List.Mem.tail _ (List.Mem.tail _ (List.Mem.tail _ (List.Mem.tail _ (List.Mem.tail _ (List.Mem.tail _ (List.Mem.tail _ (List.Mem.tail _ (List.Mem.head _))))))))), by assumption⟩ | exact ⟨List.Mem.tail _ (List.Mem.tail _ (List.Mem.tail _ (List.Mem.tail _ (List.Mem.tail _ (List.Mem.tail _ (List.Mem.tail _ (List.Mem.tail _ (List.Mem.tail _ (List.Mem.tail _ (List.Mem.head _)))))))))), by assumption⟩ | exact ⟨List.Mem.tail _ (List.Mem.tail _ (List.Mem.tail _ (List.Mem.tail _ (List.Mem.tail _ (List.Mem.tail _ (List.Mem.tail _ (List.Mem.tail _ (List.Mem.tail _ (List.Mem.tail _ (List.Mem.tail _ (List.Mem.head _))))))))))), by assumption⟩ | exact ⟨List.Mem.tail _ (List.Mem.tail _ (List.Mem.tail _ (List.Mem.tail _ (List.Mem.tail _ (List.Mem.tail _ (List.Mem.tail _ (List.Mem.tail _ (List.Mem.tail _ (List.Mem.tail _ (List.Mem.tail _ (List.Mem.tail _ (List.Mem.head _)))))))))))), by assumption⟩ | exact ⟨List.Mem.tail _ (List.Mem.tail _ (List.Mem.tail _ (List.Mem.tail _ (List.Mem.tail _ (List.Mem.tail _ (List.Mem.tail _ (List.Mem.tail _ (List.Mem.tail _ (List.Mem.tail _ (List.Mem.tail _ (List.Mem.tail _ (List.Mem.tail _ (List.Mem.head _))))))))))))), by assumption⟩) (hu : Tab.und P t = some d := by rfl) (hd' : (match d with | .struct _ | .array _ _ => true | _ => false) = false := by rfl) (hk : (tc (ts.getD i' t0) (VR i') (VK i') (VS i'))[k]? = some v := by first | ((conv => lhs; whnf); done) | rfl) (hlt : i' < ts.length := by omega) (hd : dstOk n dst = true := by rfl) : OpT P f R B n K ops l (opr dst (.load t x) ty) σ Γ Ms := sq_load (le_termf hx hFa.1 hFa.2 hu hd' hk hlt) hd k_
theorem o_ldB {t : TypeId} {l' : List (Nat × Nat)} {bt bk o i' : Nat} {a : SH} {zv : Value} {bs : List Br} {VF VK : Nat → SH} (k_ : RgT P f R B n K ops l (putS σ dst (.agg (bc (bs.getD i' br0) (VF i') (VK i')).toArray)) Γ Ms) (hx : ev σ x = .pointer (some ⟨bk, o + i' * 2, none⟩) := by first | ((conv => lhs; whnf); done) | rfl) (hFa : BLx bs a VF VK ∈ Γ ∧ a.1 = some ⟨bk, o, none⟩ := by first | exact ⟨List.Mem.head _, by assumption⟩ | exact ⟨List.Mem.tail _ (List.Mem.head _), by assumption⟩ | exact ⟨List.Mem.tail _ (List.Mem.tail _ (List.Mem.head _)), by assumption⟩ | exact ⟨List.Mem.tail _ (List.Mem.tail _ (List.Mem.tail _ (List.Mem.head _))), by assumption⟩ | exact ⟨List.Mem.tail _ (List.Mem.tail _ (List.Mem.tail _ (List.Mem.tail _ (List.Mem.head _)))), by assumption⟩ | exact ⟨List.Mem.tail _ (List.Mem.tail _ (List.Mem.tail _ (List.Mem.tail _ (List.Mem.tail _ (List.Mem.head _))))), by assumption⟩ | exact ⟨List.Mem.tail _ (List.Mem.tail _ (List.Mem.tail _ (List.Mem.tail _ (List.Mem.tail _ (List.Mem.tail _ (List.Mem.head _)))))), by assumption⟩ | exact ⟨List.Mem.tail _ (List.Mem.tail _ (List.Mem.tail _ (List.Mem.tail _ (List.Mem.tail _ (List.Mem.tail _ (List.Mem.tail _ (List.Mem.head _))))))), by assumption⟩ | exact ⟨List.Mem.tail _ (List.Mem.tail _ (List.Mem.tail _ (List.Mem.tail _ (List.Mem.tail _ (List.Mem.tail _ (List.Mem.tail _ (List.Mem.tail _ (List.Mem.head _)))))))), by assumption⟩ | exact ⟨List.Mem.tail _ (List.Mem.tail _ (List.Mem.tail _ (List.Mem.tail _ (List.Mem.tail _ (List.Mem.tail _ (List.Mem.tail _ (List.Mem.tail _ (List.Mem.tail _ (List.Mem.head _))))))))), by assumption⟩ | exact ⟨List.Mem.tail _ (List.Mem.tail _ (List.Mem.tail _ (List.Mem.tail _ (List.Mem.tail _ (List.Mem.tail _ (List.Mem.tail _ (List.Mem.tail _ (List.Mem.tail _ (List.Mem.tail _ (List.Mem.head _)))))))))), by assumption⟩ | exact ⟨List.Mem.tail _ (List.Mem.tail _ (List.Mem.tail _ (List.Mem.tail _ (List.Mem.tail _ (List.Mem.tail _ (List.Mem.tail _ (List.Mem.tail _ (List.Mem.tail _ (List.Mem.tail _ (List.Mem.tail _ (List.Mem.head _))))))))))), by assumption⟩ | exact ⟨List.Mem.tail _ (List.Mem.tail _ (List.Mem.tail _ (List.Mem.tail _ (List.Mem.tail _ (List.Mem.tail _ (List.Mem.tail _ (List.Mem.tail _ (List.Mem.tail _ (List.Mem.tail _ (List.Mem.tail _ (List.Mem.tail _ (List.Mem.head _)))))))))))), by assumption⟩ | exact ⟨List.Mem.tail _ (List.Mem.tail _ (List.Mem.tail _ (List.Mem.tail _ (List.Mem.tail _ (List.Mem.tail _ (List.Mem.tail _ (List.Mem.tail _ (List.Mem.tail _ (List.Mem.tail _ (List.Mem.tail _ (List.Mem.tail _ (List.Mem.tail _ (List.Mem.head _))))))))))))), by assumption⟩) (hu : Tab.lay P t = some l' := by rfl) (hi : Tab.inf P t = some (2, bt, zv) := by rfl) (hlt : i' < bs.length := by omega) (hd : dstOk n dst = true := by rfl) : OpT P f R B n K ops l (opr dst (.load t x) ty) σ Γ Ms := sq_load (le_br hx hFa.1 hFa.2 hu hi hlt) hd k_
theorem o_ldBf {t : TypeId} {d : TypeDesc} {bk o i' k : Nat} {a : SH} {bs : List Br} {VF VK : Nat → SH} (k_ : RgT P f R B n K ops l (putS σ dst v) Γ Ms) (hx : ev σ x = .pointer (some ⟨bk, o + i' * 2 + k, none⟩) := by first | ((conv => lhs; whnf); done) | rfl) (hFa : BLx bs a VF VK ∈ Γ ∧ a.1 = some ⟨bk, o, none⟩ := by first | exact ⟨List.Mem.head _, by assumption⟩ | exact ⟨List.Mem.tail _ (List.Mem.head _), by assumption⟩ | exact ⟨List.Mem.tail _ (List.Mem.tail _ (List.Mem.head _)), by assumption⟩ | exact ⟨List.Mem.tail _ (List.Mem.tail _ (List.Mem.tail _ (List.Mem.head _))), by assumption⟩ | exact ⟨List.Mem.tail _ (List.Mem.tail _ (List.Mem.tail _ (List.Mem.tail _ (List.Mem.head _)))), by assumption⟩ | exact ⟨List.Mem.tail _ (List.Mem.tail _ (List.Mem.tail _ (List.Mem.tail _ (List.Mem.tail _ (List.Mem.head _))))), by assumption⟩ | exact ⟨List.Mem.tail _ (List.Mem.tail _ (List.Mem.tail _ (List.Mem.tail _ (List.Mem.tail _ (List.Mem.tail _ (List.Mem.head _)))))), by assumption⟩ | exact ⟨List.Mem.tail _ (List.Mem.tail _ (List.Mem.tail _ (List.Mem.tail _ (List.Mem.tail _ (List.Mem.tail _ (List.Mem.tail _ (List.Mem.head _))))))), by assumption⟩ | exact ⟨List.Mem.tail _ (List.Mem.tail _ (List.Mem.tail _ (List.Mem.tail _ (List.Mem.tail _ (List.Mem.tail _ (List.Mem.tail _ (List.Mem.tail _ (List.Mem.head _)))))))), by assumption⟩ | exact ⟨List.Mem.tail _ (List.Mem.tail _ (List.Mem.tail _ (List.Mem.tail _ (List.Mem.tail _ (List.Mem.tail _ (List.Mem.tail _ (List.Mem.tail _ (List.Mem.tail _ (List.Mem.head _))))))))), by assumption⟩ | exact ⟨List.Mem.tail _ (List.Mem.tail _ (List.Mem.tail _ (List.Mem.tail _ (List.Mem.tail _ (List.Mem.tail _ (List.Mem.tail _ (List.Mem.tail _ (List.Mem.tail _ (List.Mem.tail _ (List.Mem.head _)))))))))), by assumption⟩ | exact ⟨List.Mem.tail _ (List.Mem.tail _ (List.Mem.tail _ (List.Mem.tail _ (List.Mem.tail _ (List.Mem.tail _ (List.Mem.tail _ (List.Mem.tail _ (List.Mem.tail _ (List.Mem.tail _ (List.Mem.tail _ (List.Mem.head _))))))))))), by assumption⟩ | exact ⟨List.Mem.tail _ (List.Mem.tail _ (List.Mem.tail _ (List.Mem.tail _ (List.Mem.tail _ (List.Mem.tail _ (List.Mem.tail _ (List.Mem.tail _ (List.Mem.tail _ (List.Mem.tail _ (List.Mem.tail _ (List.Mem.tail _ (List.Mem.head _)))))))))))), by assumption⟩ | exact ⟨List.Mem.tail _ (List.Mem.tail _ (List.Mem.tail _ (List.Mem.tail _ (List.Mem.tail _ (List.Mem.tail _ (List.Mem.tail _ (List.Mem.tail _ (List.Mem.tail _ (List.Mem.tail _ (List.Mem.tail _ (List.Mem.tail _ (List.Mem.tail _ (List.Mem.head _))))))))))))), by assumption⟩) (hu : Tab.und P t = some d := by rfl) (hd' : (match d with | .struct _ | .array _ _ => true | _ => false) = false := by rfl) (hk : (bc (bs.getD i' br0) (VF i') (VK i'))[k]? = some v := by first | ((conv => lhs; whnf); done) | rfl) (hlt : i' < bs.length := by omega) (hd : dstOk n dst = true := by rfl) : OpT P f R B n K ops l (opr dst (.load t x) ty) σ Γ Ms := sq_load (le_brf hx hFa.1 hFa.2 hu hd' hk hlt) hd k_
theorem v_ldBf {t : TypeId} {d : TypeDesc} {bk o i' k : Nat} {a : SH} {bs : List Br} {VF VK : Nat → SH} (k_ : NV false P f R B n K ops fin l (putS σ dst v) Γ Ms) (hx : ev σ x = .pointer (some ⟨bk, o + i' * 2 + k, none⟩) := by first | ((conv => lhs; whnf); done) | rfl) (hFa : BLx bs a VF VK ∈ Γ ∧ a.1 = some ⟨bk, o, none⟩ := by first | exact ⟨List.Mem.head _, by assumption⟩ | exact ⟨List.Mem.tail _ (List.Mem.head _), by assumption⟩ | exact ⟨List.Mem.tail _ (List.Mem.tail _ (List.Mem.head _)), by assumption⟩ | exact ⟨List.Mem.tail _ (List.Mem.tail _ (List.Mem.tail _ (List.Mem.head _))), by assumption⟩ | exact ⟨List.Mem.tail _ (List.Mem.tail _ (List.Mem.tail _ (List.Mem.tail _ (List.Mem.head _)))), by assumption⟩ | exact ⟨List.Mem.tail _ (List.Mem.tail _ (List.Mem.tail _ (List.Mem.tail _ (List.Mem.tail _ (List.Mem.head _))))), by assumption⟩ | exact ⟨List.Mem.tail _ (List.Mem.tail _ (List.Mem.tail _ (List.Mem.tail _ (List.Mem.tail _ (List.Mem.tail _ (List.Mem.head _)))))), by assumption⟩ | exact ⟨List.Mem.tail _ (List.Mem.tail _ (List.Mem.tail _ (List.Mem.tail _ (List.Mem.tail _ (List.Mem.tail _ (List.Mem.tail _ (List.Mem.head _))))))), by assumption⟩ | exact ⟨List.Mem.tail _ (List.Mem.tail _ (List.Mem.tail _ (List.Mem.tail _ (List.Mem.tail _ (List.Mem.tail _ (List.Mem.tail _ (List.Mem.tail _ (List.Mem.head _)))))))), by assumption⟩ | exact ⟨List.Mem.tail _ (List.Mem.tail _ (List.Mem.tail _ (List.Mem.tail _ (List.Mem.tail _ (List.Mem.tail _ (List.Mem.tail _ (List.Mem.tail _ (List.Mem.tail _ (List.Mem.head _))))))))), by assumption⟩ | exact ⟨List.Mem.tail _ (List.Mem.tail _ (List.Mem.tail _ (List.Mem.tail _ (List.Mem.tail _ (List.Mem.tail _ (List.Mem.tail _ (List.Mem.tail _ (List.Mem.tail _ (List.Mem.tail _ (List.Mem.head _)))))))))), by assumption⟩ | exact ⟨List.Mem.tail _ (List.Mem.tail _ (List.Mem.tail _ (List.Mem.tail _ (List.Mem.tail _ (List.Mem.tail _ (List.Mem.tail _ (List.Mem.tail _ (List.Mem.tail _ (List.Mem.tail _ (List.Mem.tail _ (List.Mem.head _))))))))))), by assumption⟩ | exact ⟨List.Mem.tail _ (List.Mem.tail _ (List.Mem.tail _ (List.Mem.tail _ (List.Mem.tail _ (List.Mem.tail _ (List.Mem.tail _ (List.Mem.tail _ (List.Mem.tail _ (List.Mem.tail _ (List.Mem.tail _ (List.Mem.tail _ (List.Mem.head _)))))))))))), by assumption⟩ | exact ⟨List.Mem.tail _ (List.Mem.tail _ (List.Mem.tail _ (List.Mem.tail _ (List.Mem.tail _ (List.Mem.tail _ (List.Mem.tail _ (List.Mem.tail _ (List.Mem.tail _ (List.Mem.tail _ (List.Mem.tail _ (List.Mem.tail _ (List.Mem.tail _ (List.Mem.head _))))))))))))), by assumption⟩) (hu : Tab.und P t = some d := by rfl) (hd' : (match d with | .struct _ | .array _ _ => true | _ => false) = false := by rfl) (hk : (bc (bs.getD i' br0) (VF i') (VK i'))[k]? = some v := by first | ((conv => lhs; whnf); done) | rfl) (hlt : i' < bs.length := by omega) (hd : dstOk n dst = true := by rfl) : NvT false P f R B n K ops fin i l dst (.load t x) ty σ Γ Ms := nv_load (le_brf hx hFa.1 hFa.2 hu hd' hk hlt) rfl hd k_
theorem o_box {t : TypeId} {cs : List Value} (k_ : ∀ b, RgT P f R B n K ops l (putS σ dst ((fun b => .pointer (some ⟨b, 0, none⟩)) b)) Γ (boxR b cs t :: Ms)) (hx : (ev σ x).cells = cs.toArray := by rfl) (hd : dstOk n dst = true := by rfl) : OpT P f R B n K ops l (opr dst (.box t x) ty) σ Γ Ms := sq_alloc (ae_box hx) hd k_
theorem o_new {t : TypeId} {s bt : Nat} {zv : Value} {cs : List Value} (k_ : ∀ b, RgT P f R B n K ops l (putS σ dst ((fun b => .pointer (some ⟨b, 0, none⟩)) b)) Γ (boxR b cs t :: Ms)) (hi : Tab.inf P t = some (s, bt, zv) := by rfl) (hz : zv.cells = cs.toArray := by rfl) (hd : dstOk n dst = true := by rfl) : OpT P f R B n K ops l (opr dst (.alloc t) ty) σ Γ Ms := sq_alloc (ae_alloc hi hz) hd k_
theorem v_new {t : TypeId} {s bt : Nat} {zv : Value} {cs : List Value} (k_ : ∀ b, NV tn P f R B n K ops fin l (putS σ dst ((fun b => .pointer (some ⟨b, 0, none⟩)) b)) Γ (boxR b cs t :: Ms)) (hi : Tab.inf P t = some (s, bt, zv) := by rfl) (hz : zv.cells = cs.toArray := by rfl) (hd : dstOk n dst = true := by rfl) : NvT tn P f R B n K ops fin i l dst (.alloc t) ty σ Γ Ms := nv_alloc (ae_alloc hi hz) rfl hd k_
theorem o_lit1 {t e : TypeId} {sz bt : Nat} {zv : Value} {cs : List Value} (k_ : ∀ b, RgT P f R B n K ops l (putS σ dst ((fun b => .slice (some ⟨b, 0, none⟩) 1 1) b)) Γ (boxR b cs e :: Ms)) (hu : Tab.und P t = some (.slice e) := by rfl) (hi : Tab.inf P e = some (sz, bt, zv) := by rfl) (hle : sz ≤ 16777216 := by decide) (hx : (ev σ x).cells = cs.toArray := by rfl) (hl : cs.length = sz := by rfl) (hd : dstOk n dst = true := by rfl) : OpT P f R B n K ops l (opr dst (.buildSlice t 1 #[(0, x)]) ty) σ Γ Ms := sq_alloc (ae_lit1 hu hi hle hx hl) hd k_
theorem v_lit1 {t e : TypeId} {sz bt : Nat} {zv : Value} {cs : List Value} (k_ : ∀ b, NV tn P f R B n K ops fin l (putS σ dst ((fun b => .slice (some ⟨b, 0, none⟩) 1 1) b)) Γ (boxR b cs e :: Ms)) (hu : Tab.und P t = some (.slice e) := by rfl) (hi : Tab.inf P e = some (sz, bt, zv) := by rfl) (hle : sz ≤ 16777216 := by decide) (hx : (ev σ x).cells = cs.toArray := by rfl) (hl : cs.length = sz := by rfl) (hd : dstOk n dst = true := by rfl) : NvT tn P f R B n K ops fin i l dst (.buildSlice t 1 #[(0, x)]) ty σ Γ Ms := nv_alloc (ae_lit1 hu hi hle hx hl) rfl hd k_
theorem o_lit2 {t e : TypeId} {sz bt : Nat} {zv : Value} {cs cs2 : List Value} (k_ : ∀ b, RgT P f R B n K ops l (putS σ dst ((fun b => .slice (some ⟨b, 0, none⟩) 2 2) b)) Γ (boxR b (cs ++ cs2) e :: Ms)) (hu : Tab.und P t = some (.slice e) := by rfl) (hi : Tab.inf P e = some (sz, bt, zv) := by rfl) (hle : 2 * sz ≤ 16777216 := by decide) (hx : (ev σ x).cells = cs.toArray := by rfl) (hy : (ev σ y).cells = cs2.toArray := by rfl) (hl : cs.length = sz := by rfl) (hl2 : cs2.length = sz := by rfl) (hd : dstOk n dst = true := by rfl) : OpT P f R B n K ops l (opr dst (.buildSlice t 2 #[(0, x), (1, y)]) ty) σ Γ Ms := sq_alloc (ae_lit2 hu hi hle hx hy hl hl2) hd k_
theorem o_lit0 {t e : TypeId} {sz bt : Nat} {zv : Value} (k_ : ∀ b, RgT P f R B n K ops l (putS σ dst ((fun b => .slice (some ⟨b, 0, none⟩) 0 0) b)) Γ (boxR b [] e :: Ms)) (hu : Tab.und P t = some (.slice e) := by rfl) (hi : Tab.inf P e = some (sz, bt, zv) := by rfl) (hd : dstOk n dst = true := by rfl) : OpT P f R B n K ops l (opr dst (.buildSlice t 0 #[]) ty) σ Γ Ms := sq_alloc (ae_lit0 hu hi) hd k_
theorem v_lit0 {t e : TypeId} {sz bt : Nat} {zv : Value} (k_ : ∀ b, NV tn P f R B n K ops fin l (putS σ dst ((fun b => .slice (some ⟨b, 0, none⟩) 0 0) b)) Γ (boxR b [] e :: Ms)) (hu : Tab.und P t = some (.slice e) := by rfl) (hi : Tab.inf P e = some (sz, bt, zv) := by rfl) (hd : dstOk n dst = true := by rfl) : NvT tn P f R B n K ops fin i l dst (.buildSlice t 0 #[]) ty σ Γ Ms := nv_alloc (ae_lit0 hu hi) rfl hd k_
theorem o_st {t T' : TypeId} {b s bt : Nat} {zv : Value} {cs cs' : List Value} (k_ : RgT P f R B n K ops l σ Γ (boxR b cs' T' :: Ms2)) (hx : ev σ x = .pointer (some ⟨b, 0, none⟩) := by first | ((conv => lhs; whnf); done) | rfl) (hm : Ms.Perm (boxR b cs T' :: Ms2) := by first | exact perm0 | exact perm1 | exact perm2 | exact perm3 | exact perm4 | exact perm5 | exact perm6) (hy : (ev σ y).cells = cs'.toArray := by rfl) (hi : Tab.inf P t = some (s, bt, zv) := by rfl) (hl : cs'.length = s := by rfl) (hl2 : cs.length = s := by rfl) (h1 : oneCells cs' = true := by rfl) : OpT P f R B n K ops l (opr none (.store t x y) ty) σ Γ Ms := sq_store (se_box hx hy hm hi hl hl2 h1) k_
theorem o_stc {t T' : TypeId} {b k bt : Nat} {zv : Value} {cs cs' : List Value} (k_ : RgT P f R B n K ops l σ Γ (boxR b cs' T' :: Ms2)) (hx : ev σ x = .pointer (some ⟨b, k, none⟩) := by first | ((conv => lhs; whnf); done) | rfl) (hm : Ms.Perm (boxR b cs T' :: Ms2) := by first | exact perm0 | exact perm1 | exact perm2 | exact perm3 | exact perm4 | exact perm5 | exact perm6) (hy : ev σ y = v := by first | ((conv => lhs; whnf); done) | rfl) (hi : Tab.inf P t = some (1, bt, zv) := by rfl) (h1 : v.oneCell' = true := by rfl) (hk : k < cs.length := by exact Nat.le_of_ble_eq_true rfl) (hc : cs.set k v = cs' := by rfl) : OpT P f R B n K ops l (opr none (.store t x y) ty) σ Γ Ms := by
  subst hc
  exact sq_store (se_cell hx hy hm hi h1 hk) k_
theorem o_appS {t e T' : TypeId} {ts : Array TypeId} {sz bt n' m c b : Nat} {zv : Value} {a : SH} {xs cs : List Value} (k_ : ∀ a' : SH, RgT P f R B n K ops l (putS σ dst (sl a' (n' + m))) Γ (rowS sz e a' (n' + m) (xs ++ cs) :: boxR b cs T' :: Ms2)) (hm : Ms.Perm (rowS sz e a n' xs :: boxR b cs T' :: Ms2) := by first | exact perm0 | exact perm1 | exact perm2 | exact perm3 | exact perm4 | exact perm5 | exact perm6) (hx : ev σ x = sl a n' := by rfl) (hy : ev σ y = .slice (some ⟨b, 0, none⟩) m c := by first | ((conv => lhs; whnf); done) | rfl) (hts : ts = #[t, t] := by rfl) (hu : Tab.und P t = some (.slice e) := by rfl) (hi : Tab.inf P e = some (sz, bt, zv) := by rfl) (hzs : zv.cells.size = sz := by rfl) (hsz : 0 < sz := by exact Nat.le_of_ble_eq_true rfl) (hl : cs.length = m * sz := by rfl) (h1 : oneCells cs = true := by rfl) (hb : (n' + m) * bt ≤ 140737488355328 := by first | omega | (unfold reach at *; omega) | (unfold reach cap47 at *; omega)) (hnm : n' + m ≤ 9223372036854775807 := by first | omega | (unfold reach at *; omega) | (unfold reach cap47 at *; omega)) (hd : dstOk n dst = true := by rfl) : OpT P f R B n K ops l (opr dst (.call { callee := .builtin .append, args := #[x, y], argTypes := ts }) ty) σ Γ Ms := sq_turn (te_appS hm hx hy hts hu hi hzs hsz hl h1 hb hnm) hd k_
theorem o_appCL {t e : TypeId} {ts : Array TypeId} {bt n' : Nat} {zv : Value} {a b : SH} {xs : List Value} {ls : List Cl} (k_ : ∀ a' : SH, RgT P f R B n K ops l (putS σ dst (sl a' (n' + ls.length))) Γ (rowS 2 e a' (n' + ls.length) (xs ++ clFlat ls) :: Ms2)) (hF : CL ls b ∈ Γ) (hm : Ms.Perm (rowS 2 e a n' xs :: Ms2) := by first | exact perm0 | exact perm1 | exact perm2 | exact perm3 | exact perm4 | exact perm5 | exact perm6) (hx : ev σ x = sl a n' := by rfl) (hy : ev σ y = sl b ls.length := by rfl) (hts : ts = #[t, t] := by rfl) (hu : Tab.und P t = some (.slice e) := by rfl) (hi : Tab.inf P e = some (2, bt, zv) := by rfl) (hzs : zv.cells.size = 2 := by rfl) (hb : (n' + ls.length) * bt ≤ 140737488355328 := by first | omega | (unfold reach at *; omega) | (unfold reach cap47 at *; omega)) (hnm : n' + ls.length ≤ 9223372036854775807 := by first | omega | (unfold reach at *; omega) | (unfold reach cap47 at *; omega)) (hd : dstOk n dst = true := by rfl) : OpT P f R B n K ops l (opr dst (.call { callee := .builtin .append, args := #[x, y], argTypes := ts }) ty) σ Γ Ms := sq_turn (te_appCL hm hF hx hy hts hu hi hzs hb hnm) hd k_
theorem o_makeMap [TyF P] [TabM P] {t : TypeId} (k_ : ∀ b, RgT P f R B n K ops l (putS σ dst (.map (some b))) Γ (mapR b [] :: Ms)) (hd : dstOk n dst = true := by rfl) : OpT P f R B n K ops l (opr dst (.makeMap t none) ty) σ Γ Ms := sq_turn te_makeMap hd k_
theorem o_lookupM [TyF P] [TabM P] {t e : TypeId} {s bt b : Nat} {c : Cl} {keys : List Cl} (k_ : RgT P f R B n K ops l (putS σ dst (.bool (decide (c ∈ keys)))) Γ Ms) (hx : ev σ x = .map (some b) := by first | ((conv => lhs; whnf); done) | rfl) (hm : mapR b keys ∈ Ms := by repeat (first | exact List.mem_cons_self | apply List.mem_cons_of_mem)) (hy : ev σ y = keyV c := by rfl) (hc : u32 c := by assumption) (hu : Tab.und P t = some (.map (TyF.tC P) e) := by rfl) (hi : Tab.inf P e = some (s, bt, .bool false) := by rfl) (hd : dstOk n dst = true := by rfl) : OpT P f R B n K ops l (opr dst (.lookup t x y false) ty) σ Γ Ms := sq_load (le_lookup hx hm hc hy hu hi) hd k_
theorem o_mapUpd [TyF P] [TabM P] {t e : TypeId} {b : Nat} {c : Cl} {keys : List Cl} (k_ : RgT P f R B n K ops l σ Γ (mapR b (keys ++ [c]) :: Ms2)) (hx : ev σ x = .map (some b) := by first | ((conv => lhs; whnf); done) | rfl) (hm : Ms.Perm (mapR b keys :: Ms2) := by first | exact perm0 | exact perm1 | exact perm2 | exact perm3 | exact perm4 | exact perm5 | exact perm6) (hy : ev σ y = keyV c := by rfl) (hc : u32 c := by assumption) (hn : c ∉ keys := by assumption) (hz : ev σ z = .bool true := by rfl) (hu : Tab.und P t = some (.map (TyF.tC P) e) := by rfl) : OpT P f R B n K ops l (opr none (.mapUpdate t x y z) ty) σ Γ Ms := sq_store (se_mapUpdate hx hm hc hn hy hz hu) k_
/-- A call by its contract. -/
theorem enterE {c : FuncId} {args : Array Value} {as : Array Operand} {ts : Array TypeId} {g : Operand} (hg : ev σ g = .func (.func c) #[] #[]) (ha : as.toList.map (ev σ) = args.toList) (hc : ∀ (args : Array Value) (w : World), (callFunc c args).run P w = .ok (.enter c args) w) : EnterE P σ (.call { callee := .value g, args := as, argTypes := ts }) ty c args := fun w => by
  have ha : as.map (ev σ) = args := Array.ext' (by simpa using ha)
  subst ha
  simp [opr, execOp, resolve, hg, Deferred.ofValue, invoke, hc]
/-- A call of a closure: what it holds comes behind the arguments. -/
theorem enterC {c : FuncId} {args cap : List Value} {as : Array Operand} {ts : Array TypeId} {g : Operand} (hg : ev σ g = .func (.func c) #[] cap.toArray) (ha : as.toList.map (ev σ) = args) (hc : ∀ (args : Array Value) (w : World), (callFunc c args).run P w = .ok (.enter c args) w) : EnterE P σ (.call { callee := .value g, args := as, argTypes := ts }) ty c (args ++ cap).toArray := fun w => by
  have ha : as.map (ev σ) = args.toArray := Array.ext' (by simpa using ha)
  simp [ha, opr, execOp, resolve, hg, Deferred.ofValue, invoke, hc]
theorem o_call {c : FuncId} {args : Array Value} {as : Array Operand} {ts : Array TypeId} {g : Operand} {pre : List Fact} {Ms0 : List Res} {X : Type} {val : X → Value} {N : X → List Fact} {Ms1 : X → List Res}
    (hc : ∀ (args : Array Value) (w : World), (callFunc c args).run P w = .ok (.enter c args) w) (hsp : Spec P c args pre Ms0 val N Ms1) (kk : ∀ x, RgT P f R B n K ops l (putS σ dst (val x)) (N x ++ Γ) (Ms1 x ++ Ms2))
    (hg : ev σ g = .func (.func c) #[] #[] := by rfl) (ha : as.toList.map (ev σ) = args.toList := by rfl) (hpre : ∀ F, F ∈ pre → F ∈ Γ := by first | (simp; done) | (simp +contextual; done)) (hm : Ms.Perm (Ms0 ++ Ms2) := by first | exact List.Perm.refl _ | exact permA1 | exact permA2 | exact permA3 | exact permA4 | exact perm1 | exact perm2 | exact perm3 | exact perm4 | exact permR3) (hd : dstOk n dst = true := by rfl) : OpT P f R B n K ops l (opr dst (.call { callee := .value g, args := as, argTypes := ts }) ty) σ Γ Ms :=
  sq_call (enterE hg ha hc) hsp hpre hm hd kk
theorem o_callC {c : FuncId} {args cap al : List Value} {as : Array Operand} {ts : Array TypeId} {g : Operand} {pre : List Fact} {Ms0 : List Res} {X : Type} {val : X → Value} {N : X → List Fact} {Ms1 : X → List Res}
    (hc : ∀ (args : Array Value) (w : World), (callFunc c args).run P w = .ok (.enter c args) w) (hsp : Spec P c al.toArray pre Ms0 val N Ms1) (kk : ∀ x, RgT P f R B n K ops l (putS σ dst (val x)) (N x ++ Γ) (Ms1 x ++ Ms2))
    (hg : ev σ g = .func (.func c) #[] cap.toArray := by rfl) (ha : as.toList.map (ev σ) = args := by rfl) (hal : args ++ cap = al := by rfl) (hpre : ∀ F, F ∈ pre → F ∈ Γ := by first | (simp; done) | (simp +contextual; done)) (hm : Ms.Perm (Ms0 ++ Ms2) := by first | exact List.Perm.refl _ | exact permA1 | exact permA2 | exact permA3 | exact permA4 | exact perm1 | exact perm2 | exact perm3 | exact perm4 | exact permR3) (hd : dstOk n dst = true := by rfl) : OpT P f R B n K ops l (opr dst (.call { callee := .value g, args := as, argTypes := ts }) ty) σ Γ Ms :=
  sq_call (enterC hg ha hc) (hal ▸ hsp) hpre hm hd kk
theorem v_call {c : FuncId} {args : Array Value} {as : Array Operand} {ts : Array TypeId} {g : Operand} {pre : List Fact} {X : Type} {val : X → Value} {N : X → List Fact} {Ms1 : X → List Res}
    (hc : ∀ (args : Array Value) (w : World), (callFunc c args).run P w = .ok (.enter c args) w) (hsp : Spec P c args pre [] val N Ms1) (kk : ∀ x, NV false P f R B n K ops fin l (putS σ dst (val x)) (N x ++ Γ) (Ms1 x ++ Ms))
    (hg : ev σ g = .func (.func c) #[] #[] := by rfl) (ha : as.toList.map (ev σ) = args.toList := by rfl) (hpre : ∀ F, F ∈ pre → F ∈ Γ := by first | (simp; done) | (simp +contextual; done)) (hd : dstOk n dst = true := by rfl) : NvT false P f R B n K ops fin i l dst (.call { callee := .value g, args := as, argTypes := ts }) ty σ Γ Ms :=
  nv_call (enterE hg ha hc) hsp hpre rfl rfl hd kk
/-- Guards. -/
theorem q0 (ho : ops[i]? = some ⟨dst, op, ty, pos, after, none⟩) (h : OpT P f R B n K ops l (opr dst op ty) σ Γ Ms) : RgT P f R B n K ops (i :: l) σ Γ Ms := rg_at ho h
theorem qT {g d : Nat} {want : Bool} {og : Oper} (ho : ops[i]? = some ⟨dst, op, ty, pos, after, some (g, want)⟩) (hog : ops[g]? = some og) (hgd : og.dst = some d) (h : OpT P f R B n K ops l (opr dst op ty) σ Γ Ms) (ht : σ d = .bool want := by rfl) : RgT P f R B n K ops (i :: l) σ Γ Ms := rg_ifT ho hog hgd ht h
theorem qF {g d : Nat} {want t : Bool} {og : Oper} (ho : ops[i]? = some ⟨dst, op, ty, pos, after, some (g, want)⟩) (hog : ops[g]? = some og) (hgd : og.dst = some d) (h : RgT P f R B n K ops l (putS σ dst undef) Γ Ms) (ht : σ d = .bool t := by conv => lhs; whnf) (hne : (t == want) = false := by rfl) (hd : dstOk n dst = true := by rfl) : RgT P f R B n K ops (i :: l) σ Γ Ms := rg_ifF ho hog hgd ht hne hd h
theorem qU {g d : Nat} {want : Bool} {og : Oper} (ho : ops[i]? = some ⟨dst, op, ty, pos, after, some (g, want)⟩) (hog : ops[g]? = some og) (hgd : og.dst = some d) (h : RgT P f R B n K ops l (putS σ dst undef) Γ Ms) (ht : σ d = undef := by rfl) (hd : dstOk n dst = true := by rfl) : RgT P f R B n K ops (i :: l) σ Γ Ms := rg_ifU ho hog hgd ht hd h
theorem nU {g d : Nat} {want : Bool} {og : Oper} (ho : ops[i]? = some ⟨dst, op, ty, pos, after, some (g, want)⟩) (hog : ops[g]? = some og) (hgd : og.dst = some d) (h : NV tn P f R B n K ops fin l (putS σ dst undef) Γ Ms) (ht : σ d = undef := by rfl) (hd : dstOk n dst = true := by rfl) : NV tn P f R B n K ops fin (i :: l) σ Γ Ms := nv_ifU ho hog hgd ht hd h
theorem qI {g d : Nat} {want t : Bool} {og : Oper} (ho : ops[i]? = some ⟨dst, op, ty, pos, after, some (g, want)⟩) (hog : ops[g]? = some og) (hgd : og.dst = some d) (ht : σ d = .bool t) (hon : t = want → OpT P f R B n K ops l (opr dst op ty) (upd σ d (.bool want)) Γ Ms) (hoff : t = !want → RgT P f R B n K ops l (putS (upd σ d (.bool !want)) dst undef) Γ Ms) (hd : dstOk n dst = true := by rfl) : RgT P f R B n K ops (i :: l) σ Γ Ms := rg_if ho hog hgd ht hd hon hoff
theorem n0 (ho : ops[i]? = some ⟨dst, op, ty, pos, after, none⟩) (h : NvT tn P f R B n K ops fin i l dst op ty σ Γ Ms) : NV tn P f R B n K ops fin (i :: l) σ Γ Ms := nv_at ho h
theorem nT {g d : Nat} {want : Bool} {og : Oper} (ho : ops[i]? = some ⟨dst, op, ty, pos, after, some (g, want)⟩) (hog : ops[g]? = some og) (hgd : og.dst = some d) (h : NvT tn P f R B n K ops fin i l dst op ty σ Γ Ms) (ht : σ d = .bool want := by rfl) : NV tn P f R B n K ops fin (i :: l) σ Γ Ms := nv_ifT ho hog hgd ht h
theorem nF {g d : Nat} {want t : Bool} {og : Oper} (ho : ops[i]? = some ⟨dst, op, ty, pos, after, some (g, want)⟩) (hog : ops[g]? = some og) (hgd : og.dst = some d) (h : NV tn P f R B n K ops fin l (putS σ dst undef) Γ Ms) (ht : σ d = .bool t := by conv => lhs; whnf) (hne : (t == want) = false := by rfl) (hd : dstOk n dst = true := by rfl) : NV tn P f R B n K ops fin (i :: l) σ Γ Ms := nv_ifF ho hog hgd ht hne hd h
theorem nI {g d : Nat} {want t : Bool} {og : Oper} (ho : ops[i]? = some ⟨dst, op, ty, pos, after, some (g, want)⟩) (hog : ops[g]? = some og) (hgd : og.dst = some d) (ht : σ d = .bool t) (hon : t = want → NvT tn P f R B n K ops fin i l dst op ty (upd σ d (.bool want)) Γ Ms) (hoff : t = !want → NV tn P f R B n K ops fin l (putS (upd σ d (.bool !want)) dst undef) Γ Ms) (hd : dstOk n dst = true := by rfl) : NV tn P f R B n K ops fin (i :: l) σ Γ Ms := nv_if ho hog hgd ht hd hon hoff
end
end Go.Hy
namespace Go.Hy
set_option linter.unusedVariables false
set_option linter.unusedSimpArgs false
set_option linter.unusedSectionVars false
set_option linter.unusedVariables false
set_option linter.unusedSimpArgs false
/-! ### More places of what is owned -/
theorem perm7 {a b c d e f g m : Res} {L : List Res} : (a :: b :: c :: d :: e :: f :: g :: m :: L).Perm (m :: a :: b :: c :: d :: e :: f :: g :: L) := (perm6.cons a).trans perm1
theorem perm8 {a b c d e f g h m : Res} {L : List Res} : (a :: b :: c :: d :: e :: f :: g :: h :: m :: L).Perm (m :: a :: b :: c :: d :: e :: f :: g :: h :: L) := (perm7.cons a).trans perm1
theorem perm9 {a b c d e f g h i m : Res} {L : List Res} : (a :: b :: c :: d :: e :: f :: g :: h :: i :: m :: L).Perm (m :: a :: b :: c :: d :: e :: f :: g :: h :: i :: L) := (perm8.cons a).trans perm1
theorem perm10 {a b c d e f g h i j m : Res} {L : List Res} : (a :: b :: c :: d :: e :: f :: g :: h :: i :: j :: m :: L).Perm (m :: a :: b :: c :: d :: e :: f :: g :: h :: i :: j :: L) := (perm9.cons a).trans perm1
theorem perm11 {a b c d e f g h i j k m : Res} {L : List Res} : (a :: b :: c :: d :: e :: f :: g :: h :: i :: j :: k :: m :: L).Perm (m :: a :: b :: c :: d :: e :: f :: g :: h :: i :: j :: k :: L) := (perm10.cons a).trans perm1
/-! ### Lists of whole numbers -/
def intCells (x : Int) : List Value := [.int .i64 x]
abbrev intFlat (l : List Int) : List Value := l.flatMap intCells
theorem intCells_len (x : Int) : (intCells x).length = 1 := rfl
def intsAt (ok : Nat → Prop) (l : List Int) (a : SH) (w : World) : Prop := rowAt ok 1 8 l.length a (fun i => intCells (l.getD i 0)) w ∧ ∀ x, x ∈ l → in64 x
def IL (l : List Int) (a : SH) : Fact := ⟨fun ok w => intsAt ok l a w, fun _ _ _ hs h => ⟨h.1.mono hs, h.2⟩, fun _ _ _ h hs => ⟨h.1.loc hs, h.2⟩⟩
section
variable {B : Base} {Γ : List Fact} {Ms : List Res} {w : World}
theorem St.settleIL {e : TypeId} {a : SH} {n : Nat} {xs : List Value} {l : List Int} (hs : St B Γ (rowS 1 e a n xs :: Ms) w) {hBp : Prop} (hB : hBp) (hx : xs = intFlat l) (hn : n = l.length) (hb : n * 8 ≤ reach) (hu : ∀ c, c ∈ l → in64 c) : St B (IL l a :: Γ) Ms w := by
  subst hx
  subst hn
  refine hs.settle0 hB (fun ok hok hh => ⟨?_, hu⟩)
  exact own_rowAt (F := intCells) intCells_len 0 (hh : World.ownsRow _ _ _ _ _ _ _) rfl hb hok
theorem St.nilIL (c : Nat) (hs : St B Γ Ms w) : St B (IL [] (Option.none, c) :: Γ) Ms w := hs.add ⟨⟨Nat.zero_le _, by simp, fun h => absurd h (by simp)⟩, fun c hc => by cases hc⟩
theorem St.snocC {e : TypeId} {a : SH} {n : Nat} {l : List Cl} {c : Cl} (hs : St B Γ (rowS 2 e a n (clFlat l ++ clCells c) :: Ms) w) : St B Γ (rowS 2 e a n (clFlat (l ++ [c])) :: Ms) w := by
  have h : clFlat (l ++ [c]) = clFlat l ++ clCells c := by simp [clFlat]
  rw [h]; exact hs
theorem St.snocI {e : TypeId} {a : SH} {n : Nat} {l : List Int} {c : Int} (hs : St B Γ (rowS 1 e a n (intFlat l ++ [.int .i64 c]) :: Ms) w) : St B Γ (rowS 1 e a n (intFlat (l ++ [c])) :: Ms) w := by
  have h : intFlat (l ++ [c]) = intFlat l ++ [.int .i64 c] := by simp [intFlat, intCells]
  rw [h]; exact hs
theorem St.snocT {e : TypeId} {a : SH} {n : Nat} {l : List TP} {t : T} {vr vk vs : SH} (hs : St B Γ (rowS 6 e a n (tpFlat l ++ tc t vr vk vs) :: Ms) w) : St B Γ (rowS 6 e a n (tpFlat (l ++ [(t, vr, vk, vs)])) :: Ms) w := by
  have h : tpFlat (l ++ [(t, vr, vk, vs)]) = tpFlat l ++ tc t vr vk vs := by simp [tpFlat, tpCells]
  rw [h]; exact hs
theorem St.snocB {e : TypeId} {a : SH} {n : Nat} {l : List BP} {b : Br} {vf vk : SH} (hs : St B Γ (rowS 2 e a n (bpFlat l ++ bc b vf vk) :: Ms) w) : St B Γ (rowS 2 e a n (bpFlat (l ++ [(b, vf, vk)])) :: Ms) w := by
  have h : bpFlat (l ++ [(b, vf, vk)]) = bpFlat l ++ bc b vf vk := by simp [bpFlat, bpCells]
  rw [h]; exact hs
theorem St.appFlatC {e : TypeId} {a : SH} {n : Nat} {l m : List Cl} (hs : St B Γ (rowS 2 e a n (clFlat l ++ clFlat m) :: Ms) w) : St B Γ (rowS 2 e a n (clFlat (l ++ m)) :: Ms) w := by
  have h : clFlat (l ++ m) = clFlat l ++ clFlat m := by simp [clFlat]
  rw [h]; exact hs
/-- What a list of whole numbers is, laid open. -/
theorem St.openIL {l : List Int} {a : SH} (hs : St B Γ Ms w) (hF : IL l a ∈ Γ) : l.length * 8 ≤ reach ∧ (0 < l.length → ∃ b o, a.1 = some ⟨b, o, Option.none⟩) ∧ ∀ c, c ∈ l → in64 c := by
  obtain ⟨h2, h4⟩ := hs.facts _ hF
  exact ⟨h2.2.1, fun hn => by obtain ⟨b, o, h3, _⟩ := h2.2.2 hn; exact ⟨b, o, h3⟩, h4⟩
end
section
variable {P : Program} {f : FuncId} {R : Ending → World → Prop} {B : Base} {n : Nat} {todo : List Item} {σ : Nat → Value} {Γ : List Fact} {Ms : List Res}
theorem go_openIL {l : List Int} {a : SH} (k : l.length * 8 ≤ reach → (0 < l.length → ∃ b o, a.1 = some ⟨b, o, none⟩) → (∀ c, c ∈ l → in64 c) → GoT P f R B n todo σ Γ Ms) (hF : IL l a ∈ Γ := by repeat (first | exact List.mem_cons_self | apply List.mem_cons_of_mem)) : GoT P f R B n todo σ Γ Ms :=
  go_know (p := l.length * 8 ≤ reach ∧ (0 < l.length → ∃ b o, a.1 = some ⟨b, o, none⟩) ∧ ∀ c, c ∈ l → in64 c) (fun w hs => hs.openIL hF) (fun h => k h.1 h.2.1 h.2.2)
/-- Two ways that meet; what each of them shows stays known. -/
theorem go_cutP {K : List Item} {it : Item} (p : Prop) (live : List (Nat × Value)) (h1 : (p → ∀ σ', LiveL σ' live → GoT P f R B n K σ' Γ Ms) → GoT P f R B n (it :: K) σ Γ Ms) (h2 : p → ∀ base, GoT P f R B n K (stL base live) Γ Ms) : GoT P f R B n (it :: K) σ Γ Ms :=
  h1 (fun hp σ' hl => go_slots live hl (h2 hp))
/-- A loop that keeps what is known: 'E x' adds what is known of the state x. -/
theorem go_loopE {K : List Item} {c : Code} {X : Type} (Inv : X → Prop) (live : X → List (Nat × Value)) (E : X → List Fact → List Fact) (Mf : X → List Res) (μ : X → Nat) (x0 : X) (h0 : Inv x0)
    (hl : LiveL σ (live x0)) (hΓ : ∀ w, St B Γ Ms w → St B (E x0 Γ) (Mf x0) w)
    (round : ∀ x base, Inv x → (∀ x' σ', Inv x' → μ x' < μ x → LiveL σ' (live x') → GoT P f R B n (.inLoop c :: K) σ' (E x' Γ) (Mf x')) →
      GoT P f R B n (.code c :: .inLoop c :: K) (stL base (live x)) (E x Γ) (Mf x)) :
    GoT P f R B n (.code (.loop c) :: K) σ Γ Ms := go_loopI Inv live (fun x => E x Γ) Mf μ x0 h0 hl hΓ round
end
/-- What is owned, otherwise said, in a region that draws. -/
theorem NV.conv {tn : Bool} {P : Program} {f : FuncId} {R : Ending → World → Prop} {B : Base} {n : Nat} {K : List Item} {ops : Array Oper} {l fin : List Nat} {σ : Nat → Value} {Γ : List Fact} {Ms' : List Res} (h : NV tn P f R B n K ops fin l σ Γ Ms') :
    ∀ {Ms : List Res}, (∀ Γ M w, St B Γ (M ++ Ms) w → St B Γ (M ++ Ms') w) → NV tn P f R B n K ops fin l σ Γ Ms := by
  induction h with
  | done h => exact fun hc => .done (fun a w hr hs => h a w hr (hc _ [] w hs))
  | no h => exact fun hc => .no (fun ⟨w, hw⟩ => h ⟨w, hc _ [] w hw⟩)
  | pure ho hw hd h k ih => exact fun hc => .pure ho hw hd h (ih hc)
  | load ht ho hm hw hd h k ih => exact fun hc => .load ht ho hm hw hd (fun w hs => h w (hc _ [] w hs)) (ih hc)
  | off ho hw hd k ih => exact fun hc => .off ho hw hd (ih hc)
  | alloc ho hg hw hd h k ih => exact fun hc => .alloc ho hg hw hd h (fun b => ih b (fun Γ M w hs => by
      have := hc Γ (M ++ [boxR b _ _]) w (by simpa using hs)
      simpa using this))
  | call ht ho hg hm hw hd he hsp hpre k ih => exact fun hc => .call ht ho hg hm hw hd he hsp hpre (fun x => ih x (fun Γ M w hs => by
      have := hc Γ (M ++ _) w (by simpa using hs)
      simpa using this))
  | loadF ho hm hw hd h k ih => exact fun hc => .loadF ho hm hw hd h (ih hc)
  | @turn i l o X val r r' σ Γ Ms0 Ms2 ht ho hb hw hd hp h k ih =>
    intro Ms hc
    refine NV.turn (r := Ms) (r' := fun x => r' x ++ Ms2) (Ms2 := []) ht ho hb hw hd (by rw [List.append_nil]) (fun M w hs => ?_) (fun x => by rw [List.append_nil]; exact k x)
    have h0 : St B Γ (M ++ Ms0) w := hc _ M w (hs.perm List.perm_append_comm)
    have h1 : St B Γ (r ++ (Ms2 ++ M)) w := by
      rw [← List.append_assoc]
      exact h0.perm (List.perm_append_comm.trans (hp.append_right M))
    obtain ⟨x, w', h2, h3⟩ := h (Ms2 ++ M) w h1
    exact ⟨x, w', h2, by rw [List.append_assoc]; exact h3⟩
  | @sto i l o r r' σ Γ Ms0 Ms2 ho hb hw hd hp h k ih =>
    intro Ms hc
    refine NV.sto (r := Ms) (r' := r' ++ Ms2) (Ms2 := []) ho hb hw hd (by rw [List.append_nil]) (fun M w hs => ?_) (by rw [List.append_nil]; exact k)
    have h0 : St B Γ (M ++ Ms0) w := hc _ M w (hs.perm List.perm_append_comm)
    have h1 : St B Γ (r ++ (Ms2 ++ M)) w := by
      rw [← List.append_assoc]
      exact h0.perm (List.perm_append_comm.trans (hp.append_right M))
    obtain ⟨w', h2, h3⟩ := h (Ms2 ++ M) w h1
    exact ⟨w', h2, by rw [List.append_assoc]; exact h3⟩
theorem nv_conv {tn : Bool} {P : Program} {f : FuncId} {R : Ending → World → Prop} {B : Base} {n : Nat} {K : List Item} {ops : Array Oper} {l fin : List Nat} {σ : Nat → Value} {Γ : List Fact} {Ms : List Res} (A A' : List Res) (hc : ∀ Γ L w, St B Γ (A ++ L) w → St B Γ (A' ++ L) w) (h : NV tn P f R B n K ops fin l σ Γ (A' ++ Ms)) : NV tn P f R B n K ops fin l σ Γ (A ++ Ms) :=
  h.conv (fun Γ M w hs => by
    have h1 := hc Γ (Ms ++ M) w (by simpa using hs.perm List.perm_append_comm)
    have h2 : St B Γ ((A' ++ Ms) ++ M) w := by simpa using h1
    exact h2.perm List.perm_append_comm)
section
variable {P : Program} [Tab P] {B : Base} {σ : Nat → Value} {Γ : List Fact} {Ms : List Res} {ty : TypeId} {x y : Operand} {k : IntKind} {a : Int} {v : Value}
theorem le_int {t : TypeId} {d : TypeDesc} {bk o i : Nat} {a : SH} {l : List Int} (hx : ev σ x = .pointer (some ⟨bk, o + i * 1, none⟩)) (hF : IL l a ∈ Γ) (ha : a.1 = some ⟨bk, o, none⟩) (hu : Tab.und P t = some d) (hd : (match d with | .struct _ | .array _ _ => true | _ => false) = false) (hlt : i < l.length) :
    LoadE P B σ Γ Ms (.load t x) ty (.int .i64 (l.getD i 0)) := fun w hs => by
  have h3 := (row_cells (hs.facts _ hF).1 ha hlt).2 0 (.int .i64 (l.getD i 0)) rfl
  rw [Nat.add_zero] at h3
  have h4 := run_loadVar_one (P := P) hu hd h3
  generalize hv : l.getD i 0 = u at h4 ⊢
  simp only [opr, execOp, hx, Instr.loadAt, Instr.sureAddr]
  rw [Nat.mul_one] at h4 ⊢
  simp [h4]
theorem pe_convUI {s d : TypeId} {a : Nat} (hs : Tab.und P s = some (.int .u32)) (hd : Tab.und P d = some (.int .i64)) (hx : ev σ x = .int .u32 (a : Int)) (ha : a < 4294967296) : PureE P σ (.convert s d x) ty (.int .i64 (a : Int)) := by
  have e : IntKind.i64.wrap (a : Int) = (a : Int) := by rw [IntKind.wrap_i64]; omega
  have := pe_convert (P := P) (ty := ty) hs hd hx
  rwa [e] at this
theorem pe_convIU {s d : TypeId} {a : Nat} (hs : Tab.und P s = some (.int .i64)) (hd : Tab.und P d = some (.int .u32)) (hx : ev σ x = .int .i64 (a : Int)) (ha : a < 4294967296) : PureE P σ (.convert s d x) ty (.int .u32 (a : Int)) := by
  have e : IntKind.u32.wrap (a : Int) = (a : Int) := by
    have : IntKind.u32.wrap (a : Int) = (a : Int) % 4294967296 := by simp [IntKind.wrap, IntKind.bits, IntKind.signed]
    rw [this]; omega
  have := pe_convert (P := P) (ty := ty) hs hd hx
  rwa [e] at this
end
end Go.Hy
namespace Go.Hy
set_option linter.unusedVariables false
set_option linter.unusedSimpArgs false
set_option linter.unusedSectionVars false
/-! ### Parts of slices -/
def dropSH (a : SH) (sz k : Nat) : SH := (if a.2 = k then a.1 else a.1.map (·.add (k * sz)), a.2 - k)
section
variable {P : Program} [Tab P] {B : Base} {σ : Nat → Value} {Γ : List Fact} {Ms : List Res} {ty : TypeId} {x y : Operand}
theorem pe_sliceHi {t e : TypeId} {s bt m c k : Nat} {zv : Value} {A : Option Addr} (hu : Tab.und P t = some (.slice e)) (hi : Tab.inf P e = some (s, bt, zv)) (hx : ev σ x = .slice A m c) (hy : ev σ y = .int .i64 (k : Int)) (hk : k ≤ c) : PureE P σ (.slice t x none (some y) none) ty (.slice A k c) := fun w => by
  have h0 : ∀ a : Option Addr, (a.map fun b : Addr => b.add 0) = a := fun a => by cases a <;> simp [Addr.add_zero']
  simp [opr, execOp, hx, hy, Instr.sliceAt, Instr.slice, Instr.sliceBounds, Instr.sliceBound, asIntOf, run_und0 hu, hk, run_size0 hi, h0]
theorem pe_sliceLo {t e : TypeId} {s bt m k : Nat} {zv : Value} {a : SH} (hu : Tab.und P t = some (.slice e)) (hi : Tab.inf P e = some (s, bt, zv)) (hx : ev σ x = sl a m) (hy : ev σ y = .int .i64 (k : Int)) (hk : k ≤ m) : PureE P σ (.slice t x (some y) none none) ty (sl (dropSH a s k) (m - k)) := fun w => by
  have hx' : ev σ x = .slice a.1 m a.2 := hx
  simp [opr, execOp, hx', hy, Instr.sliceAt, Instr.slice, Instr.sliceBounds, Instr.sliceBound, asIntOf, run_und0 hu, hk, run_size0 hi, sl, dropSH]
end
theorem rowAt_take {ok : Nat → Prop} {sz bt n k : Nat} {a : SH} {E : Nat → List Value} {w : World} (h : rowAt ok sz bt n a E w) (hk : k ≤ n) : rowAt ok sz bt k a E w :=
  ⟨Nat.le_trans hk h.1, Nat.le_trans (Nat.mul_le_mul_right bt hk) h.2.1, fun h0 => by
    obtain ⟨b, o, h1, h2, h3⟩ := h.2.2 (by omega)
    exact ⟨b, o, h1, h2, fun i hi => h3 i (by omega)⟩⟩
theorem rowAt_drop {ok : Nat → Prop} {sz bt n k : Nat} {a : SH} {E : Nat → List Value} {w : World} (h : rowAt ok sz bt n a E w) (hk : k ≤ n) : rowAt ok sz bt (n - k) (dropSH a sz k) (fun i => E (i + k)) w := by
  refine ⟨Nat.sub_le_sub_right h.1 k, Nat.le_trans (Nat.mul_le_mul_right bt (Nat.sub_le n k)) h.2.1, fun h0 => ?_⟩
  obtain ⟨b, o, h1, h2, h3⟩ := h.2.2 (by omega)
  have hne : a.2 ≠ k := by have := h.1; omega
  refine ⟨b, o + k * sz, by simp [dropSH, hne, h1, Addr.add_lit], h2, fun i hi j v hv => ?_⟩
  have := h3 (i + k) (by omega) j v hv
  rwa [show o + k * sz + i * sz + j = o + (i + k) * sz + j by rw [Nat.add_mul]; omega]
theorem rowAt_congr {ok : Nat → Prop} {sz bt n : Nat} {a : SH} {E E' : Nat → List Value} {w : World} (h : rowAt ok sz bt n a E w) (he : ∀ i, i < n → E i = E' i) : rowAt ok sz bt n a E' w :=
  ⟨h.1, h.2.1, fun h0 => by
    obtain ⟨b, o, h1, h2, h3⟩ := h.2.2 h0
    exact ⟨b, o, h1, h2, fun i hi => by rw [← he i hi]; exact h3 i hi⟩⟩
theorem getD_take' {α : Type} {d : α} {l : List α} {k i : Nat} (h : i < k) : (l.take k).getD i d = l.getD i d := by
  simp [List.getD_eq_getElem?_getD, h]
theorem getD_drop' {α : Type} {d : α} {l : List α} {k i : Nat} : (l.drop k).getD i d = l.getD (i + k) d := by
  simp [List.getD_eq_getElem?_getD, Nat.add_comm]
section
variable {B : Base} {Γ : List Fact} {Ms : List Res} {w : World}
theorem St.takeCL {l : List Cl} {a : SH} (k : Nat) (hs : St B Γ Ms w) (hF : CL l a ∈ Γ) (hk : k ≤ l.length) : St B (CL (l.take k) a :: Γ) Ms w := by
  obtain ⟨h2, h4⟩ := hs.facts _ hF
  refine hs.add ⟨?_, fun c hc => h4 c (List.mem_of_mem_take hc)⟩
  have e : (l.take k).length = k := by simp; omega
  rw [e]
  exact rowAt_congr (rowAt_take h2 hk) (fun i hi => by rw [getD_take' hi])
theorem St.dropCL {l : List Cl} {a : SH} (k : Nat) (hs : St B Γ Ms w) (hF : CL l a ∈ Γ) (hk : k ≤ l.length) : St B (CL (l.drop k) (dropSH a 2 k) :: Γ) Ms w := by
  obtain ⟨h2, h4⟩ := hs.facts _ hF
  refine hs.add ⟨?_, fun c hc => h4 c (List.mem_of_mem_drop hc)⟩
  rw [List.length_drop]
  exact rowAt_congr (rowAt_drop h2 hk) (fun i hi => by rw [getD_drop'])
theorem St.capCL {l : List Cl} {a : SH} (hs : St B Γ Ms w) (hF : CL l a ∈ Γ) : l.length ≤ a.2 := (hs.facts _ hF).1.1
end
end Go.Hy
namespace Go.Hy
set_option linter.unusedVariables false
set_option linter.unusedSimpArgs false
set_option linter.unusedSectionVars false
/-! ### Numbers of 64 bits without a sign -/
section
variable {P : Program} [Tab P] {σ : Nat → Value} {ty : TypeId} {x y : Operand}
end
end Go.Hy
namespace Go.Hy
set_option linter.unusedVariables false
set_option linter.unusedSimpArgs false
set_option linter.unusedSectionVars false
section
variable {P : Program} [Tab P] {σ : Nat → Value} {ty : TypeId} {x y : Operand}
end
end Go.Hy
namespace Go.Hy
set_option linter.unusedVariables false
set_option linter.unusedSimpArgs false
set_option linter.unusedSectionVars false
open Go Go.ChangeShapes Go.WideShapes Go.RowKit
set_option linter.unusedVariables false
set_option linter.unusedSectionVars false
/-! ### A law's arguments, one by one -/
variable {P : Program} {H : Type} {enc : TypeId × Value → H} {W : World} {base : Nat} {v : Value} {d : DataW H} {ps : List MemPlace}
theorem weights_split {t : TypeId} {ts : List TypeId} {ds : List (DataW H)} (h : ∀ x, x ∈ DataW.weightsEach P (t :: ts) (d :: ds) → x ≤ reach) : light P t d ∧ ∀ x, x ∈ DataW.weightsEach P ts ds → x ≤ reach :=
  ⟨fun x hx => h x (by simp only [DataW.weightsEach, List.mem_append]; exact .inl hx), fun x hx => h x (by simp only [DataW.weightsEach, List.mem_append]; exact .inr hx)⟩
theorem trods_cons {t : TypeId} {ts : List TypeId} {vs : List Value} {ds : List (DataW H)} (h : DataW.TrodAll enc P W 0 (fun _ => true) true (t :: ts) vs ds ps) :
    ∃ v vs' d ds' p q, vs = v :: vs' ∧ ds = d :: ds' ∧ DataW.Trod enc P W 0 (fun _ => true) true t v d p ∧ DataW.TrodAll enc P W 0 (fun _ => true) true ts vs' ds' q := by
  obtain ⟨v, vs1, d, ds1, a, b, h1, h2, h3, h4, h5⟩ := trodAll_cons h
  exact ⟨v, vs1, d, ds1, a, b, h1, h2, h4, h5⟩
theorem trods_nil {vs : List Value} {ds : List (DataW H)} (h : DataW.TrodAll enc P W 0 (fun _ => true) true [] vs ds ps) : vs = [] := by
  obtain ⟨h1, _, _⟩ := trodAll_nil h
  exact h1
variable [TyF P]
theorem arg_T {t : TypeId} (ht : t = TyF.tT P) (hval : Value.okWide P W .any base t v) (h : DataW.Trod enc P W 0 (fun _ => true) true t v d ps) (hl : light P t d) : ∃ (u : T) (vr vk vs : SH), v = .agg (tc u vr vk vs).toArray ∧ termAt (okw W) u vr vk vs W := by
  subst ht
  obtain ⟨cs, rfl, _⟩ := okWide_struct TyF.uT hval
  obtain ⟨fuel, hf⟩ := h
  obtain ⟨⟨u, vr, vk, vs⟩, h1, h2⟩ := (open_both fuel).1 _ _ _ hf hl
  exact ⟨u, vr, vk, vs, by
    have h3 : (Value.agg cs).cells.toList = tc u vr vk vs := h1
    rw [← h3]; simp [Value.cells], h2⟩
theorem arg_IL {t tI : TypeId} (hu : P.underlying t = some (.slice tI)) (hI : P.underlying tI = some (.int .i64)) (hc : P.cellsOf tI = 1) (hb : P.bytesOf tI = 8) (hval : Value.okWide P W .any base t v) (h : DataW.Trod enc P W 0 (fun _ => true) true t v d ps) (hl : light P t d) : ∃ (l : List Int) (a : SH), v = sl a l.length ∧ intsAt (okw W) l a W := by
  obtain ⟨x, y, z, rfl⟩ := okWide_slice hu hval
  obtain ⟨fuel, hf⟩ := h
  cases fuel with
  | zero => cases hf
  | succ fuel =>
    obtain ⟨xs, a, h1, h2, h3⟩ := open_row (sp := fun _ => true) intCells in64 0 intCells_len (by omega) hu hc hb (fun cs d ps h hl => open_intI hI h) hf hl
    exact ⟨xs, a, by simpa [Value.cells] using h1, h2, h3⟩
end Go.Hy
namespace Go.Hy
set_option linter.unusedVariables false
set_option linter.unusedSimpArgs false
set_option linter.unusedSectionVars false
set_option linter.unusedVariables false
set_option linter.unusedSimpArgs false
/-! ### Several things that are owned, as one -/
def bigR (L : List Res) : Res := ⟨domAll L, fun w => (∀ m, m ∈ L → ∀ w', (∀ b, m.dom b → w'.heap[b]? = w.heap[b]?) → m.holds w') ∧ (L.Pairwise fun m m' => ∀ b, m.dom b → m'.dom b → False)⟩
section
variable {B : Base} {Γ : List Fact} {Ms L L' : List Res} {w : World}
theorem St.pack (hs : St B Γ (L ++ Ms) w) : St B Γ (bigR L :: Ms) w := by
  have hd : ∀ b, domAll (bigR L :: Ms) b ↔ domAll (L ++ Ms) b := fun b => by rw [domAll_cons, domAll_append]; exact Iff.rfl
  refine ⟨hs.chg, fun F hF => F.mono _ _ _ (fun b hb => ⟨hb.1, hb.2.1, fun hc => hb.2.2 ((hd b).mp hc)⟩) (hs.facts F hF), ?_, ?_, ?_⟩
  · intro m hm w' hw
    rcases List.mem_cons.mp hm with e | hm
    · subst e
      exact ⟨fun m hm w2 hw2 => hs.res m (List.mem_append_left _ hm) w2 (fun b hb => (hw2 b hb).trans (hw b ⟨m, hm, hb⟩)), (List.pairwise_append.mp hs.disj).1⟩
    · exact hs.res m (List.mem_append_right _ hm) w' hw
  · intro m hm b hb
    rcases List.mem_cons.mp hm with e | hm
    · subst e
      obtain ⟨m', hm', hb'⟩ := hb
      exact hs.lt m' (List.mem_append_left _ hm') b hb'
    · exact hs.lt m (List.mem_append_right _ hm) b hb
  · refine List.pairwise_cons.mpr ⟨fun m hm b hb hb2 => ?_, (List.pairwise_append.mp hs.disj).2.1⟩
    obtain ⟨m', hm', hb'⟩ := hb
    exact (List.pairwise_append.mp hs.disj).2.2 m' hm' m hm b hb' hb2
theorem St.unpack (hs : St B Γ (bigR L :: Ms) w) : St B Γ (L ++ Ms) w := by
  have hd : ∀ b, domAll (bigR L :: Ms) b ↔ domAll (L ++ Ms) b := fun b => by rw [domAll_cons, domAll_append]; exact Iff.rfl
  have hb0 := hs.res (bigR L) List.mem_cons_self w (fun _ _ => rfl)
  refine ⟨hs.chg, fun F hF => F.mono _ _ _ (fun b hb => ⟨hb.1, hb.2.1, fun hc => hb.2.2 ((hd b).mpr hc)⟩) (hs.facts F hF), ?_, ?_, ?_⟩
  · intro m hm w' hw
    rcases List.mem_append.mp hm with hm | hm
    · exact hb0.1 m hm w' hw
    · exact hs.res m (List.mem_cons_of_mem _ hm) w' hw
  · intro m hm b hb
    rcases List.mem_append.mp hm with hm | hm
    · exact hs.lt (bigR L) List.mem_cons_self b ⟨m, hm, hb⟩
    · exact hs.lt m (List.mem_cons_of_mem _ hm) b hb
  · exact List.pairwise_append.mpr ⟨hb0.2, (List.pairwise_cons.mp hs.disj).2, fun m hm m' hm' b hb hb' => (List.pairwise_cons.mp hs.disj).1 m' hm' b ⟨m, hm, hb⟩ hb'⟩
theorem St.bigNil (hs : St B Γ Ms w) : St B Γ (bigR [] :: Ms) w := St.pack (L := []) hs
theorem St.bigJoin (hs : St B Γ (bigR L :: bigR L' :: Ms) w) : St B Γ (bigR (L' ++ L) :: Ms) w := by
  have h1 := (hs.unpack.perm List.perm_middle).unpack
  exact St.pack (by rw [List.append_assoc]; exact h1)
theorem St.bigPerm (hp : L.Perm L') (hs : St B Γ (bigR L :: Ms) w) : St B Γ (bigR L' :: Ms) w := St.pack (hs.unpack.perm (hp.append_right _))
theorem St.bigSplit (hs : St B Γ (bigR (L ++ L') :: Ms) w) : St B Γ (bigR L :: bigR L' :: Ms) w := by
  have h1 := hs.unpack
  rw [List.append_assoc] at h1
  have h2 : St B Γ (L' ++ (L ++ Ms)) w := h1.perm (by rw [← List.append_assoc, ← List.append_assoc]; exact List.perm_append_comm.append_right _)
  have h3 := h2.pack
  exact (St.pack (h3.perm (by exact List.perm_middle.symm)))
end
/-! ### A term of the call's own: where all its rows lie -/
mutual
inductive HT where
  | mk (kind n : Int) (name : ByteArray) (r : List Cl) (vr : SH) (kids : List HT) (vk : SH) (sys : List HB) (vs : SH)
inductive HB where
  | mk (face : List Cl) (vf : SH) (kids : List HT) (vk : SH)
end
mutual
def HT.er : HT → T
  | .mk k n nm r _ ks _ ss _ => .mk k n nm r (HT.erL ks) (HT.erB ss)
def HT.erL : List HT → List T
  | [] => []
  | h :: hs => h.er :: HT.erL hs
def HT.erB : List HB → List Br
  | [] => []
  | .mk f _ ks _ :: bs => .mk f (HT.erL ks) :: HT.erB bs
end
def HB.er : HB → Br
  | .mk f _ ks _ => .mk f (HT.erL ks)
theorem HT.erL_eq : ∀ l : List HT, HT.erL l = l.map HT.er
  | [] => by simp [HT.erL]
  | h :: hs => by simp [HT.erL, HT.erL_eq hs]
theorem HT.erB_eq : ∀ l : List HB, HT.erB l = l.map HB.er
  | [] => by simp [HT.erB]
  | .mk f v ks u :: bs => by simp [HT.erB, HB.er, HT.erB_eq bs]
namespace HT
set_option linter.unusedVariables false
set_option linter.unusedSimpArgs false
set_option linter.unusedSectionVars false
def vr : HT → SH | .mk _ _ _ _ v _ _ _ _ => v
def vk : HT → SH | .mk _ _ _ _ _ _ v _ _ => v
def vs : HT → SH | .mk _ _ _ _ _ _ _ _ v => v
def kids : HT → List HT | .mk _ _ _ _ _ ks _ _ _ => ks
def sys : HT → List HB | .mk _ _ _ _ _ _ _ ss _ => ss
def tp (h : HT) : TP := (h.er, h.vr, h.vk, h.vs)
end HT
namespace HB
set_option linter.unusedVariables false
set_option linter.unusedSimpArgs false
set_option linter.unusedSectionVars false
def face : HB → List Cl | .mk f _ _ _ => f
def vf : HB → SH | .mk _ v _ _ => v
def kids : HB → List HT | .mk _ _ ks _ => ks
def vk : HB → SH | .mk _ _ _ v => v
def bp (b : HB) : BP := (b.er, b.vf, b.vk)
end HB
/-- The types of the rows' elements. -/
structure Tys where
  c : TypeId
  t : TypeId
  b : TypeId
mutual
def treeR (y : Tys) : HT → List Res
  | .mk _ _ _ r v ks u ss x => rowS 2 y.c v r.length (clFlat r) :: rowS 6 y.t u ks.length (tpFlat (ks.map HT.tp)) :: rowS 2 y.b x ss.length (bpFlat (ss.map HB.bp)) :: (kidsR y ks ++ brsR y ss)
def kidsR (y : Tys) : List HT → List Res
  | [] => []
  | h :: hs => treeR y h ++ kidsR y hs
def brsR (y : Tys) : List HB → List Res
  | [] => []
  | .mk f v ks u :: bs => (rowS 2 y.c v f.length (clFlat f) :: rowS 6 y.t u ks.length (tpFlat (ks.map HT.tp)) :: kidsR y ks) ++ brsR y bs
end
def brR (y : Tys) : HB → List Res
  | .mk f v ks u => rowS 2 y.c v f.length (clFlat f) :: rowS 6 y.t u ks.length (tpFlat (ks.map HT.tp)) :: kidsR y ks
theorem kidsR_eq (y : Tys) : ∀ l, kidsR y l = l.flatMap (treeR y)
  | [] => by simp [kidsR]
  | h :: hs => by simp [kidsR, kidsR_eq y hs]
theorem brsR_eq (y : Tys) : ∀ l, brsR y l = l.flatMap (brR y)
  | [] => by simp [brsR]
  | .mk f v ks u :: bs => by simp [brsR, brR, brsR_eq y bs]
/-! What must be so of a term that lies in memory, of itself. -/
mutual
def okT : T → Prop
  | .mk k n nm r ks ss => in64 k ∧ in64 n ∧ nm.size ≤ cap47 ∧ ((∀ c, c ∈ r → u32 c) ∧ r.length * 8 ≤ reach) ∧ ks.length * 104 ≤ reach ∧ ss.length * 48 ≤ reach ∧ okL ks ∧ okB ss
def okL : List T → Prop
  | [] => True
  | t :: ts => okT t ∧ okL ts
def okB : List Br → Prop
  | [] => True
  | .mk f ks :: bs => ((∀ c, c ∈ f → u32 c) ∧ f.length * 8 ≤ reach) ∧ ks.length * 104 ≤ reach ∧ okL ks ∧ okB bs
end
mutual
theorem ok_of {ok : Nat → Prop} {w : World} : ∀ {t : T} {vr vk vs : SH}, termAt ok t vr vk vs w → okT t
  | .mk k n nm r ks ss, vr, vk, vs, h => by
    simp only [termAt] at h
    simp only [okT]
    obtain ⟨h1, h2, h3, h4, ⟨VR, VK, VS, h6, h7⟩, ⟨VF, VK', h9, h10⟩⟩ := h
    exact ⟨h1, h2, h3, ⟨h4.2, h4.1.2.1⟩, h6.2.1, h9.2.1, okL_of h7, okB_of h10⟩
theorem okL_of {ok : Nat → Prop} {w : World} : ∀ {ts : List T} {VR VK VS : Nat → SH}, allAt ok ts VR VK VS w → okL ts
  | [], _, _, _, _ => by simp only [okL]
  | t :: ts, _, _, _, h => by
    simp only [allAt] at h
    simp only [okL]
    exact ⟨ok_of h.1, okL_of h.2⟩
theorem okB_of {ok : Nat → Prop} {w : World} : ∀ {bs : List Br} {VF VK : Nat → SH}, brsAt ok bs VF VK w → okB bs
  | [], _, _, _ => by simp only [okB]
  | .mk f ks :: bs, _, _, h => by
    simp only [brsAt, brAt] at h
    simp only [okB]
    obtain ⟨⟨h1, ⟨VR, VK, VS, h2, h3⟩⟩, h4⟩ := h
    exact ⟨⟨h1.2, h1.1.2.1⟩, h2.2.1, okL_of h3, okB_of h4⟩
end
theorem okL_iff : ∀ {l : List T}, okL l ↔ ∀ t, t ∈ l → okT t
  | [] => by simp [okL]
  | t :: ts => by simp [okL, okL_iff (l := ts)]
theorem okB_iff : ∀ {l : List Br}, okB l ↔ ∀ b, b ∈ l → ((∀ c, c ∈ b.face → u32 c) ∧ b.face.length * 8 ≤ reach) ∧ b.kids.length * 104 ≤ reach ∧ okL b.kids
  | [] => by simp [okB]
  | .mk f ks :: bs => by simp only [okB, List.mem_cons, forall_eq_or_imp, okB_iff (l := bs), Br.face, Br.kids, and_assoc]
theorem permOut {K S M : List Res} {a : Res} : (K ++ (S ++ a :: M)).Perm (a :: (K ++ (S ++ M))) := (List.perm_middle.append_left K).trans List.perm_middle
/-! A term of the call's own becomes known for good. -/
section
variable {B : Base} {Γ : List Fact} {Ms : List Res} {w : World}
mutual
theorem St.settleT (y : Tys) {hBp : Prop} (hB : hBp) : ∀ (h : HT) {Γ : List Fact} {Ms : List Res}, okT h.er → St B Γ (treeR y h ++ Ms) w → St B (RT h.er h.vr h.vk h.vs :: Γ) Ms w
  | .mk k n nm r v ks u ss x, Γ, Ms, hok, hs => by
    simp only [HT.er, okT] at hok
    obtain ⟨o1, o2, o3, o4, o5, o6, o7, o8⟩ := hok
    simp only [treeR, List.cons_append, List.append_assoc] at hs
    have h1 := hs.settleCL (l := r) hB rfl rfl o4.2 o4.1
    -- the rows of kids and branches wait behind the parts
    have h2 : St B (CL r v :: Γ) (kidsR y ks ++ (brsR y ss ++ (rowS 6 y.t u ks.length (tpFlat (ks.map HT.tp)) :: rowS 2 y.b x ss.length (bpFlat (ss.map HB.bp)) :: Ms))) w := by
      exact h1.perm (((permOut.trans (permOut.cons _))).symm)
    have h3 := St.settleKs y hB ks [] (by rw [HT.erL_eq] at o7; exact o7) (by simpa using h2.apNil)
    have h4 := St.settleBs y hB ss [] (by rw [HT.erB_eq] at o8; exact o8) (h3.bpNil)
    have h5 := h4.settleTL (ps := ks.map HT.tp) (ts := ks.map HT.er) hB (by simp) rfl (by simp [HT.tp, Function.comp_def]) (by simp) (by rw [HT.erL_eq, List.length_map] at o5; exact o5)
    have h6 := h5.settleBL (ps := ss.map HB.bp) (bs := ss.map HB.er) hB (by simp) rfl (by simp [HB.bp, Function.comp_def]) (by simp) (by rw [HT.erB_eq, List.length_map] at o6; exact o6)
    have h7 := h6.mkRT (k := k) (n := n) (nm := nm) (r := r) (vr := v) (ks := ks.map HT.er) (vk := u) (ss := ss.map HB.er) (vs := x) o1 o2 o3 (by simp) (by simp) (by simp)
    simp only [HT.er, HT.erL_eq, HT.erB_eq, HT.vr, HT.vk, HT.vs]
    exact h7.less (by simp +contextual)
theorem St.settleKs (y : Tys) {hBp : Prop} (hB : hBp) : ∀ (ks : List HT) (ps : List TP) {Γ : List Fact} {Ms : List Res}, okL (ks.map HT.er) → St B (AP ps :: Γ) (kidsR y ks ++ Ms) w → St B (AP (ps ++ ks.map HT.tp) :: Γ) Ms w
  | [], ps, Γ, Ms, hok, hs => by simpa [kidsR] using hs
  | h :: hs', ps, Γ, Ms, hok, hs => by
    simp only [List.map_cons, okL] at hok
    simp only [kidsR, List.append_assoc] at hs
    have h1 := St.settleT y hB h hok.1 hs
    have h2 := h1.apAdd (ps := ps) (t := h.er) (vr := h.vr) (vk := h.vk) (vs := h.vs) (by simp) (by simp)
    have h3 := St.settleKs y hB hs' (ps ++ [h.tp]) (Γ := Γ) hok.2 (h2.less (by simp +contextual [HT.tp]))
    simpa using h3
theorem St.settleBs (y : Tys) {hBp : Prop} (hB : hBp) : ∀ (bs : List HB) (ps : List BP) {Γ : List Fact} {Ms : List Res}, okB (bs.map HB.er) → St B (BPs ps :: Γ) (brsR y bs ++ Ms) w → St B (BPs (ps ++ bs.map HB.bp) :: Γ) Ms w
  | [], ps, Γ, Ms, hok, hs => by simpa [brsR] using hs
  | .mk f v ks u :: bs, ps, Γ, Ms, hok, hs => by
    simp only [List.map_cons, HB.er, okB] at hok
    obtain ⟨o1, o2, o3, o4⟩ := hok
    simp only [brsR, List.cons_append, List.append_assoc] at hs
    have h1 := hs.settleCL (l := f) hB rfl rfl o1.2 o1.1
    have h2 : St B (CL f v :: BPs ps :: Γ) (kidsR y ks ++ (rowS 6 y.t u ks.length (tpFlat (ks.map HT.tp)) :: (brsR y bs ++ Ms))) w := h1.perm (by exact List.perm_middle.symm)
    have h3 := St.settleKs y hB ks [] (by rw [HT.erL_eq] at o3; exact o3) (by simpa using h2.apNil)
    have h4 := h3.settleTL (ps := ks.map HT.tp) (ts := ks.map HT.er) hB (by simp) rfl (by simp [HT.tp, Function.comp_def]) (by simp) (by rw [HT.erL_eq, List.length_map] at o2; exact o2)
    have h5 := h4.bpAdd (ps := ps) (f := f) (ks := ks.map HT.er) (vf := v) (vk := u) (by simp) (by simp) (by simp)
    have h6 := St.settleBs y hB bs (ps ++ [(.mk f (ks.map HT.er), v, u)]) (Γ := Γ) o4 (h5.less (by simp +contextual))
    simpa [HB.bp, HB.er, HB.vf, HB.vk, HT.erL_eq] using h6
end
end
end Go.Hy
namespace Go.Hy
set_option linter.unusedVariables false
set_option linter.unusedSimpArgs false
set_option linter.unusedSectionVars false
section
variable {B : Base} {Γ : List Fact} {Ms K S : List Res} {w : World} {a b c : Res}
theorem St.packT (hs : St B Γ (a :: b :: c :: bigR K :: bigR S :: Ms) w) : St B Γ (bigR (a :: b :: c :: (K ++ S)) :: Ms) w := by
  have h1 : St B Γ (bigR K :: bigR S :: a :: b :: c :: Ms) w := hs.perm (perm3.trans (perm3.cons _))
  have h2 : St B Γ (bigR S :: (K ++ a :: b :: c :: Ms)) w := h1.unpack.perm List.perm_middle
  have h3 : St B Γ (K ++ (S ++ a :: b :: c :: Ms)) w := h2.unpack.perm (by rw [← List.append_assoc, ← List.append_assoc]; exact List.perm_append_comm.append_right _)
  exact St.pack (L := a :: b :: c :: (K ++ S)) (by
    simp only [List.cons_append, List.append_assoc]
    exact h3.perm (permOut.trans ((permOut.trans (permOut.cons _)).cons _)))
theorem St.packB (hs : St B Γ (a :: b :: bigR K :: bigR S :: Ms) w) : St B Γ (bigR (S ++ (a :: b :: K)) :: Ms) w := by
  have h1 : St B Γ (bigR K :: bigR S :: a :: b :: Ms) w := hs.perm (perm2.trans (perm2.cons _))
  have h2 : St B Γ (bigR S :: (K ++ a :: b :: Ms)) w := h1.unpack.perm List.perm_middle
  have h3 : St B Γ (S ++ (K ++ a :: b :: Ms)) w := h2.unpack
  exact St.pack (L := S ++ (a :: b :: K)) (by
    have : (S ++ a :: b :: K) ++ Ms = S ++ (a :: b :: (K ++ Ms)) := by simp
    rw [this]
    exact h3.perm ((List.perm_middle.trans (List.perm_middle.cons _)).append_left S))
theorem St.joinK {y : Tys} {hs : List HT} {h : HT} (h0 : St B Γ (bigR (treeR y h) :: bigR (kidsR y hs) :: Ms) w) : St B Γ (bigR (kidsR y (hs ++ [h])) :: Ms) w := by
  have := h0.bigJoin
  rwa [show kidsR y hs ++ treeR y h = kidsR y (hs ++ [h]) by simp [kidsR_eq]] at this
theorem St.joinB {y : Tys} {bs : List HB} {f : List Cl} {v u : SH} {ks : List HT} {n m : Nat} {fl tl : List Value} (hn : n = f.length) (hm : m = ks.length) (hf : fl = clFlat f) (ht : tl = tpFlat (ks.map HT.tp)) (h0 : St B Γ (rowS 2 y.c v n fl :: rowS 6 y.t u m tl :: bigR (kidsR y ks) :: bigR (brsR y bs) :: Ms) w) : St B Γ (bigR (brsR y (bs ++ [.mk f v ks u])) :: Ms) w := by
  subst hn; subst hm; subst hf; subst ht
  have := h0.packB
  rwa [show brsR y bs ++ (rowS 2 y.c v f.length (clFlat f) :: rowS 6 y.t u ks.length (tpFlat (ks.map HT.tp)) :: kidsR y ks) = brsR y (bs ++ [.mk f v ks u]) by simp [brsR_eq, brR]] at this
theorem St.joinT {y : Tys} {k n : Int} {nm : ByteArray} {r : List Cl} {v u x : SH} {ks : List HT} {ss : List HB} {n1 n2 n3 : Nat} {l1 l2 l3 : List Value} (e1 : n1 = r.length) (e2 : n2 = ks.length) (e3 : n3 = ss.length) (f1 : l1 = clFlat r) (f2 : l2 = tpFlat (ks.map HT.tp)) (f3 : l3 = bpFlat (ss.map HB.bp))
    (h0 : St B Γ (rowS 2 y.c v n1 l1 :: rowS 6 y.t u n2 l2 :: rowS 2 y.b x n3 l3 :: bigR (kidsR y ks) :: bigR (brsR y ss) :: Ms) w) : St B Γ (bigR (treeR y (.mk k n nm r v ks u ss x)) :: Ms) w := by
  subst e1; subst e2; subst e3; subst f1; subst f2; subst f3
  simpa only [treeR] using h0.packT
end
end Go.Hy
namespace Go.Hy
set_option linter.unusedVariables false
set_option linter.unusedSimpArgs false
set_option linter.unusedSectionVars false
set_option linter.unusedVariables false
set_option linter.unusedSimpArgs false
/-! ### Reading and writing in rows of the call's own -/
def setAt (cur : List Value) (o : Nat) (vs : List Value) : List Value := cur.take o ++ vs ++ cur.drop (o + vs.length)
theorem setAt_len {cur vs : List Value} {o : Nat} (h : o + vs.length ≤ cur.length) : (setAt cur o vs).length = cur.length := by
  simp [setAt]; omega
theorem setAt_cons {cur rest : List Value} {v : Value} {o : Nat} (h : o + rest.length + 1 ≤ cur.length) : setAt (cur.set o v) (o + 1) rest = setAt cur o (v :: rest) := by
  unfold setAt
  have h1 : (cur.set o v).take (o + 1) = cur.take o ++ [v] := by
    rw [List.take_add_one, List.take_set_of_le (Nat.le_refl o)]
    simp [show o < cur.length by omega]
  rw [h1, List.drop_set_of_lt (by omega)]
  simp only [List.length_cons, List.append_assoc, List.singleton_append]
  rw [show o + 1 + rest.length = o + (rest.length + 1) by omega]
theorem run_storeMid {P : Program} (g : Nat) (t : TypeId) (off : Nat) : ∀ (vs : List Value) (i : Nat) (cur : List Value) (w : World), w.heap[g]? = some (.cells cur.toArray t (0, 0)) → off + i + vs.length ≤ cur.length → (∀ v, v ∈ vs → v.oneCell' = true) →
    ∃ w', (storeCells ⟨g, off, none⟩ vs i).run P w = .ok () w' ∧ w'.heap[g]? = some (.cells (setAt cur (off + i) vs).toArray t (0, 0)) ∧ Chg (fun x => x = g) w w'
  | [], i, cur, w, hg, hl, _ => ⟨w, rfl, by simpa [setAt] using hg, Chg.refl _ _⟩
  | v :: rest, i, cur, w, hg, hl, h1 => by
    have hi : off + i < cur.length := by simp at hl; omega
    have hadd : (⟨g, off, none⟩ : Addr).add i = ⟨g, off + i, none⟩ := Addr.add_lit ..
    have hcell : w.cell? ⟨g, off + i, none⟩ = some cur[off + i] := by simp [World.cell?, hg, hi]
    have hfro : w.frozen? ⟨g, off + i, none⟩ = false := by simp [World.frozen?, hg]
    have hst : (store ((⟨g, off, none⟩ : Addr).add i) v).run P w = .ok () (w.setCell ⟨g, off + i, none⟩ v) := by
      rw [hadd, run_store P w _ v _ (h1 v (by simp)), hcell]
      simp [hfro]
    have hg2 : (w.setCell ⟨g, off + i, none⟩ v).heap[g]? = some (.cells (cur.set (off + i) v).toArray t (0, 0)) := by
      rw [setCell_row v hg]; simp
    obtain ⟨w', h2, h3, h4⟩ := run_storeMid g t off rest (i + 1) (cur.set (off + i) v) _ hg2 (by simp at hl ⊢; omega) (fun u hu => h1 u (List.mem_cons_of_mem _ hu))
    refine ⟨w', ?_, ?_, (Chg.setCell w g (off + i) v).trans h4 (fun b hb => .inl hb)⟩
    · simp only [storeCells]
      rw [bind_ok hst]; exact h2
    · rw [h3, show off + (i + 1) = off + i + 1 by omega, setAt_cons (by simp at hl; omega)]
theorem own_block {w : World} {e : TypeId} {sz n : Nat} {a : SH} {xs : List Value} (h : w.ownsRow 0 e sz (sl a n) n xs) (hn : 0 < n) : ∃ g cur, a.1 = some ⟨g, 0, none⟩ ∧ w.heap[g]? = some (.cells cur e (0, 0)) ∧ n ≤ a.2 ∧ a.2 ≤ maxLen ∧ cur.size = a.2 * sz ∧ cur.toList.take (n * sz) = xs ∧ xs.length = n * sz := by
  obtain ⟨ao, ac⟩ := a
  rcases h.2 with ⟨h1, h2⟩ | ⟨g, cap, cur, h1, h2, h3, h4, h5, h6, h7⟩
  · omega
  · have e1 : ao = some ⟨g, 0, none⟩ := by injection h1
    have e2 : ac = cap := by injection h1
    subst e1; subst e2
    exact ⟨g, cur, rfl, h3, h4, h5, h6, h7, h.1⟩
section
variable {B : Base} {Γ : List Fact} {Ms Ms2 : List Res} {w : World}
theorem St.rowAddr {sz n : Nat} {e : TypeId} {a : SH} {xs : List Value} (hs : St B Γ Ms w) (hm : rowS sz e a n xs ∈ Ms) (hn : 0 < n) : ∃ g, a.1 = some ⟨g, 0, Option.none⟩ := by
  obtain ⟨g, cur, h1, _⟩ := own_block (hs.res _ hm w (fun _ _ => rfl)) hn
  exact ⟨g, h1⟩
theorem St.rowCell {sz n g j : Nat} {e : TypeId} {a : SH} {xs : List Value} {v : Value} (hs : St B Γ Ms w) (hm : rowS sz e a n xs ∈ Ms) (ha : a.1 = some ⟨g, 0, Option.none⟩) (hj : xs[j]? = some v) : w.cell? ⟨g, j, Option.none⟩ = some v := by
  have hown : w.ownsRow 0 e sz (sl a n) n xs := hs.res _ hm w (fun _ _ => rfl)
  have hb : (sl a n).ownBlock = some g := by obtain ⟨ao, ac⟩ := a; simp only at ha; subst ha; rfl
  have := hown.cells hb j v hj
  rwa [Addr.add_lit, Nat.zero_add] at this
theorem flat_set {α : Type} {F : α → List Value} {sz : Nat} (hF : ∀ x, (F x).length = sz) : ∀ (l : List α) (i : Nat) (x : α), i < l.length → (l.set i x).flatMap F = setAt (l.flatMap F) (i * sz) (F x)
  | [], i, x, h => by simp at h
  | a :: l, 0, x, _ => by
    have ha := hF a
    have hx := hF x
    simp [setAt, hx, List.drop_append, ha]
  | a :: l, i + 1, x, h => by
    have ha := hF a
    have hx := hF x
    simp only [List.set_cons_succ, List.flatMap_cons, flat_set hF l i x (by simpa using h)]
    unfold setAt
    rw [Nat.add_mul, Nat.one_mul, hx]
    have t1 : (F a).take (i * sz + sz) = F a := List.take_of_length_le (by omega)
    have t2 : (F a).drop (i * sz + sz + sz) = [] := List.drop_of_length_le (by omega)
    rw [List.take_append, List.drop_append, ha, t1, t2, show i * sz + sz - sz = i * sz by omega, show i * sz + sz + sz - sz = i * sz + sz by omega]
    simp
theorem setAt_take {cur vs : List Value} {o m : Nat} (h : o + vs.length ≤ m) (hm : m ≤ cur.length) : (setAt cur o vs).take m = setAt (cur.take m) o vs := by
  unfold setAt
  have a1 : (cur.take m).take o = cur.take o := by rw [List.take_take, Nat.min_eq_left (by omega)]
  have a2 : (cur.take m).drop (o + vs.length) = (cur.drop (o + vs.length)).take (m - (o + vs.length)) := List.drop_take ..
  have len : (cur.take o ++ vs).length = o + vs.length := by simp; omega
  have a3 : (cur.take o ++ vs).take m = cur.take o ++ vs := List.take_of_length_le (by omega)
  rw [a1, a2, List.take_append, len, a3]
/-- Cells of an element of a row are written. -/
theorem St.rowStore {sz n g o : Nat} {e : TypeId} {a : SH} {xs vs : List Value} {P : Program} (hs : St B Γ (rowS sz e a n xs :: Ms2) w) (ha : a.1 = some ⟨g, 0, Option.none⟩) (hn : 0 < n) (ho : o + vs.length ≤ n * sz) (h1 : ∀ v, v ∈ vs → v.oneCell' = true) :
    ∃ w', (storeCells ⟨g, o, Option.none⟩ vs).run P w = .ok () w' ∧ St B Γ (rowS sz e a n (setAt xs o vs) :: Ms2) w' := by
  obtain ⟨g', cur, e1, e2, e3, e4, e5, e6, e7⟩ := own_block (hs.res _ List.mem_cons_self w (fun _ _ => rfl)) hn
  rw [ha] at e1
  injection e1 with e1; injection e1 with e1
  subst e1
  have hcl : cur.toList.length = cur.size := by simp
  have hle : n * sz ≤ cur.size := by rw [e5]; exact Nat.mul_le_mul_right sz e3
  obtain ⟨w', h2, h3, h4⟩ := run_storeMid (P := P) g e o vs 0 cur.toList w (by simpa using e2) (by rw [hcl]; omega) h1
  rw [Nat.add_zero] at h3
  refine ⟨w', h2, hs.turn ?_ (fun w2 hw2 => ?_) (fun b hb => ?_)⟩
  · refine h4.mono (fun b hb => ?_)
    subst hb
    show (sl a n).ownBlock = some b
    obtain ⟨ao, ac⟩ := a; simp only at ha; subst ha; rfl
  · have hb : (sl a n).ownBlock = some g := by obtain ⟨ao, ac⟩ := a; simp only at ha; subst ha; rfl
    refine ⟨by rw [setAt_len (by omega)]; exact e7, .inr ⟨g, a.2, (setAt cur.toList o vs).toArray, ?_, Nat.zero_le _, (hw2 g hb).trans h3, e3, e4, ?_, ?_⟩⟩
    · obtain ⟨ao, ac⟩ := a; simp only at ha; subst ha; rfl
    · rw [List.size_toArray, setAt_len (by rw [hcl]; omega), hcl, e5]
    · rw [← e6]
      exact setAt_take (by omega) (by rw [hcl]; omega)
  · have hb : (sl a n).ownBlock = some b := hb
    have hb2 : b = g := by
      obtain ⟨ao, ac⟩ := a; simp only at ha; subst ha
      have : some g = some b := hb
      injection this with this; exact this.symm
    subst hb2
    exact ⟨(Array.getElem?_eq_some_iff.mp h3).1, .inl hb⟩
end
section
variable {P : Program} [Tab P] {B : Base} {Γ : List Fact} {Ms Ms2 : List Res} {σ : Nat → Value} {ty : TypeId} {x y : Operand} {v : Value}
/-- An element of a row of the call's own. -/
theorem lr_elem {α : Type} {F : α → List Value} {sz : Nat} (hF : ∀ x, (F x).length = sz) (d : α) {t e : TypeId} {lay : List (Nat × Nat)} {bt g i n : Nat} {a : SH} {zv : Value} {l : List α} (hx : ev σ x = .pointer (some ⟨g, 0 + i * sz, none⟩)) (hm : rowS sz e a n (l.flatMap F) ∈ Ms) (ha : a.1 = some ⟨g, 0, none⟩) (hu : Tab.lay P t = some lay) (hi : Tab.inf P t = some (sz, bt, zv)) (hlt : i < l.length) :
    LoadE P B σ Γ Ms (.load t x) ty (.agg (F (l.getD i d)).toArray) := fun w hs => by
  have h4 := run_loadVar_agg (P := P) (bk := g) (off := 0 + i * sz) (w := w) hu hi (cs := F (l.getD i d)) (hF _) (fun j v hj => by
    have := flat_at hF d l i j v hlt hj
    rw [Nat.zero_add]
    exact hs.rowCell hm ha this)
  rw [Nat.zero_add] at h4 hx
  generalize F (l.getD i d) = u at h4 ⊢
  simp [opr, execOp, hx, Instr.loadAt, Instr.sureAddr, h4]
/-- One cell of it. -/
theorem lr_field {α : Type} {F : α → List Value} {sz : Nat} (hF : ∀ x, (F x).length = sz) (d0 : α) {t e : TypeId} {d : TypeDesc} {g i k n : Nat} {a : SH} {l : List α} (hx : ev σ x = .pointer (some ⟨g, 0 + i * sz + k, none⟩)) (hm : rowS sz e a n (l.flatMap F) ∈ Ms) (ha : a.1 = some ⟨g, 0, none⟩) (hu : Tab.und P t = some d) (hd : (match d with | .struct _ | .array _ _ => true | _ => false) = false) (hlt : i < l.length) (hk : (F (l.getD i d0))[k]? = some v) :
    LoadE P B σ Γ Ms (.load t x) ty v := fun w hs => by
  have h3 := hs.rowCell hm ha (flat_at hF d0 l i k v hlt hk)
  rw [Nat.zero_add] at hx
  simp [opr, execOp, hx, Instr.loadAt, Instr.sureAddr, run_loadVar_one hu hd h3]
/-- An element is written whole. -/
theorem sr_elem {α : Type} {F : α → List Value} {sz : Nat} (hF : ∀ x, (F x).length = sz) {t e : TypeId} {bt g i n : Nat} {a : SH} {zv : Value} {l : List α} (u : α) (hx : ev σ x = .pointer (some ⟨g, 0 + i * sz, none⟩)) (hm : Ms.Perm (rowS sz e a n (l.flatMap F) :: Ms2)) (ha : a.1 = some ⟨g, 0, none⟩) (hn : n = l.length) (hy : (ev σ y).cells = (F u).toArray) (hi : Tab.inf P t = some (sz, bt, zv)) (h1 : oneCells (F u) = true) (hlt : i < l.length) :
    StoreE P B σ Γ Ms (.store t x y) ty Γ (rowS sz e a n ((l.set i u).flatMap F) :: Ms2) := fun w hs => by
  have hs' := hs.perm hm
  have hmul : i * sz + sz ≤ n * sz := by
    have := Nat.mul_le_mul_right sz (show i + 1 ≤ n by omega)
    rwa [Nat.add_mul, Nat.one_mul] at this
  obtain ⟨w', hr, h2⟩ := hs'.rowStore (P := P) (vs := F u) (o := i * sz) ha (by omega) (by rw [hF]; exact hmul) (fun v hv => List.all_eq_true.mp h1 v hv)
  refine ⟨w', ?_, by rw [flat_set hF l i u hlt]; exact h2⟩
  have hr2 : (storeVar t ⟨g, 0 + i * sz, none⟩ (ev σ y)).run P w = .ok () w' := by
    unfold storeVar
    rw [bind_ok (run_size0 hi w)]
    simp only [hy, List.size_toArray, hF, ne_eq, not_true, if_false, Nat.zero_add]
    exact hr
  rw [Nat.zero_add] at hr2 hx
  simp [opr, execOp, hx, Instr.storeAt, Instr.sureAddr, hr2]
end
end Go.Hy
namespace Go.Hy
set_option linter.unusedVariables false
set_option linter.unusedSimpArgs false
set_option linter.unusedSectionVars false
set_option linter.unusedVariables false
set_option linter.unusedSimpArgs false
set_option linter.unusedSectionVars false
section
variable {P : Program} {f : FuncId} {R : Ending → World → Prop} {B : Base} {n : Nat} {K : List Item} {σ : Nat → Value} {Γ LF : List Fact} {Ms Ms2 Ms' : List Res} {todo : List Item} {w : World}
/-- What is owned, said in other words. -/
theorem go_ms (h : Ms = Ms') (k : GoT P f R B n todo σ Γ Ms') : GoT P f R B n todo σ Γ Ms := h ▸ k
/-- A variable that is written no more. -/
theorem St.settleBox {b : Nat} {cs : List Value} {T : TypeId} {hBp : Prop} (hB : hBp) (hs : St B Γ (boxR b cs T :: Ms) w) : St B (At b 0 cs :: Γ) Ms w := by
  refine hs.settle0 hB (fun ok hok hh => ⟨hok b rfl, fun j v hj => ?_⟩)
  have hh : w.heap[b]? = some (.cells cs.toArray T (0, 0)) := hh
  simp [World.cell?, hh, hj]
end
end Go.Hy
namespace Go.Hy
set_option linter.unusedVariables false
set_option linter.unusedSimpArgs false
set_option linter.unusedSectionVars false
section
variable {B : Base} {Γ : List Fact} {Ms K S : List Res} {w : World} {a b c : Res}
theorem St.unpackT (hs : St B Γ (bigR (a :: b :: c :: (K ++ S)) :: Ms) w) : St B Γ (a :: b :: c :: bigR K :: bigR S :: Ms) w := by
  have h1 : St B Γ (a :: b :: c :: (K ++ (S ++ Ms))) w := by simpa only [List.cons_append, List.append_assoc] using hs.unpack
  have h2 : St B Γ (K ++ (S ++ (a :: b :: c :: Ms))) w := h1.perm ((permOut.trans ((permOut.trans (permOut.cons _)).cons _)).symm)
  have h3 : St B Γ (S ++ (bigR K :: a :: b :: c :: Ms)) w := (St.pack h2).perm List.perm_middle.symm
  exact ((((St.pack h3).perm perm1).perm perm4).perm perm4).perm perm4
theorem St.unpackB (hs : St B Γ (bigR (a :: b :: (K ++ S)) :: Ms) w) : St B Γ (a :: b :: bigR K :: bigR S :: Ms) w := by
  have h1 : St B Γ (a :: b :: (K ++ (S ++ Ms))) w := by simpa only [List.cons_append, List.append_assoc] using hs.unpack
  have h2 : St B Γ (K ++ (S ++ (a :: b :: Ms))) w := h1.perm ((permOut.trans (permOut.cons _)).symm)
  have h3 : St B Γ (S ++ (bigR K :: a :: b :: Ms)) w := (St.pack h2).perm List.perm_middle.symm
  exact (((St.pack h3).perm perm1).perm perm3).perm perm3
def h0 : HT := .mk 0 0 (ByteArray.mk #[]) [] (none, 0) [] (none, 0) [] (none, 0)
def hb0 : HB := .mk [] (none, 0) [] (none, 0)
theorem drop_getD {α : Type} (d : α) {l : List α} {i : Nat} (h : i < l.length) : l.drop i = l.getD i d :: l.drop (i + 1) := by
  rw [List.drop_eq_getElem_cons h, List.getD_eq_getElem?_getD, List.getElem?_eq_getElem h]; rfl
theorem getD_set_eq {α : Type} {d u : α} {l : List α} {i : Nat} (h : i < l.length) : (l.set i u).getD i d = u := by
  rw [List.getD_eq_getElem?_getD, List.getElem?_set_self h]; rfl
theorem getD_map {α β : Type} {d : α} {e : β} {f : α → β} {l : List α} {i : Nat} (h : i < l.length) : (l.map f).getD i e = f (l.getD i d) := by
  rw [List.getD_eq_getElem?_getD, List.getD_eq_getElem?_getD, List.getElem?_map, List.getElem?_eq_getElem h]; rfl
theorem St.openHT {y : Tys} {k n : Int} {nm : ByteArray} {r : List Cl} {v u x : SH} {ks : List HT} {ss : List HB} (hs : St B Γ (bigR (treeR y (.mk k n nm r v ks u ss x)) :: Ms) w) :
    St B Γ (rowS 2 y.c v r.length (clFlat r) :: rowS 6 y.t u ks.length (tpFlat (ks.map HT.tp)) :: rowS 2 y.b x ss.length (bpFlat (ss.map HB.bp)) :: bigR (kidsR y ks) :: bigR (brsR y ss) :: Ms) w := by
  simp only [treeR] at hs
  exact hs.unpackT
theorem St.rowLen {sz n : Nat} {e : TypeId} {a : SH} {xs : List Value} (hs : St B Γ Ms w) (hm : rowS sz e a n xs ∈ Ms) : n ≤ 9223372036854775807 := by
  rcases Nat.eq_zero_or_pos n with h | h
  · omega
  · obtain ⟨g, cur, _, _, h3, h4, _⟩ := own_block (hs.res _ hm w (fun _ _ => rfl)) h
    have : maxLen = 9223372036854775807 := rfl
    omega
theorem Spec.conv {P : Program} {k : FuncId} {args args' : Array Value} {pre : List Fact} {Ms0 Ms0' : List Res} {X : Type} {val : X → Value} {N : X → List Fact} {Ms1 : X → List Res} (h : Spec P k args pre Ms0 val N Ms1) (ha : args = args') (hd : ∀ b, domAll Ms0' b ↔ domAll Ms0 b) (hs : ∀ B w, St B pre Ms0' w → St B pre Ms0 w) : Spec P k args' pre Ms0' val N Ms1 := by
  subst ha
  have e : domAll Ms0' = domAll Ms0 := funext fun b => propext (hd b)
  intro ok w hok hst
  rw [e] at hst ⊢
  exact h ok w (fun b hb => ⟨(hok b hb).1, fun hc => (hok b hb).2 ((hd b).2 hc)⟩) (hs _ _ hst)
mutual
theorem HT.indK {P : HT → Prop} (h : ∀ k n nm r v ks u ss x, (∀ c, c ∈ ks → P c) → P (.mk k n nm r v ks u ss x)) : ∀ t, P t
  | .mk k n nm r v ks u ss x => h k n nm r v ks u ss x (HT.indL h ks)
theorem HT.indL {P : HT → Prop} (h : ∀ k n nm r v ks u ss x, (∀ c, c ∈ ks → P c) → P (.mk k n nm r v ks u ss x)) : ∀ ts : List HT, ∀ c, c ∈ ts → P c
  | [], _, hc => by cases hc
  | t :: ts, c, hc => by
    rcases List.mem_cons.mp hc with e | hc
    · rw [e]; exact HT.indK h t
    · exact HT.indL h ts c hc
end
end
end Go.Hy
