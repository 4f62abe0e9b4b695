/- Regions whose operations may be carried out in any order: one order is enough. -/
import Derived.Test.YtcofpfnnlageaaaHyCore
namespace Go.Hy
set_option linter.unusedVariables false
set_option linter.unusedSimpArgs false
set_option linter.unusedSectionVars false
set_option linter.unusedVariables false

/-! ### A region that draws its order -/
def growB : Op → Bool
  | .alloc _ | .box .. | .buildSlice .. => true
  | .call c => match c.callee with
    | .value _ => true
    | _ => false
  | _ => false
def movB : Op → Bool
  | .load .. => false
  | .call c => match c.callee with
    | .value _ => false
    | _ => true
  | _ => true

/-- An append. -/
def turnB : Op → Bool
  | .call c => match c.callee with
    | .builtin .append => true
    | _ => false
  | _ => false
section
variable (tn : Bool) (P : Program) (f : FuncId) (R : Ending → World → Prop) (B : Base) (n : Nat) (K : List Item) (ops : Array Oper) (fin : List Nat)
/-- The operations in one order that may stand for every order. -/
inductive NV : List Nat → (Nat → Value) → List Fact → List Res → Prop
  | done {σ : Nat → Value} {Γ : List Fact} {Ms : List Res} (h : RgT P f R B n K ops fin σ Γ Ms) : NV [] σ Γ Ms
  | no {l : List Nat} {σ : Nat → Value} {Γ : List Fact} {Ms : List Res} (h : ¬ ∃ w, St B Γ Ms w) : NV l σ Γ Ms
  | pure {i : Nat} {l : List Nat} {o : Oper} {v : Value} {σ : Nat → Value} {Γ : List Fact} {Ms : List Res} (ho : ops[i]? = some o) (hw : wantS ops σ o = true) (hd : dstOk n o.dst = true) (h : PureOp P σ o v) (k : NV l (putS σ o.dst v) Γ Ms) : NV (i :: l) σ Γ Ms
  | load {i : Nat} {l : List Nat} {o : Oper} {v : Value} {σ : Nat → Value} {Γ : List Fact} {Ms : List Res} (ht : tn = false) (ho : ops[i]? = some o) (hm : movB o.op = false) (hw : wantS ops σ o = true) (hd : dstOk n o.dst = true) (h : LoadOp P B σ Γ Ms o v) (k : NV l (putS σ o.dst v) Γ Ms) : NV (i :: l) σ Γ Ms
  | off {i : Nat} {l : List Nat} {o : Oper} {σ : Nat → Value} {Γ : List Fact} {Ms : List Res} (ho : ops[i]? = some o) (hw : wantS ops σ o = false) (hd : dstOk n o.dst = true) (k : NV l (putS σ o.dst undef) Γ Ms) : NV (i :: l) σ Γ Ms
  | alloc {i : Nat} {l : List Nat} {o : Oper} {val : Nat → Value} {cs : List Value} {T : TypeId} {σ : Nat → Value} {Γ : List Fact} {Ms : List Res} (ho : ops[i]? = some o) (hg : growB o.op = true) (hw : wantS ops σ o = true) (hd : dstOk n o.dst = true) (h : AllocOp P σ o val cs T)
      (k : ∀ b, NV l (putS σ o.dst (val b)) Γ (boxR b cs T :: Ms)) : NV (i :: l) σ Γ Ms
  | call {i : Nat} {l : List Nat} {o : Oper} {c : FuncId} {args : Array Value} {pre : List Fact} {X : Type} {val : X → Value} {N : X → List Fact} {Ms1 : X → List Res} {σ : Nat → Value} {Γ : List Fact} {Ms : List Res} (ht : tn = false) (ho : ops[i]? = some o) (hg : growB o.op = true) (hm : movB o.op = false)
      (hw : wantS ops σ o = true) (hd : dstOk n o.dst = true) (he : ∀ w, (execOp (ev σ) o).run P w = .ok (.enter c args) w) (hsp : Spec P c args pre [] val N Ms1) (hpre : ∀ F, F ∈ pre → F ∈ Γ)
      (k : ∀ x, NV l (putS σ o.dst (val x)) (N x ++ Γ) (Ms1 x ++ Ms)) : NV (i :: l) σ Γ Ms
  | loadF {i : Nat} {l : List Nat} {o : Oper} {v : Value} {σ : Nat → Value} {Γ : List Fact} {Ms : List Res} (ho : ops[i]? = some o) (hm : movB o.op = false) (hw : wantS ops σ o = true) (hd : dstOk n o.dst = true) (h : LoadOp P B σ Γ [] o v) (k : NV l (putS σ o.dst v) Γ Ms) : NV (i :: l) σ Γ Ms
  | turn {i : Nat} {l : List Nat} {o : Oper} {X : Type} {val : X → Value} {r : List Res} {r' : X → List Res} {σ : Nat → Value} {Γ : List Fact} {Ms Ms2 : List Res} (ht : tn = true) (ho : ops[i]? = some o) (hb : turnB o.op = true) (hw : wantS ops σ o = true) (hd : dstOk n o.dst = true)
      (hp : Ms.Perm (r ++ Ms2)) (h : ∀ M w, St B Γ (r ++ M) w → ∃ x w', (execOp (ev σ) o).run P w = .ok (.value (val x)) w' ∧ St B Γ (r' x ++ M) w') (k : ∀ x, NV l (putS σ o.dst (val x)) Γ (r' x ++ Ms2)) : NV (i :: l) σ Γ Ms
end

section
variable {tn : Bool} {P : Program} {f : FuncId} {R : Ending → World → Prop} {B : Base} {n : Nat} {K : List Item} {ops : Array Oper} {fin l : List Nat} {σ : Nat → Value} {Γ : List Fact} {Ms Ms' : List Res} {i k : Nat} {oi ok : Oper}

theorem NV.perm (h : NV tn P f R B n K ops fin l σ Γ Ms) : ∀ {Ms'}, Ms.Perm Ms' → NV tn P f R B n K ops fin l σ Γ Ms' := by
  induction h with
  | done h => exact fun hp => .done (fun a w hr hs => h a w hr (hs.perm hp.symm))
  | no h => exact fun hp => .no (fun ⟨w, hw⟩ => h ⟨w, hw.perm hp.symm⟩)
  | pure ho hw hd h k ih => exact fun hp => .pure ho hw hd h (ih hp)
  | load ht ho hm hw hd h k ih => exact fun hp => .load ht ho hm hw hd (fun w hs => h w (hs.perm hp.symm)) (ih hp)
  | loadF ho hm hw hd h k ih => exact fun hp => .loadF ho hm hw hd h (ih hp)
  | turn ht ho hb hw hd hp2 h k ih => exact fun hp => .turn ht ho hb hw hd (hp.symm.trans hp2) h (fun x => k x)
  | off ho hw hd k ih => exact fun hp => .off ho hw hd (ih hp)
  | alloc ho hg hw hd h k ih => exact fun hp => .alloc ho hg hw hd h (fun b => ih b (hp.cons _))
  | call ht ho hg hm hw hd he hsp hpre k ih => exact fun hp => .call ht ho hg hm hw hd he hsp hpre (fun x => ih x (hp.append_left _))

theorem ev_put {o : Oper} {dst : Option Tmp} {v : Value} (h : ∀ d, dst = some d → d ∉ o.looksAt ops) : ∀ x, x ∈ o.op.operands → ev (putS σ dst v) x = ev σ x := by
  intro x hx
  cases dst with
  | none => rfl
  | some d =>
    cases x with
    | tmp t =>
      have hne : t ≠ d := by
        intro e
        subst e
        exact h t rfl (List.mem_append_left _ (List.mem_filterMap.2 ⟨.tmp t, by simpa using hx, rfl⟩))
      exact upd_ne σ v hne
    | _ => rfl
def notSelect : Op → Bool
  | .select .. => false
  | _ => true
theorem execOp_put' {o : Oper} {dst : Option Tmp} {v : Value} (hs : notSelect o.op = true) (h : ∀ d, dst = some d → d ∉ o.looksAt ops) : execOp (ev (putS σ dst v)) o = execOp (ev σ) o :=
  execOp_congr o (fun cs b e => by rw [e] at hs; cases hs) (ev_put h)
theorem wantS_put {o : Oper} {dst : Option Tmp} {v : Value} (h : ∀ d, dst = some d → d ∉ o.looksAt ops) : wantS ops (putS σ dst v) o = wantS ops σ o := by
  cases dst with
  | none => rfl
  | some d =>
    unfold wantS
    cases hg : o.guard with
    | none => rfl
    | some p =>
      obtain ⟨j, want⟩ := p
      simp only
      cases hj : (ops[j]?).bind (·.dst) with
      | none => rfl
      | some e =>
        have hne : e ≠ d := by
          intro e'
          subst e'
          exact h e rfl (List.mem_append_right _ (by simp [hg, hj]))
        simp only [putS, upd_ne σ v hne]
theorem putS_comm {x y : Option Tmp} (v u : Value) (h : ∀ d, x = some d → y ≠ some d) : putS (putS σ x v) y u = putS (putS σ y u) x v := by
  cases x with
  | none => rfl
  | some d =>
    cases y with
    | none => rfl
    | some e =>
      have hne : d ≠ e := fun he => h d rfl (he ▸ rfl)
      funext t
      simp only [putS]
      by_cases h1 : t = d
      · subst h1
        rw [upd_ne _ _ hne, upd_same, upd_same]
      · rw [upd_ne _ _ h1]
        by_cases h2 : t = e
        · subst h2; rw [upd_same, upd_same]
        · rw [upd_ne _ _ h2, upd_ne _ _ h2, upd_ne _ _ h1]

theorem PureOp.unique {o : Oper} {v v' : Value} (h : PureOp P σ o v) (h' : PureOp P σ o v') : v = v' := by
  have := (h default).symm.trans (h' default)
  injection this with h1
  injection h1
theorem AllocOp.unique {o : Oper} {val val' : Nat → Value} {cs cs' : List Value} {T T' : TypeId} (h : AllocOp P σ o val cs T) (h' : AllocOp P σ o val' cs' T') : val = val' ∧ cs = cs' ∧ T = T' := by
  have key : ∀ w : World, val w.heap.size = val' w.heap.size ∧ cs = cs' ∧ T = T' := by
    intro w
    have := (h w).symm.trans (h' w)
    injection this with h1 h2
    injection h1 with h1
    refine ⟨h1, ?_⟩
    have h3 : w.heap.push (.cells cs.toArray T (0, 0)) = w.heap.push (.cells cs'.toArray T' (0, 0)) := congrArg World.heap h2
    have h4 := Array.push_eq_push.1 h3
    injection h4.1 with h5 h6
    refine ⟨?_, h6⟩
    have := congrArg Array.toList h5
    simpa using this
  refine ⟨funext fun b => ?_, (key default).2⟩
  have := (key { (default : World) with heap := Array.replicate b (.cells #[] 0 (0, 0)) }).1
  simpa using this

theorem PureOp.not_alloc {o : Oper} {v : Value} {val : Nat → Value} {cs : List Value} {T : TypeId} (h : PureOp P σ o v) (h' : AllocOp P σ o val cs T) : False := by
  have := (h default).symm.trans (h' default)
  injection this with h1 h2
  have h3 := congrArg (fun w : World => w.heap.size) h2
  simp at h3

theorem St.dropAll {w : World} : ∀ {A : List Res}, St B Γ (A ++ Ms) w → St B Γ Ms w
  | [], h => h
  | _ :: A, h => St.dropAll (A := A) (St.drop h)
theorem Spec.some {c : FuncId} {args : Array Value} {pre : List Fact} {X : Type} {val : X → Value} {N : X → List Fact} {Ms1 : X → List Res} {w : World} (hsp : Spec P c args pre [] val N Ms1) (hpre : ∀ F, F ∈ pre → F ∈ Γ) (hs : St B Γ Ms w) : ∃ x w', St B (N x ++ Γ) (Ms1 x ++ Ms) w' := by
  have hs' : St B Γ ([] ++ Ms) w := hs
  obtain ⟨e, w', fr, ⟨x, _, hx⟩, _⟩ := hsp (okOf B ([] ++ Ms) w) w (fun b hb => ⟨hb.2.1, domAll_nil b⟩) (hs'.hand hpre) []
  exact ⟨x, w', hs'.frame hx⟩

/-- Two that don't hang on each other change places. -/
theorem NV.swap (hi : ops[i]? = some oi) (hk : ops[k]? = some ok) (hap : Oper.apart ops oi ok = true) (hal : (!growB oi.op || movB ok.op) = true) (htt : (!(turnB ok.op && (growB oi.op || turnB oi.op))) = true) (hns : notSelect oi.op = true) (hns' : notSelect ok.op = true)
    (hsat : ∃ w, St B Γ Ms w) (h : NV tn P f R B n K ops fin (i :: k :: l) σ Γ Ms) : NV tn P f R B n K ops fin (k :: i :: l) σ Γ Ms := by
  obtain ⟨a1, a2, a3⟩ := Oper.apart_spec hap
  have a2' : ∀ d, ok.dst = some d → oi.dst ≠ some d := fun d hd he => a2 d he hd
  have ek : ∀ {v : Value}, execOp (ev (putS σ oi.dst v)) ok = execOp (ev σ) ok := fun {v} => execOp_put' (ops := ops) hns' a1
  have ei : ∀ {v : Value}, execOp (ev (putS σ ok.dst v)) oi = execOp (ev σ) oi := fun {v} => execOp_put' (ops := ops) hns a3
  have wk : ∀ {v : Value}, wantS ops (putS σ oi.dst v) ok = wantS ops σ ok := fun {v} => wantS_put a1
  have wi : ∀ {v : Value}, wantS ops (putS σ ok.dst v) oi = wantS ops σ oi := fun {v} => wantS_put a3
  have pc : ∀ v u, putS (putS σ oi.dst v) ok.dst u = putS (putS σ ok.dst u) oi.dst v := fun v u => putS_comm v u a2
  cases h with
  | no h => exact absurd hsat h
  | pure ho hw hd h kk =>
    obtain rfl := Option.some.inj (hi.symm.trans ho)
    have hp : ∀ {u : Value}, PureOp P (putS σ ok.dst u) oi _ := fun {u} w => by rw [ei]; exact h w
    cases kk with
    | no h => exact absurd hsat h
    | pure ho2 hw2 hd2 h2 k2 =>
      obtain rfl := Option.some.inj (hk.symm.trans ho2)
      exact .pure hk (wk ▸ hw2) hd2 (fun w => by rw [← ek]; exact h2 w) (.pure hi (wi.trans hw) hd hp (pc _ _ ▸ k2))
    | load ht2 ho2 hm2 hw2 hd2 h2 k2 =>
      obtain rfl := Option.some.inj (hk.symm.trans ho2)
      exact .load ht2 hk hm2 (wk ▸ hw2) hd2 (fun w hs => by rw [← ek]; exact h2 w hs) (.pure hi (wi.trans hw) hd hp (pc _ _ ▸ k2))
    | off ho2 hw2 hd2 k2 =>
      obtain rfl := Option.some.inj (hk.symm.trans ho2)
      exact .off hk (wk ▸ hw2) hd2 (.pure hi (wi.trans hw) hd hp (pc _ _ ▸ k2))
    | alloc ho2 hg2 hw2 hd2 h2 k2 =>
      obtain rfl := Option.some.inj (hk.symm.trans ho2)
      exact .alloc hk hg2 (wk ▸ hw2) hd2 (fun w => by rw [← ek]; exact h2 w) (fun b => .pure hi (wi.trans hw) hd hp (pc _ _ ▸ k2 b))
    | call ht2 ho2 hg2 hm2 hw2 hd2 he2 hsp2 hpre2 k2 =>
      obtain rfl := Option.some.inj (hk.symm.trans ho2)
      exact .call ht2 hk hg2 hm2 (wk ▸ hw2) hd2 (fun w => by rw [← ek]; exact he2 w) hsp2 hpre2 (fun x => .pure hi (wi.trans hw) hd hp (pc _ _ ▸ k2 x))
    | loadF ho2 hm2 hw2 hd2 h2 k2 =>
      obtain rfl := Option.some.inj (hk.symm.trans ho2)
      exact .loadF hk hm2 (wk ▸ hw2) hd2 (fun w hs => by rw [← ek]; exact h2 w hs) (.pure hi (wi.trans hw) hd hp (pc _ _ ▸ k2))
    | turn ht2 ho2 hb2 hw2 hd2 hp2 h2 k2 =>
      obtain rfl := Option.some.inj (hk.symm.trans ho2)
      exact .turn ht2 hk hb2 (wk ▸ hw2) hd2 hp2 (fun M w hs => by rw [← ek]; exact h2 M w hs) (fun x => .pure hi (wi.trans hw) hd hp (pc _ _ ▸ k2 x))
  | off ho hw hd kk =>
    obtain rfl := Option.some.inj (hi.symm.trans ho)
    cases kk with
    | no h => exact absurd hsat h
    | pure ho2 hw2 hd2 h2 k2 =>
      obtain rfl := Option.some.inj (hk.symm.trans ho2)
      exact .pure hk (wk ▸ hw2) hd2 (fun w => by rw [← ek]; exact h2 w) (.off hi (wi.trans hw) hd (pc _ _ ▸ k2))
    | load ht2 ho2 hm2 hw2 hd2 h2 k2 =>
      obtain rfl := Option.some.inj (hk.symm.trans ho2)
      exact .load ht2 hk hm2 (wk ▸ hw2) hd2 (fun w hs => by rw [← ek]; exact h2 w hs) (.off hi (wi.trans hw) hd (pc _ _ ▸ k2))
    | off ho2 hw2 hd2 k2 =>
      obtain rfl := Option.some.inj (hk.symm.trans ho2)
      exact .off hk (wk ▸ hw2) hd2 (.off hi (wi.trans hw) hd (pc _ _ ▸ k2))
    | alloc ho2 hg2 hw2 hd2 h2 k2 =>
      obtain rfl := Option.some.inj (hk.symm.trans ho2)
      exact .alloc hk hg2 (wk ▸ hw2) hd2 (fun w => by rw [← ek]; exact h2 w) (fun b => .off hi (wi.trans hw) hd (pc _ _ ▸ k2 b))
    | call ht2 ho2 hg2 hm2 hw2 hd2 he2 hsp2 hpre2 k2 =>
      obtain rfl := Option.some.inj (hk.symm.trans ho2)
      exact .call ht2 hk hg2 hm2 (wk ▸ hw2) hd2 (fun w => by rw [← ek]; exact he2 w) hsp2 hpre2 (fun x => .off hi (wi.trans hw) hd (pc _ _ ▸ k2 x))
    | loadF ho2 hm2 hw2 hd2 h2 k2 =>
      obtain rfl := Option.some.inj (hk.symm.trans ho2)
      exact .loadF hk hm2 (wk ▸ hw2) hd2 (fun w hs => by rw [← ek]; exact h2 w hs) (.off hi (wi.trans hw) hd (pc _ _ ▸ k2))
    | turn ht2 ho2 hb2 hw2 hd2 hp2 h2 k2 =>
      obtain rfl := Option.some.inj (hk.symm.trans ho2)
      exact .turn ht2 hk hb2 (wk ▸ hw2) hd2 hp2 (fun M w hs => by rw [← ek]; exact h2 M w hs) (fun x => .off hi (wi.trans hw) hd (pc _ _ ▸ k2 x))
  | load ht ho hm hw hd h kk =>
    obtain rfl := Option.some.inj (hi.symm.trans ho)
    have hp : ∀ {u : Value}, LoadOp P B (putS σ ok.dst u) Γ Ms oi _ := fun {u} w hs => by rw [ei]; exact h w hs
    cases kk with
    | no h => exact absurd hsat h
    | pure ho2 hw2 hd2 h2 k2 =>
      obtain rfl := Option.some.inj (hk.symm.trans ho2)
      exact .pure hk (wk ▸ hw2) hd2 (fun w => by rw [← ek]; exact h2 w) (.load ht hi hm (wi.trans hw) hd hp (pc _ _ ▸ k2))
    | load ht2 ho2 hm2 hw2 hd2 h2 k2 =>
      obtain rfl := Option.some.inj (hk.symm.trans ho2)
      exact .load ht2 hk hm2 (wk ▸ hw2) hd2 (fun w hs => by rw [← ek]; exact h2 w hs) (.load ht hi hm (wi.trans hw) hd hp (pc _ _ ▸ k2))
    | off ho2 hw2 hd2 k2 =>
      obtain rfl := Option.some.inj (hk.symm.trans ho2)
      exact .off hk (wk ▸ hw2) hd2 (.load ht hi hm (wi.trans hw) hd hp (pc _ _ ▸ k2))
    | alloc ho2 hg2 hw2 hd2 h2 k2 =>
      obtain rfl := Option.some.inj (hk.symm.trans ho2)
      exact .alloc hk hg2 (wk ▸ hw2) hd2 (fun w => by rw [← ek]; exact h2 w) (fun b => .load ht hi hm (wi.trans hw) hd (fun w hs => by rw [ei]; exact h w hs.drop) (pc _ _ ▸ k2 b))
    | call ht2 ho2 hg2 hm2 hw2 hd2 he2 hsp2 hpre2 k2 =>
      obtain rfl := Option.some.inj (hk.symm.trans ho2)
      exact .call ht2 hk hg2 hm2 (wk ▸ hw2) hd2 (fun w => by rw [← ek]; exact he2 w) hsp2 hpre2 (fun x => .load ht hi hm (wi.trans hw) hd (fun w hs => by rw [ei]; exact h w (St.dropAll (hs.less (fun F hF => List.mem_append_right _ hF)))) (pc _ _ ▸ k2 x))
    | loadF ho2 hm2 hw2 hd2 h2 k2 =>
      obtain rfl := Option.some.inj (hk.symm.trans ho2)
      exact .loadF hk hm2 (wk ▸ hw2) hd2 (fun w hs => by rw [← ek]; exact h2 w hs) (.load ht hi hm (wi.trans hw) hd hp (pc _ _ ▸ k2))
    | turn ht2 => rw [ht] at ht2; cases ht2
  | alloc ho hg hw hd h kk =>
    obtain rfl := Option.some.inj (hi.symm.trans ho)
    rw [hg] at hal
    have hmk : movB ok.op = true := by simpa using hal
    obtain ⟨w, hs⟩ := hsat
    have hb0 := kk w.heap.size
    cases hb0 with
    | no hn => exact (hn ⟨_, hs.alloc _ _⟩).elim
    | pure ho2 hw2 hd2 h2 k2 =>
      obtain rfl := Option.some.inj (hk.symm.trans ho2)
      refine .pure hk (wk ▸ hw2) hd2 (fun w => by rw [← ek]; exact h2 w) (.alloc hi hg (wi.trans hw) hd (fun w => by rw [ei]; exact h w) (fun b => ?_))
      have hb := kk b
      cases hb with
      | no hn => exact .no hn
      | pure ho3 hw3 hd3 h3 k3 =>
        obtain rfl := Option.some.inj (hk.symm.trans ho3)
        have : _ = _ := PureOp.unique (P := P) (σ := σ) (fun w => by rw [← ek]; exact h2 w) (fun w => by rw [← ek]; exact h3 w)
        subst this
        exact pc _ _ ▸ k3
      | load ht3 ho3 hm3 => obtain rfl := Option.some.inj (hk.symm.trans ho3); rw [hmk] at hm3; cases hm3
      | loadF ho3 hm3 => obtain rfl := Option.some.inj (hk.symm.trans ho3); rw [hmk] at hm3; cases hm3
      | turn ht3 ho3 hb3 => obtain rfl := Option.some.inj (hk.symm.trans ho3); rw [hb3, hg] at htt; cases htt
      | off ho3 hw3 => obtain rfl := Option.some.inj (hk.symm.trans ho3); rw [wk] at hw3 hw2; rw [hw2] at hw3; cases hw3
      | alloc ho3 hg3 hw3 hd3 h3 k3 =>
        obtain rfl := Option.some.inj (hk.symm.trans ho3)
        exact (PureOp.not_alloc (P := P) (σ := σ) (fun w => by rw [← ek]; exact h2 w) (fun w => by rw [← ek]; exact h3 w)).elim
      | call ht3 ho3 hg3 hm3 => obtain rfl := Option.some.inj (hk.symm.trans ho3); rw [hmk] at hm3; cases hm3
    | load ht2 ho2 hm2 => obtain rfl := Option.some.inj (hk.symm.trans ho2); rw [hmk] at hm2; cases hm2
    | loadF ho2 hm2 => obtain rfl := Option.some.inj (hk.symm.trans ho2); rw [hmk] at hm2; cases hm2
    | turn ht2 ho2 hb2 => obtain rfl := Option.some.inj (hk.symm.trans ho2); rw [hb2, hg] at htt; cases htt
    | off ho2 hw2 hd2 k2 =>
      obtain rfl := Option.some.inj (hk.symm.trans ho2)
      refine .off hk (wk ▸ hw2) hd2 (.alloc hi hg (wi.trans hw) hd (fun w => by rw [ei]; exact h w) (fun b => ?_))
      have hb := kk b
      cases hb with
      | no hn => exact .no hn
      | off ho3 hw3 hd3 k3 => obtain rfl := Option.some.inj (hk.symm.trans ho3); exact pc _ _ ▸ k3
      | pure ho3 hw3 => obtain rfl := Option.some.inj (hk.symm.trans ho3); rw [wk] at hw3 hw2; rw [hw2] at hw3; cases hw3
      | load ht3 ho3 hm3 hw3 => obtain rfl := Option.some.inj (hk.symm.trans ho3); rw [wk] at hw3 hw2; rw [hw2] at hw3; cases hw3
      | loadF ho3 hm3 => obtain rfl := Option.some.inj (hk.symm.trans ho3); rw [hmk] at hm3; cases hm3
      | turn ht3 ho3 hb3 => obtain rfl := Option.some.inj (hk.symm.trans ho3); rw [hb3, hg] at htt; cases htt
      | alloc ho3 hg3 hw3 => obtain rfl := Option.some.inj (hk.symm.trans ho3); rw [wk] at hw3 hw2; rw [hw2] at hw3; cases hw3
      | call ht3 ho3 hg3 hm3 hw3 => obtain rfl := Option.some.inj (hk.symm.trans ho3); rw [wk] at hw3 hw2; rw [hw2] at hw3; cases hw3
    | alloc ho2 hg2 hw2 hd2 h2 k2 =>
      obtain rfl := Option.some.inj (hk.symm.trans ho2)
      refine .alloc hk hg2 (wk ▸ hw2) hd2 (fun w => by rw [← ek]; exact h2 w) (fun b' => .alloc hi hg (wi.trans hw) hd (fun w => by rw [ei]; exact h w) (fun b => ?_))
      have hb := kk b
      cases hb with
      | no hn => exact .no (fun ⟨w, hw⟩ => hn ⟨w, (hw.perm (List.Perm.swap _ _ _)).drop⟩)
      | alloc ho3 hg3 hw3 hd3 h3 k3 =>
        obtain rfl := Option.some.inj (hk.symm.trans ho3)
        obtain ⟨e1, e2, e3⟩ := AllocOp.unique (P := P) (σ := σ) (fun w => by rw [← ek]; exact h2 w) (fun w => by rw [← ek]; exact h3 w)
        subst e1 e2 e3
        exact pc _ _ ▸ (k3 b').perm (List.Perm.swap _ _ _)
      | off ho3 hw3 => obtain rfl := Option.some.inj (hk.symm.trans ho3); rw [wk] at hw3 hw2; rw [hw2] at hw3; cases hw3
      | load ht3 ho3 hm3 => obtain rfl := Option.some.inj (hk.symm.trans ho3); rw [hmk] at hm3; cases hm3
      | loadF ho3 hm3 => obtain rfl := Option.some.inj (hk.symm.trans ho3); rw [hmk] at hm3; cases hm3
      | turn ht3 ho3 hb3 => obtain rfl := Option.some.inj (hk.symm.trans ho3); rw [hb3, hg] at htt; cases htt
      | pure ho3 hw3 hd3 h3 k3 =>
        obtain rfl := Option.some.inj (hk.symm.trans ho3)
        exact (PureOp.not_alloc (P := P) (σ := σ) (fun w => by rw [← ek]; exact h3 w) (fun w => by rw [← ek]; exact h2 w)).elim
      | call ht3 ho3 hg3 hm3 => obtain rfl := Option.some.inj (hk.symm.trans ho3); rw [hmk] at hm3; cases hm3
    | call ht2 ho2 hg2 hm2 => obtain rfl := Option.some.inj (hk.symm.trans ho2); rw [hmk] at hm2; cases hm2
  | call ht ho hg hm hw hd he hsp hpre kk =>
    obtain rfl := Option.some.inj (hi.symm.trans ho)
    rw [hg] at hal
    have hmk : movB ok.op = true := by simpa using hal
    obtain ⟨w, hs⟩ := hsat
    obtain ⟨x0, w0, hs0⟩ := Spec.some hsp hpre hs
    have hb0 := kk x0
    cases hb0 with
    | no hn => exact absurd ⟨_, hs0⟩ hn
    | pure ho2 hw2 hd2 h2 k2 =>
      obtain rfl := Option.some.inj (hk.symm.trans ho2)
      refine .pure hk (wk ▸ hw2) hd2 (fun w => by rw [← ek]; exact h2 w) (.call ht hi hg hm (wi.trans hw) hd (fun w => by rw [ei]; exact he w) hsp hpre (fun x => ?_))
      have hb := kk x
      cases hb with
      | no hn => exact .no hn
      | pure ho3 hw3 hd3 h3 k3 =>
        obtain rfl := Option.some.inj (hk.symm.trans ho3)
        have : _ = _ := PureOp.unique (P := P) (σ := σ) (fun w => by rw [← ek]; exact h2 w) (fun w => by rw [← ek]; exact h3 w)
        subst this
        exact pc _ _ ▸ k3
      | load ht3 ho3 hm3 => obtain rfl := Option.some.inj (hk.symm.trans ho3); rw [hmk] at hm3; cases hm3
      | loadF ho3 hm3 => obtain rfl := Option.some.inj (hk.symm.trans ho3); rw [hmk] at hm3; cases hm3
      | turn ht3 => rw [ht] at ht3; cases ht3
      | off ho3 hw3 => obtain rfl := Option.some.inj (hk.symm.trans ho3); rw [wk] at hw3 hw2; rw [hw2] at hw3; cases hw3
      | alloc ho3 hg3 hw3 hd3 h3 k3 =>
        obtain rfl := Option.some.inj (hk.symm.trans ho3)
        exact (PureOp.not_alloc (P := P) (σ := σ) (fun w => by rw [← ek]; exact h2 w) (fun w => by rw [← ek]; exact h3 w)).elim
      | call ht3 ho3 hg3 hm3 => obtain rfl := Option.some.inj (hk.symm.trans ho3); rw [hmk] at hm3; cases hm3
    | load ht2 ho2 hm2 => obtain rfl := Option.some.inj (hk.symm.trans ho2); rw [hmk] at hm2; cases hm2
    | loadF ho2 hm2 => obtain rfl := Option.some.inj (hk.symm.trans ho2); rw [hmk] at hm2; cases hm2
    | turn ht2 => rw [ht] at ht2; cases ht2
    | off ho2 hw2 hd2 k2 =>
      obtain rfl := Option.some.inj (hk.symm.trans ho2)
      refine .off hk (wk ▸ hw2) hd2 (.call ht hi hg hm (wi.trans hw) hd (fun w => by rw [ei]; exact he w) hsp hpre (fun x => ?_))
      have hb := kk x
      cases hb with
      | no hn => exact .no hn
      | off ho3 hw3 hd3 k3 => obtain rfl := Option.some.inj (hk.symm.trans ho3); exact pc _ _ ▸ k3
      | pure ho3 hw3 => obtain rfl := Option.some.inj (hk.symm.trans ho3); rw [wk] at hw3 hw2; rw [hw2] at hw3; cases hw3
      | load ht3 ho3 hm3 hw3 => obtain rfl := Option.some.inj (hk.symm.trans ho3); rw [wk] at hw3 hw2; rw [hw2] at hw3; cases hw3
      | loadF ho3 hm3 => obtain rfl := Option.some.inj (hk.symm.trans ho3); rw [hmk] at hm3; cases hm3
      | turn ht3 => rw [ht] at ht3; cases ht3
      | alloc ho3 hg3 hw3 => obtain rfl := Option.some.inj (hk.symm.trans ho3); rw [wk] at hw3 hw2; rw [hw2] at hw3; cases hw3
      | call ht3 ho3 hg3 hm3 hw3 => obtain rfl := Option.some.inj (hk.symm.trans ho3); rw [wk] at hw3 hw2; rw [hw2] at hw3; cases hw3
    | alloc ho2 hg2 hw2 hd2 h2 k2 =>
      obtain rfl := Option.some.inj (hk.symm.trans ho2)
      refine .alloc hk hg2 (wk ▸ hw2) hd2 (fun w => by rw [← ek]; exact h2 w) (fun b' => .call ht hi hg hm (wi.trans hw) hd (fun w => by rw [ei]; exact he w) hsp hpre (fun x => ?_))
      have hb := kk x
      cases hb with
      | no hn => exact .no (fun ⟨w, hw⟩ => hn ⟨w, (hw.perm List.perm_middle).drop⟩)
      | alloc ho3 hg3 hw3 hd3 h3 k3 =>
        obtain rfl := Option.some.inj (hk.symm.trans ho3)
        obtain ⟨e1, e2, e3⟩ := AllocOp.unique (P := P) (σ := σ) (fun w => by rw [← ek]; exact h2 w) (fun w => by rw [← ek]; exact h3 w)
        subst e1 e2 e3
        exact pc _ _ ▸ (k3 b').perm List.perm_middle.symm
      | off ho3 hw3 => obtain rfl := Option.some.inj (hk.symm.trans ho3); rw [wk] at hw3 hw2; rw [hw2] at hw3; cases hw3
      | load ht3 ho3 hm3 => obtain rfl := Option.some.inj (hk.symm.trans ho3); rw [hmk] at hm3; cases hm3
      | loadF ho3 hm3 => obtain rfl := Option.some.inj (hk.symm.trans ho3); rw [hmk] at hm3; cases hm3
      | turn ht3 => rw [ht] at ht3; cases ht3
      | pure ho3 hw3 hd3 h3 k3 =>
        obtain rfl := Option.some.inj (hk.symm.trans ho3)
        exact (PureOp.not_alloc (P := P) (σ := σ) (fun w => by rw [← ek]; exact h3 w) (fun w => by rw [← ek]; exact h2 w)).elim
      | call ht3 ho3 hg3 hm3 => obtain rfl := Option.some.inj (hk.symm.trans ho3); rw [hmk] at hm3; cases hm3
    | call ht2 ho2 hg2 hm2 => obtain rfl := Option.some.inj (hk.symm.trans ho2); rw [hmk] at hm2; cases hm2
  | loadF ho hm hw hd h kk =>
    obtain rfl := Option.some.inj (hi.symm.trans ho)
    have hp : ∀ {u : Value}, LoadOp P B (putS σ ok.dst u) Γ [] oi _ := fun {u} w hs => by rw [ei]; exact h w hs
    cases kk with
    | no h => exact absurd hsat h
    | pure ho2 hw2 hd2 h2 k2 =>
      obtain rfl := Option.some.inj (hk.symm.trans ho2)
      exact .pure hk (wk ▸ hw2) hd2 (fun w => by rw [← ek]; exact h2 w) (.loadF hi hm (wi.trans hw) hd hp (pc _ _ ▸ k2))
    | load ht2 ho2 hm2 hw2 hd2 h2 k2 =>
      obtain rfl := Option.some.inj (hk.symm.trans ho2)
      exact .load ht2 hk hm2 (wk ▸ hw2) hd2 (fun w hs => by rw [← ek]; exact h2 w hs) (.loadF hi hm (wi.trans hw) hd hp (pc _ _ ▸ k2))
    | off ho2 hw2 hd2 k2 =>
      obtain rfl := Option.some.inj (hk.symm.trans ho2)
      exact .off hk (wk ▸ hw2) hd2 (.loadF hi hm (wi.trans hw) hd hp (pc _ _ ▸ k2))
    | alloc ho2 hg2 hw2 hd2 h2 k2 =>
      obtain rfl := Option.some.inj (hk.symm.trans ho2)
      exact .alloc hk hg2 (wk ▸ hw2) hd2 (fun w => by rw [← ek]; exact h2 w) (fun b => .loadF hi hm (wi.trans hw) hd hp (pc _ _ ▸ k2 b))
    | call ht2 ho2 hg2 hm2 hw2 hd2 he2 hsp2 hpre2 k2 =>
      obtain rfl := Option.some.inj (hk.symm.trans ho2)
      exact .call ht2 hk hg2 hm2 (wk ▸ hw2) hd2 (fun w => by rw [← ek]; exact he2 w) hsp2 hpre2 (fun x => .loadF hi hm (wi.trans hw) hd (fun w hs => by rw [ei]; exact h w (hs.less (fun F hF => List.mem_append_right _ hF))) (pc _ _ ▸ k2 x))
    | loadF ho2 hm2 hw2 hd2 h2 k2 =>
      obtain rfl := Option.some.inj (hk.symm.trans ho2)
      exact .loadF hk hm2 (wk ▸ hw2) hd2 (fun w hs => by rw [← ek]; exact h2 w hs) (.loadF hi hm (wi.trans hw) hd hp (pc _ _ ▸ k2))
    | turn ht2 ho2 hb2 hw2 hd2 hp2 h2 k2 =>
      obtain rfl := Option.some.inj (hk.symm.trans ho2)
      exact .turn ht2 hk hb2 (wk ▸ hw2) hd2 hp2 (fun M w hs => by rw [← ek]; exact h2 M w hs) (fun x => .loadF hi hm (wi.trans hw) hd hp (pc _ _ ▸ k2 x))
  | turn ht ho hb hw hd hp h kk =>
    obtain rfl := Option.some.inj (hi.symm.trans ho)
    obtain ⟨w, hs⟩ := hsat
    obtain ⟨x0, w0, _, hs0⟩ := h _ w (hs.perm hp)
    have hsn : ∃ w, St B Γ [] w := ⟨w, St.dropAll (A := _) (Ms := []) (by rw [List.append_nil]; exact hs)⟩
    have hT : ∀ {u : Value} M w, St B Γ (_ ++ M) w → _ := fun {u} M w hs => by
      have := h M w hs
      rw [← ei (v := u)] at this
      exact this
    have hb0 := kk x0
    cases hb0 with
    | no hn => exact absurd ⟨_, hs0⟩ hn
    | pure ho2 hw2 hd2 h2 k2 =>
      obtain rfl := Option.some.inj (hk.symm.trans ho2)
      refine .pure hk (wk ▸ hw2) hd2 (fun w => by rw [← ek]; exact h2 w) (.turn ht hi hb (wi.trans hw) hd hp hT (fun x => ?_))
      have hb3 := kk x
      cases hb3 with
      | no hn => exact .no hn
      | pure ho3 hw3 hd3 h3 k3 =>
        obtain rfl := Option.some.inj (hk.symm.trans ho3)
        have : _ = _ := PureOp.unique (P := P) (σ := σ) (fun w => by rw [← ek]; exact h2 w) (fun w => by rw [← ek]; exact h3 w)
        subst this
        exact pc _ _ ▸ k3
      | loadF ho3 hm3 hw3 hd3 h3 k3 =>
        obtain rfl := Option.some.inj (hk.symm.trans ho3)
        obtain ⟨w1, hw1⟩ := hsn
        have h2' := h2 w1
        have h3' := h3 w1 hw1
        rw [ek] at h2' h3'
        have e := h2'.symm.trans h3'
        injection e with e1 e2
        injection e1 with e1
        subst e1
        exact pc _ _ ▸ k3
      | off ho3 hw3 => obtain rfl := Option.some.inj (hk.symm.trans ho3); rw [wk] at hw3 hw2; rw [hw2] at hw3; cases hw3
      | alloc ho3 hg3 hw3 hd3 h3 k3 =>
        obtain rfl := Option.some.inj (hk.symm.trans ho3)
        exact (PureOp.not_alloc (P := P) (σ := σ) (fun w => by rw [← ek]; exact h2 w) (fun w => by rw [← ek]; exact h3 w)).elim
      | load ht3 => rw [ht] at ht3; cases ht3
      | call ht3 => rw [ht] at ht3; cases ht3
      | turn ht3 ho3 hb3 => obtain rfl := Option.some.inj (hk.symm.trans ho3); rw [hb3, hb, Bool.or_true] at htt; cases htt
    | loadF ho2 hm2 hw2 hd2 h2 k2 =>
      obtain rfl := Option.some.inj (hk.symm.trans ho2)
      refine .loadF hk hm2 (wk ▸ hw2) hd2 (fun w hs => by rw [← ek]; exact h2 w hs) (.turn ht hi hb (wi.trans hw) hd hp hT (fun x => ?_))
      have hb3 := kk x
      cases hb3 with
      | no hn => exact .no hn
      | loadF ho3 hm3 hw3 hd3 h3 k3 =>
        obtain rfl := Option.some.inj (hk.symm.trans ho3)
        obtain ⟨w1, hw1⟩ := hsn
        have h2' := h2 w1 hw1
        have h3' := h3 w1 hw1
        rw [ek] at h2' h3'
        have e := h2'.symm.trans h3'
        injection e with e1 e2
        injection e1 with e1
        subst e1
        exact pc _ _ ▸ k3
      | pure ho3 hw3 hd3 h3 k3 =>
        obtain rfl := Option.some.inj (hk.symm.trans ho3)
        obtain ⟨w1, hw1⟩ := hsn
        have h2' := h2 w1 hw1
        have h3' := h3 w1
        rw [ek] at h2' h3'
        have e := h2'.symm.trans h3'
        injection e with e1 e2
        injection e1 with e1
        subst e1
        exact pc _ _ ▸ k3
      | off ho3 hw3 => obtain rfl := Option.some.inj (hk.symm.trans ho3); rw [wk] at hw3 hw2; rw [hw2] at hw3; cases hw3
      | alloc ho3 hg3 hw3 hd3 h3 k3 =>
        obtain rfl := Option.some.inj (hk.symm.trans ho3)
        obtain ⟨w1, hw1⟩ := hsn
        have h2' := h2 w1 hw1
        have h3' := h3 w1
        rw [ek] at h2' h3'
        have e := h2'.symm.trans h3'
        injection e with e1 e2
        have h9 := congrArg (fun w : World => w.heap.size) e2
        simp at h9
      | load ht3 => rw [ht] at ht3; cases ht3
      | call ht3 => rw [ht] at ht3; cases ht3
      | turn ht3 ho3 hb3 => obtain rfl := Option.some.inj (hk.symm.trans ho3); rw [hb3, hb, Bool.or_true] at htt; cases htt
    | off ho2 hw2 hd2 k2 =>
      obtain rfl := Option.some.inj (hk.symm.trans ho2)
      refine .off hk (wk ▸ hw2) hd2 (.turn ht hi hb (wi.trans hw) hd hp hT (fun x => ?_))
      have hb3 := kk x
      cases hb3 with
      | no hn => exact .no hn
      | off ho3 hw3 hd3 k3 => obtain rfl := Option.some.inj (hk.symm.trans ho3); exact pc _ _ ▸ k3
      | pure ho3 hw3 => obtain rfl := Option.some.inj (hk.symm.trans ho3); rw [wk] at hw3 hw2; rw [hw2] at hw3; cases hw3
      | loadF ho3 hm3 hw3 => obtain rfl := Option.some.inj (hk.symm.trans ho3); rw [wk] at hw3 hw2; rw [hw2] at hw3; cases hw3
      | alloc ho3 hg3 hw3 => obtain rfl := Option.some.inj (hk.symm.trans ho3); rw [wk] at hw3 hw2; rw [hw2] at hw3; cases hw3
      | load ht3 => rw [ht] at ht3; cases ht3
      | call ht3 => rw [ht] at ht3; cases ht3
      | turn ht3 ho3 hb3 => obtain rfl := Option.some.inj (hk.symm.trans ho3); rw [hb3, hb, Bool.or_true] at htt; cases htt
    | alloc ho2 hg2 hw2 hd2 h2 k2 =>
      obtain rfl := Option.some.inj (hk.symm.trans ho2)
      refine .alloc hk hg2 (wk ▸ hw2) hd2 (fun w => by rw [← ek]; exact h2 w) (fun b' => .turn ht hi hb (wi.trans hw) hd ((hp.cons _).trans List.perm_middle.symm) hT (fun x => ?_))
      have hb3 := kk x
      cases hb3 with
      | no hn => exact .no (fun ⟨w, hw⟩ => hn ⟨w, (hw.perm List.perm_middle).drop⟩)
      | alloc ho3 hg3 hw3 hd3 h3 k3 =>
        obtain rfl := Option.some.inj (hk.symm.trans ho3)
        obtain ⟨e1, e2, e3⟩ := AllocOp.unique (P := P) (σ := σ) (fun w => by rw [← ek]; exact h2 w) (fun w => by rw [← ek]; exact h3 w)
        subst e1 e2 e3
        exact pc _ _ ▸ (k3 b').perm List.perm_middle.symm
      | off ho3 hw3 => obtain rfl := Option.some.inj (hk.symm.trans ho3); rw [wk] at hw3 hw2; rw [hw2] at hw3; cases hw3
      | pure ho3 hw3 hd3 h3 k3 =>
        obtain rfl := Option.some.inj (hk.symm.trans ho3)
        exact (PureOp.not_alloc (P := P) (σ := σ) (fun w => by rw [← ek]; exact h3 w) (fun w => by rw [← ek]; exact h2 w)).elim
      | loadF ho3 hm3 hw3 hd3 h3 k3 =>
        obtain rfl := Option.some.inj (hk.symm.trans ho3)
        obtain ⟨w1, hw1⟩ := hsn
        have h2' := h2 w1
        have h3' := h3 w1 hw1
        rw [ek] at h2' h3'
        have e := h3'.symm.trans h2'
        injection e with e1 e2
        have h9 := congrArg (fun w : World => w.heap.size) e2
        simp at h9
      | load ht3 => rw [ht] at ht3; cases ht3
      | call ht3 => rw [ht] at ht3; cases ht3
      | turn ht3 ho3 hb3 => obtain rfl := Option.some.inj (hk.symm.trans ho3); rw [hb3, hb, Bool.or_true] at htt; cases htt
    | load ht3 => rw [ht] at ht3; cases ht3
    | call ht3 => rw [ht] at ht3; cases ht3
    | turn ht3 ho3 hb3 => obtain rfl := Option.some.inj (hk.symm.trans ho3); rw [hb3, hb, Bool.or_true] at htt; cases htt

/-- What may come next, brought to the front. -/
theorem NV.front {C : List Nat} : ∀ {A : List Nat} {σ : Nat → Value} {Γ : List Fact} {Ms : List Res}, (∀ i, i ∈ A → ∃ oi ok, ops[i]? = some oi ∧ ops[k]? = some ok ∧ Oper.apart ops oi ok = true ∧ (!growB oi.op || movB ok.op) = true ∧ (!(turnB ok.op && (growB oi.op || turnB oi.op))) = true ∧ notSelect oi.op = true ∧ notSelect ok.op = true) →
    NV tn P f R B n K ops fin (A ++ k :: C) σ Γ Ms → NV tn P f R B n K ops fin (k :: (A ++ C)) σ Γ Ms
  | [], σ, Γ, Ms, _, h => h
  | i :: A, σ, Γ, Ms, hA, h => by
    have ih : ∀ {σ' Γ' Ms'}, NV tn P f R B n K ops fin (A ++ k :: C) σ' Γ' Ms' → NV tn P f R B n K ops fin (k :: (A ++ C)) σ' Γ' Ms' := fun {_ _ _} hh => NV.front (A := A) (fun j hj => hA j (List.mem_cons_of_mem _ hj)) hh
    by_cases hsat : ∃ w, St B Γ Ms w
    · obtain ⟨oi, ok, h1, h2, h3, h4, h45, h5, h6⟩ := hA i List.mem_cons_self
      have h' : NV tn P f R B n K ops fin (i :: k :: (A ++ C)) σ Γ Ms := by
        cases h with
        | no h => exact .no h
        | pure ho hw hd h kk => exact .pure ho hw hd h (ih kk)
        | load ht ho hm hw hd h kk => exact .load ht ho hm hw hd h (ih kk)
        | loadF ho hm hw hd h kk => exact .loadF ho hm hw hd h (ih kk)
        | turn ht ho hb hw hd hp h kk => exact .turn ht ho hb hw hd hp h (fun x => ih (kk x))
        | off ho hw hd kk => exact .off ho hw hd (ih kk)
        | alloc ho hg hw hd h kk => exact .alloc ho hg hw hd h (fun b => ih (kk b))
        | call ht ho hg hm hw hd he hsp hpre kk => exact .call ht ho hg hm hw hd he hsp hpre (fun x => ih (kk x))
      exact NV.swap h1 h2 h3 h4 h45 h5 h6 hsat h'
    · exact .no hsat

/-! #### The order's conditions, as a Bool -/
def depsOf (o : Oper) : List Nat := (o.after.toList.filter (Region.binds .any)).map (·.on)
/-- A: for each operation, as bits, others that are known to come before it. -/
def ancOk (ops : Array Oper) (A : List Nat) : Bool := (List.range ops.size).all fun d => match ops[d]? with
  | none => true
  | some o => (List.range ops.size).all fun i => !(A.getD d 0).testBit i || (depsOf o).any fun e => e == i || (decide (e < d) && (A.getD e 0).testBit i)
def pairOk (ops : Array Oper) (A : List Nat) (i k : Nat) : Bool := (A.getD k 0).testBit i || match ops[i]?, ops[k]? with
  | some oi, some ok => Oper.apart ops oi ok && (!growB oi.op || movB ok.op) && (!(turnB ok.op && (growB oi.op || turnB oi.op))) && notSelect oi.op && notSelect ok.op
  | _, _ => false
def pairsOk (ops : Array Oper) (A : List Nat) : List Nat → Bool
  | [] => true
  | i :: l => l.all (pairOk ops A i) && pairsOk ops A l
/-- In 'l', all that an operation waits for comes ahead of it, or is in 'done'. -/
def topoOk (ops : Array Oper) : List Nat → List Nat → Bool
  | _, [] => true
  | done, i :: l => (match ops[i]? with
    | some o => (depsOf o).all fun e => done.contains e
    | none => false) && topoOk ops (i :: done) l
def finOk (A : List Nat) : List Nat → List Nat → Bool
  | _, [] => true
  | before, x :: l => before.all (fun y => (A.getD x 0).testBit y) && finOk A (x :: before) l
def nodupB : List Nat → Bool
  | [] => true
  | i :: l => !l.contains i && nodupB l
def orderOk (ops : Array Oper) (A : List Nat) (l fin : List Nat) : Bool :=
  ancOk ops A && pairsOk ops A l && topoOk ops [] (l ++ fin) && finOk A l fin && nodupB (l ++ fin) && (l ++ fin).length == ops.size && (l ++ fin).all (fun i => decide (i < ops.size)) && (List.range ops.size).all (fun j => (l ++ fin).contains j)

/-- Which operations are listed: those not in 'rest'; with what they wait for. -/
structure Listed (ops : Array Oper) (listed : Array Bool) (rest : List Nat) : Prop where
  size : listed.size = ops.size
  iff : ∀ j, j < ops.size → (listed.getD j true = false ↔ j ∈ rest)
  down : ∀ j o, ops[j]? = some o → listed.getD j true = true → ∀ e, e ∈ depsOf o → listed.getD e false = true

theorem ready_iff {listed : Array Bool} {k : Nat} : k ∈ Region.ready .any ops listed ↔ k < ops.size ∧ listed.getD k true = false ∧ ∃ o, ops[k]? = some o ∧ ∀ e, e ∈ depsOf o → listed.getD e false = true := by
  unfold Region.ready
  rw [List.mem_filter, List.mem_range]
  constructor
  · rintro ⟨h1, h2⟩
    rw [Bool.and_eq_true] at h2
    refine ⟨h1, by simpa using h2.1, ?_⟩
    cases ho : ops[k]? with
    | none => rw [ho] at h2; simp at h2
    | some o =>
      refine ⟨o, rfl, fun e he => ?_⟩
      rw [ho] at h2
      simp only [Option.map_some, Option.getD_some] at h2
      obtain ⟨ed, hed, rfl⟩ := List.mem_map.1 he
      obtain ⟨hm, hb⟩ := List.mem_filter.1 hed
      have := Array.all_eq_true_iff_forall_mem.1 h2.2 ed (Array.mem_toList_iff.1 hm)
      rw [hb] at this
      simpa using this
  · rintro ⟨h1, h2, o, ho, h3⟩
    refine ⟨h1, ?_⟩
    rw [Bool.and_eq_true]
    refine ⟨by simpa using h2, ?_⟩
    rw [ho]
    simp only [Option.map_some, Option.getD_some]
    rw [Array.all_eq_true_iff_forall_mem]
    intro ed hed
    cases hb : Region.binds .any ed with
    | false => simp
    | true => simpa using h3 ed.on (List.mem_map.2 ⟨ed, List.mem_filter.2 ⟨Array.mem_toList_iff.2 hed, hb⟩, rfl⟩)

theorem anc_listed {A : List Nat} {listed : Array Bool} {rest : List Nat} (hA : ancOk ops A = true) (hL : Listed ops listed rest) : ∀ (m d : Nat), d ≤ m → d < ops.size → (∀ o, ops[d]? = some o → ∀ e, e ∈ depsOf o → listed.getD e false = true) → ∀ i, i < ops.size → (A.getD d 0).testBit i = true → listed.getD i false = true := by
  intro m
  induction m with
  | zero =>
    intro d hd hlt hdep i hi hb
    obtain rfl : d = 0 := by omega
    have h1 := List.all_eq_true.1 hA 0 (List.mem_range.2 hlt)
    have ho : ops[0]? = some ops[0] := by simp [hlt]
    rw [ho] at h1
    have h2 := List.all_eq_true.1 h1 i (List.mem_range.2 hi)
    rw [hb] at h2
    simp only [Bool.not_true, Bool.false_or] at h2
    obtain ⟨e, he, h3⟩ := List.any_eq_true.1 h2
    simp only [Bool.or_eq_true, beq_iff_eq, Bool.and_eq_true, decide_eq_true_eq] at h3
    rcases h3 with rfl | ⟨h3, _⟩
    · exact hdep _ ho _ he
    · exact absurd h3 (Nat.not_lt_zero _)
  | succ m ih =>
    intro d hd hlt hdep i hi hb
    have h1 := List.all_eq_true.1 hA d (List.mem_range.2 hlt)
    have ho : ops[d]? = some ops[d] := by simp [hlt]
    rw [ho] at h1
    have h2 := List.all_eq_true.1 h1 i (List.mem_range.2 hi)
    rw [hb] at h2
    simp only [Bool.not_true, Bool.false_or] at h2
    obtain ⟨e, he, h3⟩ := List.any_eq_true.1 h2
    simp only [Bool.or_eq_true, beq_iff_eq, Bool.and_eq_true, decide_eq_true_eq] at h3
    rcases h3 with rfl | ⟨h3, h4⟩
    · exact hdep _ ho _ he
    · have hel : listed.getD e false = true := hdep _ ho _ he
      have hlt' : e < ops.size := by omega
      refine ih e (by omega) hlt' ?_ i hi h4
      intro o' ho'
      refine hL.down e o' ho' ?_
      have : e < listed.size := by rw [hL.size]; exact hlt'
      simpa [Array.getD_eq_getD_getElem?, this] using hel

theorem Listed.step {listed : Array Bool} {rest rest' : List Nat} {k : Nat} (hL : Listed ops listed rest) (hk : k ∈ Region.ready .any ops listed) (hr : ∀ j, j ∈ rest' ↔ j ∈ rest ∧ j ≠ k) : Listed ops (listed.setIfInBounds k true) rest' := by
  obtain ⟨h1, h2, o, ho, h3⟩ := ready_iff.1 hk
  have hup : ∀ e, listed.getD e false = true → (listed.setIfInBounds k true).getD e false = true := by
    intro e he
    by_cases hek : e = k
    · subst hek; simp [Array.getD_eq_getD_getElem?, hL.size, h1]
    · simp only [Array.getD_eq_getD_getElem?, Array.getElem?_setIfInBounds_ne (Ne.symm hek)]; simpa [Array.getD_eq_getD_getElem?] using he
  refine ⟨by simp [hL.size], ?_, ?_⟩
  · intro j hj
    rw [hr]
    by_cases hjk : j = k
    · subst hjk; simp [Array.getD_eq_getD_getElem?, hL.size, hj]
    · rw [← hL.iff j hj]
      simp [Array.getD_eq_getD_getElem?, Array.getElem?_setIfInBounds_ne (Ne.symm hjk), hjk]
  · intro j oj hoj hjl e he
    by_cases hjk : j = k
    · subst hjk
      rw [ho] at hoj
      injection hoj with hoj
      subst hoj
      exact hup e (h3 e he)
    · refine hup e (hL.down j oj hoj ?_ e he)
      simpa [Array.getD_eq_getD_getElem?, Array.getElem?_setIfInBounds_ne (Ne.symm hjk)] using hjl

theorem Listed.not_yet {listed : Array Bool} {rest : List Nat} (hL : Listed ops listed rest) {j : Nat} (hj : j < ops.size) (hm : j ∈ rest) : listed.getD j false = true → False := by
  intro h
  have h1 := (hL.iff j hj).2 hm
  have : j < listed.size := by rw [hL.size]; exact hj
  simp only [Array.getD_eq_getD_getElem?, Array.getElem?_eq_getElem this, Option.getD_some] at h h1
  rw [h] at h1
  cases h1

/-- Those that come one behind the other. -/
theorem wpAny_fin {Q : Exit → Act → World → Prop} {A : List Nat} (hA : ancOk ops A = true) : ∀ (fin before : List Nat) (listed : Array Bool) (fuel : Nat) (a : Act) (w : World), Listed ops listed fin → finOk A before fin = true → nodupB fin = true → (∀ j, j ∈ fin → j < ops.size) →
    (∃ done, topoOk ops done fin = true ∧ ∀ e, e ∈ done → listed.getD e false = true) → fin.length ≤ fuel → wpOps P ops Q fin a w → wpAny P .any ops Q fuel listed a w := by
  intro fin
  induction fin with
  | nil =>
    intro before listed fuel a w hL _ _ _ _ _ h
    have hnil : Region.ready .any ops listed = [] := by
      cases hr : Region.ready .any ops listed with
      | nil => rfl
      | cons x xs =>
        obtain ⟨h1, h2, _⟩ := ready_iff.1 (hr ▸ List.mem_cons_self : x ∈ Region.ready .any ops listed)
        have := (hL.iff x h1).1 h2
        cases this
    cases fuel with
    | zero => exact ⟨hnil, h⟩
    | succ fuel => exact ⟨fun _ => h, fun i hi => by rw [hnil] at hi; cases hi⟩
  | cons x fin ih =>
    intro before listed fuel a w hL hf hnd hlt htop hfu h
    obtain ⟨done, htop, hdone⟩ := htop
    have hx : x < ops.size := hlt x List.mem_cons_self
    simp only [topoOk, Bool.and_eq_true] at htop
    have hox : ops[x]? = some ops[x] := by simp [hx]
    rw [hox] at htop
    have hrx : x ∈ Region.ready .any ops listed := ready_iff.2 ⟨hx, (hL.iff x hx).2 List.mem_cons_self, _, hox, fun e he => hdone e (by simpa using List.all_eq_true.1 htop.1 e he)⟩
    simp only [finOk, Bool.and_eq_true] at hf
    simp only [nodupB, Bool.and_eq_true, Bool.not_eq_true'] at hnd
    cases fuel with
    | zero => simp at hfu
    | succ fuel =>
      refine ⟨fun hn => (by rw [hn] at hrx; cases hrx), fun k hk => ?_⟩
      obtain ⟨hk1, hk2, o, ho, hk3⟩ := ready_iff.1 hk
      have hkm := (hL.iff k hk1).1 hk2
      obtain rfl : k = x := by
        cases hkm with
        | head => rfl
        | tail _ hkm =>
          exfalso
          have hanc : (A.getD k 0).testBit x = true := by
            have : ∀ (l b : List Nat), finOk A b l = true → k ∈ l → ∀ y, y ∈ b → (A.getD k 0).testBit y = true := by
              intro l
              induction l with
              | nil => intro b _ hm; cases hm
              | cons z l ihl =>
                intro b hb hm y hy
                simp only [finOk, Bool.and_eq_true] at hb
                cases hm with
                | head => exact List.all_eq_true.1 hb.1 y hy
                | tail _ hm => exact ihl (z :: b) hb.2 hm y (List.mem_cons_of_mem _ hy)
            exact this fin (x :: before) hf.2 hkm x List.mem_cons_self
          exact hL.not_yet hx List.mem_cons_self (anc_listed hA hL k k (Nat.le_refl _) hk1 (fun o' ho' e he => by rw [ho] at ho'; injection ho' with ho'; subst ho'; exact hk3 e he) x hx hanc)
      rw [wpOps_cons] at h
      have hxn : k ∉ fin := by simpa using hnd.1
      refine wpOp_mono ?_ h
      intro a' w' h'
      refine ih (k :: before) _ fuel a' w' (hL.step hk (fun j => ?_)) hf.2 hnd.2 (fun j hj => hlt j (List.mem_cons_of_mem _ hj)) ⟨k :: done, htop.2, ?_⟩ (by simp at hfu; omega) h'
      · constructor
        · intro hj; exact ⟨List.mem_cons_of_mem _ hj, fun e => hxn (e ▸ hj)⟩
        · rintro ⟨hj, hne⟩
          cases hj with
          | head => exact absurd rfl hne
          | tail _ hj => exact hj
      · intro e he
        cases he with
        | head => simp [Array.getD_eq_getD_getElem?, hL.size, hx]
        | tail _ he =>
          have := hdone e he
          by_cases hek : e = k
          · subst hek; simp [Array.getD_eq_getD_getElem?, hL.size, hx]
          · simpa [Array.getD_eq_getD_getElem?, Array.getElem?_setIfInBounds_ne (Ne.symm hek)] using this

theorem pairsOk_at {A : List Nat} : ∀ {L C : List Nat}, pairsOk ops A (L ++ k :: C) = true → ∀ i, i ∈ L → pairOk ops A i k = true
  | [], _, _, i, hi => by cases hi
  | j :: L, C, h, i, hi => by
    simp only [List.cons_append, pairsOk, Bool.and_eq_true] at h
    cases hi with
    | head => exact List.all_eq_true.1 h.1 k (List.mem_append_right _ List.mem_cons_self)
    | tail _ hi => exact pairsOk_at h.2 i hi
theorem pairsOk_del {A : List Nat} : ∀ {L C : List Nat}, pairsOk ops A (L ++ k :: C) = true → pairsOk ops A (L ++ C) = true
  | [], _, h => by simp only [List.nil_append, pairsOk, Bool.and_eq_true] at h; exact h.2
  | j :: L, C, h => by
    simp only [List.cons_append, pairsOk, Bool.and_eq_true] at h ⊢
    refine ⟨List.all_eq_true.2 fun x hx => List.all_eq_true.1 h.1 x ?_, pairsOk_del h.2⟩
    rcases List.mem_append.1 hx with hx | hx
    · exact List.mem_append_left _ hx
    · exact List.mem_append_right _ (List.mem_cons_of_mem _ hx)
theorem topoOk_more : ∀ {l done done' : List Nat}, topoOk ops done l = true → (∀ e, e ∈ done → e ∈ done') → topoOk ops done' l = true
  | [], _, _, _, _ => rfl
  | i :: l, done, done', h, hs => by
    simp only [topoOk, Bool.and_eq_true] at h ⊢
    refine ⟨?_, topoOk_more h.2 (fun e he => ?_)⟩
    · cases ho : ops[i]? with
      | none => rw [ho] at h; simp at h
      | some o =>
        rw [ho] at h
        simp only at h ⊢
        refine List.all_eq_true.2 fun e he => ?_
        have := List.all_eq_true.1 h.1 e he
        simp only [List.contains_iff_mem] at this ⊢
        exact hs e this
    · cases he with
      | head => exact List.mem_cons_self
      | tail _ he => exact List.mem_cons_of_mem _ (hs e he)
theorem topoOk_del : ∀ {L C done : List Nat}, topoOk ops done (L ++ k :: C) = true → topoOk ops (k :: done) (L ++ C) = true
  | [], C, done, h => by
    simp only [List.nil_append, topoOk, Bool.and_eq_true] at h
    exact h.2
  | j :: L, C, done, h => by
    simp only [List.cons_append, topoOk, Bool.and_eq_true] at h ⊢
    refine ⟨?_, topoOk_more (topoOk_del h.2) (fun e he => ?_)⟩
    · cases ho : ops[j]? with
      | none => rw [ho] at h; simp at h
      | some o =>
        rw [ho] at h
        simp only at h ⊢
        refine List.all_eq_true.2 fun e he => ?_
        have := List.all_eq_true.1 h.1 e he
        simp only [List.contains_iff_mem] at this ⊢
        exact List.mem_cons_of_mem _ this
    · cases he with
      | head => exact List.mem_cons_of_mem _ List.mem_cons_self
      | tail _ he => cases he with
        | head => exact List.mem_cons_self
        | tail _ he => exact List.mem_cons_of_mem _ (List.mem_cons_of_mem _ he)

theorem finOk_before {A : List Nat} : ∀ {fin b : List Nat}, finOk A b fin = true → ∀ x, x ∈ fin → ∀ y, y ∈ b → (A.getD x 0).testBit y = true
  | [], _, _, x, hx, _, _ => by cases hx
  | z :: fin, b, h, x, hx, y, hy => by
    simp only [finOk, Bool.and_eq_true] at h
    cases hx with
    | head => exact List.all_eq_true.1 h.1 y hy
    | tail _ hx => exact finOk_before h.2 x hx y (List.mem_cons_of_mem _ hy)
theorem finOk_less {A : List Nat} : ∀ {fin b b' : List Nat}, finOk A b fin = true → (∀ y, y ∈ b' → y ∈ b) → finOk A b' fin = true
  | [], _, _, _, _ => rfl
  | z :: fin, b, b', h, hs => by
    simp only [finOk, Bool.and_eq_true] at h ⊢
    refine ⟨List.all_eq_true.2 fun y hy => List.all_eq_true.1 h.1 y (hs y hy), finOk_less h.2 fun y hy => ?_⟩
    cases hy with
    | head => exact List.mem_cons_self
    | tail _ hy => exact List.mem_cons_of_mem _ (hs y hy)
theorem nodupB_iff : ∀ {l : List Nat}, nodupB l = true ↔ l.Nodup
  | [] => by simp [nodupB]
  | i :: l => by simp only [nodupB, Bool.and_eq_true, nodupB_iff (l := l), List.nodup_cons]; simp

theorem nv_any {A : List Nat} (hA : ancOk ops A = true) : ∀ (m : Nat) (l : List Nat) (listed : Array Bool) (fuel : Nat) (a : Act) (w : World) (σ : Nat → Value) (Γ : List Fact) (Ms : List Res), l.length ≤ m → NV tn P f R B n K ops fin l σ Γ Ms → Rel n a σ → St B Γ Ms w →
    Listed ops listed (l ++ fin) → pairsOk ops A l = true → finOk A l fin = true → (l ++ fin).Nodup → (∀ j, j ∈ l ++ fin → j < ops.size) → (∃ done, topoOk ops done (l ++ fin) = true ∧ ∀ e, e ∈ done → listed.getD e false = true) → (l ++ fin).length ≤ fuel →
    wpAny P .any ops (QK P f R K) fuel listed a w := by
  intro m
  induction m with
  | zero =>
    intro l listed fuel a w σ Γ Ms hm h hr hs hL hp hf hnd hlt htop hfu
    have hl : l = [] := List.eq_nil_of_length_eq_zero (Nat.le_zero.1 hm)
    subst hl
    cases h with
    | no h => exact absurd ⟨w, hs⟩ h
    | done h => exact wpAny_fin hA fin [] listed fuel a w hL hf (nodupB_iff.2 hnd) hlt htop hfu (h a w hr hs)
  | succ m ih =>
    intro l listed fuel a w σ Γ Ms hm h hr hs hL hp hf hnd hlt htop hfu
    cases l with
    | nil =>
      cases h with
      | no h => exact absurd ⟨w, hs⟩ h
      | done h => exact wpAny_fin hA fin [] listed fuel a w hL hf (nodupB_iff.2 hnd) hlt htop hfu (h a w hr hs)
    | cons y l' =>
      obtain ⟨done, htop, hdone⟩ := htop
      have hy : y < ops.size := hlt y (by simp)
      have htop1 := htop
      simp only [List.cons_append, topoOk, Bool.and_eq_true] at htop1
      have hoy : ops[y]? = some ops[y] := by simp [hy]
      rw [hoy] at htop1
      have hry : y ∈ Region.ready .any ops listed := ready_iff.2 ⟨hy, (hL.iff y hy).2 (by simp), _, hoy, fun e he => hdone e (by simpa using List.all_eq_true.1 htop1.1 e he)⟩
      cases fuel with
      | zero => simp at hfu
      | succ fuel =>
        refine ⟨fun hn => (by rw [hn] at hry; cases hry), fun k hk => ?_⟩
        obtain ⟨hk1, hk2, o, ho, hk3⟩ := ready_iff.1 hk
        have hkm := (hL.iff k hk1).1 hk2
        have hkdep : ∀ o', ops[k]? = some o' → ∀ e, e ∈ depsOf o' → listed.getD e false = true := fun o' ho' e he => by rw [ho] at ho'; injection ho' with ho'; subst ho'; exact hk3 e he
        have hkl : k ∈ y :: l' := by
          rcases List.mem_append.1 hkm with hkm | hkm
          · exact hkm
          · exact (hL.not_yet hy (by simp) (anc_listed hA hL k k (Nat.le_refl _) hk1 hkdep y hy (finOk_before hf k hkm y List.mem_cons_self))).elim
        obtain ⟨L, C, hLC⟩ := List.append_of_mem hkl
        rw [hLC] at h hp hf hnd hlt htop hm hL hfu
        have hpair : ∀ i, i ∈ L → ∃ oi ok, ops[i]? = some oi ∧ ops[k]? = some ok ∧ Oper.apart ops oi ok = true ∧ (!growB oi.op || movB ok.op) = true ∧ (!(turnB ok.op && (growB oi.op || turnB oi.op))) = true ∧ notSelect oi.op = true ∧ notSelect ok.op = true := by
          intro i hi
          have hil : i < ops.size := hlt i (by simp [hi])
          have h1 := pairsOk_at hp i hi
          unfold pairOk at h1
          rw [Bool.or_eq_true] at h1
          rcases h1 with h1 | h1
          · exact (hL.not_yet hil (by simp [hi]) (anc_listed hA hL k k (Nat.le_refl _) hk1 hkdep i hil h1)).elim
          · have hoi : ops[i]? = some ops[i] := by simp [hil]
            rw [hoi, ho] at h1
            simp only [Bool.and_eq_true] at h1
            exact ⟨_, _, hoi, ho, h1.1.1.1.1, h1.1.1.1.2, h1.1.1.2, h1.1.2, h1.2⟩
        have h' := NV.front hpair h
        have hknd : k ∉ L ++ C ++ fin := by
          have : (L ++ k :: (C ++ fin)).Nodup := by simpa using hnd
          have := (List.perm_middle.nodup_iff.1 this)
          simpa using (List.nodup_cons.1 this).1
        have hL' : Listed ops (listed.setIfInBounds k true) (L ++ C ++ fin) := hL.step hk (fun j => by
          constructor
          · intro hj
            refine ⟨?_, fun e => hknd (e ▸ hj)⟩
            simp only [List.mem_append, List.mem_cons] at hj ⊢
            rcases hj with (hj | hj) | hj
            · exact .inl (.inl hj)
            · exact .inl (.inr (.inr hj))
            · exact .inr hj
          · rintro ⟨hj, hne⟩
            simp only [List.mem_append, List.mem_cons] at hj ⊢
            rcases hj with (hj | hj | hj) | hj
            · exact .inl (.inl hj)
            · exact absurd hj hne
            · exact .inl (.inr hj)
            · exact .inr hj)
        have next : ∀ (a' : Act) (w' : World) (σ' : Nat → Value) (Γ' : List Fact) (Ms' : List Res), NV tn P f R B n K ops fin (L ++ C) σ' Γ' Ms' → Rel n a' σ' → St B Γ' Ms' w' → wpAny P .any ops (QK P f R K) fuel (listed.setIfInBounds k true) a' w' := by
          intro a' w' σ' Γ' Ms' hN hr' hs'
          refine ih (L ++ C) _ fuel a' w' σ' Γ' Ms' ?_ hN hr' hs' hL' (pairsOk_del hp) (finOk_less hf (fun z hz => ?_)) ?_ (fun j hj => hlt j ?_) ⟨k :: done, ?_, ?_⟩ ?_
          · simp at hm ⊢; omega
          · rcases List.mem_append.1 hz with hz | hz
            · exact List.mem_append_left _ hz
            · exact List.mem_append_right _ (List.mem_cons_of_mem _ hz)
          · have : (L ++ k :: (C ++ fin)).Nodup := by simpa using hnd
            have := (List.nodup_cons.1 (List.perm_middle.nodup_iff.1 this)).2
            simpa using this
          · simp only [List.mem_append, List.mem_cons] at hj ⊢
            rcases hj with (hj | hj) | hj
            · exact .inl (.inl hj)
            · exact .inl (.inr (.inr hj))
            · exact .inr hj
          · have : topoOk ops done (L ++ k :: (C ++ fin)) = true := by simpa using htop
            have := topoOk_del this
            simpa using this
          · intro e he
            cases he with
            | head => simp [Array.getD_eq_getD_getElem?, hL.size, hk1]
            | tail _ he =>
              have := hdone e he
              by_cases hek : e = k
              · subst hek; simp [Array.getD_eq_getD_getElem?, hL.size, hk1]
              · simpa [Array.getD_eq_getD_getElem?, Array.getElem?_setIfInBounds_ne (Ne.symm hek)] using this
          · simp at hfu ⊢; omega
        unfold wpOp
        cases h' with
        | no h => exact absurd ⟨w, hs⟩ h
        | pure ho2 hw hd h kk =>
          simp only [ho2, hr.want, hw, if_true]
          refine .inl ?_
          unfold Oper.wp
          rw [hr.eval, h w]
          exact next _ _ _ _ _ kk (hr.put hd _) hs
        | loadF ho2 hm hw hd h kk =>
          simp only [ho2, hr.want, hw, if_true]
          refine .inl ?_
          unfold Oper.wp
          rw [hr.eval, h w (St.dropAll (A := Ms) (Ms := []) (by rw [List.append_nil]; exact hs))]
          exact next _ _ _ _ _ kk (hr.put hd _) hs
        | turn ht ho2 hb hw hd hp h kk =>
          simp only [ho2, hr.want, hw, if_true]
          refine .inl ?_
          unfold Oper.wp
          obtain ⟨x, w', hrun, hs'⟩ := h _ w (hs.perm hp)
          rw [hr.eval, hrun]
          exact next _ _ _ _ _ (kk x) (hr.put hd _) hs'
        | load ht ho2 hm hw hd h kk =>
          simp only [ho2, hr.want, hw, if_true]
          refine .inl ?_
          unfold Oper.wp
          rw [hr.eval, h w hs]
          exact next _ _ _ _ _ kk (hr.put hd _) hs
        | off ho2 hw hd kk =>
          simp only [ho2, hr.want, hw, Bool.false_eq_true, if_false]
          exact next _ _ _ _ _ kk (hr.put hd _) hs
        | alloc ho2 hg hw hd h kk =>
          simp only [ho2, hr.want, hw, if_true]
          refine .inl ?_
          unfold Oper.wp
          rw [hr.eval, h w]
          exact next _ _ _ _ _ (kk _) (hr.put hd _) (hs.alloc _ _)
        | call ht ho2 hg hm hw hd he hsp hpre kk =>
          simp only [ho2, hr.want, hw, if_true]
          refine .inl ?_
          unfold Oper.wp
          rw [hr.eval, he]
          have hs' : St B Γ ([] ++ Ms) w := hs
          refine (hsp (okOf B ([] ++ Ms) w) w (fun b hb => ⟨hb.2.1, domAll_nil b⟩) (hs'.hand hpre)).mono ?_
          rintro e w' ⟨x, rfl, hx⟩
          exact next _ _ _ _ _ (kk x) (hr.put hd _) (hs'.frame hx)

/-- A region that draws its order: in one order, of which orderOk says that it may stand for every one. -/
theorem go_draw {id : Nat} {A : List Nat} (hm : P.follows .mixedOrders = true) (hfn : ∃ fn, P.funcs[f]? = some fn) (hok : orderOk ops A l fin = true) (h : NV tn P f R B n K ops fin l σ Γ Ms) : GoT P f R B n (.code (.region id ops true) :: K) σ Γ Ms := by
  intro a w hr hs
  simp only [orderOk, Bool.and_eq_true, beq_iff_eq] at hok
  obtain ⟨⟨⟨⟨⟨⟨⟨h1, h2⟩, h3⟩, h4⟩, h5⟩, h6⟩, h7⟩, h8⟩ := hok
  have hlt : ∀ j, j ∈ l ++ fin → j < ops.size := fun j hj => by simpa using List.all_eq_true.1 h7 j hj
  have hnd := nodupB_iff.1 h5
  have hall : ∀ j, j < ops.size → j ∈ l ++ fin := by
    intro j hj
    simpa using List.all_eq_true.1 h8 j (List.mem_range.2 hj)
  have hany : wpAny P .any ops (QK P f R K) ops.size (Array.replicate ops.size false) a { w with drawn := w.drawn + 1 } := by
    refine nv_any h1 l.length l _ _ a _ σ Γ Ms (Nat.le_refl _) h hr (hs.draw _) ⟨by simp, ?_, ?_⟩ h2 h4 hnd hlt ⟨[], h3, fun e he => by cases he⟩ (by rw [h6]; exact Nat.le_refl _)
    · intro j hj
      simp [Array.getD_eq_getD_getElem?, hj]
      simpa using hall j hj
    · intro j o ho hj
      have := (Array.getElem?_eq_some_iff.1 ho).1
      simp [Array.getD_eq_getD_getElem?, this] at hj
  intro b cs hb hk
  have hops : wpOps P ops (QK P f R K) (Region.schedule (P.follows .mixedOrders) ops (w.tape w.drawn (.order b.fn id))) a { w with drawn := w.drawn + 1 } := by
    simp only [Region.schedule, hm, Bool.true_or, if_true]
    exact wpAny_sound ops.size _ _ a _ hany
  obtain ⟨e, w', fr, hR, hc, hf, hl⟩ := wpOps_GoM hfn hops b cs hb hk
  exact ⟨e, w', fr, hR, hc.of_steps (.one step_region_draw), hf, hl⟩
end
end Go.Hy
