/- Contracts of this program's functions and the laws that they need. -/
import Derived.Test.YtibignmpjeemeaaGreatDoorProg
import Derived.KernelRfl
import Derived.Shelf.SlSortCmp.WholeK
import Derived.Shelf.SlGeneric
import Derived.Ground.SlsfProg
import Derived.Test.YtibignmpjeemeaaGreatDoorP3
set_option linter.unusedVariables false
set_option linter.unusedSimpArgs false
set_option linter.unusedSectionVars false
namespace Go.Hy
theorem A7k {a0 a1 a2 a3 a4 a5 a6 a7 a8 a9 a10 a11 m : Bm} {L : List Bm} : (a0 :: a1 :: a2 :: a3 :: a4 :: a5 :: a6 :: a7 :: a8 :: a9 :: a10 :: a11 :: m :: L).Perm (m :: a0 :: a1 :: a2 :: a3 :: a4 :: a5 :: a6 :: a7 :: a8 :: a9 :: a10 :: a11 :: L) := (B5h.cons a0).trans Aj
theorem Kx {a0 a1 a2 a3 a4 a5 a6 a7 a8 a9 a10 a11 a12 m : Bm} {L : List Bm} : (a0 :: a1 :: a2 :: a3 :: a4 :: a5 :: a6 :: a7 :: a8 :: a9 :: a10 :: a11 :: a12 :: m :: L).Perm (m :: a0 :: a1 :: a2 :: a3 :: a4 :: a5 :: a6 :: a7 :: a8 :: a9 :: a10 :: a11 :: a12 :: L) := (A7k.cons a0).trans Aj
theorem Kw {a0 a1 a2 a3 a4 a5 a6 a7 a8 a9 a10 a11 a12 a13 m : Bm} {L : List Bm} : (a0 :: a1 :: a2 :: a3 :: a4 :: a5 :: a6 :: a7 :: a8 :: a9 :: a10 :: a11 :: a12 :: a13 :: m :: L).Perm (m :: a0 :: a1 :: a2 :: a3 :: a4 :: a5 :: a6 :: a7 :: a8 :: a9 :: a10 :: a11 :: a12 :: a13 :: L) := (Kx.cons a0).trans Aj
theorem Kv {a0 a1 a2 a3 a4 a5 a6 a7 a8 a9 a10 a11 a12 a13 a14 m : Bm} {L : List Bm} : (a0 :: a1 :: a2 :: a3 :: a4 :: a5 :: a6 :: a7 :: a8 :: a9 :: a10 :: a11 :: a12 :: a13 :: a14 :: m :: L).Perm (m :: a0 :: a1 :: a2 :: a3 :: a4 :: a5 :: a6 :: a7 :: a8 :: a9 :: a10 :: a11 :: a12 :: a13 :: a14 :: L) := (Kw.cons a0).trans Aj
def Vz (T : TypeId) (e : Int) : List PanicEntry := [{ v := .iface T (.int .i64 e), recovered := false }]
def P2 (P : Program) (T : TypeId) (k : FuncId) (args : Array Value) (pre : List Fact) {α : Type} (r : Ax α) {X : α → Type} (val : ∀ a : α, X a → Value) (N : ∀ a : α, X a → List Fact) (Ms1 : ∀ a : α, X a → List Bm) : Prop :=
 (∀ a, r = .ok a → Spec P k args pre [] (val a) (N a) (Ms1 a)) ∧ (∀ e, r = .bad e → Ro P k args pre (Vz T e))
def C0s (B : Cs) (T : TypeId) {α : Type} (r : Ax α) {X : α → Type} (val : ∀ a : α, X a → Value) (N : ∀ a : α, X a → List Fact) (Ms1 : ∀ a : α, X a → List Bm) (e : Ending) (w' : World) : Prop :=
 (∀ a, r = .ok a → Ends B (val a) (N a) (Ms1 a) e w') ∧ (∀ x, r = .bad x → e = .panicked (Vz T x) ∧ St B [] [] w')
section
variable {P : Program} {f : FuncId} {B : Cs} {n : Fz} {K : List Item} {σ : Nat → Value} {Γ : List Fact} {Ms : List Bm} {todo : List Item} {T : TypeId} {α : Type} {X : α → Type} {r : Ax α} {val : ∀ a : α, X a → Value} {N : ∀ a : α, X a → List Fact} {Ms1 : ∀ a : α, X a → List Bm}
theorem Fa.E3w {R R' : Ending → World → Prop} (hm : ∀ e w, R e w → R' e w) (h : Fa P f R B n todo σ Γ Ms) : Fa P f R' B n todo σ Γ Ms := fun a w hr hs b cs hb hk => by
 obtain ⟨e, w', fr, hR, hc, hf, hl⟩ := h a w hr hs b cs hb hk
 exact ⟨e, w', fr, hm _ _ hR, hc, hf, hl⟩
theorem go_ok {a : α} (hr : r = .ok a) (h : Fa P f (Ends B (val a) (N a) (Ms1 a)) B n todo σ Γ Ms) : Fa P f (C0s B T r val N Ms1) B n todo σ Γ Ms :=
 Fa.E3w (fun e w he => ⟨fun b hb => by rw [hr] at hb; injection hb with hb; subst hb; exact he, fun x hx => by rw [hr] at hx; cases hx⟩) h
theorem Tu {β : Type} (q : Ax β) {R : Ending → World → Prop} (h1 : ∀ a, q = .ok a → Fa P f R B n todo σ Γ Ms) (h2 : ∀ e, q = .bad e → Fa P f R B n todo σ Γ Ms) : Fa P f R B n todo σ Γ Ms := by
 cases hq : q with
 | ok a => exact h1 a hq
 | bad e => exact h2 e hq
theorem A8g {K : List Item} {it : Item} {R : Ending → World → Prop} {Ms' : List Bm} (p : Prop) (live : List (Nat × Value)) (h1 : (p → ∀ σ', P3 σ' live → Fa P f R B n K σ' Γ Ms') → Fa P f R B n (it :: K) σ Γ Ms) (h2 : p → ∀ base, Fa P f R B n K (stL base live) Γ Ms') : Fa P f R B n (it :: K) σ Γ Ms :=
 h1 (fun hp σ' hl => go_slots live hl (h2 hp))
theorem Jp {e : Int} (hr : r = .bad e) : ∀ w, St B [] [] w → C0s B T r val N Ms1 (.panicked (Vz T e)) w := fun w hs =>
 ⟨fun a ha => (by rw [hr] at ha; cases ha), fun x hx => (by rw [hr] at hx; injection hx with hx; subst hx; exact ⟨rfl, hs⟩)⟩
theorem Uv {k : FuncId} {fn : Func} {c : Code} {args : List Value} {pre : List Fact} {n : Nat} (hf : P.funcs[k]? = some fn) (hn : fn.ntmps = n) (hb : fn.body = some c) (ha : args.length ≤ n)
  (h : ∀ B : Cs, (∀ b, B.S0 b ↔ Bu [] b) → Fa P k (C0s B T r val N Ms1) B ⟨n, [], .normal⟩ [.code c] (fun t => args.getD t undef) pre []) : P2 P T k args.toArray pre r val N Ms1 := by
 have he : (fun t => args.toArray.getD t undef) = fun t => args.getD t undef := by
  funext t
  simp [Array.getD_eq_getD_getElem?, List.getD_eq_getElem?_getD]
 have key : ∀ ok w, (∀ b, ok b → b < w.heap.size ∧ ¬ Bu [] b) → St ⟨ok, Bu [], w⟩ pre [] w → Calls P k args.toArray w (C0s ⟨ok, Bu [], w⟩ T r val N Ms1) := by
  intro ok w hok hs
  refine B3c (n := ⟨n, [], .normal⟩) hf hb hn rfl rfl (by simpa using ha) hs ?_
  have := h ⟨ok, Bu [], w⟩ (fun _ => Iff.rfl)
  rw [he]
  exact this
 exact ⟨fun a hr ok w hok hs => (key ok w hok hs).mono fun e w' h => h.1 a hr, fun x hr ok w hok hs => (key ok w hok hs).mono fun e w' h => h.2 x hr⟩
end
def A6h (L : List Fact) : Fact := ⟨fun ok w => ∀ F, F ∈ L → F.f ok w, fun ok ok' w hs h F hF => F.mono ok ok' w hs (h F hF), fun ok w w' h hs F hF => F.loc ok w w' (h F hF) hs⟩
section
variable {B : Cs} {Γ : List Fact} {Ms : List Bm} {w : World} {L : List Fact}
theorem St.A8p (hs : St B Γ Ms w) (h : ∀ F, F ∈ L → F ∈ Γ) : St B (A6h L :: Γ) Ms w := hs.add (fun F hF => hs.facts F (h F hF))
theorem St.C5d (hs : St B [A6h L] Ms w) : St B L Ms w := ⟨hs.chg, fun F hF => hs.facts _ List.mem_cons_self F hF, hs.res, hs.lt, hs.disj⟩
theorem Spec.A8p {P : Program} {k : FuncId} {args : Array Value} {Ms0 : List Bm} {X : Type} {val : X → Value} {N : X → List Fact} {Ms1 : X → List Bm} (h : Spec P k args L Ms0 val N Ms1) : Spec P k args [A6h L] Ms0 val N Ms1 := fun ok w hok hs => h ok w hok hs.C5d
theorem Ro.A8p {P : Program} {k : FuncId} {args : Array Value} {chain : List PanicEntry} (h : Ro P k args L chain) : Ro P k args [A6h L] chain := fun ok w hok hs => h ok w hok hs.C5d
theorem P2.A8p {P : Program} {T : TypeId} {k : FuncId} {args : Array Value} {α : Type} {r : Ax α} {X : α → Type} {val : ∀ a : α, X a → Value} {N : ∀ a : α, X a → List Fact} {Ms1 : ∀ a : α, X a → List Bm} (h : P2 P T k args L r val N Ms1) : P2 P T k args [A6h L] r val N Ms1 := ⟨fun a ha => (h.1 a ha).A8p, fun e he => (h.2 e he).A8p⟩
end
section
variable {P : Program} [Tab P] {f : FuncId} {R : Ending → World → Prop} {B : Cs} {n : Fz} {K : List Item} {ops : Array Oper} {i : Nat} {l : List Nat} {σ : Nat → Value} {Γ : List Fact} {Ms : List Bm}
variable {dst : Option Tmp} {ty : TypeId} {v : Value} {x y : Operand}
theorem C7d {t : TypeId} {d : TypeDesc} (hu : Tab.und P t = some d) (hd : (match d with | .interface _ => true | _ => false) = false) (hx : ev σ x = v) : Cg P σ (.makeInterface t x) ty (.iface t v) := fun w => by
 cases d <;> first | (simp at hd; done) | simp [Cp, execOp, hx, Instr.makeInterface, Dh hu]
theorem B9h {t : TypeId} {d : TypeDesc} (k_ : E1 P f R B n K ops l (Aq σ dst (.iface t v)) Γ Ms) (hx : ev σ x = v := by exact A5) (hu : Tab.und P t = some d := by rfl) (hdd : (match d with | .interface _ => true | _ => false) = false := by rfl) (hd : Ah n dst = true := by rfl) : Ex P f R B n K ops l (Cp dst (.makeInterface t x) ty) σ Γ Ms := Bf (C7d hu hdd hx) hd k_
theorem B9f {T : TypeId} {e : Int} (hR : ∀ w, St B [] [] w → R (.panicked (Vz T e)) w) (hx : ev σ x = .iface T (.int .i64 e) := by exact A5) (hD : n.defs = [] := by rfl) (hK : okK n.kind := by first | exact .inl rfl | exact .inr rfl) : Ex P f R B n K ops l (Cp dst (.panic x) ty) σ Γ Ms := fun a w hr hs => by
 unfold Oper.wp
 rw [hr.eval]
 have e1 : (execOp (ev σ) (Cp dst (.panic x) ty)).run P w = .halt (.panic (.iface T (.int .i64 e))) w := by
  simp only [Cp, execOp, hx]
  rfl
 rw [e1, Oper.upon_panic]
 refine ⟨hK.imp id (fun h => ⟨h, hr.defs.trans hD⟩), fun fn hfn => ?_⟩
 rw [hr.defs, hD]
 exact hR w (St.Np (A := Ms) (Ms := []) (by rw [List.append_nil]; exact hs.less (fun F hF => by cases hF)))
theorem D3i {c : FuncId} {cap : List Value} {ts : Array TypeId} {g : Operand} (k_ : E1 P f R B ⟨n.sz, ⟨.fn (.func c) cap.toArray, #[]⟩ :: n.defs, n.kind⟩ K ops l σ Γ Ms) (hg : ev σ g = .func (.func c) #[] cap.toArray := by rfl) : Ex P f R B n K ops l (Cp none (.defer { callee := .value g, args := #[], argTypes := ts }) ty) σ Γ Ms := fun a w hr hs => by
 unfold Oper.wp
 rw [hr.eval]
 have e1 : (execOp (ev σ) (Cp none (.defer { callee := .value g, args := #[], argTypes := ts }) ty)).run P w = .ok (.defer ⟨.fn (.func c) cap.toArray, #[]⟩) w := by
  simp [Cp, execOp, resolve, hg, Deferred.ofValue]
 rw [e1, Oper.upon_defer]
 exact k_ _ _ ⟨hr.size, hr.get, by show _ :: a.defers = _; rw [hr.defs]⟩ hs
end
def W8 (P : Program) (k : FuncId) (args : Array Value) (pre : List Fact) (Ms0 : List Bm) (u u' : FrameMode) (N : List Fact) (Ms1 : List Bm) : Prop :=
 ∀ ok w, (∀ b, ok b → b < w.heap.size ∧ ¬ Bu Ms0 b) → St ⟨ok, Bu Ms0, w⟩ pre Ms0 w → CallsD P k args u w fun e v w' => e = .returned (.tuple #[]) ∧ v = u' ∧ St ⟨ok, Bu Ms0, w⟩ N Ms1 w'
section
variable {P : Program} {f : FuncId} {fn : Func} {R : Ending → World → Prop} {B : Cs} {n : Fz} {K : List Item} {σ : Nat → Value} {Γ : List Fact} {Ms : List Bm}
theorem B9t {k : FuncId} {cap : List Value} {pre N : List Fact} {Ms0 Ms1 Ms2 : List Bm} {u u' : FrameMode} {tmps : Array Value} {w : World} (hu : u ≠ .run) (hc : ∀ (args : Array Value) (w : World), (callFunc k args).run P w = .ok (.enter k args) w) (hsp : W8 P k cap.toArray pre Ms0 u u' N Ms1) (hpre : ∀ F, F ∈ pre → F ∈ Γ) (hm : Ms.Perm (Ms0 ++ Ms2)) (hset : settle u' = .returning)
  (hs : St B Γ Ms w) (hres : ∀ w', St B (N ++ Γ) (Ms1 ++ Ms2) w' → ∃ v, (results fn tmps).run P w' = .ok v w' ∧ R (.returned v) w') : Leaves P fn tmps R [⟨.fn (.func k) cap.toArray, #[]⟩] u w := by
 refine leaves_cons (f := k) (args := cap.toArray) hu (by simp [invoke, hc]) ?_
 have hs' := hs.perm hm
 refine (hsp (Pm B (Ms0 ++ Ms2) w) w ?_ (hs'.hand hpre)).mono ?_
 ·intro b hb
  exact ⟨hb.2.1, fun hc => hb.2.2 (E2.2 (.inl hc))⟩
 ·rintro e v w' ⟨rfl, rfl, hx⟩
  show Leaves P fn tmps R [] (settle v) w'
  rw [hset]
  obtain ⟨v', h1, h2⟩ := hres w' (hs'.frame hx)
  exact ⟨v', h1, h2⟩
theorem D3x {k : FuncId} {cap : List Value} {pre N : List Fact} {Ms0 Ms1 Ms2 : List Bm} (hf : P.funcs[f]? = some fn) (hc : ∀ (args : Array Value) (w : World), (callFunc k args).run P w = .ok (.enter k args) w) (hsp : W8 P k cap.toArray pre Ms0 .returning .returning N Ms1) (hpre : ∀ F, F ∈ pre → F ∈ Γ) (hm : Ms.Perm (Ms0 ++ Ms2))
  (hres : ∀ a w', Rel n a σ → St B (N ++ Γ) (Ms1 ++ Ms2) w' → ∃ v, (results fn a.tmps).run P w' = .ok v w' ∧ R (.returned v) w') (hD : n.defs = [⟨.fn (.func k) cap.toArray, #[]⟩] := by rfl) (hK : n.kind = .normal := by rfl) : Fa P f R B n (.code .ret :: K) σ Γ Ms := by
 intro a w hr hs b cs hb hk
 have hfn : P.funcs[b.fn]? = some fn := by rw [hb]; exact hf
 have hL : Leaves P fn a.tmps R a.defers .returning w := by
  rw [hr.defs, hD]
  exact B9t D6 hc hsp hpre hm rfl hs (fun w' h => hres a w' hr h)
 obtain ⟨e, w', fr, hR, hs', hf', hl⟩ := leaves_steps a.defers .returning w { b.at a (.code .ret :: K) with mode := .returning } cs rfl rfl rfl hfn (hk.trans hK) hL
 exact ⟨e, w', fr, hR, hs'.of_steps (.one step_ret), hf'.trans hb, .inl ⟨hK, hl⟩⟩
theorem D3a {ops : Array Oper} {l : List Nat} {dst : Option Tmp} {op : Op} {ty : TypeId} {c k : FuncId} {args : Array Value} {cap : List Value} {pre pre2 N : List Fact} {chain : List PanicEntry} {Ms0 Ms1 Ms2 : List Bm} {u' : FrameMode} (he : Rp P σ op ty c args) (hsp : Ro P c args pre chain) (hpre : ∀ F, F ∈ pre → F ∈ Γ) (hf : P.funcs[f]? = some fn)
  (hc : ∀ (args : Array Value) (w : World), (callFunc k args).run P w = .ok (.enter k args) w) (hsd : W8 P k cap.toArray pre2 Ms0 (.panicking chain) u' N Ms1) (hpre2 : ∀ F, F ∈ pre2 → F ∈ Γ) (hm : Ms.Perm (Ms0 ++ Ms2)) (hset : settle u' = .returning)
  (hres : ∀ a w', Rel n a σ → St B (N ++ Γ) (Ms1 ++ Ms2) w' → ∃ v, (results fn a.tmps).run P w' = .ok v w' ∧ R (.returned v) w') (hD : n.defs = [⟨.fn (.func k) cap.toArray, #[]⟩] := by rfl) (hK : n.kind = .normal := by rfl) : Ex P f R B n K ops l (Cp dst op ty) σ Γ Ms := by
 intro a w hr hs
 unfold Oper.wp
 rw [hr.eval, show (execOp (ev σ) (Cp dst op ty)).run P w = .ok (.enter c args) w by rw [Cp, F3 (d' := none)]; exact he w]
 have hs' : St B Γ ([] ++ Ms) w := hs
 refine (hsp (Pm B ([] ++ Ms) w) w (fun b hb => ⟨hb.2.1, I7 b⟩) (hs'.hand hpre)).mono ?_
 rintro e w' ⟨rfl, hx⟩
 refine ⟨.inl hK, fun fn' hfn' => ?_⟩
 rw [hf] at hfn'
 injection hfn' with hfn'
 subst hfn'
 rw [hr.defs, hD]
 have h1 : St B Γ Ms w' := by have := hs'.frame hx; simpa using this
 exact B9t D6 hc hsd hpre2 hm hset h1 (fun w' h => hres a w' hr h)
end
section
variable {P : Program} {f : FuncId} {fn : Func} {B : Cs} {Γ : List Fact} {Ms : List Bm}
theorem B7f {R : Ending → World → Prop} {n : Fz} {args : Array Value} {c : Code} {w : World} {d d2 : Tmp} {o1 o2 : Oper} {id : Nat} (hf : P.funcs[f]? = some fn) (hb : fn.body = some (.seq (.region id #[o1, o2] false) c)) (hn : fn.ntmps = n.sz) (hD : n.defs = []) (hk : n.kind = .deferred) (ha : args.size ≤ n.sz) (hs : St B Γ Ms w)
  (h1 : ∀ ρ w, (execOp ρ o1).run P w = .ok .recover w) (hd1 : o1.dst = some d) (hg1 : o1.guard = none) (h2 : ∀ ρ : Operand → Value, execOp ρ o2 = pure (.value (ρ (.tmp d)))) (hd2 : o2.dst = some d2) (hg2 : o2.guard = none) (hl1 : Nat.blt d n.sz = true) (hl2 : Nat.blt d2 n.sz = true)
  (h : Fa P f R B n [.code c] (Sb (Sb (fun t => args.getD t undef) d .nilIface) d2 .nilIface) Γ Ms) : CallsD P f args .returning w fun e u' w' => u' = .returning ∧ R e w' := by
 intro c0 cs hu
 let b : Frame := { (default : Frame) with fn := f, kind := .deferred }
 have henter : Frame.enter P f args .deferred = b.at { tmps := args ++ Array.replicate (fn.ntmps - args.size) undef, defers := [] } [.code (.seq (.region id #[o1, o2] false) c)] := by
  simp [Frame.enter, Frame.at, hf, hb, b]
 have hr0 := Wt (fn := fn) hn hD ha
 have hr1 := hr0.put (dst := some d) hl1 .nilIface
 have hr2 := hr1.put (dst := some d2) hl2 .nilIface
 have hS : wpOpsS P #[o1, o2] (fun e a' cs' w' => e = .normal ∧ a' = (({ tmps := args ++ Array.replicate (fn.ntmps - args.size) undef, defers := [] } : Act).put (some d) .nilIface).put (some d2) .nilIface ∧ cs' = c0 :: cs ∧ w' = w) [0, 1] { tmps := args ++ Array.replicate (fn.ntmps - args.size) undef, defers := [] } (c0 :: cs) w := by
  have e1 : (#[o1, o2])[0]? = some o1 := rfl
  have e2 : (#[o1, o2])[1]? = some o2 := rfl
  have hrec : recoverD (c0 :: cs) = none := by simp [recoverD, hu]
  have hput : ((({ tmps := args ++ Array.replicate (fn.ntmps - args.size) undef, defers := [] } : Act).put (some d) .nilIface).eval (.tmp d)) = .nilIface := by
   rw [hr1.eval]; simp [ev, Aq, K2]
  simp only [wpOpsS, e1, e2, Region.wanted, hg1, hg2, if_true, h1, hrec, hd1, h2]
  rw [hput]
  show Oper.upon P o2 _ _ _ (.ok (.value .nilIface) w)
  simp only [Oper.upon_value, hd2, and_self]
 obtain ⟨e, a', cs', w', ⟨rfl, rfl, rfl, rfl⟩, harr⟩ := wp_opsS [0, 1] _ _ _ hS b [.code c] rfl rfl
 obtain ⟨e, w2, fr, hR, hc, hf', hl⟩ := h _ w' hr2 hs b (c0 :: cs) rfl hk.symm
 rcases hl with ⟨h9, _⟩ | ⟨_, hk2, hgo⟩
 ·rw [hk] at h9; cases h9
 ·refine ⟨e, .returning, w2, fr, ⟨rfl, hR⟩, ?_, hk2, hgo⟩
  have hc0 : ({ c0 with mode := .returning } : Frame) = c0 := by rw [← hu]
  rw [henter, hc0]
  exact hc.of_steps (.head step_seq (.head step_region harr))
theorem A6a {args : List Value} {d d2 : Nat} {v : Value} : (Sb (Sb (fun t => args.toArray.getD t undef) d v) d2 v) = Sb (Sb (fun t => args.getD t undef) d v) d2 v := by
 have he : (fun t => args.toArray.getD t undef) = fun t => args.getD t undef := by
  funext t
  simp [Array.getD_eq_getD_getElem?, List.getD_eq_getElem?_getD]
 rw [he]
theorem C5k {args : List Value} {c : Code} {d d2 sz : Nat} {o1 o2 : Oper} {id : Nat} {v : Value} {older : List PanicEntry} {N pre : List Fact} {Ms0 Ms1 : List Bm} (hf : P.funcs[f]? = some fn) (hb : fn.body = some (.seq (.region id #[o1, o2] false) c)) (hn : fn.ntmps = sz) (ha : args.length ≤ sz)
  (h1 : ∀ ρ w, (execOp ρ o1).run P w = .ok .recover w) (hd1 : o1.dst = some d) (hg1 : o1.guard = none) (h2 : ∀ ρ : Operand → Value, execOp ρ o2 = pure (.value (ρ (.tmp d)))) (hd2 : o2.dst = some d2) (hg2 : o2.guard = none) (hl1 : Nat.blt d sz = true) (hl2 : Nat.blt d2 sz = true)
  (h : ∀ B : Cs, (∀ b, B.S0 b ↔ Bu Ms0 b) → Fa P f (Ends B (fun _ : Unit => .tuple #[]) (fun _ => N) (fun _ => Ms1)) B ⟨sz, [], .deferred⟩ [.code c] (Sb (Sb (fun t => args.getD t undef) d v) d2 v) pre Ms0) :
  W8 P f args.toArray pre Ms0 (.panicking ({ v, recovered := false } :: older)) (.panicking ({ v, recovered := true } :: older)) N Ms1 := by
 intro ok w hok hs
 refine (C4e (n := ⟨sz, [], .deferred⟩) hf hb hn rfl rfl (by simpa using ha) hs h1 hd1 hg1 h2 hd2 hg2 hl1 hl2 (by rw [A6a]; exact h ⟨ok, Bu Ms0, w⟩ (fun _ => Iff.rfl))).mono ?_
 rintro e u w' ⟨rfl, _, he, hx⟩
 exact ⟨he, rfl, hx⟩
theorem C1l {args : List Value} {c : Code} {d d2 sz : Nat} {o1 o2 : Oper} {id : Nat} {N pre : List Fact} {Ms0 Ms1 : List Bm} (hf : P.funcs[f]? = some fn) (hb : fn.body = some (.seq (.region id #[o1, o2] false) c)) (hn : fn.ntmps = sz) (ha : args.length ≤ sz)
  (h1 : ∀ ρ w, (execOp ρ o1).run P w = .ok .recover w) (hd1 : o1.dst = some d) (hg1 : o1.guard = none) (h2 : ∀ ρ : Operand → Value, execOp ρ o2 = pure (.value (ρ (.tmp d)))) (hd2 : o2.dst = some d2) (hg2 : o2.guard = none) (hl1 : Nat.blt d sz = true) (hl2 : Nat.blt d2 sz = true)
  (h : ∀ B : Cs, (∀ b, B.S0 b ↔ Bu Ms0 b) → Fa P f (Ends B (fun _ : Unit => .tuple #[]) (fun _ => N) (fun _ => Ms1)) B ⟨sz, [], .deferred⟩ [.code c] (Sb (Sb (fun t => args.getD t undef) d .nilIface) d2 .nilIface) pre Ms0) :
  W8 P f args.toArray pre Ms0 .returning .returning N Ms1 := by
 intro ok w hok hs
 refine (B7f (n := ⟨sz, [], .deferred⟩) hf hb hn rfl rfl (by simpa using ha) hs h1 hd1 hg1 h2 hd2 hg2 hl1 hl2 (by rw [A6a]; exact h ⟨ok, Bu Ms0, w⟩ (fun _ => Iff.rfl))).mono ?_
 rintro e u w' ⟨rfl, _, he, hx⟩
 exact ⟨he, rfl, hx⟩
end
section
variable {P : Program} [Tab P] {f : FuncId} {R : Ending → World → Prop} {B : Cs} {n : Fz} {K : List Item} {ops : Array Oper} {i : Nat} {l : List Nat} {σ : Nat → Value} {Γ : List Fact} {Ms : List Bm}
variable {dst : Option Tmp} {ty : TypeId} {v : Value} {x y : Operand}
theorem A3n {t : TypeId} (hu : (match Tab.und P t with | some (.interface _) => true | _ => false) = true) : ∃ m, Tab.und P t = some (.interface m) := by
 cases h : Tab.und P t with
 | none => rw [h] at hu; cases hu
 | some d => cases d <;> rw [h] at hu <;> first | exact ⟨_, rfl⟩ | cases hu
theorem C5x {t T : TypeId} {v : Value} (hu : (match Tab.und P t with | some (.interface _) => true | _ => false) = true) (w : World) : (Op.equal t (.iface T v) .nilIface).run P w = .ok false w := by
 obtain ⟨m, hu'⟩ := A3n hu
 have h1 : (Op.equalIn (9999 + 1) t (.iface T v) .nilIface).run P w = .ok false w := by
  unfold Op.equalIn
  rw [Ac (Dh hu' w)]
  rfl
 exact h1
theorem C5w {t : TypeId} (hu : (match Tab.und P t with | some (.interface _) => true | _ => false) = true) (w : World) : (Op.equal t .nilIface .nilIface).run P w = .ok true w := by
 obtain ⟨m, hu'⟩ := A3n hu
 have h1 : (Op.equalIn (9999 + 1) t .nilIface .nilIface).run P w = .ok true w := by
  unfold Op.equalIn
  rw [Ac (Dh hu' w)]
  rfl
 exact h1
theorem C2n {t t' T : TypeId} (k_ : E1 P f R B n K ops l (Aq σ dst (.bool true)) Γ Ms) (hx : ev σ x = .iface T v := by exact A5) (hu : (match Tab.und P t with | some (.interface _) => true | _ => false) = true := by rfl) (hd : Ah n dst = true := by rfl) : Ex P f R B n K ops l (Cp dst (.binOp .neq t x (.const .nilIface) t') ty) σ Γ Ms := Bf (De hx (show ev σ (.const .nilIface) = Value.nilIface from rfl) (fun w => by simp [eqGuard_at_iface]) (fun w => by
 simp only [binOp]
 rw [Ac (C5x hu w)]; rfl)) hd k_
theorem D3f {t t' : TypeId} (k_ : E1 P f R B n K ops l (Aq σ dst (.bool false)) Γ Ms) (hx : ev σ x = .nilIface := by exact A5) (hu : (match Tab.und P t with | some (.interface _) => true | _ => false) = true := by rfl) (hd : Ah n dst = true := by rfl) : Ex P f R B n K ops l (Cp dst (.binOp .neq t x (.const .nilIface) t') ty) σ Γ Ms := Bf (De hx (show ev σ (.const .nilIface) = Value.nilIface from rfl) (fun w => by cases x <;> rfl) (fun w => by
 simp only [binOp]
 rw [Ac (C5w hu w)]; rfl)) hd k_
theorem C2m {t T : TypeId} {d : TypeDesc} (k_ : E1 P f R B n K ops l (Aq σ dst (.tuple #[v, .bool true])) Γ Ms) (hx : ev σ x = .iface T v := by exact A5) (hu : Tab.und P T = some d := by rfl) (hdd : (match d with | .interface _ => true | _ => false) = false := by rfl) (hd : Ah n dst = true := by rfl) : Ex P f R B n K ops l (Cp dst (.typeAssert x t T true) ty) σ Γ Ms := Bf (fun w => by
 cases d <;> first | (simp at hdd; done) | simp [Cp, execOp, hx, Instr.typeAssert, Dh hu]) hd k_
end
section
variable {P : Program} [Tab P] {f : FuncId} {fn : Func} {B : Cs} {n : Fz} {K : List Item} {σ : Nat → Value} {Γ : List Fact} {Ms : List Bm} {X : Type} {val : X → Value} {N : X → List Fact} {Ms1 : X → List Bm}
theorem Tn {r t T r2 t2 T2 b b2 s bt : Nat} {zv v2 : Value} {d : TypeDesc} {lay : List (Nat × Nat)} {cs : List Value} {a : Act} {w : World} (hr : fn.results = #[.cell r t, .cell r2 t2]) (ha : Rel n a σ) (hs : St B Γ Ms w) (hb : σ r = .pointer (some ⟨b, 0, none⟩)) (hb2 : σ r2 = .pointer (some ⟨b2, 0, none⟩)) (hm : Af b cs T ∈ Ms) (hm2 : Af b2 [v2] T2 ∈ Ms)
  (hl : Tab.lay P t = some lay) (hi : Tab.inf P t = some (s, bt, zv)) (hcs : cs.length = s) (hu : Tab.und P t2 = some d) (hd : (match d with | .struct _ | .array _ _ => true | _ => false) = false) : (results fn a.tmps).run P w = .ok (.tuple #[.agg cs.toArray, v2]) w := by
 have h1 := ha.get r
 rw [hb] at h1
 have h3 := ha.get r2
 rw [hb2] at h3
 have h2 := Ek (P := P) (bk := b) (off := 0) (w := w) hl hi hcs (fun j v hj => by rw [Nat.zero_add]; exact Mx hs hm j v hj)
 have h4 : (loadVar t2 ⟨b2, 0, none⟩).run P w = .ok v2 w := Ej (P := P) (off := 0) (w := w) hu hd (Mx hs hm2 0 v2 rfl)
 have h1' : (a.tmps[r]?.getD undef) = .pointer (some ⟨b, 0, none⟩) := by simpa [Array.getD_eq_getD_getElem?] using h1
 have h3' : (a.tmps[r2]?.getD undef) = .pointer (some ⟨b2, 0, none⟩) := by simpa [Array.getD_eq_getD_getElem?] using h3
 simp [results, hr, asAddr, h1', h2, h3', h4]
theorem D5m {r t T r2 t2 T2 b b2 s bt : Nat} {zv v2 : Value} {d : TypeDesc} {lay : List (Nat × Nat)} {cs : List Value} (hf : P.funcs[f]? = some fn) (hr : fn.results = #[.cell r t, .cell r2 t2]) (x : X) (hb : σ r = .pointer (some ⟨b, 0, none⟩)) (hb2 : σ r2 = .pointer (some ⟨b2, 0, none⟩)) (hm : Af b cs T ∈ Ms) (hm2 : Af b2 [v2] T2 ∈ Ms)
  (hl : Tab.lay P t = some lay) (hi : Tab.inf P t = some (s, bt, zv)) (hcs : cs.length = s) (hu : Tab.und P t2 = some d) (hd : (match d with | .struct _ | .array _ _ => true | _ => false) = false) (hv : Value.tuple #[.agg cs.toArray, v2] = val x) (hs : ∀ w, St B Γ Ms w → St B (N x) (Ms1 x) w) (hD : n.defs = [] := by rfl) (hK : okK n.kind := by first | exact .inl rfl | exact .inr rfl) : Fa P f (Ends B val N Ms1) B n (.code .ret :: K) σ Γ Ms :=
 go_ret hf (fun a w ha h => (Tn hr ha h hb hb2 hm hm2 hl hi hcs hu hd).trans (by rw [hv])) (fun w h => ⟨x, rfl, hs w h⟩) hD hK
end
section
variable {P : Program} [Tab P] {f : FuncId} {fn : Func} {B : Cs} {n : Fz} {K : List Item} {σ : Nat → Value} {Γ : List Fact} {Ms : List Bm} {X : Type} {val : X → Value} {N : X → List Fact} {Ms1 : X → List Bm}
theorem D7m {r t T r2 t2 T2 b b2 s bt : Nat} {zv v2 : Value} {d : TypeDesc} {lay : List (Nat × Nat)} {cs : List Value} {k : FuncId} {cap : List Value} (hf : P.funcs[f]? = some fn) (hr : fn.results = #[.cell r t, .cell r2 t2]) (hc : ∀ (args : Array Value) (w : World), (callFunc k args).run P w = .ok (.enter k args) w) (hsp : W8 P k cap.toArray [] [] .returning .returning [] [])
  (x : X) (hb : σ r = .pointer (some ⟨b, 0, none⟩)) (hb2 : σ r2 = .pointer (some ⟨b2, 0, none⟩)) (hm : Af b cs T ∈ Ms) (hm2 : Af b2 [v2] T2 ∈ Ms)
  (hl : Tab.lay P t = some lay) (hi : Tab.inf P t = some (s, bt, zv)) (hcs : cs.length = s) (hu : Tab.und P t2 = some d) (hd : (match d with | .struct _ | .array _ _ => true | _ => false) = false) (hv : Value.tuple #[.agg cs.toArray, v2] = val x) (hs : ∀ w, St B Γ Ms w → St B (N x) (Ms1 x) w) (hD : n.defs = [⟨.fn (.func k) cap.toArray, #[]⟩] := by rfl) (hK : n.kind = .normal := by rfl) : Fa P f (Ends B val N Ms1) B n (.code .ret :: K) σ Γ Ms :=
 D3x (Ms2 := Ms) hf hc hsp (fun F hF => by cases hF) (List.Perm.refl _) (fun a w' ha h => ⟨_, Tn hr ha h hb hb2 hm hm2 hl hi hcs hu hd, ⟨x, by rw [hv], hs w' h⟩⟩) hD hK
theorem D8d {r t T r2 t2 T2 b b2 s bt : Nat} {zv v2 : Value} {d : TypeDesc} {lay : List (Nat × Nat)} {cs cs0 : List Value} {v0 : Value} {k c : FuncId} {cap : List Value} {ops : Array Oper} {l : List Nat} {dst : Option Tmp} {op : Op} {ty : TypeId} {args : Array Value} {pre : List Fact} {chain : List PanicEntry} {u' : FrameMode} {Ms2 : List Bm} (he : Rp P σ op ty c args) (hspp : Ro P c args pre chain) (hpre : ∀ F, F ∈ pre → F ∈ Γ)
  (hf : P.funcs[f]? = some fn) (hr : fn.results = #[.cell r t, .cell r2 t2]) (hc : ∀ (args : Array Value) (w : World), (callFunc k args).run P w = .ok (.enter k args) w) (hsp : W8 P k cap.toArray [] [Af b cs0 T, Af b2 [v0] T2] (.panicking chain) u' [] [Af b cs T, Af b2 [v2] T2]) (hset : settle u' = .returning) (hm : Ms.Perm (Af b cs0 T :: Af b2 [v0] T2 :: Ms2))
  (x : X) (hb : σ r = .pointer (some ⟨b, 0, none⟩)) (hb2 : σ r2 = .pointer (some ⟨b2, 0, none⟩))
  (hl : Tab.lay P t = some lay) (hi : Tab.inf P t = some (s, bt, zv)) (hcs : cs.length = s) (hu : Tab.und P t2 = some d) (hd : (match d with | .struct _ | .array _ _ => true | _ => false) = false) (hv : Value.tuple #[.agg cs.toArray, v2] = val x) (hs : ∀ w, St B Γ [] w → St B (N x) (Ms1 x) w) (hD : n.defs = [⟨.fn (.func k) cap.toArray, #[]⟩] := by rfl) (hK : n.kind = .normal := by rfl) : Ex P f (Ends B val N Ms1) B n K ops l (Cp dst op ty) σ Γ Ms :=
 D3a (Ms0 := [Af b cs0 T, Af b2 [v0] T2]) (Ms2 := Ms2) he hspp hpre hf hc hsp (fun F hF => by cases hF) hm hset (fun a w' ha h => ⟨_, Tn hr ha h hb hb2 (List.mem_cons_self) (List.mem_cons_of_mem _ List.mem_cons_self) hl hi hcs hu hd, ⟨x, by rw [hv], hs w' (St.Np (A := Af b cs T :: Af b2 [v2] T2 :: Ms2) (Ms := []) (by rw [List.append_nil]; exact h))⟩⟩) hD hK
end
section
variable {P : Program} [Tab P] {f : FuncId} {R : Ending → World → Prop} {B : Cs} {n : Fz} {K : List Item} {ops : Array Oper} {i : Nat} {l : List Nat} {σ : Nat → Value} {Γ : List Fact} {Ms : List Bm}
variable {dst : Option Tmp} {ty : TypeId} {v : Value} {x y : Operand}
theorem C2a {s d : TypeId} {a : Nat} (hs : Tab.und P s = some (.int .u32)) (hd : Tab.und P d = some (.int .u64)) (hx : ev σ x = .int .u32 (a : Int)) (ha : a < 4294967296) : Cg P σ (.convert s d x) ty (.int .u64 (a : Int)) := by
 have e : IntKind.u64.wrap (a : Int) = (a : Int) := by
  have : IntKind.u64.wrap (a : Int) = (a : Int) % 18446744073709551616 := by simp [IntKind.wrap, IntKind.bits, IntKind.signed]
  rw [this]; omega
 have := J8 (P := P) (ty := ty) hs hd hx
 rwa [e] at this
theorem C8h {s d : TypeId} {a : Nat} (k_ : E1 P f R B n K ops l (Aq σ dst (.int .u64 (a : Int))) Γ Ms) (hx : ev σ x = .int .u32 (a : Int) := by exact A5) (ha : a < 4294967296 := by first | assumption | omega) (hs : Tab.und P s = some (.int .u32) := by rfl) (hd' : Tab.und P d = some (.int .u64) := by rfl) (hd : Ah n dst = true := by rfl) : Ex P f R B n K ops l (Cp dst (.convert s d x) ty) σ Γ Ms := Bf (C2a hs hd' hx ha) hd k_
end
end Go.Hy
namespace Go.Hy
def Du (c d : Cl) : Cl := ⟨c.pos ||| d.pos, c.neg ||| d.neg⟩
theorem B7i (c d : Cl) : decide (Du c d = c) = below c d := by
 obtain ⟨p, n⟩ := c
 obtain ⟨p', n'⟩ := d
 simp [Du, below]
def Et (l : List Cl) (i : Nat) : Nat := (l.take i).foldl (fun a c => a ||| (c.pos ||| c.neg)) 0
theorem Xw {l : List Cl} {i : Nat} (h : i < l.length) : Et l (i + 1) = Et l i ||| ((l.getD i B1).pos ||| (l.getD i B1).neg) := by
 unfold Et; rw [Ag (d := B1) h, List.foldl_append]; rfl
theorem A4n {l : List Cl} (h : ∀ c, c ∈ l → u32 c) : ∀ i, Et l i < 4294967296 := by
 intro i
 have : ∀ (m : List Cl) (a : Nat), (∀ c, c ∈ m → u32 c) → a < 4294967296 → m.foldl (fun a c => a ||| (c.pos ||| c.neg)) a < 4294967296 := by
  intro m
  induction m with
  | nil => intro a _ h; exact h
  | cons c m ih =>
   intro a hm ha
   have hc := hm c List.mem_cons_self
   exact ih _ (fun d hd => hm d (List.mem_cons_of_mem _ hd)) (Nat.or_lt_two_pow (n := 32) ha (Nat.or_lt_two_pow (n := 32) hc.1 hc.2))
 exact this _ 0 (fun c hc => h c (List.mem_of_mem_take hc)) A2
theorem A1k (l : List Cl) : C2 l = Et l l.length &&& 16777215 := by
 unfold C2 Et; rw [List.take_length]
theorem B3p {s : Nat} (hs : s < 4294967296) : decide ((Bi s 16777215 : Int) = 0) = decide (s < 16777216) := by
 apply decide_eq_decide.mpr
 have h : Bi s 16777215 = s / 16777216 * 16777216 := by
  unfold Bi
  have e : (BitVec.ofNat 32 s &&& ~~~ BitVec.ofNat 32 16777215).toNat = s / 16777216 * 16777216 := by
   apply Nat.eq_of_testBit_eq
   intro i
   rw [← BitVec.getLsbD, BitVec.getLsbD_and, BitVec.getLsbD_not, BitVec.getLsbD_ofNat, BitVec.getLsbD_ofNat]
   rw [show s / 16777216 * 16777216 = (s / 2 ^ 24) * 2 ^ 24 from rfl, Nat.testBit_mul_two_pow, Nat.testBit_div_two_pow]
   rw [show (16777215 : Nat) = 2 ^ 24 - 1 from rfl, Nat.testBit_two_pow_sub_one]
   by_cases h1 : i < 32
   ·by_cases h2 : 24 ≤ i
    ·simp [h1, h2, Nat.sub_add_cancel h2]
    ·simp [h1, h2]; omega
   ·have : s.testBit i = false := Nat.testBit_lt_two_pow (Nat.lt_of_lt_of_le hs (Nat.pow_le_pow_right (n := 2) A2 (show 32 ≤ i by omega)))
    have h2 : 24 ≤ i := by omega
    simp [h1, h2, Nat.sub_add_cancel h2, this]
  exact e
 omega
end Go.Hy
namespace Go.Hy
def B6h (g : Cl → Bool) (l : List Cl) : Int := if l.any g then (l.findIdx g : Int) else -1
theorem D0 {α : Type} {d : α} {l : List α} {i : Nat} (h : i < l.length) : l.getD i d = l[i] := by
 rw [List.getD_eq_getElem?_getD, List.getElem?_eq_getElem h]; rfl
theorem D3w {g : Cl → Bool} {l : List Cl} {i : Nat} (h : i < l.length) (hg : g (l.getD i B1) = true) (hb : ∀ j, j < i → g (l.getD j B1) = false) : B6h g l = i := by
 have hany : l.any g = true := List.any_eq_true.mpr ⟨_, Aa h, hg⟩
 have hidx : l.findIdx g = i := by
  rw [List.findIdx_eq h]
  refine ⟨by rw [← D0 (d := B1) h]; exact hg, fun j hj => ?_⟩
  have := hb j hj
  rwa [D0 (d := B1) A2] at this
 unfold B6h
 rw [hany, hidx]; rfl
theorem C3l {g : Cl → Bool} {l : List Cl} (hb : ∀ j, j < l.length → g (l.getD j B1) = false) : B6h g l = -1 := by
 have hany : l.any g = false := by
  rw [List.any_eq_false]
  intro x hx
  obtain ⟨j, hj, e⟩ := List.mem_iff_getElem.mp hx
  have := hb j hj
  rw [D0 (d := B1) hj, e] at this
  simp [this]
 unfold B6h; rw [hany]; rfl
theorem B2f (g : Cl → Bool) (l : List Cl) : decide (0 ≤ B6h g l) = l.any g := by
 unfold B6h
 cases l.any g
 ·rfl
 ·simp
def once (l : List Cl) : List Cl := l.foldl (fun o c => if c ∈ o then o else o ++ [c]) []
theorem C2j (l : List Cl) (c : Cl) : once (l ++ [c]) = if c ∈ once l then once l else once l ++ [c] := by
 unfold once; rw [List.foldl_append]; rfl
theorem Zx (c : Cl) : ∀ (l o : List Cl), (c ∈ l.foldl (fun o c => if c ∈ o then o else o ++ [c]) o ↔ c ∈ o ∨ c ∈ l) ∧ (l.foldl (fun o c => if c ∈ o then o else o ++ [c]) o).length ≤ o.length + l.length
 | [], o => by simp
 | d :: l, o => by
  have ih := Zx c l (if d ∈ o then o else o ++ [d])
  rw [List.foldl_cons]
  constructor
  ·rw [ih.1, List.mem_cons]
   split
   ·rename_i h
    constructor
    ·rintro (h2 | h2)
     ·exact .inl h2
     ·exact .inr (.inr h2)
    ·rintro (h2 | h2 | h2)
     ·exact .inl h2
     ·exact .inl (h2 ▸ h)
     ·exact .inr h2
   ·rw [List.mem_append, List.mem_singleton, or_assoc]
  ·have h3 := ih.2
   have h4 : (if d ∈ o then o else o ++ [d]).length ≤ o.length + 1 := by split <;> simp
   simp only [List.length_cons]; omega
theorem Ou (c : Cl) (l : List Cl) : c ∈ once l ↔ c ∈ l := by
 have := (Zx c l []).1
 simpa [once] using this
theorem V7 (l : List Cl) : (once l).length ≤ l.length := by
 have := (Zx B1 l []).2
 simpa [once] using this
def Ck (l : List Cl) (c : Cl) : Bool := l.any fun d => !decide (c = d) && below c d
def kept (l : List Cl) : List Cl := (once l).filter fun c => !Ck (once l) c
def A9b (l l' : List Cl) : Prop := l'.Perm l ∧ l'.Pairwise fun a b => Cr b a = false
def J6 (l : List Cl) (r : Int × List Cl) : Prop :=
 if l.all B3 = false then r = (2, []) else if 64 < (kept l).length then r = (3, []) else r.1 = 0 ∧ A9b (kept l) r.2
end Go.Hy
namespace Go.Hy
theorem E1y {l : List Cl} {g : Cl → Bool} (h : ∀ j, j < l.length → g (l.getD j B1) = true) : l.all g = true := by
 rw [List.all_eq_true]
 intro x hx
 obtain ⟨j, hj, e⟩ := List.mem_iff_getElem.mp hx
 have := h j hj
 rwa [D0 (d := B1) hj, e] at this
theorem D4t {l : List Cl} {g : Cl → Bool} {i : Nat} (hi : i < l.length) (h : g (l.getD i B1) = false) : l.all g = false := by
 rw [List.all_eq_false]
 exact ⟨l.getD i B1, Aa hi, by rw [h]; decide⟩
def Gy (l : List Cl) (i : Nat) : List Cl := ((once l).take i).filter fun c => !Ck (once l) c
theorem Sx {l : List Cl} {i : Nat} (h : i < (once l).length) : Gy l (i + 1) = if Ck (once l) ((once l).getD i B1) then Gy l i else Gy l i ++ [(once l).getD i B1] := by
 unfold Gy
 rw [Ag (d := B1) h, List.filter_append]
 cases hn : Ck (once l) ((once l).getD i B1)
 ·rw [List.filter_cons_of_pos (by rw [hn]; rfl)]; simp
 ·rw [List.filter_cons_of_neg (by rw [hn]; decide)]; simp
theorem A8d (l : List Cl) : Gy l (once l).length = kept l := by simp [Gy, kept]
theorem A8c (l : List Cl) (i : Nat) : (Gy l i).length ≤ l.length := by
 unfold Gy
 have h1 := List.length_filter_le (fun c => !Ck (once l) c) ((once l).take i)
 have h2 := V7 l
 simp only [List.length_take] at h1
 omega
theorem R5 {l : List Cl} {i : Nat} (h : i < l.length) : once (l.take (i + 1)) = if l.getD i B1 ∈ once (l.take i) then once (l.take i) else once (l.take i) ++ [l.getD i B1] := by
 rw [Ag (d := B1) h, C2j]
theorem A2x (l : List Cl) (i : Nat) : (once (l.take i)).length ≤ l.length := by
 have := V7 (l.take i); simp only [List.length_take] at this; omega
theorem C9l {l : List Cl} {c : Cl} (h : c ∈ kept l) : c ∈ l := by
 unfold kept at h
 exact (Ou c l).mp (List.mem_filter.mp h).1
end Go.Hy
namespace Go.Hy
theorem Oz (a b : Cl) : Cr a b = true ∨ a = b ∨ Cr b a = true := by
 obtain ⟨p, n⟩ := a
 obtain ⟨p', n'⟩ := b
 simp only [Cr, Bool.or_eq_true, Bool.and_eq_true, decide_eq_true_eq, Cl.mk.injEq]
 omega
theorem Pr {a b : Cl} (h : Cr a b = true) : Cr b a = false := by
 simp only [Cr, Bool.or_eq_true, Bool.and_eq_true, decide_eq_true_eq, Bool.or_eq_false_iff, Bool.and_eq_false_iff, decide_eq_false_iff_not] at *
 omega
theorem Y2 {a b c : Cl} (h : Cr a b = true) (h2 : Cr b c = true) : Cr a c = true := by
 simp only [Cr, Bool.or_eq_true, Bool.and_eq_true, decide_eq_true_eq] at *
 omega
theorem S4 (a : Cl) : Cr a a = false := by simp [Cr]
theorem E6k {a b : Cl} (h : Cr a b = false) (h2 : Cr b a = false) : a = b := by
 rcases Oz a b with h3 | h3 | h3
 ·rw [h] at h3; cases h3
 ·exact h3
 ·rw [h2] at h3; cases h3
theorem A3w : ∀ {l m : List Cl}, l.Perm m → (l.Pairwise fun a b => Cr b a = false) → (m.Pairwise fun a b => Cr b a = false) → l = m
 | [], m, hp, _, _ => by have := hp.length_eq; cases m with | nil => rfl | cons _ _ => simp at this
 | a :: l, [], hp, _, _ => by have := hp.length_eq; simp at this
 | a :: l, b :: m, hp, h1, h2 => by
  rw [List.pairwise_cons] at h1 h2
  have ha : a ∈ b :: m := hp.mem_iff.mp List.mem_cons_self
  have hb : b ∈ a :: l := hp.mem_iff.mpr List.mem_cons_self
  have e : a = b := by
   rcases List.mem_cons.mp ha with h | h
   ·exact h
   ·rcases List.mem_cons.mp hb with h3 | h3
    ·exact h3.symm
    ·exact E6k (h2.1 a h |> fun x => x) (h1.1 b h3) |> fun x => by exact x
  subst e
  rw [A3w (List.Perm.cons_inv hp) h1.2 h2.2]
theorem Na : ∀ {l : List Cl}, Pe l = true ↔ l.Pairwise fun a b => Cr a b = true
 | [] => by simp [Pe]
 | [a] => by simp [Pe]
 | a :: b :: l => by
  rw [Pe, Bool.and_eq_true, Na (l := b :: l), List.pairwise_cons (a := a)]
  constructor
  ·rintro ⟨h1, h2⟩
   refine ⟨fun c hc => ?_, h2⟩
   rcases List.mem_cons.mp hc with h | h
   ·exact h ▸ h1
   ·exact Y2 h1 ((List.pairwise_cons.mp h2).1 c h)
  ·rintro ⟨h1, h2⟩
   exact ⟨h1 b List.mem_cons_self, h2⟩
theorem A2y {l : List Cl} (h : l.Pairwise fun a b => Cr a b = true) : once l = l := by
 have : ∀ (m o : List Cl), ((o ++ m).Pairwise fun a b => Cr a b = true) → m.foldl (fun o c => if c ∈ o then o else o ++ [c]) o = o ++ m := by
  intro m
  induction m with
  | nil => intro o _; simp
  | cons c m ih =>
   intro o h
   rw [List.foldl_cons]
   have hn : c ∉ o := by
    intro hc
    have := (List.pairwise_append.mp h).2.2 c hc c List.mem_cons_self
    rw [S4] at this; cases this
   rw [if_neg hn, ih (o ++ [c]) (by simpa using h)]
   simp
 have := this l [] (by simpa using h)
 simpa [once] using this
theorem Xh {l : List Cl} : apart l = true ↔ ∀ a, a ∈ l → ∀ b, b ∈ l → a = b ∨ below a b = false := by
 unfold apart
 simp only [List.all_eq_true, Bool.or_eq_true, decide_eq_true_eq, Bool.not_eq_true']
theorem K8 {l : List Cl} {c : Cl} : Ck l c = false ↔ ∀ d, d ∈ l → c = d ∨ below c d = false := by
 unfold Ck
 rw [List.any_eq_false]
 constructor
 ·intro h d hd
  have := h d hd
  simp only [Bool.and_eq_true, Bool.not_eq_true', decide_eq_false_iff_not, not_and, Bool.not_eq_true] at this
  by_cases e : c = d
  ·exact .inl e
  ·exact .inr (this e)
 ·intro h d hd
  simp only [Bool.and_eq_true, Bool.not_eq_true', decide_eq_false_iff_not, not_and, Bool.not_eq_true]
  intro e
  exact (h d hd).resolve_left e
theorem Ra {l : List Cl} {r : Int × List Cl} (h : J6 l r) : (decide (r.1 = 0) && decide (r.2 = l)) = A9 l := by
 rw [Bool.eq_iff_iff, Bool.and_eq_true, decide_eq_true_eq, decide_eq_true_eq]
 unfold J6 at h
 constructor
 ·rintro ⟨h1, h2⟩
  split at h
  ·rw [h] at h1; cases h1
  ·rename_i hr
   split at h
   ·rw [h] at h1; cases h1
   ·rename_i h64
    obtain ⟨_, hp, hs⟩ := h
    rw [h2] at hp hs
    have hr' : l.all B3 = true := by simpa using hr
    have hlen := hp.length_eq
    have hk1 : (kept l).length ≤ (once l).length := by unfold kept; exact List.length_filter_le _ _
    have ho := V7 l
    have hkeep : kept l = once l := by
     have : (kept l).Sublist (once l) := by unfold kept; exact List.filter_sublist
     exact this.eq_of_length A2
    have hnd : ∀ c, c ∈ l → Ck (once l) c = false := by
     intro c hc
     have : c ∈ kept l := hp.mem_iff.mp hc
     unfold kept at this
     have := (List.mem_filter.mp this).2
     simpa using this
    have hap : apart l = true := Xh.mpr fun a ha b hb => K8.mp (hnd a ha) b ((Ou b l).mpr hb)
    have hnodup : (once l).Nodup := by
     have : ∀ (m o : List Cl), o.Nodup → (m.foldl (fun o c => if c ∈ o then o else o ++ [c]) o).Nodup := by
      intro m
      induction m with
      | nil => intro o h; exact h
      | cons c m ih =>
       intro o h
       rw [List.foldl_cons]
       apply ih
       split
       ·exact h
       ·rename_i hn
        rw [List.nodup_append]
        refine ⟨h, by simp, ?_⟩
        intro a ha b hb e
        rw [List.mem_singleton] at hb
        exact hn (hb ▸ e ▸ ha)
     exact this l [] List.nodup_nil
    have hln : l.Nodup := (hp.nodup_iff).mpr (hkeep ▸ hnodup)
    have hst : Pe l = true := by
     rw [Na]
     have hboth : l.Pairwise fun a b => Cr b a = false ∧ a ≠ b := hs.and hln
     exact hboth.imp fun {a b} ⟨h3, h4⟩ => by
      rcases Oz a b with h5 | h5 | h5
      ·exact h5
      ·exact absurd h5 h4
      ·rw [h3] at h5; cases h5
    unfold A9
    rw [hr', hst, hap]
    simp; omega
 ·intro hf
  unfold A9 at hf
  simp only [Bool.and_eq_true, decide_eq_true_eq] at hf
  obtain ⟨⟨⟨hr, hs⟩, ha⟩, h64⟩ := hf
  have hs' := Na.mp hs
  have ho := A2y hs'
  have hk : kept l = l := by
   unfold kept
   rw [ho, List.filter_eq_self]
   intro c hc
   have : Ck l c = false := K8.mpr fun d hd => Xh.mp ha c hc d hd
   simp [this]
  rw [hr, if_neg Jv, hk, if_neg A2] at h
  exact ⟨h.1, A3w h.2.1 h.2.2 (hs'.imp fun h => Pr h)⟩
def Fw (s : Nat) (i : Int) : Bool := decide (0 ≤ i) && decide (i < 24) && s.testBit i.toNat
theorem Pt (s : Nat) (i : Int) : Fw s i = (decide (0 ≤ i) && decide (i < 24) && decide (s / 2 ^ i.toNat % 2 = 1)) := by
 unfold Fw; rw [Nat.testBit_eq_decide_div_mod_eq]
def Bx (s n : Nat) : List Int := ((List.range n).filter s.testBit).map fun (i : Nat) => (i : Int)
abbrev A3 (s : Nat) : List Int := Bx s 24
theorem Gc (s n : Nat) : Bx s (n + 1) = if s.testBit n then Bx s n ++ [(n : Int)] else Bx s n := by
 unfold Bx
 rw [List.range_succ, List.filter_append]
 cases h : s.testBit n <;> simp [h]
theorem L1 {s n : Nat} {x : Int} (h : x ∈ Bx s n) : 0 ≤ x ∧ x < n := by
 unfold Bx at h
 simp only [List.mem_map, List.mem_filter, List.mem_range] at h
 obtain ⟨i, ⟨h1, _⟩, rfl⟩ := h
 omega
theorem E9 {s n : Nat} {x : Int} : x ∈ Bx s n ↔ 0 ≤ x ∧ x < n ∧ s.testBit x.toNat = true := by
 unfold Bx
 simp only [List.mem_map, List.mem_filter, List.mem_range]
 constructor
 ·rintro ⟨i, ⟨h1, h2⟩, rfl⟩; exact ⟨by omega, by omega, by simpa using h2⟩
 ·rintro ⟨h1, h2, h3⟩; exact ⟨x.toNat, ⟨by omega, h3⟩, by omega⟩
theorem Gg (s n : Nat) : (Bx s n).length ≤ n := by
 unfold Bx
 rw [List.length_map]
 have := List.length_filter_le s.testBit (List.range n)
 simpa using this
def Hb (l : List Int) : Nat := (l.map fun x => 2 ^ x.toNat).sum
def Uw (l : List Int) (i : Nat) : Nat := Hb (l.take i)
theorem B4k (l : List Int) : Uw l 0 = 0 := by simp [Uw, Hb]
theorem C1q (l : List Int) : Uw l l.length = Hb l := by simp [Uw]
theorem B4l {l : List Int} {i : Nat} (h : i < l.length) : Uw l (i + 1) = Uw l i + 2 ^ (l.getD i 0).toNat := by
 unfold Uw Hb; rw [Ag (d := 0) h, List.map_append, List.sum_append]; simp
theorem D1v {l : List Int} (h : ∀ x, x ∈ l → 0 ≤ x ∧ x < 24) : Hb l ≤ l.length * 8388608 := by
 unfold Hb
 induction l with
 | nil => simp
 | cons a l ih =>
  have h1 := ih (fun x hx => h x (List.mem_cons_of_mem _ hx))
  have h2 := h a List.mem_cons_self
  have h3 : 2 ^ a.toNat ≤ 8388608 := Nat.pow_le_pow_right (n := 2) (j := 23) A2 A2
  simp only [List.map_cons, List.sum_cons, List.length_cons]
  generalize 2 ^ a.toNat = q at *
  omega
theorem C5r {l : List Int} (h : ∀ x, x ∈ l → 0 ≤ x ∧ x < 24) (i : Nat) : Uw l i ≤ l.length * 8388608 := by
 have h1 := D1v (l := l.take i) (fun x hx => h x (List.mem_of_mem_take hx))
 have h2 : (l.take i).length ≤ l.length := by simp; omega
 exact Nat.le_trans h1 (Nat.mul_le_mul_right 8388608 h2)
theorem Xp (s : Nat) : ∀ n, Hb (Bx s n) = s % 2 ^ n
 | 0 => by
  have h : Bx s 0 = [] := by unfold Bx; rw [List.range_zero, List.filter_nil, List.map_nil]
  rw [h, Nat.pow_zero, Nat.mod_one, Hb, List.map_nil, List.sum_nil]
 | n + 1 => by
  rw [Gc, Nat.mod_pow_succ]
  have ih := Xp s n
  have hb := Nat.testBit_eq_decide_div_mod_eq (x := s) (i := n)
  by_cases h : s / 2 ^ n % 2 = 1
  ·rw [hb, decide_eq_true h, if_pos rfl, h]
   have e : Hb (Bx s n ++ [(n : Int)]) = Hb (Bx s n) + 2 ^ n := by simp [Hb]
   rw [e, ih, Nat.mul_one]
  ·have h0 : s / 2 ^ n % 2 = 0 := by omega
   rw [hb, decide_eq_false h, if_neg D6, h0, ih]; simp
theorem Yg (s : Nat) : s &&& 16777215 = s % 2 ^ 24 := by
 rw [show (16777215 : Nat) = 2 ^ 24 - 1 from rfl, Nat.and_two_pow_sub_one_eq_mod]
theorem Tk (s : Nat) : Hb (A3 s) = s &&& 16777215 := by rw [Xp, Yg]
theorem I3 {p : Nat → Prop} {i : Nat} (h : ∀ j, j < i → p j) (hi : p i) : ∀ j, j < i + 1 → p j := fun j hj => by
 rcases Nat.lt_succ_iff_lt_or_eq.mp hj with h2 | h2
 ·exact h j h2
 ·exact h2 ▸ hi
theorem W7 {α : Type} {d : α} {l : List α} {g : α → Bool} (h : ∀ j, j < l.length → g (l.getD j d) = false) : l.any g = false := by
 rw [List.any_eq_false]
 intro x hx
 obtain ⟨j, hj, e⟩ := List.mem_iff_getElem.mp hx
 have := h j hj
 rw [D0 (d := d) hj, e] at this
 simp [this]
theorem Yf {α : Type} {d : α} {l : List α} {g : α → Bool} {i : Nat} (hi : i < l.length) (h : g (l.getD i d) = true) : l.any g = true := List.any_eq_true.mpr ⟨_, Aa hi, h⟩
theorem Lh {α : Type} {d : α} {l : List α} {g : α → Bool} (h : ∀ j, j < l.length → g (l.getD j d) = true) : l.all g = true := by
 rw [List.all_eq_true]
 intro x hx
 obtain ⟨j, hj, e⟩ := List.mem_iff_getElem.mp hx
 have := h j hj
 rwa [D0 (d := d) hj, e] at this
theorem Kh {α : Type} {d : α} {l : List α} {g : α → Bool} {i : Nat} (hi : i < l.length) (h : g (l.getD i d) = false) : l.all g = false := by
 rw [List.all_eq_false]
 exact ⟨l.getD i d, Aa hi, by rw [h]; decide⟩
def Lk (c : Cl) : Bool := (List.range 24).any fun i => Fw c.pos (i : Int) && Fw c.neg (i : Int)
theorem Wu {c : Cl} (h : B3 c = true) : Lk c = Lf c := by
 simp only [B3, Bool.and_eq_true, decide_eq_true_eq] at h
 rw [Bool.eq_iff_iff]
 unfold Lk Lf
 rw [List.any_eq_true, decide_eq_true_eq]
 constructor
 ·rintro ⟨i, hi, hb⟩ h0
  simp only [Fw, Bool.and_eq_true, decide_eq_true_eq, Int.toNat_natCast] at hb
  have := congrArg (fun n => Nat.testBit n i) h0
  simp only [Nat.testBit_and, Nat.zero_testBit] at this
  rw [hb.1.2, hb.2.2] at this
  cases this
 ·intro h0
  obtain ⟨i, hi⟩ : ∃ i, (c.pos &&& c.neg).testBit i = true := by
   apply Classical.byContradiction
   intro hn
   exact h0 (Nat.eq_of_testBit_eq fun i => by
    rw [Nat.zero_testBit]
    cases hb : (c.pos &&& c.neg).testBit i
    ·rfl
    ·exact absurd ⟨i, hb⟩ hn)
  rw [Nat.testBit_and, Bool.and_eq_true] at hi
  have hlt : i < 24 := by
   apply Classical.byContradiction
   intro hge
   have : c.pos.testBit i = false := Nat.testBit_lt_two_pow (Nat.lt_of_lt_of_le h.1 (Nat.pow_le_pow_right (n := 2) A2 (show 24 ≤ i by omega)))
   rw [this] at hi; cases hi.1
  exact ⟨i, List.mem_range.mpr hlt, by simp [Fw, hi.1, hi.2]; omega⟩
def O0 (c : Cl) : List Cl → List Cl
 | [] => [c]
 | d :: l => if Cr d c then d :: O0 c l else if d = c then d :: l else c :: d :: l
def rl (l : List Cl) (m : List Cl) : List Cl := m.foldl (fun o c => if Ck l c then o else O0 c o) []
def Di (l : List Cl) (i : Nat) : List Cl := rl l (l.take i)
abbrev E8 (l : List Cl) : List Cl := rl l l
theorem A4f (l : List Cl) : Di l 0 = [] := by simp [Di, rl]
theorem B0d (l : List Cl) : Di l l.length = E8 l := by simp [Di]
theorem Wq {l : List Cl} {i : Nat} (h : i < l.length) : Di l (i + 1) = if Ck l (l.getD i B1) then Di l i else O0 (l.getD i B1) (Di l i) := by
 unfold Di rl; rw [Ag (d := B1) h, List.foldl_append]; rfl
theorem A0y {c x : Cl} : ∀ {l : List Cl}, x ∈ O0 c l ↔ x = c ∨ x ∈ l
 | [] => by simp [O0]
 | d :: l => by
  unfold O0
  split
  ·rw [List.mem_cons, A0y (l := l), List.mem_cons]
   constructor
   ·rintro (h | h | h)
    ·exact .inr (.inl h)
    ·exact .inl h
    ·exact .inr (.inr h)
   ·rintro (h | h | h)
    ·exact .inr (.inl h)
    ·exact .inl h
    ·exact .inr (.inr h)
  ·split
   ·rename_i h
    subst h
    simp
   ·simp
theorem B2d (c : Cl) : ∀ l : List Cl, (O0 c l).length ≤ l.length + 1
 | [] => by simp [O0]
 | d :: l => by
  unfold O0
  have := B2d c l
  split
  ·simp; omega
  ·split <;> simp
theorem Y5 {c : Cl} : ∀ {l : List Cl}, (l.Pairwise fun a b => Cr a b = true) → (O0 c l).Pairwise fun a b => Cr a b = true
 | [], _ => by simp [O0]
 | d :: l, h => by
  rw [List.pairwise_cons] at h
  unfold O0
  split
  ·rename_i hd
   rw [List.pairwise_cons]
   refine ⟨fun x hx => ?_, Y5 h.2⟩
   rcases A0y.mp hx with e | e
   ·exact e ▸ hd
   ·exact h.1 x e
  ·rename_i hd
   split
   ·exact List.pairwise_cons.mpr h
   ·rename_i hne
    have hcd : Cr c d = true := by
     rcases Oz c d with h3 | h3 | h3
     ·exact h3
     ·exact absurd h3.symm hne
     ·exact absurd h3 hd
    rw [List.pairwise_cons]
    refine ⟨fun x hx => ?_, List.pairwise_cons.mpr h⟩
    rcases List.mem_cons.mp hx with e | e
    ·exact e ▸ hcd
    ·exact Y2 hcd (h.1 x e)
theorem A4e (l : List Cl) : ∀ (m o : List Cl), (o.Pairwise fun a b => Cr a b = true) → (m.foldl (fun o c => if Ck l c then o else O0 c o) o).Pairwise fun a b => Cr a b = true
 | [], o, h => h
 | c :: m, o, h => by
  rw [List.foldl_cons]
  apply A4e l m
  split
  ·exact h
  ·exact Y5 h
theorem B5b (l : List Cl) (x : Cl) : ∀ (m o : List Cl), x ∈ m.foldl (fun o c => if Ck l c then o else O0 c o) o ↔ x ∈ o ∨ (x ∈ m ∧ Ck l x = false)
 | [], o => by simp
 | c :: m, o => by
  rw [List.foldl_cons, B5b l x m]
  by_cases hn : Ck l c = true
  ·rw [if_pos hn, List.mem_cons]
   constructor
   ·rintro (h | ⟨h, h2⟩)
    ·exact .inl h
    ·exact .inr ⟨.inr h, h2⟩
   ·rintro (h | ⟨h | h, h2⟩)
    ·exact .inl h
    ·subst h; rw [hn] at h2; cases h2
    ·exact .inr ⟨h, h2⟩
  ·rw [if_neg hn, A0y, List.mem_cons]
   constructor
   ·rintro ((h | h) | ⟨h, h2⟩)
    ·subst h; exact .inr ⟨.inl rfl, by simpa using hn⟩
    ·exact .inl h
    ·exact .inr ⟨.inr h, h2⟩
   ·rintro (h | ⟨h | h, h2⟩)
    ·exact .inl (.inr h)
    ·exact .inl (.inl h)
    ·exact .inr ⟨h, h2⟩
theorem Hc {l : List Cl} {x : Cl} : x ∈ E8 l ↔ x ∈ l ∧ Ck l x = false := by
 have := B5b l x l []
 simpa [E8, rl] using this
theorem J5 (l : List Cl) : (E8 l).Pairwise fun a b => Cr a b = true := A4e l l [] List.Pairwise.nil
theorem Zm (l : List Cl) (i : Nat) : (Di l i).length ≤ i := by
 have : ∀ (m o : List Cl), (m.foldl (fun o c => if Ck l c then o else O0 c o) o).length ≤ o.length + m.length := by
  intro m
  induction m with
  | nil => intro o; simp
  | cons c m ih =>
   intro o
   rw [List.foldl_cons]
   have h1 := ih (if Ck l c then o else O0 c o)
   have h2 : (if Ck l c = true then o else O0 c o).length ≤ o.length + 1 := by
    split
    ·omega
    ·exact B2d c o
   simp only [List.length_cons]; omega
 have := this (l.take i) []
 unfold Di rl
 simp at this ⊢
 omega
theorem B8i {l : List Cl} {i : Nat} {c : Cl} (h : c ∈ Di l i) : c ∈ l := by
 have := (B5b l c (l.take i) []).mp h
 rcases this with h | h
 ·cases h
 ·exact List.mem_of_mem_take h.1
theorem Ti : ∀ {l m : List Cl}, (l.Pairwise fun a b => Cr a b = true) → (m.Pairwise fun a b => Cr a b = true) → (∀ x, x ∈ l ↔ x ∈ m) → l = m
 | [], [], _, _, _ => rfl
 | [], b :: m, _, _, h => by have := (h b).mpr List.mem_cons_self; cases this
 | a :: l, [], _, _, h => by have := (h a).mp List.mem_cons_self; cases this
 | a :: l, b :: m, h1, h2, h => by
  rw [List.pairwise_cons] at h1 h2
  have e : a = b := by
   rcases List.mem_cons.mp ((h a).mp List.mem_cons_self) with h3 | h3
   ·exact h3
   ·rcases List.mem_cons.mp ((h b).mpr List.mem_cons_self) with h4 | h4
    ·exact h4.symm
    ·have h5 := h2.1 a h3
     have h6 := h1.1 b h4
     rw [Pr h5] at h6; cases h6
  subst e
  congr 1
  apply Ti h1.2 h2.2
  intro x
  have hx := h x
  rw [List.mem_cons, List.mem_cons] at hx
  constructor
  ·intro h3
   rcases hx.mp (.inr h3) with h4 | h4
   ·subst h4; have := h1.1 x h3; rw [S4] at this; cases this
   ·exact h4
  ·intro h3
   rcases hx.mpr (.inr h3) with h4 | h4
   ·subst h4; have := h2.1 x h3; rw [S4] at this; cases this
   ·exact h4
theorem A3a (l : List Cl) (c : Cl) : Ck (once l) c = Ck l c := by
 unfold Ck
 rw [Bool.eq_iff_iff, List.any_eq_true, List.any_eq_true]
 constructor
 ·rintro ⟨d, h1, h2⟩; exact ⟨d, (Ou d l).mp h1, h2⟩
 ·rintro ⟨d, h1, h2⟩; exact ⟨d, (Ou d l).mpr h1, h2⟩
theorem B5o (l : List Cl) : (once l).Nodup := by
 have : ∀ (m o : List Cl), o.Nodup → (m.foldl (fun o c => if c ∈ o then o else o ++ [c]) o).Nodup := by
  intro m
  induction m with
  | nil => intro o h; exact h
  | cons c m ih =>
   intro o h
   rw [List.foldl_cons]
   apply ih
   split
   ·exact h
   ·rename_i hn
    rw [List.nodup_append]
    refine ⟨h, by simp, ?_⟩
    intro a ha b hb e
    rw [List.mem_singleton] at hb
    exact hn (hb ▸ e ▸ ha)
 exact this l [] List.nodup_nil
theorem A3x (l : List Cl) : ∃ m, A9b l m := by
 refine ⟨l.mergeSort (fun a b => !Cr b a), List.mergeSort_perm _ _, ?_⟩
 have := List.pairwise_mergeSort (le := fun a b => !Cr b a) (fun a b c h1 h2 => by
  simp only [Bool.not_eq_true'] at *
  simp only [Cr, Bool.or_eq_false_iff, Bool.and_eq_false_iff, decide_eq_false_iff_not] at *
  omega) (fun a b => by
  rcases Oz a b with h | h | h
  ·simp [Pr h]
  ·subst h; simp [S4]
  ·simp [Pr h]) l
 exact this.imp fun h => by simpa using h
theorem A3y {l m : List Cl} (h : A9b (kept l) m) : m = E8 l := by
 have hnd : m.Nodup := (h.1.nodup_iff).mpr (by unfold kept; exact (B5o l).filter _)
 have hb : m.Pairwise fun a b => Cr b a = false ∧ a ≠ b := h.2.and hnd
 refine Ti ?_ (J5 l) (fun x => ?_)
 ·exact hb.imp fun {a b} ⟨h3, h4⟩ => by
   rcases Oz a b with h5 | h5 | h5
   ·exact h5
   ·exact absurd h5 h4
   ·rw [h3] at h5; cases h5
 ·rw [h.1.mem_iff, Hc]
  unfold kept
  rw [List.mem_filter, Ou, A3a]
  simp
def B2 (l : List Cl) : Int × List Cl := if l.all B3 = false then (2, []) else if 64 < (E8 l).length then (3, []) else (0, E8 l)
theorem A0t {l : List Cl} {r : Int × List Cl} (h : J6 l r) : r = B2 l := by
 unfold J6 at h
 unfold B2
 by_cases h1 : l.all B3 = false
 ·rw [if_pos h1] at h ⊢; exact h
 ·rw [if_neg h1] at h ⊢
  by_cases h2 : 64 < (kept l).length
  ·have h3 : (kept l).length = (E8 l).length := by
    obtain ⟨m, hm⟩ := A3x (kept l)
    rw [← hm.1.length_eq, A3y hm]
   rw [if_pos h2] at h
   rw [if_pos A2]; exact h
  ·rw [if_neg h2] at h
   have e := A3y h.2
   have h3 : (kept l).length = (E8 l).length := by rw [← h.2.1.length_eq, e]
   rw [if_neg A2]
   exact Prod.ext h.1 e
theorem Ps (l : List Cl) : (decide ((B2 l).1 = 0) && decide ((B2 l).2 = l)) = A9 l := by
 obtain ⟨r, hr⟩ : ∃ r, J6 l r := by
  unfold J6
  by_cases h1 : l.all B3 = false
  ·exact ⟨_, by rw [if_pos h1]⟩
  ·by_cases h2 : 64 < (kept l).length
   ·exact ⟨_, by rw [if_neg h1, if_pos h2]⟩
   ·obtain ⟨m, hm⟩ := A3x (kept l)
    exact ⟨(0, m), by rw [if_neg h1, if_neg h2]; exact ⟨rfl, hm⟩⟩
 rw [← A0t hr]
 exact Ra hr
theorem A8e {c : Cl} : ∀ {l : List Cl} {k : Nat}, k ≤ l.length → (∀ j, j < k → Cr (l.getD j B1) c = true) → (k < l.length → Cr (l.getD k B1) c = false) → O0 c l = if k < l.length ∧ l.getD k B1 = c then l else l.take k ++ [c] ++ l.drop k
 | [], k, hk, h1, h2 => by simp at hk; subst hk; simp [O0]
 | d :: l, 0, hk, h1, h2 => by
  have h := h2 D6
  simp only [List.getD_cons_zero] at h
  unfold O0
  rw [h, if_neg Jv]
  simp
 | d :: l, k + 1, hk, h1, h2 => by
  have h := h1 0 A2
  simp only [List.getD_cons_zero] at h
  unfold O0
  rw [if_pos h, A8e (l := l) (k := k) (by simpa using hk) (fun j hj => by simpa using h1 (j + 1) A2) (fun hlt => by simpa using h2 (by simpa using hlt))]
  simp only [List.length_cons, List.getD_cons_succ, List.take_succ_cons, List.drop_succ_cons, List.cons_append, Nat.add_lt_add_iff_right]
  split <;> rfl
def D6g (t : T) (ks : List Nat) (bs : List (List Nat)) : Nat := 1 + t.r.length + t.name.size + ks.sum + ((t.sys.zip bs).map fun p => 1 + p.1.B9.length + p.2.sum).sum
def J3 : T → Nat := tf D6g
def Rk (b : Br) : Nat := 1 + b.B9.length + (b.kids.map J3).sum
theorem W6 (t : T) : J3 t = 1 + t.r.length + t.name.size + (t.kids.map J3).sum + (t.sys.map Rk).sum := by
 conv => lhs; rw [J3, D5g]
 unfold D6g
 congr 2
 generalize t.sys = l
 induction l with
 | nil => rfl
 | cons b l ih => simp only [List.map_cons, List.zip_cons_cons, List.map_cons]; rw [ih]; rfl
def bK (t : T) (i : Nat) : Nat := 1 + t.r.length + t.name.size + ((t.kids.take i).map J3).sum
def bS (t : T) (i : Nat) : Nat := bK t t.kids.length + ((t.sys.take i).map Rk).sum
def bJ (t : T) (i j : Nat) : Nat := bS t i + 1 + (t.sys.getD i Bk).B9.length + (((t.sys.getD i Bk).kids.take j).map J3).sum
theorem Nx {α : Type} (f : α → Nat) {l : List α} {i : Nat} {d : α} (h : i < l.length) : ((l.take (i + 1)).map f).sum = ((l.take i).map f).sum + f (l.getD i d) := by
 rw [Ag (d := d) h, List.map_append, List.sum_append]; simp
theorem N8 {α : Type} (f : α → Nat) : ∀ (l : List α) (i : Nat), ((l.take i).map f).sum ≤ (l.map f).sum
 | [], i => by simp
 | a :: l, 0 => by simp
 | a :: l, i + 1 => by have := N8 f l i; simp only [List.take_succ_cons, List.map_cons, List.sum_cons]; omega
theorem A8t (t : T) : bK t 0 = 1 + t.r.length + t.name.size := by simp [bK]
theorem D4q {t : T} {i : Nat} (h : i < t.kids.length) : bK t (i + 1) = bK t i + J3 (t.kids.getD i t0) := by
 unfold bK; rw [Nx J3 h (d := t0)]; omega
theorem D4p (t : T) : bS t 0 = bK t t.kids.length := by simp [bS]
theorem C0o (t : T) (i : Nat) : bJ t i 0 = bS t i + 1 + (t.sys.getD i Bk).B9.length := by simp [bJ]
theorem D4r {t : T} {i j : Nat} (h : j < (t.sys.getD i Bk).kids.length) : bJ t i (j + 1) = bJ t i j + J3 ((t.sys.getD i Bk).kids.getD j t0) := by
 unfold bJ; rw [Nx J3 h (d := t0)]; omega
theorem A8s {t : T} {i : Nat} (h : i < t.sys.length) : bS t (i + 1) = bJ t i (t.sys.getD i Bk).kids.length := by
 unfold bS bJ bS; rw [Nx Rk h (d := Bk), List.take_length]; unfold Rk; omega
theorem E1w (t : T) : bS t t.sys.length = J3 t := by
 rw [W6]; unfold bS bK; rw [List.take_length, List.take_length]
theorem D6j (t : T) (i : Nat) : bS t i ≤ J3 t := by
 rw [W6]; unfold bS bK; rw [List.take_length]; have := N8 Rk t.sys i; omega
theorem C0n (t : T) (i : Nat) : bK t i ≤ J3 t := by
 rw [W6]; unfold bK; have := N8 J3 t.kids i; omega
theorem D6k {t : T} {i j : Nat} (h : i < t.sys.length) : bJ t i j ≤ J3 t := by
 have h1 := D6j t (i + 1)
 rw [A8s h] at h1
 unfold bJ at h1 ⊢
 rw [List.take_length] at h1
 have := N8 J3 (t.sys.getD i Bk).kids j
 omega
def G2 (t : T) (part : Nat) (Da n : Int) : Prop := 0 ≤ n ∧ n ≤ 2 * Da + 1 ∧ ((n ≤ Da ∧ n = part) ∨ (Da < n ∧ Da < J3 t))
theorem A6x : ∀ t, size t ≤ J3 t := T.ind fun t ih => by
 have hk : ∀ (F G : T → Nat) (l : List T), (∀ k, k ∈ l → F k ≤ G k) → (l.map F).sum ≤ (l.map G).sum := by
  intro F G l
  induction l with
  | nil => intro _; simp
  | cons a l ih => intro h; have := ih (fun k hk => h k (List.mem_cons_of_mem _ hk)); have := h a List.mem_cons_self; simp only [List.map_cons, List.sum_cons]; omega
 have e : size t = 1 + ((parts t).map fun p => size p.1).sum := by
  rw [size_eq]
  have : ∀ (l : List Part) (a : Nat), l.foldl (fun a p => a + size p.1) a = a + (l.map fun p => size p.1).sum := by
   intro l
   induction l with
   | nil => intro a; simp
   | cons b l ih => intro a; rw [List.foldl_cons, ih]; simp; omega
  exact this _ _
 rw [e, M7, W6, List.sum_append]
 have h1 := hk size J3 t.kids (fun k hk => by obtain ⟨p, hp, e⟩ := Hn hk; exact e ▸ ih p hp)
 have h2 : ((t.sys.map fun b => b.kids.map size).flatten).sum ≤ (t.sys.map Rk).sum := by
  have : ∀ (l : List Br), (∀ b, b ∈ l → b ∈ t.sys) → ((l.map fun b => b.kids.map size).flatten).sum ≤ (l.map Rk).sum := by
   intro l
   induction l with
   | nil => intro _; simp
   | cons b l ih2 =>
    intro h
    have h3 := ih2 (fun b hb => h b (List.mem_cons_of_mem _ hb))
    have h4 := hk size J3 b.kids (fun k hk => by obtain ⟨p, hp, e⟩ := Hk (h b List.mem_cons_self) hk; exact e ▸ ih p hp)
    simp only [List.map_cons, List.flatten_cons, List.sum_append, List.sum_cons]
    have hb : Rk b = 1 + b.B9.length + (b.kids.map J3).sum := rfl
    rw [hb]
    omega
  exact this t.sys (fun _ h => h)
 omega
end Go.Hy
namespace Go.Proofs.YtibignmpjeemeaaGreatDoor.Hy
open Go.Proofs
set_option maxRecDepth 100000
set_option maxHeartbeats 8000000
def D6x : Nat → Option (TypeDesc)
 | 1 => some (.func #[] #[] false)
 | 2 => some (.int .i64)
 | 3 => some (.int .i64)
 | 4 => some (.bool)
 | 5 => some (.int .u8)
 | 9 => some (.string)
 | 12 => some (.int .u64)
 | 20 => some (.interface #[])
 | 21 => some (.int .i32)
 | 22 => some (.slice 107)
 | 23 => some (.slice 26)
 | 24 => some (.slice 77)
 | 27 => some (.slice 22)
 | 30 => some (.func #[26] #[4] false)
 | 31 => some (.func #[29] #[4] false)
 | 32 => some (.func #[] #[4] false)
 | 33 => some (.func #[26] #[26] false)
 | 34 => some (.int .i64)
 | 36 => some (.func #[26, 37] #[26, 34] false)
 | 39 => some (.func #[26, 29] #[26, 3] false)
 | 40 => some (.func #[26, 26] #[4] false)
 | 41 => some (.func #[26, 29] #[4] false)
 | 42 => some (.func #[26, 3, 3] #[34] false)
 | 45 => some (.func #[26, 3, 3] #[4] false)
 | 71 => some (.func #[26, 3, 22] #[26, 34] false)
 | 73 => some (.func #[26, 3, 22] #[4] false)
 | 88 => some (.func #[22] #[4] false)
 | 89 => some (.int .u32)
 | 91 => some (.int .u64)
 | 92 => some (.func #[22] #[22, 34] false)
 | 93 => some (.func #[22, 22] #[22, 34] false)
 | 102 => some (.func #[27, 22] #[27, 34] false)
 | 105 => some (.func #[23, 26] #[23, 34] false)
 | 109 => some (.pointer 111)
 | 118 => some (.func #[22, 3] #[22, 34] false)
 | 119 => some (.func #[22, 3] #[22, 34] false)
 | 138 => some (.func #[92] #[118] false)
 | 140 => some (.slice 3)
 | 142 => some (.func #[22, 107] #[22, 34] false)
 | 168 => some (.func #[107, 3, 3] #[107, 34] false)
 | 172 => some (.map 107 4)
 | 173 => some (.func #[107] #[4] false)
 | 177 => some (.func #[107, 107] #[3] false)
 | 186 => some (.func #[26, 3, 22, 3, 4] #[26] false)
 | 187 => some (.func #[3, 26, 26, 26] #[26] false)
 | 188 => some (.func #[3, 23] #[26] false)
 | 193 => some (.func #[] #[26] false)
 | 197 => some (.func #[22, 198] #[22] false)
 | 198 => some (.func #[107] #[107, 4] false)
 | 199 => some (.func #[] #[37, 34] false)
 | 200 => some (.array 29 3)
 | 217 => some (.int .u64)
 | 220 => some (.int .i64)
 | 228 => some (.array 32 5)
 | 237 => some (.pointer 3)
 | 251 => some (.pointer 5)
 | _ => none
def D6y : Nat → Option (Nat × Nat × Value)
 | 1 => some (1, 8, .nilFunc)
 | 2 => some (1, 8, .int .i64 0)
 | 3 => some (1, 8, .int .i64 0)
 | 4 => some (1, 1, .bool false)
 | 5 => some (1, 1, .int .u8 0)
 | 9 => some (1, 16, .string ⟨#[]⟩)
 | 12 => some (1, 8, .int .u64 0)
 | 21 => some (1, 4, .int .i32 0)
 | 22 => some (1, 24, .slice none 0 0)
 | 23 => some (1, 24, .slice none 0 0)
 | 24 => some (1, 24, .slice none 0 0)
 | 25 => some (6, 104, .agg #[.int .i64 0, .int .i64 0, .string ⟨#[]⟩, .slice none 0 0, .slice none 0 0, .slice none 0 0])
 | 26 => some (6, 104, .agg #[.int .i64 0, .int .i64 0, .string ⟨#[]⟩, .slice none 0 0, .slice none 0 0, .slice none 0 0])
 | 27 => some (1, 24, .slice none 0 0)
 | 28 => some (2, 48, .agg #[.slice none 0 0, .slice none 0 0])
 | 29 => some (2, 48, .agg #[.slice none 0 0, .slice none 0 0])
 | 30 => some (1, 8, .nilFunc)
 | 31 => some (1, 8, .nilFunc)
 | 32 => some (1, 8, .nilFunc)
 | 33 => some (1, 8, .nilFunc)
 | 34 => some (1, 8, .int .i64 0)
 | 36 => some (1, 8, .nilFunc)
 | 37 => some (2, 48, .agg #[.slice none 0 0, .slice none 0 0])
 | 39 => some (1, 8, .nilFunc)
 | 40 => some (1, 8, .nilFunc)
 | 41 => some (1, 8, .nilFunc)
 | 42 => some (1, 8, .nilFunc)
 | 45 => some (1, 8, .nilFunc)
 | 71 => some (1, 8, .nilFunc)
 | 73 => some (1, 8, .nilFunc)
 | 76 => some (2, 48, .agg #[.slice none 0 0, .slice none 0 0])
 | 77 => some (2, 48, .agg #[.slice none 0 0, .slice none 0 0])
 | 88 => some (1, 8, .nilFunc)
 | 89 => some (1, 4, .int .u32 0)
 | 91 => some (1, 8, .int .u64 0)
 | 92 => some (1, 8, .nilFunc)
 | 93 => some (1, 8, .nilFunc)
 | 94 => some (4, 32, .agg #[.nilFunc, .nilFunc, .nilFunc, .nilFunc])
 | 95 => some (4, 32, .agg #[.nilFunc, .nilFunc, .nilFunc, .nilFunc])
 | 102 => some (1, 8, .nilFunc)
 | 105 => some (1, 8, .nilFunc)
 | 106 => some (2, 8, .agg #[.int .u32 0, .int .u32 0])
 | 107 => some (2, 8, .agg #[.int .u32 0, .int .u32 0])
 | 109 => some (1, 8, .pointer none)
 | 110 => some (1, 8, .agg #[.int .i64 0])
 | 111 => some (1, 8, .agg #[.int .i64 0])
 | 118 => some (1, 8, .nilFunc)
 | 119 => some (1, 8, .nilFunc)
 | 120 => some (2, 16, .agg #[.nilFunc, .nilFunc])
 | 121 => some (2, 16, .agg #[.nilFunc, .nilFunc])
 | 138 => some (1, 8, .nilFunc)
 | 140 => some (1, 24, .slice none 0 0)
 | 142 => some (1, 8, .nilFunc)
 | 168 => some (1, 8, .nilFunc)
 | 172 => some (1, 8, .map none)
 | 173 => some (1, 8, .nilFunc)
 | 177 => some (1, 8, .nilFunc)
 | 186 => some (1, 8, .nilFunc)
 | 187 => some (1, 8, .nilFunc)
 | 188 => some (1, 8, .nilFunc)
 | 190 => some (2, 16, .agg #[.int .i64 0, .int .i64 0])
 | 191 => some (2, 16, .agg #[.int .i64 0, .int .i64 0])
 | 193 => some (1, 8, .nilFunc)
 | 197 => some (1, 8, .nilFunc)
 | 198 => some (1, 8, .nilFunc)
 | 199 => some (1, 8, .nilFunc)
 | 200 => some (29, 232, .agg #[.int .i64 0, .int .i64 0, .int .i64 0, .int .i64 0, .int .i64 0, .int .i64 0, .int .i64 0, .int .i64 0, .int .i64 0, .int .i64 0, .int .i64 0, .int .i64 0, .int .i64 0, .int .i64 0, .int .i64 0, .int .i64 0, .int .i64 0, .int .i64 0, .int .i64 0, .int .i64 0, .int .i64 0, .int .i64 0, .int .i64 0, .int .i64 0, .int .i64 0, .int .i64 0, .int .i64 0, .int .i64 0, .int .i64 0])
 | 217 => some (1, 8, .int .u64 0)
 | 220 => some (1, 8, .int .i64 0)
 | 228 => some (32, 32, .agg #[.int .u8 0, .int .u8 0, .int .u8 0, .int .u8 0, .int .u8 0, .int .u8 0, .int .u8 0, .int .u8 0, .int .u8 0, .int .u8 0, .int .u8 0, .int .u8 0, .int .u8 0, .int .u8 0, .int .u8 0, .int .u8 0, .int .u8 0, .int .u8 0, .int .u8 0, .int .u8 0, .int .u8 0, .int .u8 0, .int .u8 0, .int .u8 0, .int .u8 0, .int .u8 0, .int .u8 0, .int .u8 0, .int .u8 0, .int .u8 0, .int .u8 0, .int .u8 0])
 | 237 => some (1, 8, .pointer none)
 | 251 => some (1, 8, .pointer none)
 | _ => none
def C1k : Nat → Option (List (Nat × Nat))
 | 25 => some ([(0, 1), (1, 1), (2, 1), (3, 1), (4, 1), (5, 1)])
 | 26 => some ([(0, 1), (1, 1), (2, 1), (3, 1), (4, 1), (5, 1)])
 | 28 => some ([(0, 1), (1, 1)])
 | 29 => some ([(0, 1), (1, 1)])
 | 37 => some ([(0, 1), (1, 1)])
 | 76 => some ([(0, 1), (1, 1)])
 | 77 => some ([(0, 1), (1, 1)])
 | 94 => some ([(0, 1), (1, 1), (2, 1), (3, 1)])
 | 95 => some ([(0, 1), (1, 1), (2, 1), (3, 1)])
 | 106 => some ([(0, 1), (1, 1)])
 | 107 => some ([(0, 1), (1, 1)])
 | 110 => some ([(0, 1)])
 | 111 => some ([(0, 1)])
 | 120 => some ([(0, 1), (1, 1)])
 | 121 => some ([(0, 1), (1, 1)])
 | 190 => some ([(0, 1), (1, 1)])
 | 191 => some ([(0, 1), (1, 1)])
 | _ => none
def D6z (t j : Nat) : Option Nat := (C1k t).bind fun l => (l[j]?).map (·.1)
noncomputable abbrev ii_ (t : Nat) := (Tryz.prog.info? t).map fun i => (i.size, i.bytes, i.zero)
theorem E7m : ii_ 1 = some (1, 8, some (.nilFunc)) := by kernel_rfl
theorem E7l : ii_ 2 = some (1, 8, some (.int .i64 0)) := by kernel_rfl
theorem E7k : ii_ 3 = some (1, 8, some (.int .i64 0)) := by kernel_rfl
theorem E7j : ii_ 4 = some (1, 1, some (.bool false)) := by kernel_rfl
theorem E7i : ii_ 5 = some (1, 1, some (.int .u8 0)) := by kernel_rfl
theorem E7h : ii_ 9 = some (1, 16, some (.string ⟨#[]⟩)) := by kernel_rfl
theorem E5w : ii_ 12 = some (1, 8, some (.int .u64 0)) := by kernel_rfl
theorem E5v : ii_ 21 = some (1, 4, some (.int .i32 0)) := by kernel_rfl
theorem E5u : ii_ 22 = some (1, 24, some (.slice none 0 0)) := by kernel_rfl
theorem E5t : ii_ 23 = some (1, 24, some (.slice none 0 0)) := by kernel_rfl
theorem E5s : ii_ 24 = some (1, 24, some (.slice none 0 0)) := by kernel_rfl
theorem E5r : ii_ 25 = some (6, 104, some (.agg #[.int .i64 0, .int .i64 0, .string ⟨#[]⟩, .slice none 0 0, .slice none 0 0, .slice none 0 0])) := by kernel_rfl
theorem E5q : ii_ 26 = some (6, 104, some (.agg #[.int .i64 0, .int .i64 0, .string ⟨#[]⟩, .slice none 0 0, .slice none 0 0, .slice none 0 0])) := by kernel_rfl
theorem E5p : ii_ 27 = some (1, 24, some (.slice none 0 0)) := by kernel_rfl
theorem E5o : ii_ 28 = some (2, 48, some (.agg #[.slice none 0 0, .slice none 0 0])) := by kernel_rfl
theorem E5n : ii_ 29 = some (2, 48, some (.agg #[.slice none 0 0, .slice none 0 0])) := by kernel_rfl
theorem E5m : ii_ 30 = some (1, 8, some (.nilFunc)) := by kernel_rfl
theorem E5l : ii_ 31 = some (1, 8, some (.nilFunc)) := by kernel_rfl
theorem E5k : ii_ 32 = some (1, 8, some (.nilFunc)) := by kernel_rfl
theorem E5j : ii_ 33 = some (1, 8, some (.nilFunc)) := by kernel_rfl
theorem E5i : ii_ 34 = some (1, 8, some (.int .i64 0)) := by kernel_rfl
theorem E5h : ii_ 36 = some (1, 8, some (.nilFunc)) := by kernel_rfl
theorem E5g : ii_ 37 = some (2, 48, some (.agg #[.slice none 0 0, .slice none 0 0])) := by kernel_rfl
theorem E5f : ii_ 39 = some (1, 8, some (.nilFunc)) := by kernel_rfl
theorem E5e : ii_ 40 = some (1, 8, some (.nilFunc)) := by kernel_rfl
theorem E5d : ii_ 41 = some (1, 8, some (.nilFunc)) := by kernel_rfl
theorem E5c : ii_ 42 = some (1, 8, some (.nilFunc)) := by kernel_rfl
theorem E5b : ii_ 45 = some (1, 8, some (.nilFunc)) := by kernel_rfl
theorem E5a : ii_ 71 = some (1, 8, some (.nilFunc)) := by kernel_rfl
theorem E4z : ii_ 73 = some (1, 8, some (.nilFunc)) := by kernel_rfl
theorem E4y : ii_ 76 = some (2, 48, some (.agg #[.slice none 0 0, .slice none 0 0])) := by kernel_rfl
theorem E4x : ii_ 77 = some (2, 48, some (.agg #[.slice none 0 0, .slice none 0 0])) := by kernel_rfl
theorem E4w : ii_ 88 = some (1, 8, some (.nilFunc)) := by kernel_rfl
theorem E4v : ii_ 89 = some (1, 4, some (.int .u32 0)) := by kernel_rfl
theorem E4u : ii_ 91 = some (1, 8, some (.int .u64 0)) := by kernel_rfl
theorem E4t : ii_ 92 = some (1, 8, some (.nilFunc)) := by kernel_rfl
theorem E4s : ii_ 93 = some (1, 8, some (.nilFunc)) := by kernel_rfl
theorem E4r : ii_ 94 = some (4, 32, some (.agg #[.nilFunc, .nilFunc, .nilFunc, .nilFunc])) := by kernel_rfl
theorem E4q : ii_ 95 = some (4, 32, some (.agg #[.nilFunc, .nilFunc, .nilFunc, .nilFunc])) := by kernel_rfl
theorem E1h : ii_ 102 = some (1, 8, some (.nilFunc)) := by kernel_rfl
theorem E1g : ii_ 105 = some (1, 8, some (.nilFunc)) := by kernel_rfl
theorem E1f : ii_ 106 = some (2, 8, some (.agg #[.int .u32 0, .int .u32 0])) := by kernel_rfl
theorem E1e : ii_ 107 = some (2, 8, some (.agg #[.int .u32 0, .int .u32 0])) := by kernel_rfl
theorem E1d : ii_ 109 = some (1, 8, some (.pointer none)) := by kernel_rfl
theorem E1c : ii_ 110 = some (1, 8, some (.agg #[.int .i64 0])) := by kernel_rfl
theorem E1b : ii_ 111 = some (1, 8, some (.agg #[.int .i64 0])) := by kernel_rfl
theorem E1a : ii_ 118 = some (1, 8, some (.nilFunc)) := by kernel_rfl
theorem E0z : ii_ 119 = some (1, 8, some (.nilFunc)) := by kernel_rfl
theorem E0y : ii_ 120 = some (2, 16, some (.agg #[.nilFunc, .nilFunc])) := by kernel_rfl
theorem E0x : ii_ 121 = some (2, 16, some (.agg #[.nilFunc, .nilFunc])) := by kernel_rfl
theorem E0w : ii_ 138 = some (1, 8, some (.nilFunc)) := by kernel_rfl
theorem E0v : ii_ 140 = some (1, 24, some (.slice none 0 0)) := by kernel_rfl
theorem E0u : ii_ 142 = some (1, 8, some (.nilFunc)) := by kernel_rfl
theorem E0t : ii_ 168 = some (1, 8, some (.nilFunc)) := by kernel_rfl
theorem E0s : ii_ 172 = some (1, 8, some (.map none)) := by kernel_rfl
theorem E0r : ii_ 173 = some (1, 8, some (.nilFunc)) := by kernel_rfl
theorem E0q : ii_ 177 = some (1, 8, some (.nilFunc)) := by kernel_rfl
theorem E0p : ii_ 186 = some (1, 8, some (.nilFunc)) := by kernel_rfl
theorem E0o : ii_ 187 = some (1, 8, some (.nilFunc)) := by kernel_rfl
theorem E0n : ii_ 188 = some (1, 8, some (.nilFunc)) := by kernel_rfl
theorem E0m : ii_ 190 = some (2, 16, some (.agg #[.int .i64 0, .int .i64 0])) := by kernel_rfl
theorem E0l : ii_ 191 = some (2, 16, some (.agg #[.int .i64 0, .int .i64 0])) := by kernel_rfl
theorem E0k : ii_ 193 = some (1, 8, some (.nilFunc)) := by kernel_rfl
theorem E0j : ii_ 197 = some (1, 8, some (.nilFunc)) := by kernel_rfl
theorem E0i : ii_ 198 = some (1, 8, some (.nilFunc)) := by kernel_rfl
theorem E0h : ii_ 199 = some (1, 8, some (.nilFunc)) := by kernel_rfl
theorem E0g : ii_ 200 = some (29, 232, some (.agg #[.int .i64 0, .int .i64 0, .int .i64 0, .int .i64 0, .int .i64 0, .int .i64 0, .int .i64 0, .int .i64 0, .int .i64 0, .int .i64 0, .int .i64 0, .int .i64 0, .int .i64 0, .int .i64 0, .int .i64 0, .int .i64 0, .int .i64 0, .int .i64 0, .int .i64 0, .int .i64 0, .int .i64 0, .int .i64 0, .int .i64 0, .int .i64 0, .int .i64 0, .int .i64 0, .int .i64 0, .int .i64 0, .int .i64 0])) := by kernel_rfl
theorem E0f : ii_ 217 = some (1, 8, some (.int .u64 0)) := by kernel_rfl
theorem E0e : ii_ 220 = some (1, 8, some (.int .i64 0)) := by kernel_rfl
theorem E0d : ii_ 228 = some (32, 32, some (.agg #[.int .u8 0, .int .u8 0, .int .u8 0, .int .u8 0, .int .u8 0, .int .u8 0, .int .u8 0, .int .u8 0, .int .u8 0, .int .u8 0, .int .u8 0, .int .u8 0, .int .u8 0, .int .u8 0, .int .u8 0, .int .u8 0, .int .u8 0, .int .u8 0, .int .u8 0, .int .u8 0, .int .u8 0, .int .u8 0, .int .u8 0, .int .u8 0, .int .u8 0, .int .u8 0, .int .u8 0, .int .u8 0, .int .u8 0, .int .u8 0, .int .u8 0, .int .u8 0])) := by kernel_rfl
theorem E0c : ii_ 237 = some (1, 8, some (.pointer none)) := by kernel_rfl
theorem E0b : ii_ 251 = some (1, 8, some (.pointer none)) := by kernel_rfl
theorem Bb {t s b : Nat} {z : Value} (h : ii_ t = some (s, b, some z)) : ∃ i, Tryz.prog.info? t = some i ∧ i.size = s ∧ i.bytes = b ∧ i.zero = some z := by
 obtain ⟨i, h1, h2⟩ := Option.map_eq_some_iff.1 h
 simp only [Prod.mk.injEq] at h2
 exact ⟨i, h1, h2.1, h2.2.1, h2.2.2⟩
theorem D1p : ∀ t d, D6x t = some d → Tryz.prog.underlying t = some d := by
 intro t d h
 unfold D6x at h
 split at h
 ·cases h; exact Tryz.underlying1
 ·cases h; exact Tryz.underlying2
 ·cases h; exact Tryz.underlying3
 ·cases h; exact Tryz.underlying4
 ·cases h; exact Tryz.underlying5
 ·cases h; exact Tryz.underlying9
 ·cases h; exact Tryz.underlying12
 ·cases h; exact Tryz.underlying20
 ·cases h; exact Tryz.underlying21
 ·cases h; exact Tryz.underlying22
 ·cases h; exact Tryz.underlying23
 ·cases h; exact Tryz.underlying24
 ·cases h; exact Tryz.underlying27
 ·cases h; exact Tryz.underlying30
 ·cases h; exact Tryz.underlying31
 ·cases h; exact Tryz.underlying32
 ·cases h; exact Tryz.underlying33
 ·cases h; exact Tryz.underlying34
 ·cases h; exact Tryz.underlying36
 ·cases h; exact Tryz.underlying39
 ·cases h; exact Tryz.underlying40
 ·cases h; exact Tryz.underlying41
 ·cases h; exact Tryz.underlying42
 ·cases h; exact Tryz.underlying45
 ·cases h; exact Tryz.underlying71
 ·cases h; exact Tryz.underlying73
 ·cases h; exact Tryz.underlying88
 ·cases h; exact Tryz.underlying89
 ·cases h; exact Tryz.underlying91
 ·cases h; exact Tryz.underlying92
 ·cases h; exact Tryz.underlying93
 ·cases h; exact Tryz.underlying102
 ·cases h; exact Tryz.underlying105
 ·cases h; exact Tryz.underlying109
 ·cases h; exact Tryz.underlying118
 ·cases h; exact Tryz.underlying119
 ·cases h; exact Tryz.underlying138
 ·cases h; exact Tryz.underlying140
 ·cases h; exact Tryz.underlying142
 ·cases h; exact Tryz.underlying168
 ·cases h; exact Tryz.underlying172
 ·cases h; exact Tryz.underlying173
 ·cases h; exact Tryz.underlying177
 ·cases h; exact Tryz.underlying186
 ·cases h; exact Tryz.underlying187
 ·cases h; exact Tryz.underlying188
 ·cases h; exact Tryz.underlying193
 ·cases h; exact Tryz.underlying197
 ·cases h; exact Tryz.underlying198
 ·cases h; exact Tryz.underlying199
 ·cases h; exact Tryz.underlying200
 ·cases h; exact Tryz.underlying217
 ·cases h; exact Tryz.underlying220
 ·cases h; exact Tryz.underlying228
 ·cases h; exact Tryz.underlying237
 ·cases h; exact Tryz.underlying251
 ·cases h
theorem D1q : ∀ t s b z, D6y t = some (s, b, z) → ∃ i, Tryz.prog.info? t = some i ∧ i.size = s ∧ i.bytes = b ∧ i.zero = some z := by
 intro t s b z h
 unfold D6y at h
 split at h
 ·cases h; exact Bb E7m
 ·cases h; exact Bb E7l
 ·cases h; exact Bb E7k
 ·cases h; exact Bb E7j
 ·cases h; exact Bb E7i
 ·cases h; exact Bb E7h
 ·cases h; exact Bb E5w
 ·cases h; exact Bb E5v
 ·cases h; exact Bb E5u
 ·cases h; exact Bb E5t
 ·cases h; exact Bb E5s
 ·cases h; exact Bb E5r
 ·cases h; exact Bb E5q
 ·cases h; exact Bb E5p
 ·cases h; exact Bb E5o
 ·cases h; exact Bb E5n
 ·cases h; exact Bb E5m
 ·cases h; exact Bb E5l
 ·cases h; exact Bb E5k
 ·cases h; exact Bb E5j
 ·cases h; exact Bb E5i
 ·cases h; exact Bb E5h
 ·cases h; exact Bb E5g
 ·cases h; exact Bb E5f
 ·cases h; exact Bb E5e
 ·cases h; exact Bb E5d
 ·cases h; exact Bb E5c
 ·cases h; exact Bb E5b
 ·cases h; exact Bb E5a
 ·cases h; exact Bb E4z
 ·cases h; exact Bb E4y
 ·cases h; exact Bb E4x
 ·cases h; exact Bb E4w
 ·cases h; exact Bb E4v
 ·cases h; exact Bb E4u
 ·cases h; exact Bb E4t
 ·cases h; exact Bb E4s
 ·cases h; exact Bb E4r
 ·cases h; exact Bb E4q
 ·cases h; exact Bb E1h
 ·cases h; exact Bb E1g
 ·cases h; exact Bb E1f
 ·cases h; exact Bb E1e
 ·cases h; exact Bb E1d
 ·cases h; exact Bb E1c
 ·cases h; exact Bb E1b
 ·cases h; exact Bb E1a
 ·cases h; exact Bb E0z
 ·cases h; exact Bb E0y
 ·cases h; exact Bb E0x
 ·cases h; exact Bb E0w
 ·cases h; exact Bb E0v
 ·cases h; exact Bb E0u
 ·cases h; exact Bb E0t
 ·cases h; exact Bb E0s
 ·cases h; exact Bb E0r
 ·cases h; exact Bb E0q
 ·cases h; exact Bb E0p
 ·cases h; exact Bb E0o
 ·cases h; exact Bb E0n
 ·cases h; exact Bb E0m
 ·cases h; exact Bb E0l
 ·cases h; exact Bb E0k
 ·cases h; exact Bb E0j
 ·cases h; exact Bb E0i
 ·cases h; exact Bb E0h
 ·cases h; exact Bb E0g
 ·cases h; exact Bb E0f
 ·cases h; exact Bb E0e
 ·cases h; exact Bb E0d
 ·cases h; exact Bb E0c
 ·cases h; exact Bb E0b
 ·cases h
theorem E4m : ∃ fs, Tryz.prog.underlying 25 = some (.struct fs) ∧ fs.toList.mapM (fun f => (Tryz.prog.info? f.type).map fun i => (f.offset, i.size)) = some [(0, 1), (1, 1), (2, 1), (3, 1), (4, 1), (5, 1)] := ⟨_, Tryz.underlying25, by kernel_rfl⟩
theorem E4l : ∃ fs, Tryz.prog.underlying 26 = some (.struct fs) ∧ fs.toList.mapM (fun f => (Tryz.prog.info? f.type).map fun i => (f.offset, i.size)) = some [(0, 1), (1, 1), (2, 1), (3, 1), (4, 1), (5, 1)] := ⟨_, Tryz.underlying26, by kernel_rfl⟩
theorem E4k : ∃ fs, Tryz.prog.underlying 28 = some (.struct fs) ∧ fs.toList.mapM (fun f => (Tryz.prog.info? f.type).map fun i => (f.offset, i.size)) = some [(0, 1), (1, 1)] := ⟨_, Tryz.underlying28, by kernel_rfl⟩
theorem E4j : ∃ fs, Tryz.prog.underlying 29 = some (.struct fs) ∧ fs.toList.mapM (fun f => (Tryz.prog.info? f.type).map fun i => (f.offset, i.size)) = some [(0, 1), (1, 1)] := ⟨_, Tryz.underlying29, by kernel_rfl⟩
theorem E4i : ∃ fs, Tryz.prog.underlying 37 = some (.struct fs) ∧ fs.toList.mapM (fun f => (Tryz.prog.info? f.type).map fun i => (f.offset, i.size)) = some [(0, 1), (1, 1)] := ⟨_, Tryz.underlying37, by kernel_rfl⟩
theorem E4h : ∃ fs, Tryz.prog.underlying 76 = some (.struct fs) ∧ fs.toList.mapM (fun f => (Tryz.prog.info? f.type).map fun i => (f.offset, i.size)) = some [(0, 1), (1, 1)] := ⟨_, Tryz.underlying76, by kernel_rfl⟩
theorem E4g : ∃ fs, Tryz.prog.underlying 77 = some (.struct fs) ∧ fs.toList.mapM (fun f => (Tryz.prog.info? f.type).map fun i => (f.offset, i.size)) = some [(0, 1), (1, 1)] := ⟨_, Tryz.underlying77, by kernel_rfl⟩
theorem E4f : ∃ fs, Tryz.prog.underlying 94 = some (.struct fs) ∧ fs.toList.mapM (fun f => (Tryz.prog.info? f.type).map fun i => (f.offset, i.size)) = some [(0, 1), (1, 1), (2, 1), (3, 1)] := ⟨_, Tryz.underlying94, by kernel_rfl⟩
theorem E4e : ∃ fs, Tryz.prog.underlying 95 = some (.struct fs) ∧ fs.toList.mapM (fun f => (Tryz.prog.info? f.type).map fun i => (f.offset, i.size)) = some [(0, 1), (1, 1), (2, 1), (3, 1)] := ⟨_, Tryz.underlying95, by kernel_rfl⟩
theorem D9w : ∃ fs, Tryz.prog.underlying 106 = some (.struct fs) ∧ fs.toList.mapM (fun f => (Tryz.prog.info? f.type).map fun i => (f.offset, i.size)) = some [(0, 1), (1, 1)] := ⟨_, Tryz.underlying106, by kernel_rfl⟩
theorem D9v : ∃ fs, Tryz.prog.underlying 107 = some (.struct fs) ∧ fs.toList.mapM (fun f => (Tryz.prog.info? f.type).map fun i => (f.offset, i.size)) = some [(0, 1), (1, 1)] := ⟨_, Tryz.underlying107, by kernel_rfl⟩
theorem D9u : ∃ fs, Tryz.prog.underlying 110 = some (.struct fs) ∧ fs.toList.mapM (fun f => (Tryz.prog.info? f.type).map fun i => (f.offset, i.size)) = some [(0, 1)] := ⟨_, Tryz.underlying110, by kernel_rfl⟩
theorem D9t : ∃ fs, Tryz.prog.underlying 111 = some (.struct fs) ∧ fs.toList.mapM (fun f => (Tryz.prog.info? f.type).map fun i => (f.offset, i.size)) = some [(0, 1)] := ⟨_, Tryz.underlying111, by kernel_rfl⟩
theorem D9s : ∃ fs, Tryz.prog.underlying 120 = some (.struct fs) ∧ fs.toList.mapM (fun f => (Tryz.prog.info? f.type).map fun i => (f.offset, i.size)) = some [(0, 1), (1, 1)] := ⟨_, Tryz.underlying120, by kernel_rfl⟩
theorem D9r : ∃ fs, Tryz.prog.underlying 121 = some (.struct fs) ∧ fs.toList.mapM (fun f => (Tryz.prog.info? f.type).map fun i => (f.offset, i.size)) = some [(0, 1), (1, 1)] := ⟨_, Tryz.underlying121, by kernel_rfl⟩
theorem D9q : ∃ fs, Tryz.prog.underlying 190 = some (.struct fs) ∧ fs.toList.mapM (fun f => (Tryz.prog.info? f.type).map fun i => (f.offset, i.size)) = some [(0, 1), (1, 1)] := ⟨_, Tryz.underlying190, by kernel_rfl⟩
theorem D9p : ∃ fs, Tryz.prog.underlying 191 = some (.struct fs) ∧ fs.toList.mapM (fun f => (Tryz.prog.info? f.type).map fun i => (f.offset, i.size)) = some [(0, 1), (1, 1)] := ⟨_, Tryz.underlying191, by kernel_rfl⟩
theorem B7y : ∀ t l, C1k t = some l → ∃ fs, Tryz.prog.underlying t = some (.struct fs) ∧ fs.toList.mapM (fun f => (Tryz.prog.info? f.type).map fun i => (f.offset, i.size)) = some l := by
 intro t l h
 unfold C1k at h
 split at h
 ·cases h; exact E4m
 ·cases h; exact E4l
 ·cases h; exact E4k
 ·cases h; exact E4j
 ·cases h; exact E4i
 ·cases h; exact E4h
 ·cases h; exact E4g
 ·cases h; exact E4f
 ·cases h; exact E4e
 ·cases h; exact D9w
 ·cases h; exact D9v
 ·cases h; exact D9u
 ·cases h; exact D9t
 ·cases h; exact D9s
 ·cases h; exact D9r
 ·cases h; exact D9q
 ·cases h; exact D9p
 ·cases h
theorem C5j : ∀ t l, C1k t = some l → l.all (fun x => x.2 != 0) = true := by
 intro t l h
 unfold C1k at h
 split at h
 ·cases h; rfl
 ·cases h; rfl
 ·cases h; rfl
 ·cases h; rfl
 ·cases h; rfl
 ·cases h; rfl
 ·cases h; rfl
 ·cases h; rfl
 ·cases h; rfl
 ·cases h; rfl
 ·cases h; rfl
 ·cases h; rfl
 ·cases h; rfl
 ·cases h; rfl
 ·cases h; rfl
 ·cases h; rfl
 ·cases h; rfl
 ·cases h
theorem B1k {P : Program} : ∀ (fs : List Field) (l : List (Nat × Nat)), fs.mapM (fun f => (P.info? f.type).map fun i => (f.offset, i.size)) = some l → ∀ (j : Nat) (x : Nat × Nat), l[j]? = some x → ∃ fl i, fs[j]? = some fl ∧ P.info? fl.type = some i ∧ fl.offset = x.1 ∧ i.size = x.2
 | [], l, h, j, x, hx => by simp at h; subst h; simp at hx
 | f :: fs, l, h, j, x, hx => by
  simp only [List.mapM_cons, Option.bind_eq_bind, Option.pure_def] at h
  cases hi : P.info? f.type with
  | none => simp [hi] at h
  | some i =>
   cases hr : fs.mapM (fun f => (P.info? f.type).map fun i => (f.offset, i.size)) with
   | none => simp [hi, hr] at h
   | some rest =>
    simp [hi, hr] at h
    subst h
    cases j with
    | zero => simp at hx; subst hx; exact ⟨f, i, rfl, hi, rfl, rfl⟩
    | succ j => simpa using B1k fs rest hr j x (by simpa using hx)
theorem D1r : ∀ t j o, D6z t j = some o → ∃ fs fl i, Tryz.prog.underlying t = some (.struct fs) ∧ fs[j]? = some fl ∧ fl.offset = o ∧ Tryz.prog.info? fl.type = some i ∧ i.size ≠ 0 := by
 intro t j o h
 unfold D6z at h
 obtain ⟨l, h1, h2⟩ := Option.bind_eq_some_iff.1 h
 obtain ⟨x, h3, rfl⟩ := Option.map_eq_some_iff.1 h2
 obtain ⟨fs, h4, h5⟩ := B7y t l h1
 obtain ⟨fl, i, h6, h7, h8, h9⟩ := B1k fs.toList l h5 j x h3
 refine ⟨fs, fl, i, h4, by simpa using h6, h8, h7, ?_⟩
 have := List.all_eq_true.1 (C5j t l h1) x (List.mem_of_getElem? h3)
 rw [h9]
 simpa using this
theorem E7p (a b c d : Int) (w : World) : (Op.equalIn 10000 107 (.agg #[.int .u32 a, .int .u32 b]) (.agg #[.int .u32 c, .int .u32 d])).run Tryz.prog w = .ok (a == c && b == d) w := by
 have u := Tryz.underlying89
 have hS : Tryz.prog.underlying 107 = some (.struct (Tryz.prog.fieldsOf 107)) := by kernel_rfl
 have hp : Tryz.prog.stoodInHeld 107 = false := by kernel_rfl
 obtain ⟨i, h1, h2⟩ : ∃ i, Tryz.prog.info? 89 = some i ∧ i.size = 1 := by
  obtain ⟨i, h1, h2⟩ := Option.map_eq_some_iff.1 (show (Tryz.prog.info? 89).map (fun i => i.size) = some 1 by kernel_rfl)
  exact ⟨i, h1, h2⟩
 have hz : ∀ w, (sizeOf 89).run Tryz.prog w = .ok 1 w := fun w => by simp [sizeOf, typeInfo, h1, h2]
 rw [show (10000 : Nat) = 9999 + 1 from rfl, run_equalIn_agg w 9999 107 _ _ hS hp]
 simp only [Program.fieldsOf, Tryz.underlying107]
 have hA : ∀ w, (isAgg 89).run Tryz.prog w = .ok false w := fun w => by simp [isAgg, run_underlying u]
 have e : ∀ (a c : Int) (w : World), (Op.equalIn 9999 89 (.int .u32 a) (.int .u32 c)).run Tryz.prog w = .ok (a == c) w := fun a c w => run_equalIn_int w 9998 89 .u32 .u32 a c u
 simp [Op.eqFields, part, hA, hz, e]
 by_cases h1 : a = c <;> by_cases h2 : b = d <;> simp [h1, h2]
instance : Go.Hy.Tab Tryz.prog := ⟨D6x, D1p, D6y, D1q, D6z, D1r, C1k, B7y, by kernel_rfl, 107, E7p, by kernel_rfl⟩
noncomputable def fC' : Array Field := match Tryz.prog.underlying 107 with | some (.struct fs) => fs | _ => #[]
noncomputable def fT' : Array Field := match Tryz.prog.underlying 26 with | some (.struct fs) => fs | _ => #[]
noncomputable def fB' : Array Field := match Tryz.prog.underlying 77 with | some (.struct fs) => fs | _ => #[]
noncomputable instance : Go.Hy.TyF Tryz.prog := { tI := 3, tS := 9, tU := 89, tC := 107, tT := 26, tB := 77, lC := 22, lT := 23, lB := 24, fC := fC', fT := fT', fB := fB', uI := Tryz.underlying3, uS := Tryz.underlying9, uU := Tryz.underlying89, uC := by kernel_rfl, uT := by kernel_rfl, uB := by kernel_rfl, ulC := Tryz.underlying22, ulT := Tryz.underlying23, ulB := Tryz.underlying24, pC := by kernel_rfl, pT := by kernel_rfl, pB := by kernel_rfl, c1 := ⟨by kernel_rfl, by kernel_rfl, by kernel_rfl, by kernel_rfl, by kernel_rfl, by kernel_rfl⟩, c2 := ⟨by kernel_rfl, by kernel_rfl, by kernel_rfl⟩, b2 := ⟨by kernel_rfl, by kernel_rfl, by kernel_rfl⟩ }
theorem laid' : laidOutB Tryz.prog = true := by kernel_rfl
noncomputable instance : Go.Hy.TabM Tryz.prog := { law := deep_law_laid laid' (m := 3) (by omega) (of_decide_eq_true (by kernel_rfl)) (by kernel_rfl) (by kernel_rfl), kt := by kernel_rfl, names := by kernel_rfl, npos := of_decide_eq_true (by kernel_rfl) }
end Go.Proofs.YtibignmpjeemeaaGreatDoor.Hy
namespace Go.Hy
theorem size_pos' (t : T) : 1 ≤ size t := by
 rw [size_eq]
 have : ∀ (l : List Part) (a : Nat), a ≤ l.foldl (fun a p => a + size p.1) a := by
  intro l
  induction l with
  | nil => intro a; exact Nat.le_refl _
  | cons p l ih => intro a; exact Nat.le_trans (Nat.le_add_right _ _) (ih _)
 exact this _ _
end Go.Hy
namespace Go.Hy
theorem My (k i : Int) : 0 ≤ (binds k i).1 ∧ (binds k i).1 ≤ 1 ∧ 0 ≤ (binds k i).2 ∧ (binds k i).2 ≤ 1 := by
 unfold binds
 repeat (first | split | (refine ⟨?_, ?_, ?_, ?_⟩ <;> simp))
theorem Zu {t : T} {p : Part} (h : p ∈ parts t) : 0 ≤ p.2.1 ∧ p.2.1 ≤ 1 ∧ 0 ≤ p.2.2 ∧ p.2.2 ≤ 1 := by
 unfold parts at h
 rcases List.mem_append.mp h with h | h
 ·have : ∀ (ks : List T) (i : Nat), p ∈ Ea t.kind i ks → 0 ≤ p.2.1 ∧ p.2.1 ≤ 1 ∧ 0 ≤ p.2.2 ∧ p.2.2 ≤ 1 := by
   intro ks
   induction ks with
   | nil => intro i h; simp [Ea] at h
   | cons k ks ih =>
    intro i h
    rcases List.mem_cons.mp h with e | h
    ·subst e; exact My _ _
    ·exact ih _ h
  exact this _ _ h
 ·have : ∀ (bs : List Br), p ∈ D9 t.kind bs → 0 ≤ p.2.1 ∧ p.2.1 ≤ 1 ∧ 0 ≤ p.2.2 ∧ p.2.2 ≤ 1 := by
   intro bs
   induction bs with
   | nil => intro h; simp [D9] at h
   | cons b bs ih =>
    intro h
    rcases List.mem_append.mp h with h | h
    ·obtain ⟨k, _, e⟩ := List.mem_map.mp h
     subst e
     show 0 ≤ (0 : Int) ∧ (0 : Int) ≤ 1 ∧ 0 ≤ more t.kind ∧ more t.kind ≤ 1
     unfold more
     split <;> omega
    ·exact ih h
  exact this _ h
theorem Pf {t : T} {p : Part} (h : p ∈ parts t) : size p.1 < size t := by
 obtain ⟨m, hm, e⟩ := List.mem_iff_getElem.mp h
 have h1 := Kq (t := t) (m := m) (p := p) (by rw [List.getElem?_eq_getElem hm, e])
 have h2 : 1 ≤ Ca t m := by
  unfold Ca Lt
  have : ∀ (l : List Part) (a : Nat), a ≤ l.foldl (fun a p => a + size p.1) a := by
   intro l
   induction l with
   | nil => intro a; exact Nat.le_refl _
   | cons p l ih => intro a; exact Nat.le_trans (Nat.le_add_right _ _) (ih _)
  exact this _ _
 omega
end Go.Hy
namespace Go.Hy
@[simp] theorem qE_def (q : QP) : qE q = RT q.1.1 q.1.2.1 q.1.2.2.1 q.1.2.2.2 := rfl
@[simp] theorem ipE_def (q : IP) : ipE q = IL q.1 q.2 := rfl
end Go.Hy
namespace Go.Hy
section
variable {α : Type} {B : Cs} {Γ : List Fact} {Ms : List Bm} {w : World} {E : α → Fact} {l : List α}
end
end Go.Hy
namespace Go.Hy
theorem I6 {t : T} (h : An t = 0) : size t ≤ 20000 := by
 unfold An at h
 split at h
 ·rename_i hs; exact absurd h hs
 ·rename_i hs
  simp only [ne_eq, Decidable.not_not, sized] at hs
  split at hs
  ·cases hs
  ·split at hs
   ·cases hs
   ·omega
section
variable {tn : Bool} {pn : Nat} {P : Program} [Tab P] {f : FuncId} {R : Ending → World → Prop} {B : Cs} {n : Fz} {K : List Item} {ops : Array Oper} {i : Nat} {l fin : List Nat} {σ : Nat → Value} {Γ : List Fact} {Ms Ms2 : List Bm}
variable {dst : Option Tmp} {op : Op} {ty : TypeId} {pos : String} {after : Array Edge} {v : Value} {x y z : Operand}
theorem D8p {t e : TypeId} {d : TypeDesc} {g i' n' : Nat} {a : SH} {ls : List Int} (k_ : E1 P f R B n K ops l (Aq σ dst (.int .i64 (ls.getD i' 0))) Γ Ms) (hx : ev σ x = .pointer (some ⟨g, 0 + i' * 1, none⟩) := by exact A5) (hma : Al 1 e a n' (Dq ls) ∈ Ms ∧ a.1 = some ⟨g, 0, none⟩ := by exact ma1_) (hu : Tab.und P t = some d := by rfl) (hd' : (match d with | .struct _ | .array _ _ => true | _ => false) = false := by rfl) (hlt : i' < ls.length := by first | omega | (simp only [List.length_map, List.length_set]; omega) | (simp; omega)) (hd : Ah n dst = true := by rfl) : Ex P f R B n K ops l (Cp dst (.load t x) ty) σ Γ Ms := Ig (D8y (F := Kc) M3 0 hx hma.1 hma.2 hu hd' hlt rfl) hd k_
theorem E3j {t e : TypeId} {bt g i' n' : Nat} {a : SH} {zv : Value} {ls : List Int} (u : Int) (k_ : E1 P f R B n K ops l σ Γ (Al 1 e a n' (Dq (ls.set i' u)) :: Ms2)) (hx : ev σ x = .pointer (some ⟨g, 0 + i' * 1, none⟩) := by exact A5) (hm : Ms.Perm (Al 1 e a n' (Dq ls) :: Ms2) := by first | exact V2 | exact Aj | exact Bn | exact Cb | exact Cw | exact El | exact Gj | exact Ml | exact Ng) (ha : a.1 = some ⟨g, 0, none⟩ := by assumption) (hn : n' = ls.length := by first | rfl | omega | (simp; done) | (simp; omega)) (hy : (ev σ y).cells = (Kc u).toArray := by exact A5) (hi : Tab.inf P t = some (1, bt, zv) := by rfl) (hlt : i' < ls.length := by first | omega | (simp only [List.length_map, List.length_set]; omega) | (simp; omega)) : Ex P f R B n K ops l (Cp none (.store t x y) ty) σ Γ Ms := Uu (D1s (F := Kc) M3 u hx hm ha hn hy hi rfl hlt) k_
end
theorem St.E4c {B : Cs} {Γ : List Fact} {Ms : List Bm} {w : World} {b : Nat} {e : TypeId} {cs : List Value} (l : List Int) (hs : St B Γ (Af b cs e :: Ms) w) {hBp : Prop} (hB : hBp) (hc : cs = Dq l) (hn : l.length ≤ 1000) (hu : ∀ c, c ∈ l → As c) : St B (IL l (some ⟨b, 0, Option.none⟩, l.length) :: Γ) Ms w :=
 (hs.H2 (sz := 1) (m := l.length) (by rw [hc, Mv M3 l]) (by unfold maxLen; omega)).Lc hB hc rfl (by unfold reach; omega) hu
end Go.Hy
namespace Go.Hy
open Go Go.ChangeShapes Go.WideShapes Go.RowKit
variable {P : Program} {H : Type} {enc : TypeId × Value → H} {W : World} {base : Nat} {v : Value} {d : DataW H} {ps : List MemPlace} [TyF P]
theorem B2y : ∀ x, (Bj x).length = 1 := fun _ => rfl
theorem D0x {t tD : TypeId} {fs : Array Field} (hu : P.underlying t = some (.struct fs)) (hp : fs.toList.map (fun f => (f.offset, f.type)) = [(0, TyF.lT P), (1, tD)]) (hc : P.cellsOf t = 2) (hD : P.underlying tD = some (.slice (TyF.lC P))) (hDc : P.cellsOf tD = 1) (hDb : P.bytesOf (TyF.lC P) = 24) (hval : Value.okWide P W .any base t v) (h : DataW.Trod enc P W 0 (fun _ => true) true t v d ps) (hl : Mt P t d) : ∃ (l : List T) (a : SH) (m : List CP) (am : SH), v = .agg #[sl a l.length, sl am m.length] ∧ A9l (okw W) l a W ∧ (Hj m am).f (okw W) W := by
 obtain ⟨cs, rfl, _⟩ := okWide_struct hu hval
 obtain ⟨fuel, hf⟩ := h
 cases fuel with
 | zero => cases hf
 | succ fuel =>
  obtain ⟨h1, h2⟩ := Nh hu hp hf hl
  rw [hc] at h1
  obtain ⟨d0, p0, r0, l0⟩ := h2 0 _ rfl
  obtain ⟨d1, p1, r1, l1⟩ := h2 1 _ rfl
  obtain ⟨ks, vk, e0, hks⟩ := (A4p fuel).2.1 _ _ _ r0 l0
  cases fuel with
  | zero => cases r1
  | succ fuel =>
   obtain ⟨xs, am, e1, hm, hq⟩ := V6 (sp := fun _ => true) Bj (fun p : CP => Kd (okw W) p.1 p.2 W) C1 B2y A2 hD TyF.c1.2.2.2.1 hDb (fun cs d ps h hl => by
    obtain ⟨l, a, h5, h6⟩ := Yt h hl
    exact ⟨(l, a), h5, h6⟩) r1 l1
   obtain ⟨c1, c2, c3, c4, c5, c6⟩ := TyF.c1 (P := P)
   simp only [c5, hDc] at e0 e1
   have f0 := Lm e0
   have f1 := Lm e1
   refine ⟨ks, vk, xs, am, ?_, hks, ⟨hm, hq⟩⟩
   have h3 : (Value.agg cs).cells.toList = [sl vk ks.length, sl am xs.length] := Nj (by rw [h1]; rfl) (fun i hi => by
    match i with
    | 0 => exact f0
    | 1 => exact f1
    | i + 2 => simp at hi; omega)
   have h4 : cs.toList = [sl vk ks.length, sl am xs.length] := by simpa [Value.cells] using h3
   rw [show cs = #[sl vk ks.length, sl am xs.length] from by rw [← Array.toArray_toList (xs := cs), h4]]
end Go.Hy
namespace Go.Hy
section
variable {tn : Bool} {pn : Nat} {P : Program} [Tab P] {f : FuncId} {R : Ending → World → Prop} {B : Cs} {n : Fz} {K : List Item} {ops : Array Oper} {i : Nat} {l fin : List Nat} {σ : Nat → Value} {Γ : List Fact} {Ms Ms2 : List Bm}
variable {dst : Option Tmp} {ty : TypeId}
theorem N6 {c : FuncId} {args cap al : List Value} {av : Array Operand} {ts : Array TypeId} {g : Operand} {pre : List Fact} {X : Type} {val : X → Value} {N : X → List Fact} {Ms1 : X → List Bm}
  (hc : ∀ (args : Array Value) (w : World), (callFunc c args).run P w = .ok (.enter c args) w) (hsp : Spec P c al.toArray pre [] val N Ms1) (kk : ∀ x, NV tn pn P f R B n K ops fin l (Aq σ dst (val x)) (N x ++ Γ) (Ms1 x ++ Ms))
  (hg : ev σ g = .func (.func c) #[] cap.toArray := by rfl) (ha : av.toList.map (ev σ) = args := by rfl) (hal : args ++ cap = al := by rfl) (hpre : ∀ F, F ∈ pre → F ∈ Γ := by first | (simp; done) | (simp +contextual; done)) (hd : Ah n dst = true := by rfl) : Jr tn pn P f R B n K ops fin i l dst (.call { callee := .value g, args := av, argTypes := ts }) ty σ Γ Ms :=
 B9k (B6r hg ha hc) (hal ▸ hsp) hpre rfl rfl hd kk
end
end Go.Hy
namespace Go.Proofs
open Go.Shelf
def Tryz.Wo : Go.Shelf.Ren := ⟨fun | 6 => 201 | 15 => 253 | 14 => 252 | 28 => 289 | 29 => 290 | 20 => 281 | 21 => 282 | 22 => 283 | 23 => 284 | 24 => 285 | 25 => 286 | 26 => 287 | 27 => 288 | 46 => 300 | 47 => 301 | 48 => 302 | 49 => 303 | 50 => 304 | 57 => 307 | n => n, fun | 22 => 22 | 24 => 107 | 25 => 177 | 3 => 3 | 39 => 91 | 0 => 0 | 53 => 89 | 55 => 217 | 4 => 4 | 46 => 221 | 45 => 220 | 50 => 225 | 5 => 5 | 9 => 9 | 66 => 233 | 70 => 237 | 76 => 239 | 77 => 86 | n => n, fun | n => n⟩
theorem Tryz.D5i : Go.Proofs.SlLaysF0.n6 Tryz.prog Tryz.Wo := {
 mixed := by kernel_rfl
 f6 := ⟨Tryz.f201.name, by decide, Tryz.func201.trans (congrArg some (by kernel_rfl))⟩
 f14 := ⟨Tryz.f252.name, by decide, Tryz.func252.trans (congrArg some (by kernel_rfl))⟩
 f15 := Tryz.func253.trans (congrArg some (by kernel_rfl))
 f20 := ⟨Tryz.f281.name, by decide, Tryz.func281.trans (congrArg some (by kernel_rfl))⟩
 f21 := ⟨Tryz.f282.name, by decide, Tryz.func282.trans (congrArg some (by kernel_rfl))⟩
 f22 := ⟨Tryz.f283.name, by decide, Tryz.func283.trans (congrArg some (by kernel_rfl))⟩
 f23 := ⟨Tryz.f284.name, by decide, Tryz.func284.trans (congrArg some (by kernel_rfl))⟩
 f24 := ⟨Tryz.f285.name, by decide, Tryz.func285.trans (congrArg some (by kernel_rfl))⟩
 f25 := ⟨Tryz.f286.name, by decide, Tryz.func286.trans (congrArg some (by kernel_rfl))⟩
 f26 := ⟨Tryz.f287.name, by decide, Tryz.func287.trans (congrArg some (by kernel_rfl))⟩
 f27 := ⟨Tryz.f288.name, by decide, Tryz.func288.trans (congrArg some (by kernel_rfl))⟩
 f28 := Tryz.func289.trans (congrArg some (by kernel_rfl))
 f29 := Tryz.func290.trans (congrArg some (by kernel_rfl))
 f46 := ⟨Tryz.f300.name, by decide, Tryz.func300.trans (congrArg some (by kernel_rfl))⟩
 f47 := Tryz.func301.trans (congrArg some (by kernel_rfl))
 f48 := Tryz.func302.trans (congrArg some (by kernel_rfl))
 f49 := ⟨Tryz.f303.name, by decide, Tryz.func303.trans (congrArg some (by kernel_rfl))⟩
 f50 := ⟨Tryz.f304.name, by decide, Tryz.func304.trans (congrArg some (by kernel_rfl))⟩
 f57 := ⟨Tryz.f307.name, by decide, Tryz.func307.trans (congrArg some (by kernel_rfl))⟩
 t0 := Tryz.underlying0
 a0 := Tryz.isAgg0
 z0 := Tryz.sizeOf0
 v0 := Tryz.zeroValue0
 t3 := Tryz.underlying3
 a3 := Tryz.isAgg3
 z3 := Tryz.sizeOf3
 v3 := Tryz.zeroValue3
 t4 := Tryz.underlying4
 a4 := Tryz.isAgg4
 z4 := Tryz.sizeOf4
 v4 := Tryz.zeroValue4
 t5 := Tryz.underlying5
 a5 := Tryz.isAgg5
 z5 := Tryz.sizeOf5
 v5 := Tryz.zeroValue5
 t9 := Tryz.underlying9
 a9 := Tryz.isAgg9
 z9 := Tryz.sizeOf9
 v9 := Tryz.zeroValue9
 t22 := Tryz.underlying22
 a22 := Tryz.isAgg22
 z22 := Tryz.sizeOf22
 v22 := Tryz.zeroValue22
 t25 := Tryz.underlying177
 a25 := Tryz.isAgg177
 z25 := Tryz.sizeOf177
 v25 := Tryz.zeroValue177
 t39 := Tryz.underlying91
 a39 := Tryz.isAgg91
 z39 := Tryz.sizeOf91
 v39 := Tryz.zeroValue91
 t45 := Tryz.underlying220
 a45 := Tryz.isAgg220
 z45 := Tryz.sizeOf220
 v45 := Tryz.zeroValue220
 t46 := Tryz.underlying221
 a46 := Tryz.isAgg221
 z46 := Tryz.sizeOf221
 v46 := Tryz.zeroValue221
 t50 := Tryz.underlying225
 a50 := Tryz.isAgg225
 z50 := Tryz.sizeOf225
 v50 := Tryz.zeroValue225
 t53 := Tryz.underlying89
 a53 := Tryz.isAgg89
 z53 := Tryz.sizeOf89
 v53 := Tryz.zeroValue89
 t55 := Tryz.underlying217
 a55 := Tryz.isAgg217
 z55 := Tryz.sizeOf217
 v55 := Tryz.zeroValue217
 t66 := Tryz.underlying233
 a66 := Tryz.isAgg233
 z66 := Tryz.sizeOf233
 v66 := Tryz.zeroValue233
 t70 := Tryz.underlying237
 a70 := Tryz.isAgg237
 z70 := Tryz.sizeOf237
 v70 := Tryz.zeroValue237
 t76 := Tryz.underlying239
 a76 := Tryz.isAgg239
 z76 := Tryz.sizeOf239
 v76 := Tryz.zeroValue239
 t77 := Tryz.underlying86
 a77 := Tryz.isAgg86
 z77 := Tryz.sizeOf86
 v77 := Tryz.zeroValue86 }
end Go.Proofs
