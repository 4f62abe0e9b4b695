/- Contracts of this program's functions and the laws that they need. -/
import Derived.Test.YtpfjlbopkhdebaaGreatDoorProg
import Derived.KernelRfl
import Derived.Shelf.SlSortCmp.WholeK
import Derived.Shelf.SlGeneric
import Derived.Ground.SlsfProg
import Derived.Test.YtpfjlbopkhdebaaGreatDoorP3
set_option linter.unusedVariables false
set_option linter.unusedSimpArgs false
set_option linter.unusedSectionVars false
namespace Go.Hy
theorem A9t {a0 a1 a2 a3 a4 a5 a6 a7 a8 a9 a10 a11 m : Bj} {L : List Bj} : (a0 :: a1 :: a2 :: a3 :: a4 :: a5 :: a6 :: a7 :: a8 :: a9 :: a10 :: a11 :: m :: L).Perm (m :: a0 :: a1 :: a2 :: a3 :: a4 :: a5 :: a6 :: a7 :: a8 :: a9 :: a10 :: a11 :: L) := (Is.cons a0).trans Ah
theorem M8 {a0 a1 a2 a3 a4 a5 a6 a7 a8 a9 a10 a11 a12 m : Bj} {L : List Bj} : (a0 :: a1 :: a2 :: a3 :: a4 :: a5 :: a6 :: a7 :: a8 :: a9 :: a10 :: a11 :: a12 :: m :: L).Perm (m :: a0 :: a1 :: a2 :: a3 :: a4 :: a5 :: a6 :: a7 :: a8 :: a9 :: a10 :: a11 :: a12 :: L) := (A9t.cons a0).trans Ah
theorem M7 {a0 a1 a2 a3 a4 a5 a6 a7 a8 a9 a10 a11 a12 a13 m : Bj} {L : List Bj} : (a0 :: a1 :: a2 :: a3 :: a4 :: a5 :: a6 :: a7 :: a8 :: a9 :: a10 :: a11 :: a12 :: a13 :: m :: L).Perm (m :: a0 :: a1 :: a2 :: a3 :: a4 :: a5 :: a6 :: a7 :: a8 :: a9 :: a10 :: a11 :: a12 :: a13 :: L) := (M8.cons a0).trans Ah
theorem M6 {a0 a1 a2 a3 a4 a5 a6 a7 a8 a9 a10 a11 a12 a13 a14 m : Bj} {L : List Bj} : (a0 :: a1 :: a2 :: a3 :: a4 :: a5 :: a6 :: a7 :: a8 :: a9 :: a10 :: a11 :: a12 :: a13 :: a14 :: m :: L).Perm (m :: a0 :: a1 :: a2 :: a3 :: a4 :: a5 :: a6 :: a7 :: a8 :: a9 :: a10 :: a11 :: a12 :: a13 :: a14 :: L) := (M7.cons a0).trans Ah
def Xh (T : TypeId) (e : Int) : List PanicEntry := [{ v := .iface T (.int .i64 e), recovered := false }]
def Ry (P : Program) (T : TypeId) (k : FuncId) (args : Array Value) (pre : List Fact) {α : Type} (r : B9 α) {X : α → Type} (val : ∀ a : α, X a → Value) (N : ∀ a : α, X a → List Fact) (Ms1 : ∀ a : α, X a → List Bj) : Prop :=
 (∀ a, r = .ok a → Spec P k args pre [] (val a) (N a) (Ms1 a)) ∧ (∀ e, r = .bad e → T7 P k args pre (Xh T e))
def C3h (B : Cu) (T : TypeId) {α : Type} (r : B9 α) {X : α → Type} (val : ∀ a : α, X a → Value) (N : ∀ a : α, X a → List Fact) (Ms1 : ∀ a : α, X a → List Bj) (e : Ending) (w' : World) : Prop :=
 (∀ a, r = .ok a → Ends B (val a) (N a) (Ms1 a) e w') ∧ (∀ x, r = .bad x → e = .panicked (Xh T x) ∧ St B [] [] w')
section
variable {P : Program} {f : FuncId} {B : Cu} {n : Fz} {K : List Item} {σ : Nat → Value} {Γ : List Fact} {Ms : List Bj} {todo : List Item} {T : TypeId} {α : Type} {X : α → Type} {r : B9 α} {val : ∀ a : α, X a → Value} {N : ∀ a : α, X a → List Fact} {Ms1 : ∀ a : α, X a → List Bj}
theorem Fs.E5a {R R' : Ending → World → Prop} (hm : ∀ e w, R e w → R' e w) (h : Fs P f R B n todo σ Γ Ms) : Fs P f R' B n todo σ Γ Ms := fun a w hr hs b cs hb hk => by
 obtain ⟨e, w', fr, hR, hc, hf, hl⟩ := h a w hr hs b cs hb hk
 exact ⟨e, w', fr, hm _ _ hR, hc, hf, hl⟩
theorem go_ok {a : α} (hr : r = .ok a) (h : Fs P f (Ends B (val a) (N a) (Ms1 a)) B n todo σ Γ Ms) : Fs P f (C3h B T r val N Ms1) B n todo σ Γ Ms :=
 Fs.E5a (fun e w he => ⟨fun b hb => by rw [hr] at hb; injection hb with hb; subst hb; exact he, fun x hx => by rw [hr] at hx; cases hx⟩) h
theorem Yr {β : Type} (q : B9 β) {R : Ending → World → Prop} (h1 : ∀ a, q = .ok a → Fs P f R B n todo σ Γ Ms) (h2 : ∀ e, q = .bad e → Fs P f R B n todo σ Γ Ms) : Fs P f R B n todo σ Γ Ms := by
 cases hq : q with
 | ok a => exact h1 a hq
 | bad e => exact h2 e hq
theorem B0o {K : List Item} {it : Item} {R : Ending → World → Prop} {Ms' : List Bj} (p : Prop) (live : List (Nat × Value)) (h1 : (p → ∀ σ', Qu σ' live → Fs P f R B n K σ' Γ Ms') → Fs P f R B n (it :: K) σ Γ Ms) (h2 : p → ∀ base, Fs P f R B n K (stL base live) Γ Ms') : Fs P f R B n (it :: K) σ Γ Ms :=
 h1 (fun hp σ' hl => go_slots live hl (h2 hp))
theorem Mc {e : Int} (hr : r = .bad e) : ∀ w, St B [] [] w → C3h B T r val N Ms1 (.panicked (Xh T e)) w := fun w hs =>
 ⟨fun a ha => (by rw [hr] at ha; cases ha), fun x hx => (by rw [hr] at hx; injection hx with hx; subst hx; exact ⟨rfl, hs⟩)⟩
theorem A1l {k : FuncId} {fn : Func} {c : Code} {args : List Value} {pre : List Fact} {n : Nat} (hf : P.funcs[k]? = some fn) (hn : fn.ntmps = n) (hb : fn.body = some c) (ha : args.length ≤ n)
  (h : ∀ B : Cu, (∀ b, B.S0 b ↔ Bo [] b) → Fs P k (C3h B T r val N Ms1) B ⟨n, [], .normal⟩ [.code c] (fun t => args.getD t undef) pre []) : Ry P T k args.toArray pre r val N Ms1 := by
 have he : (fun t => args.toArray.getD t undef) = fun t => args.getD t undef := by
  funext t
  simp [Array.getD_eq_getD_getElem?, List.getD_eq_getElem?_getD]
 have key : ∀ ok w, (∀ b, ok b → b < w.heap.size ∧ ¬ Bo [] b) → St ⟨ok, Bo [], w⟩ pre [] w → Calls P k args.toArray w (C3h ⟨ok, Bo [], w⟩ T r val N Ms1) := by
  intro ok w hok hs
  refine B5t (n := ⟨n, [], .normal⟩) hf hb hn rfl rfl (by simpa using ha) hs ?_
  have := h ⟨ok, Bo [], w⟩ (fun _ => Iff.rfl)
  rw [he]
  exact this
 exact ⟨fun a hr ok w hok hs => (key ok w hok hs).mono fun e w' h => h.1 a hr, fun x hr ok w hok hs => (key ok w hok hs).mono fun e w' h => h.2 x hr⟩
end
def Lo (L : List Fact) : Fact := ⟨fun ok w => ∀ F, F ∈ L → F.f ok w, fun ok ok' w hs h F hF => F.mono ok ok' w hs (h F hF), fun ok w w' h hs F hF => F.loc ok w w' (h F hF) hs⟩
section
variable {B : Cu} {Γ : List Fact} {Ms : List Bj} {w : World} {L : List Fact}
theorem St.Z0 (hs : St B Γ Ms w) (h : ∀ F, F ∈ L → F ∈ Γ) : St B (Lo L :: Γ) Ms w := hs.add (fun F hF => hs.facts F (h F hF))
theorem St.C8c (hs : St B [Lo L] Ms w) : St B L Ms w := ⟨hs.chg, fun F hF => hs.facts _ List.mem_cons_self F hF, hs.res, hs.lt, hs.disj⟩
theorem Spec.Z0 {P : Program} {k : FuncId} {args : Array Value} {Ms0 : List Bj} {X : Type} {val : X → Value} {N : X → List Fact} {Ms1 : X → List Bj} (h : Spec P k args L Ms0 val N Ms1) : Spec P k args [Lo L] Ms0 val N Ms1 := fun ok w hok hs => h ok w hok hs.C8c
theorem T7.Z0 {P : Program} {k : FuncId} {args : Array Value} {chain : List PanicEntry} (h : T7 P k args L chain) : T7 P k args [Lo L] chain := fun ok w hok hs => h ok w hok hs.C8c
theorem Ry.Z0 {P : Program} {T : TypeId} {k : FuncId} {args : Array Value} {α : Type} {r : B9 α} {X : α → Type} {val : ∀ a : α, X a → Value} {N : ∀ a : α, X a → List Fact} {Ms1 : ∀ a : α, X a → List Bj} (h : Ry P T k args L r val N Ms1) : Ry P T k args [Lo L] r val N Ms1 := ⟨fun a ha => (h.1 a ha).Z0, fun e he => (h.2 e he).Z0⟩
end
section
variable {P : Program} [Tab P] {f : FuncId} {R : Ending → World → Prop} {B : Cu} {n : Fz} {K : List Item} {ops : Array Oper} {i : Nat} {l : List Nat} {σ : Nat → Value} {Γ : List Fact} {Ms : List Bj}
variable {dst : Option Tmp} {ty : TypeId} {v : Value} {x y : Operand}
theorem D0f {t : TypeId} {d : TypeDesc} (hu : Tab.und P t = some d) (hd : (match d with | .interface _ => true | _ => false) = false) (hx : ev σ x = v) : Cg P σ (.makeInterface t x) ty (.iface t v) := fun w => by
 cases d <;> first | (simp at hd; done) | simp [Ch, execOp, hx, Instr.makeInterface, Du hu]
theorem C1z {t : TypeId} {d : TypeDesc} (k_ : Ec P f R B n K ops l (Au σ dst (.iface t v)) Γ Ms) (hx : ev σ x = v := by exact A5) (hu : Tab.und P t = some d := by rfl) (hdd : (match d with | .interface _ => true | _ => false) = false := by rfl) (hd : Af n dst = true := by rfl) : Ew P f R B n K ops l (Ch dst (.makeInterface t x) ty) σ Γ Ms := Be (D0f hu hdd hx) hd k_
theorem C1x {T : TypeId} {e : Int} (hR : ∀ w, St B [] [] w → R (.panicked (Xh T e)) w) (hx : ev σ x = .iface T (.int .i64 e) := by exact A5) (hD : n.defs = [] := by rfl) (hK : okK n.kind := by first | exact .inl rfl | exact .inr rfl) : Ew P f R B n K ops l (Ch dst (.panic x) ty) σ Γ Ms := fun a w hr hs => by
 unfold Oper.wp
 rw [hr.eval]
 have e1 : (execOp (ev σ) (Ch dst (.panic x) ty)).run P w = .halt (.panic (.iface T (.int .i64 e))) w := by
  simp only [Ch, execOp, hx]
  rfl
 rw [e1, Oper.upon_panic]
 refine ⟨hK.imp id (fun h => ⟨h, hr.defs.trans hD⟩), fun fn hfn => ?_⟩
 rw [hr.defs, hD]
 exact hR w (St.Pa (A := Ms) (Ms := []) (by rw [List.append_nil]; exact hs.less (fun F hF => by cases hF)))
theorem D5u {c : FuncId} {cap : List Value} {ts : Array TypeId} {g : Operand} (k_ : Ec P f R B ⟨n.sz, ⟨.fn (.func c) cap.toArray, #[]⟩ :: n.defs, n.kind⟩ K ops l σ Γ Ms) (hg : ev σ g = .func (.func c) #[] cap.toArray := by rfl) : Ew P f R B n K ops l (Ch none (.defer { callee := .value g, args := #[], argTypes := ts }) ty) σ Γ Ms := fun a w hr hs => by
 unfold Oper.wp
 rw [hr.eval]
 have e1 : (execOp (ev σ) (Ch none (.defer { callee := .value g, args := #[], argTypes := ts }) ty)).run P w = .ok (.defer ⟨.fn (.func c) cap.toArray, #[]⟩) w := by
  simp [Ch, execOp, resolve, hg, Deferred.ofValue]
 rw [e1, Oper.upon_defer]
 exact k_ _ _ ⟨hr.size, hr.get, by show _ :: a.defers = _; rw [hr.defs]⟩ hs
end
def Xr (P : Program) (k : FuncId) (args : Array Value) (pre : List Fact) (Ms0 : List Bj) (u u' : FrameMode) (N : List Fact) (Ms1 : List Bj) : Prop :=
 ∀ ok w, (∀ b, ok b → b < w.heap.size ∧ ¬ Bo Ms0 b) → St ⟨ok, Bo Ms0, w⟩ pre Ms0 w → CallsD P k args u w fun e v w' => e = .returned (.tuple #[]) ∧ v = u' ∧ St ⟨ok, Bo Ms0, w⟩ N Ms1 w'
section
variable {P : Program} {f : FuncId} {fn : Func} {R : Ending → World → Prop} {B : Cu} {n : Fz} {K : List Item} {σ : Nat → Value} {Γ : List Fact} {Ms : List Bj}
theorem C2j {k : FuncId} {cap : List Value} {pre N : List Fact} {Ms0 Ms1 Ms2 : List Bj} {u u' : FrameMode} {tmps : Array Value} {w : World} (hu : u ≠ .run) (hc : ∀ (args : Array Value) (w : World), (callFunc k args).run P w = .ok (.enter k args) w) (hsp : Xr P k cap.toArray pre Ms0 u u' N Ms1) (hpre : ∀ F, F ∈ pre → F ∈ Γ) (hm : Ms.Perm (Ms0 ++ Ms2)) (hset : settle u' = .returning)
  (hs : St B Γ Ms w) (hres : ∀ w', St B (N ++ Γ) (Ms1 ++ Ms2) w' → ∃ v, (results fn tmps).run P w' = .ok v w' ∧ R (.returned v) w') : Leaves P fn tmps R [⟨.fn (.func k) cap.toArray, #[]⟩] u w := by
 refine leaves_cons (f := k) (args := cap.toArray) hu (by simp [invoke, hc]) ?_
 have hs' := hs.perm hm
 refine (hsp (R5 B (Ms0 ++ Ms2) w) w ?_ (hs'.hand hpre)).mono ?_
 ·intro b hb
  exact ⟨hb.2.1, fun hc => hb.2.2 (Ej.2 (.inl hc))⟩
 ·rintro e v w' ⟨rfl, rfl, hx⟩
  show Leaves P fn tmps R [] (settle v) w'
  rw [hset]
  obtain ⟨v', h1, h2⟩ := hres w' (hs'.frame hx)
  exact ⟨v', h1, h2⟩
theorem D6i {k : FuncId} {cap : List Value} {pre N : List Fact} {Ms0 Ms1 Ms2 : List Bj} (hf : P.funcs[f]? = some fn) (hc : ∀ (args : Array Value) (w : World), (callFunc k args).run P w = .ok (.enter k args) w) (hsp : Xr P k cap.toArray pre Ms0 .returning .returning N Ms1) (hpre : ∀ F, F ∈ pre → F ∈ Γ) (hm : Ms.Perm (Ms0 ++ Ms2))
  (hres : ∀ a w', Rel n a σ → St B (N ++ Γ) (Ms1 ++ Ms2) w' → ∃ v, (results fn a.tmps).run P w' = .ok v w' ∧ R (.returned v) w') (hD : n.defs = [⟨.fn (.func k) cap.toArray, #[]⟩] := by rfl) (hK : n.kind = .normal := by rfl) : Fs P f R B n (.code .ret :: K) σ Γ Ms := by
 intro a w hr hs b cs hb hk
 have hfn : P.funcs[b.fn]? = some fn := by rw [hb]; exact hf
 have hL : Leaves P fn a.tmps R a.defers .returning w := by
  rw [hr.defs, hD]
  exact C2j E5 hc hsp hpre hm rfl hs (fun w' h => hres a w' hr h)
 obtain ⟨e, w', fr, hR, hs', hf', hl⟩ := leaves_steps a.defers .returning w { b.at a (.code .ret :: K) with mode := .returning } cs rfl rfl rfl hfn (hk.trans hK) hL
 exact ⟨e, w', fr, hR, hs'.of_steps (.one step_ret), hf'.trans hb, .inl ⟨hK, hl⟩⟩
theorem D5n {ops : Array Oper} {l : List Nat} {dst : Option Tmp} {op : Op} {ty : TypeId} {c k : FuncId} {args : Array Value} {cap : List Value} {pre pre2 N : List Fact} {chain : List PanicEntry} {Ms0 Ms1 Ms2 : List Bj} {u' : FrameMode} (he : T8 P σ op ty c args) (hsp : T7 P c args pre chain) (hpre : ∀ F, F ∈ pre → F ∈ Γ) (hf : P.funcs[f]? = some fn)
  (hc : ∀ (args : Array Value) (w : World), (callFunc k args).run P w = .ok (.enter k args) w) (hsd : Xr P k cap.toArray pre2 Ms0 (.panicking chain) u' N Ms1) (hpre2 : ∀ F, F ∈ pre2 → F ∈ Γ) (hm : Ms.Perm (Ms0 ++ Ms2)) (hset : settle u' = .returning)
  (hres : ∀ a w', Rel n a σ → St B (N ++ Γ) (Ms1 ++ Ms2) w' → ∃ v, (results fn a.tmps).run P w' = .ok v w' ∧ R (.returned v) w') (hD : n.defs = [⟨.fn (.func k) cap.toArray, #[]⟩] := by rfl) (hK : n.kind = .normal := by rfl) : Ew P f R B n K ops l (Ch dst op ty) σ Γ Ms := by
 intro a w hr hs
 unfold Oper.wp
 rw [hr.eval, show (execOp (ev σ) (Ch dst op ty)).run P w = .ok (.enter c args) w by rw [Ch, Fg (d' := none)]; exact he w]
 have hs' : St B Γ ([] ++ Ms) w := hs
 refine (hsp (R5 B ([] ++ Ms) w) w (fun b hb => ⟨hb.2.1, Iy b⟩) (hs'.hand hpre)).mono ?_
 rintro e w' ⟨rfl, hx⟩
 refine ⟨.inl hK, fun fn' hfn' => ?_⟩
 rw [hf] at hfn'
 injection hfn' with hfn'
 subst hfn'
 rw [hr.defs, hD]
 have h1 : St B Γ Ms w' := by have := hs'.frame hx; simpa using this
 exact C2j E5 hc hsd hpre2 hm hset h1 (fun w' h => hres a w' hr h)
end
section
variable {P : Program} {f : FuncId} {fn : Func} {B : Cu} {Γ : List Fact} {Ms : List Bj}
theorem B9p {R : Ending → World → Prop} {n : Fz} {args : Array Value} {c : Code} {w : World} {d d2 : Tmp} {o1 o2 : Oper} {id : Nat} (hf : P.funcs[f]? = some fn) (hb : fn.body = some (.seq (.region id #[o1, o2] false) c)) (hn : fn.ntmps = n.sz) (hD : n.defs = []) (hk : n.kind = .deferred) (ha : args.size ≤ n.sz) (hs : St B Γ Ms w)
  (h1 : ∀ ρ w, (execOp ρ o1).run P w = .ok .recover w) (hd1 : o1.dst = some d) (hg1 : o1.guard = none) (h2 : ∀ ρ : Operand → Value, execOp ρ o2 = pure (.value (ρ (.tmp d)))) (hd2 : o2.dst = some d2) (hg2 : o2.guard = none) (hl1 : Nat.blt d n.sz = true) (hl2 : Nat.blt d2 n.sz = true)
  (h : Fs P f R B n [.code c] (Tx (Tx (fun t => args.getD t undef) d .nilIface) d2 .nilIface) Γ Ms) : CallsD P f args .returning w fun e u' w' => u' = .returning ∧ R e w' := by
 intro c0 cs hu
 let b : Frame := { (default : Frame) with fn := f, kind := .deferred }
 have henter : Frame.enter P f args .deferred = b.at { tmps := args ++ Array.replicate (fn.ntmps - args.size) undef, defers := [] } [.code (.seq (.region id #[o1, o2] false) c)] := by
  simp [Frame.enter, Frame.at, hf, hb, b]
 have hr0 := Ye (fn := fn) hn hD ha
 have hr1 := hr0.put (dst := some d) hl1 .nilIface
 have hr2 := hr1.put (dst := some d2) hl2 .nilIface
 have hS : wpOpsS P #[o1, o2] (fun e a' cs' w' => e = .normal ∧ a' = (({ tmps := args ++ Array.replicate (fn.ntmps - args.size) undef, defers := [] } : Act).put (some d) .nilIface).put (some d2) .nilIface ∧ cs' = c0 :: cs ∧ w' = w) [0, 1] { tmps := args ++ Array.replicate (fn.ntmps - args.size) undef, defers := [] } (c0 :: cs) w := by
  have e1 : (#[o1, o2])[0]? = some o1 := rfl
  have e2 : (#[o1, o2])[1]? = some o2 := rfl
  have hrec : recoverD (c0 :: cs) = none := by simp [recoverD, hu]
  have hput : ((({ tmps := args ++ Array.replicate (fn.ntmps - args.size) undef, defers := [] } : Act).put (some d) .nilIface).eval (.tmp d)) = .nilIface := by
   rw [hr1.eval]; simp [ev, Au, L8]
  simp only [wpOpsS, e1, e2, Region.wanted, hg1, hg2, if_true, h1, hrec, hd1, h2]
  rw [hput]
  show Oper.upon P o2 _ _ _ (.ok (.value .nilIface) w)
  simp only [Oper.upon_value, hd2, and_self]
 obtain ⟨e, a', cs', w', ⟨rfl, rfl, rfl, rfl⟩, harr⟩ := wp_opsS [0, 1] _ _ _ hS b [.code c] rfl rfl
 obtain ⟨e, w2, fr, hR, hc, hf', hl⟩ := h _ w' hr2 hs b (c0 :: cs) rfl hk.symm
 rcases hl with ⟨h9, _⟩ | ⟨_, hk2, hgo⟩
 ·rw [hk] at h9; cases h9
 ·refine ⟨e, .returning, w2, fr, ⟨rfl, hR⟩, ?_, hk2, hgo⟩
  have hc0 : ({ c0 with mode := .returning } : Frame) = c0 := by rw [← hu]
  rw [henter, hc0]
  exact hc.of_steps (.head step_seq (.head step_region harr))
theorem A8d {args : List Value} {d d2 : Nat} {v : Value} : (Tx (Tx (fun t => args.toArray.getD t undef) d v) d2 v) = Tx (Tx (fun t => args.getD t undef) d v) d2 v := by
 have he : (fun t => args.toArray.getD t undef) = fun t => args.getD t undef := by
  funext t
  simp [Array.getD_eq_getD_getElem?, List.getD_eq_getElem?_getD]
 rw [he]
theorem C8j {args : List Value} {c : Code} {d d2 sz : Nat} {o1 o2 : Oper} {id : Nat} {v : Value} {older : List PanicEntry} {N pre : List Fact} {Ms0 Ms1 : List Bj} (hf : P.funcs[f]? = some fn) (hb : fn.body = some (.seq (.region id #[o1, o2] false) c)) (hn : fn.ntmps = sz) (ha : args.length ≤ sz)
  (h1 : ∀ ρ w, (execOp ρ o1).run P w = .ok .recover w) (hd1 : o1.dst = some d) (hg1 : o1.guard = none) (h2 : ∀ ρ : Operand → Value, execOp ρ o2 = pure (.value (ρ (.tmp d)))) (hd2 : o2.dst = some d2) (hg2 : o2.guard = none) (hl1 : Nat.blt d sz = true) (hl2 : Nat.blt d2 sz = true)
  (h : ∀ B : Cu, (∀ b, B.S0 b ↔ Bo Ms0 b) → Fs P f (Ends B (fun _ : Unit => .tuple #[]) (fun _ => N) (fun _ => Ms1)) B ⟨sz, [], .deferred⟩ [.code c] (Tx (Tx (fun t => args.getD t undef) d v) d2 v) pre Ms0) :
  Xr P f args.toArray pre Ms0 (.panicking ({ v, recovered := false } :: older)) (.panicking ({ v, recovered := true } :: older)) N Ms1 := by
 intro ok w hok hs
 refine (C7i (n := ⟨sz, [], .deferred⟩) hf hb hn rfl rfl (by simpa using ha) hs h1 hd1 hg1 h2 hd2 hg2 hl1 hl2 (by rw [A8d]; exact h ⟨ok, Bo Ms0, w⟩ (fun _ => Iff.rfl))).mono ?_
 rintro e u w' ⟨rfl, _, he, hx⟩
 exact ⟨he, rfl, hx⟩
theorem C4f {args : List Value} {c : Code} {d d2 sz : Nat} {o1 o2 : Oper} {id : Nat} {N pre : List Fact} {Ms0 Ms1 : List Bj} (hf : P.funcs[f]? = some fn) (hb : fn.body = some (.seq (.region id #[o1, o2] false) c)) (hn : fn.ntmps = sz) (ha : args.length ≤ sz)
  (h1 : ∀ ρ w, (execOp ρ o1).run P w = .ok .recover w) (hd1 : o1.dst = some d) (hg1 : o1.guard = none) (h2 : ∀ ρ : Operand → Value, execOp ρ o2 = pure (.value (ρ (.tmp d)))) (hd2 : o2.dst = some d2) (hg2 : o2.guard = none) (hl1 : Nat.blt d sz = true) (hl2 : Nat.blt d2 sz = true)
  (h : ∀ B : Cu, (∀ b, B.S0 b ↔ Bo Ms0 b) → Fs P f (Ends B (fun _ : Unit => .tuple #[]) (fun _ => N) (fun _ => Ms1)) B ⟨sz, [], .deferred⟩ [.code c] (Tx (Tx (fun t => args.getD t undef) d .nilIface) d2 .nilIface) pre Ms0) :
  Xr P f args.toArray pre Ms0 .returning .returning N Ms1 := by
 intro ok w hok hs
 refine (B9p (n := ⟨sz, [], .deferred⟩) hf hb hn rfl rfl (by simpa using ha) hs h1 hd1 hg1 h2 hd2 hg2 hl1 hl2 (by rw [A8d]; exact h ⟨ok, Bo Ms0, w⟩ (fun _ => Iff.rfl))).mono ?_
 rintro e u w' ⟨rfl, _, he, hx⟩
 exact ⟨he, rfl, hx⟩
end
section
variable {P : Program} [Tab P] {f : FuncId} {R : Ending → World → Prop} {B : Cu} {n : Fz} {K : List Item} {ops : Array Oper} {i : Nat} {l : List Nat} {σ : Nat → Value} {Γ : List Fact} {Ms : List Bj}
variable {dst : Option Tmp} {ty : TypeId} {v : Value} {x y : Operand}
theorem A5n {t : TypeId} (hu : (match Tab.und P t with | some (.interface _) => true | _ => false) = true) : ∃ m, Tab.und P t = some (.interface m) := by
 cases h : Tab.und P t with
 | none => rw [h] at hu; cases hu
 | some d => cases d <;> rw [h] at hu <;> first | exact ⟨_, rfl⟩ | cases hu
theorem C8x {t T : TypeId} {v : Value} (hu : (match Tab.und P t with | some (.interface _) => true | _ => false) = true) (w : World) : (Op.equal t (.iface T v) .nilIface).run P w = .ok false w := by
 obtain ⟨m, hu'⟩ := A5n hu
 have h1 : (Op.equalIn (9999 + 1) t (.iface T v) .nilIface).run P w = .ok false w := by
  unfold Op.equalIn
  rw [Ai (Du hu' w)]
  rfl
 exact h1
theorem C8w {t : TypeId} (hu : (match Tab.und P t with | some (.interface _) => true | _ => false) = true) (w : World) : (Op.equal t .nilIface .nilIface).run P w = .ok true w := by
 obtain ⟨m, hu'⟩ := A5n hu
 have h1 : (Op.equalIn (9999 + 1) t .nilIface .nilIface).run P w = .ok true w := by
  unfold Op.equalIn
  rw [Ai (Du hu' w)]
  rfl
 exact h1
theorem C5o {t t' T : TypeId} (k_ : Ec P f R B n K ops l (Au σ dst (.bool true)) Γ Ms) (hx : ev σ x = .iface T v := by exact A5) (hu : (match Tab.und P t with | some (.interface _) => true | _ => false) = true := by rfl) (hd : Af n dst = true := by rfl) : Ew P f R B n K ops l (Ch dst (.binOp .neq t x (.const .nilIface) t') ty) σ Γ Ms := Be (Dp hx (show ev σ (.const .nilIface) = Value.nilIface from rfl) (fun w => by simp [eqGuard_at_iface]) (fun w => by
 simp only [binOp]
 rw [Ai (C8x hu w)]; rfl)) hd k_
theorem D5r {t t' : TypeId} (k_ : Ec P f R B n K ops l (Au σ dst (.bool false)) Γ Ms) (hx : ev σ x = .nilIface := by exact A5) (hu : (match Tab.und P t with | some (.interface _) => true | _ => false) = true := by rfl) (hd : Af n dst = true := by rfl) : Ew P f R B n K ops l (Ch dst (.binOp .neq t x (.const .nilIface) t') ty) σ Γ Ms := Be (Dp hx (show ev σ (.const .nilIface) = Value.nilIface from rfl) (fun w => by cases x <;> rfl) (fun w => by
 simp only [binOp]
 rw [Ai (C8w hu w)]; rfl)) hd k_
theorem C5n {t T : TypeId} {d : TypeDesc} (k_ : Ec P f R B n K ops l (Au σ dst (.tuple #[v, .bool true])) Γ Ms) (hx : ev σ x = .iface T v := by exact A5) (hu : Tab.und P T = some d := by rfl) (hdd : (match d with | .interface _ => true | _ => false) = false := by rfl) (hd : Af n dst = true := by rfl) : Ew P f R B n K ops l (Ch dst (.typeAssert x t T true) ty) σ Γ Ms := Be (fun w => by
 cases d <;> first | (simp at hdd; done) | simp [Ch, execOp, hx, Instr.typeAssert, Du hu]) hd k_
end
section
variable {P : Program} [Tab P] {f : FuncId} {fn : Func} {B : Cu} {n : Fz} {K : List Item} {σ : Nat → Value} {Γ : List Fact} {Ms : List Bj} {X : Type} {val : X → Value} {N : X → List Fact} {Ms1 : X → List Bj}
theorem V4 {r t T r2 t2 T2 b b2 s bt : Nat} {zv v2 : Value} {d : TypeDesc} {lay : List (Nat × Nat)} {cs : List Value} {a : Act} {w : World} (hr : fn.results = #[.cell r t, .cell r2 t2]) (ha : Rel n a σ) (hs : St B Γ Ms w) (hb : σ r = .pointer (some ⟨b, 0, none⟩)) (hb2 : σ r2 = .pointer (some ⟨b2, 0, none⟩)) (hm : Ae b cs T ∈ Ms) (hm2 : Ae b2 [v2] T2 ∈ Ms)
  (hl : Tab.lay P t = some lay) (hi : Tab.inf P t = some (s, bt, zv)) (hcs : cs.length = s) (hu : Tab.und P t2 = some d) (hd : (match d with | .struct _ | .array _ _ => true | _ => false) = false) : (results fn a.tmps).run P w = .ok (.tuple #[.agg cs.toArray, v2]) w := by
 have h1 := ha.get r
 rw [hb] at h1
 have h3 := ha.get r2
 rw [hb2] at h3
 have h2 := E7 (P := P) (bk := b) (off := 0) (w := w) hl hi hcs (fun j v hj => by rw [Nat.zero_add]; exact Ob hs hm j v hj)
 have h4 : (loadVar t2 ⟨b2, 0, none⟩).run P w = .ok v2 w := E6 (P := P) (off := 0) (w := w) hu hd (Ob hs hm2 0 v2 rfl)
 have h1' : (a.tmps[r]?.getD undef) = .pointer (some ⟨b, 0, none⟩) := by simpa [Array.getD_eq_getD_getElem?] using h1
 have h3' : (a.tmps[r2]?.getD undef) = .pointer (some ⟨b2, 0, none⟩) := by simpa [Array.getD_eq_getD_getElem?] using h3
 simp [results, hr, asAddr, h1', h2, h3', h4]
theorem D7o {r t T r2 t2 T2 b b2 s bt : Nat} {zv v2 : Value} {d : TypeDesc} {lay : List (Nat × Nat)} {cs : List Value} (hf : P.funcs[f]? = some fn) (hr : fn.results = #[.cell r t, .cell r2 t2]) (x : X) (hb : σ r = .pointer (some ⟨b, 0, none⟩)) (hb2 : σ r2 = .pointer (some ⟨b2, 0, none⟩)) (hm : Ae b cs T ∈ Ms) (hm2 : Ae b2 [v2] T2 ∈ Ms)
  (hl : Tab.lay P t = some lay) (hi : Tab.inf P t = some (s, bt, zv)) (hcs : cs.length = s) (hu : Tab.und P t2 = some d) (hd : (match d with | .struct _ | .array _ _ => true | _ => false) = false) (hv : Value.tuple #[.agg cs.toArray, v2] = val x) (hs : ∀ w, St B Γ Ms w → St B (N x) (Ms1 x) w) (hD : n.defs = [] := by rfl) (hK : okK n.kind := by first | exact .inl rfl | exact .inr rfl) : Fs P f (Ends B val N Ms1) B n (.code .ret :: K) σ Γ Ms :=
 go_ret hf (fun a w ha h => (V4 hr ha h hb hb2 hm hm2 hl hi hcs hu hd).trans (by rw [hv])) (fun w h => ⟨x, rfl, hs w h⟩) hD hK
end
section
variable {P : Program} [Tab P] {f : FuncId} {fn : Func} {B : Cu} {n : Fz} {K : List Item} {σ : Nat → Value} {Γ : List Fact} {Ms : List Bj} {X : Type} {val : X → Value} {N : X → List Fact} {Ms1 : X → List Bj}
theorem D9m {r t T r2 t2 T2 b b2 s bt : Nat} {zv v2 : Value} {d : TypeDesc} {lay : List (Nat × Nat)} {cs : List Value} {k : FuncId} {cap : List Value} (hf : P.funcs[f]? = some fn) (hr : fn.results = #[.cell r t, .cell r2 t2]) (hc : ∀ (args : Array Value) (w : World), (callFunc k args).run P w = .ok (.enter k args) w) (hsp : Xr P k cap.toArray [] [] .returning .returning [] [])
  (x : X) (hb : σ r = .pointer (some ⟨b, 0, none⟩)) (hb2 : σ r2 = .pointer (some ⟨b2, 0, none⟩)) (hm : Ae b cs T ∈ Ms) (hm2 : Ae b2 [v2] T2 ∈ Ms)
  (hl : Tab.lay P t = some lay) (hi : Tab.inf P t = some (s, bt, zv)) (hcs : cs.length = s) (hu : Tab.und P t2 = some d) (hd : (match d with | .struct _ | .array _ _ => true | _ => false) = false) (hv : Value.tuple #[.agg cs.toArray, v2] = val x) (hs : ∀ w, St B Γ Ms w → St B (N x) (Ms1 x) w) (hD : n.defs = [⟨.fn (.func k) cap.toArray, #[]⟩] := by rfl) (hK : n.kind = .normal := by rfl) : Fs P f (Ends B val N Ms1) B n (.code .ret :: K) σ Γ Ms :=
 D6i (Ms2 := Ms) hf hc hsp (fun F hF => by cases hF) (List.Perm.refl _) (fun a w' ha h => ⟨_, V4 hr ha h hb hb2 hm hm2 hl hi hcs hu hd, ⟨x, by rw [hv], hs w' h⟩⟩) hD hK
theorem D9y {r t T r2 t2 T2 b b2 s bt : Nat} {zv v2 : Value} {d : TypeDesc} {lay : List (Nat × Nat)} {cs cs0 : List Value} {v0 : Value} {k c : FuncId} {cap : List Value} {ops : Array Oper} {l : List Nat} {dst : Option Tmp} {op : Op} {ty : TypeId} {args : Array Value} {pre : List Fact} {chain : List PanicEntry} {u' : FrameMode} {Ms2 : List Bj} (he : T8 P σ op ty c args) (hspp : T7 P c args pre chain) (hpre : ∀ F, F ∈ pre → F ∈ Γ)
  (hf : P.funcs[f]? = some fn) (hr : fn.results = #[.cell r t, .cell r2 t2]) (hc : ∀ (args : Array Value) (w : World), (callFunc k args).run P w = .ok (.enter k args) w) (hsp : Xr P k cap.toArray [] [Ae b cs0 T, Ae b2 [v0] T2] (.panicking chain) u' [] [Ae b cs T, Ae b2 [v2] T2]) (hset : settle u' = .returning) (hm : Ms.Perm (Ae b cs0 T :: Ae b2 [v0] T2 :: Ms2))
  (x : X) (hb : σ r = .pointer (some ⟨b, 0, none⟩)) (hb2 : σ r2 = .pointer (some ⟨b2, 0, none⟩))
  (hl : Tab.lay P t = some lay) (hi : Tab.inf P t = some (s, bt, zv)) (hcs : cs.length = s) (hu : Tab.und P t2 = some d) (hd : (match d with | .struct _ | .array _ _ => true | _ => false) = false) (hv : Value.tuple #[.agg cs.toArray, v2] = val x) (hs : ∀ w, St B Γ [] w → St B (N x) (Ms1 x) w) (hD : n.defs = [⟨.fn (.func k) cap.toArray, #[]⟩] := by rfl) (hK : n.kind = .normal := by rfl) : Ew P f (Ends B val N Ms1) B n K ops l (Ch dst op ty) σ Γ Ms :=
 D5n (Ms0 := [Ae b cs0 T, Ae b2 [v0] T2]) (Ms2 := Ms2) he hspp hpre hf hc hsp (fun F hF => by cases hF) hm hset (fun a w' ha h => ⟨_, V4 hr ha h hb hb2 (List.mem_cons_self) (List.mem_cons_of_mem _ List.mem_cons_self) hl hi hcs hu hd, ⟨x, by rw [hv], hs w' (St.Pa (A := Ae b cs T :: Ae b2 [v2] T2 :: Ms2) (Ms := []) (by rw [List.append_nil]; exact h))⟩⟩) hD hK
end
section
variable {P : Program} [Tab P] {f : FuncId} {R : Ending → World → Prop} {B : Cu} {n : Fz} {K : List Item} {ops : Array Oper} {i : Nat} {l : List Nat} {σ : Nat → Value} {Γ : List Fact} {Ms : List Bj}
variable {dst : Option Tmp} {ty : TypeId} {v : Value} {x y : Operand}
theorem C5b {s d : TypeId} {a : Nat} (hs : Tab.und P s = some (.int .u32)) (hd : Tab.und P d = some (.int .u64)) (hx : ev σ x = .int .u32 (a : Int)) (ha : a < 4294967296) : Cg P σ (.convert s d x) ty (.int .u64 (a : Int)) := by
 have e : IntKind.u64.wrap (a : Int) = (a : Int) := by
  have : IntKind.u64.wrap (a : Int) = (a : Int) % 18446744073709551616 := by simp [IntKind.wrap, IntKind.bits, IntKind.signed]
  rw [this]; omega
 have := Kg (P := P) (ty := ty) hs hd hx
 rwa [e] at this
theorem D1c {s d : TypeId} {a : Nat} (k_ : Ec P f R B n K ops l (Au σ dst (.int .u64 (a : Int))) Γ Ms) (hx : ev σ x = .int .u32 (a : Int) := by exact A5) (ha : a < 4294967296 := by first | assumption | omega) (hs : Tab.und P s = some (.int .u32) := by rfl) (hd' : Tab.und P d = some (.int .u64) := by rfl) (hd : Af n dst = true := by rfl) : Ew P f R B n K ops l (Ch dst (.convert s d x) ty) σ Γ Ms := Be (C5b hs hd' hx ha) hd k_
end
end Go.Hy
namespace Go.Hy
def Db (c d : Cl) : Cl := ⟨c.pos ||| d.pos, c.neg ||| d.neg⟩
theorem B9t (c d : Cl) : decide (Db c d = c) = below c d := by
 obtain ⟨p, n⟩ := c
 obtain ⟨p', n'⟩ := d
 simp [Db, below]
def F4 (l : List Cl) (i : Nat) : Nat := (l.take i).foldl (fun a c => a ||| (c.pos ||| c.neg)) 0
theorem Zj {l : List Cl} {i : Nat} (h : i < l.length) : F4 l (i + 1) = F4 l i ||| ((l.getD i A4).pos ||| (l.getD i A4).neg) := by
 unfold F4; rw [Ad (d := A4) h, List.foldl_append]; rfl
theorem A6r {l : List Cl} (h : ∀ c, c ∈ l → u32 c) : ∀ i, F4 l i < 4294967296 := by
 intro i
 have : ∀ (m : List Cl) (a : Nat), (∀ c, c ∈ m → u32 c) → a < 4294967296 → m.foldl (fun a c => a ||| (c.pos ||| c.neg)) a < 4294967296 := by
  intro m
  induction m with
  | nil => intro a _ h; exact h
  | cons c m ih =>
   intro a hm ha
   have hc := hm c List.mem_cons_self
   exact ih _ (fun d hd => hm d (List.mem_cons_of_mem _ hd)) (Nat.or_lt_two_pow (n := 32) ha (Nat.or_lt_two_pow (n := 32) hc.1 hc.2))
 exact this _ 0 (fun c hc => h c (List.mem_of_mem_take hc)) A2
theorem A3n (l : List Cl) : Dl l = F4 l l.length &&& 16777215 := by
 unfold Dl F4; rw [List.take_length]
theorem B6c {s : Nat} (hs : s < 4294967296) : decide ((Bi s 16777215 : Int) = 0) = decide (s < 16777216) := by
 apply decide_eq_decide.mpr
 have h : Bi s 16777215 = s / 16777216 * 16777216 := by
  unfold Bi
  have e : (BitVec.ofNat 32 s &&& ~~~ BitVec.ofNat 32 16777215).toNat = s / 16777216 * 16777216 := by
   apply Nat.eq_of_testBit_eq
   intro i
   rw [← BitVec.getLsbD, BitVec.getLsbD_and, BitVec.getLsbD_not, BitVec.getLsbD_ofNat, BitVec.getLsbD_ofNat]
   rw [show s / 16777216 * 16777216 = (s / 2 ^ 24) * 2 ^ 24 from rfl, Nat.testBit_mul_two_pow, Nat.testBit_div_two_pow]
   rw [show (16777215 : Nat) = 2 ^ 24 - 1 from rfl, Nat.testBit_two_pow_sub_one]
   by_cases h1 : i < 32
   ·by_cases h2 : 24 ≤ i
    ·simp [h1, h2, Nat.sub_add_cancel h2]
    ·simp [h1, h2]; omega
   ·have : s.testBit i = false := Nat.testBit_lt_two_pow (Nat.lt_of_lt_of_le hs (Nat.pow_le_pow_right (n := 2) A2 (show 32 ≤ i by omega)))
    have h2 : 24 ≤ i := by omega
    simp [h1, h2, Nat.sub_add_cancel h2, this]
  exact e
 omega
end Go.Hy
namespace Go.Hy
def B8q (g : Cl → Bool) (l : List Cl) : Int := if l.any g then (l.findIdx g : Int) else -1
theorem Eo {α : Type} {d : α} {l : List α} {i : Nat} (h : i < l.length) : l.getD i d = l[i] := by
 rw [List.getD_eq_getElem?_getD, List.getElem?_eq_getElem h]; rfl
theorem D6h {g : Cl → Bool} {l : List Cl} {i : Nat} (h : i < l.length) (hg : g (l.getD i A4) = true) (hb : ∀ j, j < i → g (l.getD j A4) = false) : B8q g l = i := by
 have hany : l.any g = true := List.any_eq_true.mpr ⟨_, Ac h, hg⟩
 have hidx : l.findIdx g = i := by
  rw [List.findIdx_eq h]
  refine ⟨by rw [← Eo (d := A4) h]; exact hg, fun j hj => ?_⟩
  have := hb j hj
  rwa [Eo (d := A4) A2] at this
 unfold B8q
 rw [hany, hidx]; rfl
theorem C6o {g : Cl → Bool} {l : List Cl} (hb : ∀ j, j < l.length → g (l.getD j A4) = false) : B8q g l = -1 := by
 have hany : l.any g = false := by
  rw [List.any_eq_false]
  intro x hx
  obtain ⟨j, hj, e⟩ := List.mem_iff_getElem.mp hx
  have := hb j hj
  rw [Eo (d := A4) hj, e] at this
  simp [this]
 unfold B8q; rw [hany]; rfl
theorem B4z (g : Cl → Bool) (l : List Cl) : decide (0 ≤ B8q g l) = l.any g := by
 unfold B8q
 cases l.any g
 ·rfl
 ·simp
def once (l : List Cl) : List Cl := l.foldl (fun o c => if c ∈ o then o else o ++ [c]) []
theorem C5m (l : List Cl) (c : Cl) : once (l ++ [c]) = if c ∈ once l then once l else once l ++ [c] := by
 unfold once; rw [List.foldl_append]; rfl
theorem A2h (c : Cl) : ∀ (l o : List Cl), (c ∈ l.foldl (fun o c => if c ∈ o then o else o ++ [c]) o ↔ c ∈ o ∨ c ∈ l) ∧ (l.foldl (fun o c => if c ∈ o then o else o ++ [c]) o).length ≤ o.length + l.length
 | [], o => by simp
 | d :: l, o => by
  have ih := A2h c l (if d ∈ o then o else o ++ [d])
  rw [List.foldl_cons]
  constructor
  ·rw [ih.1, List.mem_cons]
   split
   ·rename_i h
    constructor
    ·rintro (h2 | h2)
     ·exact .inl h2
     ·exact .inr (.inr h2)
    ·rintro (h2 | h2 | h2)
     ·exact .inl h2
     ·exact .inl (h2 ▸ h)
     ·exact .inr h2
   ·rw [List.mem_append, List.mem_singleton, or_assoc]
  ·have h3 := ih.2
   have h4 : (if d ∈ o then o else o ++ [d]).length ≤ o.length + 1 := by split <;> simp
   simp only [List.length_cons]; omega
theorem Ql (c : Cl) (l : List Cl) : c ∈ once l ↔ c ∈ l := by
 have := (A2h c l []).1
 simpa [once] using this
theorem Wv (l : List Cl) : (once l).length ≤ l.length := by
 have := (A2h A4 l []).2
 simpa [once] using this
def C4 (l : List Cl) (c : Cl) : Bool := l.any fun d => !decide (c = d) && below c d
def kept (l : List Cl) : List Cl := (once l).filter fun c => !C4 (once l) c
def B1l (l l' : List Cl) : Prop := l'.Perm l ∧ l'.Pairwise fun a b => Ck b a = false
def Kb (l : List Cl) (r : Int × List Cl) : Prop :=
 if l.all Ao = false then r = (2, []) else if 64 < (kept l).length then r = (3, []) else r.1 = 0 ∧ B1l (kept l) r.2
end Go.Hy
namespace Go.Hy
theorem E3c {l : List Cl} {g : Cl → Bool} (h : ∀ j, j < l.length → g (l.getD j A4) = true) : l.all g = true := by
 rw [List.all_eq_true]
 intro x hx
 obtain ⟨j, hj, e⟩ := List.mem_iff_getElem.mp hx
 have := h j hj
 rwa [Eo (d := A4) hj, e] at this
theorem D6t {l : List Cl} {g : Cl → Bool} {i : Nat} (hi : i < l.length) (h : g (l.getD i A4) = false) : l.all g = false := by
 rw [List.all_eq_false]
 exact ⟨l.getD i A4, Ac hi, by rw [h]; decide⟩
def Hg (l : List Cl) (i : Nat) : List Cl := ((once l).take i).filter fun c => !C4 (once l) c
theorem Uk {l : List Cl} {i : Nat} (h : i < (once l).length) : Hg l (i + 1) = if C4 (once l) ((once l).getD i A4) then Hg l i else Hg l i ++ [(once l).getD i A4] := by
 unfold Hg
 rw [Ad (d := A4) h, List.filter_append]
 cases hn : C4 (once l) ((once l).getD i A4)
 ·rw [List.filter_cons_of_pos (by rw [hn]; rfl)]; simp
 ·rw [List.filter_cons_of_neg (by rw [hn]; decide)]; simp
theorem B0j (l : List Cl) : Hg l (once l).length = kept l := by simp [Hg, kept]
theorem B0i (l : List Cl) (i : Nat) : (Hg l i).length ≤ l.length := by
 unfold Hg
 have h1 := List.length_filter_le (fun c => !C4 (once l) c) ((once l).take i)
 have h2 := Wv l
 simp only [List.length_take] at h1
 omega
theorem Sm {l : List Cl} {i : Nat} (h : i < l.length) : once (l.take (i + 1)) = if l.getD i A4 ∈ once (l.take i) then once (l.take i) else once (l.take i) ++ [l.getD i A4] := by
 rw [Ad (d := A4) h, C5m]
theorem A4r (l : List Cl) (i : Nat) : (once (l.take i)).length ≤ l.length := by
 have := Wv (l.take i); simp only [List.length_take] at this; omega
theorem D2e {l : List Cl} {c : Cl} (h : c ∈ kept l) : c ∈ l := by
 unfold kept at h
 exact (Ql c l).mp (List.mem_filter.mp h).1
end Go.Hy
namespace Go.Hy
theorem Qp (a b : Cl) : Ck a b = true ∨ a = b ∨ Ck b a = true := by
 obtain ⟨p, n⟩ := a
 obtain ⟨p', n'⟩ := b
 simp only [Ck, Bool.or_eq_true, Bool.and_eq_true, decide_eq_true_eq, Cl.mk.injEq]
 omega
theorem Rb {a b : Cl} (h : Ck a b = true) : Ck b a = false := by
 simp only [Ck, Bool.or_eq_true, Bool.and_eq_true, decide_eq_true_eq, Bool.or_eq_false_iff, Bool.and_eq_false_iff, decide_eq_false_iff_not] at *
 omega
theorem Zp {a b c : Cl} (h : Ck a b = true) (h2 : Ck b c = true) : Ck a c = true := by
 simp only [Ck, Bool.or_eq_true, Bool.and_eq_true, decide_eq_true_eq] at *
 omega
theorem To (a : Cl) : Ck a a = false := by simp [Ck]
theorem E7g {a b : Cl} (h : Ck a b = false) (h2 : Ck b a = false) : a = b := by
 rcases Qp a b with h3 | h3 | h3
 ·rw [h] at h3; cases h3
 ·exact h3
 ·rw [h2] at h3; cases h3
theorem A5w : ∀ {l m : List Cl}, l.Perm m → (l.Pairwise fun a b => Ck b a = false) → (m.Pairwise fun a b => Ck b a = false) → l = m
 | [], m, hp, _, _ => by have := hp.length_eq; cases m with | nil => rfl | cons _ _ => simp at this
 | a :: l, [], hp, _, _ => by have := hp.length_eq; simp at this
 | a :: l, b :: m, hp, h1, h2 => by
  rw [List.pairwise_cons] at h1 h2
  have ha : a ∈ b :: m := hp.mem_iff.mp List.mem_cons_self
  have hb : b ∈ a :: l := hp.mem_iff.mpr List.mem_cons_self
  have e : a = b := by
   rcases List.mem_cons.mp ha with h | h
   ·exact h
   ·rcases List.mem_cons.mp hb with h3 | h3
    ·exact h3.symm
    ·exact E7g (h2.1 a h |> fun x => x) (h1.1 b h3) |> fun x => by exact x
  subst e
  rw [A5w (List.Perm.cons_inv hp) h1.2 h2.2]
theorem Oy : ∀ {l : List Cl}, Oz l = true ↔ l.Pairwise fun a b => Ck a b = true
 | [] => by simp [Oz]
 | [a] => by simp [Oz]
 | a :: b :: l => by
  rw [Oz, Bool.and_eq_true, Oy (l := b :: l), List.pairwise_cons (a := a)]
  constructor
  ·rintro ⟨h1, h2⟩
   refine ⟨fun c hc => ?_, h2⟩
   rcases List.mem_cons.mp hc with h | h
   ·exact h ▸ h1
   ·exact Zp h1 ((List.pairwise_cons.mp h2).1 c h)
  ·rintro ⟨h1, h2⟩
   exact ⟨h1 b List.mem_cons_self, h2⟩
theorem A4s {l : List Cl} (h : l.Pairwise fun a b => Ck a b = true) : once l = l := by
 have : ∀ (m o : List Cl), ((o ++ m).Pairwise fun a b => Ck a b = true) → m.foldl (fun o c => if c ∈ o then o else o ++ [c]) o = o ++ m := by
  intro m
  induction m with
  | nil => intro o _; simp
  | cons c m ih =>
   intro o h
   rw [List.foldl_cons]
   have hn : c ∉ o := by
    intro hc
    have := (List.pairwise_append.mp h).2.2 c hc c List.mem_cons_self
    rw [To] at this; cases this
   rw [if_neg hn, ih (o ++ [c]) (by simpa using h)]
   simp
 have := this l [] (by simpa using h)
 simpa [once] using this
theorem Z3 {l : List Cl} : apart l = true ↔ ∀ a, a ∈ l → ∀ b, b ∈ l → a = b ∨ below a b = false := by
 unfold apart
 simp only [List.all_eq_true, Bool.or_eq_true, decide_eq_true_eq, Bool.not_eq_true']
theorem Li {l : List Cl} {c : Cl} : C4 l c = false ↔ ∀ d, d ∈ l → c = d ∨ below c d = false := by
 unfold C4
 rw [List.any_eq_false]
 constructor
 ·intro h d hd
  have := h d hd
  simp only [Bool.and_eq_true, Bool.not_eq_true', decide_eq_false_iff_not, not_and, Bool.not_eq_true] at this
  by_cases e : c = d
  ·exact .inl e
  ·exact .inr (this e)
 ·intro h d hd
  simp only [Bool.and_eq_true, Bool.not_eq_true', decide_eq_false_iff_not, not_and, Bool.not_eq_true]
  intro e
  exact (h d hd).resolve_left e
theorem Sv {l : List Cl} {r : Int × List Cl} (h : Kb l r) : (decide (r.1 = 0) && decide (r.2 = l)) = Aa l := by
 rw [Bool.eq_iff_iff, Bool.and_eq_true, decide_eq_true_eq, decide_eq_true_eq]
 unfold Kb at h
 constructor
 ·rintro ⟨h1, h2⟩
  split at h
  ·rw [h] at h1; cases h1
  ·rename_i hr
   split at h
   ·rw [h] at h1; cases h1
   ·rename_i h64
    obtain ⟨_, hp, hs⟩ := h
    rw [h2] at hp hs
    have hr' : l.all Ao = true := by simpa using hr
    have hlen := hp.length_eq
    have hk1 : (kept l).length ≤ (once l).length := by unfold kept; exact List.length_filter_le _ _
    have ho := Wv l
    have hkeep : kept l = once l := by
     have : (kept l).Sublist (once l) := by unfold kept; exact List.filter_sublist
     exact this.eq_of_length A2
    have hnd : ∀ c, c ∈ l → C4 (once l) c = false := by
     intro c hc
     have : c ∈ kept l := hp.mem_iff.mp hc
     unfold kept at this
     have := (List.mem_filter.mp this).2
     simpa using this
    have hap : apart l = true := Z3.mpr fun a ha b hb => Li.mp (hnd a ha) b ((Ql b l).mpr hb)
    have hnodup : (once l).Nodup := by
     have : ∀ (m o : List Cl), o.Nodup → (m.foldl (fun o c => if c ∈ o then o else o ++ [c]) o).Nodup := by
      intro m
      induction m with
      | nil => intro o h; exact h
      | cons c m ih =>
       intro o h
       rw [List.foldl_cons]
       apply ih
       split
       ·exact h
       ·rename_i hn
        rw [List.nodup_append]
        refine ⟨h, by simp, ?_⟩
        intro a ha b hb e
        rw [List.mem_singleton] at hb
        exact hn (hb ▸ e ▸ ha)
     exact this l [] List.nodup_nil
    have hln : l.Nodup := (hp.nodup_iff).mpr (hkeep ▸ hnodup)
    have hst : Oz l = true := by
     rw [Oy]
     have hboth : l.Pairwise fun a b => Ck b a = false ∧ a ≠ b := hs.and hln
     exact hboth.imp fun {a b} ⟨h3, h4⟩ => by
      rcases Qp a b with h5 | h5 | h5
      ·exact h5
      ·exact absurd h5 h4
      ·rw [h3] at h5; cases h5
    unfold Aa
    rw [hr', hst, hap]
    simp; omega
 ·intro hf
  unfold Aa at hf
  simp only [Bool.and_eq_true, decide_eq_true_eq] at hf
  obtain ⟨⟨⟨hr, hs⟩, ha⟩, h64⟩ := hf
  have hs' := Oy.mp hs
  have ho := A4s hs'
  have hk : kept l = l := by
   unfold kept
   rw [ho, List.filter_eq_self]
   intro c hc
   have : C4 l c = false := Li.mpr fun d hd => Z3.mp ha c hc d hd
   simp [this]
  rw [hr, if_neg Jp, hk, if_neg A2] at h
  exact ⟨h.1, A5w h.2.1 h.2.2 (hs'.imp fun h => Rb h)⟩
def Bu (s : Nat) (i : Int) : Bool := decide (0 ≤ i) && decide (i < 24) && s.testBit i.toNat
theorem P6 (s : Nat) (i : Int) : Bu s i = (decide (0 ≤ i) && decide (i < 24) && decide (s / 2 ^ i.toNat % 2 = 1)) := by
 unfold Bu; rw [Nat.testBit_eq_decide_div_mod_eq]
def Bv (s n : Nat) : List Int := ((List.range n).filter s.testBit).map fun (i : Nat) => (i : Int)
abbrev A3 (s : Nat) : List Int := Bv s 24
theorem Gs (s n : Nat) : Bv s (n + 1) = if s.testBit n then Bv s n ++ [(n : Int)] else Bv s n := by
 unfold Bv
 rw [List.range_succ, List.filter_append]
 cases h : s.testBit n <;> simp [h]
theorem Mb {s n : Nat} {x : Int} (h : x ∈ Bv s n) : 0 ≤ x ∧ x < n := by
 unfold Bv at h
 simp only [List.mem_map, List.mem_filter, List.mem_range] at h
 obtain ⟨i, ⟨h1, _⟩, rfl⟩ := h
 omega
theorem El {s n : Nat} {x : Int} : x ∈ Bv s n ↔ 0 ≤ x ∧ x < n ∧ s.testBit x.toNat = true := by
 unfold Bv
 simp only [List.mem_map, List.mem_filter, List.mem_range]
 constructor
 ·rintro ⟨i, ⟨h1, h2⟩, rfl⟩; exact ⟨by omega, by omega, by simpa using h2⟩
 ·rintro ⟨h1, h2, h3⟩; exact ⟨x.toNat, ⟨by omega, h3⟩, by omega⟩
theorem H0 (s n : Nat) : (Bv s n).length ≤ n := by
 unfold Bv
 rw [List.length_map]
 have := List.length_filter_le s.testBit (List.range n)
 simpa using this
def Hs (l : List Int) : Nat := (l.map fun x => 2 ^ x.toNat).sum
def Wj (l : List Int) (i : Nat) : Nat := Hs (l.take i)
theorem B6u (l : List Int) : Wj l 0 = 0 := by simp [Wj, Hs]
theorem C4k (l : List Int) : Wj l l.length = Hs l := by simp [Wj]
theorem B6v {l : List Int} {i : Nat} (h : i < l.length) : Wj l (i + 1) = Wj l i + 2 ^ (l.getD i 0).toNat := by
 unfold Wj Hs; rw [Ad (d := 0) h, List.map_append, List.sum_append]; simp
theorem D4n {l : List Int} (h : ∀ x, x ∈ l → 0 ≤ x ∧ x < 24) : Hs l ≤ l.length * 8388608 := by
 unfold Hs
 induction l with
 | nil => simp
 | cons a l ih =>
  have h1 := ih (fun x hx => h x (List.mem_cons_of_mem _ hx))
  have h2 := h a List.mem_cons_self
  have h3 : 2 ^ a.toNat ≤ 8388608 := Nat.pow_le_pow_right (n := 2) (j := 23) A2 A2
  simp only [List.map_cons, List.sum_cons, List.length_cons]
  generalize 2 ^ a.toNat = q at *
  omega
theorem C8p {l : List Int} (h : ∀ x, x ∈ l → 0 ≤ x ∧ x < 24) (i : Nat) : Wj l i ≤ l.length * 8388608 := by
 have h1 := D4n (l := l.take i) (fun x hx => h x (List.mem_of_mem_take hx))
 have h2 : (l.take i).length ≤ l.length := by simp; omega
 exact Nat.le_trans h1 (Nat.mul_le_mul_right 8388608 h2)
theorem Zc (s : Nat) : ∀ n, Hs (Bv s n) = s % 2 ^ n
 | 0 => by
  have h : Bv s 0 = [] := by unfold Bv; rw [List.range_zero, List.filter_nil, List.map_nil]
  rw [h, Nat.pow_zero, Nat.mod_one, Hs, List.map_nil, List.sum_nil]
 | n + 1 => by
  rw [Gs, Nat.mod_pow_succ]
  have ih := Zc s n
  have hb := Nat.testBit_eq_decide_div_mod_eq (x := s) (i := n)
  by_cases h : s / 2 ^ n % 2 = 1
  ·rw [hb, decide_eq_true h, if_pos rfl, h]
   have e : Hs (Bv s n ++ [(n : Int)]) = Hs (Bv s n) + 2 ^ n := by simp [Hs]
   rw [e, ih, Nat.mul_one]
  ·have h0 : s / 2 ^ n % 2 = 0 := by omega
   rw [hb, decide_eq_false h, if_neg E5, h0, ih]; simp
theorem A0f (s : Nat) : s &&& 16777215 = s % 2 ^ 24 := by
 rw [show (16777215 : Nat) = 2 ^ 24 - 1 from rfl, Nat.and_two_pow_sub_one_eq_mod]
theorem Uy (s : Nat) : Hs (A3 s) = s &&& 16777215 := by rw [Zc, A0f]
theorem Ip {p : Nat → Prop} {i : Nat} (h : ∀ j, j < i → p j) (hi : p i) : ∀ j, j < i + 1 → p j := fun j hj => by
 rcases Nat.lt_succ_iff_lt_or_eq.mp hj with h2 | h2
 ·exact h j h2
 ·exact h2 ▸ hi
theorem Xq {α : Type} {d : α} {l : List α} {g : α → Bool} (h : ∀ j, j < l.length → g (l.getD j d) = false) : l.any g = false := by
 rw [List.any_eq_false]
 intro x hx
 obtain ⟨j, hj, e⟩ := List.mem_iff_getElem.mp hx
 have := h j hj
 rw [Eo (d := d) hj, e] at this
 simp [this]
theorem A0e {α : Type} {d : α} {l : List α} {g : α → Bool} {i : Nat} (hi : i < l.length) (h : g (l.getD i d) = true) : l.any g = true := List.any_eq_true.mpr ⟨_, Ac hi, h⟩
theorem Pc {α : Type} {d : α} {l : List α} {g : α → Bool} (h : ∀ j, j < l.length → g (l.getD j d) = true) : l.all g = true := by
 rw [List.all_eq_true]
 intro x hx
 obtain ⟨j, hj, e⟩ := List.mem_iff_getElem.mp hx
 have := h j hj
 rwa [Eo (d := d) hj, e] at this
theorem Nb {α : Type} {d : α} {l : List α} {g : α → Bool} {i : Nat} (hi : i < l.length) (h : g (l.getD i d) = false) : l.all g = false := by
 rw [List.all_eq_false]
 exact ⟨l.getD i d, Ac hi, by rw [h]; decide⟩
def Lg (c : Cl) : Bool := (List.range 24).any fun i => Bu c.pos (i : Int) && Bu c.neg (i : Int)
theorem Ti {c : Cl} (h : Ao c = true) : Lg c = Eg c := by
 simp only [Ao, Bool.and_eq_true, decide_eq_true_eq] at h
 rw [Bool.eq_iff_iff]
 unfold Lg Eg
 rw [List.any_eq_true, decide_eq_true_eq]
 constructor
 ·rintro ⟨i, hi, hb⟩ h0
  simp only [Bu, Bool.and_eq_true, decide_eq_true_eq, Int.toNat_natCast] at hb
  have := congrArg (fun n => Nat.testBit n i) h0
  simp only [Nat.testBit_and, Nat.zero_testBit] at this
  rw [hb.1.2, hb.2.2] at this
  cases this
 ·intro h0
  obtain ⟨i, hi⟩ : ∃ i, (c.pos &&& c.neg).testBit i = true := by
   apply Classical.byContradiction
   intro hn
   exact h0 (Nat.eq_of_testBit_eq fun i => by
    rw [Nat.zero_testBit]
    cases hb : (c.pos &&& c.neg).testBit i
    ·rfl
    ·exact absurd ⟨i, hb⟩ hn)
  rw [Nat.testBit_and, Bool.and_eq_true] at hi
  have hlt : i < 24 := by
   apply Classical.byContradiction
   intro hge
   have : c.pos.testBit i = false := Nat.testBit_lt_two_pow (Nat.lt_of_lt_of_le h.1 (Nat.pow_le_pow_right (n := 2) A2 (show 24 ≤ i by omega)))
   rw [this] at hi; cases hi.1
  exact ⟨i, List.mem_range.mpr hlt, by simp [Bu, hi.1, hi.2]; omega⟩
def Pq (c : Cl) : List Cl → List Cl
 | [] => [c]
 | d :: l => if Ck d c then d :: Pq c l else if d = c then d :: l else c :: d :: l
def rl (l : List Cl) (m : List Cl) : List Cl := m.foldl (fun o c => if C4 l c then o else Pq c o) []
def Dv (l : List Cl) (i : Nat) : List Cl := rl l (l.take i)
abbrev E2 (l : List Cl) : List Cl := rl l l
theorem A6i (l : List Cl) : Dv l 0 = [] := by simp [Dv, rl]
theorem B3a (l : List Cl) : Dv l l.length = E2 l := by simp [Dv]
theorem Yc {l : List Cl} {i : Nat} (h : i < l.length) : Dv l (i + 1) = if C4 l (l.getD i A4) then Dv l i else Pq (l.getD i A4) (Dv l i) := by
 unfold Dv rl; rw [Ad (d := A4) h, List.foldl_append]; rfl
theorem A3d {c x : Cl} : ∀ {l : List Cl}, x ∈ Pq c l ↔ x = c ∨ x ∈ l
 | [] => by simp [Pq]
 | d :: l => by
  unfold Pq
  split
  ·rw [List.mem_cons, A3d (l := l), List.mem_cons]
   constructor
   ·rintro (h | h | h)
    ·exact .inr (.inl h)
    ·exact .inl h
    ·exact .inr (.inr h)
   ·rintro (h | h | h)
    ·exact .inr (.inl h)
    ·exact .inl h
    ·exact .inr (.inr h)
  ·split
   ·rename_i h
    subst h
    simp
   ·simp
theorem B4y (c : Cl) : ∀ l : List Cl, (Pq c l).length ≤ l.length + 1
 | [] => by simp [Pq]
 | d :: l => by
  unfold Pq
  have := B4y c l
  split
  ·simp; omega
  ·split <;> simp
theorem Zv {c : Cl} : ∀ {l : List Cl}, (l.Pairwise fun a b => Ck a b = true) → (Pq c l).Pairwise fun a b => Ck a b = true
 | [], _ => by simp [Pq]
 | d :: l, h => by
  rw [List.pairwise_cons] at h
  unfold Pq
  split
  ·rename_i hd
   rw [List.pairwise_cons]
   refine ⟨fun x hx => ?_, Zv h.2⟩
   rcases A3d.mp hx with e | e
   ·exact e ▸ hd
   ·exact h.1 x e
  ·rename_i hd
   split
   ·exact List.pairwise_cons.mpr h
   ·rename_i hne
    have hcd : Ck c d = true := by
     rcases Qp c d with h3 | h3 | h3
     ·exact h3
     ·exact absurd h3.symm hne
     ·exact absurd h3 hd
    rw [List.pairwise_cons]
    refine ⟨fun x hx => ?_, List.pairwise_cons.mpr h⟩
    rcases List.mem_cons.mp hx with e | e
    ·exact e ▸ hcd
    ·exact Zp hcd (h.1 x e)
theorem A6h (l : List Cl) : ∀ (m o : List Cl), (o.Pairwise fun a b => Ck a b = true) → (m.foldl (fun o c => if C4 l c then o else Pq c o) o).Pairwise fun a b => Ck a b = true
 | [], o, h => h
 | c :: m, o, h => by
  rw [List.foldl_cons]
  apply A6h l m
  split
  ·exact h
  ·exact Zv h
theorem B7i (l : List Cl) (x : Cl) : ∀ (m o : List Cl), x ∈ m.foldl (fun o c => if C4 l c then o else Pq c o) o ↔ x ∈ o ∨ (x ∈ m ∧ C4 l x = false)
 | [], o => by simp
 | c :: m, o => by
  rw [List.foldl_cons, B7i l x m]
  by_cases hn : C4 l c = true
  ·rw [if_pos hn, List.mem_cons]
   constructor
   ·rintro (h | ⟨h, h2⟩)
    ·exact .inl h
    ·exact .inr ⟨.inr h, h2⟩
   ·rintro (h | ⟨h | h, h2⟩)
    ·exact .inl h
    ·subst h; rw [hn] at h2; cases h2
    ·exact .inr ⟨h, h2⟩
  ·rw [if_neg hn, A3d, List.mem_cons]
   constructor
   ·rintro ((h | h) | ⟨h, h2⟩)
    ·subst h; exact .inr ⟨.inl rfl, by simpa using hn⟩
    ·exact .inl h
    ·exact .inr ⟨.inr h, h2⟩
   ·rintro (h | ⟨h | h, h2⟩)
    ·exact .inl (.inr h)
    ·exact .inl (.inl h)
    ·exact .inr ⟨h, h2⟩
theorem F8 {l : List Cl} {x : Cl} : x ∈ E2 l ↔ x ∈ l ∧ C4 l x = false := by
 have := B7i l x l []
 simpa [E2, rl] using this
theorem K8 (l : List Cl) : (E2 l).Pairwise fun a b => Ck a b = true := A6h l l [] List.Pairwise.nil
theorem A1t (l : List Cl) (i : Nat) : (Dv l i).length ≤ i := by
 have : ∀ (m o : List Cl), (m.foldl (fun o c => if C4 l c then o else Pq c o) o).length ≤ o.length + m.length := by
  intro m
  induction m with
  | nil => intro o; simp
  | cons c m ih =>
   intro o
   rw [List.foldl_cons]
   have h1 := ih (if C4 l c then o else Pq c o)
   have h2 : (if C4 l c = true then o else Pq c o).length ≤ o.length + 1 := by
    split
    ·omega
    ·exact B4y c o
   simp only [List.length_cons]; omega
 have := this (l.take i) []
 unfold Dv rl
 simp at this ⊢
 omega
theorem C0w {l : List Cl} {i : Nat} {c : Cl} (h : c ∈ Dv l i) : c ∈ l := by
 have := (B7i l c (l.take i) []).mp h
 rcases this with h | h
 ·cases h
 ·exact List.mem_of_mem_take h.1
theorem Ux : ∀ {l m : List Cl}, (l.Pairwise fun a b => Ck a b = true) → (m.Pairwise fun a b => Ck a b = true) → (∀ x, x ∈ l ↔ x ∈ m) → l = m
 | [], [], _, _, _ => rfl
 | [], b :: m, _, _, h => by have := (h b).mpr List.mem_cons_self; cases this
 | a :: l, [], _, _, h => by have := (h a).mp List.mem_cons_self; cases this
 | a :: l, b :: m, h1, h2, h => by
  rw [List.pairwise_cons] at h1 h2
  have e : a = b := by
   rcases List.mem_cons.mp ((h a).mp List.mem_cons_self) with h3 | h3
   ·exact h3
   ·rcases List.mem_cons.mp ((h b).mpr List.mem_cons_self) with h4 | h4
    ·exact h4.symm
    ·have h5 := h2.1 a h3
     have h6 := h1.1 b h4
     rw [Rb h5] at h6; cases h6
  subst e
  congr 1
  apply Ux h1.2 h2.2
  intro x
  have hx := h x
  rw [List.mem_cons, List.mem_cons] at hx
  constructor
  ·intro h3
   rcases hx.mp (.inr h3) with h4 | h4
   ·subst h4; have := h1.1 x h3; rw [To] at this; cases this
   ·exact h4
  ·intro h3
   rcases hx.mpr (.inr h3) with h4 | h4
   ·subst h4; have := h2.1 x h3; rw [To] at this; cases this
   ·exact h4
theorem A4u (l : List Cl) (c : Cl) : C4 (once l) c = C4 l c := by
 unfold C4
 rw [Bool.eq_iff_iff, List.any_eq_true, List.any_eq_true]
 constructor
 ·rintro ⟨d, h1, h2⟩; exact ⟨d, (Ql d l).mp h1, h2⟩
 ·rintro ⟨d, h1, h2⟩; exact ⟨d, (Ql d l).mpr h1, h2⟩
theorem B7z (l : List Cl) : (once l).Nodup := by
 have : ∀ (m o : List Cl), o.Nodup → (m.foldl (fun o c => if c ∈ o then o else o ++ [c]) o).Nodup := by
  intro m
  induction m with
  | nil => intro o h; exact h
  | cons c m ih =>
   intro o h
   rw [List.foldl_cons]
   apply ih
   split
   ·exact h
   ·rename_i hn
    rw [List.nodup_append]
    refine ⟨h, by simp, ?_⟩
    intro a ha b hb e
    rw [List.mem_singleton] at hb
    exact hn (hb ▸ e ▸ ha)
 exact this l [] List.nodup_nil
theorem A5x (l : List Cl) : ∃ m, B1l l m := by
 refine ⟨l.mergeSort (fun a b => !Ck b a), List.mergeSort_perm _ _, ?_⟩
 have := List.pairwise_mergeSort (le := fun a b => !Ck b a) (fun a b c h1 h2 => by
  simp only [Bool.not_eq_true'] at *
  simp only [Ck, Bool.or_eq_false_iff, Bool.and_eq_false_iff, decide_eq_false_iff_not] at *
  omega) (fun a b => by
  rcases Qp a b with h | h | h
  ·simp [Rb h]
  ·subst h; simp [To]
  ·simp [Rb h]) l
 exact this.imp fun h => by simpa using h
theorem A5y {l m : List Cl} (h : B1l (kept l) m) : m = E2 l := by
 have hnd : m.Nodup := (h.1.nodup_iff).mpr (by unfold kept; exact (B7z l).filter _)
 have hb : m.Pairwise fun a b => Ck b a = false ∧ a ≠ b := h.2.and hnd
 refine Ux ?_ (K8 l) (fun x => ?_)
 ·exact hb.imp fun {a b} ⟨h3, h4⟩ => by
   rcases Qp a b with h5 | h5 | h5
   ·exact h5
   ·exact absurd h5 h4
   ·rw [h3] at h5; cases h5
 ·rw [h.1.mem_iff, F8]
  unfold kept
  rw [List.mem_filter, Ql, A4u]
  simp
def Ax (l : List Cl) : Int × List Cl := if l.all Ao = false then (2, []) else if 64 < (E2 l).length then (3, []) else (0, E2 l)
theorem A2x {l : List Cl} {r : Int × List Cl} (h : Kb l r) : r = Ax l := by
 unfold Kb at h
 unfold Ax
 by_cases h1 : l.all Ao = false
 ·rw [if_pos h1] at h ⊢; exact h
 ·rw [if_neg h1] at h ⊢
  by_cases h2 : 64 < (kept l).length
  ·have h3 : (kept l).length = (E2 l).length := by
    obtain ⟨m, hm⟩ := A5x (kept l)
    rw [← hm.1.length_eq, A5y hm]
   rw [if_pos h2] at h
   rw [if_pos A2]; exact h
  ·rw [if_neg h2] at h
   have e := A5y h.2
   have h3 : (kept l).length = (E2 l).length := by rw [← h.2.1.length_eq, e]
   rw [if_neg A2]
   exact Prod.ext h.1 e
theorem Rc (l : List Cl) : (decide ((Ax l).1 = 0) && decide ((Ax l).2 = l)) = Aa l := by
 obtain ⟨r, hr⟩ : ∃ r, Kb l r := by
  unfold Kb
  by_cases h1 : l.all Ao = false
  ·exact ⟨_, by rw [if_pos h1]⟩
  ·by_cases h2 : 64 < (kept l).length
   ·exact ⟨_, by rw [if_neg h1, if_pos h2]⟩
   ·obtain ⟨m, hm⟩ := A5x (kept l)
    exact ⟨(0, m), by rw [if_neg h1, if_neg h2]; exact ⟨rfl, hm⟩⟩
 rw [← A2x hr]
 exact Sv hr
theorem B0k {c : Cl} : ∀ {l : List Cl} {k : Nat}, k ≤ l.length → (∀ j, j < k → Ck (l.getD j A4) c = true) → (k < l.length → Ck (l.getD k A4) c = false) → Pq c l = if k < l.length ∧ l.getD k A4 = c then l else l.take k ++ [c] ++ l.drop k
 | [], k, hk, h1, h2 => by simp at hk; subst hk; simp [Pq]
 | d :: l, 0, hk, h1, h2 => by
  have h := h2 E5
  simp only [List.getD_cons_zero] at h
  unfold Pq
  rw [h, if_neg Jp]
  simp
 | d :: l, k + 1, hk, h1, h2 => by
  have h := h1 0 A2
  simp only [List.getD_cons_zero] at h
  unfold Pq
  rw [if_pos h, B0k (l := l) (k := k) (by simpa using hk) (fun j hj => by simpa using h1 (j + 1) A2) (fun hlt => by simpa using h2 (by simpa using hlt))]
  simp only [List.length_cons, List.getD_cons_succ, List.take_succ_cons, List.drop_succ_cons, List.cons_append, Nat.add_lt_add_iff_right]
  split <;> rfl
def D8c (t : T) (ks : List Nat) (bs : List (List Nat)) : Nat := 1 + t.r.length + t.name.size + ks.sum + ((t.sys.zip bs).map fun p => 1 + p.1.B1.length + p.2.sum).sum
def Iz : T → Nat := tf D8c
def T5 (b : Br) : Nat := 1 + b.B1.length + (b.kids.map Iz).sum
theorem A0u (t : T) : Iz t = 1 + t.r.length + t.name.size + (t.kids.map Iz).sum + (t.sys.map T5).sum := by
 conv => lhs; rw [Iz, D7i]
 unfold D8c
 congr 2
 generalize t.sys = l
 induction l with
 | nil => rfl
 | cons b l ih => simp only [List.map_cons, List.zip_cons_cons, List.map_cons]; rw [ih]; rfl
def bK (t : T) (i : Nat) : Nat := 1 + t.r.length + t.name.size + ((t.kids.take i).map Iz).sum
def bS (t : T) (i : Nat) : Nat := bK t t.kids.length + ((t.sys.take i).map T5).sum
def bJ (t : T) (i j : Nat) : Nat := bS t i + 1 + (t.sys.getD i Bq).B1.length + (((t.sys.getD i Bq).kids.take j).map Iz).sum
theorem Pl {α : Type} (f : α → Nat) {l : List α} {i : Nat} {d : α} (h : i < l.length) : ((l.take (i + 1)).map f).sum = ((l.take i).map f).sum + f (l.getD i d) := by
 rw [Ad (d := d) h, List.map_append, List.sum_append]; simp
theorem Ow {α : Type} (f : α → Nat) : ∀ (l : List α) (i : Nat), ((l.take i).map f).sum ≤ (l.map f).sum
 | [], i => by simp
 | a :: l, 0 => by simp
 | a :: l, i + 1 => by have := Ow f l i; simp only [List.take_succ_cons, List.map_cons, List.sum_cons]; omega
theorem B1d (t : T) : bK t 0 = 1 + t.r.length + t.name.size := by simp [bK]
theorem D6r {t : T} {i : Nat} (h : i < t.kids.length) : bK t (i + 1) = bK t i + Iz (t.kids.getD i t0) := by
 unfold bK; rw [Pl Iz h (d := t0)]; omega
theorem D6q (t : T) : bS t 0 = bK t t.kids.length := by simp [bS]
theorem C3c (t : T) (i : Nat) : bJ t i 0 = bS t i + 1 + (t.sys.getD i Bq).B1.length := by simp [bJ]
theorem D6s {t : T} {i j : Nat} (h : j < (t.sys.getD i Bq).kids.length) : bJ t i (j + 1) = bJ t i j + Iz ((t.sys.getD i Bq).kids.getD j t0) := by
 unfold bJ; rw [Pl Iz h (d := t0)]; omega
theorem B1c {t : T} {i : Nat} (h : i < t.sys.length) : bS t (i + 1) = bJ t i (t.sys.getD i Bq).kids.length := by
 unfold bS bJ bS; rw [Pl T5 h (d := Bq), List.take_length]; unfold T5; omega
theorem E3b (t : T) : bS t t.sys.length = Iz t := by
 rw [A0u]; unfold bS bK; rw [List.take_length, List.take_length]
theorem D8e (t : T) (i : Nat) : bS t i ≤ Iz t := by
 rw [A0u]; unfold bS bK; rw [List.take_length]; have := Ow T5 t.sys i; omega
theorem C3b (t : T) (i : Nat) : bK t i ≤ Iz t := by
 rw [A0u]; unfold bK; have := Ow Iz t.kids i; omega
theorem D8f {t : T} {i j : Nat} (h : i < t.sys.length) : bJ t i j ≤ Iz t := by
 have h1 := D8e t (i + 1)
 rw [B1c h] at h1
 unfold bJ at h1 ⊢
 rw [List.take_length] at h1
 have := Ow Iz (t.sys.getD i Bq).kids j
 omega
def G8 (t : T) (part : Nat) (Dm n : Int) : Prop := 0 ≤ n ∧ n ≤ 2 * Dm + 1 ∧ ((n ≤ Dm ∧ n = part) ∨ (Dm < n ∧ Dm < Iz t))
theorem A9b : ∀ t, size t ≤ Iz t := T.ind fun t ih => by
 have hk : ∀ (F G : T → Nat) (l : List T), (∀ k, k ∈ l → F k ≤ G k) → (l.map F).sum ≤ (l.map G).sum := by
  intro F G l
  induction l with
  | nil => intro _; simp
  | cons a l ih => intro h; have := ih (fun k hk => h k (List.mem_cons_of_mem _ hk)); have := h a List.mem_cons_self; simp only [List.map_cons, List.sum_cons]; omega
 have e : size t = 1 + ((parts t).map fun p => size p.1).sum := by
  rw [size_eq]
  have : ∀ (l : List Part) (a : Nat), l.foldl (fun a p => a + size p.1) a = a + (l.map fun p => size p.1).sum := by
   intro l
   induction l with
   | nil => intro a; simp
   | cons b l ih => intro a; rw [List.foldl_cons, ih]; simp; omega
  exact this _ _
 rw [e, Qh, A0u, List.sum_append]
 have h1 := hk size Iz t.kids (fun k hk => by obtain ⟨p, hp, e⟩ := H2 hk; exact e ▸ ih p hp)
 have h2 : ((t.sys.map fun b => b.kids.map size).flatten).sum ≤ (t.sys.map T5).sum := by
  have : ∀ (l : List Br), (∀ b, b ∈ l → b ∈ t.sys) → ((l.map fun b => b.kids.map size).flatten).sum ≤ (l.map T5).sum := by
   intro l
   induction l with
   | nil => intro _; simp
   | cons b l ih2 =>
    intro h
    have h3 := ih2 (fun b hb => h b (List.mem_cons_of_mem _ hb))
    have h4 := hk size Iz b.kids (fun k hk => by obtain ⟨p, hp, e⟩ := Gy (h b List.mem_cons_self) hk; exact e ▸ ih p hp)
    simp only [List.map_cons, List.flatten_cons, List.sum_append, List.sum_cons]
    have hb : T5 b = 1 + b.B1.length + (b.kids.map Iz).sum := rfl
    rw [hb]
    omega
  exact this t.sys (fun _ h => h)
 omega
end Go.Hy
namespace Go.Proofs.YtpfjlbopkhdebaaGreatDoor.Hy
open Go.Proofs
set_option maxRecDepth 100000
set_option maxHeartbeats 8000000
def D8w : Nat → Option (TypeDesc)
 | 1 => some (.func #[] #[] false)
 | 2 => some (.int .i64)
 | 3 => some (.int .i64)
 | 4 => some (.bool)
 | 5 => some (.int .u8)
 | 9 => some (.string)
 | 12 => some (.int .u64)
 | 20 => some (.interface #[])
 | 21 => some (.int .i32)
 | 22 => some (.slice 47)
 | 23 => some (.func #[22] #[4] false)
 | 24 => some (.func #[] #[4] false)
 | 25 => some (.slice 45)
 | 26 => some (.int .i64)
 | 28 => some (.func #[22] #[25, 26] false)
 | 30 => some (.func #[22] #[25, 3] false)
 | 31 => some (.func #[22] #[3] false)
 | 32 => some (.func #[25, 25] #[4] false)
 | 33 => some (.slice 35)
 | 36 => some (.func #[35, 25] #[4] false)
 | 37 => some (.func #[35] #[35] false)
 | 39 => some (.func #[35, 3, 25] #[35, 26] false)
 | 41 => some (.func #[35, 3, 25] #[35, 3] false)
 | 42 => some (.func #[35, 35] #[4] false)
 | 43 => some (.int .u32)
 | 53 => some (.func #[45] #[4] false)
 | 54 => some (.func #[25, 45] #[25, 26] false)
 | 63 => some (.func #[35] #[4] false)
 | 103 => some (.func #[25, 3] #[25, 26] false)
 | 104 => some (.func #[25, 3] #[25, 26] false)
 | 108 => some (.func #[35, 3] #[35, 26] false)
 | 114 => some (.func #[] #[25] false)
 | 116 => some (.slice 115)
 | 117 => some (.slice 3)
 | 126 => some (.func #[45] #[45, 4] false)
 | 128 => some (.func #[35] #[35, 26] false)
 | 133 => some (.func #[35, 3, 3] #[4] false)
 | 138 => some (.func #[35, 3, 3] #[35] false)
 | 139 => some (.func #[] #[35] false)
 | 146 => some (.int .u64)
 | 148 => some (.func #[43, 3] #[4] false)
 | 151 => some (.func #[3] #[3] false)
 | 157 => some (.func #[25, 3, 25] #[25, 26] false)
 | 159 => some (.func #[157] #[104] false)
 | 165 => some (.func #[35, 3, 25, 3, 4] #[35] false)
 | 167 => some (.func #[3] #[35] false)
 | 168 => some (.func #[33] #[33] false)
 | 174 => some (.map 45 4)
 | 177 => some (.func #[45, 45] #[3] false)
 | 179 => some (.func #[3] #[43] false)
 | 181 => some (.slice 25)
 | 195 => some (.int .u64)
 | 196 => some (.array 29 3)
 | 202 => some (.array 32 5)
 | 204 => some (.int .i64)
 | 215 => some (.func #[] #[195] false)
 | 216 => some (.func #[25, 3, 217, 177] #[3] false)
 | 217 => some (.pointer 3)
 | 233 => some (.pointer 5)
 | _ => none
def D8x : Nat → Option (Nat × Nat × Value)
 | 1 => some (1, 8, .nilFunc)
 | 2 => some (1, 8, .int .i64 0)
 | 3 => some (1, 8, .int .i64 0)
 | 4 => some (1, 1, .bool false)
 | 5 => some (1, 1, .int .u8 0)
 | 9 => some (1, 16, .string ⟨#[]⟩)
 | 12 => some (1, 8, .int .u64 0)
 | 21 => some (1, 4, .int .i32 0)
 | 22 => some (1, 24, .slice none 0 0)
 | 23 => some (1, 8, .nilFunc)
 | 24 => some (1, 8, .nilFunc)
 | 25 => some (1, 24, .slice none 0 0)
 | 26 => some (1, 8, .int .i64 0)
 | 28 => some (1, 8, .nilFunc)
 | 30 => some (1, 8, .nilFunc)
 | 31 => some (1, 8, .nilFunc)
 | 32 => some (1, 8, .nilFunc)
 | 33 => some (1, 24, .slice none 0 0)
 | 34 => some (6, 104, .agg #[.int .i64 0, .int .i64 0, .string ⟨#[]⟩, .slice none 0 0, .slice none 0 0, .slice none 0 0])
 | 35 => some (6, 104, .agg #[.int .i64 0, .int .i64 0, .string ⟨#[]⟩, .slice none 0 0, .slice none 0 0, .slice none 0 0])
 | 36 => some (1, 8, .nilFunc)
 | 37 => some (1, 8, .nilFunc)
 | 39 => some (1, 8, .nilFunc)
 | 41 => some (1, 8, .nilFunc)
 | 42 => some (1, 8, .nilFunc)
 | 43 => some (1, 4, .int .u32 0)
 | 44 => some (2, 8, .agg #[.int .u32 0, .int .u32 0])
 | 45 => some (2, 8, .agg #[.int .u32 0, .int .u32 0])
 | 46 => some (2, 48, .agg #[.slice none 0 0, .slice none 0 0])
 | 47 => some (2, 48, .agg #[.slice none 0 0, .slice none 0 0])
 | 53 => some (1, 8, .nilFunc)
 | 54 => some (1, 8, .nilFunc)
 | 63 => some (1, 8, .nilFunc)
 | 67 => some (2, 32, .agg #[.slice none 0 0, .int .i64 0])
 | 68 => some (2, 32, .agg #[.slice none 0 0, .int .i64 0])
 | 71 => some (2, 32, .agg #[.slice none 0 0, .int .i64 0])
 | 103 => some (1, 8, .nilFunc)
 | 104 => some (1, 8, .nilFunc)
 | 105 => some (2, 16, .agg #[.nilFunc, .nilFunc])
 | 106 => some (2, 16, .agg #[.nilFunc, .nilFunc])
 | 108 => some (1, 8, .nilFunc)
 | 114 => some (1, 8, .nilFunc)
 | 115 => some (2, 32, .agg #[.int .u32 0, .slice none 0 0])
 | 116 => some (1, 24, .slice none 0 0)
 | 117 => some (1, 24, .slice none 0 0)
 | 126 => some (1, 8, .nilFunc)
 | 128 => some (1, 8, .nilFunc)
 | 133 => some (1, 8, .nilFunc)
 | 136 => some (2, 16, .agg #[.int .i64 0, .int .i64 0])
 | 137 => some (2, 16, .agg #[.int .i64 0, .int .i64 0])
 | 138 => some (1, 8, .nilFunc)
 | 139 => some (1, 8, .nilFunc)
 | 146 => some (1, 8, .int .u64 0)
 | 148 => some (1, 8, .nilFunc)
 | 151 => some (1, 8, .nilFunc)
 | 157 => some (1, 8, .nilFunc)
 | 159 => some (1, 8, .nilFunc)
 | 165 => some (1, 8, .nilFunc)
 | 167 => some (1, 8, .nilFunc)
 | 168 => some (1, 8, .nilFunc)
 | 174 => some (1, 8, .map none)
 | 177 => some (1, 8, .nilFunc)
 | 179 => some (1, 8, .nilFunc)
 | 181 => some (1, 24, .slice none 0 0)
 | 195 => some (1, 8, .int .u64 0)
 | 196 => some (29, 232, .agg #[.int .i64 0, .int .i64 0, .int .i64 0, .int .i64 0, .int .i64 0, .int .i64 0, .int .i64 0, .int .i64 0, .int .i64 0, .int .i64 0, .int .i64 0, .int .i64 0, .int .i64 0, .int .i64 0, .int .i64 0, .int .i64 0, .int .i64 0, .int .i64 0, .int .i64 0, .int .i64 0, .int .i64 0, .int .i64 0, .int .i64 0, .int .i64 0, .int .i64 0, .int .i64 0, .int .i64 0, .int .i64 0, .int .i64 0])
 | 202 => some (32, 32, .agg #[.int .u8 0, .int .u8 0, .int .u8 0, .int .u8 0, .int .u8 0, .int .u8 0, .int .u8 0, .int .u8 0, .int .u8 0, .int .u8 0, .int .u8 0, .int .u8 0, .int .u8 0, .int .u8 0, .int .u8 0, .int .u8 0, .int .u8 0, .int .u8 0, .int .u8 0, .int .u8 0, .int .u8 0, .int .u8 0, .int .u8 0, .int .u8 0, .int .u8 0, .int .u8 0, .int .u8 0, .int .u8 0, .int .u8 0, .int .u8 0, .int .u8 0, .int .u8 0])
 | 204 => some (1, 8, .int .i64 0)
 | 215 => some (1, 8, .nilFunc)
 | 216 => some (1, 8, .nilFunc)
 | 217 => some (1, 8, .pointer none)
 | 233 => some (1, 8, .pointer none)
 | _ => none
def C4d : Nat → Option (List (Nat × Nat))
 | 34 => some ([(0, 1), (1, 1), (2, 1), (3, 1), (4, 1), (5, 1)])
 | 35 => some ([(0, 1), (1, 1), (2, 1), (3, 1), (4, 1), (5, 1)])
 | 44 => some ([(0, 1), (1, 1)])
 | 45 => some ([(0, 1), (1, 1)])
 | 46 => some ([(0, 1), (1, 1)])
 | 47 => some ([(0, 1), (1, 1)])
 | 67 => some ([(0, 1), (1, 1)])
 | 68 => some ([(0, 1), (1, 1)])
 | 71 => some ([(0, 1), (1, 1)])
 | 105 => some ([(0, 1), (1, 1)])
 | 106 => some ([(0, 1), (1, 1)])
 | 115 => some ([(0, 1), (1, 1)])
 | 136 => some ([(0, 1), (1, 1)])
 | 137 => some ([(0, 1), (1, 1)])
 | _ => none
def D8y (t j : Nat) : Option Nat := (C4d t).bind fun l => (l[j]?).map (·.1)
noncomputable abbrev ii_ (t : Nat) := (Tryz.prog.info? t).map fun i => (i.size, i.bytes, i.zero)
theorem E8g : ii_ 1 = some (1, 8, some (.nilFunc)) := by kernel_rfl
theorem E8f : ii_ 2 = some (1, 8, some (.int .i64 0)) := by kernel_rfl
theorem E8e : ii_ 3 = some (1, 8, some (.int .i64 0)) := by kernel_rfl
theorem E8d : ii_ 4 = some (1, 1, some (.bool false)) := by kernel_rfl
theorem E8c : ii_ 5 = some (1, 1, some (.int .u8 0)) := by kernel_rfl
theorem E8b : ii_ 9 = some (1, 16, some (.string ⟨#[]⟩)) := by kernel_rfl
theorem E6u : ii_ 12 = some (1, 8, some (.int .u64 0)) := by kernel_rfl
theorem E6t : ii_ 21 = some (1, 4, some (.int .i32 0)) := by kernel_rfl
theorem E6s : ii_ 22 = some (1, 24, some (.slice none 0 0)) := by kernel_rfl
theorem E6r : ii_ 23 = some (1, 8, some (.nilFunc)) := by kernel_rfl
theorem E6q : ii_ 24 = some (1, 8, some (.nilFunc)) := by kernel_rfl
theorem E6p : ii_ 25 = some (1, 24, some (.slice none 0 0)) := by kernel_rfl
theorem E6o : ii_ 26 = some (1, 8, some (.int .i64 0)) := by kernel_rfl
theorem E6n : ii_ 28 = some (1, 8, some (.nilFunc)) := by kernel_rfl
theorem E6m : ii_ 30 = some (1, 8, some (.nilFunc)) := by kernel_rfl
theorem E6l : ii_ 31 = some (1, 8, some (.nilFunc)) := by kernel_rfl
theorem E6k : ii_ 32 = some (1, 8, some (.nilFunc)) := by kernel_rfl
theorem E6j : ii_ 33 = some (1, 24, some (.slice none 0 0)) := by kernel_rfl
theorem E6i : ii_ 34 = some (6, 104, some (.agg #[.int .i64 0, .int .i64 0, .string ⟨#[]⟩, .slice none 0 0, .slice none 0 0, .slice none 0 0])) := by kernel_rfl
theorem E6h : ii_ 35 = some (6, 104, some (.agg #[.int .i64 0, .int .i64 0, .string ⟨#[]⟩, .slice none 0 0, .slice none 0 0, .slice none 0 0])) := by kernel_rfl
theorem E6g : ii_ 36 = some (1, 8, some (.nilFunc)) := by kernel_rfl
theorem E6f : ii_ 37 = some (1, 8, some (.nilFunc)) := by kernel_rfl
theorem E6e : ii_ 39 = some (1, 8, some (.nilFunc)) := by kernel_rfl
theorem E6d : ii_ 41 = some (1, 8, some (.nilFunc)) := by kernel_rfl
theorem E6c : ii_ 42 = some (1, 8, some (.nilFunc)) := by kernel_rfl
theorem E6b : ii_ 43 = some (1, 4, some (.int .u32 0)) := by kernel_rfl
theorem E6a : ii_ 44 = some (2, 8, some (.agg #[.int .u32 0, .int .u32 0])) := by kernel_rfl
theorem E5z : ii_ 45 = some (2, 8, some (.agg #[.int .u32 0, .int .u32 0])) := by kernel_rfl
theorem E5y : ii_ 46 = some (2, 48, some (.agg #[.slice none 0 0, .slice none 0 0])) := by kernel_rfl
theorem E5x : ii_ 47 = some (2, 48, some (.agg #[.slice none 0 0, .slice none 0 0])) := by kernel_rfl
theorem E5w : ii_ 53 = some (1, 8, some (.nilFunc)) := by kernel_rfl
theorem E5v : ii_ 54 = some (1, 8, some (.nilFunc)) := by kernel_rfl
theorem E5u : ii_ 63 = some (1, 8, some (.nilFunc)) := by kernel_rfl
theorem E5t : ii_ 67 = some (2, 32, some (.agg #[.slice none 0 0, .int .i64 0])) := by kernel_rfl
theorem E5s : ii_ 68 = some (2, 32, some (.agg #[.slice none 0 0, .int .i64 0])) := by kernel_rfl
theorem E5r : ii_ 71 = some (2, 32, some (.agg #[.slice none 0 0, .int .i64 0])) := by kernel_rfl
theorem E2o : ii_ 103 = some (1, 8, some (.nilFunc)) := by kernel_rfl
theorem E2n : ii_ 104 = some (1, 8, some (.nilFunc)) := by kernel_rfl
theorem E2m : ii_ 105 = some (2, 16, some (.agg #[.nilFunc, .nilFunc])) := by kernel_rfl
theorem E2l : ii_ 106 = some (2, 16, some (.agg #[.nilFunc, .nilFunc])) := by kernel_rfl
theorem E2k : ii_ 108 = some (1, 8, some (.nilFunc)) := by kernel_rfl
theorem E2j : ii_ 114 = some (1, 8, some (.nilFunc)) := by kernel_rfl
theorem E2i : ii_ 115 = some (2, 32, some (.agg #[.int .u32 0, .slice none 0 0])) := by kernel_rfl
theorem E2h : ii_ 116 = some (1, 24, some (.slice none 0 0)) := by kernel_rfl
theorem E2g : ii_ 117 = some (1, 24, some (.slice none 0 0)) := by kernel_rfl
theorem E2f : ii_ 126 = some (1, 8, some (.nilFunc)) := by kernel_rfl
theorem E2e : ii_ 128 = some (1, 8, some (.nilFunc)) := by kernel_rfl
theorem E2d : ii_ 133 = some (1, 8, some (.nilFunc)) := by kernel_rfl
theorem E2c : ii_ 136 = some (2, 16, some (.agg #[.int .i64 0, .int .i64 0])) := by kernel_rfl
theorem E2b : ii_ 137 = some (2, 16, some (.agg #[.int .i64 0, .int .i64 0])) := by kernel_rfl
theorem E2a : ii_ 138 = some (1, 8, some (.nilFunc)) := by kernel_rfl
theorem E1z : ii_ 139 = some (1, 8, some (.nilFunc)) := by kernel_rfl
theorem E1y : ii_ 146 = some (1, 8, some (.int .u64 0)) := by kernel_rfl
theorem E1x : ii_ 148 = some (1, 8, some (.nilFunc)) := by kernel_rfl
theorem E1w : ii_ 151 = some (1, 8, some (.nilFunc)) := by kernel_rfl
theorem E1v : ii_ 157 = some (1, 8, some (.nilFunc)) := by kernel_rfl
theorem E1u : ii_ 159 = some (1, 8, some (.nilFunc)) := by kernel_rfl
theorem E1t : ii_ 165 = some (1, 8, some (.nilFunc)) := by kernel_rfl
theorem E1s : ii_ 167 = some (1, 8, some (.nilFunc)) := by kernel_rfl
theorem E1r : ii_ 168 = some (1, 8, some (.nilFunc)) := by kernel_rfl
theorem E1q : ii_ 174 = some (1, 8, some (.map none)) := by kernel_rfl
theorem E1p : ii_ 177 = some (1, 8, some (.nilFunc)) := by kernel_rfl
theorem E1o : ii_ 179 = some (1, 8, some (.nilFunc)) := by kernel_rfl
theorem E1n : ii_ 181 = some (1, 24, some (.slice none 0 0)) := by kernel_rfl
theorem E1m : ii_ 195 = some (1, 8, some (.int .u64 0)) := by kernel_rfl
theorem E1l : ii_ 196 = some (29, 232, some (.agg #[.int .i64 0, .int .i64 0, .int .i64 0, .int .i64 0, .int .i64 0, .int .i64 0, .int .i64 0, .int .i64 0, .int .i64 0, .int .i64 0, .int .i64 0, .int .i64 0, .int .i64 0, .int .i64 0, .int .i64 0, .int .i64 0, .int .i64 0, .int .i64 0, .int .i64 0, .int .i64 0, .int .i64 0, .int .i64 0, .int .i64 0, .int .i64 0, .int .i64 0, .int .i64 0, .int .i64 0, .int .i64 0, .int .i64 0])) := by kernel_rfl
theorem E1k : ii_ 202 = some (32, 32, some (.agg #[.int .u8 0, .int .u8 0, .int .u8 0, .int .u8 0, .int .u8 0, .int .u8 0, .int .u8 0, .int .u8 0, .int .u8 0, .int .u8 0, .int .u8 0, .int .u8 0, .int .u8 0, .int .u8 0, .int .u8 0, .int .u8 0, .int .u8 0, .int .u8 0, .int .u8 0, .int .u8 0, .int .u8 0, .int .u8 0, .int .u8 0, .int .u8 0, .int .u8 0, .int .u8 0, .int .u8 0, .int .u8 0, .int .u8 0, .int .u8 0, .int .u8 0, .int .u8 0])) := by kernel_rfl
theorem E1j : ii_ 204 = some (1, 8, some (.int .i64 0)) := by kernel_rfl
theorem E1i : ii_ 215 = some (1, 8, some (.nilFunc)) := by kernel_rfl
theorem E1h : ii_ 216 = some (1, 8, some (.nilFunc)) := by kernel_rfl
theorem E1g : ii_ 217 = some (1, 8, some (.pointer none)) := by kernel_rfl
theorem E1f : ii_ 233 = some (1, 8, some (.pointer none)) := by kernel_rfl
theorem Bb {t s b : Nat} {z : Value} (h : ii_ t = some (s, b, some z)) : ∃ i, Tryz.prog.info? t = some i ∧ i.size = s ∧ i.bytes = b ∧ i.zero = some z := by
 obtain ⟨i, h1, h2⟩ := Option.map_eq_some_iff.1 h
 simp only [Prod.mk.injEq] at h2
 exact ⟨i, h1, h2.1, h2.2.1, h2.2.2⟩
theorem D4i : ∀ t d, D8w t = some d → Tryz.prog.underlying t = some d := by
 intro t d h
 unfold D8w at h
 split at h
 ·cases h; exact Tryz.underlying1
 ·cases h; exact Tryz.underlying2
 ·cases h; exact Tryz.underlying3
 ·cases h; exact Tryz.underlying4
 ·cases h; exact Tryz.underlying5
 ·cases h; exact Tryz.underlying9
 ·cases h; exact Tryz.underlying12
 ·cases h; exact Tryz.underlying20
 ·cases h; exact Tryz.underlying21
 ·cases h; exact Tryz.underlying22
 ·cases h; exact Tryz.underlying23
 ·cases h; exact Tryz.underlying24
 ·cases h; exact Tryz.underlying25
 ·cases h; exact Tryz.underlying26
 ·cases h; exact Tryz.underlying28
 ·cases h; exact Tryz.underlying30
 ·cases h; exact Tryz.underlying31
 ·cases h; exact Tryz.underlying32
 ·cases h; exact Tryz.underlying33
 ·cases h; exact Tryz.underlying36
 ·cases h; exact Tryz.underlying37
 ·cases h; exact Tryz.underlying39
 ·cases h; exact Tryz.underlying41
 ·cases h; exact Tryz.underlying42
 ·cases h; exact Tryz.underlying43
 ·cases h; exact Tryz.underlying53
 ·cases h; exact Tryz.underlying54
 ·cases h; exact Tryz.underlying63
 ·cases h; exact Tryz.underlying103
 ·cases h; exact Tryz.underlying104
 ·cases h; exact Tryz.underlying108
 ·cases h; exact Tryz.underlying114
 ·cases h; exact Tryz.underlying116
 ·cases h; exact Tryz.underlying117
 ·cases h; exact Tryz.underlying126
 ·cases h; exact Tryz.underlying128
 ·cases h; exact Tryz.underlying133
 ·cases h; exact Tryz.underlying138
 ·cases h; exact Tryz.underlying139
 ·cases h; exact Tryz.underlying146
 ·cases h; exact Tryz.underlying148
 ·cases h; exact Tryz.underlying151
 ·cases h; exact Tryz.underlying157
 ·cases h; exact Tryz.underlying159
 ·cases h; exact Tryz.underlying165
 ·cases h; exact Tryz.underlying167
 ·cases h; exact Tryz.underlying168
 ·cases h; exact Tryz.underlying174
 ·cases h; exact Tryz.underlying177
 ·cases h; exact Tryz.underlying179
 ·cases h; exact Tryz.underlying181
 ·cases h; exact Tryz.underlying195
 ·cases h; exact Tryz.underlying196
 ·cases h; exact Tryz.underlying202
 ·cases h; exact Tryz.underlying204
 ·cases h; exact Tryz.underlying215
 ·cases h; exact Tryz.underlying216
 ·cases h; exact Tryz.underlying217
 ·cases h; exact Tryz.underlying233
 ·cases h
theorem D4j : ∀ t s b z, D8x t = some (s, b, z) → ∃ i, Tryz.prog.info? t = some i ∧ i.size = s ∧ i.bytes = b ∧ i.zero = some z := by
 intro t s b z h
 unfold D8x at h
 split at h
 ·cases h; exact Bb E8g
 ·cases h; exact Bb E8f
 ·cases h; exact Bb E8e
 ·cases h; exact Bb E8d
 ·cases h; exact Bb E8c
 ·cases h; exact Bb E8b
 ·cases h; exact Bb E6u
 ·cases h; exact Bb E6t
 ·cases h; exact Bb E6s
 ·cases h; exact Bb E6r
 ·cases h; exact Bb E6q
 ·cases h; exact Bb E6p
 ·cases h; exact Bb E6o
 ·cases h; exact Bb E6n
 ·cases h; exact Bb E6m
 ·cases h; exact Bb E6l
 ·cases h; exact Bb E6k
 ·cases h; exact Bb E6j
 ·cases h; exact Bb E6i
 ·cases h; exact Bb E6h
 ·cases h; exact Bb E6g
 ·cases h; exact Bb E6f
 ·cases h; exact Bb E6e
 ·cases h; exact Bb E6d
 ·cases h; exact Bb E6c
 ·cases h; exact Bb E6b
 ·cases h; exact Bb E6a
 ·cases h; exact Bb E5z
 ·cases h; exact Bb E5y
 ·cases h; exact Bb E5x
 ·cases h; exact Bb E5w
 ·cases h; exact Bb E5v
 ·cases h; exact Bb E5u
 ·cases h; exact Bb E5t
 ·cases h; exact Bb E5s
 ·cases h; exact Bb E5r
 ·cases h; exact Bb E2o
 ·cases h; exact Bb E2n
 ·cases h; exact Bb E2m
 ·cases h; exact Bb E2l
 ·cases h; exact Bb E2k
 ·cases h; exact Bb E2j
 ·cases h; exact Bb E2i
 ·cases h; exact Bb E2h
 ·cases h; exact Bb E2g
 ·cases h; exact Bb E2f
 ·cases h; exact Bb E2e
 ·cases h; exact Bb E2d
 ·cases h; exact Bb E2c
 ·cases h; exact Bb E2b
 ·cases h; exact Bb E2a
 ·cases h; exact Bb E1z
 ·cases h; exact Bb E1y
 ·cases h; exact Bb E1x
 ·cases h; exact Bb E1w
 ·cases h; exact Bb E1v
 ·cases h; exact Bb E1u
 ·cases h; exact Bb E1t
 ·cases h; exact Bb E1s
 ·cases h; exact Bb E1r
 ·cases h; exact Bb E1q
 ·cases h; exact Bb E1p
 ·cases h; exact Bb E1o
 ·cases h; exact Bb E1n
 ·cases h; exact Bb E1m
 ·cases h; exact Bb E1l
 ·cases h; exact Bb E1k
 ·cases h; exact Bb E1j
 ·cases h; exact Bb E1i
 ·cases h; exact Bb E1h
 ·cases h; exact Bb E1g
 ·cases h; exact Bb E1f
 ·cases h
theorem E5q : ∃ fs, Tryz.prog.underlying 34 = some (.struct fs) ∧ fs.toList.mapM (fun f => (Tryz.prog.info? f.type).map fun i => (f.offset, i.size)) = some [(0, 1), (1, 1), (2, 1), (3, 1), (4, 1), (5, 1)] := ⟨_, Tryz.underlying34, by kernel_rfl⟩
theorem E5p : ∃ fs, Tryz.prog.underlying 35 = some (.struct fs) ∧ fs.toList.mapM (fun f => (Tryz.prog.info? f.type).map fun i => (f.offset, i.size)) = some [(0, 1), (1, 1), (2, 1), (3, 1), (4, 1), (5, 1)] := ⟨_, Tryz.underlying35, by kernel_rfl⟩
theorem E5o : ∃ fs, Tryz.prog.underlying 44 = some (.struct fs) ∧ fs.toList.mapM (fun f => (Tryz.prog.info? f.type).map fun i => (f.offset, i.size)) = some [(0, 1), (1, 1)] := ⟨_, Tryz.underlying44, by kernel_rfl⟩
theorem E5n : ∃ fs, Tryz.prog.underlying 45 = some (.struct fs) ∧ fs.toList.mapM (fun f => (Tryz.prog.info? f.type).map fun i => (f.offset, i.size)) = some [(0, 1), (1, 1)] := ⟨_, Tryz.underlying45, by kernel_rfl⟩
theorem E5m : ∃ fs, Tryz.prog.underlying 46 = some (.struct fs) ∧ fs.toList.mapM (fun f => (Tryz.prog.info? f.type).map fun i => (f.offset, i.size)) = some [(0, 1), (1, 1)] := ⟨_, Tryz.underlying46, by kernel_rfl⟩
theorem E5l : ∃ fs, Tryz.prog.underlying 47 = some (.struct fs) ∧ fs.toList.mapM (fun f => (Tryz.prog.info? f.type).map fun i => (f.offset, i.size)) = some [(0, 1), (1, 1)] := ⟨_, Tryz.underlying47, by kernel_rfl⟩
theorem E5k : ∃ fs, Tryz.prog.underlying 67 = some (.struct fs) ∧ fs.toList.mapM (fun f => (Tryz.prog.info? f.type).map fun i => (f.offset, i.size)) = some [(0, 1), (1, 1)] := ⟨_, Tryz.underlying67, by kernel_rfl⟩
theorem E5j : ∃ fs, Tryz.prog.underlying 68 = some (.struct fs) ∧ fs.toList.mapM (fun f => (Tryz.prog.info? f.type).map fun i => (f.offset, i.size)) = some [(0, 1), (1, 1)] := ⟨_, Tryz.underlying68, by kernel_rfl⟩
theorem E5i : ∃ fs, Tryz.prog.underlying 71 = some (.struct fs) ∧ fs.toList.mapM (fun f => (Tryz.prog.info? f.type).map fun i => (f.offset, i.size)) = some [(0, 1), (1, 1)] := ⟨_, Tryz.underlying71, by kernel_rfl⟩
theorem E1d : ∃ fs, Tryz.prog.underlying 105 = some (.struct fs) ∧ fs.toList.mapM (fun f => (Tryz.prog.info? f.type).map fun i => (f.offset, i.size)) = some [(0, 1), (1, 1)] := ⟨_, Tryz.underlying105, by kernel_rfl⟩
theorem E1c : ∃ fs, Tryz.prog.underlying 106 = some (.struct fs) ∧ fs.toList.mapM (fun f => (Tryz.prog.info? f.type).map fun i => (f.offset, i.size)) = some [(0, 1), (1, 1)] := ⟨_, Tryz.underlying106, by kernel_rfl⟩
theorem E1b : ∃ fs, Tryz.prog.underlying 115 = some (.struct fs) ∧ fs.toList.mapM (fun f => (Tryz.prog.info? f.type).map fun i => (f.offset, i.size)) = some [(0, 1), (1, 1)] := ⟨_, Tryz.underlying115, by kernel_rfl⟩
theorem E1a : ∃ fs, Tryz.prog.underlying 136 = some (.struct fs) ∧ fs.toList.mapM (fun f => (Tryz.prog.info? f.type).map fun i => (f.offset, i.size)) = some [(0, 1), (1, 1)] := ⟨_, Tryz.underlying136, by kernel_rfl⟩
theorem E0z : ∃ fs, Tryz.prog.underlying 137 = some (.struct fs) ∧ fs.toList.mapM (fun f => (Tryz.prog.info? f.type).map fun i => (f.offset, i.size)) = some [(0, 1), (1, 1)] := ⟨_, Tryz.underlying137, by kernel_rfl⟩
theorem C0l : ∀ t l, C4d t = some l → ∃ fs, Tryz.prog.underlying t = some (.struct fs) ∧ fs.toList.mapM (fun f => (Tryz.prog.info? f.type).map fun i => (f.offset, i.size)) = some l := by
 intro t l h
 unfold C4d at h
 split at h
 ·cases h; exact E5q
 ·cases h; exact E5p
 ·cases h; exact E5o
 ·cases h; exact E5n
 ·cases h; exact E5m
 ·cases h; exact E5l
 ·cases h; exact E5k
 ·cases h; exact E5j
 ·cases h; exact E5i
 ·cases h; exact E1d
 ·cases h; exact E1c
 ·cases h; exact E1b
 ·cases h; exact E1a
 ·cases h; exact E0z
 ·cases h
theorem C8h : ∀ t l, C4d t = some l → l.all (fun x => x.2 != 0) = true := by
 intro t l h
 unfold C4d at h
 split at h
 ·cases h; rfl
 ·cases h; rfl
 ·cases h; rfl
 ·cases h; rfl
 ·cases h; rfl
 ·cases h; rfl
 ·cases h; rfl
 ·cases h; rfl
 ·cases h; rfl
 ·cases h; rfl
 ·cases h; rfl
 ·cases h; rfl
 ·cases h; rfl
 ·cases h; rfl
 ·cases h
theorem B4m {P : Program} : ∀ (fs : List Field) (l : List (Nat × Nat)), fs.mapM (fun f => (P.info? f.type).map fun i => (f.offset, i.size)) = some l → ∀ (j : Nat) (x : Nat × Nat), l[j]? = some x → ∃ fl i, fs[j]? = some fl ∧ P.info? fl.type = some i ∧ fl.offset = x.1 ∧ i.size = x.2
 | [], l, h, j, x, hx => by simp at h; subst h; simp at hx
 | f :: fs, l, h, j, x, hx => by
  simp only [List.mapM_cons, Option.bind_eq_bind, Option.pure_def] at h
  cases hi : P.info? f.type with
  | none => simp [hi] at h
  | some i =>
   cases hr : fs.mapM (fun f => (P.info? f.type).map fun i => (f.offset, i.size)) with
   | none => simp [hi, hr] at h
   | some rest =>
    simp [hi, hr] at h
    subst h
    cases j with
    | zero => simp at hx; subst hx; exact ⟨f, i, rfl, hi, rfl, rfl⟩
    | succ j => simpa using B4m fs rest hr j x (by simpa using hx)
theorem D4k : ∀ t j o, D8y t j = some o → ∃ fs fl i, Tryz.prog.underlying t = some (.struct fs) ∧ fs[j]? = some fl ∧ fl.offset = o ∧ Tryz.prog.info? fl.type = some i ∧ i.size ≠ 0 := by
 intro t j o h
 unfold D8y at h
 obtain ⟨l, h1, h2⟩ := Option.bind_eq_some_iff.1 h
 obtain ⟨x, h3, rfl⟩ := Option.map_eq_some_iff.1 h2
 obtain ⟨fs, h4, h5⟩ := C0l t l h1
 obtain ⟨fl, i, h6, h7, h8, h9⟩ := B4m fs.toList l h5 j x h3
 refine ⟨fs, fl, i, h4, by simpa using h6, h8, h7, ?_⟩
 have := List.all_eq_true.1 (C8h t l h1) x (List.mem_of_getElem? h3)
 rw [h9]
 simpa using this
theorem E8i (a b c d : Int) (w : World) : (Op.equalIn 10000 45 (.agg #[.int .u32 a, .int .u32 b]) (.agg #[.int .u32 c, .int .u32 d])).run Tryz.prog w = .ok (a == c && b == d) w := by
 have u := Tryz.underlying43
 have hS : Tryz.prog.underlying 45 = some (.struct (Tryz.prog.fieldsOf 45)) := by kernel_rfl
 have hp : Tryz.prog.stoodInHeld 45 = false := by kernel_rfl
 obtain ⟨i, h1, h2⟩ : ∃ i, Tryz.prog.info? 43 = some i ∧ i.size = 1 := by
  obtain ⟨i, h1, h2⟩ := Option.map_eq_some_iff.1 (show (Tryz.prog.info? 43).map (fun i => i.size) = some 1 by kernel_rfl)
  exact ⟨i, h1, h2⟩
 have hz : ∀ w, (sizeOf 43).run Tryz.prog w = .ok 1 w := fun w => by simp [sizeOf, typeInfo, h1, h2]
 rw [show (10000 : Nat) = 9999 + 1 from rfl, run_equalIn_agg w 9999 45 _ _ hS hp]
 simp only [Program.fieldsOf, Tryz.underlying45]
 have hA : ∀ w, (isAgg 43).run Tryz.prog w = .ok false w := fun w => by simp [isAgg, run_underlying u]
 have e : ∀ (a c : Int) (w : World), (Op.equalIn 9999 43 (.int .u32 a) (.int .u32 c)).run Tryz.prog w = .ok (a == c) w := fun a c w => run_equalIn_int w 9998 43 .u32 .u32 a c u
 simp [Op.eqFields, part, hA, hz, e]
 by_cases h1 : a = c <;> by_cases h2 : b = d <;> simp [h1, h2]
instance : Go.Hy.Tab Tryz.prog := ⟨D8w, D4i, D8x, D4j, D8y, D4k, C4d, C0l, by kernel_rfl, 45, E8i, by kernel_rfl⟩
noncomputable def fC' : Array Field := match Tryz.prog.underlying 45 with | some (.struct fs) => fs | _ => #[]
noncomputable def fT' : Array Field := match Tryz.prog.underlying 35 with | some (.struct fs) => fs | _ => #[]
noncomputable def fB' : Array Field := match Tryz.prog.underlying 47 with | some (.struct fs) => fs | _ => #[]
noncomputable instance : Go.Hy.TyF Tryz.prog := { tI := 3, tS := 9, tU := 43, tC := 45, tT := 35, tB := 47, lC := 25, lT := 33, lB := 22, fC := fC', fT := fT', fB := fB', uI := Tryz.underlying3, uS := Tryz.underlying9, uU := Tryz.underlying43, uC := by kernel_rfl, uT := by kernel_rfl, uB := by kernel_rfl, ulC := Tryz.underlying25, ulT := Tryz.underlying33, ulB := Tryz.underlying22, pC := by kernel_rfl, pT := by kernel_rfl, pB := by kernel_rfl, c1 := ⟨by kernel_rfl, by kernel_rfl, by kernel_rfl, by kernel_rfl, by kernel_rfl, by kernel_rfl⟩, c2 := ⟨by kernel_rfl, by kernel_rfl, by kernel_rfl⟩, b2 := ⟨by kernel_rfl, by kernel_rfl, by kernel_rfl⟩ }
theorem laid' : laidOutB Tryz.prog = true := by kernel_rfl
noncomputable instance : Go.Hy.TabM Tryz.prog := { law := deep_law_laid laid' (m := 3) (by omega) (of_decide_eq_true (by kernel_rfl)) (by kernel_rfl) (by kernel_rfl), kt := by kernel_rfl, names := by kernel_rfl, npos := of_decide_eq_true (by kernel_rfl) }
end Go.Proofs.YtpfjlbopkhdebaaGreatDoor.Hy
namespace Go.Hy
theorem size_pos' (t : T) : 1 ≤ size t := by
 rw [size_eq]
 have : ∀ (l : List Part) (a : Nat), a ≤ l.foldl (fun a p => a + size p.1) a := by
  intro l
  induction l with
  | nil => intro a; exact Nat.le_refl _
  | cons p l ih => intro a; exact Nat.le_trans (Nat.le_add_right _ _) (ih _)
 exact this _ _
end Go.Hy
namespace Go.Hy
theorem Oc (k i : Int) : 0 ≤ (binds k i).1 ∧ (binds k i).1 ≤ 1 ∧ 0 ≤ (binds k i).2 ∧ (binds k i).2 ≤ 1 := by
 unfold binds
 repeat (first | split | (refine ⟨?_, ?_, ?_, ?_⟩ <;> simp))
theorem A2c {t : T} {p : Part} (h : p ∈ parts t) : 0 ≤ p.2.1 ∧ p.2.1 ≤ 1 ∧ 0 ≤ p.2.2 ∧ p.2.2 ≤ 1 := by
 unfold parts at h
 rcases List.mem_append.mp h with h | h
 ·have : ∀ (ks : List T) (i : Nat), p ∈ Em t.kind i ks → 0 ≤ p.2.1 ∧ p.2.1 ≤ 1 ∧ 0 ≤ p.2.2 ∧ p.2.2 ≤ 1 := by
   intro ks
   induction ks with
   | nil => intro i h; simp [Em] at h
   | cons k ks ih =>
    intro i h
    rcases List.mem_cons.mp h with e | h
    ·subst e; exact Oc _ _
    ·exact ih _ h
  exact this _ _ h
 ·have : ∀ (bs : List Br), p ∈ Di t.kind bs → 0 ≤ p.2.1 ∧ p.2.1 ≤ 1 ∧ 0 ≤ p.2.2 ∧ p.2.2 ≤ 1 := by
   intro bs
   induction bs with
   | nil => intro h; simp [Di] at h
   | cons b bs ih =>
    intro h
    rcases List.mem_append.mp h with h | h
    ·obtain ⟨k, _, e⟩ := List.mem_map.mp h
     subst e
     show 0 ≤ (0 : Int) ∧ (0 : Int) ≤ 1 ∧ 0 ≤ more t.kind ∧ more t.kind ≤ 1
     unfold more
     split <;> omega
    ·exact ih h
  exact this _ h
theorem Lc {t : T} {p : Part} (h : p ∈ parts t) : size p.1 < size t := by
 obtain ⟨m, hm, e⟩ := List.mem_iff_getElem.mp h
 have h1 := M3 (t := t) (m := m) (p := p) (by rw [List.getElem?_eq_getElem hm, e])
 have h2 : 1 ≤ Ca t m := by
  unfold Ca N2
  have : ∀ (l : List Part) (a : Nat), a ≤ l.foldl (fun a p => a + size p.1) a := by
   intro l
   induction l with
   | nil => intro a; exact Nat.le_refl _
   | cons p l ih => intro a; exact Nat.le_trans (Nat.le_add_right _ _) (ih _)
  exact this _ _
 omega
end Go.Hy
namespace Go.Hy
@[simp] theorem qE_def (q : QP) : qE q = RT q.1.1 q.1.2.1 q.1.2.2.1 q.1.2.2.2 := rfl
@[simp] theorem ipE_def (q : IP) : ipE q = IL q.1 q.2 := rfl
end Go.Hy
namespace Go.Hy
section
variable {α : Type} {B : Cu} {Γ : List Fact} {Ms : List Bj} {w : World} {E : α → Fact} {l : List α}
end
end Go.Hy
namespace Go.Hy
theorem Sz {t : T} (h : C0 t = 0) : size t ≤ 20000 := by
 unfold C0 at h
 split at h
 ·rename_i hs; exact absurd h hs
 ·rename_i hs
  simp only [ne_eq, Decidable.not_not, sized] at hs
  split at hs
  ·cases hs
  ·split at hs
   ·cases hs
   ·omega
section
variable {tn : Bool} {pn : Nat} {P : Program} [Tab P] {f : FuncId} {R : Ending → World → Prop} {B : Cu} {n : Fz} {K : List Item} {ops : Array Oper} {i : Nat} {l fin : List Nat} {σ : Nat → Value} {Γ : List Fact} {Ms Ms2 : List Bj}
variable {dst : Option Tmp} {op : Op} {ty : TypeId} {pos : String} {after : Array Edge} {v : Value} {x y z : Operand}
theorem E0j {t e : TypeId} {d : TypeDesc} {g i' n' : Nat} {a : SH} {ls : List Int} (k_ : Ec P f R B n K ops l (Au σ dst (.int .i64 (ls.getD i' 0))) Γ Ms) (hx : ev σ x = .pointer (some ⟨g, 0 + i' * 1, none⟩) := by exact A5) (hma : Av 1 e a n' (Dz ls) ∈ Ms ∧ a.1 = some ⟨g, 0, none⟩ := by exact ma1_) (hu : Tab.und P t = some d := by rfl) (hd' : (match d with | .struct _ | .array _ _ => true | _ => false) = false := by rfl) (hlt : i' < ls.length := by first | omega | (simp only [List.length_map, List.length_set]; omega) | (simp; omega)) (hd : Af n dst = true := by rfl) : Ew P f R B n K ops l (Ch dst (.load t x) ty) σ Γ Ms := Hr (E0u (F := Lk) Na 0 hx hma.1 hma.2 hu hd' hlt rfl) hd k_
theorem E4k {t e : TypeId} {bt g i' n' : Nat} {a : SH} {zv : Value} {ls : List Int} (u : Int) (k_ : Ec P f R B n K ops l σ Γ (Av 1 e a n' (Dz (ls.set i' u)) :: Ms2)) (hx : ev σ x = .pointer (some ⟨g, 0 + i' * 1, none⟩) := by exact A5) (hm : Ms.Perm (Av 1 e a n' (Dz ls) :: Ms2) := by first | exact Wr | exact Ah | exact C3 | exact Eb | exact Ea | exact Dw | exact Cr | exact Ir | exact I2) (ha : a.1 = some ⟨g, 0, none⟩ := by assumption) (hn : n' = ls.length := by first | rfl | omega | (simp; done) | (simp; omega)) (hy : (ev σ y).cells = (Lk u).toArray := by exact A5) (hi : Tab.inf P t = some (1, bt, zv) := by rfl) (hlt : i' < ls.length := by first | omega | (simp only [List.length_map, List.length_set]; omega) | (simp; omega)) : Ew P f R B n K ops l (Ch none (.store t x y) ty) σ Γ Ms := Wh (D4l (F := Lk) Na u hx hm ha hn hy hi rfl hlt) k_
end
theorem St.E8a {B : Cu} {Γ : List Fact} {Ms : List Bj} {w : World} {b : Nat} {e : TypeId} {cs : List Value} (l : List Int) (hs : St B Γ (Ae b cs e :: Ms) w) {hBp : Prop} (hB : hBp) (hc : cs = Dz l) (hn : l.length ≤ 1000) (hu : ∀ c, c ∈ l → Ak c) : St B (IL l (some ⟨b, 0, Option.none⟩, l.length) :: Γ) Ms w :=
 (hs.Hw (sz := 1) (m := l.length) (by rw [hc, Oa Na l]) (by unfold maxLen; omega)).Mp hB hc rfl (by unfold reach; omega) hu
end Go.Hy
namespace Go.Hy
open Go Go.ChangeShapes Go.WideShapes Go.RowKit
variable {P : Program} {H : Type} {enc : TypeId × Value → H} {W : World} {base : Nat} {v : Value} {d : DataW H} {ps : List MemPlace} [TyF P]
theorem E7c {t : TypeId} {fs : Array Field} (hu : P.underlying t = some (.struct fs)) (hp : fs.toList.map (fun f => (f.offset, f.type)) = [(0, TyF.lT P), (1, TyF.tI P)]) (hc : P.cellsOf t = 2) (hval : Value.okWide P W .any base t v) (h : DataW.Trod enc P W 0 (fun _ => true) true t v d ps) (hl : O3 P t d) : ∃ (l : List T) (a : SH) (n : Int), v = .agg #[sl a l.length, .int .i64 n] ∧ B2d (okw W) l a W ∧ Ak n := by
 obtain ⟨cs, rfl, _⟩ := okWide_struct hu hval
 obtain ⟨fuel, hf⟩ := h
 cases fuel with
 | zero => cases hf
 | succ fuel =>
  obtain ⟨h1, h2⟩ := P3 hu hp hf hl
  rw [hc] at h1
  obtain ⟨d0, p0, r0, l0⟩ := h2 0 _ rfl
  obtain ⟨d1, p1, r1, l1⟩ := h2 1 _ rfl
  obtain ⟨ks, vk, e0, hks⟩ := (A6s fuel).2.1 _ _ _ r0 l0
  obtain ⟨n, e1, hn⟩ := Yl TyF.uI r1
  obtain ⟨c1, c2, c3, c4, c5, c6⟩ := TyF.c1 (P := P)
  simp only [c1, c5] at e0 e1
  have f0 := My e0
  have f1 := My e1
  refine ⟨ks, vk, n, ?_, hks, hn⟩
  have h3 : (Value.agg cs).cells.toList = [sl vk ks.length, .int .i64 n] := P4 (by rw [h1]; rfl) (fun i hi => by
   match i with
   | 0 => exact f0
   | 1 => exact f1
   | i + 2 => simp at hi; omega)
  have h4 : cs.toList = [sl vk ks.length, .int .i64 n] := by simpa [Value.cells] using h3
  rw [show cs = #[sl vk ks.length, .int .i64 n] from by rw [← Array.toArray_toList (xs := cs), h4]]
end Go.Hy
namespace Go.Hy
section
variable {tn : Bool} {pn : Nat} {P : Program} [Tab P] {f : FuncId} {R : Ending → World → Prop} {B : Cu} {n : Fz} {K : List Item} {ops : Array Oper} {i : Nat} {l fin : List Nat} {σ : Nat → Value} {Γ : List Fact} {Ms Ms2 : List Bj}
variable {dst : Option Tmp} {ty : TypeId}
theorem D4f {c : FuncId} {args cap al : List Value} {av : Array Operand} {ts : Array TypeId} {g : Operand} {pre : List Fact} {X : Type} {val : X → Value} {N : X → List Fact} {Ms1 : X → List Bj}
  (hc : ∀ (args : Array Value) (w : World), (callFunc c args).run P w = .ok (.enter c args) w) (hsp : Spec P c al.toArray pre [] val N Ms1) (kk : ∀ x, NV tn pn P f R B n K ops fin l (Au σ dst (val x)) (N x ++ Γ) (Ms1 x ++ Ms))
  (hg : ev σ g = .func (.func c) #[] cap.toArray := by rfl) (ha : av.toList.map (ev σ) = args := by rfl) (hal : args ++ cap = al := by rfl) (hpre : ∀ F, F ∈ pre → F ∈ Γ := by first | (simp; done) | (simp +contextual; done)) (hd : Af n dst = true := by rfl) : L0 tn pn P f R B n K ops fin i l dst (.call { callee := .value g, args := av, argTypes := ts }) ty σ Γ Ms :=
 C2d (B8z hg ha hc) (hal ▸ hsp) hpre rfl rfl hd kk
end
end Go.Hy
namespace Go.Proofs
open Go.Shelf
def Tryz.Y7 : Go.Shelf.Ren := ⟨fun | 6 => 170 | 15 => 222 | 14 => 221 | 28 => 245 | 29 => 246 | 20 => 237 | 21 => 238 | 22 => 239 | 23 => 240 | 24 => 241 | 25 => 242 | 26 => 243 | 27 => 244 | 46 => 257 | 47 => 258 | 48 => 259 | 49 => 260 | 50 => 261 | 57 => 264 | n => n, fun | 22 => 25 | 24 => 45 | 25 => 177 | 3 => 3 | 39 => 146 | 0 => 0 | 53 => 43 | 55 => 195 | 4 => 4 | 46 => 205 | 45 => 204 | 50 => 209 | 5 => 5 | 9 => 9 | 66 => 213 | 70 => 217 | 76 => 220 | 77 => 163 | n => n, fun | n => n⟩
theorem Tryz.D7k : Go.Proofs.SlLaysF0.n6 Tryz.prog Tryz.Y7 := {
 mixed := by kernel_rfl
 f6 := ⟨Tryz.f170.name, by decide, Tryz.func170.trans (congrArg some (by kernel_rfl))⟩
 f14 := ⟨Tryz.f221.name, by decide, Tryz.func221.trans (congrArg some (by kernel_rfl))⟩
 f15 := Tryz.func222.trans (congrArg some (by kernel_rfl))
 f20 := ⟨Tryz.f237.name, by decide, Tryz.func237.trans (congrArg some (by kernel_rfl))⟩
 f21 := ⟨Tryz.f238.name, by decide, Tryz.func238.trans (congrArg some (by kernel_rfl))⟩
 f22 := ⟨Tryz.f239.name, by decide, Tryz.func239.trans (congrArg some (by kernel_rfl))⟩
 f23 := ⟨Tryz.f240.name, by decide, Tryz.func240.trans (congrArg some (by kernel_rfl))⟩
 f24 := ⟨Tryz.f241.name, by decide, Tryz.func241.trans (congrArg some (by kernel_rfl))⟩
 f25 := ⟨Tryz.f242.name, by decide, Tryz.func242.trans (congrArg some (by kernel_rfl))⟩
 f26 := ⟨Tryz.f243.name, by decide, Tryz.func243.trans (congrArg some (by kernel_rfl))⟩
 f27 := ⟨Tryz.f244.name, by decide, Tryz.func244.trans (congrArg some (by kernel_rfl))⟩
 f28 := Tryz.func245.trans (congrArg some (by kernel_rfl))
 f29 := Tryz.func246.trans (congrArg some (by kernel_rfl))
 f46 := ⟨Tryz.f257.name, by decide, Tryz.func257.trans (congrArg some (by kernel_rfl))⟩
 f47 := Tryz.func258.trans (congrArg some (by kernel_rfl))
 f48 := Tryz.func259.trans (congrArg some (by kernel_rfl))
 f49 := ⟨Tryz.f260.name, by decide, Tryz.func260.trans (congrArg some (by kernel_rfl))⟩
 f50 := ⟨Tryz.f261.name, by decide, Tryz.func261.trans (congrArg some (by kernel_rfl))⟩
 f57 := ⟨Tryz.f264.name, by decide, Tryz.func264.trans (congrArg some (by kernel_rfl))⟩
 t0 := Tryz.underlying0
 a0 := Tryz.isAgg0
 z0 := Tryz.sizeOf0
 v0 := Tryz.zeroValue0
 t3 := Tryz.underlying3
 a3 := Tryz.isAgg3
 z3 := Tryz.sizeOf3
 v3 := Tryz.zeroValue3
 t4 := Tryz.underlying4
 a4 := Tryz.isAgg4
 z4 := Tryz.sizeOf4
 v4 := Tryz.zeroValue4
 t5 := Tryz.underlying5
 a5 := Tryz.isAgg5
 z5 := Tryz.sizeOf5
 v5 := Tryz.zeroValue5
 t9 := Tryz.underlying9
 a9 := Tryz.isAgg9
 z9 := Tryz.sizeOf9
 v9 := Tryz.zeroValue9
 t22 := Tryz.underlying25
 a22 := Tryz.isAgg25
 z22 := Tryz.sizeOf25
 v22 := Tryz.zeroValue25
 t25 := Tryz.underlying177
 a25 := Tryz.isAgg177
 z25 := Tryz.sizeOf177
 v25 := Tryz.zeroValue177
 t39 := Tryz.underlying146
 a39 := Tryz.isAgg146
 z39 := Tryz.sizeOf146
 v39 := Tryz.zeroValue146
 t45 := Tryz.underlying204
 a45 := Tryz.isAgg204
 z45 := Tryz.sizeOf204
 v45 := Tryz.zeroValue204
 t46 := Tryz.underlying205
 a46 := Tryz.isAgg205
 z46 := Tryz.sizeOf205
 v46 := Tryz.zeroValue205
 t50 := Tryz.underlying209
 a50 := Tryz.isAgg209
 z50 := Tryz.sizeOf209
 v50 := Tryz.zeroValue209
 t53 := Tryz.underlying43
 a53 := Tryz.isAgg43
 z53 := Tryz.sizeOf43
 v53 := Tryz.zeroValue43
 t55 := Tryz.underlying195
 a55 := Tryz.isAgg195
 z55 := Tryz.sizeOf195
 v55 := Tryz.zeroValue195
 t66 := Tryz.underlying213
 a66 := Tryz.isAgg213
 z66 := Tryz.sizeOf213
 v66 := Tryz.zeroValue213
 t70 := Tryz.underlying217
 a70 := Tryz.isAgg217
 z70 := Tryz.sizeOf217
 v70 := Tryz.zeroValue217
 t76 := Tryz.underlying220
 a76 := Tryz.isAgg220
 z76 := Tryz.sizeOf220
 v76 := Tryz.zeroValue220
 t77 := Tryz.underlying163
 a77 := Tryz.isAgg163
 z77 := Tryz.sizeOf163
 v77 := Tryz.zeroValue163 }
end Go.Proofs
