/- Contracts of this program's functions and the laws that they need. -/
import Derived.Test.YtibignmpjeemeaaGreatDoorProg
import Derived.KernelRfl
import Derived.Shelf.SlSortCmp.WholeK
import Derived.Shelf.SlGeneric
import Derived.Ground.SlsfProg
import Derived.Test.YtibignmpjeemeaaGreatDoorP3
set_option linter.unusedVariables false
set_option linter.unusedSimpArgs false
set_option linter.unusedSectionVars false
namespace Go.Hy
theorem A0m {a0 a1 a2 a3 a4 a5 a6 a7 a8 a9 a10 a11 m : B2} {L : List B2} : (a0 :: a1 :: a2 :: a3 :: a4 :: a5 :: a6 :: a7 :: a8 :: a9 :: a10 :: a11 :: m :: L).Perm (m :: a0 :: a1 :: a2 :: a3 :: a4 :: a5 :: a6 :: a7 :: a8 :: a9 :: a10 :: a11 :: L) := (A7u.cons a0).trans Ao
theorem Im {a0 a1 a2 a3 a4 a5 a6 a7 a8 a9 a10 a11 a12 m : B2} {L : List B2} : (a0 :: a1 :: a2 :: a3 :: a4 :: a5 :: a6 :: a7 :: a8 :: a9 :: a10 :: a11 :: a12 :: m :: L).Perm (m :: a0 :: a1 :: a2 :: a3 :: a4 :: a5 :: a6 :: a7 :: a8 :: a9 :: a10 :: a11 :: a12 :: L) := (A0m.cons a0).trans Ao
theorem Il {a0 a1 a2 a3 a4 a5 a6 a7 a8 a9 a10 a11 a12 a13 m : B2} {L : List B2} : (a0 :: a1 :: a2 :: a3 :: a4 :: a5 :: a6 :: a7 :: a8 :: a9 :: a10 :: a11 :: a12 :: a13 :: m :: L).Perm (m :: a0 :: a1 :: a2 :: a3 :: a4 :: a5 :: a6 :: a7 :: a8 :: a9 :: a10 :: a11 :: a12 :: a13 :: L) := (Im.cons a0).trans Ao
theorem Ik {a0 a1 a2 a3 a4 a5 a6 a7 a8 a9 a10 a11 a12 a13 a14 m : B2} {L : List B2} : (a0 :: a1 :: a2 :: a3 :: a4 :: a5 :: a6 :: a7 :: a8 :: a9 :: a10 :: a11 :: a12 :: a13 :: a14 :: m :: L).Perm (m :: a0 :: a1 :: a2 :: a3 :: a4 :: a5 :: a6 :: a7 :: a8 :: a9 :: a10 :: a11 :: a12 :: a13 :: a14 :: L) := (Il.cons a0).trans Ao
def Rs (T : TypeId) (e : Int) : List PanicEntry := [{ v := .iface T (.int .i64 e), recovered := false }]
def Lu (P : Program) (T : TypeId) (k : FuncId) (args : Array Value) (pre : List Fact) {α : Type} (r : Aw α) {X : α → Type} (val : ∀ a : α, X a → Value) (N : ∀ a : α, X a → List Fact) (Ms1 : ∀ a : α, X a → List B2) : Prop :=
 (∀ a, r = .ok a → Spec P k args pre [] (val a) (N a) (Ms1 a)) ∧ (∀ e, r = .bad e → O6 P k args pre (Rs T e))
def B2t (B : C2) (T : TypeId) {α : Type} (r : Aw α) {X : α → Type} (val : ∀ a : α, X a → Value) (N : ∀ a : α, X a → List Fact) (Ms1 : ∀ a : α, X a → List B2) (e : Ending) (w' : World) : Prop :=
 (∀ a, r = .ok a → Ends B (val a) (N a) (Ms1 a) e w') ∧ (∀ x, r = .bad x → e = .panicked (Rs T x) ∧ St B [] [] w')
section
variable {P : Program} {f : FuncId} {B : C2} {n : Fz} {K : List Item} {σ : Nat → Value} {Γ : List Fact} {Ms : List B2} {todo : List Item} {T : TypeId} {α : Type} {X : α → Type} {r : Aw α} {val : ∀ a : α, X a → Value} {N : ∀ a : α, X a → List Fact} {Ms1 : ∀ a : α, X a → List B2}
theorem Dx.D3u {R R' : Ending → World → Prop} (hm : ∀ e w, R e w → R' e w) (h : Dx P f R B n todo σ Γ Ms) : Dx P f R' B n todo σ Γ Ms := fun a w hr hs b cs hb hk => by
 obtain ⟨e, w', fr, hR, hc, hf, hl⟩ := h a w hr hs b cs hb hk
 exact ⟨e, w', fr, hm _ _ hR, hc, hf, hl⟩
theorem go_ok {a : α} (hr : r = .ok a) (h : Dx P f (Ends B (val a) (N a) (Ms1 a)) B n todo σ Γ Ms) : Dx P f (B2t B T r val N Ms1) B n todo σ Γ Ms :=
 Dx.D3u (fun e w he => ⟨fun b hb => by rw [hr] at hb; injection hb with hb; subst hb; exact he, fun x hx => by rw [hr] at hx; cases hx⟩) h
theorem Pt {β : Type} (q : Aw β) {R : Ending → World → Prop} (h1 : ∀ a, q = .ok a → Dx P f R B n todo σ Γ Ms) (h2 : ∀ e, q = .bad e → Dx P f R B n todo σ Γ Ms) : Dx P f R B n todo σ Γ Ms := by
 cases hq : q with
 | ok a => exact h1 a hq
 | bad e => exact h2 e hq
theorem B2b {K : List Item} {it : Item} {R : Ending → World → Prop} {Ms' : List B2} (p : Prop) (live : List (Nat × Value)) (h1 : (p → ∀ σ', Lv σ' live → Dx P f R B n K σ' Γ Ms') → Dx P f R B n (it :: K) σ Γ Ms) (h2 : p → ∀ base, Dx P f R B n K (stL base live) Γ Ms') : Dx P f R B n (it :: K) σ Γ Ms :=
 h1 (fun hp σ' hl => go_slots live hl (h2 hp))
theorem Hm {e : Int} (hr : r = .bad e) : ∀ w, St B [] [] w → B2t B T r val N Ms1 (.panicked (Rs T e)) w := fun w hs =>
 ⟨fun a ha => (by rw [hr] at ha; cases ha), fun x hx => (by rw [hr] at hx; injection hx with hx; subst hx; exact ⟨rfl, hs⟩)⟩
theorem Qw {k : FuncId} {fn : Func} {c : Code} {args : List Value} {pre : List Fact} {n : Nat} (hf : P.funcs[k]? = some fn) (hn : fn.ntmps = n) (hb : fn.body = some c) (ha : args.length ≤ n)
  (h : ∀ B : C2, (∀ b, B.S0 b ↔ Bb [] b) → Dx P k (B2t B T r val N Ms1) B ⟨n, [], .normal⟩ [.code c] (fun t => args.getD t undef) pre []) : Lu P T k args.toArray pre r val N Ms1 := by
 have he : (fun t => args.toArray.getD t undef) = fun t => args.getD t undef := by
  funext t
  simp [Array.getD_eq_getD_getElem?, List.getD_eq_getElem?_getD]
 have key : ∀ ok w, (∀ b, ok b → b < w.heap.size ∧ ¬ Bb [] b) → St ⟨ok, Bb [], w⟩ pre [] w → Calls P k args.toArray w (B2t ⟨ok, Bb [], w⟩ T r val N Ms1) := by
  intro ok w hok hs
  refine A6a (n := ⟨n, [], .normal⟩) hf hb hn rfl rfl (by simpa using ha) hs ?_
  have := h ⟨ok, Bb [], w⟩ (fun _ => Iff.rfl)
  rw [he]
  exact this
 exact ⟨fun a hr ok w hok hs => (key ok w hok hs).mono fun e w' h => h.1 a hr, fun x hr ok w hok hs => (key ok w hok hs).mono fun e w' h => h.2 x hr⟩
end
def Zg (L : List Fact) : Fact := ⟨fun ok w => ∀ F, F ∈ L → F.f ok w, fun ok ok' w hs h F hF => F.mono ok ok' w hs (h F hF), fun ok w w' h hs F hF => F.loc ok w w' (h F hF) hs⟩
section
variable {B : C2} {Γ : List Fact} {Ms : List B2} {w : World} {L : List Fact}
theorem St.A1x (hs : St B Γ Ms w) (h : ∀ F, F ∈ L → F ∈ Γ) : St B (Zg L :: Γ) Ms w := hs.add (fun F hF => hs.facts F (h F hF))
theorem St.B7g (hs : St B [Zg L] Ms w) : St B L Ms w := ⟨hs.chg, fun F hF => hs.facts _ List.mem_cons_self F hF, hs.res, hs.lt, hs.disj⟩
theorem Spec.A1x {P : Program} {k : FuncId} {args : Array Value} {Ms0 : List B2} {X : Type} {val : X → Value} {N : X → List Fact} {Ms1 : X → List B2} (h : Spec P k args L Ms0 val N Ms1) : Spec P k args [Zg L] Ms0 val N Ms1 := fun ok w hok hs => h ok w hok hs.B7g
theorem O6.A1x {P : Program} {k : FuncId} {args : Array Value} {chain : List PanicEntry} (h : O6 P k args L chain) : O6 P k args [Zg L] chain := fun ok w hok hs => h ok w hok hs.B7g
theorem Lu.A1x {P : Program} {T : TypeId} {k : FuncId} {args : Array Value} {α : Type} {r : Aw α} {X : α → Type} {val : ∀ a : α, X a → Value} {N : ∀ a : α, X a → List Fact} {Ms1 : ∀ a : α, X a → List B2} (h : Lu P T k args L r val N Ms1) : Lu P T k args [Zg L] r val N Ms1 := ⟨fun a ha => (h.1 a ha).A1x, fun e he => (h.2 e he).A1x⟩
end
section
variable {P : Program} [Tab P] {f : FuncId} {R : Ending → World → Prop} {B : C2} {n : Fz} {K : List Item} {ops : Array Oper} {i : Nat} {l : List Nat} {σ : Nat → Value} {Γ : List Fact} {Ms : List B2}
variable {dst : Option Tmp} {ty : TypeId} {v : Value} {x y : Operand}
theorem B8m {t : TypeId} {d : TypeDesc} (hu : Tab.und P t = some d) (hd : (match d with | .interface _ => true | _ => false) = false) (hx : ev σ x = v) : Bx P σ (.makeInterface t x) ty (.iface t v) := fun w => by
 cases d <;> first | (simp at hd; done) | simp [C3, execOp, hx, Instr.makeInterface, Cs hu]
theorem B1l {t : TypeId} {d : TypeDesc} (k_ : D9 P f R B n K ops l (Ai σ dst (.iface t v)) Γ Ms) (hx : ev σ x = v := by exact A4) (hu : Tab.und P t = some d := by rfl) (hdd : (match d with | .interface _ => true | _ => false) = false := by rfl) (hd : A8 n dst = true := by rfl) : Ds P f R B n K ops l (C3 dst (.makeInterface t x) ty) σ Γ Ms := Ay (B8m hu hdd hx) hd k_
theorem B1j {T : TypeId} {e : Int} (hR : ∀ w, St B [] [] w → R (.panicked (Rs T e)) w) (hx : ev σ x = .iface T (.int .i64 e) := by exact A4) (hD : n.defs = [] := by rfl) (hK : okK n.kind := by first | exact .inl rfl | exact .inr rfl) : Ds P f R B n K ops l (C3 dst (.panic x) ty) σ Γ Ms := fun a w hr hs => by
 unfold Oper.wp
 rw [hr.eval]
 have e1 : (execOp (ev σ) (C3 dst (.panic x) ty)).run P w = .halt (.panic (.iface T (.int .i64 e))) w := by
  simp only [C3, execOp, hx]
  rfl
 rw [e1, Oper.upon_panic]
 refine ⟨hK.imp id (fun h => ⟨h, hr.defs.trans hD⟩), fun fn hfn => ?_⟩
 rw [hr.defs, hD]
 exact hR w (St.Kq (A := Ms) (Ms := []) (by rw [List.append_nil]; exact hs.less (fun F hF => by cases hF)))
theorem C4d {c : FuncId} {cap : List Value} {ts : Array TypeId} {g : Operand} (k_ : D9 P f R B ⟨n.sz, ⟨.fn (.func c) cap.toArray, #[]⟩ :: n.defs, n.kind⟩ K ops l σ Γ Ms) (hg : ev σ g = .func (.func c) #[] cap.toArray := by rfl) : Ds P f R B n K ops l (C3 none (.defer { callee := .value g, args := #[], argTypes := ts }) ty) σ Γ Ms := fun a w hr hs => by
 unfold Oper.wp
 rw [hr.eval]
 have e1 : (execOp (ev σ) (C3 none (.defer { callee := .value g, args := #[], argTypes := ts }) ty)).run P w = .ok (.defer ⟨.fn (.func c) cap.toArray, #[]⟩) w := by
  simp [C3, execOp, resolve, hg, Deferred.ofValue]
 rw [e1, Oper.upon_defer]
 exact k_ _ _ ⟨hr.size, hr.get, by show _ :: a.defers = _; rw [hr.defs]⟩ hs
end
def Rw (P : Program) (k : FuncId) (args : Array Value) (pre : List Fact) (Ms0 : List B2) (u u' : FrameMode) (N : List Fact) (Ms1 : List B2) : Prop :=
 ∀ ok w, (∀ b, ok b → b < w.heap.size ∧ ¬ Bb Ms0 b) → St ⟨ok, Bb Ms0, w⟩ pre Ms0 w → CallsD P k args u w fun e v w' => e = .returned (.tuple #[]) ∧ v = u' ∧ St ⟨ok, Bb Ms0, w⟩ N Ms1 w'
section
variable {P : Program} {f : FuncId} {fn : Func} {R : Ending → World → Prop} {B : C2} {n : Fz} {K : List Item} {σ : Nat → Value} {Γ : List Fact} {Ms : List B2}
theorem B1u {k : FuncId} {cap : List Value} {pre N : List Fact} {Ms0 Ms1 Ms2 : List B2} {u u' : FrameMode} {tmps : Array Value} {w : World} (hu : u ≠ .run) (hc : ∀ (args : Array Value) (w : World), (callFunc k args).run P w = .ok (.enter k args) w) (hsp : Rw P k cap.toArray pre Ms0 u u' N Ms1) (hpre : ∀ F, F ∈ pre → F ∈ Γ) (hm : Ms.Perm (Ms0 ++ Ms2)) (hset : settle u' = .returning)
  (hs : St B Γ Ms w) (hres : ∀ w', St B (N ++ Γ) (Ms1 ++ Ms2) w' → ∃ v, (results fn tmps).run P w' = .ok v w' ∧ R (.returned v) w') : Leaves P fn tmps R [⟨.fn (.func k) cap.toArray, #[]⟩] u w := by
 refine leaves_cons (f := k) (args := cap.toArray) hu (by simp [invoke, hc]) ?_
 have hs' := hs.perm hm
 refine (hsp (M5 B (Ms0 ++ Ms2) w) w ?_ (hs'.hand hpre)).mono ?_
 ·intro b hb
  exact ⟨hb.2.1, fun hc => hb.2.2 (Da.2 (.inl hc))⟩
 ·rintro e v w' ⟨rfl, rfl, hx⟩
  show Leaves P fn tmps R [] (settle v) w'
  rw [hset]
  obtain ⟨v', h1, h2⟩ := hres w' (hs'.frame hx)
  exact ⟨v', h1, h2⟩
theorem C4s {k : FuncId} {cap : List Value} {pre N : List Fact} {Ms0 Ms1 Ms2 : List B2} (hf : P.funcs[f]? = some fn) (hc : ∀ (args : Array Value) (w : World), (callFunc k args).run P w = .ok (.enter k args) w) (hsp : Rw P k cap.toArray pre Ms0 .returning .returning N Ms1) (hpre : ∀ F, F ∈ pre → F ∈ Γ) (hm : Ms.Perm (Ms0 ++ Ms2))
  (hres : ∀ a w', Rel n a σ → St B (N ++ Γ) (Ms1 ++ Ms2) w' → ∃ v, (results fn a.tmps).run P w' = .ok v w' ∧ R (.returned v) w') (hD : n.defs = [⟨.fn (.func k) cap.toArray, #[]⟩] := by rfl) (hK : n.kind = .normal := by rfl) : Dx P f R B n (.code .ret :: K) σ Γ Ms := by
 intro a w hr hs b cs hb hk
 have hfn : P.funcs[b.fn]? = some fn := by rw [hb]; exact hf
 have hL : Leaves P fn a.tmps R a.defers .returning w := by
  rw [hr.defs, hD]
  exact B1u D7 hc hsp hpre hm rfl hs (fun w' h => hres a w' hr h)
 obtain ⟨e, w', fr, hR, hs', hf', hl⟩ := leaves_steps a.defers .returning w { b.at a (.code .ret :: K) with mode := .returning } cs rfl rfl rfl hfn (hk.trans hK) hL
 exact ⟨e, w', fr, hR, hs'.of_steps (.one step_ret), hf'.trans hb, .inl ⟨hK, hl⟩⟩
theorem C3w {ops : Array Oper} {l : List Nat} {dst : Option Tmp} {op : Op} {ty : TypeId} {c k : FuncId} {args : Array Value} {cap : List Value} {pre pre2 N : List Fact} {chain : List PanicEntry} {Ms0 Ms1 Ms2 : List B2} {u' : FrameMode} (he : O7 P σ op ty c args) (hsp : O6 P c args pre chain) (hpre : ∀ F, F ∈ pre → F ∈ Γ) (hf : P.funcs[f]? = some fn)
  (hc : ∀ (args : Array Value) (w : World), (callFunc k args).run P w = .ok (.enter k args) w) (hsd : Rw P k cap.toArray pre2 Ms0 (.panicking chain) u' N Ms1) (hpre2 : ∀ F, F ∈ pre2 → F ∈ Γ) (hm : Ms.Perm (Ms0 ++ Ms2)) (hset : settle u' = .returning)
  (hres : ∀ a w', Rel n a σ → St B (N ++ Γ) (Ms1 ++ Ms2) w' → ∃ v, (results fn a.tmps).run P w' = .ok v w' ∧ R (.returned v) w') (hD : n.defs = [⟨.fn (.func k) cap.toArray, #[]⟩] := by rfl) (hK : n.kind = .normal := by rfl) : Ds P f R B n K ops l (C3 dst op ty) σ Γ Ms := by
 intro a w hr hs
 unfold Oper.wp
 rw [hr.eval, show (execOp (ev σ) (C3 dst op ty)).run P w = .ok (.enter c args) w by rw [C3, Du (d' := none)]; exact he w]
 have hs' : St B Γ ([] ++ Ms) w := hs
 refine (hsp (M5 B ([] ++ Ms) w) w (fun b hb => ⟨hb.2.1, Gi b⟩) (hs'.hand hpre)).mono ?_
 rintro e w' ⟨rfl, hx⟩
 refine ⟨.inl hK, fun fn' hfn' => ?_⟩
 rw [hf] at hfn'
 injection hfn' with hfn'
 subst hfn'
 rw [hr.defs, hD]
 have h1 : St B Γ Ms w' := by have := hs'.frame hx; simpa using this
 exact B1u D7 hc hsd hpre2 hm hset h1 (fun w' h => hres a w' hr h)
end
section
variable {P : Program} {f : FuncId} {fn : Func} {B : C2} {Γ : List Fact} {Ms : List B2}
theorem A9o {R : Ending → World → Prop} {n : Fz} {args : Array Value} {c : Code} {w : World} {d d2 : Tmp} {o1 o2 : Oper} {id : Nat} (hf : P.funcs[f]? = some fn) (hb : fn.body = some (.seq (.region id #[o1, o2] false) c)) (hn : fn.ntmps = n.sz) (hD : n.defs = []) (hk : n.kind = .deferred) (ha : args.size ≤ n.sz) (hs : St B Γ Ms w)
  (h1 : ∀ ρ w, (execOp ρ o1).run P w = .ok .recover w) (hd1 : o1.dst = some d) (hg1 : o1.guard = none) (h2 : ∀ ρ : Operand → Value, execOp ρ o2 = pure (.value (ρ (.tmp d)))) (hd2 : o2.dst = some d2) (hg2 : o2.guard = none) (hl1 : Nat.blt d n.sz = true) (hl2 : Nat.blt d2 n.sz = true)
  (h : Dx P f R B n [.code c] (Ot (Ot (fun t => args.getD t undef) d .nilIface) d2 .nilIface) Γ Ms) : CallsD P f args .returning w fun e u' w' => u' = .returning ∧ R e w' := by
 intro c0 cs hu
 let b : Frame := { (default : Frame) with fn := f, kind := .deferred }
 have henter : Frame.enter P f args .deferred = b.at { tmps := args ++ Array.replicate (fn.ntmps - args.size) undef, defers := [] } [.code (.seq (.region id #[o1, o2] false) c)] := by
  simp [Frame.enter, Frame.at, hf, hb, b]
 have hr0 := Sb (fn := fn) hn hD ha
 have hr1 := hr0.put (dst := some d) hl1 .nilIface
 have hr2 := hr1.put (dst := some d2) hl2 .nilIface
 have hS : wpOpsS P #[o1, o2] (fun e a' cs' w' => e = .normal ∧ a' = (({ tmps := args ++ Array.replicate (fn.ntmps - args.size) undef, defers := [] } : Act).put (some d) .nilIface).put (some d2) .nilIface ∧ cs' = c0 :: cs ∧ w' = w) [0, 1] { tmps := args ++ Array.replicate (fn.ntmps - args.size) undef, defers := [] } (c0 :: cs) w := by
  have e1 : (#[o1, o2])[0]? = some o1 := rfl
  have e2 : (#[o1, o2])[1]? = some o2 := rfl
  have hrec : recoverD (c0 :: cs) = none := by simp [recoverD, hu]
  have hput : ((({ tmps := args ++ Array.replicate (fn.ntmps - args.size) undef, defers := [] } : Act).put (some d) .nilIface).eval (.tmp d)) = .nilIface := by
   rw [hr1.eval]; simp [ev, Ai, Hr]
  simp only [wpOpsS, e1, e2, Region.wanted, hg1, hg2, if_true, h1, hrec, hd1, h2]
  rw [hput]
  show Oper.upon P o2 _ _ _ (.ok (.value .nilIface) w)
  simp only [Oper.upon_value, hd2, and_self]
 obtain ⟨e, a', cs', w', ⟨rfl, rfl, rfl, rfl⟩, harr⟩ := wp_opsS [0, 1] _ _ _ hS b [.code c] rfl rfl
 obtain ⟨e, w2, fr, hR, hc, hf', hl⟩ := h _ w' hr2 hs b (c0 :: cs) rfl hk.symm
 rcases hl with ⟨h9, _⟩ | ⟨_, hk2, hgo⟩
 ·rw [hk] at h9; cases h9
 ·refine ⟨e, .returning, w2, fr, ⟨rfl, hR⟩, ?_, hk2, hgo⟩
  have hc0 : ({ c0 with mode := .returning } : Frame) = c0 := by rw [← hu]
  rw [henter, hc0]
  exact hc.of_steps (.head step_seq (.head step_region harr))
theorem Z9 {args : List Value} {d d2 : Nat} {v : Value} : (Ot (Ot (fun t => args.toArray.getD t undef) d v) d2 v) = Ot (Ot (fun t => args.getD t undef) d v) d2 v := by
 have he : (fun t => args.toArray.getD t undef) = fun t => args.getD t undef := by
  funext t
  simp [Array.getD_eq_getD_getElem?, List.getD_eq_getElem?_getD]
 rw [he]
theorem B7l {args : List Value} {c : Code} {d d2 sz : Nat} {o1 o2 : Oper} {id : Nat} {v : Value} {older : List PanicEntry} {N pre : List Fact} {Ms0 Ms1 : List B2} (hf : P.funcs[f]? = some fn) (hb : fn.body = some (.seq (.region id #[o1, o2] false) c)) (hn : fn.ntmps = sz) (ha : args.length ≤ sz)
  (h1 : ∀ ρ w, (execOp ρ o1).run P w = .ok .recover w) (hd1 : o1.dst = some d) (hg1 : o1.guard = none) (h2 : ∀ ρ : Operand → Value, execOp ρ o2 = pure (.value (ρ (.tmp d)))) (hd2 : o2.dst = some d2) (hg2 : o2.guard = none) (hl1 : Nat.blt d sz = true) (hl2 : Nat.blt d2 sz = true)
  (h : ∀ B : C2, (∀ b, B.S0 b ↔ Bb Ms0 b) → Dx P f (Ends B (fun _ : Unit => .tuple #[]) (fun _ => N) (fun _ => Ms1)) B ⟨sz, [], .deferred⟩ [.code c] (Ot (Ot (fun t => args.getD t undef) d v) d2 v) pre Ms0) :
  Rw P f args.toArray pre Ms0 (.panicking ({ v, recovered := false } :: older)) (.panicking ({ v, recovered := true } :: older)) N Ms1 := by
 intro ok w hok hs
 refine (B6h (n := ⟨sz, [], .deferred⟩) hf hb hn rfl rfl (by simpa using ha) hs h1 hd1 hg1 h2 hd2 hg2 hl1 hl2 (by rw [Z9]; exact h ⟨ok, Bb Ms0, w⟩ (fun _ => Iff.rfl))).mono ?_
 rintro e u w' ⟨rfl, _, he, hx⟩
 exact ⟨he, rfl, hx⟩
theorem B3k {args : List Value} {c : Code} {d d2 sz : Nat} {o1 o2 : Oper} {id : Nat} {N pre : List Fact} {Ms0 Ms1 : List B2} (hf : P.funcs[f]? = some fn) (hb : fn.body = some (.seq (.region id #[o1, o2] false) c)) (hn : fn.ntmps = sz) (ha : args.length ≤ sz)
  (h1 : ∀ ρ w, (execOp ρ o1).run P w = .ok .recover w) (hd1 : o1.dst = some d) (hg1 : o1.guard = none) (h2 : ∀ ρ : Operand → Value, execOp ρ o2 = pure (.value (ρ (.tmp d)))) (hd2 : o2.dst = some d2) (hg2 : o2.guard = none) (hl1 : Nat.blt d sz = true) (hl2 : Nat.blt d2 sz = true)
  (h : ∀ B : C2, (∀ b, B.S0 b ↔ Bb Ms0 b) → Dx P f (Ends B (fun _ : Unit => .tuple #[]) (fun _ => N) (fun _ => Ms1)) B ⟨sz, [], .deferred⟩ [.code c] (Ot (Ot (fun t => args.getD t undef) d .nilIface) d2 .nilIface) pre Ms0) :
  Rw P f args.toArray pre Ms0 .returning .returning N Ms1 := by
 intro ok w hok hs
 refine (A9o (n := ⟨sz, [], .deferred⟩) hf hb hn rfl rfl (by simpa using ha) hs h1 hd1 hg1 h2 hd2 hg2 hl1 hl2 (by rw [Z9]; exact h ⟨ok, Bb Ms0, w⟩ (fun _ => Iff.rfl))).mono ?_
 rintro e u w' ⟨rfl, _, he, hx⟩
 exact ⟨he, rfl, hx⟩
end
section
variable {P : Program} [Tab P] {f : FuncId} {R : Ending → World → Prop} {B : C2} {n : Fz} {K : List Item} {ops : Array Oper} {i : Nat} {l : List Nat} {σ : Nat → Value} {Γ : List Fact} {Ms : List B2}
variable {dst : Option Tmp} {ty : TypeId} {v : Value} {x y : Operand}
theorem Xv {t : TypeId} (hu : (match Tab.und P t with | some (.interface _) => true | _ => false) = true) : ∃ m, Tab.und P t = some (.interface m) := by
 cases h : Tab.und P t with
 | none => rw [h] at hu; cases hu
 | some d => cases d <;> rw [h] at hu <;> first | exact ⟨_, rfl⟩ | cases hu
theorem B7r {t T : TypeId} {v : Value} (hu : (match Tab.und P t with | some (.interface _) => true | _ => false) = true) (w : World) : (Op.equal t (.iface T v) .nilIface).run P w = .ok false w := by
 obtain ⟨m, hu'⟩ := Xv hu
 have h1 : (Op.equalIn (9999 + 1) t (.iface T v) .nilIface).run P w = .ok false w := by
  unfold Op.equalIn
  rw [Ac (Cs hu' w)]
  rfl
 exact h1
theorem B7q {t : TypeId} (hu : (match Tab.und P t with | some (.interface _) => true | _ => false) = true) (w : World) : (Op.equal t .nilIface .nilIface).run P w = .ok true w := by
 obtain ⟨m, hu'⟩ := Xv hu
 have h1 : (Op.equalIn (9999 + 1) t .nilIface .nilIface).run P w = .ok true w := by
  unfold Op.equalIn
  rw [Ac (Cs hu' w)]
  rfl
 exact h1
theorem B4k {t t' T : TypeId} (k_ : D9 P f R B n K ops l (Ai σ dst (.bool true)) Γ Ms) (hx : ev σ x = .iface T v := by exact A4) (hu : (match Tab.und P t with | some (.interface _) => true | _ => false) = true := by rfl) (hd : A8 n dst = true := by rfl) : Ds P f R B n K ops l (C3 dst (.binOp .neq t x (.const .nilIface) t') ty) σ Γ Ms := Ay (Cr hx (show ev σ (.const .nilIface) = Value.nilIface from rfl) (fun w => by simp [eqGuard_at_iface]) (fun w => by
 simp only [binOp]
 rw [Ac (B7r hu w)]; rfl)) hd k_
theorem C4a {t t' : TypeId} (k_ : D9 P f R B n K ops l (Ai σ dst (.bool false)) Γ Ms) (hx : ev σ x = .nilIface := by exact A4) (hu : (match Tab.und P t with | some (.interface _) => true | _ => false) = true := by rfl) (hd : A8 n dst = true := by rfl) : Ds P f R B n K ops l (C3 dst (.binOp .neq t x (.const .nilIface) t') ty) σ Γ Ms := Ay (Cr hx (show ev σ (.const .nilIface) = Value.nilIface from rfl) (fun w => by cases x <;> rfl) (fun w => by
 simp only [binOp]
 rw [Ac (B7q hu w)]; rfl)) hd k_
theorem B4j {t T : TypeId} {d : TypeDesc} (k_ : D9 P f R B n K ops l (Ai σ dst (.tuple #[v, .bool true])) Γ Ms) (hx : ev σ x = .iface T v := by exact A4) (hu : Tab.und P T = some d := by rfl) (hdd : (match d with | .interface _ => true | _ => false) = false := by rfl) (hd : A8 n dst = true := by rfl) : Ds P f R B n K ops l (C3 dst (.typeAssert x t T true) ty) σ Γ Ms := Ay (fun w => by
 cases d <;> first | (simp at hdd; done) | simp [C3, execOp, hx, Instr.typeAssert, Cs hu]) hd k_
end
section
variable {P : Program} [Tab P] {f : FuncId} {fn : Func} {B : C2} {n : Fz} {K : List Item} {σ : Nat → Value} {Γ : List Fact} {Ms : List B2} {X : Type} {val : X → Value} {N : X → List Fact} {Ms1 : X → List B2}
theorem Pp {r t T r2 t2 T2 b b2 s bt : Nat} {zv v2 : Value} {d : TypeDesc} {lay : List (Nat × Nat)} {cs : List Value} {a : Act} {w : World} (hr : fn.results = #[.cell r t, .cell r2 t2]) (ha : Rel n a σ) (hs : St B Γ Ms w) (hb : σ r = .pointer (some ⟨b, 0, none⟩)) (hb2 : σ r2 = .pointer (some ⟨b2, 0, none⟩)) (hm : Aa b cs T ∈ Ms) (hm2 : Aa b2 [v2] T2 ∈ Ms)
  (hl : Tab.lay P t = some lay) (hi : Tab.inf P t = some (s, bt, zv)) (hcs : cs.length = s) (hu : Tab.und P t2 = some d) (hd : (match d with | .struct _ | .array _ _ => true | _ => false) = false) : (results fn a.tmps).run P w = .ok (.tuple #[.agg cs.toArray, v2]) w := by
 have h1 := ha.get r
 rw [hb] at h1
 have h3 := ha.get r2
 rw [hb2] at h3
 have h2 := Dj (P := P) (bk := b) (off := 0) (w := w) hl hi hcs (fun j v hj => by rw [Nat.zero_add]; exact K7 hs hm j v hj)
 have h4 : (loadVar t2 ⟨b2, 0, none⟩).run P w = .ok v2 w := Dz (P := P) (off := 0) (w := w) hu hd (K7 hs hm2 0 v2 rfl)
 have h1' : (a.tmps[r]?.getD undef) = .pointer (some ⟨b, 0, none⟩) := by simpa [Array.getD_eq_getD_getElem?] using h1
 have h3' : (a.tmps[r2]?.getD undef) = .pointer (some ⟨b2, 0, none⟩) := by simpa [Array.getD_eq_getD_getElem?] using h3
 simp [results, hr, asAddr, h1', h2, h3', h4]
theorem C6b {r t T r2 t2 T2 b b2 s bt : Nat} {zv v2 : Value} {d : TypeDesc} {lay : List (Nat × Nat)} {cs : List Value} (hf : P.funcs[f]? = some fn) (hr : fn.results = #[.cell r t, .cell r2 t2]) (x : X) (hb : σ r = .pointer (some ⟨b, 0, none⟩)) (hb2 : σ r2 = .pointer (some ⟨b2, 0, none⟩)) (hm : Aa b cs T ∈ Ms) (hm2 : Aa b2 [v2] T2 ∈ Ms)
  (hl : Tab.lay P t = some lay) (hi : Tab.inf P t = some (s, bt, zv)) (hcs : cs.length = s) (hu : Tab.und P t2 = some d) (hd : (match d with | .struct _ | .array _ _ => true | _ => false) = false) (hv : Value.tuple #[.agg cs.toArray, v2] = val x) (hs : ∀ w, St B Γ Ms w → St B (N x) (Ms1 x) w) (hD : n.defs = [] := by rfl) (hK : okK n.kind := by first | exact .inl rfl | exact .inr rfl) : Dx P f (Ends B val N Ms1) B n (.code .ret :: K) σ Γ Ms :=
 go_ret hf (fun a w ha h => (Pp hr ha h hb hb2 hm hm2 hl hi hcs hu hd).trans (by rw [hv])) (fun w h => ⟨x, rfl, hs w h⟩) hD hK
end
section
variable {P : Program} [Tab P] {f : FuncId} {fn : Func} {B : C2} {n : Fz} {K : List Item} {σ : Nat → Value} {Γ : List Fact} {Ms : List B2} {X : Type} {val : X → Value} {N : X → List Fact} {Ms1 : X → List B2}
theorem C7u {r t T r2 t2 T2 b b2 s bt : Nat} {zv v2 : Value} {d : TypeDesc} {lay : List (Nat × Nat)} {cs : List Value} {k : FuncId} {cap : List Value} (hf : P.funcs[f]? = some fn) (hr : fn.results = #[.cell r t, .cell r2 t2]) (hc : ∀ (args : Array Value) (w : World), (callFunc k args).run P w = .ok (.enter k args) w) (hsp : Rw P k cap.toArray [] [] .returning .returning [] [])
  (x : X) (hb : σ r = .pointer (some ⟨b, 0, none⟩)) (hb2 : σ r2 = .pointer (some ⟨b2, 0, none⟩)) (hm : Aa b cs T ∈ Ms) (hm2 : Aa b2 [v2] T2 ∈ Ms)
  (hl : Tab.lay P t = some lay) (hi : Tab.inf P t = some (s, bt, zv)) (hcs : cs.length = s) (hu : Tab.und P t2 = some d) (hd : (match d with | .struct _ | .array _ _ => true | _ => false) = false) (hv : Value.tuple #[.agg cs.toArray, v2] = val x) (hs : ∀ w, St B Γ Ms w → St B (N x) (Ms1 x) w) (hD : n.defs = [⟨.fn (.func k) cap.toArray, #[]⟩] := by rfl) (hK : n.kind = .normal := by rfl) : Dx P f (Ends B val N Ms1) B n (.code .ret :: K) σ Γ Ms :=
 C4s (Ms2 := Ms) hf hc hsp (fun F hF => by cases hF) (List.Perm.refl _) (fun a w' ha h => ⟨_, Pp hr ha h hb hb2 hm hm2 hl hi hcs hu hd, ⟨x, by rw [hv], hs w' h⟩⟩) hD hK
theorem C8j {r t T r2 t2 T2 b b2 s bt : Nat} {zv v2 : Value} {d : TypeDesc} {lay : List (Nat × Nat)} {cs cs0 : List Value} {v0 : Value} {k c : FuncId} {cap : List Value} {ops : Array Oper} {l : List Nat} {dst : Option Tmp} {op : Op} {ty : TypeId} {args : Array Value} {pre : List Fact} {chain : List PanicEntry} {u' : FrameMode} {Ms2 : List B2} (he : O7 P σ op ty c args) (hspp : O6 P c args pre chain) (hpre : ∀ F, F ∈ pre → F ∈ Γ)
  (hf : P.funcs[f]? = some fn) (hr : fn.results = #[.cell r t, .cell r2 t2]) (hc : ∀ (args : Array Value) (w : World), (callFunc k args).run P w = .ok (.enter k args) w) (hsp : Rw P k cap.toArray [] [Aa b cs0 T, Aa b2 [v0] T2] (.panicking chain) u' [] [Aa b cs T, Aa b2 [v2] T2]) (hset : settle u' = .returning) (hm : Ms.Perm (Aa b cs0 T :: Aa b2 [v0] T2 :: Ms2))
  (x : X) (hb : σ r = .pointer (some ⟨b, 0, none⟩)) (hb2 : σ r2 = .pointer (some ⟨b2, 0, none⟩))
  (hl : Tab.lay P t = some lay) (hi : Tab.inf P t = some (s, bt, zv)) (hcs : cs.length = s) (hu : Tab.und P t2 = some d) (hd : (match d with | .struct _ | .array _ _ => true | _ => false) = false) (hv : Value.tuple #[.agg cs.toArray, v2] = val x) (hs : ∀ w, St B Γ [] w → St B (N x) (Ms1 x) w) (hD : n.defs = [⟨.fn (.func k) cap.toArray, #[]⟩] := by rfl) (hK : n.kind = .normal := by rfl) : Ds P f (Ends B val N Ms1) B n K ops l (C3 dst op ty) σ Γ Ms :=
 C3w (Ms0 := [Aa b cs0 T, Aa b2 [v0] T2]) (Ms2 := Ms2) he hspp hpre hf hc hsp (fun F hF => by cases hF) hm hset (fun a w' ha h => ⟨_, Pp hr ha h hb hb2 (List.mem_cons_self) (List.mem_cons_of_mem _ List.mem_cons_self) hl hi hcs hu hd, ⟨x, by rw [hv], hs w' (St.Kq (A := Aa b cs T :: Aa b2 [v2] T2 :: Ms2) (Ms := []) (by rw [List.append_nil]; exact h))⟩⟩) hD hK
end
section
variable {P : Program} [Tab P] {f : FuncId} {R : Ending → World → Prop} {B : C2} {n : Fz} {K : List Item} {ops : Array Oper} {i : Nat} {l : List Nat} {σ : Nat → Value} {Γ : List Fact} {Ms : List B2}
variable {dst : Option Tmp} {ty : TypeId} {v : Value} {x y : Operand}
theorem B3x {s d : TypeId} {a : Nat} (hs : Tab.und P s = some (.int .u32)) (hd : Tab.und P d = some (.int .u64)) (hx : ev σ x = .int .u32 (a : Int)) (ha : a < 4294967296) : Bx P σ (.convert s d x) ty (.int .u64 (a : Int)) := by
 have e : IntKind.u64.wrap (a : Int) = (a : Int) := by
  have : IntKind.u64.wrap (a : Int) = (a : Int) % 18446744073709551616 := by simp [IntKind.wrap, IntKind.bits, IntKind.signed]
  rw [this]; omega
 have := Hd (P := P) (ty := ty) hs hd hx
 rwa [e] at this
theorem B9m {s d : TypeId} {a : Nat} (k_ : D9 P f R B n K ops l (Ai σ dst (.int .u64 (a : Int))) Γ Ms) (hx : ev σ x = .int .u32 (a : Int) := by exact A4) (ha : a < 4294967296 := by first | assumption | omega) (hs : Tab.und P s = some (.int .u32) := by rfl) (hd' : Tab.und P d = some (.int .u64) := by rfl) (hd : A8 n dst = true := by rfl) : Ds P f R B n K ops l (C3 dst (.convert s d x) ty) σ Γ Ms := Ay (B3x hs hd' hx ha) hd k_
end
end Go.Hy
namespace Go.Hy
def Dq (c d : Cl) : Cl := ⟨c.pos ||| d.pos, c.neg ||| d.neg⟩
theorem A9t (c d : Cl) : decide (Dq c d = c) = below c d := by
 obtain ⟨p, n⟩ := c
 obtain ⟨p', n'⟩ := d
 simp [Dq, below]
def Dm (l : List Cl) (i : Nat) : Nat := (l.take i).foldl (fun a c => a ||| (c.pos ||| c.neg)) 0
theorem Tf {l : List Cl} {i : Nat} (h : i < l.length) : Dm l (i + 1) = Dm l i ||| ((l.getD i B8).pos ||| (l.getD i B8).neg) := by
 unfold Dm; rw [Ah (d := B8) h, List.foldl_append]; rfl
theorem Yf {l : List Cl} (h : ∀ c, c ∈ l → u32 c) : ∀ i, Dm l i < 4294967296 := by
 intro i
 have : ∀ (m : List Cl) (a : Nat), (∀ c, c ∈ m → u32 c) → a < 4294967296 → m.foldl (fun a c => a ||| (c.pos ||| c.neg)) a < 4294967296 := by
  intro m
  induction m with
  | nil => intro a _ h; exact h
  | cons c m ih =>
   intro a hm ha
   have hc := hm c List.mem_cons_self
   exact ih _ (fun d hd => hm d (List.mem_cons_of_mem _ hd)) (Nat.or_lt_two_pow (n := 32) ha (Nat.or_lt_two_pow (n := 32) hc.1 hc.2))
 exact this _ 0 (fun c hc => h c (List.mem_of_mem_take hc)) A2
theorem Wa (l : List Cl) : Bj l = Dm l l.length &&& 16777215 := by
 unfold Bj Dm; rw [List.take_length]
theorem A6j {s : Nat} (hs : s < 4294967296) : decide ((Bf s 16777215 : Int) = 0) = decide (s < 16777216) := by
 apply decide_eq_decide.mpr
 have h : Bf s 16777215 = s / 16777216 * 16777216 := by
  unfold Bf
  have e : (BitVec.ofNat 32 s &&& ~~~ BitVec.ofNat 32 16777215).toNat = s / 16777216 * 16777216 := by
   apply Nat.eq_of_testBit_eq
   intro i
   rw [← BitVec.getLsbD, BitVec.getLsbD_and, BitVec.getLsbD_not, BitVec.getLsbD_ofNat, BitVec.getLsbD_ofNat]
   rw [show s / 16777216 * 16777216 = (s / 2 ^ 24) * 2 ^ 24 from rfl, Nat.testBit_mul_two_pow, Nat.testBit_div_two_pow]
   rw [show (16777215 : Nat) = 2 ^ 24 - 1 from rfl, Nat.testBit_two_pow_sub_one]
   by_cases h1 : i < 32
   ·by_cases h2 : 24 ≤ i
    ·simp [h1, h2, Nat.sub_add_cancel h2]
    ·simp [h1, h2]; omega
   ·have : s.testBit i = false := Nat.testBit_lt_two_pow (Nat.lt_of_lt_of_le hs (Nat.pow_le_pow_right (n := 2) A2 (show 32 ≤ i by omega)))
    have h2 : 24 ≤ i := by omega
    simp [h1, h2, Nat.sub_add_cancel h2, this]
  exact e
 omega
end Go.Hy
namespace Go.Hy
def A8s (g : Cl → Bool) (l : List Cl) : Int := if l.any g then (l.findIdx g : Int) else -1
theorem Ca {α : Type} {d : α} {l : List α} {i : Nat} (h : i < l.length) : l.getD i d = l[i] := by
 rw [List.getD_eq_getElem?_getD, List.getElem?_eq_getElem h]; rfl
theorem C4q {g : Cl → Bool} {l : List Cl} {i : Nat} (h : i < l.length) (hg : g (l.getD i B8) = true) (hb : ∀ j, j < i → g (l.getD j B8) = false) : A8s g l = i := by
 have hany : l.any g = true := List.any_eq_true.mpr ⟨_, A9 h, hg⟩
 have hidx : l.findIdx g = i := by
  rw [List.findIdx_eq h]
  refine ⟨by rw [← Ca (d := B8) h]; exact hg, fun j hj => ?_⟩
  have := hb j hj
  rwa [Ca (d := B8) A2] at this
 unfold A8s
 rw [hany, hidx]; rfl
theorem B5h {g : Cl → Bool} {l : List Cl} (hb : ∀ j, j < l.length → g (l.getD j B8) = false) : A8s g l = -1 := by
 have hany : l.any g = false := by
  rw [List.any_eq_false]
  intro x hx
  obtain ⟨j, hj, e⟩ := List.mem_iff_getElem.mp hx
  have := hb j hj
  rw [Ca (d := B8) hj, e] at this
  simp [this]
 unfold A8s; rw [hany]; rfl
theorem A5j (g : Cl → Bool) (l : List Cl) : decide (0 ≤ A8s g l) = l.any g := by
 unfold A8s
 cases l.any g
 ·rfl
 ·simp
def once (l : List Cl) : List Cl := l.foldl (fun o c => if c ∈ o then o else o ++ [c]) []
theorem B4g (l : List Cl) (c : Cl) : once (l ++ [c]) = if c ∈ once l then once l else once l ++ [c] := by
 unfold once; rw [List.foldl_append]; rfl
theorem V9 (c : Cl) : ∀ (l o : List Cl), (c ∈ l.foldl (fun o c => if c ∈ o then o else o ++ [c]) o ↔ c ∈ o ∨ c ∈ l) ∧ (l.foldl (fun o c => if c ∈ o then o else o ++ [c]) o).length ≤ o.length + l.length
 | [], o => by simp
 | d :: l, o => by
  have ih := V9 c l (if d ∈ o then o else o ++ [d])
  rw [List.foldl_cons]
  constructor
  ·rw [ih.1, List.mem_cons]
   split
   ·rename_i h
    constructor
    ·rintro (h2 | h2)
     ·exact .inl h2
     ·exact .inr (.inr h2)
    ·rintro (h2 | h2 | h2)
     ·exact .inl h2
     ·exact .inl (h2 ▸ h)
     ·exact .inr h2
   ·rw [List.mem_append, List.mem_singleton, or_assoc]
  ·have h3 := ih.2
   have h4 : (if d ∈ o then o else o ++ [d]).length ≤ o.length + 1 := by split <;> simp
   simp only [List.length_cons]; omega
theorem Lg (c : Cl) (l : List Cl) : c ∈ once l ↔ c ∈ l := by
 have := (V9 c l []).1
 simpa [once] using this
theorem R5 (l : List Cl) : (once l).length ≤ l.length := by
 have := (V9 B8 l []).2
 simpa [once] using this
def Bw (l : List Cl) (c : Cl) : Bool := l.any fun d => !decide (c = d) && below c d
def kept (l : List Cl) : List Cl := (once l).filter fun c => !Bw (once l) c
def A2j (l l' : List Cl) : Prop := l'.Perm l ∧ l'.Pairwise fun a b => C0 b a = false
def Hb (l : List Cl) (r : Int × List Cl) : Prop :=
 if l.all B3 = false then r = (2, []) else if 64 < (kept l).length then r = (3, []) else r.1 = 0 ∧ A2j (kept l) r.2
end Go.Hy
namespace Go.Hy
theorem D2a {l : List Cl} {g : Cl → Bool} (h : ∀ j, j < l.length → g (l.getD j B8) = true) : l.all g = true := by
 rw [List.all_eq_true]
 intro x hx
 obtain ⟨j, hj, e⟩ := List.mem_iff_getElem.mp hx
 have := h j hj
 rwa [Ca (d := B8) hj, e] at this
theorem C5p {l : List Cl} {g : Cl → Bool} {i : Nat} (hi : i < l.length) (h : g (l.getD i B8) = false) : l.all g = false := by
 rw [List.all_eq_false]
 exact ⟨l.getD i B8, A9 hi, by rw [h]; decide⟩
def F3 (l : List Cl) (i : Nat) : List Cl := ((once l).take i).filter fun c => !Bw (once l) c
theorem Pb {l : List Cl} {i : Nat} (h : i < (once l).length) : F3 l (i + 1) = if Bw (once l) ((once l).getD i B8) then F3 l i else F3 l i ++ [(once l).getD i B8] := by
 unfold F3
 rw [Ah (d := B8) h, List.filter_append]
 cases hn : Bw (once l) ((once l).getD i B8)
 ·rw [List.filter_cons_of_pos (by rw [hn]; rfl)]; simp
 ·rw [List.filter_cons_of_neg (by rw [hn]; decide)]; simp
theorem A1i (l : List Cl) : F3 l (once l).length = kept l := by simp [F3, kept]
theorem A1h (l : List Cl) (i : Nat) : (F3 l i).length ≤ l.length := by
 unfold F3
 have h1 := List.length_filter_le (fun c => !Bw (once l) c) ((once l).take i)
 have h2 := R5 l
 simp only [List.length_take] at h1
 omega
theorem Nn {l : List Cl} {i : Nat} (h : i < l.length) : once (l.take (i + 1)) = if l.getD i B8 ∈ once (l.take i) then once (l.take i) else once (l.take i) ++ [l.getD i B8] := by
 rw [Ah (d := B8) h, B4g]
theorem Xb (l : List Cl) (i : Nat) : (once (l.take i)).length ≤ l.length := by
 have := R5 (l.take i); simp only [List.length_take] at this; omega
theorem C0s {l : List Cl} {c : Cl} (h : c ∈ kept l) : c ∈ l := by
 unfold kept at h
 exact (Lg c l).mp (List.mem_filter.mp h).1
end Go.Hy
namespace Go.Hy
theorem Lo (a b : Cl) : C0 a b = true ∨ a = b ∨ C0 b a = true := by
 obtain ⟨p, n⟩ := a
 obtain ⟨p', n'⟩ := b
 simp only [C0, Bool.or_eq_true, Bool.and_eq_true, decide_eq_true_eq, Cl.mk.injEq]
 omega
theorem Mb {a b : Cl} (h : C0 a b = true) : C0 b a = false := by
 simp only [C0, Bool.or_eq_true, Bool.and_eq_true, decide_eq_true_eq, Bool.or_eq_false_iff, Bool.and_eq_false_iff, decide_eq_false_iff_not] at *
 omega
theorem Tj {a b c : Cl} (h : C0 a b = true) (h2 : C0 b c = true) : C0 a c = true := by
 simp only [C0, Bool.or_eq_true, Bool.and_eq_true, decide_eq_true_eq] at *
 omega
theorem Oj (a : Cl) : C0 a a = false := by simp [C0]
theorem D6i {a b : Cl} (h : C0 a b = false) (h2 : C0 b a = false) : a = b := by
 rcases Lo a b with h3 | h3 | h3
 ·rw [h] at h3; cases h3
 ·exact h3
 ·rw [h2] at h3; cases h3
theorem Y3 : ∀ {l m : List Cl}, l.Perm m → (l.Pairwise fun a b => C0 b a = false) → (m.Pairwise fun a b => C0 b a = false) → l = m
 | [], m, hp, _, _ => by have := hp.length_eq; cases m with | nil => rfl | cons _ _ => simp at this
 | a :: l, [], hp, _, _ => by have := hp.length_eq; simp at this
 | a :: l, b :: m, hp, h1, h2 => by
  rw [List.pairwise_cons] at h1 h2
  have ha : a ∈ b :: m := hp.mem_iff.mp List.mem_cons_self
  have hb : b ∈ a :: l := hp.mem_iff.mpr List.mem_cons_self
  have e : a = b := by
   rcases List.mem_cons.mp ha with h | h
   ·exact h
   ·rcases List.mem_cons.mp hb with h3 | h3
    ·exact h3.symm
    ·exact D6i (h2.1 a h |> fun x => x) (h1.1 b h3) |> fun x => by exact x
  subst e
  rw [Y3 (List.Perm.cons_inv hp) h1.2 h2.2]
theorem Nd : ∀ {l : List Cl}, M0 l = true ↔ l.Pairwise fun a b => C0 a b = true
 | [] => by simp [M0]
 | [a] => by simp [M0]
 | a :: b :: l => by
  rw [M0, Bool.and_eq_true, Nd (l := b :: l), List.pairwise_cons (a := a)]
  constructor
  ·rintro ⟨h1, h2⟩
   refine ⟨fun c hc => ?_, h2⟩
   rcases List.mem_cons.mp hc with h | h
   ·exact h ▸ h1
   ·exact Tj h1 ((List.pairwise_cons.mp h2).1 c h)
  ·rintro ⟨h1, h2⟩
   exact ⟨h1 b List.mem_cons_self, h2⟩
theorem Xc {l : List Cl} (h : l.Pairwise fun a b => C0 a b = true) : once l = l := by
 have : ∀ (m o : List Cl), ((o ++ m).Pairwise fun a b => C0 a b = true) → m.foldl (fun o c => if c ∈ o then o else o ++ [c]) o = o ++ m := by
  intro m
  induction m with
  | nil => intro o _; simp
  | cons c m ih =>
   intro o h
   rw [List.foldl_cons]
   have hn : c ∉ o := by
    intro hc
    have := (List.pairwise_append.mp h).2.2 c hc c List.mem_cons_self
    rw [Oj] at this; cases this
   rw [if_neg hn, ih (o ++ [c]) (by simpa using h)]
   simp
 have := this l [] (by simpa using h)
 simpa [once] using this
theorem Za {l : List Cl} : apart l = true ↔ ∀ a, a ∈ l → ∀ b, b ∈ l → a = b ∨ below a b = false := by
 unfold apart
 simp only [List.all_eq_true, Bool.or_eq_true, decide_eq_true_eq, Bool.not_eq_true']
theorem R9 {l : List Cl} {c : Cl} : Bw l c = false ↔ ∀ d, d ∈ l → c = d ∨ below c d = false := by
 unfold Bw
 rw [List.any_eq_false]
 constructor
 ·intro h d hd
  have := h d hd
  simp only [Bool.and_eq_true, Bool.not_eq_true', decide_eq_false_iff_not, not_and, Bool.not_eq_true] at this
  by_cases e : c = d
  ·exact .inl e
  ·exact .inr (this e)
 ·intro h d hd
  simp only [Bool.and_eq_true, Bool.not_eq_true', decide_eq_false_iff_not, not_and, Bool.not_eq_true]
  intro e
  exact (h d hd).resolve_left e
theorem Nw {l : List Cl} {r : Int × List Cl} (h : Hb l r) : (decide (r.1 = 0) && decide (r.2 = l)) = Ab l := by
 rw [Bool.eq_iff_iff, Bool.and_eq_true, decide_eq_true_eq, decide_eq_true_eq]
 unfold Hb at h
 constructor
 ·rintro ⟨h1, h2⟩
  split at h
  ·rw [h] at h1; cases h1
  ·rename_i hr
   split at h
   ·rw [h] at h1; cases h1
   ·rename_i h64
    obtain ⟨_, hp, hs⟩ := h
    rw [h2] at hp hs
    have hr' : l.all B3 = true := by simpa using hr
    have hlen := hp.length_eq
    have hk1 : (kept l).length ≤ (once l).length := by unfold kept; exact List.length_filter_le _ _
    have ho := R5 l
    have hkeep : kept l = once l := by
     have : (kept l).Sublist (once l) := by unfold kept; exact List.filter_sublist
     exact this.eq_of_length A2
    have hnd : ∀ c, c ∈ l → Bw (once l) c = false := by
     intro c hc
     have : c ∈ kept l := hp.mem_iff.mp hc
     unfold kept at this
     have := (List.mem_filter.mp this).2
     simpa using this
    have hap : apart l = true := Za.mpr fun a ha b hb => R9.mp (hnd a ha) b ((Lg b l).mpr hb)
    have hnodup : (once l).Nodup := by
     have : ∀ (m o : List Cl), o.Nodup → (m.foldl (fun o c => if c ∈ o then o else o ++ [c]) o).Nodup := by
      intro m
      induction m with
      | nil => intro o h; exact h
      | cons c m ih =>
       intro o h
       rw [List.foldl_cons]
       apply ih
       split
       ·exact h
       ·rename_i hn
        rw [List.nodup_append]
        refine ⟨h, by simp, ?_⟩
        intro a ha b hb e
        rw [List.mem_singleton] at hb
        exact hn (hb ▸ e ▸ ha)
     exact this l [] List.nodup_nil
    have hln : l.Nodup := (hp.nodup_iff).mpr (hkeep ▸ hnodup)
    have hst : M0 l = true := by
     rw [Nd]
     have hboth : l.Pairwise fun a b => C0 b a = false ∧ a ≠ b := hs.and hln
     exact hboth.imp fun {a b} ⟨h3, h4⟩ => by
      rcases Lo a b with h5 | h5 | h5
      ·exact h5
      ·exact absurd h5 h4
      ·rw [h3] at h5; cases h5
    unfold Ab
    rw [hr', hst, hap]
    simp; omega
 ·intro hf
  unfold Ab at hf
  simp only [Bool.and_eq_true, decide_eq_true_eq] at hf
  obtain ⟨⟨⟨hr, hs⟩, ha⟩, h64⟩ := hf
  have hs' := Nd.mp hs
  have ho := Xc hs'
  have hk : kept l = l := by
   unfold kept
   rw [ho, List.filter_eq_self]
   intro c hc
   have : Bw l c = false := R9.mpr fun d hd => Za.mp ha c hc d hd
   simp [this]
  rw [hr, if_neg Jk, hk, if_neg A2] at h
  exact ⟨h.1, Y3 h.2.1 h.2.2 (hs'.imp fun h => Mb h)⟩
def H7 (s : Nat) (i : Int) : Bool := decide (0 ≤ i) && decide (i < 24) && s.testBit i.toNat
theorem Mc (s : Nat) (i : Int) : H7 s i = (decide (0 ≤ i) && decide (i < 24) && decide (s / 2 ^ i.toNat % 2 = 1)) := by
 unfold H7; rw [Nat.testBit_eq_decide_div_mod_eq]
def C1 (s n : Nat) : List Int := ((List.range n).filter s.testBit).map fun (i : Nat) => (i : Int)
abbrev Ag (s : Nat) : List Int := C1 s 24
theorem J1 (s n : Nat) : C1 s (n + 1) = if s.testBit n then C1 s n ++ [(n : Int)] else C1 s n := by
 unfold C1
 rw [List.range_succ, List.filter_append]
 cases h : s.testBit n <;> simp [h]
theorem Ln {s n : Nat} {x : Int} (h : x ∈ C1 s n) : 0 ≤ x ∧ x < n := by
 unfold C1 at h
 simp only [List.mem_map, List.mem_filter, List.mem_range] at h
 obtain ⟨i, ⟨h1, _⟩, rfl⟩ := h
 omega
theorem Gg {s n : Nat} {x : Int} : x ∈ C1 s n ↔ 0 ≤ x ∧ x < n ∧ s.testBit x.toNat = true := by
 unfold C1
 simp only [List.mem_map, List.mem_filter, List.mem_range]
 constructor
 ·rintro ⟨i, ⟨h1, h2⟩, rfl⟩; exact ⟨by omega, by omega, by simpa using h2⟩
 ·rintro ⟨h1, h2, h3⟩; exact ⟨x.toNat, ⟨by omega, h3⟩, by omega⟩
theorem Gh (s n : Nat) : (C1 s n).length ≤ n := by
 unfold C1
 rw [List.length_map]
 have := List.length_filter_le s.testBit (List.range n)
 simpa using this
def Ky (l : List Int) : Nat := (l.map fun x => 2 ^ x.toNat).sum
def Qx (l : List Int) (i : Nat) : Nat := Ky (l.take i)
theorem A7b (l : List Int) : Qx l 0 = 0 := by simp [Qx, Ky]
theorem B3m (l : List Int) : Qx l l.length = Ky l := by simp [Qx]
theorem A7c {l : List Int} {i : Nat} (h : i < l.length) : Qx l (i + 1) = Qx l i + 2 ^ (l.getD i 0).toNat := by
 unfold Qx Ky; rw [Ah (d := 0) h, List.map_append, List.sum_append]; simp
theorem C2y {l : List Int} (h : ∀ x, x ∈ l → 0 ≤ x ∧ x < 24) : Ky l ≤ l.length * 8388608 := by
 unfold Ky
 induction l with
 | nil => simp
 | cons a l ih =>
  have h1 := ih (fun x hx => h x (List.mem_cons_of_mem _ hx))
  have h2 := h a List.mem_cons_self
  have h3 : 2 ^ a.toNat ≤ 8388608 := Nat.pow_le_pow_right (n := 2) (j := 23) A2 A2
  simp only [List.map_cons, List.sum_cons, List.length_cons]
  generalize 2 ^ a.toNat = q at *
  omega
theorem B7o {l : List Int} (h : ∀ x, x ∈ l → 0 ≤ x ∧ x < 24) (i : Nat) : Qx l i ≤ l.length * 8388608 := by
 have h1 := C2y (l := l.take i) (fun x hx => h x (List.mem_of_mem_take hx))
 have h2 : (l.take i).length ≤ l.length := by simp; omega
 exact Nat.le_trans h1 (Nat.mul_le_mul_right 8388608 h2)
theorem T9 (s : Nat) : ∀ n, Ky (C1 s n) = s % 2 ^ n
 | 0 => by
  have h : C1 s 0 = [] := by unfold C1; rw [List.range_zero, List.filter_nil, List.map_nil]
  rw [h, Nat.pow_zero, Nat.mod_one, Ky, List.map_nil, List.sum_nil]
 | n + 1 => by
  rw [J1, Nat.mod_pow_succ]
  have ih := T9 s n
  have hb := Nat.testBit_eq_decide_div_mod_eq (x := s) (i := n)
  by_cases h : s / 2 ^ n % 2 = 1
  ·rw [hb, decide_eq_true h, if_pos rfl, h]
   have e : Ky (C1 s n ++ [(n : Int)]) = Ky (C1 s n) + 2 ^ n := by simp [Ky]
   rw [e, ih, Nat.mul_one]
  ·have h0 : s / 2 ^ n % 2 = 0 := by omega
   rw [hb, decide_eq_false h, if_neg D7, h0, ih]; simp
theorem Zc (s : Nat) : s &&& 16777215 = s % 2 ^ 24 := by
 rw [show (16777215 : Nat) = 2 ^ 24 - 1 from rfl, Nat.and_two_pow_sub_one_eq_mod]
theorem A7d (s : Nat) : Ky (Ag s) = s &&& 16777215 := by rw [T9, Zc]
theorem Gd {p : Nat → Prop} {i : Nat} (h : ∀ j, j < i → p j) (hi : p i) : ∀ j, j < i + 1 → p j := fun j hj => by
 rcases Nat.lt_succ_iff_lt_or_eq.mp hj with h2 | h2
 ·exact h j h2
 ·exact h2 ▸ hi
theorem Rv {α : Type} {d : α} {l : List α} {g : α → Bool} (h : ∀ j, j < l.length → g (l.getD j d) = false) : l.any g = false := by
 rw [List.any_eq_false]
 intro x hx
 obtain ⟨j, hj, e⟩ := List.mem_iff_getElem.mp hx
 have := h j hj
 rw [Ca (d := d) hj, e] at this
 simp [this]
theorem Tt {α : Type} {d : α} {l : List α} {g : α → Bool} {i : Nat} (hi : i < l.length) (h : g (l.getD i d) = true) : l.any g = true := List.any_eq_true.mpr ⟨_, A9 hi, h⟩
theorem J4 {α : Type} {d : α} {l : List α} {g : α → Bool} (h : ∀ j, j < l.length → g (l.getD j d) = true) : l.all g = true := by
 rw [List.all_eq_true]
 intro x hx
 obtain ⟨j, hj, e⟩ := List.mem_iff_getElem.mp hx
 have := h j hj
 rwa [Ca (d := d) hj, e] at this
theorem I2 {α : Type} {d : α} {l : List α} {g : α → Bool} {i : Nat} (hi : i < l.length) (h : g (l.getD i d) = false) : l.all g = false := by
 rw [List.all_eq_false]
 exact ⟨l.getD i d, A9 hi, by rw [h]; decide⟩
def Pq (c : Cl) : Bool := (List.range 24).any fun i => H7 c.pos (i : Int) && H7 c.neg (i : Int)
theorem Sc {c : Cl} (h : B3 c = true) : Pq c = Je c := by
 simp only [B3, Bool.and_eq_true, decide_eq_true_eq] at h
 rw [Bool.eq_iff_iff]
 unfold Pq Je
 rw [List.any_eq_true, decide_eq_true_eq]
 constructor
 ·rintro ⟨i, hi, hb⟩ h0
  simp only [H7, Bool.and_eq_true, decide_eq_true_eq, Int.toNat_natCast] at hb
  have := congrArg (fun n => Nat.testBit n i) h0
  simp only [Nat.testBit_and, Nat.zero_testBit] at this
  rw [hb.1.2, hb.2.2] at this
  cases this
 ·intro h0
  obtain ⟨i, hi⟩ : ∃ i, (c.pos &&& c.neg).testBit i = true := by
   apply Classical.byContradiction
   intro hn
   exact h0 (Nat.eq_of_testBit_eq fun i => by
    rw [Nat.zero_testBit]
    cases hb : (c.pos &&& c.neg).testBit i
    ·rfl
    ·exact absurd ⟨i, hb⟩ hn)
  rw [Nat.testBit_and, Bool.and_eq_true] at hi
  have hlt : i < 24 := by
   apply Classical.byContradiction
   intro hge
   have : c.pos.testBit i = false := Nat.testBit_lt_two_pow (Nat.lt_of_lt_of_le h.1 (Nat.pow_le_pow_right (n := 2) A2 (show 24 ≤ i by omega)))
   rw [this] at hi; cases hi.1
  exact ⟨i, List.mem_range.mpr hlt, by simp [H7, hi.1, hi.2]; omega⟩
def Kz (c : Cl) : List Cl → List Cl
 | [] => [c]
 | d :: l => if C0 d c then d :: Kz c l else if d = c then d :: l else c :: d :: l
def rl (l : List Cl) (m : List Cl) : List Cl := m.foldl (fun o c => if Bw l c then o else Kz c o) []
def Ct (l : List Cl) (i : Nat) : List Cl := rl l (l.take i)
abbrev Eh (l : List Cl) : List Cl := rl l l
theorem Y9 (l : List Cl) : Ct l 0 = [] := by simp [Ct, rl]
theorem B7w (l : List Cl) : Ct l l.length = Eh l := by simp [Ct]
theorem S9 {l : List Cl} {i : Nat} (h : i < l.length) : Ct l (i + 1) = if Bw l (l.getD i B8) then Ct l i else Kz (l.getD i B8) (Ct l i) := by
 unfold Ct rl; rw [Ah (d := B8) h, List.foldl_append]; rfl
theorem Vv {c x : Cl} : ∀ {l : List Cl}, x ∈ Kz c l ↔ x = c ∨ x ∈ l
 | [] => by simp [Kz]
 | d :: l => by
  unfold Kz
  split
  ·rw [List.mem_cons, Vv (l := l), List.mem_cons]
   constructor
   ·rintro (h | h | h)
    ·exact .inr (.inl h)
    ·exact .inl h
    ·exact .inr (.inr h)
   ·rintro (h | h | h)
    ·exact .inr (.inl h)
    ·exact .inl h
    ·exact .inr (.inr h)
  ·split
   ·rename_i h
    subst h
    simp
   ·simp
theorem A5h (c : Cl) : ∀ l : List Cl, (Kz c l).length ≤ l.length + 1
 | [] => by simp [Kz]
 | d :: l => by
  unfold Kz
  have := A5h c l
  split
  ·simp; omega
  ·split <;> simp
theorem Tk {c : Cl} : ∀ {l : List Cl}, (l.Pairwise fun a b => C0 a b = true) → (Kz c l).Pairwise fun a b => C0 a b = true
 | [], _ => by simp [Kz]
 | d :: l, h => by
  rw [List.pairwise_cons] at h
  unfold Kz
  split
  ·rename_i hd
   rw [List.pairwise_cons]
   refine ⟨fun x hx => ?_, Tk h.2⟩
   rcases Vv.mp hx with e | e
   ·exact e ▸ hd
   ·exact h.1 x e
  ·rename_i hd
   split
   ·exact List.pairwise_cons.mpr h
   ·rename_i hne
    have hcd : C0 c d = true := by
     rcases Lo c d with h3 | h3 | h3
     ·exact h3
     ·exact absurd h3.symm hne
     ·exact absurd h3 hd
    rw [List.pairwise_cons]
    refine ⟨fun x hx => ?_, List.pairwise_cons.mpr h⟩
    rcases List.mem_cons.mp hx with e | e
    ·exact e ▸ hcd
    ·exact Tj hcd (h.1 x e)
theorem Y8 (l : List Cl) : ∀ (m o : List Cl), (o.Pairwise fun a b => C0 a b = true) → (m.foldl (fun o c => if Bw l c then o else Kz c o) o).Pairwise fun a b => C0 a b = true
 | [], o, h => h
 | c :: m, o, h => by
  rw [List.foldl_cons]
  apply Y8 l m
  split
  ·exact h
  ·exact Tk h
theorem A7n (l : List Cl) (x : Cl) : ∀ (m o : List Cl), x ∈ m.foldl (fun o c => if Bw l c then o else Kz c o) o ↔ x ∈ o ∨ (x ∈ m ∧ Bw l x = false)
 | [], o => by simp
 | c :: m, o => by
  rw [List.foldl_cons, A7n l x m]
  by_cases hn : Bw l c = true
  ·rw [if_pos hn, List.mem_cons]
   constructor
   ·rintro (h | ⟨h, h2⟩)
    ·exact .inl h
    ·exact .inr ⟨.inr h, h2⟩
   ·rintro (h | ⟨h | h, h2⟩)
    ·exact .inl h
    ·subst h; rw [hn] at h2; cases h2
    ·exact .inr ⟨h, h2⟩
  ·rw [if_neg hn, Vv, List.mem_cons]
   constructor
   ·rintro ((h | h) | ⟨h, h2⟩)
    ·subst h; exact .inr ⟨.inl rfl, by simpa using hn⟩
    ·exact .inl h
    ·exact .inr ⟨.inr h, h2⟩
   ·rintro (h | ⟨h | h, h2⟩)
    ·exact .inl (.inr h)
    ·exact .inl (.inl h)
    ·exact .inr ⟨h, h2⟩
theorem Qz {l : List Cl} {x : Cl} : x ∈ Eh l ↔ x ∈ l ∧ Bw l x = false := by
 have := A7n l x l []
 simpa [Eh, rl] using this
theorem Tw (l : List Cl) : (Eh l).Pairwise fun a b => C0 a b = true := Y8 l l [] List.Pairwise.nil
theorem A3p (l : List Cl) (i : Nat) : (Ct l i).length ≤ i := by
 have : ∀ (m o : List Cl), (m.foldl (fun o c => if Bw l c then o else Kz c o) o).length ≤ o.length + m.length := by
  intro m
  induction m with
  | nil => intro o; simp
  | cons c m ih =>
   intro o
   rw [List.foldl_cons]
   have h1 := ih (if Bw l c then o else Kz c o)
   have h2 : (if Bw l c = true then o else Kz c o).length ≤ o.length + 1 := by
    split
    ·omega
    ·exact A5h c o
   simp only [List.length_cons]; omega
 have := this (l.take i) []
 unfold Ct rl
 simp at this ⊢
 omega
theorem B0r {l : List Cl} {i : Nat} {c : Cl} (h : c ∈ Ct l i) : c ∈ l := by
 have := (A7n l c (l.take i) []).mp h
 rcases this with h | h
 ·cases h
 ·exact List.mem_of_mem_take h.1
theorem Um : ∀ {l m : List Cl}, (l.Pairwise fun a b => C0 a b = true) → (m.Pairwise fun a b => C0 a b = true) → (∀ x, x ∈ l ↔ x ∈ m) → l = m
 | [], [], _, _, _ => rfl
 | [], b :: m, _, _, h => by have := (h b).mpr List.mem_cons_self; cases this
 | a :: l, [], _, _, h => by have := (h a).mp List.mem_cons_self; cases this
 | a :: l, b :: m, h1, h2, h => by
  rw [List.pairwise_cons] at h1 h2
  have e : a = b := by
   rcases List.mem_cons.mp ((h a).mp List.mem_cons_self) with h3 | h3
   ·exact h3
   ·rcases List.mem_cons.mp ((h b).mpr List.mem_cons_self) with h4 | h4
    ·exact h4.symm
    ·have h5 := h2.1 a h3
     have h6 := h1.1 b h4
     rw [Mb h5] at h6; cases h6
  subst e
  congr 1
  apply Um h1.2 h2.2
  intro x
  have hx := h x
  rw [List.mem_cons, List.mem_cons] at hx
  constructor
  ·intro h3
   rcases hx.mp (.inr h3) with h4 | h4
   ·subst h4; have := h1.1 x h3; rw [Oj] at this; cases this
   ·exact h4
  ·intro h3
   rcases hx.mpr (.inr h3) with h4 | h4
   ·subst h4; have := h2.1 x h3; rw [Oj] at this; cases this
   ·exact h4
theorem Xe (l : List Cl) (c : Cl) : Bw (once l) c = Bw l c := by
 unfold Bw
 rw [Bool.eq_iff_iff, List.any_eq_true, List.any_eq_true]
 constructor
 ·rintro ⟨d, h1, h2⟩; exact ⟨d, (Lg d l).mp h1, h2⟩
 ·rintro ⟨d, h1, h2⟩; exact ⟨d, (Lg d l).mpr h1, h2⟩
theorem A8b (l : List Cl) : (once l).Nodup := by
 have : ∀ (m o : List Cl), o.Nodup → (m.foldl (fun o c => if c ∈ o then o else o ++ [c]) o).Nodup := by
  intro m
  induction m with
  | nil => intro o h; exact h
  | cons c m ih =>
   intro o h
   rw [List.foldl_cons]
   apply ih
   split
   ·exact h
   ·rename_i hn
    rw [List.nodup_append]
    refine ⟨h, by simp, ?_⟩
    intro a ha b hb e
    rw [List.mem_singleton] at hb
    exact hn (hb ▸ e ▸ ha)
 exact this l [] List.nodup_nil
theorem Y4 (l : List Cl) : ∃ m, A2j l m := by
 refine ⟨l.mergeSort (fun a b => !C0 b a), List.mergeSort_perm _ _, ?_⟩
 have := List.pairwise_mergeSort (le := fun a b => !C0 b a) (fun a b c h1 h2 => by
  simp only [Bool.not_eq_true'] at *
  simp only [C0, Bool.or_eq_false_iff, Bool.and_eq_false_iff, decide_eq_false_iff_not] at *
  omega) (fun a b => by
  rcases Lo a b with h | h | h
  ·simp [Mb h]
  ·subst h; simp [Oj]
  ·simp [Mb h]) l
 exact this.imp fun h => by simpa using h
theorem Y5 {l m : List Cl} (h : A2j (kept l) m) : m = Eh l := by
 have hnd : m.Nodup := (h.1.nodup_iff).mpr (by unfold kept; exact (A8b l).filter _)
 have hb : m.Pairwise fun a b => C0 b a = false ∧ a ≠ b := h.2.and hnd
 refine Um ?_ (Tw l) (fun x => ?_)
 ·exact hb.imp fun {a b} ⟨h3, h4⟩ => by
   rcases Lo a b with h5 | h5 | h5
   ·exact h5
   ·exact absurd h5 h4
   ·rw [h3] at h5; cases h5
 ·rw [h.1.mem_iff, Qz]
  unfold kept
  rw [List.mem_filter, Lg, Xe]
  simp
def Bc (l : List Cl) : Int × List Cl := if l.all B3 = false then (2, []) else if 64 < (Eh l).length then (3, []) else (0, Eh l)
theorem Vs {l : List Cl} {r : Int × List Cl} (h : Hb l r) : r = Bc l := by
 unfold Hb at h
 unfold Bc
 by_cases h1 : l.all B3 = false
 ·rw [if_pos h1] at h ⊢; exact h
 ·rw [if_neg h1] at h ⊢
  by_cases h2 : 64 < (kept l).length
  ·have h3 : (kept l).length = (Eh l).length := by
    obtain ⟨m, hm⟩ := Y4 (kept l)
    rw [← hm.1.length_eq, Y5 hm]
   rw [if_pos h2] at h
   rw [if_pos A2]; exact h
  ·rw [if_neg h2] at h
   have e := Y5 h.2
   have h3 : (kept l).length = (Eh l).length := by rw [← h.2.1.length_eq, e]
   rw [if_neg A2]
   exact Prod.ext h.1 e
theorem Rg (l : List Cl) : (decide ((Bc l).1 = 0) && decide ((Bc l).2 = l)) = Ab l := by
 obtain ⟨r, hr⟩ : ∃ r, Hb l r := by
  unfold Hb
  by_cases h1 : l.all B3 = false
  ·exact ⟨_, by rw [if_pos h1]⟩
  ·by_cases h2 : 64 < (kept l).length
   ·exact ⟨_, by rw [if_neg h1, if_pos h2]⟩
   ·obtain ⟨m, hm⟩ := Y4 (kept l)
    exact ⟨(0, m), by rw [if_neg h1, if_neg h2]; exact ⟨rfl, hm⟩⟩
 rw [← Vs hr]
 exact Nw hr
theorem A1k {c : Cl} : ∀ {l : List Cl} {k : Nat}, k ≤ l.length → (∀ j, j < k → C0 (l.getD j B8) c = true) → (k < l.length → C0 (l.getD k B8) c = false) → Kz c l = if k < l.length ∧ l.getD k B8 = c then l else l.take k ++ [c] ++ l.drop k
 | [], k, hk, h1, h2 => by simp at hk; subst hk; simp [Kz]
 | d :: l, 0, hk, h1, h2 => by
  have h := h2 D7
  simp only [List.getD_cons_zero] at h
  unfold Kz
  rw [h, if_neg Jk]
  simp
 | d :: l, k + 1, hk, h1, h2 => by
  have h := h1 0 A2
  simp only [List.getD_cons_zero] at h
  unfold Kz
  rw [if_pos h, A1k (l := l) (k := k) (by simpa using hk) (fun j hj => by simpa using h1 (j + 1) A2) (fun hlt => by simpa using h2 (by simpa using hlt))]
  simp only [List.length_cons, List.getD_cons_succ, List.take_succ_cons, List.drop_succ_cons, List.cons_append, Nat.add_lt_add_iff_right]
  split <;> rfl
def C6u (t : T) (ks : List Nat) (bs : List (List Nat)) : Nat := 1 + t.r.length + t.name.size + ks.sum + ((t.sys.zip bs).map fun p => 1 + p.1.B4.length + p.2.sum).sum
def H8 : T → Nat := tf C6u
def O3 (b : Br) : Nat := 1 + b.B4.length + (b.kids.map H8).sum
theorem Ru (t : T) : H8 t = 1 + t.r.length + t.name.size + (t.kids.map H8).sum + (t.sys.map O3).sum := by
 conv => lhs; rw [H8, C5u]
 unfold C6u
 congr 2
 generalize t.sys = l
 induction l with
 | nil => rfl
 | cons b l ih => simp only [List.map_cons, List.zip_cons_cons, List.map_cons]; rw [ih]; rfl
def bK (t : T) (i : Nat) : Nat := 1 + t.r.length + t.name.size + ((t.kids.take i).map H8).sum
def bS (t : T) (i : Nat) : Nat := bK t t.kids.length + ((t.sys.take i).map O3).sum
def bJ (t : T) (i j : Nat) : Nat := bS t i + 1 + (t.sys.getD i Bd).B4.length + (((t.sys.getD i Bd).kids.take j).map H8).sum
theorem Kx {α : Type} (f : α → Nat) {l : List α} {i : Nat} {d : α} (h : i < l.length) : ((l.take (i + 1)).map f).sum = ((l.take i).map f).sum + f (l.getD i d) := by
 rw [Ah (d := d) h, List.map_append, List.sum_append]; simp
theorem Ke {α : Type} (f : α → Nat) : ∀ (l : List α) (i : Nat), ((l.take i).map f).sum ≤ (l.map f).sum
 | [], i => by simp
 | a :: l, 0 => by simp
 | a :: l, i + 1 => by have := Ke f l i; simp only [List.take_succ_cons, List.map_cons, List.sum_cons]; omega
theorem A2b (t : T) : bK t 0 = 1 + t.r.length + t.name.size := by simp [bK]
theorem C5m {t : T} {i : Nat} (h : i < t.kids.length) : bK t (i + 1) = bK t i + H8 (t.kids.getD i t0) := by
 unfold bK; rw [Kx H8 h (d := t0)]; omega
theorem C5l (t : T) : bS t 0 = bK t t.kids.length := by simp [bS]
theorem B2o (t : T) (i : Nat) : bJ t i 0 = bS t i + 1 + (t.sys.getD i Bd).B4.length := by simp [bJ]
theorem C5n {t : T} {i j : Nat} (h : j < (t.sys.getD i Bd).kids.length) : bJ t i (j + 1) = bJ t i j + H8 ((t.sys.getD i Bd).kids.getD j t0) := by
 unfold bJ; rw [Kx H8 h (d := t0)]; omega
theorem A2a {t : T} {i : Nat} (h : i < t.sys.length) : bS t (i + 1) = bJ t i (t.sys.getD i Bd).kids.length := by
 unfold bS bJ bS; rw [Kx O3 h (d := Bd), List.take_length]; unfold O3; omega
theorem D1y (t : T) : bS t t.sys.length = H8 t := by
 rw [Ru]; unfold bS bK; rw [List.take_length, List.take_length]
theorem C6w (t : T) (i : Nat) : bS t i ≤ H8 t := by
 rw [Ru]; unfold bS bK; rw [List.take_length]; have := Ke O3 t.sys i; omega
theorem B2n (t : T) (i : Nat) : bK t i ≤ H8 t := by
 rw [Ru]; unfold bK; have := Ke H8 t.kids i; omega
theorem C6x {t : T} {i j : Nat} (h : i < t.sys.length) : bJ t i j ≤ H8 t := by
 have h1 := C6w t (i + 1)
 rw [A2a h] at h1
 unfold bJ at h1 ⊢
 rw [List.take_length] at h1
 have := Ke H8 (t.sys.getD i Bd).kids j
 omega
def Eb (t : T) (part : Nat) (Cx n : Int) : Prop := 0 ≤ n ∧ n ≤ 2 * Cx + 1 ∧ ((n ≤ Cx ∧ n = part) ∨ (Cx < n ∧ Cx < H8 t))
theorem Zz : ∀ t, size t ≤ H8 t := T.ind fun t ih => by
 have hk : ∀ (F G : T → Nat) (l : List T), (∀ k, k ∈ l → F k ≤ G k) → (l.map F).sum ≤ (l.map G).sum := by
  intro F G l
  induction l with
  | nil => intro _; simp
  | cons a l ih => intro h; have := ih (fun k hk => h k (List.mem_cons_of_mem _ hk)); have := h a List.mem_cons_self; simp only [List.map_cons, List.sum_cons]; omega
 have e : size t = 1 + ((parts t).map fun p => size p.1).sum := by
  rw [size_eq]
  have : ∀ (l : List Part) (a : Nat), l.foldl (fun a p => a + size p.1) a = a + (l.map fun p => size p.1).sum := by
   intro l
   induction l with
   | nil => intro a; simp
   | cons b l ih => intro a; rw [List.foldl_cons, ih]; simp; omega
  exact this _ _
 rw [e, Jn, Ru, List.sum_append]
 have h1 := hk size H8 t.kids (fun k hk => by obtain ⟨p, hp, e⟩ := Fy hk; exact e ▸ ih p hp)
 have h2 : ((t.sys.map fun b => b.kids.map size).flatten).sum ≤ (t.sys.map O3).sum := by
  have : ∀ (l : List Br), (∀ b, b ∈ l → b ∈ t.sys) → ((l.map fun b => b.kids.map size).flatten).sum ≤ (l.map O3).sum := by
   intro l
   induction l with
   | nil => intro _; simp
   | cons b l ih2 =>
    intro h
    have h3 := ih2 (fun b hb => h b (List.mem_cons_of_mem _ hb))
    have h4 := hk size H8 b.kids (fun k hk => by obtain ⟨p, hp, e⟩ := Fw (h b List.mem_cons_self) hk; exact e ▸ ih p hp)
    simp only [List.map_cons, List.flatten_cons, List.sum_append, List.sum_cons]
    have hb : O3 b = 1 + b.B4.length + (b.kids.map H8).sum := rfl
    rw [hb]
    omega
  exact this t.sys (fun _ h => h)
 omega
end Go.Hy
namespace Go.Proofs.YtibignmpjeemeaaGreatDoor.Hy
open Go.Proofs
set_option maxRecDepth 100000
set_option maxHeartbeats 8000000
def C7h : Nat → Option (TypeDesc)
 | 1 => some (.func #[] #[] false)
 | 2 => some (.int .i64)
 | 3 => some (.int .i64)
 | 4 => some (.bool)
 | 5 => some (.int .u8)
 | 9 => some (.string)
 | 12 => some (.int .u64)
 | 20 => some (.interface #[])
 | 21 => some (.int .i32)
 | 22 => some (.slice 107)
 | 23 => some (.slice 26)
 | 24 => some (.slice 77)
 | 27 => some (.slice 22)
 | 30 => some (.func #[26] #[4] false)
 | 31 => some (.func #[29] #[4] false)
 | 32 => some (.func #[] #[4] false)
 | 33 => some (.func #[26] #[26] false)
 | 34 => some (.int .i64)
 | 36 => some (.func #[26, 37] #[26, 34] false)
 | 39 => some (.func #[26, 29] #[26, 3] false)
 | 40 => some (.func #[26, 26] #[4] false)
 | 41 => some (.func #[26, 29] #[4] false)
 | 42 => some (.func #[26, 3, 3] #[34] false)
 | 45 => some (.func #[26, 3, 3] #[4] false)
 | 88 => some (.func #[22] #[4] false)
 | 89 => some (.int .u32)
 | 91 => some (.int .u64)
 | 92 => some (.func #[22] #[22, 34] false)
 | 93 => some (.func #[22, 22] #[22, 34] false)
 | 102 => some (.func #[27, 22] #[27, 34] false)
 | 105 => some (.func #[23, 26] #[23, 34] false)
 | 109 => some (.pointer 111)
 | 118 => some (.func #[22, 3] #[22, 34] false)
 | 119 => some (.func #[22, 3] #[22, 34] false)
 | 138 => some (.func #[92] #[118] false)
 | 140 => some (.slice 3)
 | 142 => some (.func #[22, 107] #[22, 34] false)
 | 168 => some (.func #[107, 3, 3] #[107, 34] false)
 | 172 => some (.map 107 4)
 | 173 => some (.func #[107] #[4] false)
 | 177 => some (.func #[107, 107] #[3] false)
 | 186 => some (.func #[26, 3, 22, 3, 4] #[26] false)
 | 187 => some (.func #[3, 26, 26, 26] #[26] false)
 | 188 => some (.func #[3, 23] #[26] false)
 | 193 => some (.func #[] #[26] false)
 | 197 => some (.func #[22, 198] #[22] false)
 | 198 => some (.func #[107] #[107, 4] false)
 | 199 => some (.func #[] #[37, 34] false)
 | 200 => some (.array 29 3)
 | 217 => some (.int .u64)
 | 220 => some (.int .i64)
 | 228 => some (.array 32 5)
 | 237 => some (.pointer 3)
 | 251 => some (.pointer 5)
 | _ => none
def C7i : Nat → Option (Nat × Nat × Value)
 | 1 => some (1, 8, .nilFunc)
 | 2 => some (1, 8, .int .i64 0)
 | 3 => some (1, 8, .int .i64 0)
 | 4 => some (1, 1, .bool false)
 | 5 => some (1, 1, .int .u8 0)
 | 9 => some (1, 16, .string ⟨#[]⟩)
 | 12 => some (1, 8, .int .u64 0)
 | 21 => some (1, 4, .int .i32 0)
 | 22 => some (1, 24, .slice none 0 0)
 | 23 => some (1, 24, .slice none 0 0)
 | 24 => some (1, 24, .slice none 0 0)
 | 25 => some (6, 104, .agg #[.int .i64 0, .int .i64 0, .string ⟨#[]⟩, .slice none 0 0, .slice none 0 0, .slice none 0 0])
 | 26 => some (6, 104, .agg #[.int .i64 0, .int .i64 0, .string ⟨#[]⟩, .slice none 0 0, .slice none 0 0, .slice none 0 0])
 | 27 => some (1, 24, .slice none 0 0)
 | 28 => some (2, 48, .agg #[.slice none 0 0, .slice none 0 0])
 | 29 => some (2, 48, .agg #[.slice none 0 0, .slice none 0 0])
 | 30 => some (1, 8, .nilFunc)
 | 31 => some (1, 8, .nilFunc)
 | 32 => some (1, 8, .nilFunc)
 | 33 => some (1, 8, .nilFunc)
 | 34 => some (1, 8, .int .i64 0)
 | 36 => some (1, 8, .nilFunc)
 | 37 => some (2, 48, .agg #[.slice none 0 0, .slice none 0 0])
 | 39 => some (1, 8, .nilFunc)
 | 40 => some (1, 8, .nilFunc)
 | 41 => some (1, 8, .nilFunc)
 | 42 => some (1, 8, .nilFunc)
 | 45 => some (1, 8, .nilFunc)
 | 76 => some (2, 48, .agg #[.slice none 0 0, .slice none 0 0])
 | 77 => some (2, 48, .agg #[.slice none 0 0, .slice none 0 0])
 | 88 => some (1, 8, .nilFunc)
 | 89 => some (1, 4, .int .u32 0)
 | 91 => some (1, 8, .int .u64 0)
 | 92 => some (1, 8, .nilFunc)
 | 93 => some (1, 8, .nilFunc)
 | 94 => some (4, 32, .agg #[.nilFunc, .nilFunc, .nilFunc, .nilFunc])
 | 95 => some (4, 32, .agg #[.nilFunc, .nilFunc, .nilFunc, .nilFunc])
 | 102 => some (1, 8, .nilFunc)
 | 105 => some (1, 8, .nilFunc)
 | 106 => some (2, 8, .agg #[.int .u32 0, .int .u32 0])
 | 107 => some (2, 8, .agg #[.int .u32 0, .int .u32 0])
 | 109 => some (1, 8, .pointer none)
 | 110 => some (1, 8, .agg #[.int .i64 0])
 | 111 => some (1, 8, .agg #[.int .i64 0])
 | 118 => some (1, 8, .nilFunc)
 | 119 => some (1, 8, .nilFunc)
 | 120 => some (2, 16, .agg #[.nilFunc, .nilFunc])
 | 121 => some (2, 16, .agg #[.nilFunc, .nilFunc])
 | 138 => some (1, 8, .nilFunc)
 | 140 => some (1, 24, .slice none 0 0)
 | 142 => some (1, 8, .nilFunc)
 | 168 => some (1, 8, .nilFunc)
 | 172 => some (1, 8, .map none)
 | 173 => some (1, 8, .nilFunc)
 | 177 => some (1, 8, .nilFunc)
 | 186 => some (1, 8, .nilFunc)
 | 187 => some (1, 8, .nilFunc)
 | 188 => some (1, 8, .nilFunc)
 | 190 => some (2, 16, .agg #[.int .i64 0, .int .i64 0])
 | 191 => some (2, 16, .agg #[.int .i64 0, .int .i64 0])
 | 193 => some (1, 8, .nilFunc)
 | 197 => some (1, 8, .nilFunc)
 | 198 => some (1, 8, .nilFunc)
 | 199 => some (1, 8, .nilFunc)
 | 200 => some (29, 232, .agg #[.int .i64 0, .int .i64 0, .int .i64 0, .int .i64 0, .int .i64 0, .int .i64 0, .int .i64 0, .int .i64 0, .int .i64 0, .int .i64 0, .int .i64 0, .int .i64 0, .int .i64 0, .int .i64 0, .int .i64 0, .int .i64 0, .int .i64 0, .int .i64 0, .int .i64 0, .int .i64 0, .int .i64 0, .int .i64 0, .int .i64 0, .int .i64 0, .int .i64 0, .int .i64 0, .int .i64 0, .int .i64 0, .int .i64 0])
 | 217 => some (1, 8, .int .u64 0)
 | 220 => some (1, 8, .int .i64 0)
 | 228 => some (32, 32, .agg #[.int .u8 0, .int .u8 0, .int .u8 0, .int .u8 0, .int .u8 0, .int .u8 0, .int .u8 0, .int .u8 0, .int .u8 0, .int .u8 0, .int .u8 0, .int .u8 0, .int .u8 0, .int .u8 0, .int .u8 0, .int .u8 0, .int .u8 0, .int .u8 0, .int .u8 0, .int .u8 0, .int .u8 0, .int .u8 0, .int .u8 0, .int .u8 0, .int .u8 0, .int .u8 0, .int .u8 0, .int .u8 0, .int .u8 0, .int .u8 0, .int .u8 0, .int .u8 0])
 | 237 => some (1, 8, .pointer none)
 | 251 => some (1, 8, .pointer none)
 | _ => none
def B3i : Nat → Option (List (Nat × Nat))
 | 25 => some ([(0, 1), (1, 1), (2, 1), (3, 1), (4, 1), (5, 1)])
 | 26 => some ([(0, 1), (1, 1), (2, 1), (3, 1), (4, 1), (5, 1)])
 | 28 => some ([(0, 1), (1, 1)])
 | 29 => some ([(0, 1), (1, 1)])
 | 37 => some ([(0, 1), (1, 1)])
 | 76 => some ([(0, 1), (1, 1)])
 | 77 => some ([(0, 1), (1, 1)])
 | 94 => some ([(0, 1), (1, 1), (2, 1), (3, 1)])
 | 95 => some ([(0, 1), (1, 1), (2, 1), (3, 1)])
 | 106 => some ([(0, 1), (1, 1)])
 | 107 => some ([(0, 1), (1, 1)])
 | 110 => some ([(0, 1)])
 | 111 => some ([(0, 1)])
 | 120 => some ([(0, 1), (1, 1)])
 | 121 => some ([(0, 1), (1, 1)])
 | 190 => some ([(0, 1), (1, 1)])
 | 191 => some ([(0, 1), (1, 1)])
 | _ => none
def C7j (t j : Nat) : Option Nat := (B3i t).bind fun l => (l[j]?).map (·.1)
noncomputable abbrev ii_ (t : Nat) := (Tryz.prog.info? t).map fun i => (i.size, i.bytes, i.zero)
theorem D7j : ii_ 1 = some (1, 8, some (.nilFunc)) := by kernel_rfl
theorem D7i : ii_ 2 = some (1, 8, some (.int .i64 0)) := by kernel_rfl
theorem D7h : ii_ 3 = some (1, 8, some (.int .i64 0)) := by kernel_rfl
theorem D7g : ii_ 4 = some (1, 1, some (.bool false)) := by kernel_rfl
theorem D7f : ii_ 5 = some (1, 1, some (.int .u8 0)) := by kernel_rfl
theorem D7e : ii_ 9 = some (1, 16, some (.string ⟨#[]⟩)) := by kernel_rfl
theorem D5t : ii_ 12 = some (1, 8, some (.int .u64 0)) := by kernel_rfl
theorem D5s : ii_ 21 = some (1, 4, some (.int .i32 0)) := by kernel_rfl
theorem D5r : ii_ 22 = some (1, 24, some (.slice none 0 0)) := by kernel_rfl
theorem D5q : ii_ 23 = some (1, 24, some (.slice none 0 0)) := by kernel_rfl
theorem D5p : ii_ 24 = some (1, 24, some (.slice none 0 0)) := by kernel_rfl
theorem D5o : ii_ 25 = some (6, 104, some (.agg #[.int .i64 0, .int .i64 0, .string ⟨#[]⟩, .slice none 0 0, .slice none 0 0, .slice none 0 0])) := by kernel_rfl
theorem D5n : ii_ 26 = some (6, 104, some (.agg #[.int .i64 0, .int .i64 0, .string ⟨#[]⟩, .slice none 0 0, .slice none 0 0, .slice none 0 0])) := by kernel_rfl
theorem D5m : ii_ 27 = some (1, 24, some (.slice none 0 0)) := by kernel_rfl
theorem D5l : ii_ 28 = some (2, 48, some (.agg #[.slice none 0 0, .slice none 0 0])) := by kernel_rfl
theorem D5k : ii_ 29 = some (2, 48, some (.agg #[.slice none 0 0, .slice none 0 0])) := by kernel_rfl
theorem D5j : ii_ 30 = some (1, 8, some (.nilFunc)) := by kernel_rfl
theorem D5i : ii_ 31 = some (1, 8, some (.nilFunc)) := by kernel_rfl
theorem D5h : ii_ 32 = some (1, 8, some (.nilFunc)) := by kernel_rfl
theorem D5g : ii_ 33 = some (1, 8, some (.nilFunc)) := by kernel_rfl
theorem D5f : ii_ 34 = some (1, 8, some (.int .i64 0)) := by kernel_rfl
theorem D5e : ii_ 36 = some (1, 8, some (.nilFunc)) := by kernel_rfl
theorem D5d : ii_ 37 = some (2, 48, some (.agg #[.slice none 0 0, .slice none 0 0])) := by kernel_rfl
theorem D5c : ii_ 39 = some (1, 8, some (.nilFunc)) := by kernel_rfl
theorem D5b : ii_ 40 = some (1, 8, some (.nilFunc)) := by kernel_rfl
theorem D5a : ii_ 41 = some (1, 8, some (.nilFunc)) := by kernel_rfl
theorem D4z : ii_ 42 = some (1, 8, some (.nilFunc)) := by kernel_rfl
theorem D4y : ii_ 45 = some (1, 8, some (.nilFunc)) := by kernel_rfl
theorem D4x : ii_ 76 = some (2, 48, some (.agg #[.slice none 0 0, .slice none 0 0])) := by kernel_rfl
theorem D4w : ii_ 77 = some (2, 48, some (.agg #[.slice none 0 0, .slice none 0 0])) := by kernel_rfl
theorem D4v : ii_ 88 = some (1, 8, some (.nilFunc)) := by kernel_rfl
theorem D4u : ii_ 89 = some (1, 4, some (.int .u32 0)) := by kernel_rfl
theorem D4t : ii_ 91 = some (1, 8, some (.int .u64 0)) := by kernel_rfl
theorem D4s : ii_ 92 = some (1, 8, some (.nilFunc)) := by kernel_rfl
theorem D4r : ii_ 93 = some (1, 8, some (.nilFunc)) := by kernel_rfl
theorem D4q : ii_ 94 = some (4, 32, some (.agg #[.nilFunc, .nilFunc, .nilFunc, .nilFunc])) := by kernel_rfl
theorem D4p : ii_ 95 = some (4, 32, some (.agg #[.nilFunc, .nilFunc, .nilFunc, .nilFunc])) := by kernel_rfl
theorem D1k : ii_ 102 = some (1, 8, some (.nilFunc)) := by kernel_rfl
theorem D1j : ii_ 105 = some (1, 8, some (.nilFunc)) := by kernel_rfl
theorem D1i : ii_ 106 = some (2, 8, some (.agg #[.int .u32 0, .int .u32 0])) := by kernel_rfl
theorem D1h : ii_ 107 = some (2, 8, some (.agg #[.int .u32 0, .int .u32 0])) := by kernel_rfl
theorem D1g : ii_ 109 = some (1, 8, some (.pointer none)) := by kernel_rfl
theorem D1f : ii_ 110 = some (1, 8, some (.agg #[.int .i64 0])) := by kernel_rfl
theorem D1e : ii_ 111 = some (1, 8, some (.agg #[.int .i64 0])) := by kernel_rfl
theorem D1d : ii_ 118 = some (1, 8, some (.nilFunc)) := by kernel_rfl
theorem D1c : ii_ 119 = some (1, 8, some (.nilFunc)) := by kernel_rfl
theorem D1b : ii_ 120 = some (2, 16, some (.agg #[.nilFunc, .nilFunc])) := by kernel_rfl
theorem D1a : ii_ 121 = some (2, 16, some (.agg #[.nilFunc, .nilFunc])) := by kernel_rfl
theorem D0z : ii_ 138 = some (1, 8, some (.nilFunc)) := by kernel_rfl
theorem D0y : ii_ 140 = some (1, 24, some (.slice none 0 0)) := by kernel_rfl
theorem D0x : ii_ 142 = some (1, 8, some (.nilFunc)) := by kernel_rfl
theorem D0w : ii_ 168 = some (1, 8, some (.nilFunc)) := by kernel_rfl
theorem D0v : ii_ 172 = some (1, 8, some (.map none)) := by kernel_rfl
theorem D0u : ii_ 173 = some (1, 8, some (.nilFunc)) := by kernel_rfl
theorem D0t : ii_ 177 = some (1, 8, some (.nilFunc)) := by kernel_rfl
theorem D0s : ii_ 186 = some (1, 8, some (.nilFunc)) := by kernel_rfl
theorem D0r : ii_ 187 = some (1, 8, some (.nilFunc)) := by kernel_rfl
theorem D0q : ii_ 188 = some (1, 8, some (.nilFunc)) := by kernel_rfl
theorem D0p : ii_ 190 = some (2, 16, some (.agg #[.int .i64 0, .int .i64 0])) := by kernel_rfl
theorem D0o : ii_ 191 = some (2, 16, some (.agg #[.int .i64 0, .int .i64 0])) := by kernel_rfl
theorem D0n : ii_ 193 = some (1, 8, some (.nilFunc)) := by kernel_rfl
theorem D0m : ii_ 197 = some (1, 8, some (.nilFunc)) := by kernel_rfl
theorem D0l : ii_ 198 = some (1, 8, some (.nilFunc)) := by kernel_rfl
theorem D0k : ii_ 199 = some (1, 8, some (.nilFunc)) := by kernel_rfl
theorem D0j : ii_ 200 = some (29, 232, some (.agg #[.int .i64 0, .int .i64 0, .int .i64 0, .int .i64 0, .int .i64 0, .int .i64 0, .int .i64 0, .int .i64 0, .int .i64 0, .int .i64 0, .int .i64 0, .int .i64 0, .int .i64 0, .int .i64 0, .int .i64 0, .int .i64 0, .int .i64 0, .int .i64 0, .int .i64 0, .int .i64 0, .int .i64 0, .int .i64 0, .int .i64 0, .int .i64 0, .int .i64 0, .int .i64 0, .int .i64 0, .int .i64 0, .int .i64 0])) := by kernel_rfl
theorem D0i : ii_ 217 = some (1, 8, some (.int .u64 0)) := by kernel_rfl
theorem D0h : ii_ 220 = some (1, 8, some (.int .i64 0)) := by kernel_rfl
theorem D0g : ii_ 228 = some (32, 32, some (.agg #[.int .u8 0, .int .u8 0, .int .u8 0, .int .u8 0, .int .u8 0, .int .u8 0, .int .u8 0, .int .u8 0, .int .u8 0, .int .u8 0, .int .u8 0, .int .u8 0, .int .u8 0, .int .u8 0, .int .u8 0, .int .u8 0, .int .u8 0, .int .u8 0, .int .u8 0, .int .u8 0, .int .u8 0, .int .u8 0, .int .u8 0, .int .u8 0, .int .u8 0, .int .u8 0, .int .u8 0, .int .u8 0, .int .u8 0, .int .u8 0, .int .u8 0, .int .u8 0])) := by kernel_rfl
theorem D0f : ii_ 237 = some (1, 8, some (.pointer none)) := by kernel_rfl
theorem D0e : ii_ 251 = some (1, 8, some (.pointer none)) := by kernel_rfl
theorem Av {t s b : Nat} {z : Value} (h : ii_ t = some (s, b, some z)) : ∃ i, Tryz.prog.info? t = some i ∧ i.size = s ∧ i.bytes = b ∧ i.zero = some z := by
 obtain ⟨i, h1, h2⟩ := Option.map_eq_some_iff.1 h
 simp only [Prod.mk.injEq] at h2
 exact ⟨i, h1, h2.1, h2.2.1, h2.2.2⟩
theorem C2u : ∀ t d, C7h t = some d → Tryz.prog.underlying t = some d := by
 intro t d h
 unfold C7h at h
 split at h
 ·cases h; exact Tryz.underlying1
 ·cases h; exact Tryz.underlying2
 ·cases h; exact Tryz.underlying3
 ·cases h; exact Tryz.underlying4
 ·cases h; exact Tryz.underlying5
 ·cases h; exact Tryz.underlying9
 ·cases h; exact Tryz.underlying12
 ·cases h; exact Tryz.underlying20
 ·cases h; exact Tryz.underlying21
 ·cases h; exact Tryz.underlying22
 ·cases h; exact Tryz.underlying23
 ·cases h; exact Tryz.underlying24
 ·cases h; exact Tryz.underlying27
 ·cases h; exact Tryz.underlying30
 ·cases h; exact Tryz.underlying31
 ·cases h; exact Tryz.underlying32
 ·cases h; exact Tryz.underlying33
 ·cases h; exact Tryz.underlying34
 ·cases h; exact Tryz.underlying36
 ·cases h; exact Tryz.underlying39
 ·cases h; exact Tryz.underlying40
 ·cases h; exact Tryz.underlying41
 ·cases h; exact Tryz.underlying42
 ·cases h; exact Tryz.underlying45
 ·cases h; exact Tryz.underlying88
 ·cases h; exact Tryz.underlying89
 ·cases h; exact Tryz.underlying91
 ·cases h; exact Tryz.underlying92
 ·cases h; exact Tryz.underlying93
 ·cases h; exact Tryz.underlying102
 ·cases h; exact Tryz.underlying105
 ·cases h; exact Tryz.underlying109
 ·cases h; exact Tryz.underlying118
 ·cases h; exact Tryz.underlying119
 ·cases h; exact Tryz.underlying138
 ·cases h; exact Tryz.underlying140
 ·cases h; exact Tryz.underlying142
 ·cases h; exact Tryz.underlying168
 ·cases h; exact Tryz.underlying172
 ·cases h; exact Tryz.underlying173
 ·cases h; exact Tryz.underlying177
 ·cases h; exact Tryz.underlying186
 ·cases h; exact Tryz.underlying187
 ·cases h; exact Tryz.underlying188
 ·cases h; exact Tryz.underlying193
 ·cases h; exact Tryz.underlying197
 ·cases h; exact Tryz.underlying198
 ·cases h; exact Tryz.underlying199
 ·cases h; exact Tryz.underlying200
 ·cases h; exact Tryz.underlying217
 ·cases h; exact Tryz.underlying220
 ·cases h; exact Tryz.underlying228
 ·cases h; exact Tryz.underlying237
 ·cases h; exact Tryz.underlying251
 ·cases h
theorem C2v : ∀ t s b z, C7i t = some (s, b, z) → ∃ i, Tryz.prog.info? t = some i ∧ i.size = s ∧ i.bytes = b ∧ i.zero = some z := by
 intro t s b z h
 unfold C7i at h
 split at h
 ·cases h; exact Av D7j
 ·cases h; exact Av D7i
 ·cases h; exact Av D7h
 ·cases h; exact Av D7g
 ·cases h; exact Av D7f
 ·cases h; exact Av D7e
 ·cases h; exact Av D5t
 ·cases h; exact Av D5s
 ·cases h; exact Av D5r
 ·cases h; exact Av D5q
 ·cases h; exact Av D5p
 ·cases h; exact Av D5o
 ·cases h; exact Av D5n
 ·cases h; exact Av D5m
 ·cases h; exact Av D5l
 ·cases h; exact Av D5k
 ·cases h; exact Av D5j
 ·cases h; exact Av D5i
 ·cases h; exact Av D5h
 ·cases h; exact Av D5g
 ·cases h; exact Av D5f
 ·cases h; exact Av D5e
 ·cases h; exact Av D5d
 ·cases h; exact Av D5c
 ·cases h; exact Av D5b
 ·cases h; exact Av D5a
 ·cases h; exact Av D4z
 ·cases h; exact Av D4y
 ·cases h; exact Av D4x
 ·cases h; exact Av D4w
 ·cases h; exact Av D4v
 ·cases h; exact Av D4u
 ·cases h; exact Av D4t
 ·cases h; exact Av D4s
 ·cases h; exact Av D4r
 ·cases h; exact Av D4q
 ·cases h; exact Av D4p
 ·cases h; exact Av D1k
 ·cases h; exact Av D1j
 ·cases h; exact Av D1i
 ·cases h; exact Av D1h
 ·cases h; exact Av D1g
 ·cases h; exact Av D1f
 ·cases h; exact Av D1e
 ·cases h; exact Av D1d
 ·cases h; exact Av D1c
 ·cases h; exact Av D1b
 ·cases h; exact Av D1a
 ·cases h; exact Av D0z
 ·cases h; exact Av D0y
 ·cases h; exact Av D0x
 ·cases h; exact Av D0w
 ·cases h; exact Av D0v
 ·cases h; exact Av D0u
 ·cases h; exact Av D0t
 ·cases h; exact Av D0s
 ·cases h; exact Av D0r
 ·cases h; exact Av D0q
 ·cases h; exact Av D0p
 ·cases h; exact Av D0o
 ·cases h; exact Av D0n
 ·cases h; exact Av D0m
 ·cases h; exact Av D0l
 ·cases h; exact Av D0k
 ·cases h; exact Av D0j
 ·cases h; exact Av D0i
 ·cases h; exact Av D0h
 ·cases h; exact Av D0g
 ·cases h; exact Av D0f
 ·cases h; exact Av D0e
 ·cases h
theorem D4l : ∃ fs, Tryz.prog.underlying 25 = some (.struct fs) ∧ fs.toList.mapM (fun f => (Tryz.prog.info? f.type).map fun i => (f.offset, i.size)) = some [(0, 1), (1, 1), (2, 1), (3, 1), (4, 1), (5, 1)] := ⟨_, Tryz.underlying25, by kernel_rfl⟩
theorem D4k : ∃ fs, Tryz.prog.underlying 26 = some (.struct fs) ∧ fs.toList.mapM (fun f => (Tryz.prog.info? f.type).map fun i => (f.offset, i.size)) = some [(0, 1), (1, 1), (2, 1), (3, 1), (4, 1), (5, 1)] := ⟨_, Tryz.underlying26, by kernel_rfl⟩
theorem D4j : ∃ fs, Tryz.prog.underlying 28 = some (.struct fs) ∧ fs.toList.mapM (fun f => (Tryz.prog.info? f.type).map fun i => (f.offset, i.size)) = some [(0, 1), (1, 1)] := ⟨_, Tryz.underlying28, by kernel_rfl⟩
theorem D4i : ∃ fs, Tryz.prog.underlying 29 = some (.struct fs) ∧ fs.toList.mapM (fun f => (Tryz.prog.info? f.type).map fun i => (f.offset, i.size)) = some [(0, 1), (1, 1)] := ⟨_, Tryz.underlying29, by kernel_rfl⟩
theorem D4h : ∃ fs, Tryz.prog.underlying 37 = some (.struct fs) ∧ fs.toList.mapM (fun f => (Tryz.prog.info? f.type).map fun i => (f.offset, i.size)) = some [(0, 1), (1, 1)] := ⟨_, Tryz.underlying37, by kernel_rfl⟩
theorem D4g : ∃ fs, Tryz.prog.underlying 76 = some (.struct fs) ∧ fs.toList.mapM (fun f => (Tryz.prog.info? f.type).map fun i => (f.offset, i.size)) = some [(0, 1), (1, 1)] := ⟨_, Tryz.underlying76, by kernel_rfl⟩
theorem D4f : ∃ fs, Tryz.prog.underlying 77 = some (.struct fs) ∧ fs.toList.mapM (fun f => (Tryz.prog.info? f.type).map fun i => (f.offset, i.size)) = some [(0, 1), (1, 1)] := ⟨_, Tryz.underlying77, by kernel_rfl⟩
theorem D4e : ∃ fs, Tryz.prog.underlying 94 = some (.struct fs) ∧ fs.toList.mapM (fun f => (Tryz.prog.info? f.type).map fun i => (f.offset, i.size)) = some [(0, 1), (1, 1), (2, 1), (3, 1)] := ⟨_, Tryz.underlying94, by kernel_rfl⟩
theorem D4d : ∃ fs, Tryz.prog.underlying 95 = some (.struct fs) ∧ fs.toList.mapM (fun f => (Tryz.prog.info? f.type).map fun i => (f.offset, i.size)) = some [(0, 1), (1, 1), (2, 1), (3, 1)] := ⟨_, Tryz.underlying95, by kernel_rfl⟩
theorem C9z : ∃ fs, Tryz.prog.underlying 106 = some (.struct fs) ∧ fs.toList.mapM (fun f => (Tryz.prog.info? f.type).map fun i => (f.offset, i.size)) = some [(0, 1), (1, 1)] := ⟨_, Tryz.underlying106, by kernel_rfl⟩
theorem C9y : ∃ fs, Tryz.prog.underlying 107 = some (.struct fs) ∧ fs.toList.mapM (fun f => (Tryz.prog.info? f.type).map fun i => (f.offset, i.size)) = some [(0, 1), (1, 1)] := ⟨_, Tryz.underlying107, by kernel_rfl⟩
theorem C9x : ∃ fs, Tryz.prog.underlying 110 = some (.struct fs) ∧ fs.toList.mapM (fun f => (Tryz.prog.info? f.type).map fun i => (f.offset, i.size)) = some [(0, 1)] := ⟨_, Tryz.underlying110, by kernel_rfl⟩
theorem C9w : ∃ fs, Tryz.prog.underlying 111 = some (.struct fs) ∧ fs.toList.mapM (fun f => (Tryz.prog.info? f.type).map fun i => (f.offset, i.size)) = some [(0, 1)] := ⟨_, Tryz.underlying111, by kernel_rfl⟩
theorem C9v : ∃ fs, Tryz.prog.underlying 120 = some (.struct fs) ∧ fs.toList.mapM (fun f => (Tryz.prog.info? f.type).map fun i => (f.offset, i.size)) = some [(0, 1), (1, 1)] := ⟨_, Tryz.underlying120, by kernel_rfl⟩
theorem C9u : ∃ fs, Tryz.prog.underlying 121 = some (.struct fs) ∧ fs.toList.mapM (fun f => (Tryz.prog.info? f.type).map fun i => (f.offset, i.size)) = some [(0, 1), (1, 1)] := ⟨_, Tryz.underlying121, by kernel_rfl⟩
theorem C9t : ∃ fs, Tryz.prog.underlying 190 = some (.struct fs) ∧ fs.toList.mapM (fun f => (Tryz.prog.info? f.type).map fun i => (f.offset, i.size)) = some [(0, 1), (1, 1)] := ⟨_, Tryz.underlying190, by kernel_rfl⟩
theorem C9s : ∃ fs, Tryz.prog.underlying 191 = some (.struct fs) ∧ fs.toList.mapM (fun f => (Tryz.prog.info? f.type).map fun i => (f.offset, i.size)) = some [(0, 1), (1, 1)] := ⟨_, Tryz.underlying191, by kernel_rfl⟩
theorem B0l : ∀ t l, B3i t = some l → ∃ fs, Tryz.prog.underlying t = some (.struct fs) ∧ fs.toList.mapM (fun f => (Tryz.prog.info? f.type).map fun i => (f.offset, i.size)) = some l := by
 intro t l h
 unfold B3i at h
 split at h
 ·cases h; exact D4l
 ·cases h; exact D4k
 ·cases h; exact D4j
 ·cases h; exact D4i
 ·cases h; exact D4h
 ·cases h; exact D4g
 ·cases h; exact D4f
 ·cases h; exact D4e
 ·cases h; exact D4d
 ·cases h; exact C9z
 ·cases h; exact C9y
 ·cases h; exact C9x
 ·cases h; exact C9w
 ·cases h; exact C9v
 ·cases h; exact C9u
 ·cases h; exact C9t
 ·cases h; exact C9s
 ·cases h
theorem B7k : ∀ t l, B3i t = some l → l.all (fun x => x.2 != 0) = true := by
 intro t l h
 unfold B3i at h
 split at h
 ·cases h; rfl
 ·cases h; rfl
 ·cases h; rfl
 ·cases h; rfl
 ·cases h; rfl
 ·cases h; rfl
 ·cases h; rfl
 ·cases h; rfl
 ·cases h; rfl
 ·cases h; rfl
 ·cases h; rfl
 ·cases h; rfl
 ·cases h; rfl
 ·cases h; rfl
 ·cases h; rfl
 ·cases h; rfl
 ·cases h; rfl
 ·cases h
theorem A4v {P : Program} : ∀ (fs : List Field) (l : List (Nat × Nat)), fs.mapM (fun f => (P.info? f.type).map fun i => (f.offset, i.size)) = some l → ∀ (j : Nat) (x : Nat × Nat), l[j]? = some x → ∃ fl i, fs[j]? = some fl ∧ P.info? fl.type = some i ∧ fl.offset = x.1 ∧ i.size = x.2
 | [], l, h, j, x, hx => by simp at h; subst h; simp at hx
 | f :: fs, l, h, j, x, hx => by
  simp only [List.mapM_cons, Option.bind_eq_bind, Option.pure_def] at h
  cases hi : P.info? f.type with
  | none => simp [hi] at h
  | some i =>
   cases hr : fs.mapM (fun f => (P.info? f.type).map fun i => (f.offset, i.size)) with
   | none => simp [hi, hr] at h
   | some rest =>
    simp [hi, hr] at h
    subst h
    cases j with
    | zero => simp at hx; subst hx; exact ⟨f, i, rfl, hi, rfl, rfl⟩
    | succ j => simpa using A4v fs rest hr j x (by simpa using hx)
theorem C2w : ∀ t j o, C7j t j = some o → ∃ fs fl i, Tryz.prog.underlying t = some (.struct fs) ∧ fs[j]? = some fl ∧ fl.offset = o ∧ Tryz.prog.info? fl.type = some i ∧ i.size ≠ 0 := by
 intro t j o h
 unfold C7j at h
 obtain ⟨l, h1, h2⟩ := Option.bind_eq_some_iff.1 h
 obtain ⟨x, h3, rfl⟩ := Option.map_eq_some_iff.1 h2
 obtain ⟨fs, h4, h5⟩ := B0l t l h1
 obtain ⟨fl, i, h6, h7, h8, h9⟩ := A4v fs.toList l h5 j x h3
 refine ⟨fs, fl, i, h4, by simpa using h6, h8, h7, ?_⟩
 have := List.all_eq_true.1 (B7k t l h1) x (List.mem_of_getElem? h3)
 rw [h9]
 simpa using this
theorem D7m (a b c d : Int) (w : World) : (Op.equalIn 10000 107 (.agg #[.int .u32 a, .int .u32 b]) (.agg #[.int .u32 c, .int .u32 d])).run Tryz.prog w = .ok (a == c && b == d) w := by
 have u := Tryz.underlying89
 have hS : Tryz.prog.underlying 107 = some (.struct (Tryz.prog.fieldsOf 107)) := by kernel_rfl
 have hp : Tryz.prog.stoodInHeld 107 = false := by kernel_rfl
 obtain ⟨i, h1, h2⟩ : ∃ i, Tryz.prog.info? 89 = some i ∧ i.size = 1 := by
  obtain ⟨i, h1, h2⟩ := Option.map_eq_some_iff.1 (show (Tryz.prog.info? 89).map (fun i => i.size) = some 1 by kernel_rfl)
  exact ⟨i, h1, h2⟩
 have hz : ∀ w, (sizeOf 89).run Tryz.prog w = .ok 1 w := fun w => by simp [sizeOf, typeInfo, h1, h2]
 rw [show (10000 : Nat) = 9999 + 1 from rfl, run_equalIn_agg w 9999 107 _ _ hS hp]
 simp only [Program.fieldsOf, Tryz.underlying107]
 have hA : ∀ w, (isAgg 89).run Tryz.prog w = .ok false w := fun w => by simp [isAgg, run_underlying u]
 have e : ∀ (a c : Int) (w : World), (Op.equalIn 9999 89 (.int .u32 a) (.int .u32 c)).run Tryz.prog w = .ok (a == c) w := fun a c w => run_equalIn_int w 9998 89 .u32 .u32 a c u
 simp [Op.eqFields, part, hA, hz, e]
 by_cases h1 : a = c <;> by_cases h2 : b = d <;> simp [h1, h2]
instance : Go.Hy.Tab Tryz.prog := ⟨C7h, C2u, C7i, C2v, C7j, C2w, B3i, B0l, by kernel_rfl, 107, D7m, by kernel_rfl⟩
noncomputable def fC' : Array Field := match Tryz.prog.underlying 107 with | some (.struct fs) => fs | _ => #[]
noncomputable def fT' : Array Field := match Tryz.prog.underlying 26 with | some (.struct fs) => fs | _ => #[]
noncomputable def fB' : Array Field := match Tryz.prog.underlying 77 with | some (.struct fs) => fs | _ => #[]
noncomputable instance : Go.Hy.TyF Tryz.prog := { tI := 3, tS := 9, tU := 89, tC := 107, tT := 26, tB := 77, lC := 22, lT := 23, lB := 24, fC := fC', fT := fT', fB := fB', uI := Tryz.underlying3, uS := Tryz.underlying9, uU := Tryz.underlying89, uC := by kernel_rfl, uT := by kernel_rfl, uB := by kernel_rfl, ulC := Tryz.underlying22, ulT := Tryz.underlying23, ulB := Tryz.underlying24, pC := by kernel_rfl, pT := by kernel_rfl, pB := by kernel_rfl, c1 := ⟨by kernel_rfl, by kernel_rfl, by kernel_rfl, by kernel_rfl, by kernel_rfl, by kernel_rfl⟩, c2 := ⟨by kernel_rfl, by kernel_rfl, by kernel_rfl⟩, b2 := ⟨by kernel_rfl, by kernel_rfl, by kernel_rfl⟩ }
theorem laid' : laidOutB Tryz.prog = true := by kernel_rfl
noncomputable instance : Go.Hy.TabM Tryz.prog := { law := deep_law_laid laid' (m := 3) (by omega) (of_decide_eq_true (by kernel_rfl)) (by kernel_rfl) (by kernel_rfl), kt := by kernel_rfl, names := by kernel_rfl, npos := of_decide_eq_true (by kernel_rfl) }
end Go.Proofs.YtibignmpjeemeaaGreatDoor.Hy
namespace Go.Hy
theorem size_pos' (t : T) : 1 ≤ size t := by
 rw [size_eq]
 have : ∀ (l : List Part) (a : Nat), a ≤ l.foldl (fun a p => a + size p.1) a := by
  intro l
  induction l with
  | nil => intro a; exact Nat.le_refl _
  | cons p l ih => intro a; exact Nat.le_trans (Nat.le_add_right _ _) (ih _)
 exact this _ _
end Go.Hy
namespace Go.Hy
theorem Wl (k i : Int) : 0 ≤ (binds k i).1 ∧ (binds k i).1 ≤ 1 ∧ 0 ≤ (binds k i).2 ∧ (binds k i).2 ≤ 1 := by
 unfold binds
 repeat (first | split | (refine ⟨?_, ?_, ?_, ?_⟩ <;> simp))
theorem B8s {t : T} {p : Part} (h : p ∈ parts t) : 0 ≤ p.2.1 ∧ p.2.1 ≤ 1 ∧ 0 ≤ p.2.2 ∧ p.2.2 ≤ 1 := by
 unfold parts at h
 rcases List.mem_append.mp h with h | h
 ·have : ∀ (ks : List T) (i : Nat), p ∈ Dg t.kind i ks → 0 ≤ p.2.1 ∧ p.2.1 ≤ 1 ∧ 0 ≤ p.2.2 ∧ p.2.2 ≤ 1 := by
   intro ks
   induction ks with
   | nil => intro i h; simp [Dg] at h
   | cons k ks ih =>
    intro i h
    rcases List.mem_cons.mp h with e | h
    ·subst e; exact Wl _ _
    ·exact ih _ h
  exact this _ _ h
 ·have : ∀ (bs : List Br), p ∈ Co t.kind bs → 0 ≤ p.2.1 ∧ p.2.1 ≤ 1 ∧ 0 ≤ p.2.2 ∧ p.2.2 ≤ 1 := by
   intro bs
   induction bs with
   | nil => intro h; simp [Co] at h
   | cons b bs ih =>
    intro h
    rcases List.mem_append.mp h with h | h
    ·obtain ⟨k, _, e⟩ := List.mem_map.mp h
     subst e
     show 0 ≤ (0 : Int) ∧ (0 : Int) ≤ 1 ∧ 0 ≤ more t.kind ∧ more t.kind ≤ 1
     unfold more
     split <;> omega
    ·exact ih h
  exact this _ h
theorem M1 {t : T} {p : Part} (h : p ∈ parts t) : size p.1 < size t := by
 obtain ⟨m, hm, e⟩ := List.mem_iff_getElem.mp h
 have h1 := Ih (t := t) (m := m) (p := p) (by rw [List.getElem?_eq_getElem hm, e])
 have h2 : 1 ≤ Bl t m := by
  unfold Bl Jc
  have : ∀ (l : List Part) (a : Nat), a ≤ l.foldl (fun a p => a + size p.1) a := by
   intro l
   induction l with
   | nil => intro a; exact Nat.le_refl _
   | cons p l ih => intro a; exact Nat.le_trans (Nat.le_add_right _ _) (ih _)
  exact this _ _
 omega
end Go.Hy
namespace Go.Hy
@[simp] theorem qE_def (q : QP) : qE q = RT q.1.1 q.1.2.1 q.1.2.2.1 q.1.2.2.2 := rfl
@[simp] theorem ipE_def (q : IP) : ipE q = IL q.1 q.2 := rfl
end Go.Hy
namespace Go.Hy
section
variable {α : Type} {B : C2} {Γ : List Fact} {Ms : List B2} {w : World} {E : α → Fact} {l : List α}
end
end Go.Hy
namespace Go.Hy
theorem Ko {t : T} (h : B0 t = 0) : size t ≤ 20000 := by
 unfold B0 at h
 split at h
 ·rename_i hs; exact absurd h hs
 ·rename_i hs
  simp only [ne_eq, Decidable.not_not, sized] at hs
  split at hs
  ·cases hs
  ·split at hs
   ·cases hs
   ·omega
theorem St.D4b {B : C2} {Γ : List Fact} {Ms : List B2} {w : World} {b : Nat} {e : TypeId} {cs : List Value} (l : List Int) (hs : St B Γ (Aa b cs e :: Ms) w) {hBp : Prop} (hB : hBp) (hc : cs = G4 l) (hn : l.length ≤ 1000) (hu : ∀ c, c ∈ l → Ap c) : St B (IL l (some ⟨b, 0, Option.none⟩, l.length) :: Γ) Ms w :=
 (hs.He (sz := 1) (m := l.length) (by rw [hc, K5 Rl l]) (by unfold maxLen; omega)).Ng hB hc rfl (by unfold reach; omega) hu
end Go.Hy
namespace Go.Hy
open Go Go.ChangeShapes Go.WideShapes Go.RowKit
variable {P : Program} {H : Type} {enc : TypeId × Value → H} {W : World} {base : Nat} {v : Value} {d : DataW H} {ps : List MemPlace} [TyF P]
theorem A5x : ∀ x, (Be x).length = 1 := fun _ => rfl
theorem D1z {t tD : TypeId} {fs : Array Field} (hu : P.underlying t = some (.struct fs)) (hp : fs.toList.map (fun f => (f.offset, f.type)) = [(0, TyF.lT P), (1, tD)]) (hc : P.cellsOf t = 2) (hD : P.underlying tD = some (.slice (TyF.lC P))) (hDc : P.cellsOf tD = 1) (hDb : P.bytesOf (TyF.lC P) = 24) (hval : Value.okWide P W .any base t v) (h : DataW.Trod enc P W 0 (fun _ => true) true t v d ps) (hl : Kn P t d) : ∃ (l : List T) (a : SH) (m : List CP) (am : SH), v = .agg #[sl a l.length, sl am m.length] ∧ A3d (okw W) l a W ∧ (Ir m am).f (okw W) W := by
 obtain ⟨cs, rfl, _⟩ := okWide_struct hu hval
 obtain ⟨fuel, hf⟩ := h
 cases fuel with
 | zero => cases hf
 | succ fuel =>
  obtain ⟨h1, h2⟩ := Kg hu hp hf hl
  rw [hc] at h1
  obtain ⟨d0, p0, r0, l0⟩ := h2 0 _ rfl
  obtain ⟨d1, p1, r1, l1⟩ := h2 1 _ rfl
  obtain ⟨ks, vk, e0, hks⟩ := (Yh fuel).2.1 _ _ _ r0 l0
  cases fuel with
  | zero => cases r1
  | succ fuel =>
   obtain ⟨xs, am, e1, hm, hq⟩ := R4 (sp := fun _ => true) Be (fun p : CP => Ie (okw W) p.1 p.2 W) Bv A5x A2 hD TyF.c1.2.2.2.1 hDb (fun cs d ps h hl => by
    obtain ⟨l, a, h5, h6⟩ := A0p h hl
    exact ⟨(l, a), h5, h6⟩) r1 l1
   obtain ⟨c1, c2, c3, c4, c5, c6⟩ := TyF.c1 (P := P)
   simp only [c5, hDc] at e0 e1
   have f0 := J8 e0
   have f1 := J8 e1
   refine ⟨ks, vk, xs, am, ?_, hks, ⟨hm, hq⟩⟩
   have h3 : (Value.agg cs).cells.toList = [sl vk ks.length, sl am xs.length] := Km (by rw [h1]; rfl) (fun i hi => by
    match i with
    | 0 => exact f0
    | 1 => exact f1
    | i + 2 => simp at hi; omega)
   have h4 : cs.toList = [sl vk ks.length, sl am xs.length] := by simpa [Value.cells] using h3
   rw [show cs = #[sl vk ks.length, sl am xs.length] from by rw [← Array.toArray_toList (xs := cs), h4]]
end Go.Hy
namespace Go.Hy
section
variable {tn : Bool} {pn : Nat} {P : Program} [Tab P] {f : FuncId} {R : Ending → World → Prop} {B : C2} {n : Fz} {K : List Item} {ops : Array Oper} {i : Nat} {l fin : List Nat} {σ : Nat → Value} {Γ : List Fact} {Ms Ms2 : List B2}
variable {dst : Option Tmp} {ty : TypeId}
theorem Kd {c : FuncId} {args cap al : List Value} {av : Array Operand} {ts : Array TypeId} {g : Operand} {pre : List Fact} {X : Type} {val : X → Value} {N : X → List Fact} {Ms1 : X → List B2}
  (hc : ∀ (args : Array Value) (w : World), (callFunc c args).run P w = .ok (.enter c args) w) (hsp : Spec P c al.toArray pre [] val N Ms1) (kk : ∀ x, NV tn pn P f R B n K ops fin l (Ai σ dst (val x)) (N x ++ Γ) (Ms1 x ++ Ms))
  (hg : ev σ g = .func (.func c) #[] cap.toArray := by rfl) (ha : av.toList.map (ev σ) = args := by rfl) (hal : args ++ cap = al := by rfl) (hpre : ∀ F, F ∈ pre → F ∈ Γ := by first | (simp; done) | (simp +contextual; done)) (hd : A8 n dst = true := by rfl) : I4 tn pn P f R B n K ops fin i l dst (.call { callee := .value g, args := av, argTypes := ts }) ty σ Γ Ms :=
 B1o (A9c hg ha hc) (hal ▸ hsp) hpre rfl rfl hd kk
end
end Go.Hy
namespace Go.Proofs
open Go.Shelf
def Tryz.S8 : Go.Shelf.Ren := ⟨fun | 6 => 201 | 15 => 253 | 14 => 252 | 28 => 289 | 29 => 290 | 20 => 281 | 21 => 282 | 22 => 283 | 23 => 284 | 24 => 285 | 25 => 286 | 26 => 287 | 27 => 288 | 46 => 300 | 47 => 301 | 48 => 302 | 49 => 303 | 50 => 304 | 57 => 307 | n => n, fun | 22 => 22 | 24 => 107 | 25 => 177 | 3 => 3 | 39 => 91 | 0 => 0 | 53 => 89 | 55 => 217 | 4 => 4 | 46 => 221 | 45 => 220 | 50 => 225 | 5 => 5 | 9 => 9 | 66 => 233 | 70 => 237 | 76 => 239 | 77 => 86 | n => n, fun | n => n⟩
theorem Tryz.C5w : Go.Proofs.SlLaysF0.n6 Tryz.prog Tryz.S8 := {
 mixed := by kernel_rfl
 f6 := ⟨Tryz.f201.name, by decide, Tryz.func201.trans (congrArg some (by kernel_rfl))⟩
 f14 := ⟨Tryz.f252.name, by decide, Tryz.func252.trans (congrArg some (by kernel_rfl))⟩
 f15 := Tryz.func253.trans (congrArg some (by kernel_rfl))
 f20 := ⟨Tryz.f281.name, by decide, Tryz.func281.trans (congrArg some (by kernel_rfl))⟩
 f21 := ⟨Tryz.f282.name, by decide, Tryz.func282.trans (congrArg some (by kernel_rfl))⟩
 f22 := ⟨Tryz.f283.name, by decide, Tryz.func283.trans (congrArg some (by kernel_rfl))⟩
 f23 := ⟨Tryz.f284.name, by decide, Tryz.func284.trans (congrArg some (by kernel_rfl))⟩
 f24 := ⟨Tryz.f285.name, by decide, Tryz.func285.trans (congrArg some (by kernel_rfl))⟩
 f25 := ⟨Tryz.f286.name, by decide, Tryz.func286.trans (congrArg some (by kernel_rfl))⟩
 f26 := ⟨Tryz.f287.name, by decide, Tryz.func287.trans (congrArg some (by kernel_rfl))⟩
 f27 := ⟨Tryz.f288.name, by decide, Tryz.func288.trans (congrArg some (by kernel_rfl))⟩
 f28 := Tryz.func289.trans (congrArg some (by kernel_rfl))
 f29 := Tryz.func290.trans (congrArg some (by kernel_rfl))
 f46 := ⟨Tryz.f300.name, by decide, Tryz.func300.trans (congrArg some (by kernel_rfl))⟩
 f47 := Tryz.func301.trans (congrArg some (by kernel_rfl))
 f48 := Tryz.func302.trans (congrArg some (by kernel_rfl))
 f49 := ⟨Tryz.f303.name, by decide, Tryz.func303.trans (congrArg some (by kernel_rfl))⟩
 f50 := ⟨Tryz.f304.name, by decide, Tryz.func304.trans (congrArg some (by kernel_rfl))⟩
 f57 := ⟨Tryz.f307.name, by decide, Tryz.func307.trans (congrArg some (by kernel_rfl))⟩
 t0 := Tryz.underlying0
 a0 := Tryz.isAgg0
 z0 := Tryz.sizeOf0
 v0 := Tryz.zeroValue0
 t3 := Tryz.underlying3
 a3 := Tryz.isAgg3
 z3 := Tryz.sizeOf3
 v3 := Tryz.zeroValue3
 t4 := Tryz.underlying4
 a4 := Tryz.isAgg4
 z4 := Tryz.sizeOf4
 v4 := Tryz.zeroValue4
 t5 := Tryz.underlying5
 a5 := Tryz.isAgg5
 z5 := Tryz.sizeOf5
 v5 := Tryz.zeroValue5
 t9 := Tryz.underlying9
 a9 := Tryz.isAgg9
 z9 := Tryz.sizeOf9
 v9 := Tryz.zeroValue9
 t22 := Tryz.underlying22
 a22 := Tryz.isAgg22
 z22 := Tryz.sizeOf22
 v22 := Tryz.zeroValue22
 t25 := Tryz.underlying177
 a25 := Tryz.isAgg177
 z25 := Tryz.sizeOf177
 v25 := Tryz.zeroValue177
 t39 := Tryz.underlying91
 a39 := Tryz.isAgg91
 z39 := Tryz.sizeOf91
 v39 := Tryz.zeroValue91
 t45 := Tryz.underlying220
 a45 := Tryz.isAgg220
 z45 := Tryz.sizeOf220
 v45 := Tryz.zeroValue220
 t46 := Tryz.underlying221
 a46 := Tryz.isAgg221
 z46 := Tryz.sizeOf221
 v46 := Tryz.zeroValue221
 t50 := Tryz.underlying225
 a50 := Tryz.isAgg225
 z50 := Tryz.sizeOf225
 v50 := Tryz.zeroValue225
 t53 := Tryz.underlying89
 a53 := Tryz.isAgg89
 z53 := Tryz.sizeOf89
 v53 := Tryz.zeroValue89
 t55 := Tryz.underlying217
 a55 := Tryz.isAgg217
 z55 := Tryz.sizeOf217
 v55 := Tryz.zeroValue217
 t66 := Tryz.underlying233
 a66 := Tryz.isAgg233
 z66 := Tryz.sizeOf233
 v66 := Tryz.zeroValue233
 t70 := Tryz.underlying237
 a70 := Tryz.isAgg237
 z70 := Tryz.sizeOf237
 v70 := Tryz.zeroValue237
 t76 := Tryz.underlying239
 a76 := Tryz.isAgg239
 z76 := Tryz.sizeOf239
 v76 := Tryz.zeroValue239
 t77 := Tryz.underlying86
 a77 := Tryz.isAgg86
 z77 := Tryz.sizeOf86
 v77 := Tryz.zeroValue86 }
end Go.Proofs
