/- Contracts of this program's functions and the laws that they need. -/
import Derived.Test.YtpfjlbopkhdebaaGreatDoorProg
import Derived.KernelRfl
import Derived.Shelf.SlSortCmp.WholeK
import Derived.Shelf.SlGeneric
import Derived.Ground.SlsfProg
import Derived.Test.YtpfjlbopkhdebaaGreatDoorP3
set_option linter.unusedVariables false
set_option linter.unusedSimpArgs false
set_option linter.unusedSectionVars false
namespace Go.Hy
theorem B2f {a0 a1 a2 a3 a4 a5 a6 a7 a8 a9 a10 a11 m : Bq} {L : List Bq} : (a0 :: a1 :: a2 :: a3 :: a4 :: a5 :: a6 :: a7 :: a8 :: a9 :: a10 :: a11 :: m :: L).Perm (m :: a0 :: a1 :: a2 :: a3 :: a4 :: a5 :: a6 :: a7 :: a8 :: a9 :: a10 :: a11 :: L) := (Ji.cons a0).trans Ah
theorem N3 {a0 a1 a2 a3 a4 a5 a6 a7 a8 a9 a10 a11 a12 m : Bq} {L : List Bq} : (a0 :: a1 :: a2 :: a3 :: a4 :: a5 :: a6 :: a7 :: a8 :: a9 :: a10 :: a11 :: a12 :: m :: L).Perm (m :: a0 :: a1 :: a2 :: a3 :: a4 :: a5 :: a6 :: a7 :: a8 :: a9 :: a10 :: a11 :: a12 :: L) := (B2f.cons a0).trans Ah
theorem N2 {a0 a1 a2 a3 a4 a5 a6 a7 a8 a9 a10 a11 a12 a13 m : Bq} {L : List Bq} : (a0 :: a1 :: a2 :: a3 :: a4 :: a5 :: a6 :: a7 :: a8 :: a9 :: a10 :: a11 :: a12 :: a13 :: m :: L).Perm (m :: a0 :: a1 :: a2 :: a3 :: a4 :: a5 :: a6 :: a7 :: a8 :: a9 :: a10 :: a11 :: a12 :: a13 :: L) := (N3.cons a0).trans Ah
theorem N1 {a0 a1 a2 a3 a4 a5 a6 a7 a8 a9 a10 a11 a12 a13 a14 m : Bq} {L : List Bq} : (a0 :: a1 :: a2 :: a3 :: a4 :: a5 :: a6 :: a7 :: a8 :: a9 :: a10 :: a11 :: a12 :: a13 :: a14 :: m :: L).Perm (m :: a0 :: a1 :: a2 :: a3 :: a4 :: a5 :: a6 :: a7 :: a8 :: a9 :: a10 :: a11 :: a12 :: a13 :: a14 :: L) := (N2.cons a0).trans Ah
def Yf (T : TypeId) (e : Int) : List PanicEntry := [{ v := .iface T (.int .i64 e), recovered := false }]
def Qi (P : Program) (T : TypeId) (k : FuncId) (args : Array Value) (pre : List Fact) {α : Type} (r : Ao α) {X : α → Type} (val : ∀ a : α, X a → Value) (N : ∀ a : α, X a → List Fact) (Ms1 : ∀ a : α, X a → List Bq) : Prop :=
 (∀ a, r = .ok a → Spec P k args pre [] (val a) (N a) (Ms1 a)) ∧ (∀ e, r = .bad e → Tu P k args pre (Yf T e))
def C5u (B : D5) (T : TypeId) {α : Type} (r : Ao α) {X : α → Type} (val : ∀ a : α, X a → Value) (N : ∀ a : α, X a → List Fact) (Ms1 : ∀ a : α, X a → List Bq) (e : Ending) (w' : World) : Prop :=
 (∀ a, r = .ok a → Ends B (val a) (N a) (Ms1 a) e w') ∧ (∀ x, r = .bad x → e = .panicked (Yf T x) ∧ St B [] [] w')
section
variable {P : Program} {f : FuncId} {B : D5} {n : Fz} {K : List Item} {σ : Nat → Value} {Γ : List Fact} {Ms : List Bq} {todo : List Item} {T : TypeId} {α : Type} {X : α → Type} {r : Ao α} {val : ∀ a : α, X a → Value} {N : ∀ a : α, X a → List Fact} {Ms1 : ∀ a : α, X a → List Bq}
theorem G9.E7e {R R' : Ending → World → Prop} (hm : ∀ e w, R e w → R' e w) (h : G9 P f R B n todo σ Γ Ms) : G9 P f R' B n todo σ Γ Ms := fun a w hr hs b cs hb hk => by
 obtain ⟨e, w', fr, hR, hc, hf, hl⟩ := h a w hr hs b cs hb hk
 exact ⟨e, w', fr, hm _ _ hR, hc, hf, hl⟩
theorem go_ok {a : α} (hr : r = .ok a) (h : G9 P f (Ends B (val a) (N a) (Ms1 a)) B n todo σ Γ Ms) : G9 P f (C5u B T r val N Ms1) B n todo σ Γ Ms :=
 G9.E7e (fun e w he => ⟨fun b hb => by rw [hr] at hb; injection hb with hb; subst hb; exact he, fun x hx => by rw [hr] at hx; cases hx⟩) h
theorem W8 {β : Type} (q : Ao β) {R : Ending → World → Prop} (h1 : ∀ a, q = .ok a → G9 P f R B n todo σ Γ Ms) (h2 : ∀ e, q = .bad e → G9 P f R B n todo σ Γ Ms) : G9 P f R B n todo σ Γ Ms := by
 cases hq : q with
 | ok a => exact h1 a hq
 | bad e => exact h2 e hq
theorem B3c {K : List Item} {it : Item} {R : Ending → World → Prop} {Ms' : List Bq} (p : Prop) (live : List (Nat × Value)) (h1 : (p → ∀ σ', Rn σ' live → G9 P f R B n K σ' Γ Ms') → G9 P f R B n (it :: K) σ Γ Ms) (h2 : p → ∀ base, G9 P f R B n K (stL base live) Γ Ms') : G9 P f R B n (it :: K) σ Γ Ms :=
 h1 (fun hp σ' hl => go_slots live hl (h2 hp))
theorem Ll {e : Int} (hr : r = .bad e) : ∀ w, St B [] [] w → C5u B T r val N Ms1 (.panicked (Yf T e)) w := fun w hs =>
 ⟨fun a ha => (by rw [hr] at ha; cases ha), fun x hx => (by rw [hr] at hx; injection hx with hx; subst hx; exact ⟨rfl, hs⟩)⟩
theorem A3a {k : FuncId} {fn : Func} {c : Code} {args : List Value} {pre : List Fact} {n : Nat} (hf : P.funcs[k]? = some fn) (hn : fn.ntmps = n) (hb : fn.body = some c) (ha : args.length ≤ n)
  (h : ∀ B : D5, (∀ b, B.S0 b ↔ C0 [] b) → G9 P k (C5u B T r val N Ms1) B ⟨n, [], .normal⟩ [.code c] (fun t => args.getD t undef) pre []) : Qi P T k args.toArray pre r val N Ms1 := by
 have he : (fun t => args.toArray.getD t undef) = fun t => args.getD t undef := by
  funext t
  simp [Array.getD_eq_getD_getElem?, List.getD_eq_getElem?_getD]
 have key : ∀ ok w, (∀ b, ok b → b < w.heap.size ∧ ¬ C0 [] b) → St ⟨ok, C0 [], w⟩ pre [] w → Calls P k args.toArray w (C5u ⟨ok, C0 [], w⟩ T r val N Ms1) := by
  intro ok w hok hs
  refine B8l (n := ⟨n, [], .normal⟩) hf hb hn rfl rfl (by simpa using ha) hs ?_
  have := h ⟨ok, C0 [], w⟩ (fun _ => Iff.rfl)
  rw [he]
  exact this
 exact ⟨fun a hr ok w hok hs => (key ok w hok hs).mono fun e w' h => h.1 a hr, fun x hr ok w hok hs => (key ok w hok hs).mono fun e w' h => h.2 x hr⟩
end
def Mv (L : List Fact) : Fact := ⟨fun ok w => ∀ F, F ∈ L → F.f ok w, fun ok ok' w hs h F hF => F.mono ok ok' w hs (h F hF), fun ok w w' h hs F hF => F.loc ok w w' (h F hF) hs⟩
section
variable {B : D5} {Γ : List Fact} {Ms : List Bq} {w : World} {L : List Fact}
theorem St.Wj (hs : St B Γ Ms w) (h : ∀ F, F ∈ L → F ∈ Γ) : St B (Mv L :: Γ) Ms w := hs.add (fun F hF => hs.facts F (h F hF))
theorem St.D0f (hs : St B [Mv L] Ms w) : St B L Ms w := ⟨hs.chg, fun F hF => hs.facts _ List.mem_cons_self F hF, hs.res, hs.lt, hs.disj⟩
theorem Spec.Wj {P : Program} {k : FuncId} {args : Array Value} {Ms0 : List Bq} {X : Type} {val : X → Value} {N : X → List Fact} {Ms1 : X → List Bq} (h : Spec P k args L Ms0 val N Ms1) : Spec P k args [Mv L] Ms0 val N Ms1 := fun ok w hok hs => h ok w hok hs.D0f
theorem Tu.Wj {P : Program} {k : FuncId} {args : Array Value} {chain : List PanicEntry} (h : Tu P k args L chain) : Tu P k args [Mv L] chain := fun ok w hok hs => h ok w hok hs.D0f
theorem Qi.Wj {P : Program} {T : TypeId} {k : FuncId} {args : Array Value} {α : Type} {r : Ao α} {X : α → Type} {val : ∀ a : α, X a → Value} {N : ∀ a : α, X a → List Fact} {Ms1 : ∀ a : α, X a → List Bq} (h : Qi P T k args L r val N Ms1) : Qi P T k args [Mv L] r val N Ms1 := ⟨fun a ha => (h.1 a ha).Wj, fun e he => (h.2 e he).Wj⟩
end
section
variable {P : Program} [Tab P] {f : FuncId} {R : Ending → World → Prop} {B : D5} {n : Fz} {K : List Item} {ops : Array Oper} {i : Nat} {l : List Nat} {σ : Nat → Value} {Γ : List Fact} {Ms : List Bq}
variable {dst : Option Tmp} {ty : TypeId} {v : Value} {x y : Operand}
theorem D2m {t : TypeId} {d : TypeDesc} (hu : Tab.und P t = some d) (hd : (match d with | .interface _ => true | _ => false) = false) (hx : ev σ x = v) : Cq P σ (.makeInterface t x) ty (.iface t v) := fun w => by
 cases d <;> first | (simp at hd; done) | simp [Ct, execOp, hx, Instr.makeInterface, E9 hu]
theorem C4n {t : TypeId} {d : TypeDesc} (k_ : Ep P f R B n K ops l (Ay σ dst (.iface t v)) Γ Ms) (hx : ev σ x = v := by exact A7) (hu : Tab.und P t = some d := by rfl) (hdd : (match d with | .interface _ => true | _ => false) = false := by rfl) (hd : Aj n dst = true := by rfl) : Ff P f R B n K ops l (Ct dst (.makeInterface t x) ty) σ Γ Ms := Bi (D2m hu hdd hx) hd k_
theorem C4l {T : TypeId} {e : Int} (hR : ∀ w, St B [] [] w → R (.panicked (Yf T e)) w) (hx : ev σ x = .iface T (.int .i64 e) := by exact A7) (hD : n.defs = [] := by rfl) (hK : okK n.kind := by first | exact .inl rfl | exact .inr rfl) : Ff P f R B n K ops l (Ct dst (.panic x) ty) σ Γ Ms := fun a w hr hs => by
 unfold Oper.wp
 rw [hr.eval]
 have e1 : (execOp (ev σ) (Ct dst (.panic x) ty)).run P w = .halt (.panic (.iface T (.int .i64 e))) w := by
  simp only [Ct, execOp, hx]
  rfl
 rw [e1, Oper.upon_panic]
 refine ⟨hK.imp id (fun h => ⟨h, hr.defs.trans hD⟩), fun fn hfn => ?_⟩
 rw [hr.defs, hD]
 exact hR w (St.Qe (A := Ms) (Ms := []) (by rw [List.append_nil]; exact hs.less (fun F hF => by cases hF)))
theorem D8d {c : FuncId} {cap : List Value} {ts : Array TypeId} {g : Operand} (k_ : Ep P f R B ⟨n.sz, ⟨.fn (.func c) cap.toArray, #[]⟩ :: n.defs, n.kind⟩ K ops l σ Γ Ms) (hg : ev σ g = .func (.func c) #[] cap.toArray := by rfl) : Ff P f R B n K ops l (Ct none (.defer { callee := .value g, args := #[], argTypes := ts }) ty) σ Γ Ms := fun a w hr hs => by
 unfold Oper.wp
 rw [hr.eval]
 have e1 : (execOp (ev σ) (Ct none (.defer { callee := .value g, args := #[], argTypes := ts }) ty)).run P w = .ok (.defer ⟨.fn (.func c) cap.toArray, #[]⟩) w := by
  simp [Ct, execOp, resolve, hg, Deferred.ofValue]
 rw [e1, Oper.upon_defer]
 exact k_ _ _ ⟨hr.size, hr.get, by show _ :: a.defers = _; rw [hr.defs]⟩ hs
end
def Yq (P : Program) (k : FuncId) (args : Array Value) (pre : List Fact) (Ms0 : List Bq) (u u' : FrameMode) (N : List Fact) (Ms1 : List Bq) : Prop :=
 ∀ ok w, (∀ b, ok b → b < w.heap.size ∧ ¬ C0 Ms0 b) → St ⟨ok, C0 Ms0, w⟩ pre Ms0 w → CallsD P k args u w fun e v w' => e = .returned (.tuple #[]) ∧ v = u' ∧ St ⟨ok, C0 Ms0, w⟩ N Ms1 w'
section
variable {P : Program} {f : FuncId} {fn : Func} {R : Ending → World → Prop} {B : D5} {n : Fz} {K : List Item} {σ : Nat → Value} {Γ : List Fact} {Ms : List Bq}
theorem C4y {k : FuncId} {cap : List Value} {pre N : List Fact} {Ms0 Ms1 Ms2 : List Bq} {u u' : FrameMode} {tmps : Array Value} {w : World} (hu : u ≠ .run) (hc : ∀ (args : Array Value) (w : World), (callFunc k args).run P w = .ok (.enter k args) w) (hsp : Yq P k cap.toArray pre Ms0 u u' N Ms1) (hpre : ∀ F, F ∈ pre → F ∈ Γ) (hm : Ms.Perm (Ms0 ++ Ms2)) (hset : settle u' = .returning)
  (hs : St B Γ Ms w) (hres : ∀ w', St B (N ++ Γ) (Ms1 ++ Ms2) w' → ∃ v, (results fn tmps).run P w' = .ok v w' ∧ R (.returned v) w') : Leaves P fn tmps R [⟨.fn (.func k) cap.toArray, #[]⟩] u w := by
 refine leaves_cons (f := k) (args := cap.toArray) hu (by simp [invoke, hc]) ?_
 have hs' := hs.perm hm
 refine (hsp (Rw B (Ms0 ++ Ms2) w) w ?_ (hs'.hand hpre)).mono ?_
 ·intro b hb
  exact ⟨hb.2.1, fun hc => hb.2.2 (F2.2 (.inl hc))⟩
 ·rintro e v w' ⟨rfl, rfl, hx⟩
  show Leaves P fn tmps R [] (settle v) w'
  rw [hset]
  obtain ⟨v', h1, h2⟩ := hres w' (hs'.frame hx)
  exact ⟨v', h1, h2⟩
theorem D8q {k : FuncId} {cap : List Value} {pre N : List Fact} {Ms0 Ms1 Ms2 : List Bq} (hf : P.funcs[f]? = some fn) (hc : ∀ (args : Array Value) (w : World), (callFunc k args).run P w = .ok (.enter k args) w) (hsp : Yq P k cap.toArray pre Ms0 .returning .returning N Ms1) (hpre : ∀ F, F ∈ pre → F ∈ Γ) (hm : Ms.Perm (Ms0 ++ Ms2))
  (hres : ∀ a w', Rel n a σ → St B (N ++ Γ) (Ms1 ++ Ms2) w' → ∃ v, (results fn a.tmps).run P w' = .ok v w' ∧ R (.returned v) w') (hD : n.defs = [⟨.fn (.func k) cap.toArray, #[]⟩] := by rfl) (hK : n.kind = .normal := by rfl) : G9 P f R B n (.code .ret :: K) σ Γ Ms := by
 intro a w hr hs b cs hb hk
 have hfn : P.funcs[b.fn]? = some fn := by rw [hb]; exact hf
 have hL : Leaves P fn a.tmps R a.defers .returning w := by
  rw [hr.defs, hD]
  exact C4y Ec hc hsp hpre hm rfl hs (fun w' h => hres a w' hr h)
 obtain ⟨e, w', fr, hR, hs', hf', hl⟩ := leaves_steps a.defers .returning w { b.at a (.code .ret :: K) with mode := .returning } cs rfl rfl rfl hfn (hk.trans hK) hL
 exact ⟨e, w', fr, hR, hs'.of_steps (.one step_ret), hf'.trans hb, .inl ⟨hK, hl⟩⟩
theorem D7w {ops : Array Oper} {l : List Nat} {dst : Option Tmp} {op : Op} {ty : TypeId} {c k : FuncId} {args : Array Value} {cap : List Value} {pre pre2 N : List Fact} {chain : List PanicEntry} {Ms0 Ms1 Ms2 : List Bq} {u' : FrameMode} (he : Tv P σ op ty c args) (hsp : Tu P c args pre chain) (hpre : ∀ F, F ∈ pre → F ∈ Γ) (hf : P.funcs[f]? = some fn)
  (hc : ∀ (args : Array Value) (w : World), (callFunc k args).run P w = .ok (.enter k args) w) (hsd : Yq P k cap.toArray pre2 Ms0 (.panicking chain) u' N Ms1) (hpre2 : ∀ F, F ∈ pre2 → F ∈ Γ) (hm : Ms.Perm (Ms0 ++ Ms2)) (hset : settle u' = .returning)
  (hres : ∀ a w', Rel n a σ → St B (N ++ Γ) (Ms1 ++ Ms2) w' → ∃ v, (results fn a.tmps).run P w' = .ok v w' ∧ R (.returned v) w') (hD : n.defs = [⟨.fn (.func k) cap.toArray, #[]⟩] := by rfl) (hK : n.kind = .normal := by rfl) : Ff P f R B n K ops l (Ct dst op ty) σ Γ Ms := by
 intro a w hr hs
 unfold Oper.wp
 rw [hr.eval, show (execOp (ev σ) (Ct dst op ty)).run P w = .ok (.enter c args) w by rw [Ct, G4 (d' := none)]; exact he w]
 have hs' : St B Γ ([] ++ Ms) w := hs
 refine (hsp (Rw B ([] ++ Ms) w) w (fun b hb => ⟨hb.2.1, Jm b⟩) (hs'.hand hpre)).mono ?_
 rintro e w' ⟨rfl, hx⟩
 refine ⟨.inl hK, fun fn' hfn' => ?_⟩
 rw [hf] at hfn'
 injection hfn' with hfn'
 subst hfn'
 rw [hr.defs, hD]
 have h1 : St B Γ Ms w' := by have := hs'.frame hx; simpa using this
 exact C4y Ec hc hsd hpre2 hm hset h1 (fun w' h => hres a w' hr h)
end
section
variable {P : Program} {f : FuncId} {fn : Func} {B : D5} {Γ : List Fact} {Ms : List Bq}
theorem C2f {R : Ending → World → Prop} {n : Fz} {args : Array Value} {c : Code} {w : World} {d d2 : Tmp} {o1 o2 : Oper} {id : Nat} (hf : P.funcs[f]? = some fn) (hb : fn.body = some (.seq (.region id #[o1, o2] false) c)) (hn : fn.ntmps = n.sz) (hD : n.defs = []) (hk : n.kind = .deferred) (ha : args.size ≤ n.sz) (hs : St B Γ Ms w)
  (h1 : ∀ ρ w, (execOp ρ o1).run P w = .ok .recover w) (hd1 : o1.dst = some d) (hg1 : o1.guard = none) (h2 : ∀ ρ : Operand → Value, execOp ρ o2 = pure (.value (ρ (.tmp d)))) (hd2 : o2.dst = some d2) (hg2 : o2.guard = none) (hl1 : Nat.blt d n.sz = true) (hl2 : Nat.blt d2 n.sz = true)
  (h : G9 P f R B n [.code c] (Ul (Ul (fun t => args.getD t undef) d .nilIface) d2 .nilIface) Γ Ms) : CallsD P f args .returning w fun e u' w' => u' = .returning ∧ R e w' := by
 intro c0 cs hu
 let b : Frame := { (default : Frame) with fn := f, kind := .deferred }
 have henter : Frame.enter P f args .deferred = b.at { tmps := args ++ Array.replicate (fn.ntmps - args.size) undef, defers := [] } [.code (.seq (.region id #[o1, o2] false) c)] := by
  simp [Frame.enter, Frame.at, hf, hb, b]
 have hr0 := Za (fn := fn) hn hD ha
 have hr1 := hr0.put (dst := some d) hl1 .nilIface
 have hr2 := hr1.put (dst := some d2) hl2 .nilIface
 have hS : wpOpsS P #[o1, o2] (fun e a' cs' w' => e = .normal ∧ a' = (({ tmps := args ++ Array.replicate (fn.ntmps - args.size) undef, defers := [] } : Act).put (some d) .nilIface).put (some d2) .nilIface ∧ cs' = c0 :: cs ∧ w' = w) [0, 1] { tmps := args ++ Array.replicate (fn.ntmps - args.size) undef, defers := [] } (c0 :: cs) w := by
  have e1 : (#[o1, o2])[0]? = some o1 := rfl
  have e2 : (#[o1, o2])[1]? = some o2 := rfl
  have hrec : recoverD (c0 :: cs) = none := by simp [recoverD, hu]
  have hput : ((({ tmps := args ++ Array.replicate (fn.ntmps - args.size) undef, defers := [] } : Act).put (some d) .nilIface).eval (.tmp d)) = .nilIface := by
   rw [hr1.eval]; simp [ev, Ay, Lx]
  simp only [wpOpsS, e1, e2, Region.wanted, hg1, hg2, if_true, h1, hrec, hd1, h2]
  rw [hput]
  show Oper.upon P o2 _ _ _ (.ok (.value .nilIface) w)
  simp only [Oper.upon_value, hd2, and_self]
 obtain ⟨e, a', cs', w', ⟨rfl, rfl, rfl, rfl⟩, harr⟩ := wp_opsS [0, 1] _ _ _ hS b [.code c] rfl rfl
 obtain ⟨e, w2, fr, hR, hc, hf', hl⟩ := h _ w' hr2 hs b (c0 :: cs) rfl hk.symm
 rcases hl with ⟨h9, _⟩ | ⟨_, hk2, hgo⟩
 ·rw [hk] at h9; cases h9
 ·refine ⟨e, .returning, w2, fr, ⟨rfl, hR⟩, ?_, hk2, hgo⟩
  have hc0 : ({ c0 with mode := .returning } : Frame) = c0 := by rw [← hu]
  rw [henter, hc0]
  exact hc.of_steps (.head step_seq (.head step_region harr))
theorem B0m {args : List Value} {d d2 : Nat} {v : Value} : (Ul (Ul (fun t => args.toArray.getD t undef) d v) d2 v) = Ul (Ul (fun t => args.getD t undef) d v) d2 v := by
 have he : (fun t => args.toArray.getD t undef) = fun t => args.getD t undef := by
  funext t
  simp [Array.getD_eq_getD_getElem?, List.getD_eq_getElem?_getD]
 rw [he]
theorem D0p {args : List Value} {c : Code} {d d2 sz : Nat} {o1 o2 : Oper} {id : Nat} {v : Value} {older : List PanicEntry} {N pre : List Fact} {Ms0 Ms1 : List Bq} (hf : P.funcs[f]? = some fn) (hb : fn.body = some (.seq (.region id #[o1, o2] false) c)) (hn : fn.ntmps = sz) (ha : args.length ≤ sz)
  (h1 : ∀ ρ w, (execOp ρ o1).run P w = .ok .recover w) (hd1 : o1.dst = some d) (hg1 : o1.guard = none) (h2 : ∀ ρ : Operand → Value, execOp ρ o2 = pure (.value (ρ (.tmp d)))) (hd2 : o2.dst = some d2) (hg2 : o2.guard = none) (hl1 : Nat.blt d sz = true) (hl2 : Nat.blt d2 sz = true)
  (h : ∀ B : D5, (∀ b, B.S0 b ↔ C0 Ms0 b) → G9 P f (Ends B (fun _ : Unit => .tuple #[]) (fun _ => N) (fun _ => Ms1)) B ⟨sz, [], .deferred⟩ [.code c] (Ul (Ul (fun t => args.getD t undef) d v) d2 v) pre Ms0) :
  Yq P f args.toArray pre Ms0 (.panicking ({ v, recovered := false } :: older)) (.panicking ({ v, recovered := true } :: older)) N Ms1 := by
 intro ok w hok hs
 refine (C9g (n := ⟨sz, [], .deferred⟩) hf hb hn rfl rfl (by simpa using ha) hs h1 hd1 hg1 h2 hd2 hg2 hl1 hl2 (by rw [B0m]; exact h ⟨ok, C0 Ms0, w⟩ (fun _ => Iff.rfl))).mono ?_
 rintro e u w' ⟨rfl, _, he, hx⟩
 exact ⟨he, rfl, hx⟩
theorem C6l {args : List Value} {c : Code} {d d2 sz : Nat} {o1 o2 : Oper} {id : Nat} {N pre : List Fact} {Ms0 Ms1 : List Bq} (hf : P.funcs[f]? = some fn) (hb : fn.body = some (.seq (.region id #[o1, o2] false) c)) (hn : fn.ntmps = sz) (ha : args.length ≤ sz)
  (h1 : ∀ ρ w, (execOp ρ o1).run P w = .ok .recover w) (hd1 : o1.dst = some d) (hg1 : o1.guard = none) (h2 : ∀ ρ : Operand → Value, execOp ρ o2 = pure (.value (ρ (.tmp d)))) (hd2 : o2.dst = some d2) (hg2 : o2.guard = none) (hl1 : Nat.blt d sz = true) (hl2 : Nat.blt d2 sz = true)
  (h : ∀ B : D5, (∀ b, B.S0 b ↔ C0 Ms0 b) → G9 P f (Ends B (fun _ : Unit => .tuple #[]) (fun _ => N) (fun _ => Ms1)) B ⟨sz, [], .deferred⟩ [.code c] (Ul (Ul (fun t => args.getD t undef) d .nilIface) d2 .nilIface) pre Ms0) :
  Yq P f args.toArray pre Ms0 .returning .returning N Ms1 := by
 intro ok w hok hs
 refine (C2f (n := ⟨sz, [], .deferred⟩) hf hb hn rfl rfl (by simpa using ha) hs h1 hd1 hg1 h2 hd2 hg2 hl1 hl2 (by rw [B0m]; exact h ⟨ok, C0 Ms0, w⟩ (fun _ => Iff.rfl))).mono ?_
 rintro e u w' ⟨rfl, _, he, hx⟩
 exact ⟨he, rfl, hx⟩
end
section
variable {P : Program} [Tab P] {f : FuncId} {R : Ending → World → Prop} {B : D5} {n : Fz} {K : List Item} {ops : Array Oper} {i : Nat} {l : List Nat} {σ : Nat → Value} {Γ : List Fact} {Ms : List Bq}
variable {dst : Option Tmp} {ty : TypeId} {v : Value} {x y : Operand}
theorem A7o {t : TypeId} (hu : (match Tab.und P t with | some (.interface _) => true | _ => false) = true) : ∃ m, Tab.und P t = some (.interface m) := by
 cases h : Tab.und P t with
 | none => rw [h] at hu; cases hu
 | some d => cases d <;> rw [h] at hu <;> first | exact ⟨_, rfl⟩ | cases hu
theorem D1f {t T : TypeId} {v : Value} (hu : (match Tab.und P t with | some (.interface _) => true | _ => false) = true) (w : World) : (Op.equal t (.iface T v) .nilIface).run P w = .ok false w := by
 obtain ⟨m, hu'⟩ := A7o hu
 have h1 : (Op.equalIn (9999 + 1) t (.iface T v) .nilIface).run P w = .ok false w := by
  unfold Op.equalIn
  rw [Ab (E9 hu' w)]
  rfl
 exact h1
theorem D1e {t : TypeId} (hu : (match Tab.und P t with | some (.interface _) => true | _ => false) = true) (w : World) : (Op.equal t .nilIface .nilIface).run P w = .ok true w := by
 obtain ⟨m, hu'⟩ := A7o hu
 have h1 : (Op.equalIn (9999 + 1) t .nilIface .nilIface).run P w = .ok true w := by
  unfold Op.equalIn
  rw [Ab (E9 hu' w)]
  rfl
 exact h1
theorem C7s {t t' T : TypeId} (k_ : Ep P f R B n K ops l (Ay σ dst (.bool true)) Γ Ms) (hx : ev σ x = .iface T v := by exact A7) (hu : (match Tab.und P t with | some (.interface _) => true | _ => false) = true := by rfl) (hd : Aj n dst = true := by rfl) : Ff P f R B n K ops l (Ct dst (.binOp .neq t x (.const .nilIface) t') ty) σ Γ Ms := Bi (E6 hx (show ev σ (.const .nilIface) = Value.nilIface from rfl) (fun w => by simp [eqGuard_at_iface]) (fun w => by
 simp only [binOp]
 rw [Ab (D1f hu w)]; rfl)) hd k_
theorem D8a {t t' : TypeId} (k_ : Ep P f R B n K ops l (Ay σ dst (.bool false)) Γ Ms) (hx : ev σ x = .nilIface := by exact A7) (hu : (match Tab.und P t with | some (.interface _) => true | _ => false) = true := by rfl) (hd : Aj n dst = true := by rfl) : Ff P f R B n K ops l (Ct dst (.binOp .neq t x (.const .nilIface) t') ty) σ Γ Ms := Bi (E6 hx (show ev σ (.const .nilIface) = Value.nilIface from rfl) (fun w => by cases x <;> rfl) (fun w => by
 simp only [binOp]
 rw [Ab (D1e hu w)]; rfl)) hd k_
theorem C7r {t T : TypeId} {d : TypeDesc} (k_ : Ep P f R B n K ops l (Ay σ dst (.tuple #[v, .bool true])) Γ Ms) (hx : ev σ x = .iface T v := by exact A7) (hu : Tab.und P T = some d := by rfl) (hdd : (match d with | .interface _ => true | _ => false) = false := by rfl) (hd : Aj n dst = true := by rfl) : Ff P f R B n K ops l (Ct dst (.typeAssert x t T true) ty) σ Γ Ms := Bi (fun w => by
 cases d <;> first | (simp at hdd; done) | simp [Ct, execOp, hx, Instr.typeAssert, E9 hu]) hd k_
end
section
variable {P : Program} [Tab P] {f : FuncId} {fn : Func} {B : D5} {n : Fz} {K : List Item} {σ : Nat → Value} {Γ : List Fact} {Ms : List Bq} {X : Type} {val : X → Value} {N : X → List Fact} {Ms1 : X → List Bq}
theorem W0 {r t T r2 t2 T2 b b2 s bt : Nat} {zv v2 : Value} {d : TypeDesc} {lay : List (Nat × Nat)} {cs : List Value} {a : Act} {w : World} (hr : fn.results = #[.cell r t, .cell r2 t2]) (ha : Rel n a σ) (hs : St B Γ Ms w) (hb : σ r = .pointer (some ⟨b, 0, none⟩)) (hb2 : σ r2 = .pointer (some ⟨b2, 0, none⟩)) (hm : Ae b cs T ∈ Ms) (hm2 : Ae b2 [v2] T2 ∈ Ms)
  (hl : Tab.lay P t = some lay) (hi : Tab.inf P t = some (s, bt, zv)) (hcs : cs.length = s) (hu : Tab.und P t2 = some d) (hd : (match d with | .struct _ | .array _ _ => true | _ => false) = false) : (results fn a.tmps).run P w = .ok (.tuple #[.agg cs.toArray, v2]) w := by
 have h1 := ha.get r
 rw [hb] at h1
 have h3 := ha.get r2
 rw [hb2] at h3
 have h2 := El (P := P) (bk := b) (off := 0) (w := w) hl hi hcs (fun j v hj => by rw [Nat.zero_add]; exact Pp hs hm j v hj)
 have h4 : (loadVar t2 ⟨b2, 0, none⟩).run P w = .ok v2 w := Fc (P := P) (off := 0) (w := w) hu hd (Pp hs hm2 0 v2 rfl)
 have h1' : (a.tmps[r]?.getD undef) = .pointer (some ⟨b, 0, none⟩) := by simpa [Array.getD_eq_getD_getElem?] using h1
 have h3' : (a.tmps[r2]?.getD undef) = .pointer (some ⟨b2, 0, none⟩) := by simpa [Array.getD_eq_getD_getElem?] using h3
 simp [results, hr, asAddr, h1', h2, h3', h4]
theorem D9u {r t T r2 t2 T2 b b2 s bt : Nat} {zv v2 : Value} {d : TypeDesc} {lay : List (Nat × Nat)} {cs : List Value} (hf : P.funcs[f]? = some fn) (hr : fn.results = #[.cell r t, .cell r2 t2]) (x : X) (hb : σ r = .pointer (some ⟨b, 0, none⟩)) (hb2 : σ r2 = .pointer (some ⟨b2, 0, none⟩)) (hm : Ae b cs T ∈ Ms) (hm2 : Ae b2 [v2] T2 ∈ Ms)
  (hl : Tab.lay P t = some lay) (hi : Tab.inf P t = some (s, bt, zv)) (hcs : cs.length = s) (hu : Tab.und P t2 = some d) (hd : (match d with | .struct _ | .array _ _ => true | _ => false) = false) (hv : Value.tuple #[.agg cs.toArray, v2] = val x) (hs : ∀ w, St B Γ Ms w → St B (N x) (Ms1 x) w) (hD : n.defs = [] := by rfl) (hK : okK n.kind := by first | exact .inl rfl | exact .inr rfl) : G9 P f (Ends B val N Ms1) B n (.code .ret :: K) σ Γ Ms :=
 go_ret hf (fun a w ha h => (W0 hr ha h hb hb2 hm hm2 hl hi hcs hu hd).trans (by rw [hv])) (fun w h => ⟨x, rfl, hs w h⟩) hD hK
end
section
variable {P : Program} [Tab P] {f : FuncId} {fn : Func} {B : D5} {n : Fz} {K : List Item} {σ : Nat → Value} {Γ : List Fact} {Ms : List Bq} {X : Type} {val : X → Value} {N : X → List Fact} {Ms1 : X → List Bq}
theorem E1q {r t T r2 t2 T2 b b2 s bt : Nat} {zv v2 : Value} {d : TypeDesc} {lay : List (Nat × Nat)} {cs : List Value} {k : FuncId} {cap : List Value} (hf : P.funcs[f]? = some fn) (hr : fn.results = #[.cell r t, .cell r2 t2]) (hc : ∀ (args : Array Value) (w : World), (callFunc k args).run P w = .ok (.enter k args) w) (hsp : Yq P k cap.toArray [] [] .returning .returning [] [])
  (x : X) (hb : σ r = .pointer (some ⟨b, 0, none⟩)) (hb2 : σ r2 = .pointer (some ⟨b2, 0, none⟩)) (hm : Ae b cs T ∈ Ms) (hm2 : Ae b2 [v2] T2 ∈ Ms)
  (hl : Tab.lay P t = some lay) (hi : Tab.inf P t = some (s, bt, zv)) (hcs : cs.length = s) (hu : Tab.und P t2 = some d) (hd : (match d with | .struct _ | .array _ _ => true | _ => false) = false) (hv : Value.tuple #[.agg cs.toArray, v2] = val x) (hs : ∀ w, St B Γ Ms w → St B (N x) (Ms1 x) w) (hD : n.defs = [⟨.fn (.func k) cap.toArray, #[]⟩] := by rfl) (hK : n.kind = .normal := by rfl) : G9 P f (Ends B val N Ms1) B n (.code .ret :: K) σ Γ Ms :=
 D8q (Ms2 := Ms) hf hc hsp (fun F hF => by cases hF) (List.Perm.refl _) (fun a w' ha h => ⟨_, W0 hr ha h hb hb2 hm hm2 hl hi hcs hu hd, ⟨x, by rw [hv], hs w' h⟩⟩) hD hK
theorem E2c {r t T r2 t2 T2 b b2 s bt : Nat} {zv v2 : Value} {d : TypeDesc} {lay : List (Nat × Nat)} {cs cs0 : List Value} {v0 : Value} {k c : FuncId} {cap : List Value} {ops : Array Oper} {l : List Nat} {dst : Option Tmp} {op : Op} {ty : TypeId} {args : Array Value} {pre : List Fact} {chain : List PanicEntry} {u' : FrameMode} {Ms2 : List Bq} (he : Tv P σ op ty c args) (hspp : Tu P c args pre chain) (hpre : ∀ F, F ∈ pre → F ∈ Γ)
  (hf : P.funcs[f]? = some fn) (hr : fn.results = #[.cell r t, .cell r2 t2]) (hc : ∀ (args : Array Value) (w : World), (callFunc k args).run P w = .ok (.enter k args) w) (hsp : Yq P k cap.toArray [] [Ae b cs0 T, Ae b2 [v0] T2] (.panicking chain) u' [] [Ae b cs T, Ae b2 [v2] T2]) (hset : settle u' = .returning) (hm : Ms.Perm (Ae b cs0 T :: Ae b2 [v0] T2 :: Ms2))
  (x : X) (hb : σ r = .pointer (some ⟨b, 0, none⟩)) (hb2 : σ r2 = .pointer (some ⟨b2, 0, none⟩))
  (hl : Tab.lay P t = some lay) (hi : Tab.inf P t = some (s, bt, zv)) (hcs : cs.length = s) (hu : Tab.und P t2 = some d) (hd : (match d with | .struct _ | .array _ _ => true | _ => false) = false) (hv : Value.tuple #[.agg cs.toArray, v2] = val x) (hs : ∀ w, St B Γ [] w → St B (N x) (Ms1 x) w) (hD : n.defs = [⟨.fn (.func k) cap.toArray, #[]⟩] := by rfl) (hK : n.kind = .normal := by rfl) : Ff P f (Ends B val N Ms1) B n K ops l (Ct dst op ty) σ Γ Ms :=
 D7w (Ms0 := [Ae b cs0 T, Ae b2 [v0] T2]) (Ms2 := Ms2) he hspp hpre hf hc hsp (fun F hF => by cases hF) hm hset (fun a w' ha h => ⟨_, W0 hr ha h hb hb2 (List.mem_cons_self) (List.mem_cons_of_mem _ List.mem_cons_self) hl hi hcs hu hd, ⟨x, by rw [hv], hs w' (St.Qe (A := Ae b cs T :: Ae b2 [v2] T2 :: Ms2) (Ms := []) (by rw [List.append_nil]; exact h))⟩⟩) hD hK
end
section
variable {P : Program} [Tab P] {f : FuncId} {R : Ending → World → Prop} {B : D5} {n : Fz} {K : List Item} {ops : Array Oper} {i : Nat} {l : List Nat} {σ : Nat → Value} {Γ : List Fact} {Ms : List Bq}
variable {dst : Option Tmp} {ty : TypeId} {v : Value} {x y : Operand}
theorem C7f {s d : TypeId} {a : Nat} (hs : Tab.und P s = some (.int .u32)) (hd : Tab.und P d = some (.int .u64)) (hx : ev σ x = .int .u32 (a : Int)) (ha : a < 4294967296) : Cq P σ (.convert s d x) ty (.int .u64 (a : Int)) := by
 have e : IntKind.u64.wrap (a : Int) = (a : Int) := by
  have : IntKind.u64.wrap (a : Int) = (a : Int) % 18446744073709551616 := by simp [IntKind.wrap, IntKind.bits, IntKind.signed]
  rw [this]; omega
 have := Kt (P := P) (ty := ty) hs hd hx
 rwa [e] at this
theorem D3l {s d : TypeId} {a : Nat} (k_ : Ep P f R B n K ops l (Ay σ dst (.int .u64 (a : Int))) Γ Ms) (hx : ev σ x = .int .u32 (a : Int) := by exact A7) (ha : a < 4294967296 := by first | assumption | omega) (hs : Tab.und P s = some (.int .u32) := by rfl) (hd' : Tab.und P d = some (.int .u64) := by rfl) (hd : Aj n dst = true := by rfl) : Ff P f R B n K ops l (Ct dst (.convert s d x) ty) σ Γ Ms := Bi (C7f hs hd' hx ha) hd k_
end
end Go.Hy
namespace Go.Hy
def Dr (c d : Cl) : Cl := ⟨c.pos ||| d.pos, c.neg ||| d.neg⟩
theorem C2l (c d : Cl) : decide (Dr c d = c) = below c d := by
 obtain ⟨p, n⟩ := c
 obtain ⟨p', n'⟩ := d
 simp [Dr, below]
def Fm (l : List Cl) (i : Nat) : Nat := (l.take i).foldl (fun a c => a ||| (c.pos ||| c.neg)) 0
theorem A0r {l : List Cl} {i : Nat} (h : i < l.length) : Fm l (i + 1) = Fm l i ||| ((l.getD i A6).pos ||| (l.getD i A6).neg) := by
 unfold Fm; rw [Af (d := A6) h, List.foldl_append]; rfl
theorem A8u {l : List Cl} (h : ∀ c, c ∈ l → u32 c) : ∀ i, Fm l i < 4294967296 := by
 intro i
 have : ∀ (m : List Cl) (a : Nat), (∀ c, c ∈ m → u32 c) → a < 4294967296 → m.foldl (fun a c => a ||| (c.pos ||| c.neg)) a < 4294967296 := by
  intro m
  induction m with
  | nil => intro a _ h; exact h
  | cons c m ih =>
   intro a hm ha
   have hc := hm c List.mem_cons_self
   exact ih _ (fun d hd => hm d (List.mem_cons_of_mem _ hd)) (Nat.or_lt_two_pow (n := 32) ha (Nat.or_lt_two_pow (n := 32) hc.1 hc.2))
 exact this _ 0 (fun c hc => h c (List.mem_of_mem_take hc)) A3
theorem A5k (l : List Cl) : E5 l = Fm l l.length &&& 16777215 := by
 unfold E5 Fm; rw [List.take_length]
theorem B8w {s : Nat} (hs : s < 4294967296) : decide ((Bn s 16777215 : Int) = 0) = decide (s < 16777216) := by
 apply decide_eq_decide.mpr
 have h : Bn s 16777215 = s / 16777216 * 16777216 := by
  unfold Bn
  have e : (BitVec.ofNat 32 s &&& ~~~ BitVec.ofNat 32 16777215).toNat = s / 16777216 * 16777216 := by
   apply Nat.eq_of_testBit_eq
   intro i
   rw [← BitVec.getLsbD, BitVec.getLsbD_and, BitVec.getLsbD_not, BitVec.getLsbD_ofNat, BitVec.getLsbD_ofNat]
   rw [show s / 16777216 * 16777216 = (s / 2 ^ 24) * 2 ^ 24 from rfl, Nat.testBit_mul_two_pow, Nat.testBit_div_two_pow]
   rw [show (16777215 : Nat) = 2 ^ 24 - 1 from rfl, Nat.testBit_two_pow_sub_one]
   by_cases h1 : i < 32
   ·by_cases h2 : 24 ≤ i
    ·simp [h1, h2, Nat.sub_add_cancel h2]
    ·simp [h1, h2]; omega
   ·have : s.testBit i = false := Nat.testBit_lt_two_pow (Nat.lt_of_lt_of_le hs (Nat.pow_le_pow_right (n := 2) A3 (show 32 ≤ i by omega)))
    have h2 : 24 ≤ i := by omega
    simp [h1, h2, Nat.sub_add_cancel h2, this]
  exact e
 omega
end Go.Hy
namespace Go.Hy
def C1i (g : Cl → Bool) (l : List Cl) : Int := if l.any g then (l.findIdx g : Int) else -1
theorem Gd {α : Type} {d : α} {l : List α} {i : Nat} (h : i < l.length) : l.getD i d = l[i] := by
 rw [List.getD_eq_getElem?_getD, List.getElem?_eq_getElem h]; rfl
theorem D8p {g : Cl → Bool} {l : List Cl} {i : Nat} (h : i < l.length) (hg : g (l.getD i A6) = true) (hb : ∀ j, j < i → g (l.getD j A6) = false) : C1i g l = i := by
 have hany : l.any g = true := List.any_eq_true.mpr ⟨_, Ag h, hg⟩
 have hidx : l.findIdx g = i := by
  rw [List.findIdx_eq h]
  refine ⟨by rw [← Gd (d := A6) h]; exact hg, fun j hj => ?_⟩
  have := hb j hj
  rwa [Gd (d := A6) A3] at this
 unfold C1i
 rw [hany, hidx]; rfl
theorem C8m {g : Cl → Bool} {l : List Cl} (hb : ∀ j, j < l.length → g (l.getD j A6) = false) : C1i g l = -1 := by
 have hany : l.any g = false := by
  rw [List.any_eq_false]
  intro x hx
  obtain ⟨j, hj, e⟩ := List.mem_iff_getElem.mp hx
  have := hb j hj
  rw [Gd (d := A6) hj, e] at this
  simp [this]
 unfold C1i; rw [hany]; rfl
theorem B7q (g : Cl → Bool) (l : List Cl) : decide (0 ≤ C1i g l) = l.any g := by
 unfold C1i
 cases l.any g
 ·rfl
 ·simp
def once (l : List Cl) : List Cl := l.foldl (fun o c => if c ∈ o then o else o ++ [c]) []
theorem C7q (l : List Cl) (c : Cl) : once (l ++ [c]) = if c ∈ once l then once l else once l ++ [c] := by
 unfold once; rw [List.foldl_append]; rfl
theorem A3v (c : Cl) : ∀ (l o : List Cl), (c ∈ l.foldl (fun o c => if c ∈ o then o else o ++ [c]) o ↔ c ∈ o ∨ c ∈ l) ∧ (l.foldl (fun o c => if c ∈ o then o else o ++ [c]) o).length ≤ o.length + l.length
 | [], o => by simp
 | d :: l, o => by
  have ih := A3v c l (if d ∈ o then o else o ++ [d])
  rw [List.foldl_cons]
  constructor
  ·rw [ih.1, List.mem_cons]
   split
   ·rename_i h
    constructor
    ·rintro (h2 | h2)
     ·exact .inl h2
     ·exact .inr (.inr h2)
    ·rintro (h2 | h2 | h2)
     ·exact .inl h2
     ·exact .inl (h2 ▸ h)
     ·exact .inr h2
   ·rw [List.mem_append, List.mem_singleton, or_assoc]
  ·have h3 := ih.2
   have h4 : (if d ∈ o then o else o ++ [d]).length ≤ o.length + 1 := by split <;> simp
   simp only [List.length_cons]; omega
theorem Rc (c : Cl) (l : List Cl) : c ∈ once l ↔ c ∈ l := by
 have := (A3v c l []).1
 simpa [once] using this
theorem Xv (l : List Cl) : (once l).length ≤ l.length := by
 have := (A3v A6 l []).2
 simpa [once] using this
def Cb (l : List Cl) (c : Cl) : Bool := l.any fun d => !decide (c = d) && below c d
def kept (l : List Cl) : List Cl := (once l).filter fun c => !Cb (once l) c
def B4d (l l' : List Cl) : Prop := l'.Perm l ∧ l'.Pairwise fun a b => D0 b a = false
def Ko (l : List Cl) (r : Int × List Cl) : Prop :=
 if l.all Av = false then r = (2, []) else if 64 < (kept l).length then r = (3, []) else r.1 = 0 ∧ B4d (kept l) r.2
end Go.Hy
namespace Go.Hy
theorem E5e {l : List Cl} {g : Cl → Bool} (h : ∀ j, j < l.length → g (l.getD j A6) = true) : l.all g = true := by
 rw [List.all_eq_true]
 intro x hx
 obtain ⟨j, hj, e⟩ := List.mem_iff_getElem.mp hx
 have := h j hj
 rwa [Gd (d := A6) hj, e] at this
theorem D9a {l : List Cl} {g : Cl → Bool} {i : Nat} (hi : i < l.length) (h : g (l.getD i A6) = false) : l.all g = false := by
 rw [List.all_eq_false]
 exact ⟨l.getD i A6, Ag hi, by rw [h]; decide⟩
def Hq (l : List Cl) (i : Nat) : List Cl := ((once l).take i).filter fun c => !Cb (once l) c
theorem Vb {l : List Cl} {i : Nat} (h : i < (once l).length) : Hq l (i + 1) = if Cb (once l) ((once l).getD i A6) then Hq l i else Hq l i ++ [(once l).getD i A6] := by
 unfold Hq
 rw [Af (d := A6) h, List.filter_append]
 cases hn : Cb (once l) ((once l).getD i A6)
 ·rw [List.filter_cons_of_pos (by rw [hn]; rfl)]; simp
 ·rw [List.filter_cons_of_neg (by rw [hn]; decide)]; simp
theorem B2w (l : List Cl) : Hq l (once l).length = kept l := by simp [Hq, kept]
theorem B2v (l : List Cl) (i : Nat) : (Hq l i).length ≤ l.length := by
 unfold Hq
 have h1 := List.length_filter_le (fun c => !Cb (once l) c) ((once l).take i)
 have h2 := Xv l
 simp only [List.length_take] at h1
 omega
theorem Tb {l : List Cl} {i : Nat} (h : i < l.length) : once (l.take (i + 1)) = if l.getD i A6 ∈ once (l.take i) then once (l.take i) else once (l.take i) ++ [l.getD i A6] := by
 rw [Af (d := A6) h, C7q]
theorem A6s (l : List Cl) (i : Nat) : (once (l.take i)).length ≤ l.length := by
 have := Xv (l.take i); simp only [List.length_take] at this; omega
theorem D4m {l : List Cl} {c : Cl} (h : c ∈ kept l) : c ∈ l := by
 unfold kept at h
 exact (Rc c l).mp (List.mem_filter.mp h).1
end Go.Hy
namespace Go.Hy
theorem Rf (a b : Cl) : D0 a b = true ∨ a = b ∨ D0 b a = true := by
 obtain ⟨p, n⟩ := a
 obtain ⟨p', n'⟩ := b
 simp only [D0, Bool.or_eq_true, Bool.and_eq_true, decide_eq_true_eq, Cl.mk.injEq]
 omega
theorem S4 {a b : Cl} (h : D0 a b = true) : D0 b a = false := by
 simp only [D0, Bool.or_eq_true, Bool.and_eq_true, decide_eq_true_eq, Bool.or_eq_false_iff, Bool.and_eq_false_iff, decide_eq_false_iff_not] at *
 omega
theorem A0x {a b c : Cl} (h : D0 a b = true) (h2 : D0 b c = true) : D0 a c = true := by
 simp only [D0, Bool.or_eq_true, Bool.and_eq_true, decide_eq_true_eq] at *
 omega
theorem Ua (a : Cl) : D0 a a = false := by simp [D0]
theorem E9j {a b : Cl} (h : D0 a b = false) (h2 : D0 b a = false) : a = b := by
 rcases Rf a b with h3 | h3 | h3
 ·rw [h] at h3; cases h3
 ·exact h3
 ·rw [h2] at h3; cases h3
theorem A7y : ∀ {l m : List Cl}, l.Perm m → (l.Pairwise fun a b => D0 b a = false) → (m.Pairwise fun a b => D0 b a = false) → l = m
 | [], m, hp, _, _ => by have := hp.length_eq; cases m with | nil => rfl | cons _ _ => simp at this
 | a :: l, [], hp, _, _ => by have := hp.length_eq; simp at this
 | a :: l, b :: m, hp, h1, h2 => by
  rw [List.pairwise_cons] at h1 h2
  have ha : a ∈ b :: m := hp.mem_iff.mp List.mem_cons_self
  have hb : b ∈ a :: l := hp.mem_iff.mpr List.mem_cons_self
  have e : a = b := by
   rcases List.mem_cons.mp ha with h | h
   ·exact h
   ·rcases List.mem_cons.mp hb with h3 | h3
    ·exact h3.symm
    ·exact E9j (h2.1 a h |> fun x => x) (h1.1 b h3) |> fun x => by exact x
  subst e
  rw [A7y (List.Perm.cons_inv hp) h1.2 h2.2]
theorem Q2 : ∀ {l : List Cl}, Q3 l = true ↔ l.Pairwise fun a b => D0 a b = true
 | [] => by simp [Q3]
 | [a] => by simp [Q3]
 | a :: b :: l => by
  rw [Q3, Bool.and_eq_true, Q2 (l := b :: l), List.pairwise_cons (a := a)]
  constructor
  ·rintro ⟨h1, h2⟩
   refine ⟨fun c hc => ?_, h2⟩
   rcases List.mem_cons.mp hc with h | h
   ·exact h ▸ h1
   ·exact A0x h1 ((List.pairwise_cons.mp h2).1 c h)
  ·rintro ⟨h1, h2⟩
   exact ⟨h1 b List.mem_cons_self, h2⟩
theorem A6t {l : List Cl} (h : l.Pairwise fun a b => D0 a b = true) : once l = l := by
 have : ∀ (m o : List Cl), ((o ++ m).Pairwise fun a b => D0 a b = true) → m.foldl (fun o c => if c ∈ o then o else o ++ [c]) o = o ++ m := by
  intro m
  induction m with
  | nil => intro o _; simp
  | cons c m ih =>
   intro o h
   rw [List.foldl_cons]
   have hn : c ∉ o := by
    intro hc
    have := (List.pairwise_append.mp h).2.2 c hc c List.mem_cons_self
    rw [Ua] at this; cases this
   rw [if_neg hn, ih (o ++ [c]) (by simpa using h)]
   simp
 have := this l [] (by simpa using h)
 simpa [once] using this
theorem Zz {l : List Cl} : apart l = true ↔ ∀ a, a ∈ l → ∀ b, b ∈ l → a = b ∨ below a b = false := by
 unfold apart
 simp only [List.all_eq_true, Bool.or_eq_true, decide_eq_true_eq, Bool.not_eq_true']
theorem Ma {l : List Cl} {c : Cl} : Cb l c = false ↔ ∀ d, d ∈ l → c = d ∨ below c d = false := by
 unfold Cb
 rw [List.any_eq_false]
 constructor
 ·intro h d hd
  have := h d hd
  simp only [Bool.and_eq_true, Bool.not_eq_true', decide_eq_false_iff_not, not_and, Bool.not_eq_true] at this
  by_cases e : c = d
  ·exact .inl e
  ·exact .inr (this e)
 ·intro h d hd
  simp only [Bool.and_eq_true, Bool.not_eq_true', decide_eq_false_iff_not, not_and, Bool.not_eq_true]
  intro e
  exact (h d hd).resolve_left e
theorem Tk {l : List Cl} {r : Int × List Cl} (h : Ko l r) : (decide (r.1 = 0) && decide (r.2 = l)) = A9 l := by
 rw [Bool.eq_iff_iff, Bool.and_eq_true, decide_eq_true_eq, decide_eq_true_eq]
 unfold Ko at h
 constructor
 ·rintro ⟨h1, h2⟩
  split at h
  ·rw [h] at h1; cases h1
  ·rename_i hr
   split at h
   ·rw [h] at h1; cases h1
   ·rename_i h64
    obtain ⟨_, hp, hs⟩ := h
    rw [h2] at hp hs
    have hr' : l.all Av = true := by simpa using hr
    have hlen := hp.length_eq
    have hk1 : (kept l).length ≤ (once l).length := by unfold kept; exact List.length_filter_le _ _
    have ho := Xv l
    have hkeep : kept l = once l := by
     have : (kept l).Sublist (once l) := by unfold kept; exact List.filter_sublist
     exact this.eq_of_length A3
    have hnd : ∀ c, c ∈ l → Cb (once l) c = false := by
     intro c hc
     have : c ∈ kept l := hp.mem_iff.mp hc
     unfold kept at this
     have := (List.mem_filter.mp this).2
     simpa using this
    have hap : apart l = true := Zz.mpr fun a ha b hb => Ma.mp (hnd a ha) b ((Rc b l).mpr hb)
    have hnodup : (once l).Nodup := by
     have : ∀ (m o : List Cl), o.Nodup → (m.foldl (fun o c => if c ∈ o then o else o ++ [c]) o).Nodup := by
      intro m
      induction m with
      | nil => intro o h; exact h
      | cons c m ih =>
       intro o h
       rw [List.foldl_cons]
       apply ih
       split
       ·exact h
       ·rename_i hn
        rw [List.nodup_append]
        refine ⟨h, by simp, ?_⟩
        intro a ha b hb e
        rw [List.mem_singleton] at hb
        exact hn (hb ▸ e ▸ ha)
     exact this l [] List.nodup_nil
    have hln : l.Nodup := (hp.nodup_iff).mpr (hkeep ▸ hnodup)
    have hst : Q3 l = true := by
     rw [Q2]
     have hboth : l.Pairwise fun a b => D0 b a = false ∧ a ≠ b := hs.and hln
     exact hboth.imp fun {a b} ⟨h3, h4⟩ => by
      rcases Rf a b with h5 | h5 | h5
      ·exact h5
      ·exact absurd h5 h4
      ·rw [h3] at h5; cases h5
    unfold A9
    rw [hr', hst, hap]
    simp; omega
 ·intro hf
  unfold A9 at hf
  simp only [Bool.and_eq_true, decide_eq_true_eq] at hf
  obtain ⟨⟨⟨hr, hs⟩, ha⟩, h64⟩ := hf
  have hs' := Q2.mp hs
  have ho := A6t hs'
  have hk : kept l = l := by
   unfold kept
   rw [ho, List.filter_eq_self]
   intro c hc
   have : Cb l c = false := Ma.mpr fun d hd => Zz.mp ha c hc d hd
   simp [this]
  rw [hr, if_neg K1, hk, if_neg A3] at h
  exact ⟨h.1, A7y h.2.1 h.2.2 (hs'.imp fun h => S4 h)⟩
def C8 (s : Nat) (i : Int) : Bool := decide (0 ≤ i) && decide (i < 24) && s.testBit i.toNat
theorem Qb (s : Nat) (i : Int) : C8 s i = (decide (0 ≤ i) && decide (i < 24) && decide (s / 2 ^ i.toNat % 2 = 1)) := by
 unfold C8; rw [Nat.testBit_eq_decide_div_mod_eq]
def C4 (s n : Nat) : List Int := ((List.range n).filter s.testBit).map fun (i : Nat) => (i : Int)
abbrev A4 (s : Nat) : List Int := C4 s 24
theorem H9 (s n : Nat) : C4 s (n + 1) = if s.testBit n then C4 s n ++ [(n : Int)] else C4 s n := by
 unfold C4
 rw [List.range_succ, List.filter_append]
 cases h : s.testBit n <;> simp [h]
theorem N6 {s n : Nat} {x : Int} (h : x ∈ C4 s n) : 0 ≤ x ∧ x < n := by
 unfold C4 at h
 simp only [List.mem_map, List.mem_filter, List.mem_range] at h
 obtain ⟨i, ⟨h1, _⟩, rfl⟩ := h
 omega
theorem F4 {s n : Nat} {x : Int} : x ∈ C4 s n ↔ 0 ≤ x ∧ x < n ∧ s.testBit x.toNat = true := by
 unfold C4
 simp only [List.mem_map, List.mem_filter, List.mem_range]
 constructor
 ·rintro ⟨i, ⟨h1, h2⟩, rfl⟩; exact ⟨by omega, by omega, by simpa using h2⟩
 ·rintro ⟨h1, h2, h3⟩; exact ⟨x.toNat, ⟨by omega, h3⟩, by omega⟩
theorem Hf (s n : Nat) : (C4 s n).length ≤ n := by
 unfold C4
 rw [List.length_map]
 have := List.length_filter_le s.testBit (List.range n)
 simpa using this
def Hz (l : List Int) : Nat := (l.map fun x => 2 ^ x.toNat).sum
def Xh (l : List Int) (i : Nat) : Nat := Hz (l.take i)
theorem B9n (l : List Int) : Xh l 0 = 0 := by simp [Xh, Hz]
theorem C6q (l : List Int) : Xh l l.length = Hz l := by simp [Xh]
theorem B9o {l : List Int} {i : Nat} (h : i < l.length) : Xh l (i + 1) = Xh l i + 2 ^ (l.getD i 0).toNat := by
 unfold Xh Hz; rw [Af (d := 0) h, List.map_append, List.sum_append]; simp
theorem D6u {l : List Int} (h : ∀ x, x ∈ l → 0 ≤ x ∧ x < 24) : Hz l ≤ l.length * 8388608 := by
 unfold Hz
 induction l with
 | nil => simp
 | cons a l ih =>
  have h1 := ih (fun x hx => h x (List.mem_cons_of_mem _ hx))
  have h2 := h a List.mem_cons_self
  have h3 : 2 ^ a.toNat ≤ 8388608 := Nat.pow_le_pow_right (n := 2) (j := 23) A3 A3
  simp only [List.map_cons, List.sum_cons, List.length_cons]
  generalize 2 ^ a.toNat = q at *
  omega
theorem D0w {l : List Int} (h : ∀ x, x ∈ l → 0 ≤ x ∧ x < 24) (i : Nat) : Xh l i ≤ l.length * 8388608 := by
 have h1 := D6u (l := l.take i) (fun x hx => h x (List.mem_of_mem_take hx))
 have h2 : (l.take i).length ≤ l.length := by simp; omega
 exact Nat.le_trans h1 (Nat.mul_le_mul_right 8388608 h2)
theorem A0j (s : Nat) : ∀ n, Hz (C4 s n) = s % 2 ^ n
 | 0 => by
  have h : C4 s 0 = [] := by unfold C4; rw [List.range_zero, List.filter_nil, List.map_nil]
  rw [h, Nat.pow_zero, Nat.mod_one, Hz, List.map_nil, List.sum_nil]
 | n + 1 => by
  rw [H9, Nat.mod_pow_succ]
  have ih := A0j s n
  have hb := Nat.testBit_eq_decide_div_mod_eq (x := s) (i := n)
  by_cases h : s / 2 ^ n % 2 = 1
  ·rw [hb, decide_eq_true h, if_pos rfl, h]
   have e : Hz (C4 s n ++ [(n : Int)]) = Hz (C4 s n) + 2 ^ n := by simp [Hz]
   rw [e, ih, Nat.mul_one]
  ·have h0 : s / 2 ^ n % 2 = 0 := by omega
   rw [hb, decide_eq_false h, if_neg Ec, h0, ih]; simp
theorem A1i (s : Nat) : s &&& 16777215 = s % 2 ^ 24 := by
 rw [show (16777215 : Nat) = 2 ^ 24 - 1 from rfl, Nat.and_two_pow_sub_one_eq_mod]
theorem Vt (s : Nat) : Hz (A4 s) = s &&& 16777215 := by rw [A0j, A1i]
theorem Je {p : Nat → Prop} {i : Nat} (h : ∀ j, j < i → p j) (hi : p i) : ∀ j, j < i + 1 → p j := fun j hj => by
 rcases Nat.lt_succ_iff_lt_or_eq.mp hj with h2 | h2
 ·exact h j h2
 ·exact h2 ▸ hi
theorem Yp {α : Type} {d : α} {l : List α} {g : α → Bool} (h : ∀ j, j < l.length → g (l.getD j d) = false) : l.any g = false := by
 rw [List.any_eq_false]
 intro x hx
 obtain ⟨j, hj, e⟩ := List.mem_iff_getElem.mp hx
 have := h j hj
 rw [Gd (d := d) hj, e] at this
 simp [this]
theorem A1h {α : Type} {d : α} {l : List α} {g : α → Bool} {i : Nat} (hi : i < l.length) (h : g (l.getD i d) = true) : l.any g = true := List.any_eq_true.mpr ⟨_, Ag hi, h⟩
theorem Nv {α : Type} {d : α} {l : List α} {g : α → Bool} (h : ∀ j, j < l.length → g (l.getD j d) = true) : l.all g = true := by
 rw [List.all_eq_true]
 intro x hx
 obtain ⟨j, hj, e⟩ := List.mem_iff_getElem.mp hx
 have := h j hj
 rwa [Gd (d := d) hj, e] at this
theorem Mi {α : Type} {d : α} {l : List α} {g : α → Bool} {i : Nat} (hi : i < l.length) (h : g (l.getD i d) = false) : l.all g = false := by
 rw [List.all_eq_false]
 exact ⟨l.getD i d, Ag hi, by rw [h]; decide⟩
def M7 (c : Cl) : Bool := (List.range 24).any fun i => C8 c.pos (i : Int) && C8 c.neg (i : Int)
theorem U5 {c : Cl} (h : Av c = true) : M7 c = Ew c := by
 simp only [Av, Bool.and_eq_true, decide_eq_true_eq] at h
 rw [Bool.eq_iff_iff]
 unfold M7 Ew
 rw [List.any_eq_true, decide_eq_true_eq]
 constructor
 ·rintro ⟨i, hi, hb⟩ h0
  simp only [C8, Bool.and_eq_true, decide_eq_true_eq, Int.toNat_natCast] at hb
  have := congrArg (fun n => Nat.testBit n i) h0
  simp only [Nat.testBit_and, Nat.zero_testBit] at this
  rw [hb.1.2, hb.2.2] at this
  cases this
 ·intro h0
  obtain ⟨i, hi⟩ : ∃ i, (c.pos &&& c.neg).testBit i = true := by
   apply Classical.byContradiction
   intro hn
   exact h0 (Nat.eq_of_testBit_eq fun i => by
    rw [Nat.zero_testBit]
    cases hb : (c.pos &&& c.neg).testBit i
    ·rfl
    ·exact absurd ⟨i, hb⟩ hn)
  rw [Nat.testBit_and, Bool.and_eq_true] at hi
  have hlt : i < 24 := by
   apply Classical.byContradiction
   intro hge
   have : c.pos.testBit i = false := Nat.testBit_lt_two_pow (Nat.lt_of_lt_of_le h.1 (Nat.pow_le_pow_right (n := 2) A3 (show 24 ≤ i by omega)))
   rw [this] at hi; cases hi.1
  exact ⟨i, List.mem_range.mpr hlt, by simp [C8, hi.1, hi.2]; omega⟩
def Qv (c : Cl) : List Cl → List Cl
 | [] => [c]
 | d :: l => if D0 d c then d :: Qv c l else if d = c then d :: l else c :: d :: l
def rl (l : List Cl) (m : List Cl) : List Cl := m.foldl (fun o c => if Cb l c then o else Qv c o) []
def Ea (l : List Cl) (i : Nat) : List Cl := rl l (l.take i)
abbrev Ej (l : List Cl) : List Cl := rl l l
theorem A8k (l : List Cl) : Ea l 0 = [] := by simp [Ea, rl]
theorem B5w (l : List Cl) : Ea l l.length = Ej l := by simp [Ea]
theorem Z8 {l : List Cl} {i : Nat} (h : i < l.length) : Ea l (i + 1) = if Cb l (l.getD i A6) then Ea l i else Qv (l.getD i A6) (Ea l i) := by
 unfold Ea rl; rw [Af (d := A6) h, List.foldl_append]; rfl
theorem A4z {c x : Cl} : ∀ {l : List Cl}, x ∈ Qv c l ↔ x = c ∨ x ∈ l
 | [] => by simp [Qv]
 | d :: l => by
  unfold Qv
  split
  ·rw [List.mem_cons, A4z (l := l), List.mem_cons]
   constructor
   ·rintro (h | h | h)
    ·exact .inr (.inl h)
    ·exact .inl h
    ·exact .inr (.inr h)
   ·rintro (h | h | h)
    ·exact .inr (.inl h)
    ·exact .inl h
    ·exact .inr (.inr h)
  ·split
   ·rename_i h
    subst h
    simp
   ·simp
theorem B7o (c : Cl) : ∀ l : List Cl, (Qv c l).length ≤ l.length + 1
 | [] => by simp [Qv]
 | d :: l => by
  unfold Qv
  have := B7o c l
  split
  ·simp; omega
  ·split <;> simp
theorem A1a {c : Cl} : ∀ {l : List Cl}, (l.Pairwise fun a b => D0 a b = true) → (Qv c l).Pairwise fun a b => D0 a b = true
 | [], _ => by simp [Qv]
 | d :: l, h => by
  rw [List.pairwise_cons] at h
  unfold Qv
  split
  ·rename_i hd
   rw [List.pairwise_cons]
   refine ⟨fun x hx => ?_, A1a h.2⟩
   rcases A4z.mp hx with e | e
   ·exact e ▸ hd
   ·exact h.1 x e
  ·rename_i hd
   split
   ·exact List.pairwise_cons.mpr h
   ·rename_i hne
    have hcd : D0 c d = true := by
     rcases Rf c d with h3 | h3 | h3
     ·exact h3
     ·exact absurd h3.symm hne
     ·exact absurd h3 hd
    rw [List.pairwise_cons]
    refine ⟨fun x hx => ?_, List.pairwise_cons.mpr h⟩
    rcases List.mem_cons.mp hx with e | e
    ·exact e ▸ hcd
    ·exact A0x hcd (h.1 x e)
theorem A8j (l : List Cl) : ∀ (m o : List Cl), (o.Pairwise fun a b => D0 a b = true) → (m.foldl (fun o c => if Cb l c then o else Qv c o) o).Pairwise fun a b => D0 a b = true
 | [], o, h => h
 | c :: m, o, h => by
  rw [List.foldl_cons]
  apply A8j l m
  split
  ·exact h
  ·exact A1a h
theorem C0d (l : List Cl) (x : Cl) : ∀ (m o : List Cl), x ∈ m.foldl (fun o c => if Cb l c then o else Qv c o) o ↔ x ∈ o ∨ (x ∈ m ∧ Cb l x = false)
 | [], o => by simp
 | c :: m, o => by
  rw [List.foldl_cons, C0d l x m]
  by_cases hn : Cb l c = true
  ·rw [if_pos hn, List.mem_cons]
   constructor
   ·rintro (h | ⟨h, h2⟩)
    ·exact .inl h
    ·exact .inr ⟨.inr h, h2⟩
   ·rintro (h | ⟨h | h, h2⟩)
    ·exact .inl h
    ·subst h; rw [hn] at h2; cases h2
    ·exact .inr ⟨h, h2⟩
  ·rw [if_neg hn, A4z, List.mem_cons]
   constructor
   ·rintro ((h | h) | ⟨h, h2⟩)
    ·subst h; exact .inr ⟨.inl rfl, by simpa using hn⟩
    ·exact .inl h
    ·exact .inr ⟨.inr h, h2⟩
   ·rintro (h | ⟨h | h, h2⟩)
    ·exact .inl (.inr h)
    ·exact .inl (.inl h)
    ·exact .inr ⟨h, h2⟩
theorem Fx {l : List Cl} {x : Cl} : x ∈ Ej l ↔ x ∈ l ∧ Cb l x = false := by
 have := C0d l x l []
 simpa [Ej, rl] using this
theorem Kk (l : List Cl) : (Ej l).Pairwise fun a b => D0 a b = true := A8j l l [] List.Pairwise.nil
theorem A3i (l : List Cl) (i : Nat) : (Ea l i).length ≤ i := by
 have : ∀ (m o : List Cl), (m.foldl (fun o c => if Cb l c then o else Qv c o) o).length ≤ o.length + m.length := by
  intro m
  induction m with
  | nil => intro o; simp
  | cons c m ih =>
   intro o
   rw [List.foldl_cons]
   have h1 := ih (if Cb l c then o else Qv c o)
   have h2 : (if Cb l c = true then o else Qv c o).length ≤ o.length + 1 := by
    split
    ·omega
    ·exact B7o c o
   simp only [List.length_cons]; omega
 have := this (l.take i) []
 unfold Ea rl
 simp at this ⊢
 omega
theorem C3n {l : List Cl} {i : Nat} {c : Cl} (h : c ∈ Ea l i) : c ∈ l := by
 have := (C0d l c (l.take i) []).mp h
 rcases this with h | h
 ·cases h
 ·exact List.mem_of_mem_take h.1
theorem Vs : ∀ {l m : List Cl}, (l.Pairwise fun a b => D0 a b = true) → (m.Pairwise fun a b => D0 a b = true) → (∀ x, x ∈ l ↔ x ∈ m) → l = m
 | [], [], _, _, _ => rfl
 | [], b :: m, _, _, h => by have := (h b).mpr List.mem_cons_self; cases this
 | a :: l, [], _, _, h => by have := (h a).mp List.mem_cons_self; cases this
 | a :: l, b :: m, h1, h2, h => by
  rw [List.pairwise_cons] at h1 h2
  have e : a = b := by
   rcases List.mem_cons.mp ((h a).mp List.mem_cons_self) with h3 | h3
   ·exact h3
   ·rcases List.mem_cons.mp ((h b).mpr List.mem_cons_self) with h4 | h4
    ·exact h4.symm
    ·have h5 := h2.1 a h3
     have h6 := h1.1 b h4
     rw [S4 h5] at h6; cases h6
  subst e
  congr 1
  apply Vs h1.2 h2.2
  intro x
  have hx := h x
  rw [List.mem_cons, List.mem_cons] at hx
  constructor
  ·intro h3
   rcases hx.mp (.inr h3) with h4 | h4
   ·subst h4; have := h1.1 x h3; rw [Ua] at this; cases this
   ·exact h4
  ·intro h3
   rcases hx.mpr (.inr h3) with h4 | h4
   ·subst h4; have := h2.1 x h3; rw [Ua] at this; cases this
   ·exact h4
theorem A6v (l : List Cl) (c : Cl) : Cb (once l) c = Cb l c := by
 unfold Cb
 rw [Bool.eq_iff_iff, List.any_eq_true, List.any_eq_true]
 constructor
 ·rintro ⟨d, h1, h2⟩; exact ⟨d, (Rc d l).mp h1, h2⟩
 ·rintro ⟨d, h1, h2⟩; exact ⟨d, (Rc d l).mpr h1, h2⟩
theorem C0r (l : List Cl) : (once l).Nodup := by
 have : ∀ (m o : List Cl), o.Nodup → (m.foldl (fun o c => if c ∈ o then o else o ++ [c]) o).Nodup := by
  intro m
  induction m with
  | nil => intro o h; exact h
  | cons c m ih =>
   intro o h
   rw [List.foldl_cons]
   apply ih
   split
   ·exact h
   ·rename_i hn
    rw [List.nodup_append]
    refine ⟨h, by simp, ?_⟩
    intro a ha b hb e
    rw [List.mem_singleton] at hb
    exact hn (hb ▸ e ▸ ha)
 exact this l [] List.nodup_nil
theorem A7z (l : List Cl) : ∃ m, B4d l m := by
 refine ⟨l.mergeSort (fun a b => !D0 b a), List.mergeSort_perm _ _, ?_⟩
 have := List.pairwise_mergeSort (le := fun a b => !D0 b a) (fun a b c h1 h2 => by
  simp only [Bool.not_eq_true'] at *
  simp only [D0, Bool.or_eq_false_iff, Bool.and_eq_false_iff, decide_eq_false_iff_not] at *
  omega) (fun a b => by
  rcases Rf a b with h | h | h
  ·simp [S4 h]
  ·subst h; simp [Ua]
  ·simp [S4 h]) l
 exact this.imp fun h => by simpa using h
theorem A8a {l m : List Cl} (h : B4d (kept l) m) : m = Ej l := by
 have hnd : m.Nodup := (h.1.nodup_iff).mpr (by unfold kept; exact (C0r l).filter _)
 have hb : m.Pairwise fun a b => D0 b a = false ∧ a ≠ b := h.2.and hnd
 refine Vs ?_ (Kk l) (fun x => ?_)
 ·exact hb.imp fun {a b} ⟨h3, h4⟩ => by
   rcases Rf a b with h5 | h5 | h5
   ·exact h5
   ·exact absurd h5 h4
   ·rw [h3] at h5; cases h5
 ·rw [h.1.mem_iff, Fx]
  unfold kept
  rw [List.mem_filter, Rc, A6v]
  simp
def Am (l : List Cl) : Int × List Cl := if l.all Av = false then (2, []) else if 64 < (Ej l).length then (3, []) else (0, Ej l)
theorem A4u {l : List Cl} {r : Int × List Cl} (h : Ko l r) : r = Am l := by
 unfold Ko at h
 unfold Am
 by_cases h1 : l.all Av = false
 ·rw [if_pos h1] at h ⊢; exact h
 ·rw [if_neg h1] at h ⊢
  by_cases h2 : 64 < (kept l).length
  ·have h3 : (kept l).length = (Ej l).length := by
    obtain ⟨m, hm⟩ := A7z (kept l)
    rw [← hm.1.length_eq, A8a hm]
   rw [if_pos h2] at h
   rw [if_pos A3]; exact h
  ·rw [if_neg h2] at h
   have e := A8a h.2
   have h3 : (kept l).length = (Ej l).length := by rw [← h.2.1.length_eq, e]
   rw [if_neg A3]
   exact Prod.ext h.1 e
theorem S5 (l : List Cl) : (decide ((Am l).1 = 0) && decide ((Am l).2 = l)) = A9 l := by
 obtain ⟨r, hr⟩ : ∃ r, Ko l r := by
  unfold Ko
  by_cases h1 : l.all Av = false
  ·exact ⟨_, by rw [if_pos h1]⟩
  ·by_cases h2 : 64 < (kept l).length
   ·exact ⟨_, by rw [if_neg h1, if_pos h2]⟩
   ·obtain ⟨m, hm⟩ := A7z (kept l)
    exact ⟨(0, m), by rw [if_neg h1, if_neg h2]; exact ⟨rfl, hm⟩⟩
 rw [← A4u hr]
 exact Tk hr
theorem B2x {c : Cl} : ∀ {l : List Cl} {k : Nat}, k ≤ l.length → (∀ j, j < k → D0 (l.getD j A6) c = true) → (k < l.length → D0 (l.getD k A6) c = false) → Qv c l = if k < l.length ∧ l.getD k A6 = c then l else l.take k ++ [c] ++ l.drop k
 | [], k, hk, h1, h2 => by simp at hk; subst hk; simp [Qv]
 | d :: l, 0, hk, h1, h2 => by
  have h := h2 Ec
  simp only [List.getD_cons_zero] at h
  unfold Qv
  rw [h, if_neg K1]
  simp
 | d :: l, k + 1, hk, h1, h2 => by
  have h := h1 0 A3
  simp only [List.getD_cons_zero] at h
  unfold Qv
  rw [if_pos h, B2x (l := l) (k := k) (by simpa using hk) (fun j hj => by simpa using h1 (j + 1) A3) (fun hlt => by simpa using h2 (by simpa using hlt))]
  simp only [List.length_cons, List.getD_cons_succ, List.take_succ_cons, List.drop_succ_cons, List.cons_append, Nat.add_lt_add_iff_right]
  split <;> rfl
def E0k (t : T) (ks : List Nat) (bs : List (List Nat)) : Nat := 1 + t.r.length + t.name.size + ks.sum + ((t.sys.zip bs).map fun p => 1 + p.1.An.length + p.2.sum).sum
def I0 : T → Nat := tf E0k
def Ny (b : Br) : Nat := 1 + b.An.length + (b.kids.map I0).sum
theorem Yo (t : T) : I0 t = 1 + t.r.length + t.name.size + (t.kids.map I0).sum + (t.sys.map Ny).sum := by
 conv => lhs; rw [I0, D9p]
 unfold E0k
 congr 2
 generalize t.sys = l
 induction l with
 | nil => rfl
 | cons b l ih => simp only [List.map_cons, List.zip_cons_cons, List.map_cons]; rw [ih]; rfl
def bK (t : T) (i : Nat) : Nat := 1 + t.r.length + t.name.size + ((t.kids.take i).map I0).sum
def bS (t : T) (i : Nat) : Nat := bK t t.kids.length + ((t.sys.take i).map Ny).sum
def bJ (t : T) (i j : Nat) : Nat := bS t i + 1 + (t.sys.getD i Bp).An.length + (((t.sys.getD i Bp).kids.take j).map I0).sum
theorem Qo {α : Type} (f : α → Nat) {l : List α} {i : Nat} {d : α} (h : i < l.length) : ((l.take (i + 1)).map f).sum = ((l.take i).map f).sum + f (l.getD i d) := by
 rw [Af (d := d) h, List.map_append, List.sum_append]; simp
theorem Q0 {α : Type} (f : α → Nat) : ∀ (l : List α) (i : Nat), ((l.take i).map f).sum ≤ (l.map f).sum
 | [], i => by simp
 | a :: l, 0 => by simp
 | a :: l, i + 1 => by have := Q0 f l i; simp only [List.take_succ_cons, List.map_cons, List.sum_cons]; omega
theorem B3w (t : T) : bK t 0 = 1 + t.r.length + t.name.size := by simp [bK]
theorem D8y {t : T} {i : Nat} (h : i < t.kids.length) : bK t (i + 1) = bK t i + I0 (t.kids.getD i t0) := by
 unfold bK; rw [Qo I0 h (d := t0)]; omega
theorem D8x (t : T) : bS t 0 = bK t t.kids.length := by simp [bS]
theorem C5o (t : T) (i : Nat) : bJ t i 0 = bS t i + 1 + (t.sys.getD i Bp).An.length := by simp [bJ]
theorem D8z {t : T} {i j : Nat} (h : j < (t.sys.getD i Bp).kids.length) : bJ t i (j + 1) = bJ t i j + I0 ((t.sys.getD i Bp).kids.getD j t0) := by
 unfold bJ; rw [Qo I0 h (d := t0)]; omega
theorem B3v {t : T} {i : Nat} (h : i < t.sys.length) : bS t (i + 1) = bJ t i (t.sys.getD i Bp).kids.length := by
 unfold bS bJ bS; rw [Qo Ny h (d := Bp), List.take_length]; unfold Ny; omega
theorem E5b (t : T) : bS t t.sys.length = I0 t := by
 rw [Yo]; unfold bS bK; rw [List.take_length, List.take_length]
theorem E0m (t : T) (i : Nat) : bS t i ≤ I0 t := by
 rw [Yo]; unfold bS bK; rw [List.take_length]; have := Q0 Ny t.sys i; omega
theorem C5n (t : T) (i : Nat) : bK t i ≤ I0 t := by
 rw [Yo]; unfold bK; have := Q0 I0 t.kids i; omega
theorem E0n {t : T} {i j : Nat} (h : i < t.sys.length) : bJ t i j ≤ I0 t := by
 have h1 := E0m t (i + 1)
 rw [B3v h] at h1
 unfold bJ at h1 ⊢
 rw [List.take_length] at h1
 have := Q0 I0 (t.sys.getD i Bp).kids j
 omega
def Gv (t : T) (part : Nat) (E1 n : Int) : Prop := 0 ≤ n ∧ n ≤ 2 * E1 + 1 ∧ ((n ≤ E1 ∧ n = part) ∨ (E1 < n ∧ E1 < I0 t))
theorem B1n : ∀ t, size t ≤ I0 t := T.ind fun t ih => by
 have hk : ∀ (F G : T → Nat) (l : List T), (∀ k, k ∈ l → F k ≤ G k) → (l.map F).sum ≤ (l.map G).sum := by
  intro F G l
  induction l with
  | nil => intro _; simp
  | cons a l ih => intro h; have := ih (fun k hk => h k (List.mem_cons_of_mem _ hk)); have := h a List.mem_cons_self; simp only [List.map_cons, List.sum_cons]; omega
 have e : size t = 1 + ((parts t).map fun p => size p.1).sum := by
  rw [size_eq]
  have : ∀ (l : List Part) (a : Nat), l.foldl (fun a p => a + size p.1) a = a + (l.map fun p => size p.1).sum := by
   intro l
   induction l with
   | nil => intro a; simp
   | cons b l ih => intro a; rw [List.foldl_cons, ih]; simp; omega
  exact this _ _
 rw [e, Ou, Yo, List.sum_append]
 have h1 := hk size I0 t.kids (fun k hk => by obtain ⟨p, hp, e⟩ := Hg hk; exact e ▸ ih p hp)
 have h2 : ((t.sys.map fun b => b.kids.map size).flatten).sum ≤ (t.sys.map Ny).sum := by
  have : ∀ (l : List Br), (∀ b, b ∈ l → b ∈ t.sys) → ((l.map fun b => b.kids.map size).flatten).sum ≤ (l.map Ny).sum := by
   intro l
   induction l with
   | nil => intro _; simp
   | cons b l ih2 =>
    intro h
    have h3 := ih2 (fun b hb => h b (List.mem_cons_of_mem _ hb))
    have h4 := hk size I0 b.kids (fun k hk => by obtain ⟨p, hp, e⟩ := He (h b List.mem_cons_self) hk; exact e ▸ ih p hp)
    simp only [List.map_cons, List.flatten_cons, List.sum_append, List.sum_cons]
    have hb : Ny b = 1 + b.An.length + (b.kids.map I0).sum := rfl
    rw [hb]
    omega
  exact this t.sys (fun _ h => h)
 omega
end Go.Hy
namespace Go.Proofs.YtpfjlbopkhdebaaGreatDoor.Hy
open Go.Proofs
set_option maxRecDepth 100000
set_option maxHeartbeats 8000000
def E1b : Nat → Option (TypeDesc)
 | 1 => some (.func #[] #[] false)
 | 2 => some (.int .i64)
 | 3 => some (.int .i64)
 | 4 => some (.bool)
 | 5 => some (.int .u8)
 | 9 => some (.string)
 | 12 => some (.int .u64)
 | 20 => some (.interface #[])
 | 21 => some (.int .i32)
 | 22 => some (.slice 47)
 | 23 => some (.func #[22] #[4] false)
 | 24 => some (.func #[] #[4] false)
 | 25 => some (.slice 45)
 | 26 => some (.int .i64)
 | 28 => some (.func #[22] #[25, 26] false)
 | 30 => some (.func #[22] #[25, 3] false)
 | 31 => some (.func #[22] #[3] false)
 | 32 => some (.func #[25, 25] #[4] false)
 | 33 => some (.slice 35)
 | 36 => some (.func #[35, 25] #[4] false)
 | 37 => some (.func #[35] #[35] false)
 | 39 => some (.func #[35, 3, 25] #[35, 26] false)
 | 41 => some (.func #[35, 3, 25] #[35, 3] false)
 | 42 => some (.func #[35, 35] #[4] false)
 | 43 => some (.int .u32)
 | 53 => some (.func #[45] #[4] false)
 | 54 => some (.func #[25, 45] #[25, 26] false)
 | 63 => some (.func #[35] #[4] false)
 | 95 => some (.func #[] #[22] false)
 | 99 => some (.func #[47] #[4] false)
 | 103 => some (.func #[25, 3] #[25, 26] false)
 | 104 => some (.func #[25, 3] #[25, 26] false)
 | 108 => some (.func #[35, 3] #[35, 26] false)
 | 116 => some (.slice 115)
 | 117 => some (.slice 3)
 | 119 => some (.func #[35] #[3] false)
 | 124 => some (.func #[25, 126] #[25] false)
 | 126 => some (.func #[45] #[45, 4] false)
 | 128 => some (.func #[35] #[35, 26] false)
 | 133 => some (.func #[35, 3, 3] #[4] false)
 | 138 => some (.func #[35, 3, 3] #[35] false)
 | 139 => some (.func #[] #[35] false)
 | 146 => some (.int .u64)
 | 148 => some (.func #[43, 3] #[4] false)
 | 151 => some (.func #[3] #[3] false)
 | 157 => some (.func #[25, 3, 25] #[25, 26] false)
 | 159 => some (.func #[157] #[104] false)
 | 165 => some (.func #[35, 3, 25, 3, 4] #[35] false)
 | 167 => some (.func #[3] #[35] false)
 | 168 => some (.func #[33] #[33] false)
 | 174 => some (.map 45 4)
 | 177 => some (.func #[45, 45] #[3] false)
 | 179 => some (.func #[3] #[43] false)
 | 181 => some (.slice 25)
 | 188 => some (.func #[45, 3, 3] #[45, 3] false)
 | 195 => some (.int .u64)
 | 196 => some (.array 29 3)
 | 202 => some (.array 32 5)
 | 204 => some (.int .i64)
 | 215 => some (.func #[] #[195] false)
 | 216 => some (.func #[25, 3, 217, 177] #[3] false)
 | 217 => some (.pointer 3)
 | 233 => some (.pointer 5)
 | _ => none
def E1c : Nat → Option (Nat × Nat × Value)
 | 1 => some (1, 8, .nilFunc)
 | 2 => some (1, 8, .int .i64 0)
 | 3 => some (1, 8, .int .i64 0)
 | 4 => some (1, 1, .bool false)
 | 5 => some (1, 1, .int .u8 0)
 | 9 => some (1, 16, .string ⟨#[]⟩)
 | 12 => some (1, 8, .int .u64 0)
 | 21 => some (1, 4, .int .i32 0)
 | 22 => some (1, 24, .slice none 0 0)
 | 23 => some (1, 8, .nilFunc)
 | 24 => some (1, 8, .nilFunc)
 | 25 => some (1, 24, .slice none 0 0)
 | 26 => some (1, 8, .int .i64 0)
 | 28 => some (1, 8, .nilFunc)
 | 30 => some (1, 8, .nilFunc)
 | 31 => some (1, 8, .nilFunc)
 | 32 => some (1, 8, .nilFunc)
 | 33 => some (1, 24, .slice none 0 0)
 | 34 => some (6, 104, .agg #[.int .i64 0, .int .i64 0, .string ⟨#[]⟩, .slice none 0 0, .slice none 0 0, .slice none 0 0])
 | 35 => some (6, 104, .agg #[.int .i64 0, .int .i64 0, .string ⟨#[]⟩, .slice none 0 0, .slice none 0 0, .slice none 0 0])
 | 36 => some (1, 8, .nilFunc)
 | 37 => some (1, 8, .nilFunc)
 | 39 => some (1, 8, .nilFunc)
 | 41 => some (1, 8, .nilFunc)
 | 42 => some (1, 8, .nilFunc)
 | 43 => some (1, 4, .int .u32 0)
 | 44 => some (2, 8, .agg #[.int .u32 0, .int .u32 0])
 | 45 => some (2, 8, .agg #[.int .u32 0, .int .u32 0])
 | 46 => some (2, 48, .agg #[.slice none 0 0, .slice none 0 0])
 | 47 => some (2, 48, .agg #[.slice none 0 0, .slice none 0 0])
 | 53 => some (1, 8, .nilFunc)
 | 54 => some (1, 8, .nilFunc)
 | 63 => some (1, 8, .nilFunc)
 | 67 => some (2, 32, .agg #[.slice none 0 0, .int .i64 0])
 | 68 => some (2, 32, .agg #[.slice none 0 0, .int .i64 0])
 | 71 => some (2, 32, .agg #[.slice none 0 0, .int .i64 0])
 | 95 => some (1, 8, .nilFunc)
 | 99 => some (1, 8, .nilFunc)
 | 103 => some (1, 8, .nilFunc)
 | 104 => some (1, 8, .nilFunc)
 | 105 => some (2, 16, .agg #[.nilFunc, .nilFunc])
 | 106 => some (2, 16, .agg #[.nilFunc, .nilFunc])
 | 108 => some (1, 8, .nilFunc)
 | 115 => some (2, 32, .agg #[.int .u32 0, .slice none 0 0])
 | 116 => some (1, 24, .slice none 0 0)
 | 117 => some (1, 24, .slice none 0 0)
 | 119 => some (1, 8, .nilFunc)
 | 124 => some (1, 8, .nilFunc)
 | 126 => some (1, 8, .nilFunc)
 | 128 => some (1, 8, .nilFunc)
 | 133 => some (1, 8, .nilFunc)
 | 136 => some (2, 16, .agg #[.int .i64 0, .int .i64 0])
 | 137 => some (2, 16, .agg #[.int .i64 0, .int .i64 0])
 | 138 => some (1, 8, .nilFunc)
 | 139 => some (1, 8, .nilFunc)
 | 146 => some (1, 8, .int .u64 0)
 | 148 => some (1, 8, .nilFunc)
 | 151 => some (1, 8, .nilFunc)
 | 157 => some (1, 8, .nilFunc)
 | 159 => some (1, 8, .nilFunc)
 | 165 => some (1, 8, .nilFunc)
 | 167 => some (1, 8, .nilFunc)
 | 168 => some (1, 8, .nilFunc)
 | 174 => some (1, 8, .map none)
 | 177 => some (1, 8, .nilFunc)
 | 179 => some (1, 8, .nilFunc)
 | 181 => some (1, 24, .slice none 0 0)
 | 188 => some (1, 8, .nilFunc)
 | 195 => some (1, 8, .int .u64 0)
 | 196 => some (29, 232, .agg #[.int .i64 0, .int .i64 0, .int .i64 0, .int .i64 0, .int .i64 0, .int .i64 0, .int .i64 0, .int .i64 0, .int .i64 0, .int .i64 0, .int .i64 0, .int .i64 0, .int .i64 0, .int .i64 0, .int .i64 0, .int .i64 0, .int .i64 0, .int .i64 0, .int .i64 0, .int .i64 0, .int .i64 0, .int .i64 0, .int .i64 0, .int .i64 0, .int .i64 0, .int .i64 0, .int .i64 0, .int .i64 0, .int .i64 0])
 | 202 => some (32, 32, .agg #[.int .u8 0, .int .u8 0, .int .u8 0, .int .u8 0, .int .u8 0, .int .u8 0, .int .u8 0, .int .u8 0, .int .u8 0, .int .u8 0, .int .u8 0, .int .u8 0, .int .u8 0, .int .u8 0, .int .u8 0, .int .u8 0, .int .u8 0, .int .u8 0, .int .u8 0, .int .u8 0, .int .u8 0, .int .u8 0, .int .u8 0, .int .u8 0, .int .u8 0, .int .u8 0, .int .u8 0, .int .u8 0, .int .u8 0, .int .u8 0, .int .u8 0, .int .u8 0])
 | 204 => some (1, 8, .int .i64 0)
 | 215 => some (1, 8, .nilFunc)
 | 216 => some (1, 8, .nilFunc)
 | 217 => some (1, 8, .pointer none)
 | 233 => some (1, 8, .pointer none)
 | _ => none
def C6k : Nat → Option (List (Nat × Nat))
 | 34 => some ([(0, 1), (1, 1), (2, 1), (3, 1), (4, 1), (5, 1)])
 | 35 => some ([(0, 1), (1, 1), (2, 1), (3, 1), (4, 1), (5, 1)])
 | 44 => some ([(0, 1), (1, 1)])
 | 45 => some ([(0, 1), (1, 1)])
 | 46 => some ([(0, 1), (1, 1)])
 | 47 => some ([(0, 1), (1, 1)])
 | 67 => some ([(0, 1), (1, 1)])
 | 68 => some ([(0, 1), (1, 1)])
 | 71 => some ([(0, 1), (1, 1)])
 | 105 => some ([(0, 1), (1, 1)])
 | 106 => some ([(0, 1), (1, 1)])
 | 115 => some ([(0, 1), (1, 1)])
 | 136 => some ([(0, 1), (1, 1)])
 | 137 => some ([(0, 1), (1, 1)])
 | _ => none
def E1d (t j : Nat) : Option Nat := (C6k t).bind fun l => (l[j]?).map (·.1)
noncomputable abbrev ii_ (t : Nat) := (Tryz.prog.info? t).map fun i => (i.size, i.bytes, i.zero)
theorem F0k : ii_ 1 = some (1, 8, some (.nilFunc)) := by kernel_rfl
theorem F0j : ii_ 2 = some (1, 8, some (.int .i64 0)) := by kernel_rfl
theorem F0i : ii_ 3 = some (1, 8, some (.int .i64 0)) := by kernel_rfl
theorem F0h : ii_ 4 = some (1, 1, some (.bool false)) := by kernel_rfl
theorem F0g : ii_ 5 = some (1, 1, some (.int .u8 0)) := by kernel_rfl
theorem F0f : ii_ 9 = some (1, 16, some (.string ⟨#[]⟩)) := by kernel_rfl
theorem E8z : ii_ 12 = some (1, 8, some (.int .u64 0)) := by kernel_rfl
theorem E8y : ii_ 21 = some (1, 4, some (.int .i32 0)) := by kernel_rfl
theorem E8x : ii_ 22 = some (1, 24, some (.slice none 0 0)) := by kernel_rfl
theorem E8w : ii_ 23 = some (1, 8, some (.nilFunc)) := by kernel_rfl
theorem E8v : ii_ 24 = some (1, 8, some (.nilFunc)) := by kernel_rfl
theorem E8u : ii_ 25 = some (1, 24, some (.slice none 0 0)) := by kernel_rfl
theorem E8t : ii_ 26 = some (1, 8, some (.int .i64 0)) := by kernel_rfl
theorem E8s : ii_ 28 = some (1, 8, some (.nilFunc)) := by kernel_rfl
theorem E8r : ii_ 30 = some (1, 8, some (.nilFunc)) := by kernel_rfl
theorem E8q : ii_ 31 = some (1, 8, some (.nilFunc)) := by kernel_rfl
theorem E8p : ii_ 32 = some (1, 8, some (.nilFunc)) := by kernel_rfl
theorem E8o : ii_ 33 = some (1, 24, some (.slice none 0 0)) := by kernel_rfl
theorem E8n : ii_ 34 = some (6, 104, some (.agg #[.int .i64 0, .int .i64 0, .string ⟨#[]⟩, .slice none 0 0, .slice none 0 0, .slice none 0 0])) := by kernel_rfl
theorem E8m : ii_ 35 = some (6, 104, some (.agg #[.int .i64 0, .int .i64 0, .string ⟨#[]⟩, .slice none 0 0, .slice none 0 0, .slice none 0 0])) := by kernel_rfl
theorem E8l : ii_ 36 = some (1, 8, some (.nilFunc)) := by kernel_rfl
theorem E8k : ii_ 37 = some (1, 8, some (.nilFunc)) := by kernel_rfl
theorem E8j : ii_ 39 = some (1, 8, some (.nilFunc)) := by kernel_rfl
theorem E8i : ii_ 41 = some (1, 8, some (.nilFunc)) := by kernel_rfl
theorem E8h : ii_ 42 = some (1, 8, some (.nilFunc)) := by kernel_rfl
theorem E8g : ii_ 43 = some (1, 4, some (.int .u32 0)) := by kernel_rfl
theorem E8f : ii_ 44 = some (2, 8, some (.agg #[.int .u32 0, .int .u32 0])) := by kernel_rfl
theorem E8e : ii_ 45 = some (2, 8, some (.agg #[.int .u32 0, .int .u32 0])) := by kernel_rfl
theorem E8d : ii_ 46 = some (2, 48, some (.agg #[.slice none 0 0, .slice none 0 0])) := by kernel_rfl
theorem E8c : ii_ 47 = some (2, 48, some (.agg #[.slice none 0 0, .slice none 0 0])) := by kernel_rfl
theorem E8b : ii_ 53 = some (1, 8, some (.nilFunc)) := by kernel_rfl
theorem E8a : ii_ 54 = some (1, 8, some (.nilFunc)) := by kernel_rfl
theorem E7z : ii_ 63 = some (1, 8, some (.nilFunc)) := by kernel_rfl
theorem E7y : ii_ 67 = some (2, 32, some (.agg #[.slice none 0 0, .int .i64 0])) := by kernel_rfl
theorem E7x : ii_ 68 = some (2, 32, some (.agg #[.slice none 0 0, .int .i64 0])) := by kernel_rfl
theorem E7w : ii_ 71 = some (2, 32, some (.agg #[.slice none 0 0, .int .i64 0])) := by kernel_rfl
theorem E7v : ii_ 95 = some (1, 8, some (.nilFunc)) := by kernel_rfl
theorem E7u : ii_ 99 = some (1, 8, some (.nilFunc)) := by kernel_rfl
theorem E4q : ii_ 103 = some (1, 8, some (.nilFunc)) := by kernel_rfl
theorem E4p : ii_ 104 = some (1, 8, some (.nilFunc)) := by kernel_rfl
theorem E4o : ii_ 105 = some (2, 16, some (.agg #[.nilFunc, .nilFunc])) := by kernel_rfl
theorem E4n : ii_ 106 = some (2, 16, some (.agg #[.nilFunc, .nilFunc])) := by kernel_rfl
theorem E4m : ii_ 108 = some (1, 8, some (.nilFunc)) := by kernel_rfl
theorem E4l : ii_ 115 = some (2, 32, some (.agg #[.int .u32 0, .slice none 0 0])) := by kernel_rfl
theorem E4k : ii_ 116 = some (1, 24, some (.slice none 0 0)) := by kernel_rfl
theorem E4j : ii_ 117 = some (1, 24, some (.slice none 0 0)) := by kernel_rfl
theorem E4i : ii_ 119 = some (1, 8, some (.nilFunc)) := by kernel_rfl
theorem E4h : ii_ 124 = some (1, 8, some (.nilFunc)) := by kernel_rfl
theorem E4g : ii_ 126 = some (1, 8, some (.nilFunc)) := by kernel_rfl
theorem E4f : ii_ 128 = some (1, 8, some (.nilFunc)) := by kernel_rfl
theorem E4e : ii_ 133 = some (1, 8, some (.nilFunc)) := by kernel_rfl
theorem E4d : ii_ 136 = some (2, 16, some (.agg #[.int .i64 0, .int .i64 0])) := by kernel_rfl
theorem E4c : ii_ 137 = some (2, 16, some (.agg #[.int .i64 0, .int .i64 0])) := by kernel_rfl
theorem E4b : ii_ 138 = some (1, 8, some (.nilFunc)) := by kernel_rfl
theorem E4a : ii_ 139 = some (1, 8, some (.nilFunc)) := by kernel_rfl
theorem E3z : ii_ 146 = some (1, 8, some (.int .u64 0)) := by kernel_rfl
theorem E3y : ii_ 148 = some (1, 8, some (.nilFunc)) := by kernel_rfl
theorem E3x : ii_ 151 = some (1, 8, some (.nilFunc)) := by kernel_rfl
theorem E3w : ii_ 157 = some (1, 8, some (.nilFunc)) := by kernel_rfl
theorem E3v : ii_ 159 = some (1, 8, some (.nilFunc)) := by kernel_rfl
theorem E3u : ii_ 165 = some (1, 8, some (.nilFunc)) := by kernel_rfl
theorem E3t : ii_ 167 = some (1, 8, some (.nilFunc)) := by kernel_rfl
theorem E3s : ii_ 168 = some (1, 8, some (.nilFunc)) := by kernel_rfl
theorem E3r : ii_ 174 = some (1, 8, some (.map none)) := by kernel_rfl
theorem E3q : ii_ 177 = some (1, 8, some (.nilFunc)) := by kernel_rfl
theorem E3p : ii_ 179 = some (1, 8, some (.nilFunc)) := by kernel_rfl
theorem E3o : ii_ 181 = some (1, 24, some (.slice none 0 0)) := by kernel_rfl
theorem E3n : ii_ 188 = some (1, 8, some (.nilFunc)) := by kernel_rfl
theorem E3m : ii_ 195 = some (1, 8, some (.int .u64 0)) := by kernel_rfl
theorem E3l : ii_ 196 = some (29, 232, some (.agg #[.int .i64 0, .int .i64 0, .int .i64 0, .int .i64 0, .int .i64 0, .int .i64 0, .int .i64 0, .int .i64 0, .int .i64 0, .int .i64 0, .int .i64 0, .int .i64 0, .int .i64 0, .int .i64 0, .int .i64 0, .int .i64 0, .int .i64 0, .int .i64 0, .int .i64 0, .int .i64 0, .int .i64 0, .int .i64 0, .int .i64 0, .int .i64 0, .int .i64 0, .int .i64 0, .int .i64 0, .int .i64 0, .int .i64 0])) := by kernel_rfl
theorem E3k : ii_ 202 = some (32, 32, some (.agg #[.int .u8 0, .int .u8 0, .int .u8 0, .int .u8 0, .int .u8 0, .int .u8 0, .int .u8 0, .int .u8 0, .int .u8 0, .int .u8 0, .int .u8 0, .int .u8 0, .int .u8 0, .int .u8 0, .int .u8 0, .int .u8 0, .int .u8 0, .int .u8 0, .int .u8 0, .int .u8 0, .int .u8 0, .int .u8 0, .int .u8 0, .int .u8 0, .int .u8 0, .int .u8 0, .int .u8 0, .int .u8 0, .int .u8 0, .int .u8 0, .int .u8 0, .int .u8 0])) := by kernel_rfl
theorem E3j : ii_ 204 = some (1, 8, some (.int .i64 0)) := by kernel_rfl
theorem E3i : ii_ 215 = some (1, 8, some (.nilFunc)) := by kernel_rfl
theorem E3h : ii_ 216 = some (1, 8, some (.nilFunc)) := by kernel_rfl
theorem E3g : ii_ 217 = some (1, 8, some (.pointer none)) := by kernel_rfl
theorem E3f : ii_ 233 = some (1, 8, some (.pointer none)) := by kernel_rfl
theorem Bd {t s b : Nat} {z : Value} (h : ii_ t = some (s, b, some z)) : ∃ i, Tryz.prog.info? t = some i ∧ i.size = s ∧ i.bytes = b ∧ i.zero = some z := by
 obtain ⟨i, h1, h2⟩ := Option.map_eq_some_iff.1 h
 simp only [Prod.mk.injEq] at h2
 exact ⟨i, h1, h2.1, h2.2.1, h2.2.2⟩
theorem D6o : ∀ t d, E1b t = some d → Tryz.prog.underlying t = some d := by
 intro t d h
 unfold E1b at h
 split at h
 ·cases h; exact Tryz.underlying1
 ·cases h; exact Tryz.underlying2
 ·cases h; exact Tryz.underlying3
 ·cases h; exact Tryz.underlying4
 ·cases h; exact Tryz.underlying5
 ·cases h; exact Tryz.underlying9
 ·cases h; exact Tryz.underlying12
 ·cases h; exact Tryz.underlying20
 ·cases h; exact Tryz.underlying21
 ·cases h; exact Tryz.underlying22
 ·cases h; exact Tryz.underlying23
 ·cases h; exact Tryz.underlying24
 ·cases h; exact Tryz.underlying25
 ·cases h; exact Tryz.underlying26
 ·cases h; exact Tryz.underlying28
 ·cases h; exact Tryz.underlying30
 ·cases h; exact Tryz.underlying31
 ·cases h; exact Tryz.underlying32
 ·cases h; exact Tryz.underlying33
 ·cases h; exact Tryz.underlying36
 ·cases h; exact Tryz.underlying37
 ·cases h; exact Tryz.underlying39
 ·cases h; exact Tryz.underlying41
 ·cases h; exact Tryz.underlying42
 ·cases h; exact Tryz.underlying43
 ·cases h; exact Tryz.underlying53
 ·cases h; exact Tryz.underlying54
 ·cases h; exact Tryz.underlying63
 ·cases h; exact Tryz.underlying95
 ·cases h; exact Tryz.underlying99
 ·cases h; exact Tryz.underlying103
 ·cases h; exact Tryz.underlying104
 ·cases h; exact Tryz.underlying108
 ·cases h; exact Tryz.underlying116
 ·cases h; exact Tryz.underlying117
 ·cases h; exact Tryz.underlying119
 ·cases h; exact Tryz.underlying124
 ·cases h; exact Tryz.underlying126
 ·cases h; exact Tryz.underlying128
 ·cases h; exact Tryz.underlying133
 ·cases h; exact Tryz.underlying138
 ·cases h; exact Tryz.underlying139
 ·cases h; exact Tryz.underlying146
 ·cases h; exact Tryz.underlying148
 ·cases h; exact Tryz.underlying151
 ·cases h; exact Tryz.underlying157
 ·cases h; exact Tryz.underlying159
 ·cases h; exact Tryz.underlying165
 ·cases h; exact Tryz.underlying167
 ·cases h; exact Tryz.underlying168
 ·cases h; exact Tryz.underlying174
 ·cases h; exact Tryz.underlying177
 ·cases h; exact Tryz.underlying179
 ·cases h; exact Tryz.underlying181
 ·cases h; exact Tryz.underlying188
 ·cases h; exact Tryz.underlying195
 ·cases h; exact Tryz.underlying196
 ·cases h; exact Tryz.underlying202
 ·cases h; exact Tryz.underlying204
 ·cases h; exact Tryz.underlying215
 ·cases h; exact Tryz.underlying216
 ·cases h; exact Tryz.underlying217
 ·cases h; exact Tryz.underlying233
 ·cases h
theorem D6p : ∀ t s b z, E1c t = some (s, b, z) → ∃ i, Tryz.prog.info? t = some i ∧ i.size = s ∧ i.bytes = b ∧ i.zero = some z := by
 intro t s b z h
 unfold E1c at h
 split at h
 ·cases h; exact Bd F0k
 ·cases h; exact Bd F0j
 ·cases h; exact Bd F0i
 ·cases h; exact Bd F0h
 ·cases h; exact Bd F0g
 ·cases h; exact Bd F0f
 ·cases h; exact Bd E8z
 ·cases h; exact Bd E8y
 ·cases h; exact Bd E8x
 ·cases h; exact Bd E8w
 ·cases h; exact Bd E8v
 ·cases h; exact Bd E8u
 ·cases h; exact Bd E8t
 ·cases h; exact Bd E8s
 ·cases h; exact Bd E8r
 ·cases h; exact Bd E8q
 ·cases h; exact Bd E8p
 ·cases h; exact Bd E8o
 ·cases h; exact Bd E8n
 ·cases h; exact Bd E8m
 ·cases h; exact Bd E8l
 ·cases h; exact Bd E8k
 ·cases h; exact Bd E8j
 ·cases h; exact Bd E8i
 ·cases h; exact Bd E8h
 ·cases h; exact Bd E8g
 ·cases h; exact Bd E8f
 ·cases h; exact Bd E8e
 ·cases h; exact Bd E8d
 ·cases h; exact Bd E8c
 ·cases h; exact Bd E8b
 ·cases h; exact Bd E8a
 ·cases h; exact Bd E7z
 ·cases h; exact Bd E7y
 ·cases h; exact Bd E7x
 ·cases h; exact Bd E7w
 ·cases h; exact Bd E7v
 ·cases h; exact Bd E7u
 ·cases h; exact Bd E4q
 ·cases h; exact Bd E4p
 ·cases h; exact Bd E4o
 ·cases h; exact Bd E4n
 ·cases h; exact Bd E4m
 ·cases h; exact Bd E4l
 ·cases h; exact Bd E4k
 ·cases h; exact Bd E4j
 ·cases h; exact Bd E4i
 ·cases h; exact Bd E4h
 ·cases h; exact Bd E4g
 ·cases h; exact Bd E4f
 ·cases h; exact Bd E4e
 ·cases h; exact Bd E4d
 ·cases h; exact Bd E4c
 ·cases h; exact Bd E4b
 ·cases h; exact Bd E4a
 ·cases h; exact Bd E3z
 ·cases h; exact Bd E3y
 ·cases h; exact Bd E3x
 ·cases h; exact Bd E3w
 ·cases h; exact Bd E3v
 ·cases h; exact Bd E3u
 ·cases h; exact Bd E3t
 ·cases h; exact Bd E3s
 ·cases h; exact Bd E3r
 ·cases h; exact Bd E3q
 ·cases h; exact Bd E3p
 ·cases h; exact Bd E3o
 ·cases h; exact Bd E3n
 ·cases h; exact Bd E3m
 ·cases h; exact Bd E3l
 ·cases h; exact Bd E3k
 ·cases h; exact Bd E3j
 ·cases h; exact Bd E3i
 ·cases h; exact Bd E3h
 ·cases h; exact Bd E3g
 ·cases h; exact Bd E3f
 ·cases h
theorem E7t : ∃ fs, Tryz.prog.underlying 34 = some (.struct fs) ∧ fs.toList.mapM (fun f => (Tryz.prog.info? f.type).map fun i => (f.offset, i.size)) = some [(0, 1), (1, 1), (2, 1), (3, 1), (4, 1), (5, 1)] := ⟨_, Tryz.underlying34, by kernel_rfl⟩
theorem E7s : ∃ fs, Tryz.prog.underlying 35 = some (.struct fs) ∧ fs.toList.mapM (fun f => (Tryz.prog.info? f.type).map fun i => (f.offset, i.size)) = some [(0, 1), (1, 1), (2, 1), (3, 1), (4, 1), (5, 1)] := ⟨_, Tryz.underlying35, by kernel_rfl⟩
theorem E7r : ∃ fs, Tryz.prog.underlying 44 = some (.struct fs) ∧ fs.toList.mapM (fun f => (Tryz.prog.info? f.type).map fun i => (f.offset, i.size)) = some [(0, 1), (1, 1)] := ⟨_, Tryz.underlying44, by kernel_rfl⟩
theorem E7q : ∃ fs, Tryz.prog.underlying 45 = some (.struct fs) ∧ fs.toList.mapM (fun f => (Tryz.prog.info? f.type).map fun i => (f.offset, i.size)) = some [(0, 1), (1, 1)] := ⟨_, Tryz.underlying45, by kernel_rfl⟩
theorem E7p : ∃ fs, Tryz.prog.underlying 46 = some (.struct fs) ∧ fs.toList.mapM (fun f => (Tryz.prog.info? f.type).map fun i => (f.offset, i.size)) = some [(0, 1), (1, 1)] := ⟨_, Tryz.underlying46, by kernel_rfl⟩
theorem E7o : ∃ fs, Tryz.prog.underlying 47 = some (.struct fs) ∧ fs.toList.mapM (fun f => (Tryz.prog.info? f.type).map fun i => (f.offset, i.size)) = some [(0, 1), (1, 1)] := ⟨_, Tryz.underlying47, by kernel_rfl⟩
theorem E7n : ∃ fs, Tryz.prog.underlying 67 = some (.struct fs) ∧ fs.toList.mapM (fun f => (Tryz.prog.info? f.type).map fun i => (f.offset, i.size)) = some [(0, 1), (1, 1)] := ⟨_, Tryz.underlying67, by kernel_rfl⟩
theorem E7m : ∃ fs, Tryz.prog.underlying 68 = some (.struct fs) ∧ fs.toList.mapM (fun f => (Tryz.prog.info? f.type).map fun i => (f.offset, i.size)) = some [(0, 1), (1, 1)] := ⟨_, Tryz.underlying68, by kernel_rfl⟩
theorem E7l : ∃ fs, Tryz.prog.underlying 71 = some (.struct fs) ∧ fs.toList.mapM (fun f => (Tryz.prog.info? f.type).map fun i => (f.offset, i.size)) = some [(0, 1), (1, 1)] := ⟨_, Tryz.underlying71, by kernel_rfl⟩
theorem E3c : ∃ fs, Tryz.prog.underlying 105 = some (.struct fs) ∧ fs.toList.mapM (fun f => (Tryz.prog.info? f.type).map fun i => (f.offset, i.size)) = some [(0, 1), (1, 1)] := ⟨_, Tryz.underlying105, by kernel_rfl⟩
theorem E3b : ∃ fs, Tryz.prog.underlying 106 = some (.struct fs) ∧ fs.toList.mapM (fun f => (Tryz.prog.info? f.type).map fun i => (f.offset, i.size)) = some [(0, 1), (1, 1)] := ⟨_, Tryz.underlying106, by kernel_rfl⟩
theorem E3a : ∃ fs, Tryz.prog.underlying 115 = some (.struct fs) ∧ fs.toList.mapM (fun f => (Tryz.prog.info? f.type).map fun i => (f.offset, i.size)) = some [(0, 1), (1, 1)] := ⟨_, Tryz.underlying115, by kernel_rfl⟩
theorem E2z : ∃ fs, Tryz.prog.underlying 136 = some (.struct fs) ∧ fs.toList.mapM (fun f => (Tryz.prog.info? f.type).map fun i => (f.offset, i.size)) = some [(0, 1), (1, 1)] := ⟨_, Tryz.underlying136, by kernel_rfl⟩
theorem E2y : ∃ fs, Tryz.prog.underlying 137 = some (.struct fs) ∧ fs.toList.mapM (fun f => (Tryz.prog.info? f.type).map fun i => (f.offset, i.size)) = some [(0, 1), (1, 1)] := ⟨_, Tryz.underlying137, by kernel_rfl⟩
theorem C3d : ∀ t l, C6k t = some l → ∃ fs, Tryz.prog.underlying t = some (.struct fs) ∧ fs.toList.mapM (fun f => (Tryz.prog.info? f.type).map fun i => (f.offset, i.size)) = some l := by
 intro t l h
 unfold C6k at h
 split at h
 ·cases h; exact E7t
 ·cases h; exact E7s
 ·cases h; exact E7r
 ·cases h; exact E7q
 ·cases h; exact E7p
 ·cases h; exact E7o
 ·cases h; exact E7n
 ·cases h; exact E7m
 ·cases h; exact E7l
 ·cases h; exact E3c
 ·cases h; exact E3b
 ·cases h; exact E3a
 ·cases h; exact E2z
 ·cases h; exact E2y
 ·cases h
theorem D0m : ∀ t l, C6k t = some l → l.all (fun x => x.2 != 0) = true := by
 intro t l h
 unfold C6k at h
 split at h
 ·cases h; rfl
 ·cases h; rfl
 ·cases h; rfl
 ·cases h; rfl
 ·cases h; rfl
 ·cases h; rfl
 ·cases h; rfl
 ·cases h; rfl
 ·cases h; rfl
 ·cases h; rfl
 ·cases h; rfl
 ·cases h; rfl
 ·cases h; rfl
 ·cases h; rfl
 ·cases h
theorem B7d {P : Program} : ∀ (fs : List Field) (l : List (Nat × Nat)), fs.mapM (fun f => (P.info? f.type).map fun i => (f.offset, i.size)) = some l → ∀ (j : Nat) (x : Nat × Nat), l[j]? = some x → ∃ fl i, fs[j]? = some fl ∧ P.info? fl.type = some i ∧ fl.offset = x.1 ∧ i.size = x.2
 | [], l, h, j, x, hx => by simp at h; subst h; simp at hx
 | f :: fs, l, h, j, x, hx => by
  simp only [List.mapM_cons, Option.bind_eq_bind, Option.pure_def] at h
  cases hi : P.info? f.type with
  | none => simp [hi] at h
  | some i =>
   cases hr : fs.mapM (fun f => (P.info? f.type).map fun i => (f.offset, i.size)) with
   | none => simp [hi, hr] at h
   | some rest =>
    simp [hi, hr] at h
    subst h
    cases j with
    | zero => simp at hx; subst hx; exact ⟨f, i, rfl, hi, rfl, rfl⟩
    | succ j => simpa using B7d fs rest hr j x (by simpa using hx)
theorem D6q : ∀ t j o, E1d t j = some o → ∃ fs fl i, Tryz.prog.underlying t = some (.struct fs) ∧ fs[j]? = some fl ∧ fl.offset = o ∧ Tryz.prog.info? fl.type = some i ∧ i.size ≠ 0 := by
 intro t j o h
 unfold E1d at h
 obtain ⟨l, h1, h2⟩ := Option.bind_eq_some_iff.1 h
 obtain ⟨x, h3, rfl⟩ := Option.map_eq_some_iff.1 h2
 obtain ⟨fs, h4, h5⟩ := C3d t l h1
 obtain ⟨fl, i, h6, h7, h8, h9⟩ := B7d fs.toList l h5 j x h3
 refine ⟨fs, fl, i, h4, by simpa using h6, h8, h7, ?_⟩
 have := List.all_eq_true.1 (D0m t l h1) x (List.mem_of_getElem? h3)
 rw [h9]
 simpa using this
theorem F0m (a b c d : Int) (w : World) : (Op.equalIn 10000 45 (.agg #[.int .u32 a, .int .u32 b]) (.agg #[.int .u32 c, .int .u32 d])).run Tryz.prog w = .ok (a == c && b == d) w := by
 have u := Tryz.underlying43
 have hS : Tryz.prog.underlying 45 = some (.struct (Tryz.prog.fieldsOf 45)) := by kernel_rfl
 have hp : Tryz.prog.stoodInHeld 45 = false := by kernel_rfl
 obtain ⟨i, h1, h2⟩ : ∃ i, Tryz.prog.info? 43 = some i ∧ i.size = 1 := by
  obtain ⟨i, h1, h2⟩ := Option.map_eq_some_iff.1 (show (Tryz.prog.info? 43).map (fun i => i.size) = some 1 by kernel_rfl)
  exact ⟨i, h1, h2⟩
 have hz : ∀ w, (sizeOf 43).run Tryz.prog w = .ok 1 w := fun w => by simp [sizeOf, typeInfo, h1, h2]
 rw [show (10000 : Nat) = 9999 + 1 from rfl, run_equalIn_agg w 9999 45 _ _ hS hp]
 simp only [Program.fieldsOf, Tryz.underlying45]
 have hA : ∀ w, (isAgg 43).run Tryz.prog w = .ok false w := fun w => by simp [isAgg, run_underlying u]
 have e : ∀ (a c : Int) (w : World), (Op.equalIn 9999 43 (.int .u32 a) (.int .u32 c)).run Tryz.prog w = .ok (a == c) w := fun a c w => run_equalIn_int w 9998 43 .u32 .u32 a c u
 simp [Op.eqFields, part, hA, hz, e]
 by_cases h1 : a = c <;> by_cases h2 : b = d <;> simp [h1, h2]
instance : Go.Hy.Tab Tryz.prog := ⟨E1b, D6o, E1c, D6p, E1d, D6q, C6k, C3d, by kernel_rfl, 45, F0m, by kernel_rfl⟩
noncomputable def fC' : Array Field := match Tryz.prog.underlying 45 with | some (.struct fs) => fs | _ => #[]
noncomputable def fT' : Array Field := match Tryz.prog.underlying 35 with | some (.struct fs) => fs | _ => #[]
noncomputable def fB' : Array Field := match Tryz.prog.underlying 47 with | some (.struct fs) => fs | _ => #[]
noncomputable instance : Go.Hy.TyF Tryz.prog := { tI := 3, tS := 9, tU := 43, tC := 45, tT := 35, tB := 47, lC := 25, lT := 33, lB := 22, fC := fC', fT := fT', fB := fB', uI := Tryz.underlying3, uS := Tryz.underlying9, uU := Tryz.underlying43, uC := by kernel_rfl, uT := by kernel_rfl, uB := by kernel_rfl, ulC := Tryz.underlying25, ulT := Tryz.underlying33, ulB := Tryz.underlying22, pC := by kernel_rfl, pT := by kernel_rfl, pB := by kernel_rfl, c1 := ⟨by kernel_rfl, by kernel_rfl, by kernel_rfl, by kernel_rfl, by kernel_rfl, by kernel_rfl⟩, c2 := ⟨by kernel_rfl, by kernel_rfl, by kernel_rfl⟩, b2 := ⟨by kernel_rfl, by kernel_rfl, by kernel_rfl⟩ }
theorem laid' : laidOutB Tryz.prog = true := by kernel_rfl
noncomputable instance : Go.Hy.TabM Tryz.prog := { law := deep_law_laid laid' (m := 3) (by omega) (of_decide_eq_true (by kernel_rfl)) (by kernel_rfl) (by kernel_rfl), kt := by kernel_rfl, names := by kernel_rfl, npos := of_decide_eq_true (by kernel_rfl) }
end Go.Proofs.YtpfjlbopkhdebaaGreatDoor.Hy
namespace Go.Hy
theorem size_pos' (t : T) : 1 ≤ size t := by
 rw [size_eq]
 have : ∀ (l : List Part) (a : Nat), a ≤ l.foldl (fun a p => a + size p.1) a := by
  intro l
  induction l with
  | nil => intro a; exact Nat.le_refl _
  | cons p l ih => intro a; exact Nat.le_trans (Nat.le_add_right _ _) (ih _)
 exact this _ _
end Go.Hy
namespace Go.Hy
theorem Kj (k i : Int) : 0 ≤ (binds k i).1 ∧ (binds k i).1 ≤ 1 ∧ 0 ≤ (binds k i).2 ∧ (binds k i).2 ≤ 1 := by
 unfold binds
 repeat (first | split | (refine ⟨?_, ?_, ?_, ?_⟩ <;> simp))
theorem A3p {t : T} {p : Part} (h : p ∈ parts t) : 0 ≤ p.2.1 ∧ p.2.1 ≤ 1 ∧ 0 ≤ p.2.2 ∧ p.2.2 ≤ 1 := by
 unfold parts at h
 rcases List.mem_append.mp h with h | h
 ·have : ∀ (ks : List T) (i : Nat), p ∈ F5 t.kind i ks → 0 ≤ p.2.1 ∧ p.2.1 ≤ 1 ∧ 0 ≤ p.2.2 ∧ p.2.2 ≤ 1 := by
   intro ks
   induction ks with
   | nil => intro i h; simp [F5] at h
   | cons k ks ih =>
    intro i h
    rcases List.mem_cons.mp h with e | h
    ·subst e; exact Kj _ _
    ·exact ih _ h
  exact this _ _ h
 ·have : ∀ (bs : List Br), p ∈ Dz t.kind bs → 0 ≤ p.2.1 ∧ p.2.1 ≤ 1 ∧ 0 ≤ p.2.2 ∧ p.2.2 ≤ 1 := by
   intro bs
   induction bs with
   | nil => intro h; simp [Dz] at h
   | cons b bs ih =>
    intro h
    rcases List.mem_append.mp h with h | h
    ·obtain ⟨k, _, e⟩ := List.mem_map.mp h
     subst e
     show 0 ≤ (0 : Int) ∧ (0 : Int) ≤ 1 ∧ 0 ≤ more t.kind ∧ more t.kind ≤ 1
     unfold more
     split <;> omega
    ·exact ih h
  exact this _ h
theorem Oe {t : T} {p : Part} (h : p ∈ parts t) : size p.1 < size t := by
 obtain ⟨m, hm, e⟩ := List.mem_iff_getElem.mp h
 have h1 := Mz (t := t) (m := m) (p := p) (by rw [List.getElem?_eq_getElem hm, e])
 have h2 : 1 ≤ Cj t m := by
  unfold Cj O6
  have : ∀ (l : List Part) (a : Nat), a ≤ l.foldl (fun a p => a + size p.1) a := by
   intro l
   induction l with
   | nil => intro a; exact Nat.le_refl _
   | cons p l ih => intro a; exact Nat.le_trans (Nat.le_add_right _ _) (ih _)
  exact this _ _
 omega
end Go.Hy
namespace Go.Hy
@[simp] theorem qE_def (q : QP) : qE q = RT q.1.1 q.1.2.1 q.1.2.2.1 q.1.2.2.2 := rfl
@[simp] theorem ipE_def (q : IP) : ipE q = IL q.1 q.2 := rfl
end Go.Hy
namespace Go.Hy
section
variable {α : Type} {B : D5} {Γ : List Fact} {Ms : List Bq} {w : World} {E : α → Fact} {l : List α}
end
end Go.Hy
namespace Go.Hy
theorem Nr {t : T} (h : B5 t = 0) : size t ≤ 20000 := by
 unfold B5 at h
 split at h
 ·rename_i hs; exact absurd h hs
 ·rename_i hs
  simp only [ne_eq, Decidable.not_not, sized] at hs
  split at hs
  ·cases hs
  ·split at hs
   ·cases hs
   ·omega
section
variable {tn : Bool} {pn : Nat} {P : Program} [Tab P] {f : FuncId} {R : Ending → World → Prop} {B : D5} {n : Fz} {K : List Item} {ops : Array Oper} {i : Nat} {l fin : List Nat} {σ : Nat → Value} {Γ : List Fact} {Ms Ms2 : List Bq}
variable {dst : Option Tmp} {op : Op} {ty : TypeId} {pos : String} {after : Array Edge} {v : Value} {x y z : Operand}
theorem D3g {t e : TypeId} {d : TypeDesc} {g i' n' : Nat} {a : SH} {ls : List Int} (k_ : Ep P f R B n K ops l (Ay σ dst (.int .i64 (ls.getD i' 0))) Γ Ms) (hx : ev σ x = .pointer (some ⟨g, 0 + i' * 1, none⟩) := by exact A7) (hma : Ar 1 e a n' (Ds ls) ∈ Ms ∧ a.1 = some ⟨g, 0, none⟩ := by exact ma1_) (hu : Tab.und P t = some d := by rfl) (hd' : (match d with | .struct _ | .array _ _ => true | _ => false) = false := by rfl) (hlt : i' < ls.length := by first | omega | (simp only [List.length_map, List.length_set]; omega) | (simp; omega)) (hd : Aj n dst = true := by rfl) : Ff P f R B n K ops l (Ct dst (.load t x) ty) σ Γ Ms := Iu (E2v (F := Me) On 0 hx hma.1 hma.2 hu hd' hlt rfl) hd k_
theorem D9x {t e : TypeId} {bt g i' n' : Nat} {a : SH} {zv : Value} {ls : List Int} (u : Int) (k_ : Ep P f R B n K ops l σ Γ (Ar 1 e a n' (Ds (ls.set i' u)) :: Ms2)) (hx : ev σ x = .pointer (some ⟨g, 0 + i' * 1, none⟩) := by exact A7) (hm : Ms.Perm (Ar 1 e a n' (Ds ls) :: Ms2) := by first | exact Xs | exact Ah | exact Ck | exact Dx | exact E0 | exact Df | exact Cs | exact Jh | exact Ii) (ha : a.1 = some ⟨g, 0, none⟩ := by assumption) (hn : n' = ls.length := by first | rfl | omega | (simp; done) | (simp; omega)) (hy : (ev σ y).cells = (Me u).toArray := by exact A7) (hi : Tab.inf P t = some (1, bt, zv) := by rfl) (hlt : i' < ls.length := by first | omega | (simp only [List.length_map, List.length_set]; omega) | (simp; omega)) : Ff P f R B n K ops l (Ct none (.store t x y) ty) σ Γ Ms := Xg (D6r (F := Me) On u hx hm ha hn hy hi rfl hlt) k_
end
theorem St.F0e {B : D5} {Γ : List Fact} {Ms : List Bq} {w : World} {b : Nat} {e : TypeId} {cs : List Value} (l : List Int) (hs : St B Γ (Ae b cs e :: Ms) w) {hBp : Prop} (hB : hBp) (hc : cs = Ds l) (hn : l.length ≤ 1000) (hu : ∀ c, c ∈ l → Au c) : St B (IL l (some ⟨b, 0, Option.none⟩, l.length) :: Γ) Ms w :=
 (hs.Gq (sz := 1) (m := l.length) (by rw [hc, Pn On l]) (by unfold maxLen; omega)).M4 hB hc rfl (by unfold reach; omega) hu
section
variable {tn : Bool} {pn : Nat} {P : Program} [Tab P] {f : FuncId} {R : Ending → World → Prop} {B : D5} {n : Fz} {K : List Item} {ops : Array Oper} {i : Nat} {l fin : List Nat} {σ : Nat → Value} {Γ : List Fact} {Ms Ms2 : List Bq}
variable {dst : Option Tmp} {ty : TypeId}
theorem D6m {c : FuncId} {args cap al : List Value} {av : Array Operand} {ts : Array TypeId} {g : Operand} {pre : List Fact} {X : Type} {val : X → Value} {N : X → List Fact} {Ms1 : X → List Bq}
  (hc : ∀ (args : Array Value) (w : World), (callFunc c args).run P w = .ok (.enter c args) w) (hsp : Spec P c al.toArray pre [] val N Ms1) (kk : ∀ x, NV tn pn P f R B n K ops fin l (Ay σ dst (val x)) (N x ++ Γ) (Ms1 x ++ Ms))
  (hg : ev σ g = .func (.func c) #[] cap.toArray := by rfl) (ha : av.toList.map (ev σ) = args := by rfl) (hal : args ++ cap = al := by rfl) (hpre : ∀ F, F ∈ pre → F ∈ Γ := by first | (simp; done) | (simp +contextual; done)) (hd : Aj n dst = true := by rfl) : Lq tn pn P f R B n K ops fin i l dst (.call { callee := .value g, args := av, argTypes := ts }) ty σ Γ Ms :=
 C4q (C1s hg ha hc) (hal ▸ hsp) hpre rfl rfl hd kk
end
end Go.Hy
namespace Go.Proofs
open Go.Shelf
def Tryz.Z5 : Go.Shelf.Ren := ⟨fun | 6 => 170 | 15 => 222 | 14 => 221 | 28 => 245 | 29 => 246 | 20 => 237 | 21 => 238 | 22 => 239 | 23 => 240 | 24 => 241 | 25 => 242 | 26 => 243 | 27 => 244 | 46 => 257 | 47 => 258 | 48 => 259 | 49 => 260 | 50 => 261 | 57 => 264 | n => n, fun | 22 => 25 | 24 => 45 | 25 => 177 | 3 => 3 | 39 => 146 | 0 => 0 | 53 => 43 | 55 => 195 | 4 => 4 | 46 => 205 | 45 => 204 | 50 => 209 | 5 => 5 | 9 => 9 | 66 => 213 | 70 => 217 | 76 => 220 | 77 => 163 | n => n, fun | n => n⟩
theorem Tryz.D9r : Go.Proofs.SlLaysF0.n6 Tryz.prog Tryz.Z5 := {
 mixed := by kernel_rfl
 f6 := ⟨Tryz.f170.name, by decide, Tryz.func170.trans (congrArg some (by kernel_rfl))⟩
 f14 := ⟨Tryz.f221.name, by decide, Tryz.func221.trans (congrArg some (by kernel_rfl))⟩
 f15 := Tryz.func222.trans (congrArg some (by kernel_rfl))
 f20 := ⟨Tryz.f237.name, by decide, Tryz.func237.trans (congrArg some (by kernel_rfl))⟩
 f21 := ⟨Tryz.f238.name, by decide, Tryz.func238.trans (congrArg some (by kernel_rfl))⟩
 f22 := ⟨Tryz.f239.name, by decide, Tryz.func239.trans (congrArg some (by kernel_rfl))⟩
 f23 := ⟨Tryz.f240.name, by decide, Tryz.func240.trans (congrArg some (by kernel_rfl))⟩
 f24 := ⟨Tryz.f241.name, by decide, Tryz.func241.trans (congrArg some (by kernel_rfl))⟩
 f25 := ⟨Tryz.f242.name, by decide, Tryz.func242.trans (congrArg some (by kernel_rfl))⟩
 f26 := ⟨Tryz.f243.name, by decide, Tryz.func243.trans (congrArg some (by kernel_rfl))⟩
 f27 := ⟨Tryz.f244.name, by decide, Tryz.func244.trans (congrArg some (by kernel_rfl))⟩
 f28 := Tryz.func245.trans (congrArg some (by kernel_rfl))
 f29 := Tryz.func246.trans (congrArg some (by kernel_rfl))
 f46 := ⟨Tryz.f257.name, by decide, Tryz.func257.trans (congrArg some (by kernel_rfl))⟩
 f47 := Tryz.func258.trans (congrArg some (by kernel_rfl))
 f48 := Tryz.func259.trans (congrArg some (by kernel_rfl))
 f49 := ⟨Tryz.f260.name, by decide, Tryz.func260.trans (congrArg some (by kernel_rfl))⟩
 f50 := ⟨Tryz.f261.name, by decide, Tryz.func261.trans (congrArg some (by kernel_rfl))⟩
 f57 := ⟨Tryz.f264.name, by decide, Tryz.func264.trans (congrArg some (by kernel_rfl))⟩
 t0 := Tryz.underlying0
 a0 := Tryz.isAgg0
 z0 := Tryz.sizeOf0
 v0 := Tryz.zeroValue0
 t3 := Tryz.underlying3
 a3 := Tryz.isAgg3
 z3 := Tryz.sizeOf3
 v3 := Tryz.zeroValue3
 t4 := Tryz.underlying4
 a4 := Tryz.isAgg4
 z4 := Tryz.sizeOf4
 v4 := Tryz.zeroValue4
 t5 := Tryz.underlying5
 a5 := Tryz.isAgg5
 z5 := Tryz.sizeOf5
 v5 := Tryz.zeroValue5
 t9 := Tryz.underlying9
 a9 := Tryz.isAgg9
 z9 := Tryz.sizeOf9
 v9 := Tryz.zeroValue9
 t22 := Tryz.underlying25
 a22 := Tryz.isAgg25
 z22 := Tryz.sizeOf25
 v22 := Tryz.zeroValue25
 t25 := Tryz.underlying177
 a25 := Tryz.isAgg177
 z25 := Tryz.sizeOf177
 v25 := Tryz.zeroValue177
 t39 := Tryz.underlying146
 a39 := Tryz.isAgg146
 z39 := Tryz.sizeOf146
 v39 := Tryz.zeroValue146
 t45 := Tryz.underlying204
 a45 := Tryz.isAgg204
 z45 := Tryz.sizeOf204
 v45 := Tryz.zeroValue204
 t46 := Tryz.underlying205
 a46 := Tryz.isAgg205
 z46 := Tryz.sizeOf205
 v46 := Tryz.zeroValue205
 t50 := Tryz.underlying209
 a50 := Tryz.isAgg209
 z50 := Tryz.sizeOf209
 v50 := Tryz.zeroValue209
 t53 := Tryz.underlying43
 a53 := Tryz.isAgg43
 z53 := Tryz.sizeOf43
 v53 := Tryz.zeroValue43
 t55 := Tryz.underlying195
 a55 := Tryz.isAgg195
 z55 := Tryz.sizeOf195
 v55 := Tryz.zeroValue195
 t66 := Tryz.underlying213
 a66 := Tryz.isAgg213
 z66 := Tryz.sizeOf213
 v66 := Tryz.zeroValue213
 t70 := Tryz.underlying217
 a70 := Tryz.isAgg217
 z70 := Tryz.sizeOf217
 v70 := Tryz.zeroValue217
 t76 := Tryz.underlying220
 a76 := Tryz.isAgg220
 z76 := Tryz.sizeOf220
 v76 := Tryz.zeroValue220
 t77 := Tryz.underlying163
 a77 := Tryz.isAgg163
 z77 := Tryz.sizeOf163
 v77 := Tryz.zeroValue163 }
end Go.Proofs
