/- Contracts of this program's functions and the laws that they need. -/
import Derived.Orders
import Derived.Recover
set_option linter.unusedVariables false
set_option linter.unusedSimpArgs false
set_option linter.unusedSectionVars false
namespace Go.Hy
theorem u_ {α : Type} {x : Option α} {a b : α} (h : x = some a) (k : x = some b) : a = b := Option.some.inj (h.symm.trans k)
theorem A2 {p : Prop} (h : p := by omega) : p := h
theorem D6 {p : Prop} (h : p := by simp) : p := h
theorem Jv {p : Prop} (h : p := by decide) : p := h
theorem sx_ {p : Prop} (h : p := by simp +contextual) : p := h
theorem lb_ {a b : Nat} (h : a ≤ b := by exact Nat.le_of_ble_eq_true rfl) : a ≤ b := h
theorem Cy {α : Type} {a b : α} {l : List α} (h : a ∈ l) : a ∈ b :: l := List.Mem.tail b h
abbrev iv (a : Int) : Value := .int .i64 a
abbrev pz (b : Nat) : Value := .pointer (some ⟨b, 0, none⟩)
theorem Cd {p : Prop} (h : p := by repeat (first | exact trivial | refine ⟨rfl, ?_⟩)) : p := h
structure Se (S : Nat → Prop) (w w' : World) : Prop where
 os : w'.os = w.os
 tape : w'.tape = w.tape
 output : w'.output = w.output
 size : w.heap.size ≤ w'.heap.size
 block : ∀ b, b < w.heap.size → ¬ S b → w'.heap[b]? = w.heap[b]?
theorem Se.refl (S : Nat → Prop) (w : World) : Se S w w := ⟨rfl, rfl, rfl, Nat.le_refl _, fun _ _ _ => rfl⟩
theorem Se.trans {S S' : Nat → Prop} {w w1 w2 : World} (h : Se S w w1) (h' : Se S' w1 w2) (hs : ∀ b, S' b → S b ∨ w.heap.size ≤ b) : Se S w w2 :=
 ⟨h'.os.trans h.os, h'.tape.trans h.tape, h'.output.trans h.output, Nat.le_trans h.size h'.size, fun b hb hn =>
  (h'.block b (Nat.lt_of_lt_of_le hb h.size) (fun hc => (hs b hc).elim hn (fun hh => absurd hb (Nat.not_lt.2 hh)))).trans (h.block b hb hn)⟩
theorem Se.mono {S S' : Nat → Prop} {w w' : World} (h : Se S w w') (hs : ∀ b, S b → S' b) : Se S' w w' :=
 ⟨h.os, h.tape, h.output, h.size, fun b hb hn => h.block b hb (fun hc => hn (hs b hc))⟩
theorem Se.draw {S : Nat → Prop} {w w' : World} (h : Se S w w') (n : Nat) : Se S w { w' with drawn := n } := ⟨h.os, h.tape, h.output, h.size, h.block⟩
def Non (_ : Nat) : Prop := False
theorem Se.push (S : Nat → Prop) (w : World) (o : Obj) : Se S w { w with heap := w.heap.push o } :=
 ⟨rfl, rfl, rfl, by simp, fun b hb _ => by
  show (w.heap.push o)[b]? = _
  rw [Array.getElem?_push, if_neg A2]⟩
theorem Se.setCell (w : World) (b o : Nat) (v : Value) : Se (fun x => x = b) w (w.setCell ⟨b, o, none⟩ v) :=
 ⟨rfl, rfl, rfl, by simp [World.setCell], fun k _ hn => by
  simp only [World.setCell, Array.getElem?_modify]
  rw [if_neg (fun h => hn h.symm)]⟩
structure Fact where
 f : (Nat → Prop) → World → Prop
 mono : ∀ ok ok' w, (∀ b, ok b → ok' b) → f ok w → f ok' w
 loc : ∀ ok w w', f ok w → (∀ b, ok b → w'.heap[b]? = w.heap[b]?) → f ok w'
structure Bm where
 dom : Nat → Prop
 holds : World → Prop
def Bu (Ms : List Bm) (b : Nat) : Prop := ∃ m, m ∈ Ms ∧ m.dom b
structure Cs where
 ok0 : Nat → Prop
 S0 : Nat → Prop
 w0 : World
def Pm (B : Cs) (Ms : List Bm) (w : World) (b : Nat) : Prop := (B.ok0 b ∨ B.S0 b ∨ B.w0.heap.size ≤ b) ∧ b < w.heap.size ∧ ¬ Bu Ms b
structure St (B : Cs) (Γ : List Fact) (Ms : List Bm) (w : World) : Prop where
 chg : Se B.S0 B.w0 w
 facts : ∀ F, F ∈ Γ → F.f (Pm B Ms w) w
 res : ∀ m, m ∈ Ms → ∀ w', (∀ b, m.dom b → w'.heap[b]? = w.heap[b]?) → m.holds w'
 lt : ∀ m, m ∈ Ms → ∀ b, m.dom b → b < w.heap.size ∧ (B.S0 b ∨ B.w0.heap.size ≤ b)
 disj : Ms.Pairwise fun m m' => ∀ b, m.dom b → m'.dom b → False
theorem I7 (b : Nat) : ¬ Bu [] b := fun ⟨_, h, _⟩ => by cases h
theorem Ge {m : Bm} {Ms : List Bm} {b : Nat} : Bu (m :: Ms) b ↔ m.dom b ∨ Bu Ms b := by
 constructor
 ·rintro ⟨m', h, hd⟩
  cases h with
  | head => exact .inl hd
  | tail _ h => exact .inr ⟨m', h, hd⟩
 ·rintro (h | ⟨m', h, hd⟩)
  ·exact ⟨m, List.mem_cons_self, h⟩
  ·exact ⟨m', List.mem_cons_of_mem _ h, hd⟩
theorem E2 {A C : List Bm} {b : Nat} : Bu (A ++ C) b ↔ Bu A b ∨ Bu C b := by
 induction A with
 | nil => simp [Bu]
 | cons m A ih => rw [List.cons_append, Ge, Ge, ih, or_assoc]
section
variable {B : Cs} {Γ Γ' : List Fact} {Ms Ms' : List Bm} {w w' : World}
theorem St.draw (h : St B Γ Ms w) (n : Nat) : St B Γ Ms { w with drawn := n } :=
 ⟨h.chg.draw n, fun F hF => F.loc _ _ _ (h.facts F hF) (fun _ _ => rfl), fun m hm w' hw => h.res m hm w' hw, h.lt, h.disj⟩
theorem St.less (h : St B Γ Ms w) (hs : ∀ F, F ∈ Γ' → F ∈ Γ) : St B Γ' Ms w := ⟨h.chg, fun F hF => h.facts F (hs F hF), h.res, h.lt, h.disj⟩
theorem St.perm (h : St B Γ Ms w) (hp : Ms.Perm Ms') : St B Γ Ms' w := by
 have hd : ∀ b, Bu Ms b ↔ Bu Ms' b := fun b => ⟨fun ⟨m, hm, hb⟩ => ⟨m, hp.mem_iff.1 hm, hb⟩, fun ⟨m, hm, hb⟩ => ⟨m, hp.mem_iff.2 hm, hb⟩⟩
 exact ⟨h.chg, fun F hF => F.mono _ _ _ (fun b hb => ⟨hb.1, hb.2.1, fun hc => hb.2.2 ((hd b).2 hc)⟩) (h.facts F hF), fun m hm => h.res m (hp.mem_iff.2 hm), fun m hm => h.lt m (hp.mem_iff.2 hm),
  (hp.pairwise_iff (fun {x y} hxy b h1 h2 => hxy b h2 h1)).1 h.disj⟩
theorem St.drop {m : Bm} (h : St B Γ (m :: Ms) w) : St B Γ Ms w :=
 ⟨h.chg, fun F hF => F.mono _ _ _ (fun _ hb => ⟨hb.1, hb.2.1, fun hc => hb.2.2 (Ge.2 (.inr hc))⟩) (h.facts F hF), fun m' hm => h.res m' (List.mem_cons_of_mem _ hm), fun m' hm => h.lt m' (List.mem_cons_of_mem _ hm),
  (List.pairwise_cons.1 h.disj).2⟩
theorem St.add {F : Fact} (h : St B Γ Ms w) (hF : F.f (Pm B Ms w) w) : St B (F :: Γ) Ms w :=
 ⟨h.chg, fun G hG => by
  cases hG with
  | head => exact hF
  | tail _ hG => exact h.facts G hG, h.res, h.lt, h.disj⟩
theorem St.frame {Ms0 Ms1 Ms2 : List Bm} {N : List Fact} (h : St B Γ (Ms0 ++ Ms2) w) (h' : St ⟨Pm B (Ms0 ++ Ms2) w, Bu Ms0, w⟩ N Ms1 w') : St B (N ++ Γ) (Ms1 ++ Ms2) w' := by
 have hnew : ∀ b, Bu Ms1 b → Bu Ms0 b ∨ w.heap.size ≤ b := fun b ⟨m, hm, hb⟩ => (h'.lt m hm b hb).2
 have hold : ∀ m, m ∈ Ms2 → ∀ b, m.dom b → w'.heap[b]? = w.heap[b]? := fun m hm b hb => by
  refine h'.chg.block b (h.lt m (List.mem_append_right _ hm) b hb).1 ?_
  rintro ⟨m0, hm0, hb0⟩
  exact (List.pairwise_append.1 h.disj).2.2 m0 hm0 m hm b hb0 hb
 refine ⟨?_, ?_, ?_, ?_, ?_⟩
 ·refine h.chg.trans h'.chg ?_
  rintro b ⟨m, hm, hb⟩
  exact (h.lt m (List.mem_append_left _ hm) b hb).2
 ·intro F hF
  rcases List.mem_append.1 hF with hF | hF
  ·refine F.mono _ _ _ ?_ (h'.facts F hF)
   rintro b ⟨hb1, hb2, hb3⟩
   refine ⟨?_, hb2, ?_⟩
   ·rcases hb1 with hb1 | ⟨m, hm, hb1⟩ | hb1
    ·exact hb1.1
    ·exact .inr (h.lt m (List.mem_append_left _ hm) b hb1).2
    ·exact .inr (.inr (Nat.le_trans h.chg.size hb1))
   ·rw [E2]
    rintro (hc | ⟨m, hm, hc⟩)
    ·exact hb3 hc
    ·rcases hb1 with hb1 | ⟨m0, hm0, hb1⟩ | hb1
     ·exact hb1.2.2 ⟨m, List.mem_append_right _ hm, hc⟩
     ·exact (List.pairwise_append.1 h.disj).2.2 m0 hm0 m hm b hb1 hc
     ·exact absurd (h.lt m (List.mem_append_right _ hm) b hc).1 (Nat.not_lt.2 hb1)
  ·have h1 := h.facts F hF
   have h2 : F.f (Pm B (Ms0 ++ Ms2) w) w' := F.loc _ _ _ h1 (fun b hb => h'.chg.block b hb.2.1 (fun hc => hb.2.2 (E2.2 (.inl hc))))
   refine F.mono _ _ _ ?_ h2
   rintro b ⟨hb1, hb2, hb3⟩
   refine ⟨hb1, Nat.lt_of_lt_of_le hb2 h'.chg.size, ?_⟩
   rw [E2]
   rintro (hc | hc)
   ·rcases hnew b hc with h4 | h4
    ·exact hb3 (E2.2 (.inl h4))
    ·exact absurd hb2 (Nat.not_lt.2 h4)
   ·exact hb3 (E2.2 (.inr hc))
 ·intro m hm w2 hw2
  rcases List.mem_append.1 hm with hm | hm
  ·exact h'.res m hm w2 hw2
  ·exact h.res m (List.mem_append_right _ hm) w2 (fun b hb => (hw2 b hb).trans (hold m hm b hb))
 ·intro m hm b hb
  rcases List.mem_append.1 hm with hm | hm
  ·refine ⟨(h'.lt m hm b hb).1, ?_⟩
   rcases (h'.lt m hm b hb).2 with ⟨m0, hm0, hb0⟩ | h4
   ·exact (h.lt m0 (List.mem_append_left _ hm0) b hb0).2
   ·exact .inr (Nat.le_trans h.chg.size h4)
  ·have := h.lt m (List.mem_append_right _ hm) b hb
   exact ⟨Nat.lt_of_lt_of_le this.1 h'.chg.size, this.2⟩
 ·refine List.pairwise_append.2 ⟨h'.disj, (List.pairwise_append.1 h.disj).2.1, ?_⟩
  intro m1 hm1 m2 hm2 b hb1 hb2
  rcases (h'.lt m1 hm1 b hb1).2 with ⟨m0, hm0, hb0⟩ | h4
  ·exact (List.pairwise_append.1 h.disj).2.2 m0 hm0 m2 hm2 b hb0 hb2
  ·exact absurd (h.lt m2 (List.mem_append_right _ hm2) b hb2).1 (Nat.not_lt.2 h4)
theorem St.hand {Ms0 Ms2 : List Bm} {pre : List Fact} (h : St B Γ (Ms0 ++ Ms2) w) (hp : ∀ F, F ∈ pre → F ∈ Γ) : St ⟨Pm B (Ms0 ++ Ms2) w, Bu Ms0, w⟩ pre Ms0 w := by
 refine ⟨Se.refl _ _, ?_, fun m hm => h.res m (List.mem_append_left _ hm), ?_, (List.pairwise_append.1 h.disj).1⟩
 ·intro F hF
  refine F.mono _ _ _ ?_ (h.facts F (hp F hF))
  intro b hb
  exact ⟨.inl hb, hb.2.1, fun hc => hb.2.2 (E2.2 (.inl hc))⟩
 ·intro m hm b hb
  exact ⟨(h.lt m (List.mem_append_left _ hm) b hb).1, .inl ⟨m, hm, hb⟩⟩
theorem St.Er {m m' : Bm} (h : St B Γ (m :: Ms) w) (hc : Se m.dom w w') (hh : ∀ w2, (∀ b, m'.dom b → w2.heap[b]? = w'.heap[b]?) → m'.holds w2)
  (hd : ∀ b, m'.dom b → b < w'.heap.size ∧ (m.dom b ∨ w.heap.size ≤ b)) : St B Γ (m' :: Ms) w' := by
 have h0 : St ⟨Pm B ([m] ++ Ms) w, Bu [m], w⟩ [] [m'] w' := by
  refine ⟨hc.mono (fun b hb => Ge.2 (.inl hb)), ?_, ?_, ?_, ?_⟩
  ·intro F hF; cases hF
  ·intro m2 hm2; rw [List.mem_singleton] at hm2; subst hm2; exact hh
  ·intro m2 hm2 b hb; rw [List.mem_singleton] at hm2; subst hm2
   exact ⟨(hd b hb).1, (hd b hb).2.imp (fun hx => Ge.2 (.inl hx)) id⟩
  ·exact List.pairwise_singleton _ _
 exact St.frame (Ms0 := [m]) (Ms1 := [m']) (N := []) h h0
theorem St.born {m : Bm} (h : St B Γ Ms w) (hc : Se Non w w') (hh : ∀ w2, (∀ b, m.dom b → w2.heap[b]? = w'.heap[b]?) → m.holds w2)
  (hd : ∀ b, m.dom b → b < w'.heap.size ∧ w.heap.size ≤ b) : St B Γ (m :: Ms) w' := by
 have h0 : St ⟨Pm B ([] ++ Ms) w, Bu [], w⟩ [] [m] w' := by
  refine ⟨hc.mono (fun _ hb => hb.elim), ?_, ?_, ?_, ?_⟩
  ·intro F hF; cases hF
  ·intro m2 hm2; rw [List.mem_singleton] at hm2; subst hm2; exact hh
  ·intro m2 hm2 b hb; rw [List.mem_singleton] at hm2; subst hm2
   exact ⟨(hd b hb).1, .inr (hd b hb).2⟩
  ·exact List.pairwise_singleton _ _
 exact St.frame (Ms0 := []) (Ms1 := [m]) (N := []) h h0
theorem St.grow (h : St B Γ Ms w) (hc : Se Non w w') : St B Γ Ms w' := by
 have h0 : St ⟨Pm B ([] ++ Ms) w, Bu [], w⟩ [] [] w' := ⟨hc.mono (fun _ hb => hb.elim), fun F hF => (by cases hF), fun m hm => (by cases hm), fun m hm => (by cases hm), List.Pairwise.nil⟩
 exact St.frame (Ms0 := []) (Ms1 := []) (N := []) h h0
theorem St.settle {m : Bm} {F : Fact} (h : St B Γ (m :: Ms) w) (hF : ∀ ok, (∀ b, m.dom b → ok b) → m.holds w → F.f ok w) : St B (F :: Γ) Ms w := by
 refine h.drop.add (hF _ ?_ (h.res m List.mem_cons_self w (fun _ _ => rfl)))
 intro b hb
 refine ⟨.inr (h.lt m List.mem_cons_self b hb).2, (h.lt m List.mem_cons_self b hb).1, ?_⟩
 rintro ⟨m2, hm2, hb2⟩
 exact (List.pairwise_cons.1 h.disj).1 m2 hm2 b hb hb2
end
def ev (σ : Nat → Value) : Operand → Value
 | .tmp t => σ t
 | .const v => v
 | .global g => .pointer (some ⟨g, 0, none⟩)
 | .func f => .func (.func f) #[] #[]
def Sb (σ : Nat → Value) (d : Nat) (v : Value) (t : Nat) : Value := cond (Nat.beq t d) v (σ t)
def Aq (σ : Nat → Value) : Option Tmp → Value → (Nat → Value)
 | some d, v => Sb σ d v
 | none, _ => σ
theorem K2 (σ : Nat → Value) (d : Nat) (v : Value) : Sb σ d v d = v := by simp [Sb]
theorem Nw (σ : Nat → Value) {d t : Nat} (v : Value) (h : t ≠ d) : Sb σ d v t = σ t := by
 have : Nat.beq t d = false := by
  cases hb : Nat.beq t d with
  | false => rfl
  | true => exact absurd (Nat.eq_of_beq_eq_true hb) h
 simp [Sb, this]
structure Fz where
 sz : Nat
 defs : List Deferred
 kind : CallKind := .normal
structure Rel (n : Fz) (a : Act) (σ : Nat → Value) : Prop where
 size : a.tmps.size = n.sz
 get : ∀ t, a.tmps.getD t undef = σ t
 defs : a.defers = n.defs
theorem Rel.eval {n : Fz} {a : Act} {σ : Nat → Value} (h : Rel n a σ) : a.eval = ev σ := by
 funext x
 cases x <;> simp only [Act.eval, ev]
 exact h.get _
def Ah (n : Fz) : Option Tmp → Bool
 | some d => Nat.blt d n.sz
 | none => true
theorem Rel.put {n : Fz} {a : Act} {σ : Nat → Value} (h : Rel n a σ) {dst : Option Tmp} (hd : Ah n dst = true) (v : Value) : Rel n (a.put dst v) (Aq σ dst v) := by
 cases dst with
 | none => exact h
 | some d =>
  have hlt : d < n.sz := by simpa [Ah, Nat.blt_eq] using hd
  refine ⟨?_, ?_, h.defs⟩
  ·simp [Act.put, h.size]
  ·intro t
   by_cases ht : t = d
   ·subst ht
    simp [Act.put, Aq, K2, Array.getD_eq_getD_getElem?, h.size, hlt]
   ·have := h.get t
    simp only [Act.put, Aq, Nw σ v ht]
    rw [← this]
    simp [Array.getD_eq_getD_getElem?, Array.getElem?_setIfInBounds_ne (Ne.symm ht)]
def stL (σ : Nat → Value) : List (Nat × Value) → (Nat → Value)
 | [] => σ
 | (d, v) :: l => Sb (stL σ l) d v
def P3 (σ : Nat → Value) : List (Nat × Value) → Prop
 | [] => True
 | (d, v) :: l => σ d = v ∧ P3 σ l
theorem Ze (σ : Nat → Value) : ∀ l : List (Nat × Value), P3 σ l → stL σ l = σ
 | [], _ => rfl
 | (d, v) :: l, h => by
  have h1 := Ze σ l h.2
  funext t
  simp only [stL, h1]
  by_cases ht : t = d
  ·subst ht; rw [K2]; exact h.1.symm
  ·rw [Nw _ _ ht]
abbrev okK (κ : CallKind) : Prop := κ = .normal ∨ κ = .deferred
def D9m (κ : CallKind) (P : Program) (fr : Frame) (w : World) (e : Ending) : Prop := (κ = .normal ∧ fr.leaving P w e) ∨ (κ = .deferred ∧ fr.kind = .deferred ∧ fr.going P w e)
section
variable (P : Program) (f : FuncId) (R : Ending → World → Prop) (n : Fz)
def GoM (todo : List Item) (a : Act) (w : World) : Prop :=
 ∀ (b : Frame) (cs : List Frame), b.fn = f → b.kind = n.kind →
  ∃ e w' fr, R e w' ∧ Comes P (lone (b.at a todo) cs w) (lone fr cs w') e ∧ fr.fn = f ∧ D9m n.kind P fr w' e
def QK (K : List Item) : Exit → Act → World → Prop
 | .normal, a, w => GoM P f R n K a w
 | .panic chain, a, w => (n.kind = .normal ∨ (n.kind = .deferred ∧ a.defers = [])) ∧ ∀ fn, P.funcs[f]? = some fn → Leaves P fn a.tmps R a.defers (.panicking chain) w
 | _, _, _ => False
end
section
variable (P : Program) (f : FuncId) (R : Ending → World → Prop) (B : Cs) (n : Fz)
def Fa (todo : List Item) (σ : Nat → Value) (Γ : List Fact) (Ms : List Bm) : Prop :=
 ∀ a w, Rel n a σ → St B Γ Ms w → GoM P f R n todo a w
def E1 (K : List Item) (ops : Array Oper) (l : List Nat) (σ : Nat → Value) (Γ : List Fact) (Ms : List Bm) : Prop :=
 ∀ a w, Rel n a σ → St B Γ Ms w → wpOps P ops (QK P f R n K) l a w
end
section
variable {P : Program} {f : FuncId} {fn : Func} {R : Ending → World → Prop} {B : Cs} {n : Fz} {K : List Item} {σ : Nat → Value} {Γ : List Fact} {Ms : List Bm}
theorem GoM.head {todo todo' : List Item} {a a' : Act} {w w' : World} (hs : ∀ (b : Frame) cs, step P (lone (b.at a todo) cs w) = .next (lone (b.at a' todo') cs w')) (h : GoM P f R n todo' a' w') : GoM P f R n todo a w := by
 intro b cs hb hk
 obtain ⟨e, w2, fr, hR, hc, hf, hl⟩ := h b cs hb hk
 exact ⟨e, w2, fr, hR, hc.of_steps (.one (hs b cs)), hf, hl⟩
theorem E1n {x y : Code} (h : Fa P f R B n (.code x :: .code y :: K) σ Γ Ms) : Fa P f R B n (.code (.seq x y) :: K) σ Γ Ms :=
 fun a w hr hs => GoM.head (fun _ _ => step_seq) (h a w hr hs)
theorem go_skip (h : Fa P f R B n K σ Γ Ms) : Fa P f R B n (.code .skip :: K) σ Γ Ms :=
 fun a w hr hs => GoM.head (fun _ _ => step_skip) (h a w hr hs)
theorem C9v {id : Nat} {c : Code} (h : Fa P f R B n (.code c :: .inBlock id :: K) σ Γ Ms) : Fa P f R B n (.code (.block id c) :: K) σ Γ Ms :=
 fun a w hr hs => GoM.head (fun _ _ => step_block) (h a w hr hs)
theorem B6l {id : Nat} (h : Fa P f R B n K σ Γ Ms) : Fa P f R B n (.inBlock id :: K) σ Γ Ms :=
 fun a w hr hs => GoM.head (fun _ _ => step_inBlock) (h a w hr hs)
theorem D3y {id : Nat} {K' : List Item} (he : exitTo id K = some K') (h : Fa P f R B n K' σ Γ Ms) : Fa P f R B n (.code (.exit id) :: K) σ Γ Ms :=
 fun a w hr hs => GoM.head (fun _ _ => step_exit he) (h a w hr hs)
theorem A8h {c : Operand} {x y : Code} {t : Bool} (hc : ev σ c = .bool t) (ht : t = true → Fa P f R B n (.code x :: K) σ Γ Ms) (hf : t = false → Fa P f R B n (.code y :: K) σ Γ Ms) :
  Fa P f R B n (.code (.cond c x y) :: K) σ Γ Ms := by
 intro a w hr hs
 refine GoM.head (fun _ _ => step_cond (t := t) (by rw [hr.eval]; exact hc)) ?_
 cases t with
 | true => exact ht rfl a w hr hs
 | false => exact hf rfl a w hr hs
theorem C3o {c : Code} (h : Fa P f R B n (.code c :: .inLoop c :: K) σ Γ Ms) : Fa P f R B n (.inLoop c :: K) σ Γ Ms :=
 fun a w hr hs => GoM.head (fun _ _ => step_inLoop) (h a w hr hs)
theorem go_loop {c : Code} {X : Type} (live : X → List (Nat × Value)) (Γf : X → List Fact) (Mf : X → List Bm) (μ : X → Nat) (x0 : X)
  (hl : P3 σ (live x0)) (hΓ : ∀ w, St B Γ Ms w → St B (Γf x0) (Mf x0) w)
  (round : ∀ x base, (∀ x' σ', μ x' < μ x → P3 σ' (live x') → Fa P f R B n (.inLoop c :: K) σ' (Γf x') (Mf x')) →
   Fa P f R B n (.code c :: .inLoop c :: K) (stL base (live x)) (Γf x) (Mf x)) :
  Fa P f R B n (.code (.loop c) :: K) σ Γ Ms := by
 have key : ∀ k x σ', μ x < k → P3 σ' (live x) → Fa P f R B n (.code c :: .inLoop c :: K) σ' (Γf x) (Mf x) := by
  intro k
  induction k with
  | zero => intro x σ' hx; exact absurd hx (Nat.not_lt_zero _)
  | succ k ih =>
   intro x σ' hx hσ
   have := round x σ' (fun x' σ2 hlt h2 => C3o (ih x' σ2 (Nat.lt_of_lt_of_le hlt (Nat.le_of_lt_succ hx)) h2))
   rwa [Ze σ' (live x) hσ] at this
 intro a w hr hs
 exact GoM.head (fun _ _ => step_loop) (key (μ x0 + 1) x0 σ (Nat.lt_succ_self _) hl a w hr (hΓ w hs))
theorem Dj {c : Code} {X : Type} (Inv : X → Prop) (live : X → List (Nat × Value)) (Γf : X → List Fact) (Mf : X → List Bm) (μ : X → Nat) (x0 : X) (h0 : Inv x0)
  (hl : P3 σ (live x0)) (hΓ : ∀ w, St B Γ Ms w → St B (Γf x0) (Mf x0) w)
  (round : ∀ x base, Inv x → (∀ x' σ', Inv x' → μ x' < μ x → P3 σ' (live x') → Fa P f R B n (.inLoop c :: K) σ' (Γf x') (Mf x')) →
   Fa P f R B n (.code c :: .inLoop c :: K) (stL base (live x)) (Γf x) (Mf x)) :
  Fa P f R B n (.code (.loop c) :: K) σ Γ Ms :=
 go_loop (X := {x : X // Inv x}) (fun x => live x.1) (fun x => Γf x.1) (fun x => Mf x.1) (fun x => μ x.1) ⟨x0, h0⟩ hl hΓ
  (fun x base next => round x.1 base x.2 (fun x' σ' hi => next ⟨x', hi⟩ σ'))
theorem go_ret {v : Value} (hf : P.funcs[f]? = some fn) (hv : ∀ a w, Rel n a σ → St B Γ Ms w → (results fn a.tmps).run P w = .ok v w) (hR : ∀ w, St B Γ Ms w → R (.returned v) w) (hD : n.defs = [] := by rfl) (hK : okK n.kind := by first | exact .inl rfl | exact .inr rfl) : Fa P f R B n (.code .ret :: K) σ Γ Ms := by
 intro a w hr hs b cs hb hk
 have hfn : P.funcs[b.fn]? = some fn := by rw [hb]; exact hf
 refine ⟨.returned v, w, _, hR w hs, .one step_ret, hb, ?_⟩
 rcases hK with h9 | h9
 ·exact .inl ⟨h9, rfl, hr.defs.trans hD, hk.trans h9, fn, hfn, hv a w hr hs⟩
 ·exact .inr ⟨h9, hk.trans h9, rfl, hr.defs.trans hD, fn, hfn, hv a w hr hs⟩
theorem E1o {v : Value} (hf : P.funcs[f]? = some fn) (hv : ∀ a w, Rel n a σ → St B Γ Ms w → (results fn a.tmps).run P w = .ok v w) (hR : ∀ w, St B Γ Ms w → R (.returned v) w) (hD : n.defs = [] := by rfl) (hK : okK n.kind := by first | exact .inl rfl | exact .inr rfl) : Fa P f R B n [] σ Γ Ms := by
 intro a w hr hs b cs hb hk
 have hfn : P.funcs[b.fn]? = some fn := by rw [hb]; exact hf
 refine ⟨.returned v, w, _, hR w hs, .one step_end, hb, ?_⟩
 rcases hK with h9 | h9
 ·exact .inl ⟨h9, rfl, hr.defs.trans hD, hk.trans h9, fn, hfn, hv a w hr hs⟩
 ·exact .inr ⟨h9, hk.trans h9, rfl, hr.defs.trans hD, fn, hfn, hv a w hr hs⟩
theorem A1 {todo : List Item} {Γ' : List Fact} {Ms' : List Bm} (hs : ∀ w, St B Γ Ms w → St B Γ' Ms' w) (h : Fa P f R B n todo σ Γ' Ms') : Fa P f R B n todo σ Γ Ms :=
 fun a w hr h' => h a w hr (hs w h')
theorem go_slots {todo : List Item} (live : List (Nat × Value)) (hl : P3 σ live) (h : ∀ base, Fa P f R B n todo (stL base live) Γ Ms) : Fa P f R B n todo σ Γ Ms := by
 have := h σ
 rwa [Ze σ live hl] at this
theorem Au {it : Item} (live : List (Nat × Value)) (h1 : (∀ σ', P3 σ' live → Fa P f R B n K σ' Γ Ms) → Fa P f R B n (it :: K) σ Γ Ms) (h2 : ∀ base, Fa P f R B n K (stL base live) Γ Ms) : Fa P f R B n (it :: K) σ Γ Ms :=
 h1 (fun σ' hl => go_slots live hl h2)
theorem C9t {c : Operand} {x y : Code} (h : Fa P f R B n (.code x :: K) σ Γ Ms) (hc : ev σ c = .bool true := by rfl) : Fa P f R B n (.code (.cond c x y) :: K) σ Γ Ms := A8h hc (fun _ => h) (fun h => by cases h)
theorem C9u {c : Operand} {x y : Code} (h : Fa P f R B n (.code y :: K) σ Γ Ms) (hc : ev σ c = .bool false := by rfl) : Fa P f R B n (.code (.cond c x y) :: K) σ Γ Ms := A8h hc (fun h => by cases h) (fun _ => h)
theorem Wh {d : Nat} {v : Value} (h : σ d = v) : Sb σ d v = σ := by
 funext t
 by_cases ht : t = d
 ·subst ht; rw [K2]; exact h.symm
 ·exact Nw _ _ ht
theorem A6 {d : Nat} {x y : Code} {t : Bool} (ht : t = true → Fa P f R B n (.code x :: K) (Sb σ d (.bool true)) Γ Ms) (hf : t = false → Fa P f R B n (.code y :: K) (Sb σ d (.bool false)) Γ Ms) (hc : σ d = .bool t := by conv => lhs; whnf) : Fa P f R B n (.code (.cond (.tmp d) x y) :: K) σ Γ Ms := by
 refine A8h (t := t) hc (fun h => ?_) (fun h => ?_)
 ·have := ht h
  rwa [Wh (h ▸ hc)] at this
 ·have := hf h
  rwa [Wh (h ▸ hc)] at this
theorem A3g (hfn : ∃ fn, P.funcs[f]? = some fn) {ops : Array Oper} {l : List Nat} {a : Act} {w : World} (h : wpOps P ops (QK P f R n K) l a w) : GoM P f R n (.inRegion ops l :: K) a w := by
 intro b cs hb hk
 obtain ⟨e, a', w', hq, harr⟩ := wp_ops l a w h b K cs
 cases e with
 | normal =>
  obtain ⟨e2, w2, fr, hR, hc, hf, hl⟩ := hq b cs hb hk
  exact ⟨e2, w2, fr, hR, hc.of_steps harr, hf, hl⟩
 | panic chain =>
  obtain ⟨todo, hs⟩ := harr
  obtain ⟨fn, hfn⟩ := hfn
  have hfn' : P.funcs[b.fn]? = some fn := by rw [hb]; exact hfn
  rcases hq.1 with h9 | ⟨h9, h8⟩
  ·obtain ⟨e2, w2, fr, hR, hc, hf, hl⟩ := leaves_steps a'.defers (.panicking chain) w' { b.at a' todo with mode := .panicking chain } cs rfl rfl rfl hfn' (hk.trans h9) (hq.2 fn hfn)
   exact ⟨e2, w2, fr, hR, hc.of_steps hs, hf.trans hb, .inl ⟨h9, hl⟩⟩
  ·have hR := hq.2 fn hfn
   rw [h8] at hR
   exact ⟨.panicked chain, w', _, hR, hs, hb, .inr ⟨h9, hk.trans h9, rfl, h8, fn, hfn'⟩⟩
 | exit id => exact hq.elim
 | goto l => exact hq.elim
 | ret => exact hq.elim
 | outgrown => exact hq.elim
theorem go_region {id : Nat} {ops : Array Oper} {l : List Nat} (hfn : ∃ fn, P.funcs[f]? = some fn) (hl : List.range ops.size = l) (h : E1 P f R B n K ops l σ Γ Ms) : Fa P f R B n (.code (.region id ops false) :: K) σ Γ Ms := by
 subst hl
 exact fun a w hr hs => GoM.head (fun _ _ => step_region) (A3g hfn (h a w hr hs))
theorem Wt {args : Array Value} {fn : Func} (hn : fn.ntmps = n.sz) (hD : n.defs = []) (ha : args.size ≤ n.sz) : Rel n { tmps := args ++ Array.replicate (fn.ntmps - args.size) undef, defers := [] } (fun t => args.getD t undef) := by
 refine ⟨?_, ?_, hD.symm⟩
 ·simp [hn]; omega
 ·intro t
  simp only [Array.getD_eq_getD_getElem?, Array.getElem?_append]
  by_cases ht : t < args.size
  ·simp [ht]
  ·simp only [ht, if_false]
   rw [Array.getElem?_eq_none (by omega : args.size ≤ t)]
   simp only [Option.getD_none]
   by_cases h2 : t - args.size < fn.ntmps - args.size
   ·simp [h2]
   ·rw [Array.getElem?_eq_none (by simp; omega)]; rfl
theorem B3c {args : Array Value} {c : Code} {w : World} (hf : P.funcs[f]? = some fn) (hb : fn.body = some c) (hn : fn.ntmps = n.sz) (hD : n.defs = []) (hk : n.kind = .normal) (ha : args.size ≤ n.sz) (hs : St B Γ Ms w)
  (h : Fa P f R B n [.code c] (fun t => args.getD t undef) Γ Ms) : Calls P f args w R := by
 intro cs
 let b : Frame := { (default : Frame) with fn := f, kind := .normal }
 have henter : Frame.enter P f args .normal = b.at { tmps := args ++ Array.replicate (fn.ntmps - args.size) undef, defers := [] } [.code c] := by
  simp [Frame.enter, Frame.at, hf, hb, b]
 rw [henter]
 obtain ⟨e, w', fr, hR, hc, hf', hl⟩ := h _ w (Wt hn hD ha) hs b cs rfl hk.symm
 rcases hl with ⟨_, hl⟩ | ⟨h9, _⟩
 ·exact ⟨e, w', fr, hR, hc, hf', hl⟩
 ·rw [hk] at h9; cases h9
theorem C4e {args : Array Value} {c : Code} {w : World} {d d2 : Tmp} {o1 o2 : Oper} {id : Nat} {v : Value} {older : List PanicEntry} (hf : P.funcs[f]? = some fn) (hb : fn.body = some (.seq (.region id #[o1, o2] false) c)) (hn : fn.ntmps = n.sz) (hD : n.defs = []) (hk : n.kind = .deferred) (ha : args.size ≤ n.sz) (hs : St B Γ Ms w)
  (h1 : ∀ ρ w, (execOp ρ o1).run P w = .ok .recover w) (hd1 : o1.dst = some d) (hg1 : o1.guard = none) (h2 : ∀ ρ : Operand → Value, execOp ρ o2 = pure (.value (ρ (.tmp d)))) (hd2 : o2.dst = some d2) (hg2 : o2.guard = none) (hl1 : Nat.blt d n.sz = true) (hl2 : Nat.blt d2 n.sz = true)
  (h : Fa P f R B n [.code c] (Sb (Sb (fun t => args.getD t undef) d v) d2 v) Γ Ms) : CallsD P f args (.panicking ({ v, recovered := false, goexit := false } :: older)) w fun e u' w' => u' = .panicking ({ v, recovered := true } :: older) ∧ R e w' := by
 intro c0 cs hu
 let b : Frame := { (default : Frame) with fn := f, kind := .deferred }
 have henter : Frame.enter P f args .deferred = b.at { tmps := args ++ Array.replicate (fn.ntmps - args.size) undef, defers := [] } [.code (.seq (.region id #[o1, o2] false) c)] := by
  simp [Frame.enter, Frame.at, hf, hb, b]
 have hr0 := Wt (fn := fn) hn hD ha
 have hr1 := hr0.put (dst := some d) hl1 v
 have hr2 := hr1.put (dst := some d2) hl2 v
 have hS : wpOpsS P #[o1, o2] (fun e a' cs' w' => e = .normal ∧ a' = (({ tmps := args ++ Array.replicate (fn.ntmps - args.size) undef, defers := [] } : Act).put (some d) v).put (some d2) v ∧ cs' = { c0 with mode := .panicking ({ v, recovered := true } :: older) } :: cs ∧ w' = w) [0, 1] { tmps := args ++ Array.replicate (fn.ntmps - args.size) undef, defers := [] } (c0 :: cs) w := by
  have e1 : (#[o1, o2])[0]? = some o1 := rfl
  have e2 : (#[o1, o2])[1]? = some o2 := rfl
  have hrec : recoverD (c0 :: cs) = some (v, { c0 with mode := .panicking ({ v, recovered := true } :: older) } :: cs) := by simp [recoverD, hu]
  have hput : ((({ tmps := args ++ Array.replicate (fn.ntmps - args.size) undef, defers := [] } : Act).put (some d) v).eval (.tmp d)) = v := by
   rw [hr1.eval]; simp [ev, Aq, K2]
  simp only [wpOpsS, e1, e2, Region.wanted, hg1, hg2, if_true, h1, hrec, hd1, h2]
  rw [hput]
  show Oper.upon P o2 _ _ _ (.ok (.value v) w)
  simp only [Oper.upon_value, hd2, and_self]
 obtain ⟨e, a', cs', w', ⟨rfl, rfl, rfl, rfl⟩, harr⟩ := wp_opsS [0, 1] _ _ _ hS b [.code c] rfl rfl
 obtain ⟨e, w2, fr, hR, hc, hf', hl⟩ := h _ w' hr2 hs b ({ c0 with mode := .panicking ({ v, recovered := true } :: older) } :: cs) rfl hk.symm
 rcases hl with ⟨h9, _⟩ | ⟨_, hk2, hgo⟩
 ·rw [hk] at h9; cases h9
 ·refine ⟨e, .panicking ({ v, recovered := true } :: older), w2, fr, ⟨rfl, hR⟩, ?_, hk2, hgo⟩
  rw [henter]
  exact hc.of_steps (.head step_seq (.head step_region harr))
end
section
variable {P : Program} {f : FuncId} {R : Ending → World → Prop} {B : Cs} {n : Fz} {K : List Item} {ops : Array Oper} {i : Nat} {l : List Nat} {o : Oper} {σ : Nat → Value} {Γ : List Fact} {Ms : List Bm}
theorem D7i (h : Fa P f R B n K σ Γ Ms) : E1 P f R B n K ops [] σ Γ Ms := fun a w hr hs => h a w hr hs
def Ep (ops : Array Oper) (σ : Nat → Value) (o : Oper) : Bool :=
 match o.guard with
 | none => true
 | some (j, want) =>
  match (ops[j]?).bind (·.dst) with
  | none => false
  | some d => match σ d with
   | .bool b => b == want
   | _ => false
theorem Rel.want {a : Act} {ops : Array Oper} {σ : Nat → Value} (h : Rel n a σ) (o : Oper) : Region.wanted o (yielded ops a.tmps) = Ep ops σ o := by
 unfold Region.wanted Ep
 cases hg : o.guard with
 | none => rfl
 | some p =>
  obtain ⟨j, want⟩ := p
  simp only [yielded]
  cases hd : (ops[j]?).bind (·.dst) with
  | none => cases want <;> rfl
  | some d =>
   have := h.get d
   simp only [Option.bind_some]
   cases ht : a.tmps[d]? with
   | none =>
    have h2 : σ d = undef := by rw [← this]; simp [Array.getD_eq_getD_getElem?, ht]
    rw [h2]; cases want <;> rfl
   | some v =>
    have h2 : σ d = v := by rw [← this]; simp [Array.getD_eq_getD_getElem?, ht]
    rw [h2]
    cases v <;> cases want <;> first | rfl | (rename_i b; cases b <;> rfl)
def Ex (P : Program) (f : FuncId) (R : Ending → World → Prop) (B : Cs) (n : Fz) (K : List Item) (ops : Array Oper) (l : List Nat) (o : Oper) (σ : Nat → Value) (Γ : List Fact) (Ms : List Bm) : Prop :=
 ∀ a w, Rel n a σ → St B Γ Ms w → o.wp P a w (wpOps P ops (QK P f R n K) l) (QK P f R n K)
theorem D2g (ho : ops[i]? = some o) (hg : o.guard = none) (h : Ex P f R B n K ops l o σ Γ Ms) : E1 P f R B n K ops (i :: l) σ Γ Ms := by
 intro a w hr hs
 rw [wpOps_cons]
 unfold wpOp
 simp only [ho, Region.wanted, hg, if_true]
 exact .inl (h a w hr hs)
theorem D5l (ho : ops[i]? = some o) (hw : Ep ops σ o = true) (h : Ex P f R B n K ops l o σ Γ Ms) : E1 P f R B n K ops (i :: l) σ Γ Ms := by
 intro a w hr hs
 rw [wpOps_cons]
 unfold wpOp
 simp only [ho, hr.want, hw, if_true]
 exact .inl (h a w hr hs)
theorem B5e (ho : ops[i]? = some o) (hw : Ep ops σ o = false) (hd : Ah n o.dst = true) (h : E1 P f R B n K ops l (Aq σ o.dst undef) Γ Ms) : E1 P f R B n K ops (i :: l) σ Γ Ms := by
 intro a w hr hs
 rw [wpOps_cons]
 unfold wpOp
 simp only [ho, hr.want, hw, Bool.false_eq_true, if_false]
 exact h _ _ (hr.put hd _) hs
theorem C6h {g d : Nat} {want t : Bool} (ho : ops[i]? = some o) (hg : o.guard = some (g, want)) (hog : (ops[g]?).bind (·.dst) = some d) (ht : σ d = .bool t) (hd : Ah n o.dst = true)
  (hon : (t == want) = true → Ex P f R B n K ops l o σ Γ Ms) (hoff : (t == want) = false → E1 P f R B n K ops l (Aq σ o.dst undef) Γ Ms) : E1 P f R B n K ops (i :: l) σ Γ Ms := by
 have hw : Ep ops σ o = (t == want) := by simp only [Ep, hg, hog, ht]
 cases hb : (t == want) with
 | true => exact D5l ho (hw.trans hb) (hon hb)
 | false => exact B5e ho (hw.trans hb) hd (hoff hb)
theorem A7p {X : Type} (val : X → Value) (Γ' : X → List Fact) (Ms' : X → List Bm) (hd : Ah n o.dst = true)
  (h : ∀ w, St B Γ Ms w → ∃ x w', (execOp (ev σ) o).run P w = .ok (.value (val x)) w' ∧ St B (Γ' x) (Ms' x) w')
  (k : ∀ x, E1 P f R B n K ops l (Aq σ o.dst (val x)) (Γ' x) (Ms' x)) : Ex P f R B n K ops l o σ Γ Ms := by
 intro a w hr hs
 obtain ⟨x, w', hrun, hs'⟩ := h w hs
 unfold Oper.wp
 rw [hr.eval, hrun]
 exact k x _ _ (hr.put hd _) hs'
theorem D2y {Γ' : List Fact} {Ms' : List Bm} (hd : o.dst = none)
  (h : ∀ w, St B Γ Ms w → ∃ w', (execOp (ev σ) o).run P w = .ok .skip w' ∧ St B Γ' Ms' w')
  (k : E1 P f R B n K ops l σ Γ' Ms') : Ex P f R B n K ops l o σ Γ Ms := by
 intro a w hr hs
 obtain ⟨w', hrun, hs'⟩ := h w hs
 unfold Oper.wp
 rw [hr.eval, hrun]
 simp only [Oper.upon, hd]
 exact k _ _ hr hs'
def Fs (P : Program) (σ : Nat → Value) (o : Oper) (v : Value) : Prop := ∀ w, (execOp (ev σ) o).run P w = .ok (.value v) w
def A2j (P : Program) (B : Cs) (σ : Nat → Value) (Γ : List Fact) (Ms : List Bm) (o : Oper) (v : Value) : Prop := ∀ w, St B Γ Ms w → (execOp (ev σ) o).run P w = .ok (.value v) w
theorem D2z {v : Value} (h : Fs P σ o v) (hd : Ah n o.dst = true) (k : E1 P f R B n K ops l (Aq σ o.dst v) Γ Ms) : Ex P f R B n K ops l o σ Γ Ms :=
 A7p (X := Unit) (fun _ => v) (fun _ => Γ) (fun _ => Ms) hd (fun w hs => ⟨(), w, h w, hs⟩) (fun _ => k)
theorem D3b {v : Value} (h : A2j P B σ Γ Ms o v) (hd : Ah n o.dst = true) (k : E1 P f R B n K ops l (Aq σ o.dst v) Γ Ms) : Ex P f R B n K ops l o σ Γ Ms :=
 A7p (X := Unit) (fun _ => v) (fun _ => Γ) (fun _ => Ms) hd (fun w hs => ⟨(), w, h w hs, hs⟩) (fun _ => k)
def Af (b : Nat) (cs : List Value) (T : TypeId) : Bm := ⟨fun x => x = b, fun w => w.heap[b]? = some (.cells cs.toArray T (0, 0))⟩
def Ki (P : Program) (σ : Nat → Value) (o : Oper) (val : Nat → Value) (cs : List Value) (T : TypeId) : Prop :=
 ∀ w, (execOp (ev σ) o).run P w = .ok (.value (val w.heap.size)) { w with heap := w.heap.push (.cells cs.toArray T (0, 0)) }
theorem St.alloc {w : World} (h : St B Γ Ms w) (cs : List Value) (T : TypeId) : St B Γ (Af w.heap.size cs T :: Ms) { w with heap := w.heap.push (.cells cs.toArray T (0, 0)) } := by
 refine h.born (Se.push _ w _) ?_ ?_
 ·intro w2 h2
  have := h2 w.heap.size rfl
  show w2.heap[w.heap.size]? = _
  rw [this]
  show (w.heap.push _)[w.heap.size]? = _
  simp
 ·intro b hb
  have hb : b = w.heap.size := hb
  subst hb
  simp
theorem C7q {val : Nat → Value} {cs : List Value} {T : TypeId} (h : Ki P σ o val cs T) (hd : Ah n o.dst = true) (k : ∀ b, E1 P f R B n K ops l (Aq σ o.dst (val b)) Γ (Af b cs T :: Ms)) : Ex P f R B n K ops l o σ Γ Ms :=
 A7p val (fun _ => Γ) (fun b => Af b cs T :: Ms) hd (fun w hs => ⟨w.heap.size, _, h w, hs.alloc cs T⟩) k
def Spec (P : Program) (k : FuncId) (args : Array Value) (pre : List Fact) (Ms0 : List Bm) {X : Type} (val : X → Value) (N : X → List Fact) (Ms1 : X → List Bm) : Prop :=
 ∀ ok w, (∀ b, ok b → b < w.heap.size ∧ ¬ Bu Ms0 b) → St ⟨ok, Bu Ms0, w⟩ pre Ms0 w →
  Calls P k args w fun e w' => ∃ x, e = .returned (val x) ∧ St ⟨ok, Bu Ms0, w⟩ (N x) (Ms1 x) w'
theorem D3c {k : FuncId} {args : Array Value} {pre : List Fact} {Ms0 Ms2 : List Bm} {X : Type} {val : X → Value} {N : X → List Fact} {Ms1 : X → List Bm}
  (he : ∀ w, (execOp (ev σ) o).run P w = .ok (.enter k args) w) (hd : Ah n o.dst = true) (hsp : Spec P k args pre Ms0 val N Ms1) (hpre : ∀ F, F ∈ pre → F ∈ Γ) (hm : Ms.Perm (Ms0 ++ Ms2))
  (kk : ∀ x, E1 P f R B n K ops l (Aq σ o.dst (val x)) (N x ++ Γ) (Ms1 x ++ Ms2)) : Ex P f R B n K ops l o σ Γ Ms := by
 intro a w hr hs
 unfold Oper.wp
 rw [hr.eval, he]
 have hs' := hs.perm hm
 refine (hsp (Pm B (Ms0 ++ Ms2) w) w ?_ (hs'.hand hpre)).mono ?_
 ·intro b hb
  exact ⟨hb.2.1, fun hc => hb.2.2 (E2.2 (.inl hc))⟩
 ·rintro e w' ⟨x, rfl, hx⟩
  exact kk x _ _ (hr.put hd _) (hs'.frame hx)
end
def H8 : Op → Bool
 | .alloc _ | .box .. | .buildSlice .. => true
 | .call c => match c.callee with
  | .value _ => true
  | _ => false
 | _ => false
def Jt : Op → Bool
 | .load .. => false
 | .call c => match c.callee with
  | .value _ => false
  | _ => true
 | _ => true
def I1 : Op → Bool
 | .call c => match c.callee with
  | .builtin .append => true
  | _ => false
 | _ => false
def Vd : Op → Bool
 | .store .. => true
 | _ => false
def E4b : Op → Bool
 | .load .. => true
 | _ => false
def Wx (tn : Bool) (o : Op) : Bool := (Jt o || (tn && E4b o)) && !H8 o && !I1 o && !Vd o
def B9m (tn : Bool) (a b : Op) : Bool := (!Vd a && !Vd b) || (Vd a && Wx tn b) || (Wx tn a && Vd b)
def U4 (pn : Nat) (ops : Array Oper) (i : Nat) (o : Oper) : Prop := ops[i]? = some o ∧ Nat.beq pn i = false
def Ro (P : Program) (k : FuncId) (args : Array Value) (pre : List Fact) (chain : List PanicEntry) : Prop :=
 ∀ ok w, (∀ b, ok b → b < w.heap.size ∧ ¬ Bu [] b) → St ⟨ok, Bu [], w⟩ pre [] w → Calls P k args w fun e w' => e = .panicked chain ∧ St ⟨ok, Bu [], w⟩ [] [] w'
def A2h : Op → Bool
 | .alloc _ | .box .. | .buildSlice .. => true
 | _ => false
def C8v : Op → Bool
 | .buildSlice .. => true
 | _ => false
theorem C4i {o : Op} (h : A2h o = true) : Jt o = true := by cases o <;> first | rfl | cases h
def C3v (pn k : Nat) (oi ok : Op) : Bool := (!(Nat.beq pn 1000001) || (!(C8v ok && H8 oi) && !I1 oi && !I1 ok && !Nat.beq pn k)) && (!(Nat.beq pn 1000002) || ((!I1 oi || Jt ok) && !Nat.beq pn k))
section
variable (tn : Bool) (pn : Nat) (P : Program) (f : FuncId) (R : Ending → World → Prop) (B : Cs) (n : Fz) (K : List Item) (ops : Array Oper) (fin : List Nat)
inductive NV : List Nat → (Nat → Value) → List Fact → List Bm → Prop
 | done {σ : Nat → Value} {Γ : List Fact} {Ms : List Bm} (h : E1 P f R B n K ops fin σ Γ Ms) : NV [] σ Γ Ms
 | no {l : List Nat} {σ : Nat → Value} {Γ : List Fact} {Ms : List Bm} (h : ¬ ∃ w, St B Γ Ms w) : NV l σ Γ Ms
 | pure {i : Nat} {l : List Nat} {o : Oper} {v : Value} {σ : Nat → Value} {Γ : List Fact} {Ms : List Bm} (ho : U4 pn ops i o) (hw : Ep ops σ o = true) (hd : Ah n o.dst = true) (h : Fs P σ o v) (k : NV l (Aq σ o.dst v) Γ Ms) : NV (i :: l) σ Γ Ms
 | load {i : Nat} {l : List Nat} {o : Oper} {v : Value} {σ : Nat → Value} {Γ : List Fact} {Ms : List Bm} (ht : tn = false) (ho : U4 pn ops i o) (hm : Jt o.op = false) (hw : Ep ops σ o = true) (hd : Ah n o.dst = true) (h : A2j P B σ Γ Ms o v) (k : NV l (Aq σ o.dst v) Γ Ms) : NV (i :: l) σ Γ Ms
 | off {i : Nat} {l : List Nat} {o : Oper} {σ : Nat → Value} {Γ : List Fact} {Ms : List Bm} (ho : U4 pn ops i o) (hw : Ep ops σ o = false) (hd : Ah n o.dst = true) (k : NV l (Aq σ o.dst undef) Γ Ms) : NV (i :: l) σ Γ Ms
 | alloc {i : Nat} {l : List Nat} {o : Oper} {val : Nat → Value} {cs : List Value} {T : TypeId} {σ : Nat → Value} {Γ : List Fact} {Ms : List Bm} (ho : U4 pn ops i o) (hg : H8 o.op = true) (hw : Ep ops σ o = true) (hd : Ah n o.dst = true) (h : Ki P σ o val cs T)
   (k : ∀ b, NV l (Aq σ o.dst (val b)) Γ (Af b cs T :: Ms)) : NV (i :: l) σ Γ Ms
 | allocF {i : Nat} {l : List Nat} {o : Oper} {val : Nat → Value} {cs : List Value} {T : TypeId} {F : Nat → List Fact} {σ : Nat → Value} {Γ : List Fact} {Ms : List Bm} (hz : Nat.beq pn 1000001 = true) (ho : U4 pn ops i o) (hg : H8 o.op = true) (hgm : C8v o.op = true) (hw : Ep ops σ o = true) (hd : Ah n o.dst = true) (h : Ki P σ o val cs T)
   (hF : ∀ b M w, St B Γ (Af b cs T :: M) w → St B (F b ++ Γ) M w) (k : ∀ b, NV l (Aq σ o.dst (val b)) (F b ++ Γ) Ms) : NV (i :: l) σ Γ Ms
 | call {i : Nat} {l : List Nat} {o : Oper} {c : FuncId} {args : Array Value} {pre : List Fact} {X : Type} {val : X → Value} {N : X → List Fact} {Ms1 : X → List Bm} {σ : Nat → Value} {Γ : List Fact} {Ms : List Bm} (ht : True) (ho : U4 pn ops i o) (hg : H8 o.op = true) (hm : Jt o.op = false)
   (hw : Ep ops σ o = true) (hd : Ah n o.dst = true) (he : ∀ w, (execOp (ev σ) o).run P w = .ok (.enter c args) w) (hsp : Spec P c args pre [] val N Ms1) (hpre : ∀ F, F ∈ pre → F ∈ Γ)
   (k : ∀ x, NV l (Aq σ o.dst (val x)) (N x ++ Γ) (Ms1 x ++ Ms)) : NV (i :: l) σ Γ Ms
 | loadF {i : Nat} {l : List Nat} {o : Oper} {v : Value} {σ : Nat → Value} {Γ : List Fact} {Ms : List Bm} (ho : U4 pn ops i o) (hm : Jt o.op = false) (hw : Ep ops σ o = true) (hd : Ah n o.dst = true) (h : A2j P B σ Γ [] o v) (k : NV l (Aq σ o.dst v) Γ Ms) : NV (i :: l) σ Γ Ms
 | Er {i : Nat} {l : List Nat} {o : Oper} {X : Type} {val : X → Value} {F : X → List Fact} {r : List Bm} {r' : X → List Bm} {σ : Nat → Value} {Γ : List Fact} {Ms Ms2 : List Bm} (ht : True) (ho : U4 pn ops i o) (hb : I1 o.op = true) (hw : Ep ops σ o = true) (hd : Ah n o.dst = true)
   (hp : Ms.Perm (r ++ Ms2)) (h : ∀ M w, St B Γ (r ++ M) w → ∃ x w', (execOp (ev σ) o).run P w = .ok (.value (val x)) w' ∧ St B (F x ++ Γ) (r' x ++ M) w') (k : ∀ x, NV l (Aq σ o.dst (val x)) (F x ++ Γ) (r' x ++ Ms2)) (hz : Nat.beq pn 1000002 = true ∨ ∀ x, F x = []) : NV (i :: l) σ Γ Ms
 | sto {i : Nat} {l : List Nat} {o : Oper} {r r' : List Bm} {σ : Nat → Value} {Γ : List Fact} {Ms Ms2 : List Bm} (ho : U4 pn ops i o) (hb : Vd o.op = true) (hw : Ep ops σ o = true) (hd : o.dst = none)
   (hp : Ms.Perm (r ++ Ms2)) (h : ∀ M w, St B Γ (r ++ M) w → ∃ w', (execOp (ev σ) o).run P w = .ok .skip w' ∧ St B Γ (r' ++ M) w') (k : NV l σ Γ (r' ++ Ms2)) : NV (i :: l) σ Γ Ms
 | pan {i : Nat} {l : List Nat} {o : Oper} {c : FuncId} {args : Array Value} {pre : List Fact} {chain : List PanicEntry} {σ : Nat → Value} {Γ : List Fact} {Ms : List Bm} (ht : True) (ho : ops[i]? = some o) (hq : Nat.beq pn i = true) (hg : H8 o.op = true) (hm : Jt o.op = false) (hw : Ep ops σ o = true)
   (he : ∀ w, (execOp (ev σ) o).run P w = .ok (.enter c args) w) (hsp : Ro P c args pre chain) (hpre : ∀ F, F ∈ pre → F ∈ Γ) (hR : (okK n.kind ∧ n.defs = []) ∧ ∀ w, St B [] [] w → R (.panicked chain) w) : NV (i :: l) σ Γ Ms
end
section
variable {tn : Bool} {pn : Nat} {P : Program} {f : FuncId} {R : Ending → World → Prop} {B : Cs} {n : Fz} {K : List Item} {ops : Array Oper} {fin l : List Nat} {σ : Nat → Value} {Γ : List Fact} {Ms Ms' : List Bm} {i k : Nat} {oi ok : Oper}
theorem NV.perm (h : NV tn pn P f R B n K ops fin l σ Γ Ms) : ∀ {Ms'}, Ms.Perm Ms' → NV tn pn P f R B n K ops fin l σ Γ Ms' := by
 induction h with
 | done h => exact fun hp => .done (fun a w hr hs => h a w hr (hs.perm hp.symm))
 | no h => exact fun hp => .no (fun ⟨w, hw⟩ => h ⟨w, hw.perm hp.symm⟩)
 | pure ho hw hd h k ih => exact fun hp => .pure ho hw hd h (ih hp)
 | load ht ho hm hw hd h k ih => exact fun hp => .load ht ho hm hw hd (fun w hs => h w (hs.perm hp.symm)) (ih hp)
 | loadF ho hm hw hd h k ih => exact fun hp => .loadF ho hm hw hd h (ih hp)
 | Er ht ho hb hw hd hp2 h k hz ih => exact fun hp => .Er ht ho hb hw hd (hp.symm.trans hp2) h (fun x => k x) hz
 | sto ho hb hw hd hp2 h k ih => exact fun hp => .sto ho hb hw hd (hp.symm.trans hp2) h k
 | pan ht ho hq hg hm hw he hsp hpre hR => exact fun hp => .pan ht ho hq hg hm hw he hsp hpre hR
 | off ho hw hd k ih => exact fun hp => .off ho hw hd (ih hp)
 | alloc ho hg hw hd h k ih => exact fun hp => .alloc ho hg hw hd h (fun b => ih b (hp.cons _))
 | allocF hz ho hg hgm hw hd h hF k ih => exact fun hp => .allocF hz ho hg hgm hw hd h hF (fun b => ih b hp)
 | call ht ho hg hm hw hd he hsp hpre k ih => exact fun hp => .call ht ho hg hm hw hd he hsp hpre (fun x => ih x (hp.append_left _))
theorem E1t {o : Oper} {dst : Option Tmp} {v : Value} (h : ∀ d, dst = some d → d ∉ o.looksAt ops) : ∀ x, x ∈ o.op.operands → ev (Aq σ dst v) x = ev σ x := by
 intro x hx
 cases dst with
 | none => rfl
 | some d =>
  cases x with
  | tmp t =>
   have hne : t ≠ d := by
    intro e
    subst e
    exact h t rfl (List.mem_append_left _ (List.mem_filterMap.2 ⟨.tmp t, by simpa using hx, rfl⟩))
   exact Nw σ v hne
  | _ => rfl
def Gu : Op → Bool
 | .select .. => false
 | _ => true
theorem execOp_put' {o : Oper} {dst : Option Tmp} {v : Value} (hs : Gu o.op = true) (h : ∀ d, dst = some d → d ∉ o.looksAt ops) : execOp (ev (Aq σ dst v)) o = execOp (ev σ) o :=
 execOp_congr o (fun cs b e => by rw [e] at hs; cases hs) (E1t h)
theorem Rr {o : Oper} {dst : Option Tmp} {v : Value} (h : ∀ d, dst = some d → d ∉ o.looksAt ops) : Ep ops (Aq σ dst v) o = Ep ops σ o := by
 cases dst with
 | none => rfl
 | some d =>
  unfold Ep
  cases hg : o.guard with
  | none => rfl
  | some p =>
   obtain ⟨j, want⟩ := p
   simp only
   cases hj : (ops[j]?).bind (·.dst) with
   | none => rfl
   | some e =>
    have hne : e ≠ d := by
     intro e'
     subst e'
     exact h e rfl (List.mem_append_right _ (by simp [hg, hj]))
    simp only [Aq, Nw σ v hne]
theorem Ji {x y : Option Tmp} (v u : Value) (h : ∀ d, x = some d → y ≠ some d) : Aq (Aq σ x v) y u = Aq (Aq σ y u) x v := by
 cases x with
 | none => rfl
 | some d =>
  cases y with
  | none => rfl
  | some e =>
   have hne : d ≠ e := fun he => h d rfl (he ▸ rfl)
   funext t
   simp only [Aq]
   by_cases h1 : t = d
   ·subst h1
    rw [Nw _ _ hne, K2, K2]
   ·rw [Nw _ _ h1]
    by_cases h2 : t = e
    ·subst h2; rw [K2, K2]
    ·rw [Nw _ _ h2, Nw _ _ h2, Nw _ _ h1]
theorem Fs.unique {o : Oper} {v v' : Value} (h : Fs P σ o v) (h' : Fs P σ o v') : v = v' := by
 have := (h default).symm.trans (h' default)
 injection this with h1
 injection h1
theorem Ki.unique {o : Oper} {val val' : Nat → Value} {cs cs' : List Value} {T T' : TypeId} (h : Ki P σ o val cs T) (h' : Ki P σ o val' cs' T') : val = val' ∧ cs = cs' ∧ T = T' := by
 have key : ∀ w : World, val w.heap.size = val' w.heap.size ∧ cs = cs' ∧ T = T' := by
  intro w
  have := (h w).symm.trans (h' w)
  injection this with h1 h2
  injection h1 with h1
  refine ⟨h1, ?_⟩
  have h3 : w.heap.push (.cells cs.toArray T (0, 0)) = w.heap.push (.cells cs'.toArray T' (0, 0)) := congrArg World.heap h2
  have h4 := Array.push_eq_push.1 h3
  injection h4.1 with h5 h6
  refine ⟨?_, h6⟩
  have := congrArg Array.toList h5
  simpa using this
 refine ⟨funext fun b => ?_, (key default).2⟩
 have := (key { (default : World) with heap := Array.replicate b (.cells #[] 0 (0, 0)) }).1
 simpa using this
theorem Fs.Gt {o : Oper} {v : Value} {val : Nat → Value} {cs : List Value} {T : TypeId} (h : Fs P σ o v) (h' : Ki P σ o val cs T) : False := by
 have := (h default).symm.trans (h' default)
 injection this with h1 h2
 have h3 := congrArg (fun w : World => w.heap.size) h2
 simp at h3
theorem St.Np {w : World} : ∀ {A : List Bm}, St B Γ (A ++ Ms) w → St B Γ Ms w
 | [], h => h
 | _ :: A, h => St.Np (A := A) (St.drop h)
theorem Spec.some {c : FuncId} {args : Array Value} {pre : List Fact} {X : Type} {val : X → Value} {N : X → List Fact} {Ms1 : X → List Bm} {w : World} (hsp : Spec P c args pre [] val N Ms1) (hpre : ∀ F, F ∈ pre → F ∈ Γ) (hs : St B Γ Ms w) : ∃ x w', St B (N x ++ Γ) (Ms1 x ++ Ms) w' := by
 have hs' : St B Γ ([] ++ Ms) w := hs
 obtain ⟨e, w', fr, ⟨x, _, hx⟩, _⟩ := hsp (Pm B ([] ++ Ms) w) w (fun b hb => ⟨hb.2.1, I7 b⟩) (hs'.hand hpre) []
 exact ⟨x, w', hs'.frame hx⟩
theorem A7v {o : Op} (h : Vd o = true) : Jt o = true := by cases o <;> first | rfl | cases h
theorem Mq {o : Op} (h : Vd o = true) : H8 o = false := by cases o <;> first | rfl | cases h
theorem B1a {o : Op} (h : Vd o = true) : I1 o = false := by cases o <;> first | rfl | cases h
theorem NV.D5h (hi : U4 pn ops i oi) (hk : ops[k]? = some ok) (hap : Oper.apart ops oi ok = true) (hns : Gu oi.op = true) (hns' : Gu ok.op = true) (hc : (Vd oi.op && Wx tn ok.op) = true ∨ (Wx tn oi.op && Vd ok.op) = true)
  (hsat : ∃ w, St B Γ Ms w) (h : NV tn pn P f R B n K ops fin (i :: k :: l) σ Γ Ms) : NV tn pn P f R B n K ops fin (k :: i :: l) σ Γ Ms := by
 obtain ⟨a1, a2, a3⟩ := Oper.apart_spec hap
 have ek : ∀ {v : Value}, execOp (ev (Aq σ oi.dst v)) ok = execOp (ev σ) ok := fun {v} => execOp_put' (ops := ops) hns' a1
 have ei : ∀ {v : Value}, execOp (ev (Aq σ ok.dst v)) oi = execOp (ev σ) oi := fun {v} => execOp_put' (ops := ops) hns a3
 have wk : ∀ {v : Value}, Ep ops (Aq σ oi.dst v) ok = Ep ops σ ok := fun {v} => Rr a1
 have wi : ∀ {v : Value}, Ep ops (Aq σ ok.dst v) oi = Ep ops σ oi := fun {v} => Rr a3
 rcases hc with hc | hc
 ·rw [Bool.and_eq_true] at hc
  obtain ⟨hmi, hpk⟩ := hc
  simp only [Wx, Bool.and_eq_true, Bool.not_eq_true'] at hpk
  obtain ⟨⟨⟨p1, p2⟩, p3⟩, p4⟩ := hpk
  cases h with
  | no h => exact absurd hsat h
  | pan ht ho hq => rw [hi.2] at hq; cases hq
  | sto ho hb hw hd hp h kk =>
   obtain rfl := u_ hi.1 ho.1
   obtain ⟨w, hs⟩ := hsat
   obtain ⟨w', _, hs'⟩ := h _ w (hs.perm hp)
   cases kk with
   | no hn => exact absurd ⟨w', hs'⟩ hn
   | pan ht2 ho2 hq2 hg2 => obtain rfl := u_ hk ho2; rw [p2] at hg2; cases hg2
   | pure ho2 hw2 hd2 h2 k2 =>
    obtain rfl := u_ hk ho2.1
    exact .pure ⟨hk, ho2.2⟩ hw2 hd2 h2 (.sto hi hb (wi.trans hw) hd hp (fun M w hs => by rw [ei]; exact h M w hs) k2)
   | off ho2 hw2 hd2 k2 =>
    obtain rfl := u_ hk ho2.1
    exact .off ⟨hk, ho2.2⟩ hw2 hd2 (.sto hi hb (wi.trans hw) hd hp (fun M w hs => by rw [ei]; exact h M w hs) k2)
   | load ht2 ho2 hm2 => obtain rfl := u_ hk ho2.1; rw [ht2, hm2] at p1; cases p1
   | loadF ho2 hm2 hw2 hd2 h2 k2 =>
    obtain rfl := u_ hk ho2.1
    exact .loadF ⟨hk, ho2.2⟩ hm2 hw2 hd2 h2 (.sto hi hb (wi.trans hw) hd hp (fun M w hs => by rw [ei]; exact h M w hs) k2)
   | alloc ho2 hg2 => obtain rfl := u_ hk ho2.1; rw [p2] at hg2; cases hg2
   | allocF hz2 ho2 hg2 => obtain rfl := u_ hk ho2.1; rw [p2] at hg2; cases hg2
   | call ht2 ho2 hg2 => obtain rfl := u_ hk ho2.1; rw [p2] at hg2; cases hg2
   | Er ht2 ho2 hb2 => obtain rfl := u_ hk ho2.1; rw [p3] at hb2; cases hb2
   | sto ho2 hb2 => obtain rfl := u_ hk ho2.1; rw [p4] at hb2; cases hb2
  | pure ho hw hd h kk => 
   obtain rfl := u_ hi.1 ho.1
   cases kk with
   | no hn => exact absurd hsat hn
   | pan ht2 ho2 hq2 hg2 => obtain rfl := u_ hk ho2; rw [p2] at hg2; cases hg2
   | pure ho2 hw2 hd2 h2 k2 =>
    obtain rfl := u_ hk ho2.1
    exact .pure ⟨hk, ho2.2⟩ (wk ▸ hw2) hd2 (fun w => by rw [← ek]; exact h2 w) (.pure hi (wi.trans hw) hd (fun w => by rw [ei]; exact h w) (Ji _ _ (fun d hd => fun he => a2 d he hd) ▸ k2))
   | off ho2 hw2 hd2 k2 =>
    obtain rfl := u_ hk ho2.1
    exact .off ⟨hk, ho2.2⟩ (wk ▸ hw2) hd2 (.pure hi (wi.trans hw) hd (fun w => by rw [ei]; exact h w) (Ji _ _ (fun d hd => fun he => a2 d he hd) ▸ k2))
   | load ht2 ho2 hm2 => obtain rfl := u_ hk ho2.1; rw [ht2, hm2] at p1; cases p1
   | loadF ho2 hm2 hw2 hd2 h2 k2 =>
    obtain rfl := u_ hk ho2.1
    exact .loadF ⟨hk, ho2.2⟩ hm2 (wk ▸ hw2) hd2 (fun w hs => by rw [← ek]; exact h2 w hs) (.pure hi (wi.trans hw) hd (fun w => by rw [ei]; exact h w) (Ji _ _ (fun d hd => fun he => a2 d he hd) ▸ k2))
   | alloc ho2 hg2 => obtain rfl := u_ hk ho2.1; rw [p2] at hg2; cases hg2
   | allocF hz2 ho2 hg2 => obtain rfl := u_ hk ho2.1; rw [p2] at hg2; cases hg2
   | call ht2 ho2 hg2 => obtain rfl := u_ hk ho2.1; rw [p2] at hg2; cases hg2
   | Er ht2 ho2 hb2 => obtain rfl := u_ hk ho2.1; rw [p3] at hb2; cases hb2
   | sto ho2 hb2 => obtain rfl := u_ hk ho2.1; rw [p4] at hb2; cases hb2
  | off ho hw hd kk =>
   obtain rfl := u_ hi.1 ho.1
   cases kk with
   | no hn => exact absurd hsat hn
   | pan ht2 ho2 hq2 hg2 => obtain rfl := u_ hk ho2; rw [p2] at hg2; cases hg2
   | pure ho2 hw2 hd2 h2 k2 =>
    obtain rfl := u_ hk ho2.1
    exact .pure ⟨hk, ho2.2⟩ (wk ▸ hw2) hd2 (fun w => by rw [← ek]; exact h2 w) (.off hi (wi.trans hw) hd (Ji _ _ (fun d hd => fun he => a2 d he hd) ▸ k2))
   | off ho2 hw2 hd2 k2 =>
    obtain rfl := u_ hk ho2.1
    exact .off ⟨hk, ho2.2⟩ (wk ▸ hw2) hd2 (.off hi (wi.trans hw) hd (Ji _ _ (fun d hd => fun he => a2 d he hd) ▸ k2))
   | load ht2 ho2 hm2 => obtain rfl := u_ hk ho2.1; rw [ht2, hm2] at p1; cases p1
   | loadF ho2 hm2 hw2 hd2 h2 k2 =>
    obtain rfl := u_ hk ho2.1
    exact .loadF ⟨hk, ho2.2⟩ hm2 (wk ▸ hw2) hd2 (fun w hs => by rw [← ek]; exact h2 w hs) (.off hi (wi.trans hw) hd (Ji _ _ (fun d hd => fun he => a2 d he hd) ▸ k2))
   | alloc ho2 hg2 => obtain rfl := u_ hk ho2.1; rw [p2] at hg2; cases hg2
   | allocF hz2 ho2 hg2 => obtain rfl := u_ hk ho2.1; rw [p2] at hg2; cases hg2
   | call ht2 ho2 hg2 => obtain rfl := u_ hk ho2.1; rw [p2] at hg2; cases hg2
   | Er ht2 ho2 hb2 => obtain rfl := u_ hk ho2.1; rw [p3] at hb2; cases hb2
   | sto ho2 hb2 => obtain rfl := u_ hk ho2.1; rw [p4] at hb2; cases hb2
  | load ht ho hm => obtain rfl := u_ hi.1 ho.1; rw [A7v hmi] at hm; cases hm
  | loadF ho hm => obtain rfl := u_ hi.1 ho.1; rw [A7v hmi] at hm; cases hm
  | alloc ho hg => obtain rfl := u_ hi.1 ho.1; rw [Mq hmi] at hg; cases hg
  | allocF hz ho hg => obtain rfl := u_ hi.1 ho.1; rw [Mq hmi] at hg; cases hg
  | call ht ho hg => obtain rfl := u_ hi.1 ho.1; rw [Mq hmi] at hg; cases hg
  | Er ht ho hb => obtain rfl := u_ hi.1 ho.1; rw [B1a hmi] at hb; cases hb
 ·rw [Bool.and_eq_true] at hc
  obtain ⟨hpi, hmk⟩ := hc
  simp only [Wx, Bool.and_eq_true, Bool.not_eq_true'] at hpi
  obtain ⟨⟨⟨p1, p2⟩, p3⟩, p4⟩ := hpi
  have pc : ∀ v u, Aq (Aq σ oi.dst v) ok.dst u = Aq (Aq σ ok.dst u) oi.dst v := fun v u => Ji v u a2
  have knot : ∀ {o : Oper}, U4 pn ops k o → (Jt o.op = false → False) ∧ (H8 o.op = true → False) ∧ (I1 o.op = true → False) := fun {o} ho => by
   obtain rfl := u_ hk ho.1
   exact ⟨fun h => (by rw [A7v hmk] at h; cases h), fun h => (by rw [Mq hmk] at h; cases h), fun h => (by rw [B1a hmk] at h; cases h)⟩
  cases h with
  | no h => exact absurd hsat h
  | pan ht ho hq => rw [hi.2] at hq; cases hq
  | pure ho hw hd h kk =>
   obtain rfl := u_ hi.1 ho.1
   cases kk with
   | no hn => exact absurd hsat hn
   | pan ht2 ho2 hq2 hg2 => obtain rfl := u_ hk ho2; rw [Mq hmk] at hg2; cases hg2
   | sto ho2 hb2 hw2 hd2 hp2 h2 k2 =>
    obtain rfl := u_ hk ho2.1
    exact .sto ⟨hk, ho2.2⟩ hb2 (wk ▸ hw2) hd2 hp2 (fun M w hs => by rw [← ek]; exact h2 M w hs) (.pure hi hw hd h k2)
   | pure ho2 hw2 hd2 h2 k2 =>
    obtain rfl := u_ hk ho2.1
    exact .pure ⟨hk, ho2.2⟩ (wk ▸ hw2) hd2 (fun w => by rw [← ek]; exact h2 w) (.pure hi (wi.trans hw) hd (fun w => by rw [ei]; exact h w) (pc _ _ ▸ k2))
   | off ho2 hw2 hd2 k2 =>
    obtain rfl := u_ hk ho2.1
    exact .off ⟨hk, ho2.2⟩ (wk ▸ hw2) hd2 (.pure hi (wi.trans hw) hd (fun w => by rw [ei]; exact h w) (pc _ _ ▸ k2))
   | load ht2 ho2 hm2 => exact ((knot ho2).1 hm2).elim
   | loadF ho2 hm2 => exact ((knot ho2).1 hm2).elim
   | alloc ho2 hg2 => exact ((knot ho2).2.1 hg2).elim
   | allocF hz2 ho2 hg2 => exact ((knot ho2).2.1 hg2).elim
   | call ht2 ho2 hg2 => exact ((knot ho2).2.1 hg2).elim
   | Er ht2 ho2 hb2 => exact ((knot ho2).2.2 hb2).elim
  | off ho hw hd kk =>
   obtain rfl := u_ hi.1 ho.1
   cases kk with
   | no hn => exact absurd hsat hn
   | pan ht2 ho2 hq2 hg2 => obtain rfl := u_ hk ho2; rw [Mq hmk] at hg2; cases hg2
   | sto ho2 hb2 hw2 hd2 hp2 h2 k2 =>
    obtain rfl := u_ hk ho2.1
    exact .sto ⟨hk, ho2.2⟩ hb2 (wk ▸ hw2) hd2 hp2 (fun M w hs => by rw [← ek]; exact h2 M w hs) (.off hi hw hd k2)
   | pure ho2 hw2 hd2 h2 k2 =>
    obtain rfl := u_ hk ho2.1
    exact .pure ⟨hk, ho2.2⟩ (wk ▸ hw2) hd2 (fun w => by rw [← ek]; exact h2 w) (.off hi (wi.trans hw) hd (pc _ _ ▸ k2))
   | off ho2 hw2 hd2 k2 =>
    obtain rfl := u_ hk ho2.1
    exact .off ⟨hk, ho2.2⟩ (wk ▸ hw2) hd2 (.off hi (wi.trans hw) hd (pc _ _ ▸ k2))
   | load ht2 ho2 hm2 => exact ((knot ho2).1 hm2).elim
   | loadF ho2 hm2 => exact ((knot ho2).1 hm2).elim
   | alloc ho2 hg2 => exact ((knot ho2).2.1 hg2).elim
   | allocF hz2 ho2 hg2 => exact ((knot ho2).2.1 hg2).elim
   | call ht2 ho2 hg2 => exact ((knot ho2).2.1 hg2).elim
   | Er ht2 ho2 hb2 => exact ((knot ho2).2.2 hb2).elim
  | load ht ho hm => obtain rfl := u_ hi.1 ho.1; rw [ht, hm] at p1; cases p1
  | loadF ho hm hw hd h kk =>
   obtain rfl := u_ hi.1 ho.1
   cases kk with
   | no hn => exact absurd hsat hn
   | pan ht2 ho2 hq2 hg2 => obtain rfl := u_ hk ho2; rw [Mq hmk] at hg2; cases hg2
   | sto ho2 hb2 hw2 hd2 hp2 h2 k2 =>
    obtain rfl := u_ hk ho2.1
    exact .sto ⟨hk, ho2.2⟩ hb2 (wk ▸ hw2) hd2 hp2 (fun M w hs => by rw [← ek]; exact h2 M w hs) (.loadF hi hm hw hd h k2)
   | pure ho2 hw2 hd2 h2 k2 =>
    obtain rfl := u_ hk ho2.1
    exact .pure ⟨hk, ho2.2⟩ (wk ▸ hw2) hd2 (fun w => by rw [← ek]; exact h2 w) (.loadF hi hm (wi.trans hw) hd (fun w hs => by rw [ei]; exact h w hs) (pc _ _ ▸ k2))
   | off ho2 hw2 hd2 k2 =>
    obtain rfl := u_ hk ho2.1
    exact .off ⟨hk, ho2.2⟩ (wk ▸ hw2) hd2 (.loadF hi hm (wi.trans hw) hd (fun w hs => by rw [ei]; exact h w hs) (pc _ _ ▸ k2))
   | load ht2 ho2 hm2 => exact ((knot ho2).1 hm2).elim
   | loadF ho2 hm2 => exact ((knot ho2).1 hm2).elim
   | alloc ho2 hg2 => exact ((knot ho2).2.1 hg2).elim
   | allocF hz2 ho2 hg2 => exact ((knot ho2).2.1 hg2).elim
   | call ht2 ho2 hg2 => exact ((knot ho2).2.1 hg2).elim
   | Er ht2 ho2 hb2 => exact ((knot ho2).2.2 hb2).elim
  | alloc ho hg => obtain rfl := u_ hi.1 ho.1; rw [p2] at hg; cases hg
  | allocF hz ho hg => obtain rfl := u_ hi.1 ho.1; rw [p2] at hg; cases hg
  | call ht ho hg => obtain rfl := u_ hi.1 ho.1; rw [p2] at hg; cases hg
  | Er ht ho hb => obtain rfl := u_ hi.1 ho.1; rw [p3] at hb; cases hb
  | sto ho hb => obtain rfl := u_ hi.1 ho.1; rw [p4] at hb; cases hb
theorem NV.swap (hi : U4 pn ops i oi) (hk : ops[k]? = some ok) (hap : Oper.apart ops oi ok = true) (hal : (!H8 oi.op || Jt ok.op) = true ∨ (A2h oi.op = true ∧ Nat.beq pn k = true)) (htt : (!(I1 ok.op && (H8 oi.op || I1 oi.op || (!tn && !Jt oi.op)))) = true) (htt2 : (!(I1 oi.op && !Jt ok.op && (!tn || H8 ok.op))) = true) (hns : Gu oi.op = true) (hns' : Gu ok.op = true) (hmi9 : Vd oi.op = false) (hmk9 : Vd ok.op = false) (hfa : C3v pn k oi.op ok.op = true)
  (hsat : ∃ w, St B Γ Ms w) (h : NV tn pn P f R B n K ops fin (i :: k :: l) σ Γ Ms) : NV tn pn P f R B n K ops fin (k :: i :: l) σ Γ Ms := by
 obtain ⟨a1, a2, a3⟩ := Oper.apart_spec hap
 have hfa2 : Nat.beq pn 1000001 = true → ((C8v ok.op = true → H8 oi.op = true → False) ∧ (I1 oi.op = true → False)) ∧ Nat.beq pn k = false := fun hz => by
  unfold C3v at hfa
  rw [hz] at hfa
  simp only [Bool.not_true, Bool.false_or, Bool.and_eq_true, Bool.not_eq_true'] at hfa
  replace hfa := hfa.1
  exact ⟨⟨fun h1 h2 => (by have h3 := hfa.1.1.1; rw [h1, h2] at h3; cases h3), fun h1 => (by have h3 := hfa.1.1.2; rw [h1] at h3; cases h3)⟩, hfa.2⟩
 have hfa3 : Nat.beq pn 1000002 = true → I1 oi.op = true → Jt ok.op = true := fun hz h1 => by
  unfold C3v at hfa
  rw [hz] at hfa
  simp only [Bool.not_true, Bool.false_or, Bool.and_eq_true] at hfa
  have h3 := hfa.2.1
  rw [h1] at h3
  simpa using h3
 have hno : Nat.beq pn 1000001 = true → C8v ok.op = true → H8 oi.op = true → False := fun hz => (hfa2 hz).1.1
 have hno2 : Nat.beq pn 1000001 = true → I1 oi.op = true → False := fun hz => (hfa2 hz).1.2
 have a2' : ∀ d, ok.dst = some d → oi.dst ≠ some d := fun d hd he => a2 d he hd
 have ek : ∀ {v : Value}, execOp (ev (Aq σ oi.dst v)) ok = execOp (ev σ) ok := fun {v} => execOp_put' (ops := ops) hns' a1
 have ei : ∀ {v : Value}, execOp (ev (Aq σ ok.dst v)) oi = execOp (ev σ) oi := fun {v} => execOp_put' (ops := ops) hns a3
 have wk : ∀ {v : Value}, Ep ops (Aq σ oi.dst v) ok = Ep ops σ ok := fun {v} => Rr a1
 have wi : ∀ {v : Value}, Ep ops (Aq σ ok.dst v) oi = Ep ops σ oi := fun {v} => Rr a3
 have pc : ∀ v u, Aq (Aq σ oi.dst v) ok.dst u = Aq (Aq σ ok.dst u) oi.dst v := fun v u => Ji v u a2
 cases h with
 | no h => exact absurd hsat h
 | pan ht ho hq => rw [hi.2] at hq; cases hq
 | pure ho hw hd h kk =>
  obtain rfl := u_ hi.1 ho.1
  have hp : ∀ {u : Value}, Fs P (Aq σ ok.dst u) oi _ := fun {u} w => by rw [ei]; exact h w
  cases kk with
  | no h => exact absurd hsat h
  | pan ht2 ho2 hq2 hg2 hm2 hw2 he2 hsp2 hpre2 hR2 => obtain rfl := u_ hk ho2; exact .pan ht2 hk hq2 hg2 hm2 (wk ▸ hw2) (fun w => by rw [← ek]; exact he2 w) hsp2 hpre2 hR2
  | pure ho2 hw2 hd2 h2 k2 =>
   obtain rfl := u_ hk ho2.1
   exact .pure ⟨hk, ho2.2⟩ (wk ▸ hw2) hd2 (fun w => by rw [← ek]; exact h2 w) (.pure hi (wi.trans hw) hd hp (pc _ _ ▸ k2))
  | load ht2 ho2 hm2 hw2 hd2 h2 k2 =>
   obtain rfl := u_ hk ho2.1
   exact .load ht2 ⟨hk, ho2.2⟩ hm2 (wk ▸ hw2) hd2 (fun w hs => by rw [← ek]; exact h2 w hs) (.pure hi (wi.trans hw) hd hp (pc _ _ ▸ k2))
  | off ho2 hw2 hd2 k2 =>
   obtain rfl := u_ hk ho2.1
   exact .off ⟨hk, ho2.2⟩ (wk ▸ hw2) hd2 (.pure hi (wi.trans hw) hd hp (pc _ _ ▸ k2))
  | alloc ho2 hg2 hw2 hd2 h2 k2 =>
   obtain rfl := u_ hk ho2.1
   exact .alloc ⟨hk, ho2.2⟩ hg2 (wk ▸ hw2) hd2 (fun w => by rw [← ek]; exact h2 w) (fun b => .pure hi (wi.trans hw) hd hp (pc _ _ ▸ k2 b))
  | allocF hz2 ho2 hg2 hgm2 hw2 hd2 h2 hF2 k2 =>
   obtain rfl := u_ hk ho2.1
   exact .allocF hz2 ⟨hk, ho2.2⟩ hg2 hgm2 (wk ▸ hw2) hd2 (fun w => by rw [← ek]; exact h2 w) hF2 (fun b => .pure hi (wi.trans hw) hd hp (pc _ _ ▸ k2 b))
  | call ht2 ho2 hg2 hm2 hw2 hd2 he2 hsp2 hpre2 k2 =>
   obtain rfl := u_ hk ho2.1
   exact .call ht2 ⟨hk, ho2.2⟩ hg2 hm2 (wk ▸ hw2) hd2 (fun w => by rw [← ek]; exact he2 w) hsp2 hpre2 (fun x => .pure hi (wi.trans hw) hd hp (pc _ _ ▸ k2 x))
  | loadF ho2 hm2 hw2 hd2 h2 k2 =>
   obtain rfl := u_ hk ho2.1
   exact .loadF ⟨hk, ho2.2⟩ hm2 (wk ▸ hw2) hd2 (fun w hs => by rw [← ek]; exact h2 w hs) (.pure hi (wi.trans hw) hd hp (pc _ _ ▸ k2))
  | sto ho9 hb9 => obtain rfl := u_ hk ho9.1; rw [hb9] at hmk9; cases hmk9
  | Er ht2 ho2 hb2 hw2 hd2 hp2 h2 k2 hz2 =>
   obtain rfl := u_ hk ho2.1
   exact .Er ht2 ⟨hk, ho2.2⟩ hb2 (wk ▸ hw2) hd2 hp2 (fun M w hs => by rw [← ek]; exact h2 M w hs) (fun x => .pure hi (wi.trans hw) hd hp (pc _ _ ▸ k2 x)) hz2
 | off ho hw hd kk =>
  obtain rfl := u_ hi.1 ho.1
  cases kk with
  | no h => exact absurd hsat h
  | pan ht2 ho2 hq2 hg2 hm2 hw2 he2 hsp2 hpre2 hR2 => obtain rfl := u_ hk ho2; exact .pan ht2 hk hq2 hg2 hm2 (wk ▸ hw2) (fun w => by rw [← ek]; exact he2 w) hsp2 hpre2 hR2
  | pure ho2 hw2 hd2 h2 k2 =>
   obtain rfl := u_ hk ho2.1
   exact .pure ⟨hk, ho2.2⟩ (wk ▸ hw2) hd2 (fun w => by rw [← ek]; exact h2 w) (.off hi (wi.trans hw) hd (pc _ _ ▸ k2))
  | load ht2 ho2 hm2 hw2 hd2 h2 k2 =>
   obtain rfl := u_ hk ho2.1
   exact .load ht2 ⟨hk, ho2.2⟩ hm2 (wk ▸ hw2) hd2 (fun w hs => by rw [← ek]; exact h2 w hs) (.off hi (wi.trans hw) hd (pc _ _ ▸ k2))
  | off ho2 hw2 hd2 k2 =>
   obtain rfl := u_ hk ho2.1
   exact .off ⟨hk, ho2.2⟩ (wk ▸ hw2) hd2 (.off hi (wi.trans hw) hd (pc _ _ ▸ k2))
  | alloc ho2 hg2 hw2 hd2 h2 k2 =>
   obtain rfl := u_ hk ho2.1
   exact .alloc ⟨hk, ho2.2⟩ hg2 (wk ▸ hw2) hd2 (fun w => by rw [← ek]; exact h2 w) (fun b => .off hi (wi.trans hw) hd (pc _ _ ▸ k2 b))
  | allocF hz2 ho2 hg2 hgm2 hw2 hd2 h2 hF2 k2 =>
   obtain rfl := u_ hk ho2.1
   exact .allocF hz2 ⟨hk, ho2.2⟩ hg2 hgm2 (wk ▸ hw2) hd2 (fun w => by rw [← ek]; exact h2 w) hF2 (fun b => .off hi (wi.trans hw) hd (pc _ _ ▸ k2 b))
  | call ht2 ho2 hg2 hm2 hw2 hd2 he2 hsp2 hpre2 k2 =>
   obtain rfl := u_ hk ho2.1
   exact .call ht2 ⟨hk, ho2.2⟩ hg2 hm2 (wk ▸ hw2) hd2 (fun w => by rw [← ek]; exact he2 w) hsp2 hpre2 (fun x => .off hi (wi.trans hw) hd (pc _ _ ▸ k2 x))
  | loadF ho2 hm2 hw2 hd2 h2 k2 =>
   obtain rfl := u_ hk ho2.1
   exact .loadF ⟨hk, ho2.2⟩ hm2 (wk ▸ hw2) hd2 (fun w hs => by rw [← ek]; exact h2 w hs) (.off hi (wi.trans hw) hd (pc _ _ ▸ k2))
  | sto ho9 hb9 => obtain rfl := u_ hk ho9.1; rw [hb9] at hmk9; cases hmk9
  | Er ht2 ho2 hb2 hw2 hd2 hp2 h2 k2 hz2 =>
   obtain rfl := u_ hk ho2.1
   exact .Er ht2 ⟨hk, ho2.2⟩ hb2 (wk ▸ hw2) hd2 hp2 (fun M w hs => by rw [← ek]; exact h2 M w hs) (fun x => .off hi (wi.trans hw) hd (pc _ _ ▸ k2 x)) hz2
 | load ht ho hm hw hd h kk =>
  obtain rfl := u_ hi.1 ho.1
  have hp : ∀ {u : Value}, A2j P B (Aq σ ok.dst u) Γ Ms oi _ := fun {u} w hs => by rw [ei]; exact h w hs
  cases kk with
  | no h => exact absurd hsat h
  | pan ht2 ho2 hq2 hg2 hm2 hw2 he2 hsp2 hpre2 hR2 => obtain rfl := u_ hk ho2; exact .pan ht2 hk hq2 hg2 hm2 (wk ▸ hw2) (fun w => by rw [← ek]; exact he2 w) hsp2 hpre2 hR2
  | pure ho2 hw2 hd2 h2 k2 =>
   obtain rfl := u_ hk ho2.1
   exact .pure ⟨hk, ho2.2⟩ (wk ▸ hw2) hd2 (fun w => by rw [← ek]; exact h2 w) (.load ht hi hm (wi.trans hw) hd hp (pc _ _ ▸ k2))
  | load ht2 ho2 hm2 hw2 hd2 h2 k2 =>
   obtain rfl := u_ hk ho2.1
   exact .load ht2 ⟨hk, ho2.2⟩ hm2 (wk ▸ hw2) hd2 (fun w hs => by rw [← ek]; exact h2 w hs) (.load ht hi hm (wi.trans hw) hd hp (pc _ _ ▸ k2))
  | off ho2 hw2 hd2 k2 =>
   obtain rfl := u_ hk ho2.1
   exact .off ⟨hk, ho2.2⟩ (wk ▸ hw2) hd2 (.load ht hi hm (wi.trans hw) hd hp (pc _ _ ▸ k2))
  | alloc ho2 hg2 hw2 hd2 h2 k2 =>
   obtain rfl := u_ hk ho2.1
   exact .alloc ⟨hk, ho2.2⟩ hg2 (wk ▸ hw2) hd2 (fun w => by rw [← ek]; exact h2 w) (fun b => .load ht hi hm (wi.trans hw) hd (fun w hs => by rw [ei]; exact h w hs.drop) (pc _ _ ▸ k2 b))
  | allocF hz2 ho2 hg2 hgm2 hw2 hd2 h2 hF2 k2 =>
   obtain rfl := u_ hk ho2.1
   exact .allocF hz2 ⟨hk, ho2.2⟩ hg2 hgm2 (wk ▸ hw2) hd2 (fun w => by rw [← ek]; exact h2 w) hF2 (fun b => .load ht hi hm (wi.trans hw) hd (fun w hs => by rw [ei]; exact h w (hs.less (fun F hF => List.mem_append_right _ hF))) (pc _ _ ▸ k2 b))
  | call ht2 ho2 hg2 hm2 hw2 hd2 he2 hsp2 hpre2 k2 =>
   obtain rfl := u_ hk ho2.1
   exact .call ht2 ⟨hk, ho2.2⟩ hg2 hm2 (wk ▸ hw2) hd2 (fun w => by rw [← ek]; exact he2 w) hsp2 hpre2 (fun x => .load ht hi hm (wi.trans hw) hd (fun w hs => by rw [ei]; exact h w (St.Np (hs.less (fun F hF => List.mem_append_right _ hF)))) (pc _ _ ▸ k2 x))
  | loadF ho2 hm2 hw2 hd2 h2 k2 =>
   obtain rfl := u_ hk ho2.1
   exact .loadF ⟨hk, ho2.2⟩ hm2 (wk ▸ hw2) hd2 (fun w hs => by rw [← ek]; exact h2 w hs) (.load ht hi hm (wi.trans hw) hd hp (pc _ _ ▸ k2))
  | sto ho9 hb9 => obtain rfl := u_ hk ho9.1; rw [hb9] at hmk9; cases hmk9
  | Er ht2 ho2 hb2 => obtain rfl := u_ hk ho2.1; rw [hb2, ht, hm] at htt; simp at htt
 | alloc ho hg hw hd h kk =>
  obtain rfl := u_ hi.1 ho.1
  have hcase : Jt ok.op = true ∨ Nat.beq pn k = true := by
   rcases hal with hal | hal
   ·rw [hg] at hal; exact .inl (by simpa using hal)
   ·exact .inr hal.2
  rcases hcase with hmk | hpk
  rotate_left
  ·obtain ⟨w, hs⟩ := hsat
   have hb0 := kk w.heap.size
   cases hb0 with
   | no hn => exact (hn ⟨_, hs.alloc _ _⟩).elim
   | pan ht2 ho2 hq2 hg2 hm2 hw2 he2 hsp2 hpre2 hR2 => obtain rfl := u_ hk ho2; exact .pan ht2 hk hq2 hg2 hm2 (wk ▸ hw2) (fun w => by rw [← ek]; exact he2 w) hsp2 hpre2 hR2
   | pure ho2 => rw [ho2.2] at hpk; cases hpk
   | off ho2 => rw [ho2.2] at hpk; cases hpk
   | load ht2 ho2 => rw [ho2.2] at hpk; cases hpk
   | loadF ho2 => rw [ho2.2] at hpk; cases hpk
   | alloc ho2 => rw [ho2.2] at hpk; cases hpk
   | allocF hz2 ho2 => rw [ho2.2] at hpk; cases hpk
   | call ht2 ho2 => rw [ho2.2] at hpk; cases hpk
   | Er ht2 ho2 => rw [ho2.2] at hpk; cases hpk
   | sto ho2 => rw [ho2.2] at hpk; cases hpk
  obtain ⟨w, hs⟩ := hsat
  have hb0 := kk w.heap.size
  cases hb0 with
  | no hn => exact (hn ⟨_, hs.alloc _ _⟩).elim
  | pan ht2 ho2 hq2 hg2 hm2 => obtain rfl := u_ hk ho2; rw [hmk] at hm2; cases hm2
  | pure ho2 hw2 hd2 h2 k2 =>
   obtain rfl := u_ hk ho2.1
   refine .pure ⟨hk, ho2.2⟩ (wk ▸ hw2) hd2 (fun w => by rw [← ek]; exact h2 w) (.alloc hi hg (wi.trans hw) hd (fun w => by rw [ei]; exact h w) (fun b => ?_))
   have hb := kk b
   cases hb with
   | no hn => exact .no hn
   | pan ht9 ho9 hq9 hg9 hm9 => obtain rfl := u_ hk ho9; rw [hmk] at hm9; cases hm9
   | pure ho3 hw3 hd3 h3 k3 =>
    obtain rfl := u_ hk ho3.1
    have : _ = _ := Fs.unique (P := P) (σ := σ) (fun w => by rw [← ek]; exact h2 w) (fun w => by rw [← ek]; exact h3 w)
    subst this
    exact pc _ _ ▸ k3
   | load ht3 ho3 hm3 => obtain rfl := u_ hk ho3.1; rw [hmk] at hm3; cases hm3
   | loadF ho3 hm3 => obtain rfl := u_ hk ho3.1; rw [hmk] at hm3; cases hm3
   | sto ho9 hb9 => obtain rfl := u_ hk ho9.1; rw [hb9] at hmk9; cases hmk9
   | Er ht3 ho3 hb3 => obtain rfl := u_ hk ho3.1; rw [hb3, hg] at htt; cases htt
   | off ho3 hw3 => obtain rfl := u_ hk ho3.1; rw [wk] at hw3 hw2; rw [hw2] at hw3; cases hw3
   | alloc ho3 hg3 hw3 hd3 h3 k3 =>
    obtain rfl := u_ hk ho3.1
    exact (Fs.Gt (P := P) (σ := σ) (fun w => by rw [← ek]; exact h2 w) (fun w => by rw [← ek]; exact h3 w)).elim
   | allocF hz3 ho3 hg3 hgm3 hw3 hd3 h3 hF3 k3 =>
    obtain rfl := u_ hk ho3.1
    exact (Fs.Gt (P := P) (σ := σ) (fun w => by rw [← ek]; exact h2 w) (fun w => by rw [← ek]; exact h3 w)).elim
   | call ht3 ho3 hg3 hm3 => obtain rfl := u_ hk ho3.1; rw [hmk] at hm3; cases hm3
  | load ht2 ho2 hm2 => obtain rfl := u_ hk ho2.1; rw [hmk] at hm2; cases hm2
  | loadF ho2 hm2 => obtain rfl := u_ hk ho2.1; rw [hmk] at hm2; cases hm2
  | sto ho9 hb9 => obtain rfl := u_ hk ho9.1; rw [hb9] at hmk9; cases hmk9
  | Er ht2 ho2 hb2 => obtain rfl := u_ hk ho2.1; rw [hb2, hg] at htt; cases htt
  | off ho2 hw2 hd2 k2 =>
   obtain rfl := u_ hk ho2.1
   refine .off ⟨hk, ho2.2⟩ (wk ▸ hw2) hd2 (.alloc hi hg (wi.trans hw) hd (fun w => by rw [ei]; exact h w) (fun b => ?_))
   have hb := kk b
   cases hb with
   | no hn => exact .no hn
   | pan ht9 ho9 hq9 hg9 hm9 => obtain rfl := u_ hk ho9; rw [hmk] at hm9; cases hm9
   | off ho3 hw3 hd3 k3 => obtain rfl := u_ hk ho3.1; exact pc _ _ ▸ k3
   | pure ho3 hw3 => obtain rfl := u_ hk ho3.1; rw [wk] at hw3 hw2; rw [hw2] at hw3; cases hw3
   | load ht3 ho3 hm3 hw3 => obtain rfl := u_ hk ho3.1; rw [wk] at hw3 hw2; rw [hw2] at hw3; cases hw3
   | loadF ho3 hm3 => obtain rfl := u_ hk ho3.1; rw [hmk] at hm3; cases hm3
   | sto ho9 hb9 => obtain rfl := u_ hk ho9.1; rw [hb9] at hmk9; cases hmk9
   | Er ht3 ho3 hb3 => obtain rfl := u_ hk ho3.1; rw [hb3, hg] at htt; cases htt
   | alloc ho3 hg3 hw3 => obtain rfl := u_ hk ho3.1; rw [wk] at hw3 hw2; rw [hw2] at hw3; cases hw3
   | allocF hz3 ho3 hg3 hgm3 hw3 => obtain rfl := u_ hk ho3.1; rw [wk] at hw3 hw2; rw [hw2] at hw3; cases hw3
   | call ht3 ho3 hg3 hm3 hw3 => obtain rfl := u_ hk ho3.1; rw [wk] at hw3 hw2; rw [hw2] at hw3; cases hw3
  | allocF hz2 ho2 hg2 hgm2 => obtain rfl := u_ hk ho2.1; exact (hno hz2 hgm2 hg).elim
  | alloc ho2 hg2 hw2 hd2 h2 k2 =>
   obtain rfl := u_ hk ho2.1
   refine .alloc ⟨hk, ho2.2⟩ hg2 (wk ▸ hw2) hd2 (fun w => by rw [← ek]; exact h2 w) (fun b' => .alloc hi hg (wi.trans hw) hd (fun w => by rw [ei]; exact h w) (fun b => ?_))
   have hb := kk b
   cases hb with
   | no hn => exact .no (fun ⟨w, hw⟩ => hn ⟨w, (hw.perm (List.Perm.swap _ _ _)).drop⟩)
   | pan ht9 ho9 hq9 hg9 hm9 => obtain rfl := u_ hk ho9; rw [hmk] at hm9; cases hm9
   | alloc ho3 hg3 hw3 hd3 h3 k3 =>
    obtain rfl := u_ hk ho3.1
    obtain ⟨e1, e2, e3⟩ := Ki.unique (P := P) (σ := σ) (fun w => by rw [← ek]; exact h2 w) (fun w => by rw [← ek]; exact h3 w)
    subst e1 e2 e3
    exact pc _ _ ▸ (k3 b').perm (List.Perm.swap _ _ _)
   | allocF hz3 ho3 hg3 hgm3 => obtain rfl := u_ hk ho3.1; exact (hno hz3 hgm3 hg).elim
   | off ho3 hw3 => obtain rfl := u_ hk ho3.1; rw [wk] at hw3 hw2; rw [hw2] at hw3; cases hw3
   | load ht3 ho3 hm3 => obtain rfl := u_ hk ho3.1; rw [hmk] at hm3; cases hm3
   | loadF ho3 hm3 => obtain rfl := u_ hk ho3.1; rw [hmk] at hm3; cases hm3
   | sto ho9 hb9 => obtain rfl := u_ hk ho9.1; rw [hb9] at hmk9; cases hmk9
   | Er ht3 ho3 hb3 => obtain rfl := u_ hk ho3.1; rw [hb3, hg] at htt; cases htt
   | pure ho3 hw3 hd3 h3 k3 =>
    obtain rfl := u_ hk ho3.1
    exact (Fs.Gt (P := P) (σ := σ) (fun w => by rw [← ek]; exact h3 w) (fun w => by rw [← ek]; exact h2 w)).elim
   | call ht3 ho3 hg3 hm3 => obtain rfl := u_ hk ho3.1; rw [hmk] at hm3; cases hm3
  | call ht2 ho2 hg2 hm2 => obtain rfl := u_ hk ho2.1; rw [hmk] at hm2; cases hm2
 | allocF hz ho hg hgm hw hd h hF kk =>
  obtain rfl := u_ hi.1 ho.1
  have hmk : Jt ok.op = true := by
   rcases hal with hal | hal
   ·rw [hg] at hal; simpa using hal
   ·rw [(hfa2 hz).2] at hal; cases hal.2
  obtain ⟨w, hs⟩ := hsat
  have hb0 := kk w.heap.size
  cases hb0 with
  | no hn => exact (hn ⟨_, hF _ _ _ (hs.alloc _ _)⟩).elim
  | pan ht2 ho2 hq2 hg2 hm2 => obtain rfl := u_ hk ho2; rw [hmk] at hm2; cases hm2
  | pure ho2 hw2 hd2 h2 k2 =>
   obtain rfl := u_ hk ho2.1
   refine .pure ⟨hk, ho2.2⟩ (wk ▸ hw2) hd2 (fun w => by rw [← ek]; exact h2 w) (.allocF hz hi hg hgm (wi.trans hw) hd (fun w => by rw [ei]; exact h w) hF (fun b => ?_))
   have hb := kk b
   cases hb with
   | no hn => exact .no hn
   | pan ht9 ho9 hq9 hg9 hm9 => obtain rfl := u_ hk ho9; rw [hmk] at hm9; cases hm9
   | pure ho3 hw3 hd3 h3 k3 =>
    obtain rfl := u_ hk ho3.1
    have : _ = _ := Fs.unique (P := P) (σ := σ) (fun w => by rw [← ek]; exact h2 w) (fun w => by rw [← ek]; exact h3 w)
    subst this
    exact pc _ _ ▸ k3
   | load ht3 ho3 hm3 => obtain rfl := u_ hk ho3.1; rw [hmk] at hm3; cases hm3
   | loadF ho3 hm3 => obtain rfl := u_ hk ho3.1; rw [hmk] at hm3; cases hm3
   | sto ho9 hb9 => obtain rfl := u_ hk ho9.1; rw [hb9] at hmk9; cases hmk9
   | Er ht3 ho3 hb3 => obtain rfl := u_ hk ho3.1; rw [hb3, hg] at htt; cases htt
   | off ho3 hw3 => obtain rfl := u_ hk ho3.1; rw [wk] at hw3 hw2; rw [hw2] at hw3; cases hw3
   | alloc ho3 hg3 hw3 hd3 h3 k3 =>
    obtain rfl := u_ hk ho3.1
    exact (Fs.Gt (P := P) (σ := σ) (fun w => by rw [← ek]; exact h2 w) (fun w => by rw [← ek]; exact h3 w)).elim
   | allocF hz3 ho3 hg3 hgm3 => obtain rfl := u_ hk ho3.1; exact (hno hz hgm3 hg).elim
   | call ht3 ho3 hg3 hm3 => obtain rfl := u_ hk ho3.1; rw [hmk] at hm3; cases hm3
  | load ht2 ho2 hm2 => obtain rfl := u_ hk ho2.1; rw [hmk] at hm2; cases hm2
  | loadF ho2 hm2 => obtain rfl := u_ hk ho2.1; rw [hmk] at hm2; cases hm2
  | sto ho9 hb9 => obtain rfl := u_ hk ho9.1; rw [hb9] at hmk9; cases hmk9
  | Er ht2 ho2 hb2 => obtain rfl := u_ hk ho2.1; rw [hb2, hg] at htt; cases htt
  | off ho2 hw2 hd2 k2 =>
   obtain rfl := u_ hk ho2.1
   refine .off ⟨hk, ho2.2⟩ (wk ▸ hw2) hd2 (.allocF hz hi hg hgm (wi.trans hw) hd (fun w => by rw [ei]; exact h w) hF (fun b => ?_))
   have hb := kk b
   cases hb with
   | no hn => exact .no hn
   | pan ht9 ho9 hq9 hg9 hm9 => obtain rfl := u_ hk ho9; rw [hmk] at hm9; cases hm9
   | off ho3 hw3 hd3 k3 => obtain rfl := u_ hk ho3.1; exact pc _ _ ▸ k3
   | pure ho3 hw3 => obtain rfl := u_ hk ho3.1; rw [wk] at hw3 hw2; rw [hw2] at hw3; cases hw3
   | load ht3 ho3 hm3 hw3 => obtain rfl := u_ hk ho3.1; rw [wk] at hw3 hw2; rw [hw2] at hw3; cases hw3
   | loadF ho3 hm3 => obtain rfl := u_ hk ho3.1; rw [hmk] at hm3; cases hm3
   | sto ho9 hb9 => obtain rfl := u_ hk ho9.1; rw [hb9] at hmk9; cases hmk9
   | Er ht3 ho3 hb3 => obtain rfl := u_ hk ho3.1; rw [hb3, hg] at htt; cases htt
   | alloc ho3 hg3 hw3 => obtain rfl := u_ hk ho3.1; rw [wk] at hw3 hw2; rw [hw2] at hw3; cases hw3
   | allocF hz3 ho3 hg3 hgm3 hw3 => obtain rfl := u_ hk ho3.1; rw [wk] at hw3 hw2; rw [hw2] at hw3; cases hw3
   | call ht3 ho3 hg3 hm3 hw3 => obtain rfl := u_ hk ho3.1; rw [wk] at hw3 hw2; rw [hw2] at hw3; cases hw3
  | alloc ho2 hg2 hw2 hd2 h2 k2 =>
   obtain rfl := u_ hk ho2.1
   refine .alloc ⟨hk, ho2.2⟩ hg2 (wk ▸ hw2) hd2 (fun w => by rw [← ek]; exact h2 w) (fun b' => .allocF hz hi hg hgm (wi.trans hw) hd (fun w => by rw [ei]; exact h w) hF (fun b => ?_))
   have hb := kk b
   cases hb with
   | no hn => exact .no (fun ⟨w, hw⟩ => hn ⟨w, hw.drop⟩)
   | pan ht9 ho9 hq9 hg9 hm9 => obtain rfl := u_ hk ho9; rw [hmk] at hm9; cases hm9
   | alloc ho3 hg3 hw3 hd3 h3 k3 =>
    obtain rfl := u_ hk ho3.1
    obtain ⟨e1, e2, e3⟩ := Ki.unique (P := P) (σ := σ) (fun w => by rw [← ek]; exact h2 w) (fun w => by rw [← ek]; exact h3 w)
    subst e1 e2 e3
    exact pc _ _ ▸ k3 b'
   | allocF hz3 ho3 hg3 hgm3 => obtain rfl := u_ hk ho3.1; exact (hno hz3 hgm3 hg).elim
   | off ho3 hw3 => obtain rfl := u_ hk ho3.1; rw [wk] at hw3 hw2; rw [hw2] at hw3; cases hw3
   | load ht3 ho3 hm3 => obtain rfl := u_ hk ho3.1; rw [hmk] at hm3; cases hm3
   | loadF ho3 hm3 => obtain rfl := u_ hk ho3.1; rw [hmk] at hm3; cases hm3
   | sto ho9 hb9 => obtain rfl := u_ hk ho9.1; rw [hb9] at hmk9; cases hmk9
   | Er ht3 ho3 hb3 => obtain rfl := u_ hk ho3.1; rw [hb3, hg] at htt; cases htt
   | pure ho3 hw3 hd3 h3 k3 =>
    obtain rfl := u_ hk ho3.1
    exact (Fs.Gt (P := P) (σ := σ) (fun w => by rw [← ek]; exact h3 w) (fun w => by rw [← ek]; exact h2 w)).elim
   | call ht3 ho3 hg3 hm3 => obtain rfl := u_ hk ho3.1; rw [hmk] at hm3; cases hm3
  | allocF hz2 ho2 hg2 hgm2 => obtain rfl := u_ hk ho2.1; exact (hno hz hgm2 hg).elim
  | call ht2 ho2 hg2 hm2 => obtain rfl := u_ hk ho2.1; rw [hmk] at hm2; cases hm2
 | call ht ho hg hm hw hd he hsp hpre kk =>
  obtain rfl := u_ hi.1 ho.1
  have hmk : Jt ok.op = true := by
   rcases hal with hal | hal
   ·rw [hg] at hal; simpa using hal
   ·rw [C4i hal.1] at hm; cases hm
  obtain ⟨w, hs⟩ := hsat
  obtain ⟨x0, w0, hs0⟩ := Spec.some hsp hpre hs
  have hb0 := kk x0
  cases hb0 with
  | no hn => exact absurd ⟨_, hs0⟩ hn
  | pan ht2 ho2 hq2 hg2 hm2 => obtain rfl := u_ hk ho2; rw [hmk] at hm2; cases hm2
  | pure ho2 hw2 hd2 h2 k2 =>
   obtain rfl := u_ hk ho2.1
   refine .pure ⟨hk, ho2.2⟩ (wk ▸ hw2) hd2 (fun w => by rw [← ek]; exact h2 w) (.call ht hi hg hm (wi.trans hw) hd (fun w => by rw [ei]; exact he w) hsp hpre (fun x => ?_))
   have hb := kk x
   cases hb with
   | no hn => exact .no hn
   | pan ht9 ho9 hq9 hg9 hm9 => obtain rfl := u_ hk ho9; rw [hmk] at hm9; cases hm9
   | pure ho3 hw3 hd3 h3 k3 =>
    obtain rfl := u_ hk ho3.1
    have : _ = _ := Fs.unique (P := P) (σ := σ) (fun w => by rw [← ek]; exact h2 w) (fun w => by rw [← ek]; exact h3 w)
    subst this
    exact pc _ _ ▸ k3
   | load ht3 ho3 hm3 => obtain rfl := u_ hk ho3.1; rw [hmk] at hm3; cases hm3
   | loadF ho3 hm3 => obtain rfl := u_ hk ho3.1; rw [hmk] at hm3; cases hm3
   | sto ho9 hb9 => obtain rfl := u_ hk ho9.1; rw [hb9] at hmk9; cases hmk9
   | Er ht3 ho3 hb3 => obtain rfl := u_ hk ho3.1; rw [hb3, hg] at htt; cases htt
   | off ho3 hw3 => obtain rfl := u_ hk ho3.1; rw [wk] at hw3 hw2; rw [hw2] at hw3; cases hw3
   | alloc ho3 hg3 hw3 hd3 h3 k3 =>
    obtain rfl := u_ hk ho3.1
    exact (Fs.Gt (P := P) (σ := σ) (fun w => by rw [← ek]; exact h2 w) (fun w => by rw [← ek]; exact h3 w)).elim
   | allocF hz3 ho3 hg3 hgm3 hw3 hd3 h3 hF3 k3 =>
    obtain rfl := u_ hk ho3.1
    exact (Fs.Gt (P := P) (σ := σ) (fun w => by rw [← ek]; exact h2 w) (fun w => by rw [← ek]; exact h3 w)).elim
   | call ht3 ho3 hg3 hm3 => obtain rfl := u_ hk ho3.1; rw [hmk] at hm3; cases hm3
  | load ht2 ho2 hm2 => obtain rfl := u_ hk ho2.1; rw [hmk] at hm2; cases hm2
  | loadF ho2 hm2 => obtain rfl := u_ hk ho2.1; rw [hmk] at hm2; cases hm2
  | sto ho9 hb9 => obtain rfl := u_ hk ho9.1; rw [hb9] at hmk9; cases hmk9
  | Er ht2 ho2 hb2 => obtain rfl := u_ hk ho2.1; rw [hb2, hg] at htt; cases htt
  | off ho2 hw2 hd2 k2 =>
   obtain rfl := u_ hk ho2.1
   refine .off ⟨hk, ho2.2⟩ (wk ▸ hw2) hd2 (.call ht hi hg hm (wi.trans hw) hd (fun w => by rw [ei]; exact he w) hsp hpre (fun x => ?_))
   have hb := kk x
   cases hb with
   | no hn => exact .no hn
   | pan ht9 ho9 hq9 hg9 hm9 => obtain rfl := u_ hk ho9; rw [hmk] at hm9; cases hm9
   | off ho3 hw3 hd3 k3 => obtain rfl := u_ hk ho3.1; exact pc _ _ ▸ k3
   | pure ho3 hw3 => obtain rfl := u_ hk ho3.1; rw [wk] at hw3 hw2; rw [hw2] at hw3; cases hw3
   | load ht3 ho3 hm3 hw3 => obtain rfl := u_ hk ho3.1; rw [wk] at hw3 hw2; rw [hw2] at hw3; cases hw3
   | loadF ho3 hm3 => obtain rfl := u_ hk ho3.1; rw [hmk] at hm3; cases hm3
   | sto ho9 hb9 => obtain rfl := u_ hk ho9.1; rw [hb9] at hmk9; cases hmk9
   | Er ht3 ho3 hb3 => obtain rfl := u_ hk ho3.1; rw [hb3, hg] at htt; cases htt
   | alloc ho3 hg3 hw3 => obtain rfl := u_ hk ho3.1; rw [wk] at hw3 hw2; rw [hw2] at hw3; cases hw3
   | allocF hz3 ho3 hg3 hgm3 hw3 => obtain rfl := u_ hk ho3.1; rw [wk] at hw3 hw2; rw [hw2] at hw3; cases hw3
   | call ht3 ho3 hg3 hm3 hw3 => obtain rfl := u_ hk ho3.1; rw [wk] at hw3 hw2; rw [hw2] at hw3; cases hw3
  | allocF hz2 ho2 hg2 hgm2 => obtain rfl := u_ hk ho2.1; exact (hno hz2 hgm2 hg).elim
  | alloc ho2 hg2 hw2 hd2 h2 k2 =>
   obtain rfl := u_ hk ho2.1
   refine .alloc ⟨hk, ho2.2⟩ hg2 (wk ▸ hw2) hd2 (fun w => by rw [← ek]; exact h2 w) (fun b' => .call ht hi hg hm (wi.trans hw) hd (fun w => by rw [ei]; exact he w) hsp hpre (fun x => ?_))
   have hb := kk x
   cases hb with
   | no hn => exact .no (fun ⟨w, hw⟩ => hn ⟨w, (hw.perm List.perm_middle).drop⟩)
   | pan ht9 ho9 hq9 hg9 hm9 => obtain rfl := u_ hk ho9; rw [hmk] at hm9; cases hm9
   | alloc ho3 hg3 hw3 hd3 h3 k3 =>
    obtain rfl := u_ hk ho3.1
    obtain ⟨e1, e2, e3⟩ := Ki.unique (P := P) (σ := σ) (fun w => by rw [← ek]; exact h2 w) (fun w => by rw [← ek]; exact h3 w)
    subst e1 e2 e3
    exact pc _ _ ▸ (k3 b').perm List.perm_middle.symm
   | allocF hz3 ho3 hg3 hgm3 => obtain rfl := u_ hk ho3.1; exact (hno hz3 hgm3 hg).elim
   | off ho3 hw3 => obtain rfl := u_ hk ho3.1; rw [wk] at hw3 hw2; rw [hw2] at hw3; cases hw3
   | load ht3 ho3 hm3 => obtain rfl := u_ hk ho3.1; rw [hmk] at hm3; cases hm3
   | loadF ho3 hm3 => obtain rfl := u_ hk ho3.1; rw [hmk] at hm3; cases hm3
   | sto ho9 hb9 => obtain rfl := u_ hk ho9.1; rw [hb9] at hmk9; cases hmk9
   | Er ht3 ho3 hb3 => obtain rfl := u_ hk ho3.1; rw [hb3, hg] at htt; cases htt
   | pure ho3 hw3 hd3 h3 k3 =>
    obtain rfl := u_ hk ho3.1
    exact (Fs.Gt (P := P) (σ := σ) (fun w => by rw [← ek]; exact h3 w) (fun w => by rw [← ek]; exact h2 w)).elim
   | call ht3 ho3 hg3 hm3 => obtain rfl := u_ hk ho3.1; rw [hmk] at hm3; cases hm3
  | call ht2 ho2 hg2 hm2 => obtain rfl := u_ hk ho2.1; rw [hmk] at hm2; cases hm2
 | loadF ho hm hw hd h kk =>
  obtain rfl := u_ hi.1 ho.1
  have hp : ∀ {u : Value}, A2j P B (Aq σ ok.dst u) Γ [] oi _ := fun {u} w hs => by rw [ei]; exact h w hs
  cases kk with
  | no h => exact absurd hsat h
  | pan ht2 ho2 hq2 hg2 hm2 hw2 he2 hsp2 hpre2 hR2 => obtain rfl := u_ hk ho2; exact .pan ht2 hk hq2 hg2 hm2 (wk ▸ hw2) (fun w => by rw [← ek]; exact he2 w) hsp2 hpre2 hR2
  | pure ho2 hw2 hd2 h2 k2 =>
   obtain rfl := u_ hk ho2.1
   exact .pure ⟨hk, ho2.2⟩ (wk ▸ hw2) hd2 (fun w => by rw [← ek]; exact h2 w) (.loadF hi hm (wi.trans hw) hd hp (pc _ _ ▸ k2))
  | load ht2 ho2 hm2 hw2 hd2 h2 k2 =>
   obtain rfl := u_ hk ho2.1
   exact .load ht2 ⟨hk, ho2.2⟩ hm2 (wk ▸ hw2) hd2 (fun w hs => by rw [← ek]; exact h2 w hs) (.loadF hi hm (wi.trans hw) hd hp (pc _ _ ▸ k2))
  | off ho2 hw2 hd2 k2 =>
   obtain rfl := u_ hk ho2.1
   exact .off ⟨hk, ho2.2⟩ (wk ▸ hw2) hd2 (.loadF hi hm (wi.trans hw) hd hp (pc _ _ ▸ k2))
  | alloc ho2 hg2 hw2 hd2 h2 k2 =>
   obtain rfl := u_ hk ho2.1
   exact .alloc ⟨hk, ho2.2⟩ hg2 (wk ▸ hw2) hd2 (fun w => by rw [← ek]; exact h2 w) (fun b => .loadF hi hm (wi.trans hw) hd hp (pc _ _ ▸ k2 b))
  | allocF hz2 ho2 hg2 hgm2 hw2 hd2 h2 hF2 k2 =>
   obtain rfl := u_ hk ho2.1
   exact .allocF hz2 ⟨hk, ho2.2⟩ hg2 hgm2 (wk ▸ hw2) hd2 (fun w => by rw [← ek]; exact h2 w) hF2 (fun b => .loadF hi hm (wi.trans hw) hd (fun w hs => by rw [ei]; exact h w (hs.less (fun F hF => List.mem_append_right _ hF))) (pc _ _ ▸ k2 b))
  | call ht2 ho2 hg2 hm2 hw2 hd2 he2 hsp2 hpre2 k2 =>
   obtain rfl := u_ hk ho2.1
   exact .call ht2 ⟨hk, ho2.2⟩ hg2 hm2 (wk ▸ hw2) hd2 (fun w => by rw [← ek]; exact he2 w) hsp2 hpre2 (fun x => .loadF hi hm (wi.trans hw) hd (fun w hs => by rw [ei]; exact h w (hs.less (fun F hF => List.mem_append_right _ hF))) (pc _ _ ▸ k2 x))
  | loadF ho2 hm2 hw2 hd2 h2 k2 =>
   obtain rfl := u_ hk ho2.1
   exact .loadF ⟨hk, ho2.2⟩ hm2 (wk ▸ hw2) hd2 (fun w hs => by rw [← ek]; exact h2 w hs) (.loadF hi hm (wi.trans hw) hd hp (pc _ _ ▸ k2))
  | sto ho9 hb9 => obtain rfl := u_ hk ho9.1; rw [hb9] at hmk9; cases hmk9
  | Er ht2 ho2 hb2 hw2 hd2 hp2 h2 k2 hz2 =>
   obtain rfl := u_ hk ho2.1
   exact .Er ht2 ⟨hk, ho2.2⟩ hb2 (wk ▸ hw2) hd2 hp2 (fun M w hs => by rw [← ek]; exact h2 M w hs) (fun x => .loadF hi hm (wi.trans hw) hd (fun w hs => by rw [ei]; exact h w (hs.less (fun F hF => List.mem_append_right _ hF))) (pc _ _ ▸ k2 x)) hz2
 | sto ho9 hb9 => obtain rfl := u_ hi.1 ho9.1; rw [hb9] at hmi9; cases hmi9
 | Er ht ho hb hw hd hp h kk hz =>
  obtain rfl := u_ hi.1 ho.1
  have hfe := fun (hm9 : Jt ok.op = false) => hz.resolve_left (fun hz9 => by rw [hfa3 hz9 hb] at hm9; cases hm9)
  obtain ⟨w, hs⟩ := hsat
  obtain ⟨x0, w0, _, hs0⟩ := h _ w (hs.perm hp)
  have hsn : ∃ w, St B Γ [] w := ⟨w, St.Np (A := _) (Ms := []) (by rw [List.append_nil]; exact hs)⟩
  have hT : ∀ {u : Value} M w, St B Γ (_ ++ M) w → _ := fun {u} M w hs => by
   have := h M w hs
   rw [← ei (v := u)] at this
   exact this
  have hb0 := kk x0
  cases hb0 with
  | no hn => exact absurd ⟨_, hs0⟩ hn
  | pan ht2 ho2 hq2 hg2 hm2 => obtain rfl := u_ hk ho2; rw [hb, hm2, hg2] at htt2; simp at htt2
  | pure ho2 hw2 hd2 h2 k2 =>
   obtain rfl := u_ hk ho2.1
   refine .pure ⟨hk, ho2.2⟩ (wk ▸ hw2) hd2 (fun w => by rw [← ek]; exact h2 w) (.Er ht hi hb (wi.trans hw) hd hp hT (fun x => ?_) hz)
   have hb3 := kk x
   cases hb3 with
   | no hn => exact .no hn
   | pan ht9 ho9 hq9 hg9 hm9 => obtain rfl := u_ hk ho9; rw [hb, hm9, hg9] at htt2; simp at htt2
   | pure ho3 hw3 hd3 h3 k3 =>
    obtain rfl := u_ hk ho3.1
    have : _ = _ := Fs.unique (P := P) (σ := σ) (fun w => by rw [← ek]; exact h2 w) (fun w => by rw [← ek]; exact h3 w)
    subst this
    exact pc _ _ ▸ k3
   | loadF ho3 hm3 hw3 hd3 h3 k3 =>
    obtain rfl := u_ hk ho3.1
    obtain ⟨w1, hw1⟩ := hsn
    have h2' := h2 w1
    have h3' := h3 w1 (by rw [hfe hm3]; exact hw1)
    rw [ek] at h2' h3'
    have e := h2'.symm.trans h3'
    injection e with e1 e2
    injection e1 with e1
    subst e1
    exact pc _ _ ▸ k3
   | off ho3 hw3 => obtain rfl := u_ hk ho3.1; rw [wk] at hw3 hw2; rw [hw2] at hw3; cases hw3
   | alloc ho3 hg3 hw3 hd3 h3 k3 =>
    obtain rfl := u_ hk ho3.1
    exact (Fs.Gt (P := P) (σ := σ) (fun w => by rw [← ek]; exact h2 w) (fun w => by rw [← ek]; exact h3 w)).elim
   | allocF hz3 ho3 hg3 hgm3 hw3 hd3 h3 hF3 k3 =>
    obtain rfl := u_ hk ho3.1
    exact (Fs.Gt (P := P) (σ := σ) (fun w => by rw [← ek]; exact h2 w) (fun w => by rw [← ek]; exact h3 w)).elim
   | load ht3 ho3 hm3 => obtain rfl := u_ hk ho3.1; rw [hb, hm3, ht3] at htt2; simp at htt2
   | call ht3 ho3 hg3 hm3 => obtain rfl := u_ hk ho3.1; rw [hb, hm3, hg3] at htt2; simp at htt2
   | sto ho9 hb9 => obtain rfl := u_ hk ho9.1; rw [hb9] at hmk9; cases hmk9
   | Er ht3 ho3 hb3 => obtain rfl := u_ hk ho3.1; rw [hb3, hb, Bool.or_true] at htt; cases htt
  | loadF ho2 hm2 hw2 hd2 h2 k2 =>
   obtain rfl := u_ hk ho2.1
   refine .loadF ⟨hk, ho2.2⟩ hm2 (wk ▸ hw2) hd2 (fun w hs => by rw [← ek]; exact h2 w (by rw [hfe hm2]; exact hs)) (.Er ht hi hb (wi.trans hw) hd hp hT (fun x => ?_) hz)
   have hb3 := kk x
   cases hb3 with
   | no hn => exact .no hn
   | pan ht9 ho9 hq9 hg9 hm9 => obtain rfl := u_ hk ho9; rw [hb, hm9, hg9] at htt2; simp at htt2
   | loadF ho3 hm3 hw3 hd3 h3 k3 =>
    obtain rfl := u_ hk ho3.1
    obtain ⟨w1, hw1⟩ := hsn
    have h2' := h2 w1 (by rw [hfe hm2]; exact hw1)
    have h3' := h3 w1 (by rw [hfe hm3]; exact hw1)
    rw [ek] at h2' h3'
    have e := h2'.symm.trans h3'
    injection e with e1 e2
    injection e1 with e1
    subst e1
    exact pc _ _ ▸ k3
   | pure ho3 hw3 hd3 h3 k3 =>
    obtain rfl := u_ hk ho3.1
    obtain ⟨w1, hw1⟩ := hsn
    have h2' := h2 w1 (by rw [hfe hm2]; exact hw1)
    have h3' := h3 w1
    rw [ek] at h2' h3'
    have e := h2'.symm.trans h3'
    injection e with e1 e2
    injection e1 with e1
    subst e1
    exact pc _ _ ▸ k3
   | off ho3 hw3 => obtain rfl := u_ hk ho3.1; rw [wk] at hw3 hw2; rw [hw2] at hw3; cases hw3
   | alloc ho3 hg3 hw3 hd3 h3 k3 =>
    obtain rfl := u_ hk ho3.1
    obtain ⟨w1, hw1⟩ := hsn
    have h2' := h2 w1 (by rw [hfe hm2]; exact hw1)
    have h3' := h3 w1
    rw [ek] at h2' h3'
    have e := h2'.symm.trans h3'
    injection e with e1 e2
    have h9 := congrArg (fun w : World => w.heap.size) e2
    simp at h9
   | allocF hz3 ho3 hg3 hgm3 hw3 hd3 h3 hF3 k3 =>
    obtain rfl := u_ hk ho3.1
    obtain ⟨w1, hw1⟩ := hsn
    have h2' := h2 w1 (by rw [hfe hm2]; exact hw1)
    have h3' := h3 w1
    rw [ek] at h2' h3'
    have e := h2'.symm.trans h3'
    injection e with e1 e2
    have h9 := congrArg (fun w : World => w.heap.size) e2
    simp at h9
   | load ht3 ho3 hm3 => obtain rfl := u_ hk ho3.1; rw [hb, hm3, ht3] at htt2; simp at htt2
   | call ht3 ho3 hg3 hm3 => obtain rfl := u_ hk ho3.1; rw [hb, hm3, hg3] at htt2; simp at htt2
   | sto ho9 hb9 => obtain rfl := u_ hk ho9.1; rw [hb9] at hmk9; cases hmk9
   | Er ht3 ho3 hb3 => obtain rfl := u_ hk ho3.1; rw [hb3, hb, Bool.or_true] at htt; cases htt
  | off ho2 hw2 hd2 k2 =>
   obtain rfl := u_ hk ho2.1
   refine .off ⟨hk, ho2.2⟩ (wk ▸ hw2) hd2 (.Er ht hi hb (wi.trans hw) hd hp hT (fun x => ?_) hz)
   have hb3 := kk x
   cases hb3 with
   | no hn => exact .no hn
   | pan ht9 ho9 hq9 hg9 hm9 => obtain rfl := u_ hk ho9; rw [hb, hm9, hg9] at htt2; simp at htt2
   | off ho3 hw3 hd3 k3 => obtain rfl := u_ hk ho3.1; exact pc _ _ ▸ k3
   | pure ho3 hw3 => obtain rfl := u_ hk ho3.1; rw [wk] at hw3 hw2; rw [hw2] at hw3; cases hw3
   | loadF ho3 hm3 hw3 => obtain rfl := u_ hk ho3.1; rw [wk] at hw3 hw2; rw [hw2] at hw3; cases hw3
   | alloc ho3 hg3 hw3 => obtain rfl := u_ hk ho3.1; rw [wk] at hw3 hw2; rw [hw2] at hw3; cases hw3
   | allocF hz3 ho3 hg3 hgm3 hw3 => obtain rfl := u_ hk ho3.1; rw [wk] at hw3 hw2; rw [hw2] at hw3; cases hw3
   | load ht3 ho3 hm3 => obtain rfl := u_ hk ho3.1; rw [hb, hm3, ht3] at htt2; simp at htt2
   | call ht3 ho3 hg3 hm3 => obtain rfl := u_ hk ho3.1; rw [hb, hm3, hg3] at htt2; simp at htt2
   | sto ho9 hb9 => obtain rfl := u_ hk ho9.1; rw [hb9] at hmk9; cases hmk9
   | Er ht3 ho3 hb3 => obtain rfl := u_ hk ho3.1; rw [hb3, hb, Bool.or_true] at htt; cases htt
  | allocF hz2 ho2 hg2 hgm2 => obtain rfl := u_ hk ho2.1; exact (hno2 hz2 hb).elim
  | alloc ho2 hg2 hw2 hd2 h2 k2 =>
   obtain rfl := u_ hk ho2.1
   refine .alloc ⟨hk, ho2.2⟩ hg2 (wk ▸ hw2) hd2 (fun w => by rw [← ek]; exact h2 w) (fun b' => .Er ht hi hb (wi.trans hw) hd ((hp.cons _).trans List.perm_middle.symm) hT (fun x => ?_) hz)
   have hb3 := kk x
   cases hb3 with
   | no hn => exact .no (fun ⟨w, hw⟩ => hn ⟨w, (hw.perm List.perm_middle).drop⟩)
   | pan ht9 ho9 hq9 hg9 hm9 => obtain rfl := u_ hk ho9; rw [hb, hm9, hg9] at htt2; simp at htt2
   | alloc ho3 hg3 hw3 hd3 h3 k3 =>
    obtain rfl := u_ hk ho3.1
    obtain ⟨e1, e2, e3⟩ := Ki.unique (P := P) (σ := σ) (fun w => by rw [← ek]; exact h2 w) (fun w => by rw [← ek]; exact h3 w)
    subst e1 e2 e3
    exact pc _ _ ▸ (k3 b').perm List.perm_middle.symm
   | allocF hz3 ho3 hg3 hgm3 => obtain rfl := u_ hk ho3.1; exact (hno2 hz3 hb).elim
   | off ho3 hw3 => obtain rfl := u_ hk ho3.1; rw [wk] at hw3 hw2; rw [hw2] at hw3; cases hw3
   | pure ho3 hw3 hd3 h3 k3 =>
    obtain rfl := u_ hk ho3.1
    exact (Fs.Gt (P := P) (σ := σ) (fun w => by rw [← ek]; exact h3 w) (fun w => by rw [← ek]; exact h2 w)).elim
   | loadF ho3 hm3 hw3 hd3 h3 k3 =>
    obtain rfl := u_ hk ho3.1
    obtain ⟨w1, hw1⟩ := hsn
    have h2' := h2 w1
    have h3' := h3 w1 (by rw [hfe hm3]; exact hw1)
    rw [ek] at h2' h3'
    have e := h3'.symm.trans h2'
    injection e with e1 e2
    have h9 := congrArg (fun w : World => w.heap.size) e2
    simp at h9
   | load ht3 ho3 hm3 => obtain rfl := u_ hk ho3.1; rw [hb, hm3, ht3] at htt2; simp at htt2
   | call ht3 ho3 hg3 hm3 => obtain rfl := u_ hk ho3.1; rw [hb, hm3, hg3] at htt2; simp at htt2
   | sto ho9 hb9 => obtain rfl := u_ hk ho9.1; rw [hb9] at hmk9; cases hmk9
   | Er ht3 ho3 hb3 => obtain rfl := u_ hk ho3.1; rw [hb3, hb, Bool.or_true] at htt; cases htt
  | load ht3 ho3 hm3 => obtain rfl := u_ hk ho3.1; rw [hb, hm3, ht3] at htt2; simp at htt2
  | call ht3 ho3 hg3 hm3 => obtain rfl := u_ hk ho3.1; rw [hb, hm3, hg3] at htt2; simp at htt2
  | sto ho9 hb9 => obtain rfl := u_ hk ho9.1; rw [hb9] at hmk9; cases hmk9
  | Er ht3 ho3 hb3 => obtain rfl := u_ hk ho3.1; rw [hb3, hb, Bool.or_true] at htt; cases htt
theorem NV.front {C : List Nat} : ∀ {A : List Nat} {σ : Nat → Value} {Γ : List Fact} {Ms : List Bm}, (∀ i, i ∈ A → ∃ oi ok, U4 pn ops i oi ∧ ops[k]? = some ok ∧ Oper.apart ops oi ok = true ∧ ((!H8 oi.op || Jt ok.op) = true ∨ (A2h oi.op = true ∧ Nat.beq pn k = true)) ∧ ((!(I1 ok.op && (H8 oi.op || I1 oi.op || (!tn && !Jt oi.op)))) = true ∧ (!(I1 oi.op && !Jt ok.op && (!tn || H8 ok.op))) = true) ∧ Gu oi.op = true ∧ Gu ok.op = true ∧ B9m tn oi.op ok.op = true ∧ C3v pn k oi.op ok.op = true) →
  NV tn pn P f R B n K ops fin (A ++ k :: C) σ Γ Ms → NV tn pn P f R B n K ops fin (k :: (A ++ C)) σ Γ Ms
 | [], σ, Γ, Ms, _, h => h
 | i :: A, σ, Γ, Ms, hA, h => by
  have ih : ∀ {σ' Γ' Ms'}, NV tn pn P f R B n K ops fin (A ++ k :: C) σ' Γ' Ms' → NV tn pn P f R B n K ops fin (k :: (A ++ C)) σ' Γ' Ms' := fun {_ _ _} hh => NV.front (A := A) (fun j hj => hA j (List.mem_cons_of_mem _ hj)) hh
  by_cases hsat : ∃ w, St B Γ Ms w
  ·obtain ⟨oi, ok, h1, h2, h3, h4, h45, h5, h6, h7, h8⟩ := hA i List.mem_cons_self
   have h' : NV tn pn P f R B n K ops fin (i :: k :: (A ++ C)) σ Γ Ms := by
    cases h with
    | no h => exact .no h
    | pure ho hw hd h kk => exact .pure ho hw hd h (ih kk)
    | load ht ho hm hw hd h kk => exact .load ht ho hm hw hd h (ih kk)
    | loadF ho hm hw hd h kk => exact .loadF ho hm hw hd h (ih kk)
    | Er ht ho hb hw hd hp h kk hz => exact .Er ht ho hb hw hd hp h (fun x => ih (kk x)) hz
    | sto ho hb hw hd hp h kk => exact .sto ho hb hw hd hp h (ih kk)
    | pan ht ho hq hg hm hw he hsp hpre hR => exact .pan ht ho hq hg hm hw he hsp hpre hR
    | off ho hw hd kk => exact .off ho hw hd (ih kk)
    | alloc ho hg hw hd h kk => exact .alloc ho hg hw hd h (fun b => ih (kk b))
    | allocF hz ho hg hgm hw hd h hF kk => exact .allocF hz ho hg hgm hw hd h hF (fun b => ih (kk b))
    | call ht ho hg hm hw hd he hsp hpre kk => exact .call ht ho hg hm hw hd he hsp hpre (fun x => ih (kk x))
   simp only [B9m, Bool.or_eq_true] at h7
   rcases h7 with (h7 | h7) | h7
   ·simp only [Bool.and_eq_true, Bool.not_eq_true'] at h7
    exact NV.swap h1 h2 h3 h4 h45.1 h45.2 h5 h6 h7.1 h7.2 h8 hsat h'
   ·exact NV.D5h h1 h2 h3 h5 h6 (.inl h7) hsat h'
   ·exact NV.D5h h1 h2 h3 h5 h6 (.inr h7) hsat h'
  ·exact .no hsat
def Xf (o : Oper) : List Nat := (o.after.toList.filter (Region.binds .any)).map (·.on)
def C0p (ops : Array Oper) (A : List Nat) : Bool := (List.range ops.size).all fun d => match ops[d]? with
 | none => true
 | some o => (List.range ops.size).all fun i => !(A.getD d 0).testBit i || (Xf o).any fun e => e == i || (decide (e < d) && (A.getD e 0).testBit i)
def B5n (tn : Bool) (pn : Nat) (ops : Array Oper) (A : List Nat) (i k : Nat) : Bool := (A.getD k 0).testBit i || match ops[i]?, ops[k]? with
 | some oi, some ok => !Nat.beq pn i && Oper.apart ops oi ok && (!H8 oi.op || Jt ok.op || (A2h oi.op && Nat.beq pn k)) && ((!(I1 ok.op && (H8 oi.op || I1 oi.op || (!tn && !Jt oi.op)))) && (!(I1 oi.op && !Jt ok.op && (!tn || H8 ok.op)))) && Gu oi.op && Gu ok.op && B9m tn oi.op ok.op && C3v pn k oi.op ok.op
 | _, _ => false
def Ly (tn : Bool) (pn : Nat) (ops : Array Oper) (A : List Nat) : List Nat → Bool
 | [] => true
 | i :: l => l.all (B5n tn pn ops A i) && Ly tn pn ops A l
def K4 (ops : Array Oper) : List Nat → List Nat → Bool
 | _, [] => true
 | done, i :: l => (match ops[i]? with
  | some o => (Xf o).all fun e => done.contains e
  | none => false) && K4 ops (i :: done) l
def Qc (A : List Nat) : List Nat → List Nat → Bool
 | _, [] => true
 | before, x :: l => before.all (fun y => (A.getD x 0).testBit y) && Qc A (x :: before) l
def Tt : List Nat → Bool
 | [] => true
 | i :: l => !l.contains i && Tt l
def B8y (tn : Bool) (pn : Nat) (ops : Array Oper) (A : List Nat) (l fin : List Nat) : Bool :=
 C0p ops A && Ly tn pn ops A l && K4 ops [] (l ++ fin) && Qc A l fin && Tt (l ++ fin) && (l ++ fin).length == ops.size && (l ++ fin).all (fun i => decide (i < ops.size)) && (List.range ops.size).all (fun j => (l ++ fin).contains j)
structure Q3 (ops : Array Oper) (listed : Array Bool) (rest : List Nat) : Prop where
 size : listed.size = ops.size
 iff : ∀ j, j < ops.size → (listed.getD j true = false ↔ j ∈ rest)
 down : ∀ j o, ops[j]? = some o → listed.getD j true = true → ∀ e, e ∈ Xf o → listed.getD e false = true
theorem M6 {listed : Array Bool} {k : Nat} : k ∈ Region.ready .any ops listed ↔ k < ops.size ∧ listed.getD k true = false ∧ ∃ o, ops[k]? = some o ∧ ∀ e, e ∈ Xf o → listed.getD e false = true := by
 unfold Region.ready
 rw [List.mem_filter, List.mem_range]
 constructor
 ·rintro ⟨h1, h2⟩
  rw [Bool.and_eq_true] at h2
  refine ⟨h1, by simpa using h2.1, ?_⟩
  cases ho : ops[k]? with
  | none => rw [ho] at h2; simp at h2
  | some o =>
   refine ⟨o, rfl, fun e he => ?_⟩
   rw [ho] at h2
   simp only [Option.map_some, Option.getD_some] at h2
   obtain ⟨ed, hed, rfl⟩ := List.mem_map.1 he
   obtain ⟨hm, hb⟩ := List.mem_filter.1 hed
   have := Array.all_eq_true_iff_forall_mem.1 h2.2 ed (Array.mem_toList_iff.1 hm)
   rw [hb] at this
   simpa using this
 ·rintro ⟨h1, h2, o, ho, h3⟩
  refine ⟨h1, ?_⟩
  rw [Bool.and_eq_true]
  refine ⟨by simpa using h2, ?_⟩
  rw [ho]
  simp only [Option.map_some, Option.getD_some]
  rw [Array.all_eq_true_iff_forall_mem]
  intro ed hed
  cases hb : Region.binds .any ed with
  | false => simp
  | true => simpa using h3 ed.on (List.mem_map.2 ⟨ed, List.mem_filter.2 ⟨Array.mem_toList_iff.2 hed, hb⟩, rfl⟩)
theorem U3 {A : List Nat} {listed : Array Bool} {rest : List Nat} (hA : C0p ops A = true) (hL : Q3 ops listed rest) : ∀ (m d : Nat), d ≤ m → d < ops.size → (∀ o, ops[d]? = some o → ∀ e, e ∈ Xf o → listed.getD e false = true) → ∀ i, i < ops.size → (A.getD d 0).testBit i = true → listed.getD i false = true := by
 intro m
 induction m with
 | zero =>
  intro d hd hlt hdep i hi hb
  obtain rfl : d = 0 := by omega
  have h1 := List.all_eq_true.1 hA 0 (List.mem_range.2 hlt)
  have ho : ops[0]? = some ops[0] := by simp [hlt]
  rw [ho] at h1
  have h2 := List.all_eq_true.1 h1 i (List.mem_range.2 hi)
  rw [hb] at h2
  simp only [Bool.not_true, Bool.false_or] at h2
  obtain ⟨e, he, h3⟩ := List.any_eq_true.1 h2
  simp only [Bool.or_eq_true, beq_iff_eq, Bool.and_eq_true, decide_eq_true_eq] at h3
  rcases h3 with rfl | ⟨h3, _⟩
  ·exact hdep _ ho _ he
  ·exact absurd h3 (Nat.not_lt_zero _)
 | succ m ih =>
  intro d hd hlt hdep i hi hb
  have h1 := List.all_eq_true.1 hA d (List.mem_range.2 hlt)
  have ho : ops[d]? = some ops[d] := by simp [hlt]
  rw [ho] at h1
  have h2 := List.all_eq_true.1 h1 i (List.mem_range.2 hi)
  rw [hb] at h2
  simp only [Bool.not_true, Bool.false_or] at h2
  obtain ⟨e, he, h3⟩ := List.any_eq_true.1 h2
  simp only [Bool.or_eq_true, beq_iff_eq, Bool.and_eq_true, decide_eq_true_eq] at h3
  rcases h3 with rfl | ⟨h3, h4⟩
  ·exact hdep _ ho _ he
  ·have hel : listed.getD e false = true := hdep _ ho _ he
   have hlt' : e < ops.size := by omega
   refine ih e A2 hlt' ?_ i hi h4
   intro o' ho'
   refine hL.down e o' ho' ?_
   have : e < listed.size := by rw [hL.size]; exact hlt'
   simpa [Array.getD_eq_getD_getElem?, this] using hel
theorem Q3.step {listed : Array Bool} {rest rest' : List Nat} {k : Nat} (hL : Q3 ops listed rest) (hk : k ∈ Region.ready .any ops listed) (hr : ∀ j, j ∈ rest' ↔ j ∈ rest ∧ j ≠ k) : Q3 ops (listed.setIfInBounds k true) rest' := by
 obtain ⟨h1, h2, o, ho, h3⟩ := M6.1 hk
 have hup : ∀ e, listed.getD e false = true → (listed.setIfInBounds k true).getD e false = true := by
  intro e he
  by_cases hek : e = k
  ·subst hek; simp [Array.getD_eq_getD_getElem?, hL.size, h1]
  ·simp only [Array.getD_eq_getD_getElem?, Array.getElem?_setIfInBounds_ne (Ne.symm hek)]; simpa [Array.getD_eq_getD_getElem?] using he
 refine ⟨by simp [hL.size], ?_, ?_⟩
 ·intro j hj
  rw [hr]
  by_cases hjk : j = k
  ·subst hjk; simp [Array.getD_eq_getD_getElem?, hL.size, hj]
  ·rw [← hL.iff j hj]
   simp [Array.getD_eq_getD_getElem?, Array.getElem?_setIfInBounds_ne (Ne.symm hjk), hjk]
 ·intro j oj hoj hjl e he
  by_cases hjk : j = k
  ·subst hjk
   rw [ho] at hoj
   injection hoj with hoj
   subst hoj
   exact hup e (h3 e he)
  ·refine hup e (hL.down j oj hoj ?_ e he)
   simpa [Array.getD_eq_getD_getElem?, Array.getElem?_setIfInBounds_ne (Ne.symm hjk)] using hjl
theorem Q3.A7t {listed : Array Bool} {rest : List Nat} (hL : Q3 ops listed rest) {j : Nat} (hj : j < ops.size) (hm : j ∈ rest) : listed.getD j false = true → False := by
 intro h
 have h1 := (hL.iff j hj).2 hm
 have : j < listed.size := by rw [hL.size]; exact hj
 simp only [Array.getD_eq_getD_getElem?, Array.getElem?_eq_getElem this, Option.getD_some] at h h1
 rw [h] at h1
 cases h1
theorem A3h {Q : Exit → Act → World → Prop} {A : List Nat} (hA : C0p ops A = true) : ∀ (fin before : List Nat) (listed : Array Bool) (fuel : Nat) (a : Act) (w : World), Q3 ops listed fin → Qc A before fin = true → Tt fin = true → (∀ j, j ∈ fin → j < ops.size) →
  (∃ done, K4 ops done fin = true ∧ ∀ e, e ∈ done → listed.getD e false = true) → fin.length ≤ fuel → wpOps P ops Q fin a w → wpAny P .any ops Q fuel listed a w := by
 intro fin
 induction fin with
 | nil =>
  intro before listed fuel a w hL _ _ _ _ _ h
  have hnil : Region.ready .any ops listed = [] := by
   cases hr : Region.ready .any ops listed with
   | nil => rfl
   | cons x xs =>
    obtain ⟨h1, h2, _⟩ := M6.1 (hr ▸ List.mem_cons_self : x ∈ Region.ready .any ops listed)
    have := (hL.iff x h1).1 h2
    cases this
  cases fuel with
  | zero => exact ⟨hnil, h⟩
  | succ fuel => exact ⟨fun _ => h, fun i hi => by rw [hnil] at hi; cases hi⟩
 | cons x fin ih =>
  intro before listed fuel a w hL hf hnd hlt htop hfu h
  obtain ⟨done, htop, hdone⟩ := htop
  have hx : x < ops.size := hlt x List.mem_cons_self
  simp only [K4, Bool.and_eq_true] at htop
  have hox : ops[x]? = some ops[x] := by simp [hx]
  rw [hox] at htop
  have hrx : x ∈ Region.ready .any ops listed := M6.2 ⟨hx, (hL.iff x hx).2 List.mem_cons_self, _, hox, fun e he => hdone e (by simpa using List.all_eq_true.1 htop.1 e he)⟩
  simp only [Qc, Bool.and_eq_true] at hf
  simp only [Tt, Bool.and_eq_true, Bool.not_eq_true'] at hnd
  cases fuel with
  | zero => simp at hfu
  | succ fuel =>
   refine ⟨fun hn => (by rw [hn] at hrx; cases hrx), fun k hk => ?_⟩
   obtain ⟨hk1, hk2, o, ho, hk3⟩ := M6.1 hk
   have hkm := (hL.iff k hk1).1 hk2
   obtain rfl : k = x := by
    cases hkm with
    | head => rfl
    | tail _ hkm =>
     exfalso
     have hanc : (A.getD k 0).testBit x = true := by
      have : ∀ (l b : List Nat), Qc A b l = true → k ∈ l → ∀ y, y ∈ b → (A.getD k 0).testBit y = true := by
       intro l
       induction l with
       | nil => intro b _ hm; cases hm
       | cons z l ihl =>
        intro b hb hm y hy
        simp only [Qc, Bool.and_eq_true] at hb
        cases hm with
        | head => exact List.all_eq_true.1 hb.1 y hy
        | tail _ hm => exact ihl (z :: b) hb.2 hm y (List.mem_cons_of_mem _ hy)
      exact this fin (x :: before) hf.2 hkm x List.mem_cons_self
     exact hL.A7t hx List.mem_cons_self (U3 hA hL k k (Nat.le_refl _) hk1 (fun o' ho' e he => by rw [ho] at ho'; injection ho' with ho'; subst ho'; exact hk3 e he) x hx hanc)
   rw [wpOps_cons] at h
   have hxn : k ∉ fin := by simpa using hnd.1
   refine wpOp_mono ?_ h
   intro a' w' h'
   refine ih (k :: before) _ fuel a' w' (hL.step hk (fun j => ?_)) hf.2 hnd.2 (fun j hj => hlt j (List.mem_cons_of_mem _ hj)) ⟨k :: done, htop.2, ?_⟩ (by simp at hfu; omega) h'
   ·constructor
    ·intro hj; exact ⟨List.mem_cons_of_mem _ hj, fun e => hxn (e ▸ hj)⟩
    ·rintro ⟨hj, hne⟩
     cases hj with
     | head => exact absurd rfl hne
     | tail _ hj => exact hj
   ·intro e he
    cases he with
    | head => simp [Array.getD_eq_getD_getElem?, hL.size, hx]
    | tail _ he =>
     have := hdone e he
     by_cases hek : e = k
     ·subst hek; simp [Array.getD_eq_getD_getElem?, hL.size, hx]
     ·simpa [Array.getD_eq_getD_getElem?, Array.getElem?_setIfInBounds_ne (Ne.symm hek)] using this
theorem Zw {A : List Nat} : ∀ {L C : List Nat}, Ly tn pn ops A (L ++ k :: C) = true → ∀ i, i ∈ L → B5n tn pn ops A i k = true
 | [], _, _, i, hi => by cases hi
 | j :: L, C, h, i, hi => by
  simp only [List.cons_append, Ly, Bool.and_eq_true] at h
  cases hi with
  | head => exact List.all_eq_true.1 h.1 k (List.mem_append_right _ List.mem_cons_self)
  | tail _ hi => exact Zw h.2 i hi
theorem Xv {A : List Nat} : ∀ {L C : List Nat}, Ly tn pn ops A (L ++ k :: C) = true → Ly tn pn ops A (L ++ C) = true
 | [], _, h => by simp only [List.nil_append, Ly, Bool.and_eq_true] at h; exact h.2
 | j :: L, C, h => by
  simp only [List.cons_append, Ly, Bool.and_eq_true] at h ⊢
  refine ⟨List.all_eq_true.2 fun x hx => List.all_eq_true.1 h.1 x ?_, Xv h.2⟩
  rcases List.mem_append.1 hx with hx | hx
  ·exact List.mem_append_left _ hx
  ·exact List.mem_append_right _ (List.mem_cons_of_mem _ hx)
theorem Xn : ∀ {l done done' : List Nat}, K4 ops done l = true → (∀ e, e ∈ done → e ∈ done') → K4 ops done' l = true
 | [], _, _, _, _ => rfl
 | i :: l, done, done', h, hs => by
  simp only [K4, Bool.and_eq_true] at h ⊢
  refine ⟨?_, Xn h.2 (fun e he => ?_)⟩
  ·cases ho : ops[i]? with
   | none => rw [ho] at h; simp at h
   | some o =>
    rw [ho] at h
    simp only at h ⊢
    refine List.all_eq_true.2 fun e he => ?_
    have := List.all_eq_true.1 h.1 e he
    simp only [List.contains_iff_mem] at this ⊢
    exact hs e this
  ·cases he with
   | head => exact List.mem_cons_self
   | tail _ he => exact List.mem_cons_of_mem _ (hs e he)
theorem Zc : ∀ {L C done : List Nat}, K4 ops done (L ++ k :: C) = true → K4 ops (k :: done) (L ++ C) = true
 | [], C, done, h => by
  simp only [List.nil_append, K4, Bool.and_eq_true] at h
  exact h.2
 | j :: L, C, done, h => by
  simp only [List.cons_append, K4, Bool.and_eq_true] at h ⊢
  refine ⟨?_, Xn (Zc h.2) (fun e he => ?_)⟩
  ·cases ho : ops[j]? with
   | none => rw [ho] at h; simp at h
   | some o =>
    rw [ho] at h
    simp only at h ⊢
    refine List.all_eq_true.2 fun e he => ?_
    have := List.all_eq_true.1 h.1 e he
    simp only [List.contains_iff_mem] at this ⊢
    exact List.mem_cons_of_mem _ this
  ·cases he with
   | head => exact List.mem_cons_of_mem _ List.mem_cons_self
   | tail _ he => cases he with
    | head => exact List.mem_cons_self
    | tail _ he => exact List.mem_cons_of_mem _ (List.mem_cons_of_mem _ he)
theorem Vw {A : List Nat} : ∀ {fin b : List Nat}, Qc A b fin = true → ∀ x, x ∈ fin → ∀ y, y ∈ b → (A.getD x 0).testBit y = true
 | [], _, _, x, hx, _, _ => by cases hx
 | z :: fin, b, h, x, hx, y, hy => by
  simp only [Qc, Bool.and_eq_true] at h
  cases hx with
  | head => exact List.all_eq_true.1 h.1 y hy
  | tail _ hx => exact Vw h.2 x hx y (List.mem_cons_of_mem _ hy)
theorem A1h {A : List Nat} : ∀ {fin b b' : List Nat}, Qc A b fin = true → (∀ y, y ∈ b' → y ∈ b) → Qc A b' fin = true
 | [], _, _, _, _ => rfl
 | z :: fin, b, b', h, hs => by
  simp only [Qc, Bool.and_eq_true] at h ⊢
  refine ⟨List.all_eq_true.2 fun y hy => List.all_eq_true.1 h.1 y (hs y hy), A1h h.2 fun y hy => ?_⟩
  cases hy with
  | head => exact List.mem_cons_self
  | tail _ hy => exact List.mem_cons_of_mem _ (hs y hy)
theorem Pn : ∀ {l : List Nat}, Tt l = true ↔ l.Nodup
 | [] => by simp [Tt]
 | i :: l => by simp only [Tt, Bool.and_eq_true, Pn (l := l), List.nodup_cons]; simp
theorem D8x {A : List Nat} (hA : C0p ops A = true) : ∀ (m : Nat) (l : List Nat) (listed : Array Bool) (fuel : Nat) (a : Act) (w : World) (σ : Nat → Value) (Γ : List Fact) (Ms : List Bm), l.length ≤ m → NV tn pn P f R B n K ops fin l σ Γ Ms → Rel n a σ → St B Γ Ms w →
  Q3 ops listed (l ++ fin) → Ly tn pn ops A l = true → Qc A l fin = true → (l ++ fin).Nodup → (∀ j, j ∈ l ++ fin → j < ops.size) → (∃ done, K4 ops done (l ++ fin) = true ∧ ∀ e, e ∈ done → listed.getD e false = true) → (l ++ fin).length ≤ fuel →
  wpAny P .any ops (QK P f R n K) fuel listed a w := by
 intro m
 induction m with
 | zero =>
  intro l listed fuel a w σ Γ Ms hm h hr hs hL hp hf hnd hlt htop hfu
  have hl : l = [] := List.eq_nil_of_length_eq_zero (Nat.le_zero.1 hm)
  subst hl
  cases h with
  | no h => exact absurd ⟨w, hs⟩ h
  | done h => exact A3h hA fin [] listed fuel a w hL hf (Pn.2 hnd) hlt htop hfu (h a w hr hs)
 | succ m ih =>
  intro l listed fuel a w σ Γ Ms hm h hr hs hL hp hf hnd hlt htop hfu
  cases l with
  | nil =>
   cases h with
   | no h => exact absurd ⟨w, hs⟩ h
   | done h => exact A3h hA fin [] listed fuel a w hL hf (Pn.2 hnd) hlt htop hfu (h a w hr hs)
  | cons y l' =>
   obtain ⟨done, htop, hdone⟩ := htop
   have hy : y < ops.size := hlt y D6
   have htop1 := htop
   simp only [List.cons_append, K4, Bool.and_eq_true] at htop1
   have hoy : ops[y]? = some ops[y] := by simp [hy]
   rw [hoy] at htop1
   have hry : y ∈ Region.ready .any ops listed := M6.2 ⟨hy, (hL.iff y hy).2 D6, _, hoy, fun e he => hdone e (by simpa using List.all_eq_true.1 htop1.1 e he)⟩
   cases fuel with
   | zero => simp at hfu
   | succ fuel =>
    refine ⟨fun hn => (by rw [hn] at hry; cases hry), fun k hk => ?_⟩
    obtain ⟨hk1, hk2, o, ho, hk3⟩ := M6.1 hk
    have hkm := (hL.iff k hk1).1 hk2
    have hkdep : ∀ o', ops[k]? = some o' → ∀ e, e ∈ Xf o' → listed.getD e false = true := fun o' ho' e he => by rw [ho] at ho'; injection ho' with ho'; subst ho'; exact hk3 e he
    have hkl : k ∈ y :: l' := by
     rcases List.mem_append.1 hkm with hkm | hkm
     ·exact hkm
     ·exact (hL.A7t hy D6 (U3 hA hL k k (Nat.le_refl _) hk1 hkdep y hy (Vw hf k hkm y List.mem_cons_self))).elim
    obtain ⟨L, C, hLC⟩ := List.append_of_mem hkl
    rw [hLC] at h hp hf hnd hlt htop hm hL hfu
    have hpair : ∀ i, i ∈ L → ∃ oi ok, U4 pn ops i oi ∧ ops[k]? = some ok ∧ Oper.apart ops oi ok = true ∧ ((!H8 oi.op || Jt ok.op) = true ∨ (A2h oi.op = true ∧ Nat.beq pn k = true)) ∧ ((!(I1 ok.op && (H8 oi.op || I1 oi.op || (!tn && !Jt oi.op)))) = true ∧ (!(I1 oi.op && !Jt ok.op && (!tn || H8 ok.op))) = true) ∧ Gu oi.op = true ∧ Gu ok.op = true ∧ B9m tn oi.op ok.op = true ∧ C3v pn k oi.op ok.op = true := by
     intro i hi
     have hil : i < ops.size := hlt i (by simp [hi])
     have h1 := Zw hp i hi
     unfold B5n at h1
     rw [Bool.or_eq_true] at h1
     rcases h1 with h1 | h1
     ·exact (hL.A7t hil (by simp [hi]) (U3 hA hL k k (Nat.le_refl _) hk1 hkdep i hil h1)).elim
     ·have hoi : ops[i]? = some ops[i] := by simp [hil]
      rw [hoi, ho] at h1
      simp only [Bool.and_eq_true] at h1
      exact ⟨_, _, ⟨hoi, by have h9 := h1.1.1.1.1.1.1.1; simpa using h9⟩, ho, h1.1.1.1.1.1.1.2, by have h9 := h1.1.1.1.1.1.2; simp only [Bool.or_eq_true, Bool.and_eq_true] at h9 ⊢; exact h9, h1.1.1.1.1.2, h1.1.1.1.2, h1.1.1.2, h1.1.2, h1.2⟩
    have h' := NV.front hpair h
    have hknd : k ∉ L ++ C ++ fin := by
     have : (L ++ k :: (C ++ fin)).Nodup := by simpa using hnd
     have := (List.perm_middle.nodup_iff.1 this)
     simpa using (List.nodup_cons.1 this).1
    have hL' : Q3 ops (listed.setIfInBounds k true) (L ++ C ++ fin) := hL.step hk (fun j => by
     constructor
     ·intro hj
      refine ⟨?_, fun e => hknd (e ▸ hj)⟩
      simp only [List.mem_append, List.mem_cons] at hj ⊢
      rcases hj with (hj | hj) | hj
      ·exact .inl (.inl hj)
      ·exact .inl (.inr (.inr hj))
      ·exact .inr hj
     ·rintro ⟨hj, hne⟩
      simp only [List.mem_append, List.mem_cons] at hj ⊢
      rcases hj with (hj | hj | hj) | hj
      ·exact .inl (.inl hj)
      ·exact absurd hj hne
      ·exact .inl (.inr hj)
      ·exact .inr hj)
    have next : ∀ (a' : Act) (w' : World) (σ' : Nat → Value) (Γ' : List Fact) (Ms' : List Bm), NV tn pn P f R B n K ops fin (L ++ C) σ' Γ' Ms' → Rel n a' σ' → St B Γ' Ms' w' → wpAny P .any ops (QK P f R n K) fuel (listed.setIfInBounds k true) a' w' := by
     intro a' w' σ' Γ' Ms' hN hr' hs'
     refine ih (L ++ C) _ fuel a' w' σ' Γ' Ms' ?_ hN hr' hs' hL' (Xv hp) (A1h hf (fun z hz => ?_)) ?_ (fun j hj => hlt j ?_) ⟨k :: done, ?_, ?_⟩ ?_
     ·simp at hm ⊢; omega
     ·rcases List.mem_append.1 hz with hz | hz
      ·exact List.mem_append_left _ hz
      ·exact List.mem_append_right _ (List.mem_cons_of_mem _ hz)
     ·have : (L ++ k :: (C ++ fin)).Nodup := by simpa using hnd
      have := (List.nodup_cons.1 (List.perm_middle.nodup_iff.1 this)).2
      simpa using this
     ·simp only [List.mem_append, List.mem_cons] at hj ⊢
      rcases hj with (hj | hj) | hj
      ·exact .inl (.inl hj)
      ·exact .inl (.inr (.inr hj))
      ·exact .inr hj
     ·have : K4 ops done (L ++ k :: (C ++ fin)) = true := by simpa using htop
      have := Zc this
      simpa using this
     ·intro e he
      cases he with
      | head => simp [Array.getD_eq_getD_getElem?, hL.size, hk1]
      | tail _ he =>
       have := hdone e he
       by_cases hek : e = k
       ·subst hek; simp [Array.getD_eq_getD_getElem?, hL.size, hk1]
       ·simpa [Array.getD_eq_getD_getElem?, Array.getElem?_setIfInBounds_ne (Ne.symm hek)] using this
     ·simp at hfu ⊢; omega
    unfold wpOp
    cases h' with
    | no h => exact absurd ⟨w, hs⟩ h
    | pure ho2 hw hd h kk =>
     simp only [ho2.1, hr.want, hw, if_true]
     refine .inl ?_
     unfold Oper.wp
     rw [hr.eval, h w]
     exact next _ _ _ _ _ kk (hr.put hd _) hs
    | loadF ho2 hm hw hd h kk =>
     simp only [ho2.1, hr.want, hw, if_true]
     refine .inl ?_
     unfold Oper.wp
     rw [hr.eval, h w (St.Np (A := Ms) (Ms := []) (by rw [List.append_nil]; exact hs))]
     exact next _ _ _ _ _ kk (hr.put hd _) hs
    | Er ht ho2 hb hw hd hp h kk =>
     simp only [ho2.1, hr.want, hw, if_true]
     refine .inl ?_
     unfold Oper.wp
     obtain ⟨x, w', hrun, hs'⟩ := h _ w (hs.perm hp)
     rw [hr.eval, hrun]
     exact next _ _ _ _ _ (kk x) (hr.put hd _) hs'
    | pan ht ho2 hq hg hm hw he hsp hpre hR =>
     simp only [ho2, hr.want, hw, if_true]
     refine .inl ?_
     unfold Oper.wp
     rw [hr.eval, he]
     have hs' : St B Γ ([] ++ Ms) w := hs
     refine (hsp (Pm B ([] ++ Ms) w) w (fun b hb => ⟨hb.2.1, I7 b⟩) (hs'.hand hpre)).mono ?_
     rintro e w' ⟨rfl, hx⟩
     refine ⟨hR.1.1.imp id (fun h => ⟨h, hr.defs.trans hR.1.2⟩), fun fn hfn => ?_⟩
     rw [hr.defs, hR.1.2]
     exact hR.2 w' (((hs'.frame hx).less (fun F hF => by cases hF) : St B [] ([] ++ Ms) w') |> fun h => St.Np (A := Ms) (Ms := []) (by simpa using h))
    | sto ho2 hb hw hd hp h kk =>
     simp only [ho2.1, hr.want, hw, if_true]
     refine .inl ?_
     unfold Oper.wp
     obtain ⟨w', hrun, hs'⟩ := h _ w (hs.perm hp)
     rw [hr.eval, hrun]
     simp only [Oper.upon, hd]
     exact next _ _ _ _ _ kk hr hs'
    | load ht ho2 hm hw hd h kk =>
     simp only [ho2.1, hr.want, hw, if_true]
     refine .inl ?_
     unfold Oper.wp
     rw [hr.eval, h w hs]
     exact next _ _ _ _ _ kk (hr.put hd _) hs
    | off ho2 hw hd kk =>
     simp only [ho2.1, hr.want, hw, Bool.false_eq_true, if_false]
     exact next _ _ _ _ _ kk (hr.put hd _) hs
    | alloc ho2 hg hw hd h kk =>
     simp only [ho2.1, hr.want, hw, if_true]
     refine .inl ?_
     unfold Oper.wp
     rw [hr.eval, h w]
     exact next _ _ _ _ _ (kk _) (hr.put hd _) (hs.alloc _ _)
    | allocF hz ho2 hg hgm hw hd h hF kk =>
     simp only [ho2.1, hr.want, hw, if_true]
     refine .inl ?_
     unfold Oper.wp
     rw [hr.eval, h w]
     exact next _ _ _ _ _ (kk _) (hr.put hd _) (hF _ _ _ (hs.alloc _ _))
    | call ht ho2 hg hm hw hd he hsp hpre kk =>
     simp only [ho2.1, hr.want, hw, if_true]
     refine .inl ?_
     unfold Oper.wp
     rw [hr.eval, he]
     have hs' : St B Γ ([] ++ Ms) w := hs
     refine (hsp (Pm B ([] ++ Ms) w) w (fun b hb => ⟨hb.2.1, I7 b⟩) (hs'.hand hpre)).mono ?_
     rintro e w' ⟨x, rfl, hx⟩
     exact next _ _ _ _ _ (kk x) (hr.put hd _) (hs'.frame hx)
theorem Bl {id : Nat} {A : List Nat} (hm : P.follows .mixedOrders = true) (hfn : ∃ fn, P.funcs[f]? = some fn) (hok : B8y tn pn ops A l fin = true) (h : NV tn pn P f R B n K ops fin l σ Γ Ms) : Fa P f R B n (.code (.region id ops true) :: K) σ Γ Ms := by
 intro a w hr hs
 simp only [B8y, Bool.and_eq_true, beq_iff_eq] at hok
 obtain ⟨⟨⟨⟨⟨⟨⟨h1, h2⟩, h3⟩, h4⟩, h5⟩, h6⟩, h7⟩, h8⟩ := hok
 have hlt : ∀ j, j ∈ l ++ fin → j < ops.size := fun j hj => by simpa using List.all_eq_true.1 h7 j hj
 have hnd := Pn.1 h5
 have hall : ∀ j, j < ops.size → j ∈ l ++ fin := by
  intro j hj
  simpa using List.all_eq_true.1 h8 j (List.mem_range.2 hj)
 have hany : wpAny P .any ops (QK P f R n K) ops.size (Array.replicate ops.size false) a { w with drawn := w.drawn + 1 } := by
  refine D8x h1 l.length l _ _ a _ σ Γ Ms (Nat.le_refl _) h hr (hs.draw _) ⟨by simp, ?_, ?_⟩ h2 h4 hnd hlt ⟨[], h3, fun e he => by cases he⟩ (by rw [h6]; exact Nat.le_refl _)
  ·intro j hj
   simp [Array.getD_eq_getD_getElem?, hj]
   simpa using hall j hj
  ·intro j o ho hj
   have := (Array.getElem?_eq_some_iff.1 ho).1
   simp [Array.getD_eq_getD_getElem?, this] at hj
 intro b cs hb hk
 have hops : wpOps P ops (QK P f R n K) (Region.schedule (P.follows .mixedOrders) ops (w.tape w.drawn (.order b.fn id))) a { w with drawn := w.drawn + 1 } := by
  simp only [Region.schedule, hm, Bool.true_or, if_true]
  exact wpAny_sound ops.size _ _ a _ hany
 obtain ⟨e, w', fr, hR, hc, hf, hl⟩ := A3g hfn hops b cs hb hk
 exact ⟨e, w', fr, hR, hc.of_steps (.one step_region_draw), hf, hl⟩
end
end Go.Hy
namespace Go.Hy
structure Cl where
 pos : Nat
 neg : Nat
deriving DecidableEq
mutual
inductive T where
 | mk (kind n : Int) (name : ByteArray) (r : List Cl) (kids : List T) (sys : List Br)
inductive Br where
 | mk (B9 : List Cl) (kids : List T)
end
namespace T
def kind : T → Int | .mk k _ _ _ _ _ => k
def n : T → Int | .mk _ n _ _ _ _ => n
def name : T → ByteArray | .mk _ _ nm _ _ _ => nm
def r : T → List Cl | .mk _ _ _ r _ _ => r
def kids : T → List T | .mk _ _ _ _ ks _ => ks
def sys : T → List Br | .mk _ _ _ _ _ s => s
end T
namespace Br
def B9 : Br → List Cl | .mk f _ => f
def kids : Br → List T | .mk _ ks => ks
end Br
def Gl : Nat := 140737488355328
def reach : Nat := 140737488351232
def As (n : Int) : Prop := -9223372036854775808 ≤ n ∧ n ≤ 9223372036854775807
def Q0 (ok : Nat → Prop) (b o : Nat) (cs : List Value) (w : World) : Prop := ok b ∧ ∀ j v, cs[j]? = some v → w.cell? ⟨b, o + j, none⟩ = some v
theorem Q0.mono {ok ok' : Nat → Prop} {b o : Nat} {cs : List Value} {w : World} (hs : ∀ b, ok b → ok' b) (h : Q0 ok b o cs w) : Q0 ok' b o cs w := ⟨hs b h.1, h.2⟩
theorem T5 {w w' : World} {b o : Nat} (h : w'.heap[b]? = w.heap[b]?) : w'.cell? ⟨b, o, none⟩ = w.cell? ⟨b, o, none⟩ := by
 simp only [World.cell?, h]
theorem Q0.loc {ok : Nat → Prop} {b o : Nat} {cs : List Value} {w w' : World} (h : Q0 ok b o cs w) (hs : ∀ b, ok b → w'.heap[b]? = w.heap[b]?) : Q0 ok b o cs w' :=
 ⟨h.1, fun j v hj => (T5 (hs b h.1)).trans (h.2 j v hj)⟩
def At (b o : Nat) (cs : List Value) : Fact := ⟨fun ok w => Q0 ok b o cs w, fun _ _ _ hs h => h.mono hs, fun _ _ _ h hs => h.loc hs⟩
abbrev SH := Option Addr × Nat
def sl (a : SH) (n : Nat) : Value := .slice a.1 n a.2
def rowAt (ok : Nat → Prop) (sz bt n : Nat) (a : SH) (E : Nat → List Value) (w : World) : Prop :=
 n ≤ a.2 ∧ n * bt ≤ reach ∧ (0 < n → ∃ b o, a.1 = some ⟨b, o, none⟩ ∧ ok b ∧ ∀ i, i < n → ∀ j v, (E i)[j]? = some v → w.cell? ⟨b, o + i * sz + j, none⟩ = some v)
theorem rowAt.mono {ok ok' : Nat → Prop} {sz bt n : Nat} {a : SH} {E : Nat → List Value} {w : World} (hs : ∀ b, ok b → ok' b) (h : rowAt ok sz bt n a E w) : rowAt ok' sz bt n a E w :=
 ⟨h.1, h.2.1, fun hn => by obtain ⟨b, o, h1, h2, h3⟩ := h.2.2 hn; exact ⟨b, o, h1, hs b h2, h3⟩⟩
theorem rowAt.loc {ok : Nat → Prop} {sz bt n : Nat} {a : SH} {E : Nat → List Value} {w w' : World} (h : rowAt ok sz bt n a E w) (hs : ∀ b, ok b → w'.heap[b]? = w.heap[b]?) : rowAt ok sz bt n a E w' :=
 ⟨h.1, h.2.1, fun hn => by obtain ⟨b, o, h1, h2, h3⟩ := h.2.2 hn; exact ⟨b, o, h1, h2, fun i hi j v hv => (T5 (hs b h2)).trans (h3 i hi j v hv)⟩⟩
def Aw (c : Cl) : List Value := [.int .u32 c.pos, .int .u32 c.neg]
def u32 (c : Cl) : Prop := c.pos < 4294967296 ∧ c.neg < 4294967296
def B1 : Cl := ⟨0, 0⟩
def Kd (ok : Nat → Prop) (l : List Cl) (a : SH) (w : World) : Prop := rowAt ok 2 8 l.length a (fun i => Aw (l.getD i B1)) w ∧ ∀ c, c ∈ l → u32 c
theorem Kd.mono {ok ok' : Nat → Prop} {l : List Cl} {a : SH} {w : World} (hs : ∀ b, ok b → ok' b) (h : Kd ok l a w) : Kd ok' l a w := ⟨h.1.mono hs, h.2⟩
theorem Kd.loc {ok : Nat → Prop} {l : List Cl} {a : SH} {w w' : World} (h : Kd ok l a w) (hs : ∀ b, ok b → w'.heap[b]? = w.heap[b]?) : Kd ok l a w' := ⟨h.1.loc hs, h.2⟩
def CL (l : List Cl) (a : SH) : Fact := ⟨fun ok w => Kd ok l a w, fun _ _ _ hs h => h.mono hs, fun _ _ _ h hs => h.loc hs⟩
def tc (t : T) (vr vk vs : SH) : List Value := [.int .i64 t.kind, .int .i64 t.n, .string t.name, sl vr t.r.length, sl vk t.kids.length, sl vs t.sys.length]
def bc (b : Br) (vf vk : SH) : List Value := [sl vf b.B9.length, sl vk b.kids.length]
def t0 : T := .mk 0 0 ⟨#[]⟩ [] [] []
def Bk : Br := .mk [] []
mutual
def G1 (ok : Nat → Prop) : T → SH → SH → SH → World → Prop
 | .mk k n nm r ks ss, vr, vk, vs, w => As k ∧ As n ∧ nm.size ≤ Gl ∧ Kd ok r vr w ∧
   (∃ VR VK VS, rowAt ok 6 104 ks.length vk (fun i => tc (ks.getD i t0) (VR i) (VK i) (VS i)) w ∧ Gf ok ks VR VK VS w) ∧
   (∃ VF VK, rowAt ok 2 48 ss.length vs (fun i => bc (ss.getD i Bk) (VF i) (VK i)) w ∧ H9 ok ss VF VK w)
def Gf (ok : Nat → Prop) : List T → (Nat → SH) → (Nat → SH) → (Nat → SH) → World → Prop
 | [], _, _, _, _ => True
 | t :: ts, VR, VK, VS, w => G1 ok t (VR 0) (VK 0) (VS 0) w ∧ Gf ok ts (fun i => VR (i + 1)) (fun i => VK (i + 1)) (fun i => VS (i + 1)) w
def O2 (ok : Nat → Prop) : Br → SH → SH → World → Prop
 | .mk f ks, vf, vk, w => Kd ok f vf w ∧ (∃ VR VK VS, rowAt ok 6 104 ks.length vk (fun i => tc (ks.getD i t0) (VR i) (VK i) (VS i)) w ∧ Gf ok ks VR VK VS w)
def H9 (ok : Nat → Prop) : List Br → (Nat → SH) → (Nat → SH) → World → Prop
 | [], _, _, _ => True
 | b :: bs, VF, VK, w => O2 ok b (VF 0) (VK 0) w ∧ H9 ok bs (fun i => VF (i + 1)) (fun i => VK (i + 1)) w
end
mutual
theorem G1.mono {ok ok' : Nat → Prop} {w : World} (hs : ∀ b, ok b → ok' b) : ∀ {t : T} {vr vk vs : SH}, G1 ok t vr vk vs w → G1 ok' t vr vk vs w
 | .mk k n nm r ks ss, vr, vk, vs, h => by
  simp only [G1] at h ⊢
  obtain ⟨h1, h2, h3, h4, ⟨VR, VK, VS, h6, h7⟩, ⟨VF, VK', h9, h10⟩⟩ := h
  exact ⟨h1, h2, h3, h4.mono hs, ⟨VR, VK, VS, h6.mono hs, Gf.mono hs h7⟩, ⟨VF, VK', h9.mono hs, H9.mono hs h10⟩⟩
theorem Gf.mono {ok ok' : Nat → Prop} {w : World} (hs : ∀ b, ok b → ok' b) : ∀ {ts : List T} {VR VK VS : Nat → SH}, Gf ok ts VR VK VS w → Gf ok' ts VR VK VS w
 | [], _, _, _, _ => by simp only [Gf]
 | t :: ts, _, _, _, h => by
  simp only [Gf] at h ⊢
  exact ⟨G1.mono hs h.1, Gf.mono hs h.2⟩
theorem O2.mono {ok ok' : Nat → Prop} {w : World} (hs : ∀ b, ok b → ok' b) : ∀ {b : Br} {vf vk : SH}, O2 ok b vf vk w → O2 ok' b vf vk w
 | .mk f ks, vf, vk, h => by
  simp only [O2] at h ⊢
  obtain ⟨h4, ⟨VR, VK, VS, h6, h7⟩⟩ := h
  exact ⟨h4.mono hs, ⟨VR, VK, VS, h6.mono hs, Gf.mono hs h7⟩⟩
theorem H9.mono {ok ok' : Nat → Prop} {w : World} (hs : ∀ b, ok b → ok' b) : ∀ {bs : List Br} {VF VK : Nat → SH}, H9 ok bs VF VK w → H9 ok' bs VF VK w
 | [], _, _, _ => by simp only [H9]
 | b :: bs, _, _, h => by
  simp only [H9] at h ⊢
  exact ⟨O2.mono hs h.1, H9.mono hs h.2⟩
end
mutual
theorem G1.loc {ok : Nat → Prop} {w w' : World} (hs : ∀ b, ok b → w'.heap[b]? = w.heap[b]?) : ∀ {t : T} {vr vk vs : SH}, G1 ok t vr vk vs w → G1 ok t vr vk vs w'
 | .mk k n nm r ks ss, vr, vk, vs, h => by
  simp only [G1] at h ⊢
  obtain ⟨h1, h2, h3, h4, ⟨VR, VK, VS, h6, h7⟩, ⟨VF, VK', h9, h10⟩⟩ := h
  exact ⟨h1, h2, h3, h4.loc hs, ⟨VR, VK, VS, h6.loc hs, Gf.loc hs h7⟩, ⟨VF, VK', h9.loc hs, H9.loc hs h10⟩⟩
theorem Gf.loc {ok : Nat → Prop} {w w' : World} (hs : ∀ b, ok b → w'.heap[b]? = w.heap[b]?) : ∀ {ts : List T} {VR VK VS : Nat → SH}, Gf ok ts VR VK VS w → Gf ok ts VR VK VS w'
 | [], _, _, _, _ => by simp only [Gf]
 | t :: ts, _, _, _, h => by
  simp only [Gf] at h ⊢
  exact ⟨G1.loc hs h.1, Gf.loc hs h.2⟩
theorem O2.loc {ok : Nat → Prop} {w w' : World} (hs : ∀ b, ok b → w'.heap[b]? = w.heap[b]?) : ∀ {b : Br} {vf vk : SH}, O2 ok b vf vk w → O2 ok b vf vk w'
 | .mk f ks, vf, vk, h => by
  simp only [O2] at h ⊢
  obtain ⟨h4, ⟨VR, VK, VS, h6, h7⟩⟩ := h
  exact ⟨h4.loc hs, ⟨VR, VK, VS, h6.loc hs, Gf.loc hs h7⟩⟩
theorem H9.loc {ok : Nat → Prop} {w w' : World} (hs : ∀ b, ok b → w'.heap[b]? = w.heap[b]?) : ∀ {bs : List Br} {VF VK : Nat → SH}, H9 ok bs VF VK w → H9 ok bs VF VK w'
 | [], _, _, _ => by simp only [H9]
 | b :: bs, _, _, h => by
  simp only [H9] at h ⊢
  exact ⟨O2.loc hs h.1, H9.loc hs h.2⟩
end
def RT (t : T) (vr vk vs : SH) : Fact := ⟨fun ok w => G1 ok t vr vk vs w, fun _ _ _ hs h => h.mono hs, fun _ _ _ h hs => h.loc hs⟩
def D5f (ok : Nat → Prop) (ts : List T) (a : SH) (VR VK VS : Nat → SH) (w : World) : Prop := rowAt ok 6 104 ts.length a (fun i => tc (ts.getD i t0) (VR i) (VK i) (VS i)) w ∧ Gf ok ts VR VK VS w
def TLx (ts : List T) (a : SH) (VR VK VS : Nat → SH) : Fact := ⟨fun ok w => D5f ok ts a VR VK VS w, fun _ _ _ hs h => ⟨h.1.mono hs, h.2.mono hs⟩, fun _ _ _ h hs => ⟨h.1.loc hs, h.2.loc hs⟩⟩
def A9l (ok : Nat → Prop) (ts : List T) (a : SH) (w : World) : Prop := ∃ VR VK VS, D5f ok ts a VR VK VS w
def TL (ts : List T) (a : SH) : Fact := ⟨fun ok w => A9l ok ts a w, fun _ _ _ hs ⟨VR, VK, VS, h2⟩ => ⟨VR, VK, VS, h2.1.mono hs, h2.2.mono hs⟩, fun _ _ _ ⟨VR, VK, VS, h2⟩ hs => ⟨VR, VK, VS, h2.1.loc hs, h2.2.loc hs⟩⟩
def D6i (ok : Nat → Prop) (bs : List Br) (a : SH) (VF VK : Nat → SH) (w : World) : Prop := rowAt ok 2 48 bs.length a (fun i => bc (bs.getD i Bk) (VF i) (VK i)) w ∧ H9 ok bs VF VK w
def Yq (bs : List Br) (a : SH) (VF VK : Nat → SH) : Fact := ⟨fun ok w => D6i ok bs a VF VK w, fun _ _ _ hs h => ⟨h.1.mono hs, h.2.mono hs⟩, fun _ _ _ h hs => ⟨h.1.loc hs, h.2.loc hs⟩⟩
def D0w (ok : Nat → Prop) (bs : List Br) (a : SH) (w : World) : Prop := ∃ VF VK, D6i ok bs a VF VK w
def BL (bs : List Br) (a : SH) : Fact := ⟨fun ok w => D0w ok bs a w, fun _ _ _ hs ⟨VF, VK, h2⟩ => ⟨VF, VK, h2.1.mono hs, h2.2.mono hs⟩, fun _ _ _ ⟨VF, VK, h2⟩ hs => ⟨VF, VK, h2.1.loc hs, h2.2.loc hs⟩⟩
theorem A6e {ok : Nat → Prop} {w : World} : ∀ {ts : List T} {VR VK VS : Nat → SH} {i : Nat} {t : T}, Gf ok ts VR VK VS w → ts[i]? = some t → G1 ok t (VR i) (VK i) (VS i) w
 | [], _, _, _, _, _, _, h => by simp at h
 | t :: ts, _, _, _, 0, u, h, hi => by
  simp only [Gf] at h
  simp at hi
  subst hi
  exact h.1
 | t :: ts, VR, VK, VS, i + 1, u, h, hi => by
  simp only [Gf] at h
  exact A6e (VR := fun i => VR (i + 1)) (VK := fun i => VK (i + 1)) (VS := fun i => VS (i + 1)) h.2 (by simpa using hi)
theorem A5z {ok : Nat → Prop} {w : World} : ∀ {bs : List Br} {VF VK : Nat → SH} {i : Nat} {b : Br}, H9 ok bs VF VK w → bs[i]? = some b → O2 ok b (VF i) (VK i) w
 | [], _, _, _, _, _, h => by simp at h
 | b :: bs, _, _, 0, u, h, hi => by
  simp only [H9] at h
  simp at hi
  subst hi
  exact h.1
 | b :: bs, VF, VK, i + 1, u, h, hi => by
  simp only [H9] at h
  exact A5z (VF := fun i => VF (i + 1)) (VK := fun i => VK (i + 1)) h.2 (by simpa using hi)
theorem A2i {ok : Nat → Prop} {w : World} : ∀ {ts : List T} {VR VK VS : Nat → SH}, (∀ i t, ts[i]? = some t → G1 ok t (VR i) (VK i) (VS i) w) → Gf ok ts VR VK VS w
 | [], _, _, _, _ => by simp only [Gf]
 | t :: ts, _, _, _, h => by
  simp only [Gf]
  exact ⟨h 0 t rfl, A2i fun i u hi => h (i + 1) u (by simpa using hi)⟩
theorem A1x {ok : Nat → Prop} {w : World} : ∀ {bs : List Br} {VF VK : Nat → SH}, (∀ i b, bs[i]? = some b → O2 ok b (VF i) (VK i) w) → H9 ok bs VF VK w
 | [], _, _, _ => by simp only [H9]
 | b :: bs, _, _, h => by
  simp only [H9]
  exact ⟨h 0 b rfl, A1x fun i u hi => h (i + 1) u (by simpa using hi)⟩
theorem A6q {ok : Nat → Prop} {t : T} {vr vk vs : SH} {w : World} (h : G1 ok t vr vk vs w) : As t.kind ∧ As t.n ∧ t.name.size ≤ Gl ∧ Kd ok t.r vr w ∧ A9l ok t.kids vk w ∧ D0w ok t.sys vs w := by
 cases t with
 | mk k n nm r ks ss =>
  simp only [G1] at h
  obtain ⟨h1, h2, h3, h4, ⟨VR, VK, VS, h6, h7⟩, ⟨VF, VK', h9, h10⟩⟩ := h
  exact ⟨h1, h2, h3, h4, ⟨VR, VK, VS, h6, h7⟩, ⟨VF, VK', h9, h10⟩⟩
theorem A3v {ok : Nat → Prop} {k n : Int} {nm : ByteArray} {r : List Cl} {ks : List T} {ss : List Br} {vr vk vs : SH} {w : World} (h1 : As k) (h2 : As n) (h3 : nm.size ≤ Gl) (h4 : Kd ok r vr w) (h5 : A9l ok ks vk w) (h6 : D0w ok ss vs w) : G1 ok (.mk k n nm r ks ss) vr vk vs w := by
 simp only [G1]
 obtain ⟨VR, VK, VS, h6', h7⟩ := h5
 obtain ⟨VF, VK', h9, h10⟩ := h6
 exact ⟨h1, h2, h3, h4, ⟨VR, VK, VS, h6', h7⟩, ⟨VF, VK', h9, h10⟩⟩
theorem B7g {ok : Nat → Prop} {b : Br} {vf vk : SH} {w : World} (h : O2 ok b vf vk w) : Kd ok b.B9 vf w ∧ A9l ok b.kids vk w := by
 cases b with
 | mk f ks =>
  simp only [O2] at h
  obtain ⟨h4, ⟨VR, VK, VS, h6, h7⟩⟩ := h
  exact ⟨h4, VR, VK, VS, h6, h7⟩
theorem C0l {ok : Nat → Prop} {f : List Cl} {ks : List T} {vf vk : SH} {w : World} (h4 : Kd ok f vf w) (h5 : A9l ok ks vk w) : O2 ok (.mk f ks) vf vk w := by
 simp only [O2]
 obtain ⟨VR, VK, VS, h6', h7⟩ := h5
 exact ⟨h4, VR, VK, VS, h6', h7⟩
theorem ma0_ {α : Type} {x : α} {l : List α} {q : Prop} (h : x ∈ l ∧ q := by first | exact ⟨List.Mem.head _, by assumption⟩ | exact ⟨Cy (List.Mem.head _), by assumption⟩ | exact ⟨Cy (Cy (List.Mem.head _)), by assumption⟩ | exact ⟨Cy (Cy (Cy (List.Mem.head _))), by assumption⟩ | exact ⟨Cy (Cy (Cy (Cy (List.Mem.head _)))), by assumption⟩ | exact ⟨Cy (Cy (Cy (Cy (Cy (List.Mem.head _))))), by assumption⟩ | exact ⟨Cy (Cy (Cy (Cy (Cy (Cy (List.Mem.head _)))))), by assumption⟩ | exact ⟨Cy (Cy (Cy (Cy (Cy (Cy (Cy (List.Mem.head _))))))), by assumption⟩ | exact ⟨Cy (Cy (Cy (Cy (Cy (Cy (Cy (Cy (List.Mem.head _)))))))), by assumption⟩ | exact ⟨Cy (Cy (Cy (Cy (Cy (Cy (Cy (Cy (Cy (List.Mem.head _))))))))), by assumption⟩ | exact ⟨Cy (Cy (Cy (Cy (Cy (Cy (Cy (Cy (Cy (Cy (List.Mem.head _)))))))))), by assumption⟩ | exact ⟨Cy (Cy (Cy (Cy (Cy (Cy (Cy (Cy (Cy (Cy (Cy (List.Mem.head _))))))))))), by assumption⟩ | exact ⟨Cy (Cy (Cy (Cy (Cy (Cy (Cy (Cy (Cy (Cy (Cy (Cy (List.Mem.head _)))))))))))), by assumption⟩ | exact ⟨Cy (Cy (Cy (Cy (Cy (Cy (Cy (Cy (Cy (Cy (Cy (Cy (Cy (List.Mem.head _))))))))))))), by assumption⟩) : x ∈ l ∧ q := h
theorem ma1_ {α : Type} {x : α} {l : List α} {q : Prop} (h : x ∈ l ∧ q := by first | exact ⟨List.Mem.head _, by assumption⟩ | exact ⟨Cy (List.Mem.head _), by assumption⟩ | exact ⟨Cy (Cy (List.Mem.head _)), by assumption⟩ | exact ⟨Cy (Cy (Cy (List.Mem.head _))), by assumption⟩ | exact ⟨Cy (Cy (Cy (Cy (List.Mem.head _)))), by assumption⟩ | exact ⟨Cy (Cy (Cy (Cy (Cy (List.Mem.head _))))), by assumption⟩ | exact ⟨Cy (Cy (Cy (Cy (Cy (Cy (List.Mem.head _)))))), by assumption⟩ | exact ⟨Cy (Cy (Cy (Cy (Cy (Cy (Cy (List.Mem.head _))))))), by assumption⟩ | exact ⟨Cy (Cy (Cy (Cy (Cy (Cy (Cy (Cy (List.Mem.head _)))))))), by assumption⟩ | exact ⟨Cy (Cy (Cy (Cy (Cy (Cy (Cy (Cy (Cy (List.Mem.head _))))))))), by assumption⟩ | exact ⟨Cy (Cy (Cy (Cy (Cy (Cy (Cy (Cy (Cy (Cy (List.Mem.head _)))))))))), by assumption⟩ | exact ⟨Cy (Cy (Cy (Cy (Cy (Cy (Cy (Cy (Cy (Cy (Cy (List.Mem.head _))))))))))), by assumption⟩) : x ∈ l ∧ q := h
theorem Fj {p : Prop} (h : p := by first | assumption | omega | (unfold As at *; omega) | (unfold reach at *; omega) | (simp_all; done)) : p := h
theorem Eo {p : Prop} (h : p := by first | rfl | ((conv => lhs; whnf); first | (simp_all; done) | (simp_all; omega))) : p := h
theorem A5 {p : Prop} (h : p := by first | ((conv => lhs; whnf); done) | rfl) : p := h
theorem Gm {p : Prop} (h : p := by conv => lhs; whnf) : p := h
theorem C3 {p : Prop} (h : p := by repeat (first | exact List.mem_cons_self | apply List.mem_cons_of_mem)) : p := h
theorem mf_ {p : Prop} (h : p := by first | ((repeat (first | exact List.mem_cons_self | apply List.mem_cons_of_mem)); done) | (simp only [List.nil_append, List.cons_append]; (repeat (first | exact List.mem_cons_self | apply List.mem_cons_of_mem)))) : p := h
theorem sC : (∀ (p : Prop) [Decidable p], (decide p = true) = p) ∧ (∀ (p : Prop) [Decidable p], (decide p = false) ↔ ¬p) ∧ (∀ a b : Bool, ((a && b) = true) = (a = true ∧ b = true)) ∧ (∀ a b : Bool, ((a || b) = true) = (a = true ∨ b = true)) ∧ (∀ b : Bool, ((!b) = true) = (b = false)) ∧ (∀ a b : Bool, (a && b) = false ↔ (a = false ∨ b = false)) ∧ (∀ a b : Bool, (a || b) = false ↔ (a = false ∧ b = false)) ∧ (∀ b : Bool, ((!b) = false) = (b = true)) ∧ (∀ p q : Prop, ¬(p ∧ q) ↔ (p → ¬q)) ∧ (∀ (p : Prop) [Decidable p], ¬¬p ↔ p) ∧ (∀ b : Bool, (true && b) = b) ∧ (∀ b : Bool, (b && true) = b) ∧ (∀ b : Bool, (false || b) = b) ∧ (∀ b : Bool, (b || false) = b) :=
 ⟨fun _ _ => decide_eq_true_eq, fun _ _ => decide_eq_false_iff_not, Bool.and_eq_true, Bool.or_eq_true, Bool.not_eq_true', fun _ _ => Bool.and_eq_false_iff, fun _ _ => Bool.or_eq_false_iff, Bool.not_eq_false', fun _ _ => not_and, fun _ _ => Decidable.not_not, Bool.true_and, Bool.and_true, Bool.false_or, Bool.or_false⟩
end Go.Hy
