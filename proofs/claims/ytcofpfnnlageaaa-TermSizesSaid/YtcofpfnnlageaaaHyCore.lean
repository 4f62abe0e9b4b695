/- A separation logic over the machine's rules: what is owned, what is known, and how a function's code is gone through. -/
import Derived.Orders
namespace Go.Hy
set_option linter.unusedVariables false
set_option linter.unusedSimpArgs false
set_option linter.unusedSectionVars false
set_option linter.unusedVariables false
set_option linter.unusedSimpArgs false

/-! ### Worlds -/
/-- Outside S, and below what is new, w' is as w was. -/
structure Chg (S : Nat → Prop) (w w' : World) : Prop where
  os : w'.os = w.os
  tape : w'.tape = w.tape
  output : w'.output = w.output
  size : w.heap.size ≤ w'.heap.size
  block : ∀ b, b < w.heap.size → ¬ S b → w'.heap[b]? = w.heap[b]?

theorem Chg.refl (S : Nat → Prop) (w : World) : Chg S w w := ⟨rfl, rfl, rfl, Nat.le_refl _, fun _ _ _ => rfl⟩
theorem Chg.trans {S S' : Nat → Prop} {w w1 w2 : World} (h : Chg S w w1) (h' : Chg S' w1 w2) (hs : ∀ b, S' b → S b ∨ w.heap.size ≤ b) : Chg S w w2 :=
  ⟨h'.os.trans h.os, h'.tape.trans h.tape, h'.output.trans h.output, Nat.le_trans h.size h'.size, fun b hb hn =>
    (h'.block b (Nat.lt_of_lt_of_le hb h.size) (fun hc => (hs b hc).elim hn (fun hh => absurd hb (Nat.not_lt.2 hh)))).trans (h.block b hb hn)⟩
theorem Chg.mono {S S' : Nat → Prop} {w w' : World} (h : Chg S w w') (hs : ∀ b, S b → S' b) : Chg S' w w' :=
  ⟨h.os, h.tape, h.output, h.size, fun b hb hn => h.block b hb (fun hc => hn (hs b hc))⟩
theorem Chg.draw {S : Nat → Prop} {w w' : World} (h : Chg S w w') (n : Nat) : Chg S w { w' with drawn := n } := ⟨h.os, h.tape, h.output, h.size, h.block⟩
def Non (_ : Nat) : Prop := False
theorem Chg.push (S : Nat → Prop) (w : World) (o : Obj) : Chg S w { w with heap := w.heap.push o } :=
  ⟨rfl, rfl, rfl, by simp, fun b hb _ => by
    show (w.heap.push o)[b]? = _
    rw [Array.getElem?_push, if_neg (by omega)]⟩
theorem Chg.setCell (w : World) (b o : Nat) (v : Value) : Chg (fun x => x = b) w (w.setCell ⟨b, o, none⟩ v) :=
  ⟨rfl, rfl, rfl, by simp [World.setCell], fun k _ hn => by
    simp only [World.setCell, Array.getElem?_modify]
    rw [if_neg (fun h => hn h.symm)]⟩

/-! ### Facts and what is owned -/
/-- What is so of the blocks 'ok' of a world. -/
structure Fact where
  f : (Nat → Prop) → World → Prop
  mono : ∀ ok ok' w, (∀ b, ok b → ok' b) → f ok w → f ok' w
  loc : ∀ ok w w', f ok w → (∀ b, ok b → w'.heap[b]? = w.heap[b]?) → f ok w'

structure Res where
  dom : Nat → Prop
  holds : World → Prop

def domAll (Ms : List Res) (b : Nat) : Prop := ∃ m, m ∈ Ms ∧ m.dom b

structure Base where
  ok0 : Nat → Prop
  S0 : Nat → Prop
  w0 : World

def okOf (B : Base) (Ms : List Res) (w : World) (b : Nat) : Prop := (B.ok0 b ∨ B.w0.heap.size ≤ b) ∧ b < w.heap.size ∧ ¬ domAll Ms b

structure St (B : Base) (Γ : List Fact) (Ms : List Res) (w : World) : Prop where
  chg : Chg B.S0 B.w0 w
  facts : ∀ F, F ∈ Γ → F.f (okOf B Ms w) w
  res : ∀ m, m ∈ Ms → ∀ w', (∀ b, m.dom b → w'.heap[b]? = w.heap[b]?) → m.holds w'
  lt : ∀ m, m ∈ Ms → ∀ b, m.dom b → b < w.heap.size ∧ (B.S0 b ∨ B.w0.heap.size ≤ b)
  disj : Ms.Pairwise fun m m' => ∀ b, m.dom b → m'.dom b → False

theorem domAll_nil (b : Nat) : ¬ domAll [] b := fun ⟨_, h, _⟩ => by cases h
theorem domAll_cons {m : Res} {Ms : List Res} {b : Nat} : domAll (m :: Ms) b ↔ m.dom b ∨ domAll Ms b := by
  constructor
  · rintro ⟨m', h, hd⟩
    cases h with
    | head => exact .inl hd
    | tail _ h => exact .inr ⟨m', h, hd⟩
  · rintro (h | ⟨m', h, hd⟩)
    · exact ⟨m, List.mem_cons_self, h⟩
    · exact ⟨m', List.mem_cons_of_mem _ h, hd⟩
theorem domAll_append {A C : List Res} {b : Nat} : domAll (A ++ C) b ↔ domAll A b ∨ domAll C b := by
  induction A with
  | nil => simp [domAll]
  | cons m A ih => rw [List.cons_append, domAll_cons, domAll_cons, ih, or_assoc]

section
variable {B : Base} {Γ Γ' : List Fact} {Ms Ms' : List Res} {w w' : World}

theorem St.draw (h : St B Γ Ms w) (n : Nat) : St B Γ Ms { w with drawn := n } :=
  ⟨h.chg.draw n, fun F hF => F.loc _ _ _ (h.facts F hF) (fun _ _ => rfl), fun m hm w' hw => h.res m hm w' hw, h.lt, h.disj⟩

/-- Fewer facts. -/
theorem St.less (h : St B Γ Ms w) (hs : ∀ F, F ∈ Γ' → F ∈ Γ) : St B Γ' Ms w := ⟨h.chg, fun F hF => h.facts F (hs F hF), h.res, h.lt, h.disj⟩

theorem St.perm (h : St B Γ Ms w) (hp : Ms.Perm Ms') : St B Γ Ms' w := by
  have hd : ∀ b, domAll Ms b ↔ domAll Ms' b := fun b => ⟨fun ⟨m, hm, hb⟩ => ⟨m, hp.mem_iff.1 hm, hb⟩, fun ⟨m, hm, hb⟩ => ⟨m, hp.mem_iff.2 hm, hb⟩⟩
  exact ⟨h.chg, fun F hF => F.mono _ _ _ (fun b hb => ⟨hb.1, hb.2.1, fun hc => hb.2.2 ((hd b).2 hc)⟩) (h.facts F hF), fun m hm => h.res m (hp.mem_iff.2 hm), fun m hm => h.lt m (hp.mem_iff.2 hm),
    (hp.pairwise_iff (fun {x y} hxy b h1 h2 => hxy b h2 h1)).1 h.disj⟩

/-- Something owned is let go. -/
theorem St.drop {m : Res} (h : St B Γ (m :: Ms) w) : St B Γ Ms w :=
  ⟨h.chg, fun F hF => F.mono _ _ _ (fun _ hb => ⟨hb.1, hb.2.1, fun hc => hb.2.2 (domAll_cons.2 (.inr hc))⟩) (h.facts F hF), fun m' hm => h.res m' (List.mem_cons_of_mem _ hm), fun m' hm => h.lt m' (List.mem_cons_of_mem _ hm),
    (List.pairwise_cons.1 h.disj).2⟩

/-- A fact more. -/
theorem St.add {F : Fact} (h : St B Γ Ms w) (hF : F.f (okOf B Ms w) w) : St B (F :: Γ) Ms w :=
  ⟨h.chg, fun G hG => by
    cases hG with
    | head => exact hF
    | tail _ hG => exact h.facts G hG, h.res, h.lt, h.disj⟩

/-- THE FRAME: what is called with some of what is owned leaves the rest. -/
theorem St.frame {Ms0 Ms1 Ms2 : List Res} {N : List Fact} (h : St B Γ (Ms0 ++ Ms2) w) (h' : St ⟨okOf B (Ms0 ++ Ms2) w, domAll Ms0, w⟩ N Ms1 w') : St B (N ++ Γ) (Ms1 ++ Ms2) w' := by
  have hnew : ∀ b, domAll Ms1 b → domAll Ms0 b ∨ w.heap.size ≤ b := fun b ⟨m, hm, hb⟩ => (h'.lt m hm b hb).2
  have hold : ∀ m, m ∈ Ms2 → ∀ b, m.dom b → w'.heap[b]? = w.heap[b]? := fun m hm b hb => by
    refine h'.chg.block b (h.lt m (List.mem_append_right _ hm) b hb).1 ?_
    rintro ⟨m0, hm0, hb0⟩
    exact (List.pairwise_append.1 h.disj).2.2 m0 hm0 m hm b hb0 hb
  refine ⟨?_, ?_, ?_, ?_, ?_⟩
  · refine h.chg.trans h'.chg ?_
    rintro b ⟨m, hm, hb⟩
    exact (h.lt m (List.mem_append_left _ hm) b hb).2
  · intro F hF
    rcases List.mem_append.1 hF with hF | hF
    · refine F.mono _ _ _ ?_ (h'.facts F hF)
      rintro b ⟨hb1, hb2, hb3⟩
      refine ⟨?_, hb2, ?_⟩
      · rcases hb1 with hb1 | hb1
        · exact hb1.1
        · exact .inr (Nat.le_trans h.chg.size hb1)
      · rw [domAll_append]
        rintro (hc | ⟨m, hm, hc⟩)
        · exact hb3 hc
        · rcases hb1 with hb1 | hb1
          · exact hb1.2.2 ⟨m, List.mem_append_right _ hm, hc⟩
          · exact absurd (h.lt m (List.mem_append_right _ hm) b hc).1 (Nat.not_lt.2 hb1)
    · have h1 := h.facts F hF
      have h2 : F.f (okOf B (Ms0 ++ Ms2) w) w' := F.loc _ _ _ h1 (fun b hb => h'.chg.block b hb.2.1 (fun hc => hb.2.2 (domAll_append.2 (.inl hc))))
      refine F.mono _ _ _ ?_ h2
      rintro b ⟨hb1, hb2, hb3⟩
      refine ⟨hb1, Nat.lt_of_lt_of_le hb2 h'.chg.size, ?_⟩
      rw [domAll_append]
      rintro (hc | hc)
      · rcases hnew b hc with h4 | h4
        · exact hb3 (domAll_append.2 (.inl h4))
        · exact absurd hb2 (Nat.not_lt.2 h4)
      · exact hb3 (domAll_append.2 (.inr hc))
  · intro m hm w2 hw2
    rcases List.mem_append.1 hm with hm | hm
    · exact h'.res m hm w2 hw2
    · exact h.res m (List.mem_append_right _ hm) w2 (fun b hb => (hw2 b hb).trans (hold m hm b hb))
  · intro m hm b hb
    rcases List.mem_append.1 hm with hm | hm
    · refine ⟨(h'.lt m hm b hb).1, ?_⟩
      rcases (h'.lt m hm b hb).2 with ⟨m0, hm0, hb0⟩ | h4
      · exact (h.lt m0 (List.mem_append_left _ hm0) b hb0).2
      · exact .inr (Nat.le_trans h.chg.size h4)
    · have := h.lt m (List.mem_append_right _ hm) b hb
      exact ⟨Nat.lt_of_lt_of_le this.1 h'.chg.size, this.2⟩
  · refine List.pairwise_append.2 ⟨h'.disj, (List.pairwise_append.1 h.disj).2.1, ?_⟩
    intro m1 hm1 m2 hm2 b hb1 hb2
    rcases (h'.lt m1 hm1 b hb1).2 with ⟨m0, hm0, hb0⟩ | h4
    · exact (List.pairwise_append.1 h.disj).2.2 m0 hm0 m2 hm2 b hb0 hb2
    · exact absurd (h.lt m2 (List.mem_append_right _ hm2) b hb2).1 (Nat.not_lt.2 h4)

/-- What a callee is handed. -/
theorem St.hand {Ms0 Ms2 : List Res} {pre : List Fact} (h : St B Γ (Ms0 ++ Ms2) w) (hp : ∀ F, F ∈ pre → F ∈ Γ) : St ⟨okOf B (Ms0 ++ Ms2) w, domAll Ms0, w⟩ pre Ms0 w := by
  refine ⟨Chg.refl _ _, ?_, fun m hm => h.res m (List.mem_append_left _ hm), ?_, (List.pairwise_append.1 h.disj).1⟩
  · intro F hF
    refine F.mono _ _ _ ?_ (h.facts F (hp F hF))
    intro b hb
    exact ⟨.inl hb, hb.2.1, fun hc => hb.2.2 (domAll_append.2 (.inl hc))⟩
  · intro m hm b hb
    exact ⟨(h.lt m (List.mem_append_left _ hm) b hb).1, .inl ⟨m, hm, hb⟩⟩

/-- The owned thing at the head is changed, in place or into new blocks. -/
theorem St.turn {m m' : Res} (h : St B Γ (m :: Ms) w) (hc : Chg m.dom w w') (hh : ∀ w2, (∀ b, m'.dom b → w2.heap[b]? = w'.heap[b]?) → m'.holds w2)
    (hd : ∀ b, m'.dom b → b < w'.heap.size ∧ (m.dom b ∨ w.heap.size ≤ b)) : St B Γ (m' :: Ms) w' := by
  have h0 : St ⟨okOf B ([m] ++ Ms) w, domAll [m], w⟩ [] [m'] w' := by
    refine ⟨hc.mono (fun b hb => domAll_cons.2 (.inl hb)), ?_, ?_, ?_, ?_⟩
    · intro F hF; cases hF
    · intro m2 hm2; rw [List.mem_singleton] at hm2; subst hm2; exact hh
    · intro m2 hm2 b hb; rw [List.mem_singleton] at hm2; subst hm2
      exact ⟨(hd b hb).1, (hd b hb).2.imp (fun hx => domAll_cons.2 (.inl hx)) id⟩
    · exact List.pairwise_singleton _ _
  exact St.frame (Ms0 := [m]) (Ms1 := [m']) (N := []) h h0

/-- Something new is owned. -/
theorem St.born {m : Res} (h : St B Γ Ms w) (hc : Chg Non w w') (hh : ∀ w2, (∀ b, m.dom b → w2.heap[b]? = w'.heap[b]?) → m.holds w2)
    (hd : ∀ b, m.dom b → b < w'.heap.size ∧ w.heap.size ≤ b) : St B Γ (m :: Ms) w' := by
  have h0 : St ⟨okOf B ([] ++ Ms) w, domAll [], w⟩ [] [m] w' := by
    refine ⟨hc.mono (fun _ hb => hb.elim), ?_, ?_, ?_, ?_⟩
    · intro F hF; cases hF
    · intro m2 hm2; rw [List.mem_singleton] at hm2; subst hm2; exact hh
    · intro m2 hm2 b hb; rw [List.mem_singleton] at hm2; subst hm2
      exact ⟨(hd b hb).1, .inr (hd b hb).2⟩
    · exact List.pairwise_singleton _ _
  exact St.frame (Ms0 := []) (Ms1 := [m]) (N := []) h h0

/-- The world grows. -/
theorem St.grow (h : St B Γ Ms w) (hc : Chg Non w w') : St B Γ Ms w' := by
  have h0 : St ⟨okOf B ([] ++ Ms) w, domAll [], w⟩ [] [] w' := ⟨hc.mono (fun _ hb => hb.elim), fun F hF => (by cases hF), fun m hm => (by cases hm), fun m hm => (by cases hm), List.Pairwise.nil⟩
  exact St.frame (Ms0 := []) (Ms1 := []) (N := []) h h0

/-- What is owned becomes a fact for good. -/
theorem St.settle {m : Res} {F : Fact} (h : St B Γ (m :: Ms) w) (hF : ∀ ok, (∀ b, m.dom b → ok b) → m.holds w → F.f ok w) (hn : ∀ b, m.dom b → B.w0.heap.size ≤ b) : St B (F :: Γ) Ms w := by
  refine h.drop.add (hF _ ?_ (h.res m List.mem_cons_self w (fun _ _ => rfl)))
  intro b hb
  refine ⟨.inr (hn b hb), (h.lt m List.mem_cons_self b hb).1, ?_⟩
  rintro ⟨m2, hm2, hb2⟩
  exact (List.pairwise_cons.1 h.disj).1 m2 hm2 b hb hb2
end

/-! ### Frames -/
def ev (σ : Nat → Value) : Operand → Value
  | .tmp t => σ t
  | .const v => v
  | .global g => .pointer (some ⟨g, 0, none⟩)
  | .func f => .func (.func f) #[] #[]
def upd (σ : Nat → Value) (d : Nat) (v : Value) (t : Nat) : Value := cond (Nat.beq t d) v (σ t)
def putS (σ : Nat → Value) : Option Tmp → Value → (Nat → Value)
  | some d, v => upd σ d v
  | none, _ => σ
theorem upd_same (σ : Nat → Value) (d : Nat) (v : Value) : upd σ d v d = v := by simp [upd]
theorem upd_ne (σ : Nat → Value) {d t : Nat} (v : Value) (h : t ≠ d) : upd σ d v t = σ t := by
  have : Nat.beq t d = false := by
    cases hb : Nat.beq t d with
    | false => rfl
    | true => exact absurd (Nat.eq_of_beq_eq_true hb) h
  simp [upd, this]

structure Rel (n : Nat) (a : Act) (σ : Nat → Value) : Prop where
  size : a.tmps.size = n
  get : ∀ t, a.tmps.getD t undef = σ t
  noDefers : a.defers = []

theorem Rel.eval {n : Nat} {a : Act} {σ : Nat → Value} (h : Rel n a σ) : a.eval = ev σ := by
  funext x
  cases x <;> simp only [Act.eval, ev]
  exact h.get _

def dstOk (n : Nat) : Option Tmp → Bool
  | some d => Nat.blt d n
  | none => true

theorem Rel.put {n : Nat} {a : Act} {σ : Nat → Value} (h : Rel n a σ) {dst : Option Tmp} (hd : dstOk n dst = true) (v : Value) : Rel n (a.put dst v) (putS σ dst v) := by
  cases dst with
  | none => exact h
  | some d =>
    have hlt : d < n := by simpa [dstOk, Nat.blt_eq] using hd
    refine ⟨?_, ?_, h.noDefers⟩
    · simp [Act.put, h.size]
    · intro t
      by_cases ht : t = d
      · subst ht
        simp [Act.put, putS, upd_same, Array.getD_eq_getD_getElem?, h.size, hlt]
      · have := h.get t
        simp only [Act.put, putS, upd_ne σ v ht]
        rw [← this]
        simp [Array.getD_eq_getD_getElem?, Array.getElem?_setIfInBounds_ne (Ne.symm ht)]

def stL (σ : Nat → Value) : List (Nat × Value) → (Nat → Value)
  | [] => σ
  | (d, v) :: l => upd (stL σ l) d v
/-- What some slots hold. -/
def LiveL (σ : Nat → Value) : List (Nat × Value) → Prop
  | [] => True
  | (d, v) :: l => σ d = v ∧ LiveL σ l
theorem stL_self (σ : Nat → Value) : ∀ l : List (Nat × Value), LiveL σ l → stL σ l = σ
  | [], _ => rfl
  | (d, v) :: l, h => by
    have h1 := stL_self σ l h.2
    funext t
    simp only [stL, h1]
    by_cases ht : t = d
    · subst ht; rw [upd_same]; exact h.1.symm
    · rw [upd_ne _ _ ht]

/-! ### A run from the middle of a function on -/
section
variable (P : Program) (f : FuncId) (R : Ending → World → Prop)
def GoM (todo : List Item) (a : Act) (w : World) : Prop :=
  ∀ (b : Frame) (cs : List Frame), b.fn = f → b.kind = .normal →
    ∃ e w' fr, R e w' ∧ Comes P (lone (b.at a todo) cs w) (lone fr cs w') e ∧ fr.fn = f ∧ fr.leaving P w' e

def QK (K : List Item) : Exit → Act → World → Prop
  | .normal, a, w => GoM P f R K a w
  | .panic chain, a, w => a.defers = [] ∧ R (.panicked chain) w
  | _, _, _ => False

variable (B : Base) (n : Nat)
def GoT (todo : List Item) (σ : Nat → Value) (Γ : List Fact) (Ms : List Res) : Prop :=
  ∀ a w, Rel n a σ → St B Γ Ms w → GoM P f R todo a w

def RgT (K : List Item) (ops : Array Oper) (l : List Nat) (σ : Nat → Value) (Γ : List Fact) (Ms : List Res) : Prop :=
  ∀ a w, Rel n a σ → St B Γ Ms w → wpOps P ops (QK P f R K) l a w
end

section
variable {P : Program} {f : FuncId} {fn : Func} {R : Ending → World → Prop} {B : Base} {n : Nat} {K : List Item} {σ : Nat → Value} {Γ : List Fact} {Ms : List Res}

theorem GoM.head {todo todo' : List Item} {a a' : Act} {w w' : World} (hs : ∀ (b : Frame) cs, step P (lone (b.at a todo) cs w) = .next (lone (b.at a' todo') cs w')) (h : GoM P f R todo' a' w') : GoM P f R todo a w := by
  intro b cs hb hk
  obtain ⟨e, w2, fr, hR, hc, hf, hl⟩ := h b cs hb hk
  exact ⟨e, w2, fr, hR, hc.of_steps (.one (hs b cs)), hf, hl⟩

theorem go_seq {x y : Code} (h : GoT P f R B n (.code x :: .code y :: K) σ Γ Ms) : GoT P f R B n (.code (.seq x y) :: K) σ Γ Ms :=
  fun a w hr hs => GoM.head (fun _ _ => step_seq) (h a w hr hs)
theorem go_skip (h : GoT P f R B n K σ Γ Ms) : GoT P f R B n (.code .skip :: K) σ Γ Ms :=
  fun a w hr hs => GoM.head (fun _ _ => step_skip) (h a w hr hs)
theorem go_block {id : Nat} {c : Code} (h : GoT P f R B n (.code c :: .inBlock id :: K) σ Γ Ms) : GoT P f R B n (.code (.block id c) :: K) σ Γ Ms :=
  fun a w hr hs => GoM.head (fun _ _ => step_block) (h a w hr hs)
theorem go_inBlock {id : Nat} (h : GoT P f R B n K σ Γ Ms) : GoT P f R B n (.inBlock id :: K) σ Γ Ms :=
  fun a w hr hs => GoM.head (fun _ _ => step_inBlock) (h a w hr hs)
theorem go_exit {id : Nat} {K' : List Item} (he : exitTo id K = some K') (h : GoT P f R B n K' σ Γ Ms) : GoT P f R B n (.code (.exit id) :: K) σ Γ Ms :=
  fun a w hr hs => GoM.head (fun _ _ => step_exit he) (h a w hr hs)
theorem go_cond {c : Operand} {x y : Code} {t : Bool} (hc : ev σ c = .bool t) (ht : t = true → GoT P f R B n (.code x :: K) σ Γ Ms) (hf : t = false → GoT P f R B n (.code y :: K) σ Γ Ms) :
    GoT P f R B n (.code (.cond c x y) :: K) σ Γ Ms := by
  intro a w hr hs
  refine GoM.head (fun _ _ => step_cond (t := t) (by rw [hr.eval]; exact hc)) ?_
  cases t with
  | true => exact ht rfl a w hr hs
  | false => exact hf rfl a w hr hs
theorem go_inLoop {c : Code} (h : GoT P f R B n (.code c :: .inLoop c :: K) σ Γ Ms) : GoT P f R B n (.inLoop c :: K) σ Γ Ms :=
  fun a w hr hs => GoM.head (fun _ _ => step_inLoop) (h a w hr hs)

/-- A loop: a state x of it, a measure; what holds of the slots, what is known and owned at a round's beginning. -/
theorem go_loop {c : Code} {X : Type} (live : X → List (Nat × Value)) (Γf : X → List Fact) (Mf : X → List Res) (μ : X → Nat) (x0 : X)
    (hl : LiveL σ (live x0)) (hΓ : ∀ w, St B Γ Ms w → St B (Γf x0) (Mf x0) w)
    (round : ∀ x base, (∀ x' σ', μ x' < μ x → LiveL σ' (live x') → GoT P f R B n (.inLoop c :: K) σ' (Γf x') (Mf x')) →
      GoT P f R B n (.code c :: .inLoop c :: K) (stL base (live x)) (Γf x) (Mf x)) :
    GoT P f R B n (.code (.loop c) :: K) σ Γ Ms := by
  have key : ∀ k x σ', μ x < k → LiveL σ' (live x) → GoT P f R B n (.code c :: .inLoop c :: K) σ' (Γf x) (Mf x) := by
    intro k
    induction k with
    | zero => intro x σ' hx; exact absurd hx (Nat.not_lt_zero _)
    | succ k ih =>
      intro x σ' hx hσ
      have := round x σ' (fun x' σ2 hlt h2 => go_inLoop (ih x' σ2 (Nat.lt_of_lt_of_le hlt (Nat.le_of_lt_succ hx)) h2))
      rwa [stL_self σ' (live x) hσ] at this
  intro a w hr hs
  exact GoM.head (fun _ _ => step_loop) (key (μ x0 + 1) x0 σ (Nat.lt_succ_self _) hl a w hr (hΓ w hs))

/-- The same; what holds of the state at each round's beginning is said apart. -/
theorem go_loopI {c : Code} {X : Type} (Inv : X → Prop) (live : X → List (Nat × Value)) (Γf : X → List Fact) (Mf : X → List Res) (μ : X → Nat) (x0 : X) (h0 : Inv x0)
    (hl : LiveL σ (live x0)) (hΓ : ∀ w, St B Γ Ms w → St B (Γf x0) (Mf x0) w)
    (round : ∀ x base, Inv x → (∀ x' σ', Inv x' → μ x' < μ x → LiveL σ' (live x') → GoT P f R B n (.inLoop c :: K) σ' (Γf x') (Mf x')) →
      GoT P f R B n (.code c :: .inLoop c :: K) (stL base (live x)) (Γf x) (Mf x)) :
    GoT P f R B n (.code (.loop c) :: K) σ Γ Ms :=
  go_loop (X := {x : X // Inv x}) (fun x => live x.1) (fun x => Γf x.1) (fun x => Mf x.1) (fun x => μ x.1) ⟨x0, h0⟩ hl hΓ
    (fun x base next => round x.1 base x.2 (fun x' σ' hi => next ⟨x', hi⟩ σ'))

theorem go_ret {v : Value} (hf : P.funcs[f]? = some fn) (hv : ∀ a w, Rel n a σ → St B Γ Ms w → (results fn a.tmps).run P w = .ok v w) (hR : ∀ w, St B Γ Ms w → R (.returned v) w) : GoT P f R B n (.code .ret :: K) σ Γ Ms := by
  intro a w hr hs b cs hb hk
  refine ⟨.returned v, w, _, hR w hs, .one step_ret, hb, rfl, hr.noDefers, hk, fn, ?_, hv a w hr hs⟩
  show P.funcs[b.fn]? = some fn
  rw [hb]; exact hf
theorem go_end {v : Value} (hf : P.funcs[f]? = some fn) (hv : ∀ a w, Rel n a σ → St B Γ Ms w → (results fn a.tmps).run P w = .ok v w) (hR : ∀ w, St B Γ Ms w → R (.returned v) w) : GoT P f R B n [] σ Γ Ms := by
  intro a w hr hs b cs hb hk
  refine ⟨.returned v, w, _, hR w hs, .one step_end, hb, rfl, hr.noDefers, hk, fn, ?_, hv a w hr hs⟩
  show P.funcs[b.fn]? = some fn
  rw [hb]; exact hf

/-- What holds otherwise said. -/
theorem go_state {todo : List Item} {Γ' : List Fact} {Ms' : List Res} (hs : ∀ w, St B Γ Ms w → St B Γ' Ms' w) (h : GoT P f R B n todo σ Γ' Ms') : GoT P f R B n todo σ Γ Ms :=
  fun a w hr h' => h a w hr (hs w h')
/-- The slots otherwise said. -/
theorem go_slots {todo : List Item} (live : List (Nat × Value)) (hl : LiveL σ live) (h : ∀ base, GoT P f R B n todo (stL base live) Γ Ms) : GoT P f R B n todo σ Γ Ms := by
  have := h σ
  rwa [stL_self σ live hl] at this

/-- Several ways through the first item meet again. -/
theorem go_cut {it : Item} {Γ' : List Fact} {Ms' : List Res} (live : List (Nat × Value)) (h1 : (∀ σ', LiveL σ' live → GoT P f R B n K σ' Γ' Ms') → GoT P f R B n (it :: K) σ Γ Ms) (h2 : ∀ base, GoT P f R B n K (stL base live) Γ' Ms') : GoT P f R B n (it :: K) σ Γ Ms :=
  h1 (fun σ' hl => go_slots live hl h2)
theorem go_cutS {it : Item} (live : List (Nat × Value)) (h1 : (∀ σ', LiveL σ' live → GoT P f R B n K σ' Γ Ms) → GoT P f R B n (it :: K) σ Γ Ms) (h2 : ∀ base, GoT P f R B n K (stL base live) Γ Ms) : GoT P f R B n (it :: K) σ Γ Ms :=
  h1 (fun σ' hl => go_slots live hl h2)
theorem go_condT {c : Operand} {x y : Code} (h : GoT P f R B n (.code x :: K) σ Γ Ms) (hc : ev σ c = .bool true := by rfl) : GoT P f R B n (.code (.cond c x y) :: K) σ Γ Ms := go_cond hc (fun _ => h) (fun h => by cases h)
theorem go_condF {c : Operand} {x y : Code} (h : GoT P f R B n (.code y :: K) σ Γ Ms) (hc : ev σ c = .bool false := by rfl) : GoT P f R B n (.code (.cond c x y) :: K) σ Γ Ms := go_cond hc (fun h => by cases h) (fun _ => h)
theorem upd_id {d : Nat} {v : Value} (h : σ d = v) : upd σ d v = σ := by
  funext t
  by_cases ht : t = d
  · subst ht; rw [upd_same]; exact h.symm
  · exact upd_ne _ _ ht
/-- A test; its slot then shows the answer. -/
theorem go_condI {d : Nat} {x y : Code} {t : Bool} (ht : t = true → GoT P f R B n (.code x :: K) (upd σ d (.bool true)) Γ Ms) (hf : t = false → GoT P f R B n (.code y :: K) (upd σ d (.bool false)) Γ Ms) (hc : σ d = .bool t := by conv => lhs; whnf) : GoT P f R B n (.code (.cond (.tmp d) x y) :: K) σ Γ Ms := by
  refine go_cond (t := t) hc (fun h => ?_) (fun h => ?_)
  · have := ht h
    rwa [upd_id (h ▸ hc)] at this
  · have := hf h
    rwa [upd_id (h ▸ hc)] at this

theorem wpOps_GoM (hfn : ∃ fn, P.funcs[f]? = some fn) {ops : Array Oper} {l : List Nat} {a : Act} {w : World} (h : wpOps P ops (QK P f R K) l a w) : GoM P f R (.inRegion ops l :: K) a w := by
  intro b cs hb hk
  obtain ⟨e, a', w', hq, harr⟩ := wp_ops l a w h b K cs
  cases e with
  | normal =>
    obtain ⟨e2, w2, fr, hR, hc, hf, hl⟩ := hq b cs hb hk
    exact ⟨e2, w2, fr, hR, hc.of_steps harr, hf, hl⟩
  | panic chain =>
    obtain ⟨hd, hR⟩ := hq
    obtain ⟨todo, hs⟩ := harr
    obtain ⟨fn, hfn⟩ := hfn
    refine ⟨.panicked chain, w', _, hR, hs, hb, rfl, hd, fn, ?_⟩
    show P.funcs[b.fn]? = some fn
    rw [hb]; exact hfn
  | exit id => exact hq.elim
  | goto l => exact hq.elim
  | ret => exact hq.elim
  | outgrown => exact hq.elim

theorem go_region {id : Nat} {ops : Array Oper} {l : List Nat} (hfn : ∃ fn, P.funcs[f]? = some fn) (hl : List.range ops.size = l) (h : RgT P f R B n K ops l σ Γ Ms) : GoT P f R B n (.code (.region id ops false) :: K) σ Γ Ms := by
  subst hl
  exact fun a w hr hs => GoM.head (fun _ _ => step_region) (wpOps_GoM hfn (h a w hr hs))

theorem calls_go {args : Array Value} {c : Code} {w : World} (hf : P.funcs[f]? = some fn) (hb : fn.body = some c) (hn : fn.ntmps = n) (ha : args.size ≤ n) (hs : St B Γ Ms w)
    (h : GoT P f R B n [.code c] (fun t => args.getD t undef) Γ Ms) : Calls P f args w R := by
  intro cs
  let b : Frame := { (default : Frame) with fn := f, kind := .normal }
  have henter : Frame.enter P f args .normal = b.at { tmps := args ++ Array.replicate (fn.ntmps - args.size) undef, defers := [] } [.code c] := by
    simp [Frame.enter, Frame.at, hf, hb, b]
  rw [henter]
  refine h _ w ⟨?_, ?_, rfl⟩ hs b cs rfl rfl
  · simp [hn]; omega
  · intro t
    simp only [Array.getD_eq_getD_getElem?, Array.getElem?_append]
    by_cases ht : t < args.size
    · simp [ht]
    · simp only [ht, if_false]
      rw [Array.getElem?_eq_none (by omega : args.size ≤ t)]
      simp only [Option.getD_none]
      by_cases h2 : t - args.size < fn.ntmps - args.size
      · simp [h2]
      · rw [Array.getElem?_eq_none (by simp; omega)]; rfl
end

/-! ### Operations -/
section
variable {P : Program} {f : FuncId} {R : Ending → World → Prop} {B : Base} {n : Nat} {K : List Item} {ops : Array Oper} {i : Nat} {l : List Nat} {o : Oper} {σ : Nat → Value} {Γ : List Fact} {Ms : List Res}

theorem rg_nil (h : GoT P f R B n K σ Γ Ms) : RgT P f R B n K ops [] σ Γ Ms := fun a w hr hs => h a w hr hs

/-- Is an operation carried out, by its guard? -/
def wantS (ops : Array Oper) (σ : Nat → Value) (o : Oper) : Bool :=
  match o.guard with
  | none => true
  | some (j, want) =>
    match (ops[j]?).bind (·.dst) with
    | none => false
    | some d => match σ d with
      | .bool b => b == want
      | _ => false
theorem Rel.want {a : Act} {ops : Array Oper} {σ : Nat → Value} (h : Rel n a σ) (o : Oper) : Region.wanted o (yielded ops a.tmps) = wantS ops σ o := by
  unfold Region.wanted wantS
  cases hg : o.guard with
  | none => rfl
  | some p =>
    obtain ⟨j, want⟩ := p
    simp only [yielded]
    cases hd : (ops[j]?).bind (·.dst) with
    | none => cases want <;> rfl
    | some d =>
      have := h.get d
      simp only [Option.bind_some]
      cases ht : a.tmps[d]? with
      | none =>
        have h2 : σ d = undef := by rw [← this]; simp [Array.getD_eq_getD_getElem?, ht]
        rw [h2]; cases want <;> rfl
      | some v =>
        have h2 : σ d = v := by rw [← this]; simp [Array.getD_eq_getD_getElem?, ht]
        rw [h2]
        cases v <;> cases want <;> first | rfl | (rename_i b; cases b <;> rfl)

/-- One operation, and what is left of its region. -/
def OpT (P : Program) (f : FuncId) (R : Ending → World → Prop) (B : Base) (n : Nat) (K : List Item) (ops : Array Oper) (l : List Nat) (o : Oper) (σ : Nat → Value) (Γ : List Fact) (Ms : List Res) : Prop :=
  ∀ a w, Rel n a σ → St B Γ Ms w → o.wp P a w (wpOps P ops (QK P f R K) l) (QK P f R K)

theorem rg_cons (ho : ops[i]? = some o) (hg : o.guard = none) (h : OpT P f R B n K ops l o σ Γ Ms) : RgT P f R B n K ops (i :: l) σ Γ Ms := by
  intro a w hr hs
  rw [wpOps_cons]
  unfold wpOp
  simp only [ho, Region.wanted, hg, if_true]
  exact .inl (h a w hr hs)
theorem rg_on (ho : ops[i]? = some o) (hw : wantS ops σ o = true) (h : OpT P f R B n K ops l o σ Γ Ms) : RgT P f R B n K ops (i :: l) σ Γ Ms := by
  intro a w hr hs
  rw [wpOps_cons]
  unfold wpOp
  simp only [ho, hr.want, hw, if_true]
  exact .inl (h a w hr hs)
theorem rg_off (ho : ops[i]? = some o) (hw : wantS ops σ o = false) (hd : dstOk n o.dst = true) (h : RgT P f R B n K ops l (putS σ o.dst undef) Γ Ms) : RgT P f R B n K ops (i :: l) σ Γ Ms := by
  intro a w hr hs
  rw [wpOps_cons]
  unfold wpOp
  simp only [ho, hr.want, hw, Bool.false_eq_true, if_false]
  exact h _ _ (hr.put hd _) hs
/-- A guard whose answer is open. -/
theorem rg_guard {g d : Nat} {want t : Bool} (ho : ops[i]? = some o) (hg : o.guard = some (g, want)) (hog : (ops[g]?).bind (·.dst) = some d) (ht : σ d = .bool t) (hd : dstOk n o.dst = true)
    (hon : (t == want) = true → OpT P f R B n K ops l o σ Γ Ms) (hoff : (t == want) = false → RgT P f R B n K ops l (putS σ o.dst undef) Γ Ms) : RgT P f R B n K ops (i :: l) σ Γ Ms := by
  have hw : wantS ops σ o = (t == want) := by simp only [wantS, hg, hog, ht]
  cases hb : (t == want) with
  | true => exact rg_on ho (hw.trans hb) (hon hb)
  | false => exact rg_off ho (hw.trans hb) hd (hoff hb)

/-- An operation that yields a value. -/
theorem op_val {X : Type} (val : X → Value) (Γ' : X → List Fact) (Ms' : X → List Res) (hd : dstOk n o.dst = true)
    (h : ∀ w, St B Γ Ms w → ∃ x w', (execOp (ev σ) o).run P w = .ok (.value (val x)) w' ∧ St B (Γ' x) (Ms' x) w')
    (k : ∀ x, RgT P f R B n K ops l (putS σ o.dst (val x)) (Γ' x) (Ms' x)) : OpT P f R B n K ops l o σ Γ Ms := by
  intro a w hr hs
  obtain ⟨x, w', hrun, hs'⟩ := h w hs
  unfold Oper.wp
  rw [hr.eval, hrun]
  exact k x _ _ (hr.put hd _) hs'
/-- One that yields nothing. -/
theorem op_unit {Γ' : List Fact} {Ms' : List Res} (hd : o.dst = none)
    (h : ∀ w, St B Γ Ms w → ∃ w', (execOp (ev σ) o).run P w = .ok .skip w' ∧ St B Γ' Ms' w')
    (k : RgT P f R B n K ops l σ Γ' Ms') : OpT P f R B n K ops l o σ Γ Ms := by
  intro a w hr hs
  obtain ⟨w', hrun, hs'⟩ := h w hs
  unfold Oper.wp
  rw [hr.eval, hrun]
  simp only [Oper.upon, hd]
  exact k _ _ hr hs'

def PureOp (P : Program) (σ : Nat → Value) (o : Oper) (v : Value) : Prop := ∀ w, (execOp (ev σ) o).run P w = .ok (.value v) w
def LoadOp (P : Program) (B : Base) (σ : Nat → Value) (Γ : List Fact) (Ms : List Res) (o : Oper) (v : Value) : Prop := ∀ w, St B Γ Ms w → (execOp (ev σ) o).run P w = .ok (.value v) w
theorem op_pure {v : Value} (h : PureOp P σ o v) (hd : dstOk n o.dst = true) (k : RgT P f R B n K ops l (putS σ o.dst v) Γ Ms) : OpT P f R B n K ops l o σ Γ Ms :=
  op_val (X := Unit) (fun _ => v) (fun _ => Γ) (fun _ => Ms) hd (fun w hs => ⟨(), w, h w, hs⟩) (fun _ => k)
theorem op_load {v : Value} (h : LoadOp P B σ Γ Ms o v) (hd : dstOk n o.dst = true) (k : RgT P f R B n K ops l (putS σ o.dst v) Γ Ms) : OpT P f R B n K ops l o σ Γ Ms :=
  op_val (X := Unit) (fun _ => v) (fun _ => Γ) (fun _ => Ms) hd (fun w hs => ⟨(), w, h w hs, hs⟩) (fun _ => k)

/-- A variable (a row of cells of one block) that is owned. -/
def boxR (b : Nat) (cs : List Value) (T : TypeId) : Res := ⟨fun x => x = b, fun w => w.heap[b]? = some (.cells cs.toArray T (0, 0))⟩
def AllocOp (P : Program) (σ : Nat → Value) (o : Oper) (val : Nat → Value) (cs : List Value) (T : TypeId) : Prop :=
  ∀ w, (execOp (ev σ) o).run P w = .ok (.value (val w.heap.size)) { w with heap := w.heap.push (.cells cs.toArray T (0, 0)) }
theorem St.alloc {w : World} (h : St B Γ Ms w) (cs : List Value) (T : TypeId) : St B Γ (boxR w.heap.size cs T :: Ms) { w with heap := w.heap.push (.cells cs.toArray T (0, 0)) } := by
  refine h.born (Chg.push _ w _) ?_ ?_
  · intro w2 h2
    have := h2 w.heap.size rfl
    show w2.heap[w.heap.size]? = _
    rw [this]
    show (w.heap.push _)[w.heap.size]? = _
    simp
  · intro b hb
    have hb : b = w.heap.size := hb
    subst hb
    simp
theorem op_alloc {val : Nat → Value} {cs : List Value} {T : TypeId} (h : AllocOp P σ o val cs T) (hd : dstOk n o.dst = true) (k : ∀ b, RgT P f R B n K ops l (putS σ o.dst (val b)) Γ (boxR b cs T :: Ms)) : OpT P f R B n K ops l o σ Γ Ms :=
  op_val val (fun _ => Γ) (fun b => boxR b cs T :: Ms) hd (fun w hs => ⟨w.heap.size, _, h w, hs.alloc cs T⟩) k

/-! ### Calls -/
/-- What a call does: with what is known (pre) and some of what is owned (Ms0); val, N, Ms1: what it hands back, what is known of it, what is owned then. -/
def Spec (P : Program) (k : FuncId) (args : Array Value) (pre : List Fact) (Ms0 : List Res) {X : Type} (val : X → Value) (N : X → List Fact) (Ms1 : X → List Res) : Prop :=
  ∀ ok w, (∀ b, ok b → b < w.heap.size ∧ ¬ domAll Ms0 b) → St ⟨ok, domAll Ms0, w⟩ pre Ms0 w →
    Calls P k args w fun e w' => ∃ x, e = .returned (val x) ∧ St ⟨ok, domAll Ms0, w⟩ (N x) (Ms1 x) w'

theorem op_call {k : FuncId} {args : Array Value} {pre : List Fact} {Ms0 Ms2 : List Res} {X : Type} {val : X → Value} {N : X → List Fact} {Ms1 : X → List Res}
    (he : ∀ w, (execOp (ev σ) o).run P w = .ok (.enter k args) w) (hd : dstOk n o.dst = true) (hsp : Spec P k args pre Ms0 val N Ms1) (hpre : ∀ F, F ∈ pre → F ∈ Γ) (hm : Ms.Perm (Ms0 ++ Ms2))
    (kk : ∀ x, RgT P f R B n K ops l (putS σ o.dst (val x)) (N x ++ Γ) (Ms1 x ++ Ms2)) : OpT P f R B n K ops l o σ Γ Ms := by
  intro a w hr hs
  unfold Oper.wp
  rw [hr.eval, he]
  have hs' := hs.perm hm
  refine (hsp (okOf B (Ms0 ++ Ms2) w) w ?_ (hs'.hand hpre)).mono ?_
  · intro b hb
    exact ⟨hb.2.1, fun hc => hb.2.2 (domAll_append.2 (.inl hc))⟩
  · rintro e w' ⟨x, rfl, hx⟩
    exact kk x _ _ (hr.put hd _) (hs'.frame hx)

theorem enter_func {k : FuncId} {args : Array Value} {c : Call} {fn : Func} (hop : o.op = .call c) (hc : c.callee = .value (.func k)) (ha : c.args.map (ev σ) = args) (hfn : P.funcs[k]? = some fn) (hb : fn.body.isNone = false) (hnm : (fn.name == "runtime.NumGoroutine") = false) :
    ∀ w, (execOp (ev σ) o).run P w = .ok (.enter k args) w := by
  intro w
  simp only [execOp, hop, resolve, hc, ev, Deferred.ofValue, bind, Sem.bind, pure, invoke, callFunc, program, ha]
  simp [Sem.run, hfn, hb, hnm]
end
end Go.Hy
