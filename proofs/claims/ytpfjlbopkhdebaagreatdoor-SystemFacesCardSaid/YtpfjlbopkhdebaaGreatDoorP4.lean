/- Contracts of this program's functions and the laws that they need: a separation logic over the machine's rules, one theorem each (partly printed by a program of this repository). -/
import Derived.Test.YtpfjlbopkhdebaaGreatDoorProg
import Derived.KernelRfl
import Derived.Test.YtpfjlbopkhdebaaGreatDoorP2
import Derived.Test.YtpfjlbopkhdebaaGreatDoorP3
set_option linter.unusedVariables false
set_option linter.unusedSimpArgs false
set_option linter.unusedSectionVars false
namespace Go.Hy
/-! ### A way through a term: each node becomes another, or the way ends in a refusal -/
inductive Res1 (α : Type) where
  | ok (a : α)
  | bad (e : Int)
structure Tr (C : Type) where
  own : C → Int → Int → ByteArray → List Cl → Res1 (T ⊕ (Int × List Cl))
  face : C → List Cl → Res1 (Option (List Cl))
  kid : C → Int × Int → Res1 C
section
variable {C : Type} (A : Tr C)
mutual
def trav : T → C → Res1 T
  | .mk k n nm r ks ss, c => match A.own c k n nm r with
    | .bad e => .bad e
    | .ok (.inl u) => .ok u
    | .ok (.inr p) => match travL k 0 ks c with
      | .bad e => .bad e
      | .ok ks' => match travB k ss c with
        | .bad e => .bad e
        | .ok ss' => .ok (.mk k p.1 nm p.2 ks' ss')
def travL (k : Int) : Nat → List T → C → Res1 (List T)
  | _, [], _ => .ok []
  | i, t :: ts, c => match A.kid c (binds k i) with
    | .bad e => .bad e
    | .ok c' => match trav t c' with
      | .bad e => .bad e
      | .ok t' => match travL k (i + 1) ts c with
        | .bad e => .bad e
        | .ok ts' => .ok (t' :: ts')
def travS (k : Int) : List T → C → Res1 (List T)
  | [], _ => .ok []
  | t :: ts, c => match A.kid c (0, more k) with
    | .bad e => .bad e
    | .ok c' => match trav t c' with
      | .bad e => .bad e
      | .ok t' => match travS k ts c with
        | .bad e => .bad e
        | .ok ts' => .ok (t' :: ts')
def travB (k : Int) : List Br → C → Res1 (List Br)
  | [], _ => .ok []
  | .mk f ks :: bs, c => match A.face c f with
    | .bad e => .bad e
    | .ok none => travB k bs c
    | .ok (some f') => match travS k ks c with
      | .bad e => .bad e
      | .ok ks' => match travB k bs c with
        | .bad e => .bad e
        | .ok bs' => .ok (.mk f' ks' :: bs')
end
variable {A}
def Res1.bind {α β : Type} : Res1 α → (α → Res1 β) → Res1 β
  | .ok a, f => f a
  | .bad e, _ => .bad e
theorem Res1.bind_ok {α β : Type} {x : Res1 α} {f : α → Res1 β} {b : β} (h : x.bind f = .ok b) : ∃ a, x = .ok a ∧ f a = .ok b := by
  cases x with
  | ok a => exact ⟨a, rfl, h⟩
  | bad e => cases h
/-! The same, with bind. -/
theorem trav_eq (t : T) (c : C) : trav A t c = (A.own c t.kind t.n t.name t.r).bind fun o => match o with
    | .inl u => .ok u
    | .inr p => (travL A t.kind 0 t.kids c).bind fun ks' => (travB A t.kind t.sys c).bind fun ss' => .ok (.mk t.kind p.1 t.name p.2 ks' ss') := by
  obtain ⟨k, n, nm, r, ks, ss⟩ := t
  rw [trav]
  simp only [T.kind, T.n, T.name, T.r, T.kids, T.sys]
  cases A.own c k n nm r with
  | bad e => rfl
  | ok o =>
    cases o with
    | inl u => rfl
    | inr p =>
      simp only [Res1.bind]
      cases travL A k 0 ks c with
      | bad e => rfl
      | ok ks' =>
        cases travB A k ss c <;> rfl
theorem travL_nil (k : Int) (i : Nat) (c : C) : travL A k i [] c = .ok [] := by rw [travL]
theorem travL_cons (k : Int) (i : Nat) (t : T) (ts : List T) (c : C) : travL A k i (t :: ts) c = (A.kid c (binds k i)).bind fun c' => (trav A t c').bind fun t' => (travL A k (i + 1) ts c).bind fun ts' => .ok (t' :: ts') := by
  rw [travL]
  cases A.kid c (binds k i) with
  | bad e => rfl
  | ok c' =>
    simp only [Res1.bind]
    cases trav A t c' with
    | bad e => rfl
    | ok t' => simp only; cases travL A k (i + 1) ts c <;> rfl
theorem travS_nil (k : Int) (c : C) : travS A k [] c = .ok [] := by rw [travS]
theorem travS_cons (k : Int) (t : T) (ts : List T) (c : C) : travS A k (t :: ts) c = (A.kid c (0, more k)).bind fun c' => (trav A t c').bind fun t' => (travS A k ts c).bind fun ts' => .ok (t' :: ts') := by
  rw [travS]
  cases A.kid c (0, more k) with
  | bad e => rfl
  | ok c' =>
    simp only [Res1.bind]
    cases trav A t c' with
    | bad e => rfl
    | ok t' => simp only; cases travS A k ts c <;> rfl
theorem travB_nil (k : Int) (c : C) : travB A k [] c = .ok [] := by rw [travB]
theorem travB_cons (k : Int) (b : Br) (bs : List Br) (c : C) : travB A k (b :: bs) c = (A.face c b.face).bind fun f => match f with
    | none => travB A k bs c
    | some f' => (travS A k b.kids c).bind fun ks' => (travB A k bs c).bind fun bs' => .ok (.mk f' ks' :: bs') := by
  obtain ⟨f, ks⟩ := b
  rw [travB]
  simp only [Br.face, Br.kids]
  cases A.face c f with
  | bad e => rfl
  | ok o =>
    cases o with
    | none => rfl
    | some f' =>
      simp only [Res1.bind]
      cases travS A k ks c with
      | bad e => rfl
      | ok ks' => simp only; cases travB A k bs c <;> rfl
theorem travB_snoc (k : Int) (c : C) : ∀ (l : List Br) (b : Br), travB A k (l ++ [b]) c = (travB A k l c).bind fun l' => (A.face c b.face).bind fun f => match f with
    | none => .ok l'
    | some f' => (travS A k b.kids c).bind fun ks' => .ok (l' ++ [.mk f' ks'])
  | [], b => by
    simp only [List.nil_append, travB_cons, travB_nil, Res1.bind]
  | a :: l, b => by
    simp only [List.cons_append, travB_cons, travB_snoc k c l b]
    cases A.face c a.face with
    | bad e => rfl
    | ok o =>
      cases o with
      | none => rfl
      | some f' =>
        simp only [Res1.bind]
        cases travS A k a.kids c with
        | bad e => rfl
        | ok ks' =>
          simp only
          cases travB A k l c with
          | bad e => rfl
          | ok l' =>
            simp only
            cases A.face c b.face with
            | bad e => rfl
            | ok o2 =>
              cases o2 with
              | none => rfl
              | some f2 => simp only; cases travS A k b.kids c <;> rfl
theorem travB_bad {k e : Int} {c : C} : ∀ {l m : List Br}, travB A k l c = .bad e → travB A k (l ++ m) c = .bad e
  | [], m, h => by rw [travB_nil] at h; cases h
  | a :: l, m, h => by
    rw [List.cons_append, travB_cons]
    rw [travB_cons] at h
    cases h1 : A.face c a.face with
    | bad e' => rw [h1] at h; exact h
    | ok o =>
      rw [h1] at h
      cases o with
      | none => exact travB_bad (l := l) h
      | some f' =>
        simp only [Res1.bind] at h ⊢
        cases h2 : travS A k a.kids c with
        | bad e' => rw [h2] at h; exact h
        | ok a' =>
          rw [h2] at h
          simp only at h ⊢
          cases h3 : travB A k l c with
          | bad e' => rw [h3] at h; rw [travB_bad h3]; exact h
          | ok l' => rw [h3] at h; cases h
theorem travL_len {k : Int} {c : C} : ∀ {l l' : List T} {i : Nat}, travL A k i l c = .ok l' → l'.length = l.length
  | [], l', i, h => by rw [travL_nil] at h; injection h with h; subst h; rfl
  | a :: l, l', i, h => by
    rw [travL_cons] at h
    obtain ⟨c1, _, h⟩ := Res1.bind_ok h
    obtain ⟨t', _, h⟩ := Res1.bind_ok h
    obtain ⟨ts', h3, h⟩ := Res1.bind_ok h
    injection h with h
    subst h
    simp [travL_len h3]
theorem travS_len {k : Int} {c : C} : ∀ {l l' : List T}, travS A k l c = .ok l' → l'.length = l.length
  | [], l', h => by rw [travS_nil] at h; injection h with h; subst h; rfl
  | a :: l, l', h => by
    rw [travS_cons] at h
    obtain ⟨c1, _, h⟩ := Res1.bind_ok h
    obtain ⟨t', _, h⟩ := Res1.bind_ok h
    obtain ⟨ts', h3, h⟩ := Res1.bind_ok h
    injection h with h
    subst h
    simp [travS_len h3]
theorem travB_len {k : Int} {c : C} : ∀ {l l' : List Br}, travB A k l c = .ok l' → l'.length ≤ l.length
  | [], l', h => by rw [travB_nil] at h; injection h with h; subst h; simp
  | a :: l, l', h => by
    rw [travB_cons] at h
    obtain ⟨o, _, h⟩ := Res1.bind_ok h
    cases o with
    | none => have := travB_len (l := l) h; simp; omega
    | some f' =>
      obtain ⟨ks', _, h⟩ := Res1.bind_ok h
      obtain ⟨bs', h3, h⟩ := Res1.bind_ok h
      injection h with h
      subst h
      have := travB_len h3
      simp; omega
end
end Go.Hy
namespace Go.Hy
/-! ### Bringing to the front -/
/-! ### Calls that hand back, or panic with a number -/
def errChain (T : TypeId) (e : Int) : List PanicEntry := [{ v := .iface T (.int .i64 e), recovered := false }]
/-- A call's contract, where what it comes to is a refusal, or not. -/
def SpecR (P : Program) (T : TypeId) (k : FuncId) (args : Array Value) (pre : List Fact) {α : Type} (r : Res1 α) {X : α → Type} (val : ∀ a : α, X a → Value) (N : ∀ a : α, X a → List Fact) (Ms1 : ∀ a : α, X a → List Res) : Prop :=
  (∀ a, r = .ok a → Spec P k args pre [] (val a) (N a) (Ms1 a)) ∧ (∀ e, r = .bad e → SpecP P k args pre (errChain T e))
section
variable {P : Program} {f : FuncId} {B : Base} {n : Fz} {K : List Item} {σ : Nat → Value} {Γ : List Fact} {Ms : List Res} {todo : List Item} {T : TypeId} {α : Type} {X : α → Type} {r : Res1 α} {val : ∀ a : α, X a → Value} {N : ∀ a : α, X a → List Fact} {Ms1 : ∀ a : α, X a → List Res}
theorem go_cutR {K : List Item} {it : Item} {R : Ending → World → Prop} {Ms' : List Res} (p : Prop) (live : List (Nat × Value)) (h1 : (p → ∀ σ', LiveL σ' live → GoT P f R B n K σ' Γ Ms') → GoT P f R B n (it :: K) σ Γ Ms) (h2 : p → ∀ base, GoT P f R B n K (stL base live) Γ Ms') : GoT P f R B n (it :: K) σ Γ Ms :=
  h1 (fun hp σ' hl => go_slots live hl (h2 hp))
end
/-! ### Several facts as one -/
def AllFs (L : List Fact) : Fact := ⟨fun ok w => ∀ F, F ∈ L → F.f ok w, fun ok ok' w hs h F hF => F.mono ok ok' w hs (h F hF), fun ok w w' h hs F hF => F.loc ok w w' (h F hF) hs⟩
section
variable {B : Base} {Γ : List Fact} {Ms : List Res} {w : World} {L : List Fact}
theorem St.conj (hs : St B Γ Ms w) (h : ∀ F, F ∈ L → F ∈ Γ) : St B (AllFs L :: Γ) Ms w := hs.add (fun F hF => hs.facts F (h F hF))
theorem St.unconj (hs : St B [AllFs L] Ms w) : St B L Ms w := ⟨hs.chg, fun F hF => hs.facts _ List.mem_cons_self F hF, hs.res, hs.lt, hs.disj⟩
theorem Spec.conj {P : Program} {k : FuncId} {args : Array Value} {Ms0 : List Res} {X : Type} {val : X → Value} {N : X → List Fact} {Ms1 : X → List Res} (h : Spec P k args L Ms0 val N Ms1) : Spec P k args [AllFs L] Ms0 val N Ms1 := fun ok w hok hs => h ok w hok hs.unconj
theorem SpecP.conj {P : Program} {k : FuncId} {args : Array Value} {chain : List PanicEntry} (h : SpecP P k args L chain) : SpecP P k args [AllFs L] chain := fun ok w hok hs => h ok w hok hs.unconj
theorem SpecR.conj {P : Program} {T : TypeId} {k : FuncId} {args : Array Value} {α : Type} {r : Res1 α} {X : α → Type} {val : ∀ a : α, X a → Value} {N : ∀ a : α, X a → List Fact} {Ms1 : ∀ a : α, X a → List Res} (h : SpecR P T k args L r val N Ms1) : SpecR P T k args [AllFs L] r val N Ms1 := ⟨fun a ha => (h.1 a ha).conj, fun e he => (h.2 e he).conj⟩
end
/-! ### Operations -/
section
variable {P : Program} [Tab P] {f : FuncId} {R : Ending → World → Prop} {B : Base} {n : Fz} {K : List Item} {ops : Array Oper} {i : Nat} {l : List Nat} {σ : Nat → Value} {Γ : List Fact} {Ms : List Res}
variable {dst : Option Tmp} {ty : TypeId} {v : Value} {x y : Operand}
end
section
variable {P : Program} {f : FuncId} {fn : Func} {R : Ending → World → Prop} {B : Base} {n : Fz} {K : List Item} {σ : Nat → Value} {Γ : List Fact} {Ms : List Res}
end
/-! ### A deferred closure that begins with recover -/
section
variable {P : Program} {f : FuncId} {fn : Func} {B : Base} {Γ : List Fact} {Ms : List Res}
end
section
variable {P : Program} [Tab P] {f : FuncId} {R : Ending → World → Prop} {B : Base} {n : Fz} {K : List Item} {ops : Array Oper} {i : Nat} {l : List Nat} {σ : Nat → Value} {Γ : List Fact} {Ms : List Res}
variable {dst : Option Tmp} {ty : TypeId} {v : Value} {x y : Operand}
end
/-! ### Two results that lie in variables -/
section
variable {P : Program} [Tab P] {f : FuncId} {fn : Func} {B : Base} {n : Fz} {K : List Item} {σ : Nat → Value} {Γ : List Fact} {Ms : List Res} {X : Type} {val : X → Value} {N : X → List Fact} {Ms1 : X → List Res}
end
/-! ### Leaving with two results in variables, where a call waits -/
section
variable {P : Program} [Tab P] {f : FuncId} {fn : Func} {B : Base} {n : Fz} {K : List Item} {σ : Nat → Value} {Γ : List Fact} {Ms : List Res} {X : Type} {val : X → Value} {N : X → List Fact} {Ms1 : X → List Res}
end
/-! ### More operations -/
section
variable {P : Program} [Tab P] {f : FuncId} {R : Ending → World → Prop} {B : Base} {n : Fz} {K : List Item} {ops : Array Oper} {i : Nat} {l : List Nat} {σ : Nat → Value} {Γ : List Fact} {Ms : List Res}
variable {dst : Option Tmp} {ty : TypeId} {v : Value} {x y : Operand}
theorem pe_convU6 {s d : TypeId} {a : Nat} (hs : Tab.und P s = some (.int .u32)) (hd : Tab.und P d = some (.int .u64)) (hx : ev σ x = .int .u32 (a : Int)) (ha : a < 4294967296) : PureE P σ (.convert s d x) ty (.int .u64 (a : Int)) := by
  have e : IntKind.u64.wrap (a : Int) = (a : Int) := by
    have : IntKind.u64.wrap (a : Int) = (a : Int) % 18446744073709551616 := by simp [IntKind.wrap, IntKind.bits, IntKind.signed]
    rw [this]; omega
  have := pe_convert (P := P) (ty := ty) hs hd hx
  rwa [e] at this
theorem o_convU6 {s d : TypeId} {a : Nat} (k_ : RgT P f R B n K ops l (putS σ dst (.int .u64 (a : Int))) Γ Ms) (hx : ev σ x = .int .u32 (a : Int) := by exact wn_) (ha : a < 4294967296 := by first | assumption | omega) (hs : Tab.und P s = some (.int .u32) := by rfl) (hd' : Tab.und P d = some (.int .u64) := by rfl) (hd : dstOk n dst = true := by rfl) : OpT P f R B n K ops l (opr dst (.convert s d x) ty) σ Γ Ms := sq_pure (pe_convU6 hs hd' hx ha) hd k_
end
end Go.Hy
namespace Go.Hy
/-! ### Clauses, formulas -/
def meetC (c d : Cl) : Cl := ⟨c.pos ||| d.pos, c.neg ||| d.neg⟩
theorem below_meet (c d : Cl) : decide (meetC c d = c) = below c d := by
  obtain ⟨p, n⟩ := c
  obtain ⟨p', n'⟩ := d
  simp [meetC, below]
def orUpto (l : List Cl) (i : Nat) : Nat := (l.take i).foldl (fun a c => a ||| (c.pos ||| c.neg)) 0
theorem orUpto_succ {l : List Cl} {i : Nat} (h : i < l.length) : orUpto l (i + 1) = orUpto l i ||| ((l.getD i cl0).pos ||| (l.getD i cl0).neg) := by
  unfold orUpto; rw [take_succ_getD (d := cl0) h, List.foldl_append]; rfl
theorem orUpto_lt {l : List Cl} (h : ∀ c, c ∈ l → u32 c) : ∀ i, orUpto l i < 4294967296 := by
  intro i
  have : ∀ (m : List Cl) (a : Nat), (∀ c, c ∈ m → u32 c) → a < 4294967296 → m.foldl (fun a c => a ||| (c.pos ||| c.neg)) a < 4294967296 := by
    intro m
    induction m with
    | nil => intro a _ h; exact h
    | cons c m ih =>
      intro a hm ha
      have hc := hm c List.mem_cons_self
      exact ih _ (fun d hd => hm d (List.mem_cons_of_mem _ hd)) (Nat.or_lt_two_pow (n := 32) ha (Nat.or_lt_two_pow (n := 32) hc.1 hc.2))
  exact this _ 0 (fun c hc => h c (List.mem_of_mem_take hc)) (by omega)
theorem fDims_eq (l : List Cl) : fDims l = orUpto l l.length &&& 16777215 := by
  unfold fDims orUpto; rw [List.take_length]
theorem andNot_zero {s : Nat} (hs : s < 4294967296) : decide ((andNot32 s 16777215 : Int) = 0) = decide (s < 16777216) := by
  apply decide_eq_decide.mpr
  have h : andNot32 s 16777215 = s / 16777216 * 16777216 := by
    unfold andNot32
    have e : (BitVec.ofNat 32 s &&& ~~~ BitVec.ofNat 32 16777215).toNat = s / 16777216 * 16777216 := by
      apply Nat.eq_of_testBit_eq
      intro i
      rw [← BitVec.getLsbD, BitVec.getLsbD_and, BitVec.getLsbD_not, BitVec.getLsbD_ofNat, BitVec.getLsbD_ofNat]
      rw [show s / 16777216 * 16777216 = (s / 2 ^ 24) * 2 ^ 24 from rfl, Nat.testBit_mul_two_pow, Nat.testBit_div_two_pow]
      rw [show (16777215 : Nat) = 2 ^ 24 - 1 from rfl, Nat.testBit_two_pow_sub_one]
      by_cases h1 : i < 32
      · by_cases h2 : 24 ≤ i
        · simp [h1, h2, Nat.sub_add_cancel h2]
        · simp [h1, h2]; omega
      · have : s.testBit i = false := Nat.testBit_lt_two_pow (Nat.lt_of_lt_of_le hs (Nat.pow_le_pow_right (n := 2) (by omega) (show 32 ≤ i by omega)))
        have h2 : 24 ≤ i := by omega
        simp [h1, h2, Nat.sub_add_cancel h2, this]
    exact e
  omega
end Go.Hy
namespace Go.Hy
/-! ### Least -/
def idxP (g : Cl → Bool) (l : List Cl) : Int := if l.any g then (l.findIdx g : Int) else -1
theorem getD_get {α : Type} {d : α} {l : List α} {i : Nat} (h : i < l.length) : l.getD i d = l[i] := by
  rw [List.getD_eq_getElem?_getD, List.getElem?_eq_getElem h]; rfl
theorem idxP_at {g : Cl → Bool} {l : List Cl} {i : Nat} (h : i < l.length) (hg : g (l.getD i cl0) = true) (hb : ∀ j, j < i → g (l.getD j cl0) = false) : idxP g l = i := by
  have hany : l.any g = true := List.any_eq_true.mpr ⟨_, getD_mem h, hg⟩
  have hidx : l.findIdx g = i := by
    rw [List.findIdx_eq h]
    refine ⟨by rw [← getD_get (d := cl0) h]; exact hg, fun j hj => ?_⟩
    have := hb j hj
    rwa [getD_get (d := cl0) (by omega)] at this
  unfold idxP
  rw [hany, hidx]; rfl
theorem idxP_none {g : Cl → Bool} {l : List Cl} (hb : ∀ j, j < l.length → g (l.getD j cl0) = false) : idxP g l = -1 := by
  have hany : l.any g = false := by
    rw [List.any_eq_false]
    intro x hx
    obtain ⟨j, hj, e⟩ := List.mem_iff_getElem.mp hx
    have := hb j hj
    rw [getD_get (d := cl0) hj, e] at this
    simp [this]
  unfold idxP; rw [hany]; rfl
theorem idxP_nonneg (g : Cl → Bool) (l : List Cl) : decide (0 ≤ idxP g l) = l.any g := by
  unfold idxP
  cases l.any g
  · rfl
  · simp
/-- Each once, in the order of the first. -/
def once (l : List Cl) : List Cl := l.foldl (fun o c => if c ∈ o then o else o ++ [c]) []
theorem once_snoc (l : List Cl) (c : Cl) : once (l ++ [c]) = if c ∈ once l then once l else once l ++ [c] := by
  unfold once; rw [List.foldl_append]; rfl
theorem once_gen (c : Cl) : ∀ (l o : List Cl), (c ∈ l.foldl (fun o c => if c ∈ o then o else o ++ [c]) o ↔ c ∈ o ∨ c ∈ l) ∧ (l.foldl (fun o c => if c ∈ o then o else o ++ [c]) o).length ≤ o.length + l.length
  | [], o => by simp
  | d :: l, o => by
    have ih := once_gen c l (if d ∈ o then o else o ++ [d])
    rw [List.foldl_cons]
    constructor
    · rw [ih.1, List.mem_cons]
      split
      · rename_i h
        constructor
        · rintro (h2 | h2)
          · exact .inl h2
          · exact .inr (.inr h2)
        · rintro (h2 | h2 | h2)
          · exact .inl h2
          · exact .inl (h2 ▸ h)
          · exact .inr h2
      · rw [List.mem_append, List.mem_singleton, or_assoc]
    · have h3 := ih.2
      have h4 : (if d ∈ o then o else o ++ [d]).length ≤ o.length + 1 := by split <;> simp
      simp only [List.length_cons]; omega
theorem once_mem (c : Cl) (l : List Cl) : c ∈ once l ↔ c ∈ l := by
  have := (once_gen c l []).1
  simpa [once] using this
theorem once_len (l : List Cl) : (once l).length ≤ l.length := by
  have := (once_gen cl0 l []).2
  simpa [once] using this
/-- Is a clause needless in a list? -/
def needless (l : List Cl) (c : Cl) : Bool := l.any fun d => !decide (c = d) && below c d
def kept (l : List Cl) : List Cl := (once l).filter fun c => !needless (once l) c
/-- Sorted, and the same clauses. -/
def SortOf (l l' : List Cl) : Prop := l'.Perm l ∧ l'.Pairwise fun a b => lessC b a = false
/-- What clause.Least tells: an error's number, and the clauses. -/
def LeastIs (l : List Cl) (r : Int × List Cl) : Prop :=
  if l.all right24 = false then r = (2, []) else if 64 < (kept l).length then r = (3, []) else r.1 = 0 ∧ SortOf (kept l) r.2
end Go.Hy
namespace Go.Hy
theorem all_of {l : List Cl} {g : Cl → Bool} (h : ∀ j, j < l.length → g (l.getD j cl0) = true) : l.all g = true := by
  rw [List.all_eq_true]
  intro x hx
  obtain ⟨j, hj, e⟩ := List.mem_iff_getElem.mp hx
  have := h j hj
  rwa [getD_get (d := cl0) hj, e] at this
theorem all_not {l : List Cl} {g : Cl → Bool} {i : Nat} (hi : i < l.length) (h : g (l.getD i cl0) = false) : l.all g = false := by
  rw [List.all_eq_false]
  exact ⟨l.getD i cl0, getD_mem hi, by rw [h]; decide⟩
def keptUpto (l : List Cl) (i : Nat) : List Cl := ((once l).take i).filter fun c => !needless (once l) c
theorem keptUpto_succ {l : List Cl} {i : Nat} (h : i < (once l).length) : keptUpto l (i + 1) = if needless (once l) ((once l).getD i cl0) then keptUpto l i else keptUpto l i ++ [(once l).getD i cl0] := by
  unfold keptUpto
  rw [take_succ_getD (d := cl0) h, List.filter_append]
  cases hn : needless (once l) ((once l).getD i cl0)
  · rw [List.filter_cons_of_pos (by rw [hn]; rfl)]; simp
  · rw [List.filter_cons_of_neg (by rw [hn]; decide)]; simp
theorem keptUpto_all (l : List Cl) : keptUpto l (once l).length = kept l := by simp [keptUpto, kept]
theorem keptUpto_len (l : List Cl) (i : Nat) : (keptUpto l i).length ≤ l.length := by
  unfold keptUpto
  have h1 := List.length_filter_le (fun c => !needless (once l) c) ((once l).take i)
  have h2 := once_len l
  simp only [List.length_take] at h1
  omega
theorem once_take_succ {l : List Cl} {i : Nat} (h : i < l.length) : once (l.take (i + 1)) = if l.getD i cl0 ∈ once (l.take i) then once (l.take i) else once (l.take i) ++ [l.getD i cl0] := by
  rw [take_succ_getD (d := cl0) h, once_snoc]
theorem once_take_len (l : List Cl) (i : Nat) : (once (l.take i)).length ≤ l.length := by
  have := once_len (l.take i); simp only [List.length_take] at this; omega
theorem kept_mem {l : List Cl} {c : Cl} (h : c ∈ kept l) : c ∈ l := by
  unfold kept at h
  exact (once_mem c l).mp (List.mem_filter.mp h).1
end Go.Hy
namespace Go.Hy
/-! ### What Least tells of a formula that may be -/
theorem lessC_tri (a b : Cl) : lessC a b = true ∨ a = b ∨ lessC b a = true := by
  obtain ⟨p, n⟩ := a
  obtain ⟨p', n'⟩ := b
  simp only [lessC, Bool.or_eq_true, Bool.and_eq_true, decide_eq_true_eq, Cl.mk.injEq]
  omega
theorem lessC_asym {a b : Cl} (h : lessC a b = true) : lessC b a = false := by
  simp only [lessC, Bool.or_eq_true, Bool.and_eq_true, decide_eq_true_eq, Bool.or_eq_false_iff, Bool.and_eq_false_iff, decide_eq_false_iff_not] at *
  omega
theorem lessC_trans {a b c : Cl} (h : lessC a b = true) (h2 : lessC b c = true) : lessC a c = true := by
  simp only [lessC, Bool.or_eq_true, Bool.and_eq_true, decide_eq_true_eq] at *
  omega
theorem lessC_irr (a : Cl) : lessC a a = false := by simp [lessC]
theorem antis {a b : Cl} (h : lessC a b = false) (h2 : lessC b a = false) : a = b := by
  rcases lessC_tri a b with h3 | h3 | h3
  · rw [h] at h3; cases h3
  · exact h3
  · rw [h2] at h3; cases h3
/-- Two that are sorted, of the same clauses, are one. -/
theorem sorted_eq : ∀ {l m : List Cl}, l.Perm m → (l.Pairwise fun a b => lessC b a = false) → (m.Pairwise fun a b => lessC b a = false) → l = m
  | [], m, hp, _, _ => by have := hp.length_eq; cases m with | nil => rfl | cons _ _ => simp at this
  | a :: l, [], hp, _, _ => by have := hp.length_eq; simp at this
  | a :: l, b :: m, hp, h1, h2 => by
    rw [List.pairwise_cons] at h1 h2
    have ha : a ∈ b :: m := hp.mem_iff.mp List.mem_cons_self
    have hb : b ∈ a :: l := hp.mem_iff.mpr List.mem_cons_self
    have e : a = b := by
      rcases List.mem_cons.mp ha with h | h
      · exact h
      · rcases List.mem_cons.mp hb with h3 | h3
        · exact h3.symm
        · exact antis (h2.1 a h |> fun x => x) (h1.1 b h3) |> fun x => by exact x
    subst e
    rw [sorted_eq (List.Perm.cons_inv hp) h1.2 h2.2]
theorem sortedC_iff : ∀ {l : List Cl}, sortedC l = true ↔ l.Pairwise fun a b => lessC a b = true
  | [] => by simp [sortedC]
  | [a] => by simp [sortedC]
  | a :: b :: l => by
    rw [sortedC, Bool.and_eq_true, sortedC_iff (l := b :: l), List.pairwise_cons (a := a)]
    constructor
    · rintro ⟨h1, h2⟩
      refine ⟨fun c hc => ?_, h2⟩
      rcases List.mem_cons.mp hc with h | h
      · exact h ▸ h1
      · exact lessC_trans h1 ((List.pairwise_cons.mp h2).1 c h)
    · rintro ⟨h1, h2⟩
      exact ⟨h1 b List.mem_cons_self, h2⟩
theorem once_of_nodup {l : List Cl} (h : l.Pairwise fun a b => lessC a b = true) : once l = l := by
  have : ∀ (m o : List Cl), ((o ++ m).Pairwise fun a b => lessC a b = true) → m.foldl (fun o c => if c ∈ o then o else o ++ [c]) o = o ++ m := by
    intro m
    induction m with
    | nil => intro o _; simp
    | cons c m ih =>
      intro o h
      rw [List.foldl_cons]
      have hn : c ∉ o := by
        intro hc
        have := (List.pairwise_append.mp h).2.2 c hc c List.mem_cons_self
        rw [lessC_irr] at this; cases this
      rw [if_neg hn, ih (o ++ [c]) (by simpa using h)]
      simp
  have := this l [] (by simpa using h)
  simpa [once] using this
theorem apart_iff {l : List Cl} : apart l = true ↔ ∀ a, a ∈ l → ∀ b, b ∈ l → a = b ∨ below a b = false := by
  unfold apart
  simp only [List.all_eq_true, Bool.or_eq_true, decide_eq_true_eq, Bool.not_eq_true']
theorem needless_iff {l : List Cl} {c : Cl} : needless l c = false ↔ ∀ d, d ∈ l → c = d ∨ below c d = false := by
  unfold needless
  rw [List.any_eq_false]
  constructor
  · intro h d hd
    have := h d hd
    simp only [Bool.and_eq_true, Bool.not_eq_true', decide_eq_false_iff_not, not_and, Bool.not_eq_true] at this
    by_cases e : c = d
    · exact .inl e
    · exact .inr (this e)
  · intro h d hd
    simp only [Bool.and_eq_true, Bool.not_eq_true', decide_eq_false_iff_not, not_and, Bool.not_eq_true]
    intro e
    exact (h d hd).resolve_left e
theorem least_right {l : List Cl} {r : Int × List Cl} (h : LeastIs l r) : (decide (r.1 = 0) && decide (r.2 = l)) = fRight l := by
  rw [Bool.eq_iff_iff, Bool.and_eq_true, decide_eq_true_eq, decide_eq_true_eq]
  unfold LeastIs at h
  constructor
  · rintro ⟨h1, h2⟩
    split at h
    · rw [h] at h1; cases h1
    · rename_i hr
      split at h
      · rw [h] at h1; cases h1
      · rename_i h64
        obtain ⟨_, hp, hs⟩ := h
        rw [h2] at hp hs
        have hr' : l.all right24 = true := by simpa using hr
        have hlen := hp.length_eq
        have hk1 : (kept l).length ≤ (once l).length := by unfold kept; exact List.length_filter_le _ _
        have ho := once_len l
        have hkeep : kept l = once l := by
          have : (kept l).Sublist (once l) := by unfold kept; exact List.filter_sublist
          exact this.eq_of_length (by omega)
        have hnd : ∀ c, c ∈ l → needless (once l) c = false := by
          intro c hc
          have : c ∈ kept l := hp.mem_iff.mp hc
          unfold kept at this
          have := (List.mem_filter.mp this).2
          simpa using this
        have hap : apart l = true := apart_iff.mpr fun a ha b hb => needless_iff.mp (hnd a ha) b ((once_mem b l).mpr hb)
        have hnodup : (once l).Nodup := by
          have : ∀ (m o : List Cl), o.Nodup → (m.foldl (fun o c => if c ∈ o then o else o ++ [c]) o).Nodup := by
            intro m
            induction m with
            | nil => intro o h; exact h
            | cons c m ih =>
              intro o h
              rw [List.foldl_cons]
              apply ih
              split
              · exact h
              · rename_i hn
                rw [List.nodup_append]
                refine ⟨h, by simp, ?_⟩
                intro a ha b hb e
                rw [List.mem_singleton] at hb
                exact hn (hb ▸ e ▸ ha)
          exact this l [] List.nodup_nil
        have hln : l.Nodup := (hp.nodup_iff).mpr (hkeep ▸ hnodup)
        have hst : sortedC l = true := by
          rw [sortedC_iff]
          have hboth : l.Pairwise fun a b => lessC b a = false ∧ a ≠ b := hs.and hln
          exact hboth.imp fun {a b} ⟨h3, h4⟩ => by
            rcases lessC_tri a b with h5 | h5 | h5
            · exact h5
            · exact absurd h5 h4
            · rw [h3] at h5; cases h5
        unfold fRight
        rw [hr', hst, hap]
        simp; omega
  · intro hf
    unfold fRight at hf
    simp only [Bool.and_eq_true, decide_eq_true_eq] at hf
    obtain ⟨⟨⟨hr, hs⟩, ha⟩, h64⟩ := hf
    have hs' := sortedC_iff.mp hs
    have ho := once_of_nodup hs'
    have hk : kept l = l := by
      unfold kept
      rw [ho, List.filter_eq_self]
      intro c hc
      have : needless l c = false := needless_iff.mpr fun d hd => apart_iff.mp ha c hc d hd
      simp [this]
    rw [hr, if_neg (by decide), hk, if_neg (by omega)] at h
    exact ⟨h.1, sorted_eq h.2.1 h.2.2 (hs'.imp fun h => lessC_asym h)⟩
end Go.Hy
namespace Go.Hy
/-! ### Sets of dimensions as bits of a number, by the document's definitions -/
def hasM (s : Nat) (i : Int) : Bool := decide (0 ≤ i) && decide (i < 24) && s.testBit i.toNat
theorem hasM_eq (s : Nat) (i : Int) : hasM s i = (decide (0 ≤ i) && decide (i < 24) && decide (s / 2 ^ i.toNat % 2 = 1)) := by
  unfold hasM; rw [Nat.testBit_eq_decide_div_mod_eq]
/-- The dimensions of a set below a number, rising. -/
def listTo (s n : Nat) : List Int := ((List.range n).filter s.testBit).map fun (i : Nat) => (i : Int)
abbrev listM (s : Nat) : List Int := listTo s 24
theorem listTo_in {s n : Nat} {x : Int} (h : x ∈ listTo s n) : 0 ≤ x ∧ x < n := by
  unfold listTo at h
  simp only [List.mem_map, List.mem_filter, List.mem_range] at h
  obtain ⟨i, ⟨h1, _⟩, rfl⟩ := h
  omega
theorem listTo_mem {s n : Nat} {x : Int} : x ∈ listTo s n ↔ 0 ≤ x ∧ x < n ∧ s.testBit x.toNat = true := by
  unfold listTo
  simp only [List.mem_map, List.mem_filter, List.mem_range]
  constructor
  · rintro ⟨i, ⟨h1, h2⟩, rfl⟩; exact ⟨by omega, by omega, by simpa using h2⟩
  · rintro ⟨h1, h2, h3⟩; exact ⟨x.toNat, ⟨by omega, h3⟩, by omega⟩
theorem listTo_len (s n : Nat) : (listTo s n).length ≤ n := by
  unfold listTo
  rw [List.length_map]
  have := List.length_filter_le s.testBit (List.range n)
  simpa using this
theorem and24 (s : Nat) : s &&& 16777215 = s % 2 ^ 24 := by
  rw [show (16777215 : Nat) = 2 ^ 24 - 1 from rfl, Nat.and_two_pow_sub_one_eq_mod]
end Go.Hy
namespace Go.Hy
/-! ### The document's clauses and formulas -/
theorem succ_inv {p : Nat → Prop} {i : Nat} (h : ∀ j, j < i → p j) (hi : p i) : ∀ j, j < i + 1 → p j := fun j hj => by
  rcases Nat.lt_succ_iff_lt_or_eq.mp hj with h2 | h2
  · exact h j h2
  · exact h2 ▸ hi
theorem any_false_of {α : Type} {d : α} {l : List α} {g : α → Bool} (h : ∀ j, j < l.length → g (l.getD j d) = false) : l.any g = false := by
  rw [List.any_eq_false]
  intro x hx
  obtain ⟨j, hj, e⟩ := List.mem_iff_getElem.mp hx
  have := h j hj
  rw [getD_get (d := d) hj, e] at this
  simp [this]
theorem any_true_at {α : Type} {d : α} {l : List α} {g : α → Bool} {i : Nat} (hi : i < l.length) (h : g (l.getD i d) = true) : l.any g = true := List.any_eq_true.mpr ⟨_, getD_mem hi, h⟩
theorem all_true_of {α : Type} {d : α} {l : List α} {g : α → Bool} (h : ∀ j, j < l.length → g (l.getD j d) = true) : l.all g = true := by
  rw [List.all_eq_true]
  intro x hx
  obtain ⟨j, hj, e⟩ := List.mem_iff_getElem.mp hx
  have := h j hj
  rwa [getD_get (d := d) hj, e] at this
theorem all_false_at {α : Type} {d : α} {l : List α} {g : α → Bool} {i : Nat} (hi : i < l.length) (h : g (l.getD i d) = false) : l.all g = false := by
  rw [List.all_eq_false]
  exact ⟨l.getD i d, getD_mem hi, by rw [h]; decide⟩
def rclash (c : Cl) : Bool := (List.range 24).any fun i => hasM c.pos (i : Int) && hasM c.neg (i : Int)
theorem rclash_eq {c : Cl} (h : right24 c = true) : rclash c = clash c := by
  simp only [right24, Bool.and_eq_true, decide_eq_true_eq] at h
  rw [Bool.eq_iff_iff]
  unfold rclash clash
  rw [List.any_eq_true, decide_eq_true_eq]
  constructor
  · rintro ⟨i, hi, hb⟩ h0
    simp only [hasM, Bool.and_eq_true, decide_eq_true_eq, Int.toNat_natCast] at hb
    have := congrArg (fun n => Nat.testBit n i) h0
    simp only [Nat.testBit_and, Nat.zero_testBit] at this
    rw [hb.1.2, hb.2.2] at this
    cases this
  · intro h0
    obtain ⟨i, hi⟩ : ∃ i, (c.pos &&& c.neg).testBit i = true := by
      apply Classical.byContradiction
      intro hn
      exact h0 (Nat.eq_of_testBit_eq fun i => by
        rw [Nat.zero_testBit]
        cases hb : (c.pos &&& c.neg).testBit i
        · rfl
        · exact absurd ⟨i, hb⟩ hn)
    rw [Nat.testBit_and, Bool.and_eq_true] at hi
    have hlt : i < 24 := by
      apply Classical.byContradiction
      intro hge
      have : c.pos.testBit i = false := Nat.testBit_lt_two_pow (Nat.lt_of_lt_of_le h.1 (Nat.pow_le_pow_right (n := 2) (by omega) (show 24 ≤ i by omega)))
      rw [this] at hi; cases hi.1
    exact ⟨i, List.mem_range.mpr hlt, by simp [hasM, hi.1, hi.2]; omega⟩
/-! A clause is put in its place. -/
def insC (c : Cl) : List Cl → List Cl
  | [] => [c]
  | d :: l => if lessC d c then d :: insC c l else if d = c then d :: l else c :: d :: l
def rl (l : List Cl) (m : List Cl) : List Cl := m.foldl (fun o c => if needless l c then o else insC c o) []
def rlTo (l : List Cl) (i : Nat) : List Cl := rl l (l.take i)
abbrev refLeast (l : List Cl) : List Cl := rl l l
theorem rlTo_zero (l : List Cl) : rlTo l 0 = [] := by simp [rlTo, rl]
theorem rlTo_all (l : List Cl) : rlTo l l.length = refLeast l := by simp [rlTo]
theorem rlTo_succ {l : List Cl} {i : Nat} (h : i < l.length) : rlTo l (i + 1) = if needless l (l.getD i cl0) then rlTo l i else insC (l.getD i cl0) (rlTo l i) := by
  unfold rlTo rl; rw [take_succ_getD (d := cl0) h, List.foldl_append]; rfl
theorem insC_mem {c x : Cl} : ∀ {l : List Cl}, x ∈ insC c l ↔ x = c ∨ x ∈ l
  | [] => by simp [insC]
  | d :: l => by
    unfold insC
    split
    · rw [List.mem_cons, insC_mem (l := l), List.mem_cons]
      constructor
      · rintro (h | h | h)
        · exact .inr (.inl h)
        · exact .inl h
        · exact .inr (.inr h)
      · rintro (h | h | h)
        · exact .inr (.inl h)
        · exact .inl h
        · exact .inr (.inr h)
    · split
      · rename_i h
        subst h
        simp
      · simp
theorem insC_len (c : Cl) : ∀ l : List Cl, (insC c l).length ≤ l.length + 1
  | [] => by simp [insC]
  | d :: l => by
    unfold insC
    have := insC_len c l
    split
    · simp; omega
    · split <;> simp
theorem insC_sorted {c : Cl} : ∀ {l : List Cl}, (l.Pairwise fun a b => lessC a b = true) → (insC c l).Pairwise fun a b => lessC a b = true
  | [], _ => by simp [insC]
  | d :: l, h => by
    rw [List.pairwise_cons] at h
    unfold insC
    split
    · rename_i hd
      rw [List.pairwise_cons]
      refine ⟨fun x hx => ?_, insC_sorted h.2⟩
      rcases insC_mem.mp hx with e | e
      · exact e ▸ hd
      · exact h.1 x e
    · rename_i hd
      split
      · exact List.pairwise_cons.mpr h
      · rename_i hne
        have hcd : lessC c d = true := by
          rcases lessC_tri c d with h3 | h3 | h3
          · exact h3
          · exact absurd h3.symm hne
          · exact absurd h3 hd
        rw [List.pairwise_cons]
        refine ⟨fun x hx => ?_, List.pairwise_cons.mpr h⟩
        rcases List.mem_cons.mp hx with e | e
        · exact e ▸ hcd
        · exact lessC_trans hcd (h.1 x e)
theorem rl_sorted (l : List Cl) : ∀ (m o : List Cl), (o.Pairwise fun a b => lessC a b = true) → (m.foldl (fun o c => if needless l c then o else insC c o) o).Pairwise fun a b => lessC a b = true
  | [], o, h => h
  | c :: m, o, h => by
    rw [List.foldl_cons]
    apply rl_sorted l m
    split
    · exact h
    · exact insC_sorted h
theorem rl_mem (l : List Cl) (x : Cl) : ∀ (m o : List Cl), x ∈ m.foldl (fun o c => if needless l c then o else insC c o) o ↔ x ∈ o ∨ (x ∈ m ∧ needless l x = false)
  | [], o => by simp
  | c :: m, o => by
    rw [List.foldl_cons, rl_mem l x m]
    by_cases hn : needless l c = true
    · rw [if_pos hn, List.mem_cons]
      constructor
      · rintro (h | ⟨h, h2⟩)
        · exact .inl h
        · exact .inr ⟨.inr h, h2⟩
      · rintro (h | ⟨h | h, h2⟩)
        · exact .inl h
        · subst h; rw [hn] at h2; cases h2
        · exact .inr ⟨h, h2⟩
    · rw [if_neg hn, insC_mem, List.mem_cons]
      constructor
      · rintro ((h | h) | ⟨h, h2⟩)
        · subst h; exact .inr ⟨.inl rfl, by simpa using hn⟩
        · exact .inl h
        · exact .inr ⟨.inr h, h2⟩
      · rintro (h | ⟨h | h, h2⟩)
        · exact .inl (.inr h)
        · exact .inl (.inl h)
        · exact .inr ⟨h, h2⟩
theorem refLeast_mem {l : List Cl} {x : Cl} : x ∈ refLeast l ↔ x ∈ l ∧ needless l x = false := by
  have := rl_mem l x l []
  simpa [refLeast, rl] using this
theorem refLeast_sorted (l : List Cl) : (refLeast l).Pairwise fun a b => lessC a b = true := rl_sorted l l [] List.Pairwise.nil
theorem rlTo_len (l : List Cl) (i : Nat) : (rlTo l i).length ≤ i := by
  have : ∀ (m o : List Cl), (m.foldl (fun o c => if needless l c then o else insC c o) o).length ≤ o.length + m.length := by
    intro m
    induction m with
    | nil => intro o; simp
    | cons c m ih =>
      intro o
      rw [List.foldl_cons]
      have h1 := ih (if needless l c then o else insC c o)
      have h2 : (if needless l c = true then o else insC c o).length ≤ o.length + 1 := by
        split
        · omega
        · exact insC_len c o
      simp only [List.length_cons]; omega
  have := this (l.take i) []
  unfold rlTo rl
  simp at this ⊢
  omega
theorem rlTo_in {l : List Cl} {i : Nat} {c : Cl} (h : c ∈ rlTo l i) : c ∈ l := by
  have := (rl_mem l c (l.take i) []).mp h
  rcases this with h | h
  · cases h
  · exact List.mem_of_mem_take h.1
theorem strict_ext : ∀ {l m : List Cl}, (l.Pairwise fun a b => lessC a b = true) → (m.Pairwise fun a b => lessC a b = true) → (∀ x, x ∈ l ↔ x ∈ m) → l = m
  | [], [], _, _, _ => rfl
  | [], b :: m, _, _, h => by have := (h b).mpr List.mem_cons_self; cases this
  | a :: l, [], _, _, h => by have := (h a).mp List.mem_cons_self; cases this
  | a :: l, b :: m, h1, h2, h => by
    rw [List.pairwise_cons] at h1 h2
    have e : a = b := by
      rcases List.mem_cons.mp ((h a).mp List.mem_cons_self) with h3 | h3
      · exact h3
      · rcases List.mem_cons.mp ((h b).mpr List.mem_cons_self) with h4 | h4
        · exact h4.symm
        · have h5 := h2.1 a h3
          have h6 := h1.1 b h4
          rw [lessC_asym h5] at h6; cases h6
    subst e
    congr 1
    apply strict_ext h1.2 h2.2
    intro x
    have hx := h x
    rw [List.mem_cons, List.mem_cons] at hx
    constructor
    · intro h3
      rcases hx.mp (.inr h3) with h4 | h4
      · subst h4; have := h1.1 x h3; rw [lessC_irr] at this; cases this
      · exact h4
    · intro h3
      rcases hx.mpr (.inr h3) with h4 | h4
      · subst h4; have := h2.1 x h3; rw [lessC_irr] at this; cases this
      · exact h4
theorem needless_once (l : List Cl) (c : Cl) : needless (once l) c = needless l c := by
  unfold needless
  rw [Bool.eq_iff_iff, List.any_eq_true, List.any_eq_true]
  constructor
  · rintro ⟨d, h1, h2⟩; exact ⟨d, (once_mem d l).mp h1, h2⟩
  · rintro ⟨d, h1, h2⟩; exact ⟨d, (once_mem d l).mpr h1, h2⟩
theorem once_nodup (l : List Cl) : (once l).Nodup := by
  have : ∀ (m o : List Cl), o.Nodup → (m.foldl (fun o c => if c ∈ o then o else o ++ [c]) o).Nodup := by
    intro m
    induction m with
    | nil => intro o h; exact h
    | cons c m ih =>
      intro o h
      rw [List.foldl_cons]
      apply ih
      split
      · exact h
      · rename_i hn
        rw [List.nodup_append]
        refine ⟨h, by simp, ?_⟩
        intro a ha b hb e
        rw [List.mem_singleton] at hb
        exact hn (hb ▸ e ▸ ha)
  exact this l [] List.nodup_nil
theorem sortOf_ex (l : List Cl) : ∃ m, SortOf l m := by
  refine ⟨l.mergeSort (fun a b => !lessC b a), List.mergeSort_perm _ _, ?_⟩
  have := List.pairwise_mergeSort (le := fun a b => !lessC b a) (fun a b c h1 h2 => by
    simp only [Bool.not_eq_true'] at *
    simp only [lessC, Bool.or_eq_false_iff, Bool.and_eq_false_iff, decide_eq_false_iff_not] at *
    omega) (fun a b => by
    rcases lessC_tri a b with h | h | h
    · simp [lessC_asym h]
    · subst h; simp [lessC_irr]
    · simp [lessC_asym h]) l
  exact this.imp fun h => by simpa using h
theorem sortOf_eq {l m : List Cl} (h : SortOf (kept l) m) : m = refLeast l := by
  have hnd : m.Nodup := (h.1.nodup_iff).mpr (by unfold kept; exact (once_nodup l).filter _)
  have hb : m.Pairwise fun a b => lessC b a = false ∧ a ≠ b := h.2.and hnd
  refine strict_ext ?_ (refLeast_sorted l) (fun x => ?_)
  · exact hb.imp fun {a b} ⟨h3, h4⟩ => by
      rcases lessC_tri a b with h5 | h5 | h5
      · exact h5
      · exact absurd h5 h4
      · rw [h3] at h5; cases h5
  · rw [h.1.mem_iff, refLeast_mem]
    unfold kept
    rw [List.mem_filter, once_mem, needless_once]
    simp
/-- What Least tells: an error's number, and the clauses. -/
def leastF (l : List Cl) : Int × List Cl := if l.all right24 = false then (2, []) else if 64 < (refLeast l).length then (3, []) else (0, refLeast l)
theorem leastIs_eq {l : List Cl} {r : Int × List Cl} (h : LeastIs l r) : r = leastF l := by
  unfold LeastIs at h
  unfold leastF
  by_cases h1 : l.all right24 = false
  · rw [if_pos h1] at h ⊢; exact h
  · rw [if_neg h1] at h ⊢
    by_cases h2 : 64 < (kept l).length
    · have h3 : (kept l).length = (refLeast l).length := by
        obtain ⟨m, hm⟩ := sortOf_ex (kept l)
        rw [← hm.1.length_eq, sortOf_eq hm]
      rw [if_pos h2] at h
      rw [if_pos (by omega)]; exact h
    · rw [if_neg h2] at h
      have e := sortOf_eq h.2
      have h3 : (kept l).length = (refLeast l).length := by rw [← h.2.1.length_eq, e]
      rw [if_neg (by omega)]
      exact Prod.ext h.1 e
theorem leastF_right (l : List Cl) : (decide ((leastF l).1 = 0) && decide ((leastF l).2 = l)) = fRight l := by
  obtain ⟨r, hr⟩ : ∃ r, LeastIs l r := by
    unfold LeastIs
    by_cases h1 : l.all right24 = false
    · exact ⟨_, by rw [if_pos h1]⟩
    · by_cases h2 : 64 < (kept l).length
      · exact ⟨_, by rw [if_neg h1, if_pos h2]⟩
      · obtain ⟨m, hm⟩ := sortOf_ex (kept l)
        exact ⟨(0, m), by rw [if_neg h1, if_neg h2]; exact ⟨rfl, hm⟩⟩
  rw [← leastIs_eq hr]
  exact least_right hr
/-- A clause in its place, by the place. -/
theorem insC_at {c : Cl} : ∀ {l : List Cl} {k : Nat}, k ≤ l.length → (∀ j, j < k → lessC (l.getD j cl0) c = true) → (k < l.length → lessC (l.getD k cl0) c = false) → insC c l = if k < l.length ∧ l.getD k cl0 = c then l else l.take k ++ [c] ++ l.drop k
  | [], k, hk, h1, h2 => by simp at hk; subst hk; simp [insC]
  | d :: l, 0, hk, h1, h2 => by
    have h := h2 (by simp)
    simp only [List.getD_cons_zero] at h
    unfold insC
    rw [h, if_neg (by decide)]
    simp
  | d :: l, k + 1, hk, h1, h2 => by
    have h := h1 0 (by omega)
    simp only [List.getD_cons_zero] at h
    unfold insC
    rw [if_pos h, insC_at (l := l) (k := k) (by simpa using hk) (fun j hj => by simpa using h1 (j + 1) (by omega)) (fun hlt => by simpa using h2 (by simpa using hlt))]
    simp only [List.length_cons, List.getD_cons_succ, List.take_succ_cons, List.drop_succ_cons, List.cons_append, Nat.add_lt_add_iff_right]
    split <;> rfl
end Go.Hy
namespace Go.Hy
/-! ### How great a term is: nodes, clauses, bytes -/
def bulkG (t : T) (ks : List Nat) (bs : List (List Nat)) : Nat := 1 + t.r.length + t.name.size + ks.sum + ((t.sys.zip bs).map fun p => 1 + p.1.face.length + p.2.sum).sum
def bulk : T → Nat := tf bulkG
def brBulk (b : Br) : Nat := 1 + b.face.length + (b.kids.map bulk).sum
theorem bulk_eq (t : T) : bulk t = 1 + t.r.length + t.name.size + (t.kids.map bulk).sum + (t.sys.map brBulk).sum := by
  conv => lhs; rw [bulk, tf_eq]
  unfold bulkG
  congr 2
  generalize t.sys = l
  induction l with
  | nil => rfl
  | cons b l ih => simp only [List.map_cons, List.zip_cons_cons, List.map_cons]; rw [ih]; rfl
def bK (t : T) (i : Nat) : Nat := 1 + t.r.length + t.name.size + ((t.kids.take i).map bulk).sum
def bS (t : T) (i : Nat) : Nat := bK t t.kids.length + ((t.sys.take i).map brBulk).sum
def bJ (t : T) (i j : Nat) : Nat := bS t i + 1 + (t.sys.getD i br0).face.length + (((t.sys.getD i br0).kids.take j).map bulk).sum
theorem sum_take_succ {α : Type} (f : α → Nat) {l : List α} {i : Nat} {d : α} (h : i < l.length) : ((l.take (i + 1)).map f).sum = ((l.take i).map f).sum + f (l.getD i d) := by
  rw [take_succ_getD (d := d) h, List.map_append, List.sum_append]; simp
theorem sum_take_le {α : Type} (f : α → Nat) : ∀ (l : List α) (i : Nat), ((l.take i).map f).sum ≤ (l.map f).sum
  | [], i => by simp
  | a :: l, 0 => by simp
  | a :: l, i + 1 => by have := sum_take_le f l i; simp only [List.take_succ_cons, List.map_cons, List.sum_cons]; omega
theorem bK_zero (t : T) : bK t 0 = 1 + t.r.length + t.name.size := by simp [bK]
theorem bK_succ {t : T} {i : Nat} (h : i < t.kids.length) : bK t (i + 1) = bK t i + bulk (t.kids.getD i t0) := by
  unfold bK; rw [sum_take_succ bulk h (d := t0)]; omega
theorem bS_zero (t : T) : bS t 0 = bK t t.kids.length := by simp [bS]
theorem bJ_zero (t : T) (i : Nat) : bJ t i 0 = bS t i + 1 + (t.sys.getD i br0).face.length := by simp [bJ]
theorem bJ_succ {t : T} {i j : Nat} (h : j < (t.sys.getD i br0).kids.length) : bJ t i (j + 1) = bJ t i j + bulk ((t.sys.getD i br0).kids.getD j t0) := by
  unfold bJ; rw [sum_take_succ bulk h (d := t0)]; omega
theorem bS_succ {t : T} {i : Nat} (h : i < t.sys.length) : bS t (i + 1) = bJ t i (t.sys.getD i br0).kids.length := by
  unfold bS bJ bS; rw [sum_take_succ brBulk h (d := br0), List.take_length]; unfold brBulk; omega
theorem bS_all (t : T) : bS t t.sys.length = bulk t := by
  rw [bulk_eq]; unfold bS bK; rw [List.take_length, List.take_length]
theorem bS_le (t : T) (i : Nat) : bS t i ≤ bulk t := by
  rw [bulk_eq]; unfold bS bK; rw [List.take_length]; have := sum_take_le brBulk t.sys i; omega
theorem bK_le (t : T) (i : Nat) : bK t i ≤ bulk t := by
  rw [bulk_eq]; unfold bK; have := sum_take_le bulk t.kids i; omega
theorem bJ_le {t : T} {i j : Nat} (h : i < t.sys.length) : bJ t i j ≤ bulk t := by
  have h1 := bS_le t (i + 1)
  rw [bS_succ h] at h1
  unfold bJ at h1 ⊢
  rw [List.take_length] at h1
  have := sum_take_le bulk (t.sys.getD i br0).kids j
  omega
/-- What a count has come to, as far as 'most'. -/
def BulkIs (t : T) (part : Nat) (most n : Int) : Prop := 0 ≤ n ∧ n ≤ 2 * most + 1 ∧ ((n ≤ most ∧ n = part) ∨ (most < n ∧ most < bulk t))
theorem size_le_bulk : ∀ t, size t ≤ bulk t := T.ind fun t ih => by
  have hk : ∀ (F G : T → Nat) (l : List T), (∀ k, k ∈ l → F k ≤ G k) → (l.map F).sum ≤ (l.map G).sum := by
    intro F G l
    induction l with
    | nil => intro _; simp
    | cons a l ih => intro h; have := ih (fun k hk => h k (List.mem_cons_of_mem _ hk)); have := h a List.mem_cons_self; simp only [List.map_cons, List.sum_cons]; omega
  have e : size t = 1 + ((parts t).map fun p => size p.1).sum := by
    rw [size_eq]
    have : ∀ (l : List Part) (a : Nat), l.foldl (fun a p => a + size p.1) a = a + (l.map fun p => size p.1).sum := by
      intro l
      induction l with
      | nil => intro a; simp
      | cons b l ih => intro a; rw [List.foldl_cons, ih]; simp; omega
    exact this _ _
  rw [e, parts_map, bulk_eq, List.sum_append]
  have h1 := hk size bulk t.kids (fun k hk => by obtain ⟨p, hp, e⟩ := kid_mem_parts hk; exact e ▸ ih p hp)
  have h2 : ((t.sys.map fun b => b.kids.map size).flatten).sum ≤ (t.sys.map brBulk).sum := by
    have : ∀ (l : List Br), (∀ b, b ∈ l → b ∈ t.sys) → ((l.map fun b => b.kids.map size).flatten).sum ≤ (l.map brBulk).sum := by
      intro l
      induction l with
      | nil => intro _; simp
      | cons b l ih2 =>
        intro h
        have h3 := ih2 (fun b hb => h b (List.mem_cons_of_mem _ hb))
        have h4 := hk size bulk b.kids (fun k hk => by obtain ⟨p, hp, e⟩ := sys_mem_parts (h b List.mem_cons_self) hk; exact e ▸ ih p hp)
        simp only [List.map_cons, List.flatten_cons, List.sum_append, List.sum_cons]
        have hb : brBulk b = 1 + b.face.length + (b.kids.map bulk).sum := rfl
        rw [hb]
        omega
    exact this t.sys (fun _ h => h)
  omega
end Go.Hy
/- THE TYPES' TABLE of this seat's program, printed by mk_tab.py (a program of this repository): each row is checked by the kernel against the loaded program. -/
namespace Go.Proofs.YtpfjlbopkhdebaaGreatDoor.Hy
open Go.Proofs
set_option maxRecDepth 100000
set_option maxHeartbeats 8000000
def tabU : Nat → Option (TypeDesc)
  | 1 => some (.func #[] #[] false)
  | 2 => some (.int .i64)
  | 3 => some (.int .i64)
  | 4 => some (.bool)
  | 5 => some (.int .u8)
  | 9 => some (.string)
  | 12 => some (.int .u64)
  | 20 => some (.interface #[])
  | 21 => some (.int .i32)
  | 22 => some (.slice 47)
  | 23 => some (.func #[22] #[4] false)
  | 24 => some (.func #[] #[4] false)
  | 25 => some (.slice 45)
  | 26 => some (.int .i64)
  | 28 => some (.func #[22] #[25, 26] false)
  | 30 => some (.func #[22] #[25, 3] false)
  | 31 => some (.func #[22] #[3] false)
  | 32 => some (.func #[25, 25] #[4] false)
  | 33 => some (.slice 35)
  | 36 => some (.func #[35, 25] #[4] false)
  | 37 => some (.func #[35] #[35] false)
  | 39 => some (.func #[35, 3, 25] #[35, 26] false)
  | 41 => some (.func #[35, 3, 25] #[35, 3] false)
  | 42 => some (.func #[35, 35] #[4] false)
  | 43 => some (.int .u32)
  | 48 => some (.func #[35, 3, 25] #[4] false)
  | 49 => some (.func #[35, 45] #[35, 26] false)
  | 50 => some (.func #[35, 45] #[35, 3] false)
  | 51 => some (.func #[35, 45] #[4] false)
  | 52 => some (.func #[35] #[26] false)
  | 53 => some (.func #[45] #[4] false)
  | 54 => some (.func #[25, 45] #[25, 26] false)
  | 56 => some (.func #[3, 22, 45] #[22, 26] false)
  | 58 => some (.func #[25, 45] #[4, 26] false)
  | 59 => some (.func #[22, 45] #[4] false)
  | 60 => some (.func #[35, 3, 3] #[26] false)
  | 61 => some (.func #[35] #[43] false)
  | 62 => some (.func #[35, 45, 3, 3] #[4] false)
  | 63 => some (.func #[35] #[4] false)
  | 64 => some (.func #[3] #[25, 26] false)
  | 65 => some (.func #[35, 3, 3] #[35, 26] false)
  | 66 => some (.func #[25, 3, 3] #[25, 26] false)
  | 69 => some (.func #[68, 35] #[4] false)
  | 70 => some (.func #[71, 3] #[35, 26] false)
  | 72 => some (.func #[68, 3] #[35, 3] false)
  | 74 => some (.func #[71, 45] #[71, 26] false)
  | 76 => some (.func #[68, 45] #[68, 3] false)
  | 77 => some (.func #[71, 26, 68, 3] #[4] false)
  | 78 => some (.func #[68, 3, 45] #[4] false)
  | 79 => some (.func #[3, 22, 3, 3] #[22, 26] false)
  | 81 => some (.func #[3, 22, 3, 3] #[22, 3] false)
  | 82 => some (.func #[22, 22] #[4] false)
  | 83 => some (.func #[3, 22, 3, 25] #[22, 26] false)
  | 84 => some (.func #[3, 22, 3, 25] #[22, 3] false)
  | 85 => some (.func #[3, 22, 45] #[22, 3] false)
  | 86 => some (.func #[3, 22, 3, 25, 45, 3] #[4] false)
  | 87 => some (.func #[3, 45, 3, 25] #[4] false)
  | 88 => some (.func #[71] #[26] false)
  | 89 => some (.func #[71, 35] #[71, 26] false)
  | 90 => some (.func #[71] #[71, 26] false)
  | 91 => some (.func #[68, 35, 45] #[4] false)
  | 92 => some (.func #[35, 3] #[3] false)
  | 93 => some (.func #[35, 3, 35] #[35, 26] false)
  | 94 => some (.func #[35, 35, 3, 3, 25] #[4] false)
  | 95 => some (.func #[] #[22] false)
  | 96 => some (.func #[25, 25] #[25, 26] false)
  | 97 => some (.func #[25, 25] #[25, 3] false)
  | 98 => some (.func #[22, 99] #[3] false)
  | 99 => some (.func #[47] #[4] false)
  | 100 => some (.func #[25] #[4] false)
  | 101 => some (.func #[25] #[35] false)
  | 102 => some (.func #[35, 3, 25] #[26] false)
  | 103 => some (.func #[25, 3] #[25, 26] false)
  | 104 => some (.func #[25, 3] #[25, 26] false)
  | 107 => some (.func #[3, 25] #[106] false)
  | 108 => some (.func #[35, 3] #[35, 26] false)
  | 109 => some (.func #[35, 3, 25] #[3] false)
  | 110 => some (.func #[35] #[35, 3] false)
  | 111 => some (.func #[35, 3, 25] #[35] false)
  | 112 => some (.func #[3] #[106] false)
  | 113 => some (.func #[33, 33] #[4] false)
  | 114 => some (.func #[] #[25] false)
  | 116 => some (.slice 115)
  | 117 => some (.slice 3)
  | 118 => some (.func #[43] #[117] false)
  | 119 => some (.func #[35] #[3] false)
  | 120 => some (.func #[35, 45] #[35] false)
  | 121 => some (.func #[35, 3, 3, 4] #[4] false)
  | 122 => some (.func #[43] #[4] false)
  | 123 => some (.func #[25] #[25, 26] false)
  | 124 => some (.func #[25, 126] #[25] false)
  | 125 => some (.func #[45, 45] #[45] false)
  | 126 => some (.func #[45] #[45, 4] false)
  | 127 => some (.func #[3, 22, 128] #[22, 26] false)
  | 128 => some (.func #[35] #[35, 26] false)
  | 129 => some (.func #[45, 25] #[4] false)
  | 130 => some (.func #[25] #[43] false)
  | 131 => some (.func #[35, 133] #[4] false)
  | 132 => some (.func #[43, 3] #[43] false)
  | 133 => some (.func #[35, 3, 3] #[4] false)
  | 134 => some (.func #[43] #[3] false)
  | 135 => some (.func #[35, 117, 139] #[35, 26] false)
  | 138 => some (.func #[35, 3, 3] #[35] false)
  | 139 => some (.func #[] #[35] false)
  | 140 => some (.func #[181] #[26] true)
  | 141 => some (.func #[25, 25, 54] #[25, 26] false)
  | 143 => some (.func #[45, 3, 3] #[45, 26] false)
  | 144 => some (.func #[68] #[3] false)
  | 145 => some (.func #[35, 3, 3] #[35, 3] false)
  | 146 => some (.int .u64)
  | 147 => some (.func #[71, 128] #[71, 26] false)
  | 148 => some (.func #[43, 3] #[4] false)
  | 149 => some (.func #[68] #[68, 3] false)
  | 150 => some (.func #[68, 68] #[4] false)
  | 151 => some (.func #[3] #[3] false)
  | 152 => some (.func #[3, 22] #[35] false)
  | 154 => some (.func #[35, 3, 35, 3, 3] #[35] false)
  | 155 => some (.func #[25] #[25, 3] false)
  | 156 => some (.func #[3] #[4] false)
  | 157 => some (.func #[25, 3, 25] #[25, 26] false)
  | 158 => some (.func #[25] #[25] false)
  | 159 => some (.func #[157] #[104] false)
  | 160 => some (.func #[35, 3] #[25, 26] false)
  | 162 => some (.func #[33, 3, 151] #[33, 26] false)
  | 164 => some (.func #[3, 3] #[3, 3] false)
  | 165 => some (.func #[35, 3, 25, 3, 4] #[35] false)
  | 166 => some (.func #[25, 3, 3] #[25, 3] false)
  | 167 => some (.func #[3] #[35] false)
  | 168 => some (.func #[33] #[33] false)
  | 169 => some (.func #[156] #[] false)
  | 170 => some (.func #[156] #[] false)
  | 171 => some (.func #[43] #[170] false)
  | 172 => some (.func #[35, 3] #[4] false)
  | 173 => some (.func #[25, 53] #[4] false)
  | 174 => some (.map 45 4)
  | 175 => some (.func #[45, 45] #[4] false)
  | 176 => some (.func #[25, 177] #[] false)
  | 177 => some (.func #[45, 45] #[3] false)
  | 179 => some (.func #[3] #[43] false)
  | 180 => some (.func #[25, 3] #[25] false)
  | 181 => some (.slice 25)
  | 183 => some (.func #[43, 3, 3] #[43, 26] false)
  | 184 => some (.func #[35, 3, 3] #[3] false)
  | 185 => some (.func #[35, 3, 3, 3, 3] #[35] false)
  | 186 => some (.func #[25, 4, 3, 25, 3] #[25, 3] false)
  | 188 => some (.func #[45, 3, 3] #[45, 3] false)
  | 189 => some (.func #[9] #[4] false)
  | 190 => some (.func #[25, 3] #[4] false)
  | 191 => some (.func #[25, 53] #[3] false)
  | 192 => some (.func #[25, 3, 3, 3, 177] #[] false)
  | 193 => some (.func #[146] #[3] false)
  | 194 => some (.func #[43, 43] #[3] false)
  | 195 => some (.int .u64)
  | 196 => some (.array 29 3)
  | 197 => some (.func #[25, 45] #[4] false)
  | 198 => some (.func #[45] #[25, 26] false)
  | 199 => some (.func #[25, 3, 25] #[25, 3] false)
  | 201 => some (.func #[43, 3, 3] #[43, 3] false)
  | 202 => some (.array 32 5)
  | 203 => some (.func #[25, 3, 3, 177] #[] false)
  | 204 => some (.int .i64)
  | 206 => some (.func #[25, 3, 3, 177] #[3, 204] false)
  | 207 => some (.func #[25, 3, 3, 177] #[4] false)
  | 208 => some (.func #[25, 3, 3, 3, 177] #[3] false)
  | 210 => some (.func #[25, 3, 3, 3, 177] #[3, 4] false)
  | 211 => some (.func #[195] #[3] false)
  | 212 => some (.func #[117] #[43] false)
  | 214 => some (.func #[3] #[146] false)
  | 215 => some (.func #[] #[195] false)
  | 216 => some (.func #[25, 3, 217, 177] #[3] false)
  | 217 => some (.pointer 3)
  | 218 => some (.func #[25, 3, 3, 3, 217, 177] #[3] false)
  | 219 => some (.func #[45] #[25] false)
  | 221 => some (.func #[25, 3, 3, 217, 177] #[3, 3] false)
  | 222 => some (.func #[43, 43] #[43] false)
  | 223 => some (.func #[] #[9] false)
  | 229 => some (.func #[] #[3] false)
  | 233 => some (.pointer 5)
  | _ => none
def tabI : Nat → Option (Nat × Nat × Value)
  | 1 => some (1, 8, .nilFunc)
  | 2 => some (1, 8, .int .i64 0)
  | 3 => some (1, 8, .int .i64 0)
  | 4 => some (1, 1, .bool false)
  | 5 => some (1, 1, .int .u8 0)
  | 9 => some (1, 16, .string ⟨#[]⟩)
  | 12 => some (1, 8, .int .u64 0)
  | 21 => some (1, 4, .int .i32 0)
  | 22 => some (1, 24, .slice none 0 0)
  | 23 => some (1, 8, .nilFunc)
  | 24 => some (1, 8, .nilFunc)
  | 25 => some (1, 24, .slice none 0 0)
  | 26 => some (1, 8, .int .i64 0)
  | 28 => some (1, 8, .nilFunc)
  | 30 => some (1, 8, .nilFunc)
  | 31 => some (1, 8, .nilFunc)
  | 32 => some (1, 8, .nilFunc)
  | 33 => some (1, 24, .slice none 0 0)
  | 34 => some (6, 104, .agg #[.int .i64 0, .int .i64 0, .string ⟨#[]⟩, .slice none 0 0, .slice none 0 0, .slice none 0 0])
  | 35 => some (6, 104, .agg #[.int .i64 0, .int .i64 0, .string ⟨#[]⟩, .slice none 0 0, .slice none 0 0, .slice none 0 0])
  | 36 => some (1, 8, .nilFunc)
  | 37 => some (1, 8, .nilFunc)
  | 39 => some (1, 8, .nilFunc)
  | 41 => some (1, 8, .nilFunc)
  | 42 => some (1, 8, .nilFunc)
  | 43 => some (1, 4, .int .u32 0)
  | 44 => some (2, 8, .agg #[.int .u32 0, .int .u32 0])
  | 45 => some (2, 8, .agg #[.int .u32 0, .int .u32 0])
  | 46 => some (2, 48, .agg #[.slice none 0 0, .slice none 0 0])
  | 47 => some (2, 48, .agg #[.slice none 0 0, .slice none 0 0])
  | 48 => some (1, 8, .nilFunc)
  | 49 => some (1, 8, .nilFunc)
  | 50 => some (1, 8, .nilFunc)
  | 51 => some (1, 8, .nilFunc)
  | 52 => some (1, 8, .nilFunc)
  | 53 => some (1, 8, .nilFunc)
  | 54 => some (1, 8, .nilFunc)
  | 56 => some (1, 8, .nilFunc)
  | 58 => some (1, 8, .nilFunc)
  | 59 => some (1, 8, .nilFunc)
  | 60 => some (1, 8, .nilFunc)
  | 61 => some (1, 8, .nilFunc)
  | 62 => some (1, 8, .nilFunc)
  | 63 => some (1, 8, .nilFunc)
  | 64 => some (1, 8, .nilFunc)
  | 65 => some (1, 8, .nilFunc)
  | 66 => some (1, 8, .nilFunc)
  | 67 => some (2, 32, .agg #[.slice none 0 0, .int .i64 0])
  | 68 => some (2, 32, .agg #[.slice none 0 0, .int .i64 0])
  | 69 => some (1, 8, .nilFunc)
  | 70 => some (1, 8, .nilFunc)
  | 71 => some (2, 32, .agg #[.slice none 0 0, .int .i64 0])
  | 72 => some (1, 8, .nilFunc)
  | 74 => some (1, 8, .nilFunc)
  | 76 => some (1, 8, .nilFunc)
  | 77 => some (1, 8, .nilFunc)
  | 78 => some (1, 8, .nilFunc)
  | 79 => some (1, 8, .nilFunc)
  | 81 => some (1, 8, .nilFunc)
  | 82 => some (1, 8, .nilFunc)
  | 83 => some (1, 8, .nilFunc)
  | 84 => some (1, 8, .nilFunc)
  | 85 => some (1, 8, .nilFunc)
  | 86 => some (1, 8, .nilFunc)
  | 87 => some (1, 8, .nilFunc)
  | 88 => some (1, 8, .nilFunc)
  | 89 => some (1, 8, .nilFunc)
  | 90 => some (1, 8, .nilFunc)
  | 91 => some (1, 8, .nilFunc)
  | 92 => some (1, 8, .nilFunc)
  | 93 => some (1, 8, .nilFunc)
  | 94 => some (1, 8, .nilFunc)
  | 95 => some (1, 8, .nilFunc)
  | 96 => some (1, 8, .nilFunc)
  | 97 => some (1, 8, .nilFunc)
  | 98 => some (1, 8, .nilFunc)
  | 99 => some (1, 8, .nilFunc)
  | 100 => some (1, 8, .nilFunc)
  | 101 => some (1, 8, .nilFunc)
  | 102 => some (1, 8, .nilFunc)
  | 103 => some (1, 8, .nilFunc)
  | 104 => some (1, 8, .nilFunc)
  | 105 => some (2, 16, .agg #[.nilFunc, .nilFunc])
  | 106 => some (2, 16, .agg #[.nilFunc, .nilFunc])
  | 107 => some (1, 8, .nilFunc)
  | 108 => some (1, 8, .nilFunc)
  | 109 => some (1, 8, .nilFunc)
  | 110 => some (1, 8, .nilFunc)
  | 111 => some (1, 8, .nilFunc)
  | 112 => some (1, 8, .nilFunc)
  | 113 => some (1, 8, .nilFunc)
  | 114 => some (1, 8, .nilFunc)
  | 115 => some (2, 32, .agg #[.int .u32 0, .slice none 0 0])
  | 116 => some (1, 24, .slice none 0 0)
  | 117 => some (1, 24, .slice none 0 0)
  | 118 => some (1, 8, .nilFunc)
  | 119 => some (1, 8, .nilFunc)
  | 120 => some (1, 8, .nilFunc)
  | 121 => some (1, 8, .nilFunc)
  | 122 => some (1, 8, .nilFunc)
  | 123 => some (1, 8, .nilFunc)
  | 124 => some (1, 8, .nilFunc)
  | 125 => some (1, 8, .nilFunc)
  | 126 => some (1, 8, .nilFunc)
  | 127 => some (1, 8, .nilFunc)
  | 128 => some (1, 8, .nilFunc)
  | 129 => some (1, 8, .nilFunc)
  | 130 => some (1, 8, .nilFunc)
  | 131 => some (1, 8, .nilFunc)
  | 132 => some (1, 8, .nilFunc)
  | 133 => some (1, 8, .nilFunc)
  | 134 => some (1, 8, .nilFunc)
  | 135 => some (1, 8, .nilFunc)
  | 136 => some (2, 16, .agg #[.int .i64 0, .int .i64 0])
  | 137 => some (2, 16, .agg #[.int .i64 0, .int .i64 0])
  | 138 => some (1, 8, .nilFunc)
  | 139 => some (1, 8, .nilFunc)
  | 140 => some (1, 8, .nilFunc)
  | 141 => some (1, 8, .nilFunc)
  | 143 => some (1, 8, .nilFunc)
  | 144 => some (1, 8, .nilFunc)
  | 145 => some (1, 8, .nilFunc)
  | 146 => some (1, 8, .int .u64 0)
  | 147 => some (1, 8, .nilFunc)
  | 148 => some (1, 8, .nilFunc)
  | 149 => some (1, 8, .nilFunc)
  | 150 => some (1, 8, .nilFunc)
  | 151 => some (1, 8, .nilFunc)
  | 152 => some (1, 8, .nilFunc)
  | 154 => some (1, 8, .nilFunc)
  | 155 => some (1, 8, .nilFunc)
  | 156 => some (1, 8, .nilFunc)
  | 157 => some (1, 8, .nilFunc)
  | 158 => some (1, 8, .nilFunc)
  | 159 => some (1, 8, .nilFunc)
  | 160 => some (1, 8, .nilFunc)
  | 162 => some (1, 8, .nilFunc)
  | 164 => some (1, 8, .nilFunc)
  | 165 => some (1, 8, .nilFunc)
  | 166 => some (1, 8, .nilFunc)
  | 167 => some (1, 8, .nilFunc)
  | 168 => some (1, 8, .nilFunc)
  | 169 => some (1, 8, .nilFunc)
  | 170 => some (1, 8, .nilFunc)
  | 171 => some (1, 8, .nilFunc)
  | 172 => some (1, 8, .nilFunc)
  | 173 => some (1, 8, .nilFunc)
  | 174 => some (1, 8, .map none)
  | 175 => some (1, 8, .nilFunc)
  | 176 => some (1, 8, .nilFunc)
  | 177 => some (1, 8, .nilFunc)
  | 179 => some (1, 8, .nilFunc)
  | 180 => some (1, 8, .nilFunc)
  | 181 => some (1, 24, .slice none 0 0)
  | 183 => some (1, 8, .nilFunc)
  | 184 => some (1, 8, .nilFunc)
  | 185 => some (1, 8, .nilFunc)
  | 186 => some (1, 8, .nilFunc)
  | 188 => some (1, 8, .nilFunc)
  | 189 => some (1, 8, .nilFunc)
  | 190 => some (1, 8, .nilFunc)
  | 191 => some (1, 8, .nilFunc)
  | 192 => some (1, 8, .nilFunc)
  | 193 => some (1, 8, .nilFunc)
  | 194 => some (1, 8, .nilFunc)
  | 195 => some (1, 8, .int .u64 0)
  | 196 => some (29, 232, .agg #[.int .i64 0, .int .i64 0, .int .i64 0, .int .i64 0, .int .i64 0, .int .i64 0, .int .i64 0, .int .i64 0, .int .i64 0, .int .i64 0, .int .i64 0, .int .i64 0, .int .i64 0, .int .i64 0, .int .i64 0, .int .i64 0, .int .i64 0, .int .i64 0, .int .i64 0, .int .i64 0, .int .i64 0, .int .i64 0, .int .i64 0, .int .i64 0, .int .i64 0, .int .i64 0, .int .i64 0, .int .i64 0, .int .i64 0])
  | 197 => some (1, 8, .nilFunc)
  | 198 => some (1, 8, .nilFunc)
  | 199 => some (1, 8, .nilFunc)
  | 201 => some (1, 8, .nilFunc)
  | 202 => some (32, 32, .agg #[.int .u8 0, .int .u8 0, .int .u8 0, .int .u8 0, .int .u8 0, .int .u8 0, .int .u8 0, .int .u8 0, .int .u8 0, .int .u8 0, .int .u8 0, .int .u8 0, .int .u8 0, .int .u8 0, .int .u8 0, .int .u8 0, .int .u8 0, .int .u8 0, .int .u8 0, .int .u8 0, .int .u8 0, .int .u8 0, .int .u8 0, .int .u8 0, .int .u8 0, .int .u8 0, .int .u8 0, .int .u8 0, .int .u8 0, .int .u8 0, .int .u8 0, .int .u8 0])
  | 203 => some (1, 8, .nilFunc)
  | 204 => some (1, 8, .int .i64 0)
  | 206 => some (1, 8, .nilFunc)
  | 207 => some (1, 8, .nilFunc)
  | 208 => some (1, 8, .nilFunc)
  | 210 => some (1, 8, .nilFunc)
  | 211 => some (1, 8, .nilFunc)
  | 212 => some (1, 8, .nilFunc)
  | 214 => some (1, 8, .nilFunc)
  | 215 => some (1, 8, .nilFunc)
  | 216 => some (1, 8, .nilFunc)
  | 217 => some (1, 8, .pointer none)
  | 218 => some (1, 8, .nilFunc)
  | 219 => some (1, 8, .nilFunc)
  | 221 => some (1, 8, .nilFunc)
  | 222 => some (1, 8, .nilFunc)
  | 223 => some (1, 8, .nilFunc)
  | 229 => some (1, 8, .nilFunc)
  | 233 => some (1, 8, .pointer none)
  | _ => none
def tabL : Nat → Option (List (Nat × Nat))
  | 34 => some ([(0, 1), (1, 1), (2, 1), (3, 1), (4, 1), (5, 1)])
  | 35 => some ([(0, 1), (1, 1), (2, 1), (3, 1), (4, 1), (5, 1)])
  | 44 => some ([(0, 1), (1, 1)])
  | 45 => some ([(0, 1), (1, 1)])
  | 46 => some ([(0, 1), (1, 1)])
  | 47 => some ([(0, 1), (1, 1)])
  | 67 => some ([(0, 1), (1, 1)])
  | 68 => some ([(0, 1), (1, 1)])
  | 71 => some ([(0, 1), (1, 1)])
  | 105 => some ([(0, 1), (1, 1)])
  | 106 => some ([(0, 1), (1, 1)])
  | 115 => some ([(0, 1), (1, 1)])
  | 136 => some ([(0, 1), (1, 1)])
  | 137 => some ([(0, 1), (1, 1)])
  | _ => none
def tabF (t j : Nat) : Option Nat := (tabL t).bind fun l => (l[j]?).map (·.1)
theorem inf1 : (Tryz.prog.info? 1).map (fun i => (i.size, i.bytes, i.zero)) = some (1, 8, some (.nilFunc)) := by kernel_rfl
theorem inf2 : (Tryz.prog.info? 2).map (fun i => (i.size, i.bytes, i.zero)) = some (1, 8, some (.int .i64 0)) := by kernel_rfl
theorem inf3 : (Tryz.prog.info? 3).map (fun i => (i.size, i.bytes, i.zero)) = some (1, 8, some (.int .i64 0)) := by kernel_rfl
theorem inf4 : (Tryz.prog.info? 4).map (fun i => (i.size, i.bytes, i.zero)) = some (1, 1, some (.bool false)) := by kernel_rfl
theorem inf5 : (Tryz.prog.info? 5).map (fun i => (i.size, i.bytes, i.zero)) = some (1, 1, some (.int .u8 0)) := by kernel_rfl
theorem inf9 : (Tryz.prog.info? 9).map (fun i => (i.size, i.bytes, i.zero)) = some (1, 16, some (.string ⟨#[]⟩)) := by kernel_rfl
theorem inf12 : (Tryz.prog.info? 12).map (fun i => (i.size, i.bytes, i.zero)) = some (1, 8, some (.int .u64 0)) := by kernel_rfl
theorem inf21 : (Tryz.prog.info? 21).map (fun i => (i.size, i.bytes, i.zero)) = some (1, 4, some (.int .i32 0)) := by kernel_rfl
theorem inf22 : (Tryz.prog.info? 22).map (fun i => (i.size, i.bytes, i.zero)) = some (1, 24, some (.slice none 0 0)) := by kernel_rfl
theorem inf23 : (Tryz.prog.info? 23).map (fun i => (i.size, i.bytes, i.zero)) = some (1, 8, some (.nilFunc)) := by kernel_rfl
theorem inf24 : (Tryz.prog.info? 24).map (fun i => (i.size, i.bytes, i.zero)) = some (1, 8, some (.nilFunc)) := by kernel_rfl
theorem inf25 : (Tryz.prog.info? 25).map (fun i => (i.size, i.bytes, i.zero)) = some (1, 24, some (.slice none 0 0)) := by kernel_rfl
theorem inf26 : (Tryz.prog.info? 26).map (fun i => (i.size, i.bytes, i.zero)) = some (1, 8, some (.int .i64 0)) := by kernel_rfl
theorem inf28 : (Tryz.prog.info? 28).map (fun i => (i.size, i.bytes, i.zero)) = some (1, 8, some (.nilFunc)) := by kernel_rfl
theorem inf30 : (Tryz.prog.info? 30).map (fun i => (i.size, i.bytes, i.zero)) = some (1, 8, some (.nilFunc)) := by kernel_rfl
theorem inf31 : (Tryz.prog.info? 31).map (fun i => (i.size, i.bytes, i.zero)) = some (1, 8, some (.nilFunc)) := by kernel_rfl
theorem inf32 : (Tryz.prog.info? 32).map (fun i => (i.size, i.bytes, i.zero)) = some (1, 8, some (.nilFunc)) := by kernel_rfl
theorem inf33 : (Tryz.prog.info? 33).map (fun i => (i.size, i.bytes, i.zero)) = some (1, 24, some (.slice none 0 0)) := by kernel_rfl
theorem inf34 : (Tryz.prog.info? 34).map (fun i => (i.size, i.bytes, i.zero)) = some (6, 104, some (.agg #[.int .i64 0, .int .i64 0, .string ⟨#[]⟩, .slice none 0 0, .slice none 0 0, .slice none 0 0])) := by kernel_rfl
theorem inf35 : (Tryz.prog.info? 35).map (fun i => (i.size, i.bytes, i.zero)) = some (6, 104, some (.agg #[.int .i64 0, .int .i64 0, .string ⟨#[]⟩, .slice none 0 0, .slice none 0 0, .slice none 0 0])) := by kernel_rfl
theorem inf36 : (Tryz.prog.info? 36).map (fun i => (i.size, i.bytes, i.zero)) = some (1, 8, some (.nilFunc)) := by kernel_rfl
theorem inf37 : (Tryz.prog.info? 37).map (fun i => (i.size, i.bytes, i.zero)) = some (1, 8, some (.nilFunc)) := by kernel_rfl
theorem inf39 : (Tryz.prog.info? 39).map (fun i => (i.size, i.bytes, i.zero)) = some (1, 8, some (.nilFunc)) := by kernel_rfl
theorem inf41 : (Tryz.prog.info? 41).map (fun i => (i.size, i.bytes, i.zero)) = some (1, 8, some (.nilFunc)) := by kernel_rfl
theorem inf42 : (Tryz.prog.info? 42).map (fun i => (i.size, i.bytes, i.zero)) = some (1, 8, some (.nilFunc)) := by kernel_rfl
theorem inf43 : (Tryz.prog.info? 43).map (fun i => (i.size, i.bytes, i.zero)) = some (1, 4, some (.int .u32 0)) := by kernel_rfl
theorem inf44 : (Tryz.prog.info? 44).map (fun i => (i.size, i.bytes, i.zero)) = some (2, 8, some (.agg #[.int .u32 0, .int .u32 0])) := by kernel_rfl
theorem inf45 : (Tryz.prog.info? 45).map (fun i => (i.size, i.bytes, i.zero)) = some (2, 8, some (.agg #[.int .u32 0, .int .u32 0])) := by kernel_rfl
theorem inf46 : (Tryz.prog.info? 46).map (fun i => (i.size, i.bytes, i.zero)) = some (2, 48, some (.agg #[.slice none 0 0, .slice none 0 0])) := by kernel_rfl
theorem inf47 : (Tryz.prog.info? 47).map (fun i => (i.size, i.bytes, i.zero)) = some (2, 48, some (.agg #[.slice none 0 0, .slice none 0 0])) := by kernel_rfl
theorem inf48 : (Tryz.prog.info? 48).map (fun i => (i.size, i.bytes, i.zero)) = some (1, 8, some (.nilFunc)) := by kernel_rfl
theorem inf49 : (Tryz.prog.info? 49).map (fun i => (i.size, i.bytes, i.zero)) = some (1, 8, some (.nilFunc)) := by kernel_rfl
theorem inf50 : (Tryz.prog.info? 50).map (fun i => (i.size, i.bytes, i.zero)) = some (1, 8, some (.nilFunc)) := by kernel_rfl
theorem inf51 : (Tryz.prog.info? 51).map (fun i => (i.size, i.bytes, i.zero)) = some (1, 8, some (.nilFunc)) := by kernel_rfl
theorem inf52 : (Tryz.prog.info? 52).map (fun i => (i.size, i.bytes, i.zero)) = some (1, 8, some (.nilFunc)) := by kernel_rfl
theorem inf53 : (Tryz.prog.info? 53).map (fun i => (i.size, i.bytes, i.zero)) = some (1, 8, some (.nilFunc)) := by kernel_rfl
theorem inf54 : (Tryz.prog.info? 54).map (fun i => (i.size, i.bytes, i.zero)) = some (1, 8, some (.nilFunc)) := by kernel_rfl
theorem inf56 : (Tryz.prog.info? 56).map (fun i => (i.size, i.bytes, i.zero)) = some (1, 8, some (.nilFunc)) := by kernel_rfl
theorem inf58 : (Tryz.prog.info? 58).map (fun i => (i.size, i.bytes, i.zero)) = some (1, 8, some (.nilFunc)) := by kernel_rfl
theorem inf59 : (Tryz.prog.info? 59).map (fun i => (i.size, i.bytes, i.zero)) = some (1, 8, some (.nilFunc)) := by kernel_rfl
theorem inf60 : (Tryz.prog.info? 60).map (fun i => (i.size, i.bytes, i.zero)) = some (1, 8, some (.nilFunc)) := by kernel_rfl
theorem inf61 : (Tryz.prog.info? 61).map (fun i => (i.size, i.bytes, i.zero)) = some (1, 8, some (.nilFunc)) := by kernel_rfl
theorem inf62 : (Tryz.prog.info? 62).map (fun i => (i.size, i.bytes, i.zero)) = some (1, 8, some (.nilFunc)) := by kernel_rfl
theorem inf63 : (Tryz.prog.info? 63).map (fun i => (i.size, i.bytes, i.zero)) = some (1, 8, some (.nilFunc)) := by kernel_rfl
theorem inf64 : (Tryz.prog.info? 64).map (fun i => (i.size, i.bytes, i.zero)) = some (1, 8, some (.nilFunc)) := by kernel_rfl
theorem inf65 : (Tryz.prog.info? 65).map (fun i => (i.size, i.bytes, i.zero)) = some (1, 8, some (.nilFunc)) := by kernel_rfl
theorem inf66 : (Tryz.prog.info? 66).map (fun i => (i.size, i.bytes, i.zero)) = some (1, 8, some (.nilFunc)) := by kernel_rfl
theorem inf67 : (Tryz.prog.info? 67).map (fun i => (i.size, i.bytes, i.zero)) = some (2, 32, some (.agg #[.slice none 0 0, .int .i64 0])) := by kernel_rfl
theorem inf68 : (Tryz.prog.info? 68).map (fun i => (i.size, i.bytes, i.zero)) = some (2, 32, some (.agg #[.slice none 0 0, .int .i64 0])) := by kernel_rfl
theorem inf69 : (Tryz.prog.info? 69).map (fun i => (i.size, i.bytes, i.zero)) = some (1, 8, some (.nilFunc)) := by kernel_rfl
theorem inf70 : (Tryz.prog.info? 70).map (fun i => (i.size, i.bytes, i.zero)) = some (1, 8, some (.nilFunc)) := by kernel_rfl
theorem inf71 : (Tryz.prog.info? 71).map (fun i => (i.size, i.bytes, i.zero)) = some (2, 32, some (.agg #[.slice none 0 0, .int .i64 0])) := by kernel_rfl
theorem inf72 : (Tryz.prog.info? 72).map (fun i => (i.size, i.bytes, i.zero)) = some (1, 8, some (.nilFunc)) := by kernel_rfl
theorem inf74 : (Tryz.prog.info? 74).map (fun i => (i.size, i.bytes, i.zero)) = some (1, 8, some (.nilFunc)) := by kernel_rfl
theorem inf76 : (Tryz.prog.info? 76).map (fun i => (i.size, i.bytes, i.zero)) = some (1, 8, some (.nilFunc)) := by kernel_rfl
theorem inf77 : (Tryz.prog.info? 77).map (fun i => (i.size, i.bytes, i.zero)) = some (1, 8, some (.nilFunc)) := by kernel_rfl
theorem inf78 : (Tryz.prog.info? 78).map (fun i => (i.size, i.bytes, i.zero)) = some (1, 8, some (.nilFunc)) := by kernel_rfl
theorem inf79 : (Tryz.prog.info? 79).map (fun i => (i.size, i.bytes, i.zero)) = some (1, 8, some (.nilFunc)) := by kernel_rfl
theorem inf81 : (Tryz.prog.info? 81).map (fun i => (i.size, i.bytes, i.zero)) = some (1, 8, some (.nilFunc)) := by kernel_rfl
theorem inf82 : (Tryz.prog.info? 82).map (fun i => (i.size, i.bytes, i.zero)) = some (1, 8, some (.nilFunc)) := by kernel_rfl
theorem inf83 : (Tryz.prog.info? 83).map (fun i => (i.size, i.bytes, i.zero)) = some (1, 8, some (.nilFunc)) := by kernel_rfl
theorem inf84 : (Tryz.prog.info? 84).map (fun i => (i.size, i.bytes, i.zero)) = some (1, 8, some (.nilFunc)) := by kernel_rfl
theorem inf85 : (Tryz.prog.info? 85).map (fun i => (i.size, i.bytes, i.zero)) = some (1, 8, some (.nilFunc)) := by kernel_rfl
theorem inf86 : (Tryz.prog.info? 86).map (fun i => (i.size, i.bytes, i.zero)) = some (1, 8, some (.nilFunc)) := by kernel_rfl
theorem inf87 : (Tryz.prog.info? 87).map (fun i => (i.size, i.bytes, i.zero)) = some (1, 8, some (.nilFunc)) := by kernel_rfl
theorem inf88 : (Tryz.prog.info? 88).map (fun i => (i.size, i.bytes, i.zero)) = some (1, 8, some (.nilFunc)) := by kernel_rfl
theorem inf89 : (Tryz.prog.info? 89).map (fun i => (i.size, i.bytes, i.zero)) = some (1, 8, some (.nilFunc)) := by kernel_rfl
theorem inf90 : (Tryz.prog.info? 90).map (fun i => (i.size, i.bytes, i.zero)) = some (1, 8, some (.nilFunc)) := by kernel_rfl
theorem inf91 : (Tryz.prog.info? 91).map (fun i => (i.size, i.bytes, i.zero)) = some (1, 8, some (.nilFunc)) := by kernel_rfl
theorem inf92 : (Tryz.prog.info? 92).map (fun i => (i.size, i.bytes, i.zero)) = some (1, 8, some (.nilFunc)) := by kernel_rfl
theorem inf93 : (Tryz.prog.info? 93).map (fun i => (i.size, i.bytes, i.zero)) = some (1, 8, some (.nilFunc)) := by kernel_rfl
theorem inf94 : (Tryz.prog.info? 94).map (fun i => (i.size, i.bytes, i.zero)) = some (1, 8, some (.nilFunc)) := by kernel_rfl
theorem inf95 : (Tryz.prog.info? 95).map (fun i => (i.size, i.bytes, i.zero)) = some (1, 8, some (.nilFunc)) := by kernel_rfl
theorem inf96 : (Tryz.prog.info? 96).map (fun i => (i.size, i.bytes, i.zero)) = some (1, 8, some (.nilFunc)) := by kernel_rfl
theorem inf97 : (Tryz.prog.info? 97).map (fun i => (i.size, i.bytes, i.zero)) = some (1, 8, some (.nilFunc)) := by kernel_rfl
theorem inf98 : (Tryz.prog.info? 98).map (fun i => (i.size, i.bytes, i.zero)) = some (1, 8, some (.nilFunc)) := by kernel_rfl
theorem inf99 : (Tryz.prog.info? 99).map (fun i => (i.size, i.bytes, i.zero)) = some (1, 8, some (.nilFunc)) := by kernel_rfl
theorem inf100 : (Tryz.prog.info? 100).map (fun i => (i.size, i.bytes, i.zero)) = some (1, 8, some (.nilFunc)) := by kernel_rfl
theorem inf101 : (Tryz.prog.info? 101).map (fun i => (i.size, i.bytes, i.zero)) = some (1, 8, some (.nilFunc)) := by kernel_rfl
theorem inf102 : (Tryz.prog.info? 102).map (fun i => (i.size, i.bytes, i.zero)) = some (1, 8, some (.nilFunc)) := by kernel_rfl
theorem inf103 : (Tryz.prog.info? 103).map (fun i => (i.size, i.bytes, i.zero)) = some (1, 8, some (.nilFunc)) := by kernel_rfl
theorem inf104 : (Tryz.prog.info? 104).map (fun i => (i.size, i.bytes, i.zero)) = some (1, 8, some (.nilFunc)) := by kernel_rfl
theorem inf105 : (Tryz.prog.info? 105).map (fun i => (i.size, i.bytes, i.zero)) = some (2, 16, some (.agg #[.nilFunc, .nilFunc])) := by kernel_rfl
theorem inf106 : (Tryz.prog.info? 106).map (fun i => (i.size, i.bytes, i.zero)) = some (2, 16, some (.agg #[.nilFunc, .nilFunc])) := by kernel_rfl
theorem inf107 : (Tryz.prog.info? 107).map (fun i => (i.size, i.bytes, i.zero)) = some (1, 8, some (.nilFunc)) := by kernel_rfl
theorem inf108 : (Tryz.prog.info? 108).map (fun i => (i.size, i.bytes, i.zero)) = some (1, 8, some (.nilFunc)) := by kernel_rfl
theorem inf109 : (Tryz.prog.info? 109).map (fun i => (i.size, i.bytes, i.zero)) = some (1, 8, some (.nilFunc)) := by kernel_rfl
theorem inf110 : (Tryz.prog.info? 110).map (fun i => (i.size, i.bytes, i.zero)) = some (1, 8, some (.nilFunc)) := by kernel_rfl
theorem inf111 : (Tryz.prog.info? 111).map (fun i => (i.size, i.bytes, i.zero)) = some (1, 8, some (.nilFunc)) := by kernel_rfl
theorem inf112 : (Tryz.prog.info? 112).map (fun i => (i.size, i.bytes, i.zero)) = some (1, 8, some (.nilFunc)) := by kernel_rfl
theorem inf113 : (Tryz.prog.info? 113).map (fun i => (i.size, i.bytes, i.zero)) = some (1, 8, some (.nilFunc)) := by kernel_rfl
theorem inf114 : (Tryz.prog.info? 114).map (fun i => (i.size, i.bytes, i.zero)) = some (1, 8, some (.nilFunc)) := by kernel_rfl
theorem inf115 : (Tryz.prog.info? 115).map (fun i => (i.size, i.bytes, i.zero)) = some (2, 32, some (.agg #[.int .u32 0, .slice none 0 0])) := by kernel_rfl
theorem inf116 : (Tryz.prog.info? 116).map (fun i => (i.size, i.bytes, i.zero)) = some (1, 24, some (.slice none 0 0)) := by kernel_rfl
theorem inf117 : (Tryz.prog.info? 117).map (fun i => (i.size, i.bytes, i.zero)) = some (1, 24, some (.slice none 0 0)) := by kernel_rfl
theorem inf118 : (Tryz.prog.info? 118).map (fun i => (i.size, i.bytes, i.zero)) = some (1, 8, some (.nilFunc)) := by kernel_rfl
theorem inf119 : (Tryz.prog.info? 119).map (fun i => (i.size, i.bytes, i.zero)) = some (1, 8, some (.nilFunc)) := by kernel_rfl
theorem inf120 : (Tryz.prog.info? 120).map (fun i => (i.size, i.bytes, i.zero)) = some (1, 8, some (.nilFunc)) := by kernel_rfl
theorem inf121 : (Tryz.prog.info? 121).map (fun i => (i.size, i.bytes, i.zero)) = some (1, 8, some (.nilFunc)) := by kernel_rfl
theorem inf122 : (Tryz.prog.info? 122).map (fun i => (i.size, i.bytes, i.zero)) = some (1, 8, some (.nilFunc)) := by kernel_rfl
theorem inf123 : (Tryz.prog.info? 123).map (fun i => (i.size, i.bytes, i.zero)) = some (1, 8, some (.nilFunc)) := by kernel_rfl
theorem inf124 : (Tryz.prog.info? 124).map (fun i => (i.size, i.bytes, i.zero)) = some (1, 8, some (.nilFunc)) := by kernel_rfl
theorem inf125 : (Tryz.prog.info? 125).map (fun i => (i.size, i.bytes, i.zero)) = some (1, 8, some (.nilFunc)) := by kernel_rfl
theorem inf126 : (Tryz.prog.info? 126).map (fun i => (i.size, i.bytes, i.zero)) = some (1, 8, some (.nilFunc)) := by kernel_rfl
theorem inf127 : (Tryz.prog.info? 127).map (fun i => (i.size, i.bytes, i.zero)) = some (1, 8, some (.nilFunc)) := by kernel_rfl
theorem inf128 : (Tryz.prog.info? 128).map (fun i => (i.size, i.bytes, i.zero)) = some (1, 8, some (.nilFunc)) := by kernel_rfl
theorem inf129 : (Tryz.prog.info? 129).map (fun i => (i.size, i.bytes, i.zero)) = some (1, 8, some (.nilFunc)) := by kernel_rfl
theorem inf130 : (Tryz.prog.info? 130).map (fun i => (i.size, i.bytes, i.zero)) = some (1, 8, some (.nilFunc)) := by kernel_rfl
theorem inf131 : (Tryz.prog.info? 131).map (fun i => (i.size, i.bytes, i.zero)) = some (1, 8, some (.nilFunc)) := by kernel_rfl
theorem inf132 : (Tryz.prog.info? 132).map (fun i => (i.size, i.bytes, i.zero)) = some (1, 8, some (.nilFunc)) := by kernel_rfl
theorem inf133 : (Tryz.prog.info? 133).map (fun i => (i.size, i.bytes, i.zero)) = some (1, 8, some (.nilFunc)) := by kernel_rfl
theorem inf134 : (Tryz.prog.info? 134).map (fun i => (i.size, i.bytes, i.zero)) = some (1, 8, some (.nilFunc)) := by kernel_rfl
theorem inf135 : (Tryz.prog.info? 135).map (fun i => (i.size, i.bytes, i.zero)) = some (1, 8, some (.nilFunc)) := by kernel_rfl
theorem inf136 : (Tryz.prog.info? 136).map (fun i => (i.size, i.bytes, i.zero)) = some (2, 16, some (.agg #[.int .i64 0, .int .i64 0])) := by kernel_rfl
theorem inf137 : (Tryz.prog.info? 137).map (fun i => (i.size, i.bytes, i.zero)) = some (2, 16, some (.agg #[.int .i64 0, .int .i64 0])) := by kernel_rfl
theorem inf138 : (Tryz.prog.info? 138).map (fun i => (i.size, i.bytes, i.zero)) = some (1, 8, some (.nilFunc)) := by kernel_rfl
theorem inf139 : (Tryz.prog.info? 139).map (fun i => (i.size, i.bytes, i.zero)) = some (1, 8, some (.nilFunc)) := by kernel_rfl
theorem inf140 : (Tryz.prog.info? 140).map (fun i => (i.size, i.bytes, i.zero)) = some (1, 8, some (.nilFunc)) := by kernel_rfl
theorem inf141 : (Tryz.prog.info? 141).map (fun i => (i.size, i.bytes, i.zero)) = some (1, 8, some (.nilFunc)) := by kernel_rfl
theorem inf143 : (Tryz.prog.info? 143).map (fun i => (i.size, i.bytes, i.zero)) = some (1, 8, some (.nilFunc)) := by kernel_rfl
theorem inf144 : (Tryz.prog.info? 144).map (fun i => (i.size, i.bytes, i.zero)) = some (1, 8, some (.nilFunc)) := by kernel_rfl
theorem inf145 : (Tryz.prog.info? 145).map (fun i => (i.size, i.bytes, i.zero)) = some (1, 8, some (.nilFunc)) := by kernel_rfl
theorem inf146 : (Tryz.prog.info? 146).map (fun i => (i.size, i.bytes, i.zero)) = some (1, 8, some (.int .u64 0)) := by kernel_rfl
theorem inf147 : (Tryz.prog.info? 147).map (fun i => (i.size, i.bytes, i.zero)) = some (1, 8, some (.nilFunc)) := by kernel_rfl
theorem inf148 : (Tryz.prog.info? 148).map (fun i => (i.size, i.bytes, i.zero)) = some (1, 8, some (.nilFunc)) := by kernel_rfl
theorem inf149 : (Tryz.prog.info? 149).map (fun i => (i.size, i.bytes, i.zero)) = some (1, 8, some (.nilFunc)) := by kernel_rfl
theorem inf150 : (Tryz.prog.info? 150).map (fun i => (i.size, i.bytes, i.zero)) = some (1, 8, some (.nilFunc)) := by kernel_rfl
theorem inf151 : (Tryz.prog.info? 151).map (fun i => (i.size, i.bytes, i.zero)) = some (1, 8, some (.nilFunc)) := by kernel_rfl
theorem inf152 : (Tryz.prog.info? 152).map (fun i => (i.size, i.bytes, i.zero)) = some (1, 8, some (.nilFunc)) := by kernel_rfl
theorem inf154 : (Tryz.prog.info? 154).map (fun i => (i.size, i.bytes, i.zero)) = some (1, 8, some (.nilFunc)) := by kernel_rfl
theorem inf155 : (Tryz.prog.info? 155).map (fun i => (i.size, i.bytes, i.zero)) = some (1, 8, some (.nilFunc)) := by kernel_rfl
theorem inf156 : (Tryz.prog.info? 156).map (fun i => (i.size, i.bytes, i.zero)) = some (1, 8, some (.nilFunc)) := by kernel_rfl
theorem inf157 : (Tryz.prog.info? 157).map (fun i => (i.size, i.bytes, i.zero)) = some (1, 8, some (.nilFunc)) := by kernel_rfl
theorem inf158 : (Tryz.prog.info? 158).map (fun i => (i.size, i.bytes, i.zero)) = some (1, 8, some (.nilFunc)) := by kernel_rfl
theorem inf159 : (Tryz.prog.info? 159).map (fun i => (i.size, i.bytes, i.zero)) = some (1, 8, some (.nilFunc)) := by kernel_rfl
theorem inf160 : (Tryz.prog.info? 160).map (fun i => (i.size, i.bytes, i.zero)) = some (1, 8, some (.nilFunc)) := by kernel_rfl
theorem inf162 : (Tryz.prog.info? 162).map (fun i => (i.size, i.bytes, i.zero)) = some (1, 8, some (.nilFunc)) := by kernel_rfl
theorem inf164 : (Tryz.prog.info? 164).map (fun i => (i.size, i.bytes, i.zero)) = some (1, 8, some (.nilFunc)) := by kernel_rfl
theorem inf165 : (Tryz.prog.info? 165).map (fun i => (i.size, i.bytes, i.zero)) = some (1, 8, some (.nilFunc)) := by kernel_rfl
theorem inf166 : (Tryz.prog.info? 166).map (fun i => (i.size, i.bytes, i.zero)) = some (1, 8, some (.nilFunc)) := by kernel_rfl
theorem inf167 : (Tryz.prog.info? 167).map (fun i => (i.size, i.bytes, i.zero)) = some (1, 8, some (.nilFunc)) := by kernel_rfl
theorem inf168 : (Tryz.prog.info? 168).map (fun i => (i.size, i.bytes, i.zero)) = some (1, 8, some (.nilFunc)) := by kernel_rfl
theorem inf169 : (Tryz.prog.info? 169).map (fun i => (i.size, i.bytes, i.zero)) = some (1, 8, some (.nilFunc)) := by kernel_rfl
theorem inf170 : (Tryz.prog.info? 170).map (fun i => (i.size, i.bytes, i.zero)) = some (1, 8, some (.nilFunc)) := by kernel_rfl
theorem inf171 : (Tryz.prog.info? 171).map (fun i => (i.size, i.bytes, i.zero)) = some (1, 8, some (.nilFunc)) := by kernel_rfl
theorem inf172 : (Tryz.prog.info? 172).map (fun i => (i.size, i.bytes, i.zero)) = some (1, 8, some (.nilFunc)) := by kernel_rfl
theorem inf173 : (Tryz.prog.info? 173).map (fun i => (i.size, i.bytes, i.zero)) = some (1, 8, some (.nilFunc)) := by kernel_rfl
theorem inf174 : (Tryz.prog.info? 174).map (fun i => (i.size, i.bytes, i.zero)) = some (1, 8, some (.map none)) := by kernel_rfl
theorem inf175 : (Tryz.prog.info? 175).map (fun i => (i.size, i.bytes, i.zero)) = some (1, 8, some (.nilFunc)) := by kernel_rfl
theorem inf176 : (Tryz.prog.info? 176).map (fun i => (i.size, i.bytes, i.zero)) = some (1, 8, some (.nilFunc)) := by kernel_rfl
theorem inf177 : (Tryz.prog.info? 177).map (fun i => (i.size, i.bytes, i.zero)) = some (1, 8, some (.nilFunc)) := by kernel_rfl
theorem inf179 : (Tryz.prog.info? 179).map (fun i => (i.size, i.bytes, i.zero)) = some (1, 8, some (.nilFunc)) := by kernel_rfl
theorem inf180 : (Tryz.prog.info? 180).map (fun i => (i.size, i.bytes, i.zero)) = some (1, 8, some (.nilFunc)) := by kernel_rfl
theorem inf181 : (Tryz.prog.info? 181).map (fun i => (i.size, i.bytes, i.zero)) = some (1, 24, some (.slice none 0 0)) := by kernel_rfl
theorem inf183 : (Tryz.prog.info? 183).map (fun i => (i.size, i.bytes, i.zero)) = some (1, 8, some (.nilFunc)) := by kernel_rfl
theorem inf184 : (Tryz.prog.info? 184).map (fun i => (i.size, i.bytes, i.zero)) = some (1, 8, some (.nilFunc)) := by kernel_rfl
theorem inf185 : (Tryz.prog.info? 185).map (fun i => (i.size, i.bytes, i.zero)) = some (1, 8, some (.nilFunc)) := by kernel_rfl
theorem inf186 : (Tryz.prog.info? 186).map (fun i => (i.size, i.bytes, i.zero)) = some (1, 8, some (.nilFunc)) := by kernel_rfl
theorem inf188 : (Tryz.prog.info? 188).map (fun i => (i.size, i.bytes, i.zero)) = some (1, 8, some (.nilFunc)) := by kernel_rfl
theorem inf189 : (Tryz.prog.info? 189).map (fun i => (i.size, i.bytes, i.zero)) = some (1, 8, some (.nilFunc)) := by kernel_rfl
theorem inf190 : (Tryz.prog.info? 190).map (fun i => (i.size, i.bytes, i.zero)) = some (1, 8, some (.nilFunc)) := by kernel_rfl
theorem inf191 : (Tryz.prog.info? 191).map (fun i => (i.size, i.bytes, i.zero)) = some (1, 8, some (.nilFunc)) := by kernel_rfl
theorem inf192 : (Tryz.prog.info? 192).map (fun i => (i.size, i.bytes, i.zero)) = some (1, 8, some (.nilFunc)) := by kernel_rfl
theorem inf193 : (Tryz.prog.info? 193).map (fun i => (i.size, i.bytes, i.zero)) = some (1, 8, some (.nilFunc)) := by kernel_rfl
theorem inf194 : (Tryz.prog.info? 194).map (fun i => (i.size, i.bytes, i.zero)) = some (1, 8, some (.nilFunc)) := by kernel_rfl
theorem inf195 : (Tryz.prog.info? 195).map (fun i => (i.size, i.bytes, i.zero)) = some (1, 8, some (.int .u64 0)) := by kernel_rfl
theorem inf196 : (Tryz.prog.info? 196).map (fun i => (i.size, i.bytes, i.zero)) = some (29, 232, some (.agg #[.int .i64 0, .int .i64 0, .int .i64 0, .int .i64 0, .int .i64 0, .int .i64 0, .int .i64 0, .int .i64 0, .int .i64 0, .int .i64 0, .int .i64 0, .int .i64 0, .int .i64 0, .int .i64 0, .int .i64 0, .int .i64 0, .int .i64 0, .int .i64 0, .int .i64 0, .int .i64 0, .int .i64 0, .int .i64 0, .int .i64 0, .int .i64 0, .int .i64 0, .int .i64 0, .int .i64 0, .int .i64 0, .int .i64 0])) := by kernel_rfl
theorem inf197 : (Tryz.prog.info? 197).map (fun i => (i.size, i.bytes, i.zero)) = some (1, 8, some (.nilFunc)) := by kernel_rfl
theorem inf198 : (Tryz.prog.info? 198).map (fun i => (i.size, i.bytes, i.zero)) = some (1, 8, some (.nilFunc)) := by kernel_rfl
theorem inf199 : (Tryz.prog.info? 199).map (fun i => (i.size, i.bytes, i.zero)) = some (1, 8, some (.nilFunc)) := by kernel_rfl
theorem inf201 : (Tryz.prog.info? 201).map (fun i => (i.size, i.bytes, i.zero)) = some (1, 8, some (.nilFunc)) := by kernel_rfl
theorem inf202 : (Tryz.prog.info? 202).map (fun i => (i.size, i.bytes, i.zero)) = some (32, 32, some (.agg #[.int .u8 0, .int .u8 0, .int .u8 0, .int .u8 0, .int .u8 0, .int .u8 0, .int .u8 0, .int .u8 0, .int .u8 0, .int .u8 0, .int .u8 0, .int .u8 0, .int .u8 0, .int .u8 0, .int .u8 0, .int .u8 0, .int .u8 0, .int .u8 0, .int .u8 0, .int .u8 0, .int .u8 0, .int .u8 0, .int .u8 0, .int .u8 0, .int .u8 0, .int .u8 0, .int .u8 0, .int .u8 0, .int .u8 0, .int .u8 0, .int .u8 0, .int .u8 0])) := by kernel_rfl
theorem inf203 : (Tryz.prog.info? 203).map (fun i => (i.size, i.bytes, i.zero)) = some (1, 8, some (.nilFunc)) := by kernel_rfl
theorem inf204 : (Tryz.prog.info? 204).map (fun i => (i.size, i.bytes, i.zero)) = some (1, 8, some (.int .i64 0)) := by kernel_rfl
theorem inf206 : (Tryz.prog.info? 206).map (fun i => (i.size, i.bytes, i.zero)) = some (1, 8, some (.nilFunc)) := by kernel_rfl
theorem inf207 : (Tryz.prog.info? 207).map (fun i => (i.size, i.bytes, i.zero)) = some (1, 8, some (.nilFunc)) := by kernel_rfl
theorem inf208 : (Tryz.prog.info? 208).map (fun i => (i.size, i.bytes, i.zero)) = some (1, 8, some (.nilFunc)) := by kernel_rfl
theorem inf210 : (Tryz.prog.info? 210).map (fun i => (i.size, i.bytes, i.zero)) = some (1, 8, some (.nilFunc)) := by kernel_rfl
theorem inf211 : (Tryz.prog.info? 211).map (fun i => (i.size, i.bytes, i.zero)) = some (1, 8, some (.nilFunc)) := by kernel_rfl
theorem inf212 : (Tryz.prog.info? 212).map (fun i => (i.size, i.bytes, i.zero)) = some (1, 8, some (.nilFunc)) := by kernel_rfl
theorem inf214 : (Tryz.prog.info? 214).map (fun i => (i.size, i.bytes, i.zero)) = some (1, 8, some (.nilFunc)) := by kernel_rfl
theorem inf215 : (Tryz.prog.info? 215).map (fun i => (i.size, i.bytes, i.zero)) = some (1, 8, some (.nilFunc)) := by kernel_rfl
theorem inf216 : (Tryz.prog.info? 216).map (fun i => (i.size, i.bytes, i.zero)) = some (1, 8, some (.nilFunc)) := by kernel_rfl
theorem inf217 : (Tryz.prog.info? 217).map (fun i => (i.size, i.bytes, i.zero)) = some (1, 8, some (.pointer none)) := by kernel_rfl
theorem inf218 : (Tryz.prog.info? 218).map (fun i => (i.size, i.bytes, i.zero)) = some (1, 8, some (.nilFunc)) := by kernel_rfl
theorem inf219 : (Tryz.prog.info? 219).map (fun i => (i.size, i.bytes, i.zero)) = some (1, 8, some (.nilFunc)) := by kernel_rfl
theorem inf221 : (Tryz.prog.info? 221).map (fun i => (i.size, i.bytes, i.zero)) = some (1, 8, some (.nilFunc)) := by kernel_rfl
theorem inf222 : (Tryz.prog.info? 222).map (fun i => (i.size, i.bytes, i.zero)) = some (1, 8, some (.nilFunc)) := by kernel_rfl
theorem inf223 : (Tryz.prog.info? 223).map (fun i => (i.size, i.bytes, i.zero)) = some (1, 8, some (.nilFunc)) := by kernel_rfl
theorem inf229 : (Tryz.prog.info? 229).map (fun i => (i.size, i.bytes, i.zero)) = some (1, 8, some (.nilFunc)) := by kernel_rfl
theorem inf233 : (Tryz.prog.info? 233).map (fun i => (i.size, i.bytes, i.zero)) = some (1, 8, some (.pointer none)) := by kernel_rfl
theorem inf_of {t s b : Nat} {z : Value} (h : (Tryz.prog.info? t).map (fun i => (i.size, i.bytes, i.zero)) = some (s, b, some z)) : ∃ i, Tryz.prog.info? t = some i ∧ i.size = s ∧ i.bytes = b ∧ i.zero = some z := by
  obtain ⟨i, h1, h2⟩ := Option.map_eq_some_iff.1 h
  simp only [Prod.mk.injEq] at h2
  exact ⟨i, h1, h2.1, h2.2.1, h2.2.2⟩
theorem tabU_ok : ∀ t d, tabU t = some d → Tryz.prog.underlying t = some d := by
  intro t d h
  unfold tabU at h
  split at h
  · cases h; exact Tryz.underlying1
  · cases h; exact Tryz.underlying2
  · cases h; exact Tryz.underlying3
  · cases h; exact Tryz.underlying4
  · cases h; exact Tryz.underlying5
  · cases h; exact Tryz.underlying9
  · cases h; exact Tryz.underlying12
  · cases h; exact Tryz.underlying20
  · cases h; exact Tryz.underlying21
  · cases h; exact Tryz.underlying22
  · cases h; exact Tryz.underlying23
  · cases h; exact Tryz.underlying24
  · cases h; exact Tryz.underlying25
  · cases h; exact Tryz.underlying26
  · cases h; exact Tryz.underlying28
  · cases h; exact Tryz.underlying30
  · cases h; exact Tryz.underlying31
  · cases h; exact Tryz.underlying32
  · cases h; exact Tryz.underlying33
  · cases h; exact Tryz.underlying36
  · cases h; exact Tryz.underlying37
  · cases h; exact Tryz.underlying39
  · cases h; exact Tryz.underlying41
  · cases h; exact Tryz.underlying42
  · cases h; exact Tryz.underlying43
  · cases h; exact Tryz.underlying48
  · cases h; exact Tryz.underlying49
  · cases h; exact Tryz.underlying50
  · cases h; exact Tryz.underlying51
  · cases h; exact Tryz.underlying52
  · cases h; exact Tryz.underlying53
  · cases h; exact Tryz.underlying54
  · cases h; exact Tryz.underlying56
  · cases h; exact Tryz.underlying58
  · cases h; exact Tryz.underlying59
  · cases h; exact Tryz.underlying60
  · cases h; exact Tryz.underlying61
  · cases h; exact Tryz.underlying62
  · cases h; exact Tryz.underlying63
  · cases h; exact Tryz.underlying64
  · cases h; exact Tryz.underlying65
  · cases h; exact Tryz.underlying66
  · cases h; exact Tryz.underlying69
  · cases h; exact Tryz.underlying70
  · cases h; exact Tryz.underlying72
  · cases h; exact Tryz.underlying74
  · cases h; exact Tryz.underlying76
  · cases h; exact Tryz.underlying77
  · cases h; exact Tryz.underlying78
  · cases h; exact Tryz.underlying79
  · cases h; exact Tryz.underlying81
  · cases h; exact Tryz.underlying82
  · cases h; exact Tryz.underlying83
  · cases h; exact Tryz.underlying84
  · cases h; exact Tryz.underlying85
  · cases h; exact Tryz.underlying86
  · cases h; exact Tryz.underlying87
  · cases h; exact Tryz.underlying88
  · cases h; exact Tryz.underlying89
  · cases h; exact Tryz.underlying90
  · cases h; exact Tryz.underlying91
  · cases h; exact Tryz.underlying92
  · cases h; exact Tryz.underlying93
  · cases h; exact Tryz.underlying94
  · cases h; exact Tryz.underlying95
  · cases h; exact Tryz.underlying96
  · cases h; exact Tryz.underlying97
  · cases h; exact Tryz.underlying98
  · cases h; exact Tryz.underlying99
  · cases h; exact Tryz.underlying100
  · cases h; exact Tryz.underlying101
  · cases h; exact Tryz.underlying102
  · cases h; exact Tryz.underlying103
  · cases h; exact Tryz.underlying104
  · cases h; exact Tryz.underlying107
  · cases h; exact Tryz.underlying108
  · cases h; exact Tryz.underlying109
  · cases h; exact Tryz.underlying110
  · cases h; exact Tryz.underlying111
  · cases h; exact Tryz.underlying112
  · cases h; exact Tryz.underlying113
  · cases h; exact Tryz.underlying114
  · cases h; exact Tryz.underlying116
  · cases h; exact Tryz.underlying117
  · cases h; exact Tryz.underlying118
  · cases h; exact Tryz.underlying119
  · cases h; exact Tryz.underlying120
  · cases h; exact Tryz.underlying121
  · cases h; exact Tryz.underlying122
  · cases h; exact Tryz.underlying123
  · cases h; exact Tryz.underlying124
  · cases h; exact Tryz.underlying125
  · cases h; exact Tryz.underlying126
  · cases h; exact Tryz.underlying127
  · cases h; exact Tryz.underlying128
  · cases h; exact Tryz.underlying129
  · cases h; exact Tryz.underlying130
  · cases h; exact Tryz.underlying131
  · cases h; exact Tryz.underlying132
  · cases h; exact Tryz.underlying133
  · cases h; exact Tryz.underlying134
  · cases h; exact Tryz.underlying135
  · cases h; exact Tryz.underlying138
  · cases h; exact Tryz.underlying139
  · cases h; exact Tryz.underlying140
  · cases h; exact Tryz.underlying141
  · cases h; exact Tryz.underlying143
  · cases h; exact Tryz.underlying144
  · cases h; exact Tryz.underlying145
  · cases h; exact Tryz.underlying146
  · cases h; exact Tryz.underlying147
  · cases h; exact Tryz.underlying148
  · cases h; exact Tryz.underlying149
  · cases h; exact Tryz.underlying150
  · cases h; exact Tryz.underlying151
  · cases h; exact Tryz.underlying152
  · cases h; exact Tryz.underlying154
  · cases h; exact Tryz.underlying155
  · cases h; exact Tryz.underlying156
  · cases h; exact Tryz.underlying157
  · cases h; exact Tryz.underlying158
  · cases h; exact Tryz.underlying159
  · cases h; exact Tryz.underlying160
  · cases h; exact Tryz.underlying162
  · cases h; exact Tryz.underlying164
  · cases h; exact Tryz.underlying165
  · cases h; exact Tryz.underlying166
  · cases h; exact Tryz.underlying167
  · cases h; exact Tryz.underlying168
  · cases h; exact Tryz.underlying169
  · cases h; exact Tryz.underlying170
  · cases h; exact Tryz.underlying171
  · cases h; exact Tryz.underlying172
  · cases h; exact Tryz.underlying173
  · cases h; exact Tryz.underlying174
  · cases h; exact Tryz.underlying175
  · cases h; exact Tryz.underlying176
  · cases h; exact Tryz.underlying177
  · cases h; exact Tryz.underlying179
  · cases h; exact Tryz.underlying180
  · cases h; exact Tryz.underlying181
  · cases h; exact Tryz.underlying183
  · cases h; exact Tryz.underlying184
  · cases h; exact Tryz.underlying185
  · cases h; exact Tryz.underlying186
  · cases h; exact Tryz.underlying188
  · cases h; exact Tryz.underlying189
  · cases h; exact Tryz.underlying190
  · cases h; exact Tryz.underlying191
  · cases h; exact Tryz.underlying192
  · cases h; exact Tryz.underlying193
  · cases h; exact Tryz.underlying194
  · cases h; exact Tryz.underlying195
  · cases h; exact Tryz.underlying196
  · cases h; exact Tryz.underlying197
  · cases h; exact Tryz.underlying198
  · cases h; exact Tryz.underlying199
  · cases h; exact Tryz.underlying201
  · cases h; exact Tryz.underlying202
  · cases h; exact Tryz.underlying203
  · cases h; exact Tryz.underlying204
  · cases h; exact Tryz.underlying206
  · cases h; exact Tryz.underlying207
  · cases h; exact Tryz.underlying208
  · cases h; exact Tryz.underlying210
  · cases h; exact Tryz.underlying211
  · cases h; exact Tryz.underlying212
  · cases h; exact Tryz.underlying214
  · cases h; exact Tryz.underlying215
  · cases h; exact Tryz.underlying216
  · cases h; exact Tryz.underlying217
  · cases h; exact Tryz.underlying218
  · cases h; exact Tryz.underlying219
  · cases h; exact Tryz.underlying221
  · cases h; exact Tryz.underlying222
  · cases h; exact Tryz.underlying223
  · cases h; exact Tryz.underlying229
  · cases h; exact Tryz.underlying233
  · cases h
theorem tabI_ok : ∀ t s b z, tabI t = some (s, b, z) → ∃ i, Tryz.prog.info? t = some i ∧ i.size = s ∧ i.bytes = b ∧ i.zero = some z := by
  intro t s b z h
  unfold tabI at h
  split at h
  · cases h; exact inf_of inf1
  · cases h; exact inf_of inf2
  · cases h; exact inf_of inf3
  · cases h; exact inf_of inf4
  · cases h; exact inf_of inf5
  · cases h; exact inf_of inf9
  · cases h; exact inf_of inf12
  · cases h; exact inf_of inf21
  · cases h; exact inf_of inf22
  · cases h; exact inf_of inf23
  · cases h; exact inf_of inf24
  · cases h; exact inf_of inf25
  · cases h; exact inf_of inf26
  · cases h; exact inf_of inf28
  · cases h; exact inf_of inf30
  · cases h; exact inf_of inf31
  · cases h; exact inf_of inf32
  · cases h; exact inf_of inf33
  · cases h; exact inf_of inf34
  · cases h; exact inf_of inf35
  · cases h; exact inf_of inf36
  · cases h; exact inf_of inf37
  · cases h; exact inf_of inf39
  · cases h; exact inf_of inf41
  · cases h; exact inf_of inf42
  · cases h; exact inf_of inf43
  · cases h; exact inf_of inf44
  · cases h; exact inf_of inf45
  · cases h; exact inf_of inf46
  · cases h; exact inf_of inf47
  · cases h; exact inf_of inf48
  · cases h; exact inf_of inf49
  · cases h; exact inf_of inf50
  · cases h; exact inf_of inf51
  · cases h; exact inf_of inf52
  · cases h; exact inf_of inf53
  · cases h; exact inf_of inf54
  · cases h; exact inf_of inf56
  · cases h; exact inf_of inf58
  · cases h; exact inf_of inf59
  · cases h; exact inf_of inf60
  · cases h; exact inf_of inf61
  · cases h; exact inf_of inf62
  · cases h; exact inf_of inf63
  · cases h; exact inf_of inf64
  · cases h; exact inf_of inf65
  · cases h; exact inf_of inf66
  · cases h; exact inf_of inf67
  · cases h; exact inf_of inf68
  · cases h; exact inf_of inf69
  · cases h; exact inf_of inf70
  · cases h; exact inf_of inf71
  · cases h; exact inf_of inf72
  · cases h; exact inf_of inf74
  · cases h; exact inf_of inf76
  · cases h; exact inf_of inf77
  · cases h; exact inf_of inf78
  · cases h; exact inf_of inf79
  · cases h; exact inf_of inf81
  · cases h; exact inf_of inf82
  · cases h; exact inf_of inf83
  · cases h; exact inf_of inf84
  · cases h; exact inf_of inf85
  · cases h; exact inf_of inf86
  · cases h; exact inf_of inf87
  · cases h; exact inf_of inf88
  · cases h; exact inf_of inf89
  · cases h; exact inf_of inf90
  · cases h; exact inf_of inf91
  · cases h; exact inf_of inf92
  · cases h; exact inf_of inf93
  · cases h; exact inf_of inf94
  · cases h; exact inf_of inf95
  · cases h; exact inf_of inf96
  · cases h; exact inf_of inf97
  · cases h; exact inf_of inf98
  · cases h; exact inf_of inf99
  · cases h; exact inf_of inf100
  · cases h; exact inf_of inf101
  · cases h; exact inf_of inf102
  · cases h; exact inf_of inf103
  · cases h; exact inf_of inf104
  · cases h; exact inf_of inf105
  · cases h; exact inf_of inf106
  · cases h; exact inf_of inf107
  · cases h; exact inf_of inf108
  · cases h; exact inf_of inf109
  · cases h; exact inf_of inf110
  · cases h; exact inf_of inf111
  · cases h; exact inf_of inf112
  · cases h; exact inf_of inf113
  · cases h; exact inf_of inf114
  · cases h; exact inf_of inf115
  · cases h; exact inf_of inf116
  · cases h; exact inf_of inf117
  · cases h; exact inf_of inf118
  · cases h; exact inf_of inf119
  · cases h; exact inf_of inf120
  · cases h; exact inf_of inf121
  · cases h; exact inf_of inf122
  · cases h; exact inf_of inf123
  · cases h; exact inf_of inf124
  · cases h; exact inf_of inf125
  · cases h; exact inf_of inf126
  · cases h; exact inf_of inf127
  · cases h; exact inf_of inf128
  · cases h; exact inf_of inf129
  · cases h; exact inf_of inf130
  · cases h; exact inf_of inf131
  · cases h; exact inf_of inf132
  · cases h; exact inf_of inf133
  · cases h; exact inf_of inf134
  · cases h; exact inf_of inf135
  · cases h; exact inf_of inf136
  · cases h; exact inf_of inf137
  · cases h; exact inf_of inf138
  · cases h; exact inf_of inf139
  · cases h; exact inf_of inf140
  · cases h; exact inf_of inf141
  · cases h; exact inf_of inf143
  · cases h; exact inf_of inf144
  · cases h; exact inf_of inf145
  · cases h; exact inf_of inf146
  · cases h; exact inf_of inf147
  · cases h; exact inf_of inf148
  · cases h; exact inf_of inf149
  · cases h; exact inf_of inf150
  · cases h; exact inf_of inf151
  · cases h; exact inf_of inf152
  · cases h; exact inf_of inf154
  · cases h; exact inf_of inf155
  · cases h; exact inf_of inf156
  · cases h; exact inf_of inf157
  · cases h; exact inf_of inf158
  · cases h; exact inf_of inf159
  · cases h; exact inf_of inf160
  · cases h; exact inf_of inf162
  · cases h; exact inf_of inf164
  · cases h; exact inf_of inf165
  · cases h; exact inf_of inf166
  · cases h; exact inf_of inf167
  · cases h; exact inf_of inf168
  · cases h; exact inf_of inf169
  · cases h; exact inf_of inf170
  · cases h; exact inf_of inf171
  · cases h; exact inf_of inf172
  · cases h; exact inf_of inf173
  · cases h; exact inf_of inf174
  · cases h; exact inf_of inf175
  · cases h; exact inf_of inf176
  · cases h; exact inf_of inf177
  · cases h; exact inf_of inf179
  · cases h; exact inf_of inf180
  · cases h; exact inf_of inf181
  · cases h; exact inf_of inf183
  · cases h; exact inf_of inf184
  · cases h; exact inf_of inf185
  · cases h; exact inf_of inf186
  · cases h; exact inf_of inf188
  · cases h; exact inf_of inf189
  · cases h; exact inf_of inf190
  · cases h; exact inf_of inf191
  · cases h; exact inf_of inf192
  · cases h; exact inf_of inf193
  · cases h; exact inf_of inf194
  · cases h; exact inf_of inf195
  · cases h; exact inf_of inf196
  · cases h; exact inf_of inf197
  · cases h; exact inf_of inf198
  · cases h; exact inf_of inf199
  · cases h; exact inf_of inf201
  · cases h; exact inf_of inf202
  · cases h; exact inf_of inf203
  · cases h; exact inf_of inf204
  · cases h; exact inf_of inf206
  · cases h; exact inf_of inf207
  · cases h; exact inf_of inf208
  · cases h; exact inf_of inf210
  · cases h; exact inf_of inf211
  · cases h; exact inf_of inf212
  · cases h; exact inf_of inf214
  · cases h; exact inf_of inf215
  · cases h; exact inf_of inf216
  · cases h; exact inf_of inf217
  · cases h; exact inf_of inf218
  · cases h; exact inf_of inf219
  · cases h; exact inf_of inf221
  · cases h; exact inf_of inf222
  · cases h; exact inf_of inf223
  · cases h; exact inf_of inf229
  · cases h; exact inf_of inf233
  · cases h
theorem lay34 : ∃ fs, Tryz.prog.underlying 34 = some (.struct fs) ∧ fs.toList.mapM (fun f => (Tryz.prog.info? f.type).map fun i => (f.offset, i.size)) = some [(0, 1), (1, 1), (2, 1), (3, 1), (4, 1), (5, 1)] := ⟨_, Tryz.underlying34, by kernel_rfl⟩
theorem lay35 : ∃ fs, Tryz.prog.underlying 35 = some (.struct fs) ∧ fs.toList.mapM (fun f => (Tryz.prog.info? f.type).map fun i => (f.offset, i.size)) = some [(0, 1), (1, 1), (2, 1), (3, 1), (4, 1), (5, 1)] := ⟨_, Tryz.underlying35, by kernel_rfl⟩
theorem lay44 : ∃ fs, Tryz.prog.underlying 44 = some (.struct fs) ∧ fs.toList.mapM (fun f => (Tryz.prog.info? f.type).map fun i => (f.offset, i.size)) = some [(0, 1), (1, 1)] := ⟨_, Tryz.underlying44, by kernel_rfl⟩
theorem lay45 : ∃ fs, Tryz.prog.underlying 45 = some (.struct fs) ∧ fs.toList.mapM (fun f => (Tryz.prog.info? f.type).map fun i => (f.offset, i.size)) = some [(0, 1), (1, 1)] := ⟨_, Tryz.underlying45, by kernel_rfl⟩
theorem lay46 : ∃ fs, Tryz.prog.underlying 46 = some (.struct fs) ∧ fs.toList.mapM (fun f => (Tryz.prog.info? f.type).map fun i => (f.offset, i.size)) = some [(0, 1), (1, 1)] := ⟨_, Tryz.underlying46, by kernel_rfl⟩
theorem lay47 : ∃ fs, Tryz.prog.underlying 47 = some (.struct fs) ∧ fs.toList.mapM (fun f => (Tryz.prog.info? f.type).map fun i => (f.offset, i.size)) = some [(0, 1), (1, 1)] := ⟨_, Tryz.underlying47, by kernel_rfl⟩
theorem lay67 : ∃ fs, Tryz.prog.underlying 67 = some (.struct fs) ∧ fs.toList.mapM (fun f => (Tryz.prog.info? f.type).map fun i => (f.offset, i.size)) = some [(0, 1), (1, 1)] := ⟨_, Tryz.underlying67, by kernel_rfl⟩
theorem lay68 : ∃ fs, Tryz.prog.underlying 68 = some (.struct fs) ∧ fs.toList.mapM (fun f => (Tryz.prog.info? f.type).map fun i => (f.offset, i.size)) = some [(0, 1), (1, 1)] := ⟨_, Tryz.underlying68, by kernel_rfl⟩
theorem lay71 : ∃ fs, Tryz.prog.underlying 71 = some (.struct fs) ∧ fs.toList.mapM (fun f => (Tryz.prog.info? f.type).map fun i => (f.offset, i.size)) = some [(0, 1), (1, 1)] := ⟨_, Tryz.underlying71, by kernel_rfl⟩
theorem lay105 : ∃ fs, Tryz.prog.underlying 105 = some (.struct fs) ∧ fs.toList.mapM (fun f => (Tryz.prog.info? f.type).map fun i => (f.offset, i.size)) = some [(0, 1), (1, 1)] := ⟨_, Tryz.underlying105, by kernel_rfl⟩
theorem lay106 : ∃ fs, Tryz.prog.underlying 106 = some (.struct fs) ∧ fs.toList.mapM (fun f => (Tryz.prog.info? f.type).map fun i => (f.offset, i.size)) = some [(0, 1), (1, 1)] := ⟨_, Tryz.underlying106, by kernel_rfl⟩
theorem lay115 : ∃ fs, Tryz.prog.underlying 115 = some (.struct fs) ∧ fs.toList.mapM (fun f => (Tryz.prog.info? f.type).map fun i => (f.offset, i.size)) = some [(0, 1), (1, 1)] := ⟨_, Tryz.underlying115, by kernel_rfl⟩
theorem lay136 : ∃ fs, Tryz.prog.underlying 136 = some (.struct fs) ∧ fs.toList.mapM (fun f => (Tryz.prog.info? f.type).map fun i => (f.offset, i.size)) = some [(0, 1), (1, 1)] := ⟨_, Tryz.underlying136, by kernel_rfl⟩
theorem lay137 : ∃ fs, Tryz.prog.underlying 137 = some (.struct fs) ∧ fs.toList.mapM (fun f => (Tryz.prog.info? f.type).map fun i => (f.offset, i.size)) = some [(0, 1), (1, 1)] := ⟨_, Tryz.underlying137, by kernel_rfl⟩
theorem tabL_ok : ∀ t l, tabL t = some l → ∃ fs, Tryz.prog.underlying t = some (.struct fs) ∧ fs.toList.mapM (fun f => (Tryz.prog.info? f.type).map fun i => (f.offset, i.size)) = some l := by
  intro t l h
  unfold tabL at h
  split at h
  · cases h; exact lay34
  · cases h; exact lay35
  · cases h; exact lay44
  · cases h; exact lay45
  · cases h; exact lay46
  · cases h; exact lay47
  · cases h; exact lay67
  · cases h; exact lay68
  · cases h; exact lay71
  · cases h; exact lay105
  · cases h; exact lay106
  · cases h; exact lay115
  · cases h; exact lay136
  · cases h; exact lay137
  · cases h
theorem tabL_pos : ∀ t l, tabL t = some l → l.all (fun x => x.2 != 0) = true := by
  intro t l h
  unfold tabL at h
  split at h
  · cases h; rfl
  · cases h; rfl
  · cases h; rfl
  · cases h; rfl
  · cases h; rfl
  · cases h; rfl
  · cases h; rfl
  · cases h; rfl
  · cases h; rfl
  · cases h; rfl
  · cases h; rfl
  · cases h; rfl
  · cases h; rfl
  · cases h; rfl
  · cases h
theorem mapM_get {P : Program} : ∀ (fs : List Field) (l : List (Nat × Nat)), fs.mapM (fun f => (P.info? f.type).map fun i => (f.offset, i.size)) = some l → ∀ (j : Nat) (x : Nat × Nat), l[j]? = some x → ∃ fl i, fs[j]? = some fl ∧ P.info? fl.type = some i ∧ fl.offset = x.1 ∧ i.size = x.2
  | [], l, h, j, x, hx => by simp at h; subst h; simp at hx
  | f :: fs, l, h, j, x, hx => by
    simp only [List.mapM_cons, Option.bind_eq_bind, Option.pure_def] at h
    cases hi : P.info? f.type with
    | none => simp [hi] at h
    | some i =>
      cases hr : fs.mapM (fun f => (P.info? f.type).map fun i => (f.offset, i.size)) with
      | none => simp [hi, hr] at h
      | some rest =>
        simp [hi, hr] at h
        subst h
        cases j with
        | zero => simp at hx; subst hx; exact ⟨f, i, rfl, hi, rfl, rfl⟩
        | succ j => simpa using mapM_get fs rest hr j x (by simpa using hx)
theorem tabF_ok : ∀ t j o, tabF t j = some o → ∃ fs fl i, Tryz.prog.underlying t = some (.struct fs) ∧ fs[j]? = some fl ∧ fl.offset = o ∧ Tryz.prog.info? fl.type = some i ∧ i.size ≠ 0 := by
  intro t j o h
  unfold tabF at h
  obtain ⟨l, h1, h2⟩ := Option.bind_eq_some_iff.1 h
  obtain ⟨x, h3, rfl⟩ := Option.map_eq_some_iff.1 h2
  obtain ⟨fs, h4, h5⟩ := tabL_ok t l h1
  obtain ⟨fl, i, h6, h7, h8, h9⟩ := mapM_get fs.toList l h5 j x h3
  refine ⟨fs, fl, i, h4, by simpa using h6, h8, h7, ?_⟩
  have := List.all_eq_true.1 (tabL_pos t l h1) x (List.mem_of_getElem? h3)
  rw [h9]
  simpa using this
theorem eqCl (a b c d : Int) (w : World) : (Op.equalIn 10000 45 (.agg #[.int .u32 a, .int .u32 b]) (.agg #[.int .u32 c, .int .u32 d])).run Tryz.prog w = .ok (a == c && b == d) w := by
  have u := Tryz.underlying43
  have hS : Tryz.prog.underlying 45 = some (.struct (Tryz.prog.fieldsOf 45)) := by kernel_rfl
  have hp : Tryz.prog.stoodInHeld 45 = false := by kernel_rfl
  obtain ⟨i, h1, h2⟩ : ∃ i, Tryz.prog.info? 43 = some i ∧ i.size = 1 := by
    obtain ⟨i, h1, h2⟩ := Option.map_eq_some_iff.1 (show (Tryz.prog.info? 43).map (fun i => i.size) = some 1 by kernel_rfl)
    exact ⟨i, h1, h2⟩
  have hz : ∀ w, (sizeOf 43).run Tryz.prog w = .ok 1 w := fun w => by simp [sizeOf, typeInfo, h1, h2]
  rw [show (10000 : Nat) = 9999 + 1 from rfl, run_equalIn_agg w 9999 45 _ _ hS hp]
  simp only [Program.fieldsOf, Tryz.underlying45]
  have hA : ∀ w, (isAgg 43).run Tryz.prog w = .ok false w := fun w => by simp [isAgg, run_underlying u]
  have e : ∀ (a c : Int) (w : World), (Op.equalIn 9999 43 (.int .u32 a) (.int .u32 c)).run Tryz.prog w = .ok (a == c) w := fun a c w => run_equalIn_int w 9998 43 .u32 .u32 a c u
  simp [Op.eqFields, part, hA, hz, e]
  by_cases h1 : a = c <;> by_cases h2 : b = d <;> simp [h1, h2]
instance : Go.Hy.Tab Tryz.prog := ⟨tabU, tabU_ok, tabI, tabI_ok, tabF, tabF_ok, tabL, tabL_ok, by kernel_rfl, 45, eqCl, by kernel_rfl⟩
noncomputable def fC' : Array Field := match Tryz.prog.underlying 45 with | some (.struct fs) => fs | _ => #[]
noncomputable def fT' : Array Field := match Tryz.prog.underlying 35 with | some (.struct fs) => fs | _ => #[]
noncomputable def fB' : Array Field := match Tryz.prog.underlying 47 with | some (.struct fs) => fs | _ => #[]
noncomputable instance : Go.Hy.TyF Tryz.prog := { tI := 3, tS := 9, tU := 43, tC := 45, tT := 35, tB := 47, lC := 25, lT := 33, lB := 22, fC := fC', fT := fT', fB := fB', uI := Tryz.underlying3, uS := Tryz.underlying9, uU := Tryz.underlying43, uC := by kernel_rfl, uT := by kernel_rfl, uB := by kernel_rfl, ulC := Tryz.underlying25, ulT := Tryz.underlying33, ulB := Tryz.underlying22, pC := by kernel_rfl, pT := by kernel_rfl, pB := by kernel_rfl, c1 := ⟨by kernel_rfl, by kernel_rfl, by kernel_rfl, by kernel_rfl, by kernel_rfl, by kernel_rfl⟩, c2 := ⟨by kernel_rfl, by kernel_rfl, by kernel_rfl⟩, b2 := ⟨by kernel_rfl, by kernel_rfl, by kernel_rfl⟩ }
theorem laid' : laidOutB Tryz.prog = true := by kernel_rfl
noncomputable instance : Go.Hy.TabM Tryz.prog := { law := deep_law_laid laid' (m := 3) (by omega) (of_decide_eq_true (by kernel_rfl)) (by kernel_rfl) (by kernel_rfl), kt := by kernel_rfl, names := by kernel_rfl, npos := of_decide_eq_true (by kernel_rfl) }
end Go.Proofs.YtpfjlbopkhdebaaGreatDoor.Hy
namespace Go.Hy
open Go.Proofs
set_option maxRecDepth 100000
/-- What a kid binds. -/
theorem binds_spec (k i : Int) : Spec Tryz.prog 147 #[.int .i64 k, .int .i64 i] [] [] (fun _ : Unit => .tuple #[.int .i64 (binds k i).1, .int .i64 (binds k i).2]) (fun _ => []) (fun _ => []) := by
  refine spec_go (args := [.int .i64 k, .int .i64 i]) Tryz.func147 Tryz.ntmps147 rfl (by exact Nat.le_of_ble_eq_true rfl) fun B hB => ?_
  refine go_seq ?_; refine go_region ⟨_, Tryz.func147⟩ rfl ?_; refine q0 rfl (o_assign ?_); refine q0 rfl (o_assign ?_); refine rg_nil ?_; refine go_seq ?_; refine go_seq ?_; refine go_region ⟨_, Tryz.func147⟩ rfl ?_; refine q0 rfl (o_move ?_); refine rg_nil ?_; refine go_block ?_; refine go_seq ?_; refine go_block ?_; refine go_seq ?_; refine go_block ?_; refine go_block ?_; refine go_block ?_; refine go_seq ?_; refine go_block ?_; refine go_seq ?_; refine go_seq ?_; refine go_seq ?_; refine go_seq ?_; refine go_region ⟨_, Tryz.func147⟩ rfl ?_; refine q0 rfl (o_eqI ?_); refine q0 rfl (o_assign ?_); refine rg_nil ?_; refine go_condI (fun h7 => ?_) (fun h7 => ?_)
  · refine go_skip ?_; refine go_condT ?_; refine go_exit rfl ?_; refine go_seq ?_; refine go_seq ?_; refine go_region ⟨_, Tryz.func147⟩ rfl ?_; refine q0 rfl (o_move ?_); refine q0 rfl (o_eqI ?_); refine rg_nil ?_; refine go_condI (fun h21 => ?_) (fun h21 => ?_)
    · refine go_seq ?_; refine go_region ⟨_, Tryz.func147⟩ rfl ?_; refine q0 rfl (o_assign ?_); refine q0 rfl (o_assign ?_); refine rg_nil ?_; refine ret2 Tryz.func147 Tryz.results147 wn_ wn_ () (by simp_all [binds]) (fun w hs => hs.none)
    · refine go_skip ?_; refine go_exit rfl ?_; refine go_seq ?_; refine go_region ⟨_, Tryz.func147⟩ rfl ?_; refine q0 rfl (o_assign ?_); refine q0 rfl (o_assign ?_); refine rg_nil ?_; refine ret2 Tryz.func147 Tryz.results147 wn_ wn_ () (by simp_all [binds]) (fun w hs => hs.none)
  · refine go_region ⟨_, Tryz.func147⟩ rfl ?_; refine q0 rfl (o_eqI ?_); refine q0 rfl (o_assign ?_); refine rg_nil ?_; refine go_condI (fun h7 => ?_) (fun h7 => ?_)
    · refine go_exit rfl ?_; refine go_seq ?_; refine go_seq ?_; refine go_region ⟨_, Tryz.func147⟩ rfl ?_; refine q0 rfl (o_move ?_); refine q0 rfl (o_eqI ?_); refine rg_nil ?_; refine go_condI (fun h21 => ?_) (fun h21 => ?_)
      · refine go_seq ?_; refine go_region ⟨_, Tryz.func147⟩ rfl ?_; refine q0 rfl (o_assign ?_); refine q0 rfl (o_assign ?_); refine rg_nil ?_; refine ret2 Tryz.func147 Tryz.results147 wn_ wn_ () (by simp_all [binds]) (fun w hs => hs.none)
      · refine go_skip ?_; refine go_exit rfl ?_; refine go_seq ?_; refine go_region ⟨_, Tryz.func147⟩ rfl ?_; refine q0 rfl (o_assign ?_); refine q0 rfl (o_assign ?_); refine rg_nil ?_; refine ret2 Tryz.func147 Tryz.results147 wn_ wn_ () (by simp_all [binds]) (fun w hs => hs.none)
    · refine go_skip ?_; refine go_seq ?_; refine go_seq ?_; refine go_region ⟨_, Tryz.func147⟩ rfl ?_; refine q0 rfl (o_eqI ?_); refine q0 rfl (o_assign ?_); refine rg_nil ?_; refine go_condI (fun h10 => ?_) (fun h10 => ?_)
      · refine go_exit rfl ?_; refine go_inBlock ?_; refine go_inBlock ?_; refine go_seq ?_; refine go_seq ?_; refine go_region ⟨_, Tryz.func147⟩ rfl ?_; refine q0 rfl (o_move ?_); refine q0 rfl (o_eqI ?_); refine rg_nil ?_; refine go_condI (fun h23 => ?_) (fun h23 => ?_)
        · refine go_seq ?_; refine go_region ⟨_, Tryz.func147⟩ rfl ?_; refine q0 rfl (o_assign ?_); refine q0 rfl (o_assign ?_); refine rg_nil ?_; refine ret2 Tryz.func147 Tryz.results147 wn_ wn_ () (by simp_all [binds]) (fun w hs => hs.none)
        · refine go_skip ?_; refine go_exit rfl ?_; refine go_seq ?_; refine go_region ⟨_, Tryz.func147⟩ rfl ?_; refine q0 rfl (o_assign ?_); refine q0 rfl (o_assign ?_); refine rg_nil ?_; refine ret2 Tryz.func147 Tryz.results147 wn_ wn_ () (by simp_all [binds]) (fun w hs => hs.none)
      · refine go_skip ?_; refine go_seq ?_; refine go_seq ?_; refine go_region ⟨_, Tryz.func147⟩ rfl ?_; refine q0 rfl (o_eqI ?_); refine q0 rfl (o_assign ?_); refine rg_nil ?_; refine go_condI (fun h12 => ?_) (fun h12 => ?_)
        · refine go_exit rfl ?_; refine go_inBlock ?_; refine go_seq ?_; refine go_seq ?_; refine go_region ⟨_, Tryz.func147⟩ rfl ?_; refine q0 rfl (o_move ?_); refine q0 rfl (o_eqI ?_); refine rg_nil ?_; refine go_condI (fun h23 => ?_) (fun h23 => ?_)
          · refine go_seq ?_; refine go_region ⟨_, Tryz.func147⟩ rfl ?_; refine q0 rfl (o_assign ?_); refine q0 rfl (o_assign ?_); refine rg_nil ?_; refine ret2 Tryz.func147 Tryz.results147 wn_ wn_ () (by simp_all [binds]) (fun w hs => hs.none)
          · refine go_skip ?_; refine go_exit rfl ?_; refine go_seq ?_; refine go_region ⟨_, Tryz.func147⟩ rfl ?_; refine q0 rfl (o_assign ?_); refine q0 rfl (o_assign ?_); refine rg_nil ?_; refine ret2 Tryz.func147 Tryz.results147 wn_ wn_ () (by simp_all [binds]) (fun w hs => hs.none)
        · refine go_skip ?_; refine go_seq ?_; refine go_seq ?_; refine go_region ⟨_, Tryz.func147⟩ rfl ?_; refine q0 rfl (o_eqI ?_); refine q0 rfl (o_assign ?_); refine rg_nil ?_; refine go_condI (fun h14 => ?_) (fun h14 => ?_)
          · refine go_exit rfl ?_; refine go_seq ?_; refine go_seq ?_; refine go_region ⟨_, Tryz.func147⟩ rfl ?_; refine q0 rfl (o_move ?_); refine q0 rfl (o_eqI ?_); refine rg_nil ?_; refine go_condI (fun h23 => ?_) (fun h23 => ?_)
            · refine go_seq ?_; refine go_region ⟨_, Tryz.func147⟩ rfl ?_; refine q0 rfl (o_assign ?_); refine q0 rfl (o_assign ?_); refine rg_nil ?_; refine ret2 Tryz.func147 Tryz.results147 wn_ wn_ () (by simp_all [binds]) (fun w hs => hs.none)
            · refine go_skip ?_; refine go_exit rfl ?_; refine go_seq ?_; refine go_region ⟨_, Tryz.func147⟩ rfl ?_; refine q0 rfl (o_assign ?_); refine q0 rfl (o_assign ?_); refine rg_nil ?_; refine ret2 Tryz.func147 Tryz.results147 wn_ wn_ () (by simp_all [binds]) (fun w hs => hs.none)
          · refine go_skip ?_; refine go_seq ?_; refine go_seq ?_; refine go_region ⟨_, Tryz.func147⟩ rfl ?_; refine q0 rfl (o_eqI ?_); refine q0 rfl (o_assign ?_); refine rg_nil ?_; refine go_condI (fun h16 => ?_) (fun h16 => ?_)
            · refine go_skip ?_; refine go_condT ?_; refine go_exit rfl ?_; refine go_seq ?_; refine go_seq ?_; refine go_region ⟨_, Tryz.func147⟩ rfl ?_; refine q0 rfl (o_move ?_); refine q0 rfl (o_eqI ?_); refine rg_nil ?_; refine go_condI (fun h25 => ?_) (fun h25 => ?_)
              · refine go_seq ?_; refine go_region ⟨_, Tryz.func147⟩ rfl ?_; refine q0 rfl (o_assign ?_); refine q0 rfl (o_assign ?_); refine rg_nil ?_; refine ret2 Tryz.func147 Tryz.results147 wn_ wn_ () (by simp_all [binds]) (fun w hs => hs.none)
              · refine go_skip ?_; refine go_exit rfl ?_; refine go_seq ?_; refine go_region ⟨_, Tryz.func147⟩ rfl ?_; refine q0 rfl (o_assign ?_); refine q0 rfl (o_assign ?_); refine rg_nil ?_; refine ret2 Tryz.func147 Tryz.results147 wn_ wn_ () (by simp_all [binds]) (fun w hs => hs.none)
            · refine go_seq ?_; refine go_region ⟨_, Tryz.func147⟩ rfl ?_; refine q0 rfl (o_eqI ?_); refine q0 rfl (o_assign ?_); refine rg_nil ?_; refine go_condI (fun h16 => ?_) (fun h16 => ?_)
              · refine go_skip ?_; refine go_condT ?_; refine go_exit rfl ?_; refine go_seq ?_; refine go_seq ?_; refine go_region ⟨_, Tryz.func147⟩ rfl ?_; refine q0 rfl (o_move ?_); refine q0 rfl (o_eqI ?_); refine rg_nil ?_; refine go_condI (fun h25 => ?_) (fun h25 => ?_)
                · refine go_seq ?_; refine go_region ⟨_, Tryz.func147⟩ rfl ?_; refine q0 rfl (o_assign ?_); refine q0 rfl (o_assign ?_); refine rg_nil ?_; refine ret2 Tryz.func147 Tryz.results147 wn_ wn_ () (by simp_all [binds]) (fun w hs => hs.none)
                · refine go_skip ?_; refine go_exit rfl ?_; refine go_seq ?_; refine go_region ⟨_, Tryz.func147⟩ rfl ?_; refine q0 rfl (o_assign ?_); refine q0 rfl (o_assign ?_); refine rg_nil ?_; refine ret2 Tryz.func147 Tryz.results147 wn_ wn_ () (by simp_all [binds]) (fun w hs => hs.none)
              · refine go_region ⟨_, Tryz.func147⟩ rfl ?_; refine q0 rfl (o_eqI ?_); refine q0 rfl (o_assign ?_); refine rg_nil ?_; refine go_condI (fun h16 => ?_) (fun h16 => ?_)
                · refine go_exit rfl ?_; refine go_seq ?_; refine go_seq ?_; refine go_region ⟨_, Tryz.func147⟩ rfl ?_; refine q0 rfl (o_move ?_); refine q0 rfl (o_eqI ?_); refine rg_nil ?_; refine go_condI (fun h25 => ?_) (fun h25 => ?_)
                  · refine go_seq ?_; refine go_region ⟨_, Tryz.func147⟩ rfl ?_; refine q0 rfl (o_assign ?_); refine q0 rfl (o_assign ?_); refine rg_nil ?_; refine ret2 Tryz.func147 Tryz.results147 wn_ wn_ () (by simp_all [binds]) (fun w hs => hs.none)
                  · refine go_skip ?_; refine go_exit rfl ?_; refine go_seq ?_; refine go_region ⟨_, Tryz.func147⟩ rfl ?_; refine q0 rfl (o_assign ?_); refine q0 rfl (o_assign ?_); refine rg_nil ?_; refine ret2 Tryz.func147 Tryz.results147 wn_ wn_ () (by simp_all [binds]) (fun w hs => hs.none)
                · refine go_skip ?_; refine go_exit rfl ?_; refine go_seq ?_; refine go_region ⟨_, Tryz.func147⟩ rfl ?_; refine q0 rfl (o_assign ?_); refine q0 rfl (o_assign ?_); refine rg_nil ?_; refine ret2 Tryz.func147 Tryz.results147 wn_ wn_ () (by simp_all [binds]) (fun w hs => hs.none)
theorem each_spec (t : T) (vr vk vs : SH) (c : FuncId) (cap : List Value) (FΓ : List Fact) (SM SF : Nat → List Res) (β : Nat → Bool)
    (hc : ∀ (args : Array Value) (w : World), (callFunc c args).run Tryz.prog w = .ok (.enter c args) w)
    (hcl : ∀ m k v d, (parts t)[m]? = some (k, v, d) → (∀ j, j < m → β j = true) → ∀ vr vk vs, Spec Tryz.prog c (.agg (tc k vr vk vs).toArray :: .int .i64 v :: .int .i64 d :: cap).toArray (RT k vr vk vs :: FΓ) (SM m) (fun _ : Unit => .bool (β m)) (fun _ => []) (fun _ => if β m then SM (m + 1) else SF m)) :
    Spec Tryz.prog 98 #[.agg (tc t vr vk vs).toArray, .func (.func c) #[] cap.toArray] (RT t vr vk vs :: FΓ) (SM 0) (fun _ : Unit => .bool (ff β (parts t).length == (parts t).length)) (fun _ => []) (fun _ => if ff β (parts t).length = (parts t).length then SM (parts t).length else SF (ff β (parts t).length)) := by
  refine spec_go (args := [.agg (tc t vr vk vs).toArray, .func (.func c) #[] cap.toArray]) Tryz.func98 Tryz.ntmps98 rfl (by exact Nat.le_of_ble_eq_true rfl) fun B hB => ?_
  refine go_open (fun hk hn hnm => ?_); refine go_openTL (ts := t.kids) (fun VR VK VS hl1 hA1 => ?_); refine go_openBL (bs := t.sys) (fun VF VK2 hl2 hA2 => ?_); have hpl := parts_length t; refine go_seq ?_; refine go_region ⟨_, Tryz.func98⟩ rfl ?_; refine q0 rfl (o_box fun b2 => ?_); refine q0 rfl (o_assign ?_); refine rg_nil ?_; refine go_seq ?_; refine go_seq ?_; refine go_region ⟨_, Tryz.func98⟩ rfl ?_; refine q0 rfl (o_fa ?_); refine q0 rfl (o_ld ?_); refine q0 rfl (o_len ?_); refine q0 rfl (o_move ?_); refine rg_nil ?_; refine go_block ?_; refine go_loopI (X := Nat) (fun i => i ≤ t.kids.length ∧ ∀ j, j < i → β j = true) (fun i => [(1, .func (.func c) #[] cap.toArray), (2, .pointer (some ⟨b2, 0, none⟩)), (15, sl vk t.kids.length), (16, .int .i64 (t.kids.length : Int)), (17, .int .i64 (i : Int))]) (fun i => TLx t.kids vk VR VK VS :: BLx t.sys vs VF VK2 :: RT t vr vk vs :: FΓ) (fun i => boxR b2 (tc t vr vk vs) 35 :: SM i) (fun i => t.kids.length - i) (0) (⟨Nat.zero_le _, fun j hj => by omega⟩) (by exact ⟨rfl, rfl, rfl, rfl, rfl, trivial⟩) ?_ ?_
  · exact fun w hs => hs.less (by simp +contextual)
  · intro i base0 ⟨hi, hβ⟩ next0; refine go_seq ?_; refine go_region ⟨_, Tryz.func98⟩ rfl ?_; refine q0 rfl (o_lss ?_); refine rg_nil ?_; refine go_seq ?_; refine go_condI (fun h18 => ?_) (fun h18 => ?_)
    · have hlt : i < t.kids.length := by have := of_decide_eq_true h18; omega
      obtain ⟨bk, o, hav⟩ := hA1 (by omega); refine go_skip ?_; refine go_seq ?_; refine go_block ?_; refine go_seq ?_; refine go_region ⟨_, Tryz.func98⟩ rfl ?_; refine q0 rfl (o_move ?_); refine q0 rfl (o_ixN ?_); refine q0 rfl (o_ldT ?_); refine q0 rfl (o_new fun b6 => ?_); refine q0 rfl (o_assign ?_); refine q0 rfl (o_st ?_); refine rg_nil ?_; refine go_seq ?_; refine go_kid i hlt ?_; refine go_region ⟨_, Tryz.func98⟩ rfl ?_; have hpk := parts_kid t i hlt; refine q0 rfl (o_fa ?_); refine q0 rfl (o_ld ?_); refine q0 rfl (o_move ?_); refine q0 rfl (o_call Tryz.call147 (binds_spec t.kind i) (fun x26 => ?_)); refine q0 rfl (o_move ?_); refine q0 rfl (o_extract ?_); refine q0 rfl (o_extract ?_); refine q0 rfl (o_assign ?_); refine q0 rfl (o_assign ?_); refine rg_nil ?_; refine go_seq ?_; refine go_region ⟨_, Tryz.func98⟩ rfl ?_; refine q0 rfl (o_move ?_); refine q0 rfl (o_lds ?_); refine q0 rfl (o_move ?_); refine q0 rfl (o_move ?_); refine q0 rfl (o_callC hc (hcl i _ _ _ hpk hβ _ _ _) (fun x33 => ?_)); refine q0 rfl (o_not ?_); refine rg_nil ?_; refine go_condI (fun h34 => ?_) (fun h34 => ?_)
      · have hβf : β i = false := by simpa using h34
        refine go_seq ?_; refine go_region ⟨_, Tryz.func98⟩ rfl ?_; refine q0 rfl (o_assign ?_); refine rg_nil ?_; have hff := ff_stop hβf hβ (n := (parts t).length) (by omega); refine ret1 Tryz.func98 Tryz.results98 wn_ () (by simp [hff]; omega) (fun w hs => by rw [hff, if_neg (by omega)]; simp only [hβf, Bool.false_eq_true, if_false] at hs; exact (hs.less (by simp)).dropR)
      · refine go_skip ?_; refine go_inBlock ?_; refine go_region ⟨_, Tryz.func98⟩ rfl ?_; refine q0 rfl (o_add ?_); refine q0 rfl (o_move ?_); refine rg_nil ?_; have hβt : β i = true := by simpa using h34
        refine go_state (fun w hs => ?_) (next0 (i + 1) _ ⟨hlt, fun j hj => (by rcases Nat.lt_succ_iff_lt_or_eq.mp hj with h | h; exact hβ j h; subst h; exact hβt)⟩ (by omega) ⟨rfl, rfl, rfl, rfl, rfl, trivial⟩); simp only [hβt, if_true] at hs; exact ((hs.less (by simp +contextual)).perm List.perm_append_comm).drop
    · have hge : i = t.kids.length := by have := of_decide_eq_false h18; omega
      refine go_exit rfl ?_; refine go_seq ?_; refine go_region ⟨_, Tryz.func98⟩ rfl ?_; refine q0 rfl (o_assign ?_); refine rg_nil ?_; refine go_seq ?_; refine go_seq ?_; refine go_region ⟨_, Tryz.func98⟩ rfl ?_; refine q0 rfl (o_fa ?_); refine q0 rfl (o_ld ?_); refine q0 rfl (o_eqI ?_); refine rg_nil ?_; refine go_cutS ([(1, .func (.func c) #[] cap.toArray), (2, .pointer (some ⟨b2, 0, none⟩)), (9, .int .i64 (more t.kind))]) (fun hK => ?_) (fun base => ?_)
      · refine go_condI (fun h38 => ?_) (fun h38 => ?_)
        · refine go_region ⟨_, Tryz.func98⟩ rfl ?_; refine q0 rfl (o_assign ?_); refine rg_nil ?_; exact hK _ ⟨rfl, rfl, by first | (rw [more, if_pos (of_decide_eq_true h38)]; rfl) | (rw [more, if_neg (of_decide_eq_false h38)]; rfl), trivial⟩
        · refine go_skip ?_; exact hK _ ⟨rfl, rfl, by first | (rw [more, if_pos (of_decide_eq_true h38)]; rfl) | (rw [more, if_neg (of_decide_eq_false h38)]; rfl), trivial⟩
      · refine go_seq ?_; refine go_seq ?_; refine go_region ⟨_, Tryz.func98⟩ rfl ?_; refine q0 rfl (o_fa ?_); refine q0 rfl (o_ld ?_); refine q0 rfl (o_len ?_); refine q0 rfl (o_move ?_); refine rg_nil ?_; refine go_block ?_; refine go_loopI (X := Nat) (fun i2 => i2 ≤ t.sys.length ∧ ∀ j, j < t.kids.length + sysBefore i2 t.sys → β j = true) (fun i2 => [(1, .func (.func c) #[] cap.toArray), (9, .int .i64 (more t.kind)), (40, sl vs t.sys.length), (41, .int .i64 (t.sys.length : Int)), (42, .int .i64 (i2 : Int))]) (fun i2 => BLx t.sys vs VF VK2 :: FΓ) (fun i2 => SM (t.kids.length + sysBefore i2 t.sys)) (fun i2 => t.sys.length - i2) (0) (⟨Nat.zero_le _, fun j hj => hβ j (by simp [sysBefore] at hj; omega)⟩) (by exact ⟨rfl, rfl, rfl, rfl, rfl, trivial⟩) ?_ ?_
        · exact fun w hs => (by simpa [sysBefore, show i = t.kids.length by omega] using (hs.drop.less (Γ' := BLx t.sys vs VF VK2 :: FΓ) (by simp +contextual)))
        · intro i2 base1 ⟨hi2, hβ2⟩ next1; refine go_seq ?_; refine go_region ⟨_, Tryz.func98⟩ rfl ?_; refine q0 rfl (o_lss ?_); refine rg_nil ?_; refine go_seq ?_; refine go_condI (fun h43 => ?_) (fun h43 => ?_)
          · have hlt2 : i2 < t.sys.length := by have := of_decide_eq_true h43; omega
            obtain ⟨bk2, o2, hav2⟩ := hA2 (by omega); refine go_skip ?_; refine go_seq ?_; refine go_block ?_; refine go_seq ?_; refine go_region ⟨_, Tryz.func98⟩ rfl ?_; refine q0 rfl (o_ixN ?_); refine q0 rfl (o_ldB ?_); refine q0 rfl (o_new fun b11 => ?_); refine q0 rfl (o_st ?_); refine rg_nil ?_; refine go_seq ?_; refine go_region ⟨_, Tryz.func98⟩ rfl ?_; refine q0 rfl (o_fa ?_); refine q0 rfl (o_ld ?_); refine q0 rfl (o_len ?_); refine q0 rfl (o_move ?_); refine rg_nil ?_; refine go_block ?_; refine go_branch i2 (by omega) ?_; refine go_openTL (ts := (t.sys.getD i2 br0).kids) (fun VR3 VK3 VS3 hl3 hA3 => ?_); refine go_loopI (X := Nat) (fun j => j ≤ (t.sys.getD i2 br0).kids.length ∧ ∀ m, m < t.kids.length + sysBefore i2 t.sys + j → β m = true) (fun j => [(1, .func (.func c) #[] cap.toArray), (9, .int .i64 (more t.kind)), (40, sl vs t.sys.length), (41, .int .i64 (t.sys.length : Int)), (42, .int .i64 ((i2 : Nat) : Int)), (47, sl (VK2 i2) (t.sys.getD i2 br0).kids.length), (48, .int .i64 ((t.sys.getD i2 br0).kids.length : Int)), (49, .int .i64 (j : Int))]) (fun j => TLx (t.sys.getD i2 br0).kids (VK2 i2) VR3 VK3 VS3 :: BLx t.sys vs VF VK2 :: FΓ) (fun j => SM (t.kids.length + sysBefore i2 t.sys + j)) (fun j => (t.sys.getD i2 br0).kids.length - j) (0) (⟨Nat.zero_le _, hβ2⟩) (by exact ⟨rfl, rfl, rfl, rfl, rfl, rfl, rfl, rfl, trivial⟩) ?_ ?_
            · exact fun w hs => (hs.less (by simp +contextual)).drop
            · intro j base2 ⟨hj, hβ3⟩ next2; refine go_seq ?_; refine go_region ⟨_, Tryz.func98⟩ rfl ?_; refine q0 rfl (o_lss ?_); refine rg_nil ?_; refine go_seq ?_; refine go_condI (fun h50 => ?_) (fun h50 => ?_)
              · have hlt3 : j < (t.sys.getD i2 br0).kids.length := by have := of_decide_eq_true h50; omega
                obtain ⟨bk3, o3, hav3⟩ := hA3 (by omega); have hps := parts_sys t i2 j hlt2 hlt3; refine go_kid j hlt3 ?_; refine go_skip ?_; refine go_seq ?_; refine go_block ?_; refine go_seq ?_; refine go_region ⟨_, Tryz.func98⟩ rfl ?_; refine q0 rfl (o_ixN ?_); refine q0 rfl (o_ldT ?_); refine q0 rfl (o_new fun b13 => ?_); refine q0 rfl (o_st ?_); refine rg_nil ?_; refine go_seq ?_; refine go_region ⟨_, Tryz.func98⟩ rfl ?_; refine q0 rfl (o_move ?_); refine q0 rfl (o_lds ?_); refine q0 rfl (o_move ?_); refine q0 rfl (o_callC hc (hcl _ _ _ _ hps hβ3 _ _ _) (fun x56 => ?_)); refine q0 rfl (o_not ?_); refine rg_nil ?_; refine go_condI (fun h57 => ?_) (fun h57 => ?_)
                · have hβf : β (t.kids.length + sysBefore i2 t.sys + j) = false := by simpa using h57
                  refine go_seq ?_; refine go_region ⟨_, Tryz.func98⟩ rfl ?_; refine q0 rfl (o_assign ?_); refine rg_nil ?_; have hbd := sysBefore_le hlt2 hlt3; have hff := ff_stop hβf hβ3 (n := (parts t).length) (by omega); refine ret1 Tryz.func98 Tryz.results98 wn_ () (by simp [hff]; omega) (fun w hs => by rw [hff, if_neg (by omega)]; simp only [hβf, Bool.false_eq_true, if_false] at hs; exact (hs.less (by simp)).dropR)
                · refine go_skip ?_; refine go_inBlock ?_; refine go_region ⟨_, Tryz.func98⟩ rfl ?_; refine q0 rfl (o_add ?_); refine q0 rfl (o_move ?_); refine rg_nil ?_; have hβt : β (t.kids.length + sysBefore i2 t.sys + j) = true := by simpa using h57
                  refine go_state (fun w hs => ?_) (next2 (j + 1) _ ⟨hlt3, fun j2 hj2 => (by rcases Nat.lt_succ_iff_lt_or_eq.mp hj2 with h | h; exact hβ3 j2 h; subst h; exact hβt)⟩ (by omega) ⟨rfl, rfl, rfl, rfl, rfl, rfl, rfl, rfl, trivial⟩); simp only [hβt, if_true] at hs; exact (hs.less (by simp +contextual)).dropR
              · have hge3 : j = (t.sys.getD i2 br0).kids.length := by have := of_decide_eq_false h50; omega
                refine go_exit rfl ?_; refine go_inBlock ?_; refine go_region ⟨_, Tryz.func98⟩ rfl ?_; refine q0 rfl (o_add ?_); refine q0 rfl (o_move ?_); refine rg_nil ?_; refine go_state (fun w hs => ?_) (next1 (i2 + 1) _ ⟨hlt2, by rw [sysBefore_succ i2 t.sys hlt2]; rw [hge3] at hβ3; simpa [Nat.add_assoc] using hβ3⟩ (by omega) ⟨rfl, rfl, rfl, rfl, rfl, trivial⟩); rw [hge3] at hs; simp only [sysBefore_succ i2 t.sys hlt2, ← Nat.add_assoc]; exact hs.less (by simp +contextual)
          · refine go_exit rfl ?_; refine go_seq ?_; refine go_region ⟨_, Tryz.func98⟩ rfl ?_; refine q0 rfl (o_assign ?_); refine rg_nil ?_; have hie : i2 = t.sys.length := by have := of_decide_eq_false h43; omega
            have hff := ff_all (β := β) (n := (parts t).length) (by rw [hpl, ← hie]; exact hβ2); refine ret1 Tryz.func98 Tryz.results98 wn_ () (by simp [hff]) (fun w hs => by rw [hff, if_pos rfl, hpl, ← hie]; exact hs.less (by simp))
end Go.Hy
