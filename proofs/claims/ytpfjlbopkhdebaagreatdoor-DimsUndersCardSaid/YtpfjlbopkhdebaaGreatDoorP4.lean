/- Contracts of this program's functions and the laws that they need: a separation logic over the machine's rules, one theorem each (partly printed by a program of this repository). -/
import Derived.ArgAppend
import Derived.Test.YtpfjlbopkhdebaaGreatDoorProg
import Derived.KernelRfl
import Derived.Shelf.SlSortCmp.WholeK
import Derived.Shelf.SlGeneric
import Derived.Ground.SlsfProg
import Derived.Test.YtpfjlbopkhdebaaGreatDoorP2
import Derived.Test.YtpfjlbopkhdebaaGreatDoorP3
set_option linter.unusedVariables false
set_option linter.unusedSimpArgs false
set_option linter.unusedSectionVars false
namespace Go.Hy
/-! ### Rows of any kind of element, known for good -/
section
variable {α : Type}
def G0o (E : α → Fact) (l : List α) : Fact := ⟨fun ok w => ∀ x, x ∈ l → (E x).f ok w, fun _ _ _ hs h x hx => (E x).mono _ _ _ hs (h x hx), fun _ _ _ h hs x hx => (E x).loc _ _ _ (h x hx) hs⟩
def E6l (sz bt : Nat) (F : α → List Value) (E : α → Fact) (d : α) (l : List α) (a : SH) : Fact := ⟨fun ok w => rowAt ok sz bt l.length a (fun i => F (l.getD i d)) w ∧ ∀ x, x ∈ l → (E x).f ok w,
 fun _ _ _ hs h => ⟨h.1.mono hs, fun x hx => (E x).mono _ _ _ hs (h.2 x hx)⟩, fun _ _ _ h hs => ⟨h.1.loc hs, fun x hx => (E x).loc _ _ _ (h.2 x hx) hs⟩⟩
variable {B : A6n} {Γ : List Fact} {Ms : List Res} {w : World} {E : α → Fact} {F : α → List Value} {sz bt n : Nat} {d : α} {l : List α} {a : SH}
theorem St.E6b (E : α → Fact) (hs : St B Γ Ms w) : St B (G0o E [] :: Γ) Ms w := hs.add (fun x hx => by cases hx)
theorem St.D1p {x : α} (hs : St B Γ Ms w) (h1 : G0o E l ∈ Γ) (h2 : E x ∈ Γ) : St B (G0o E (l ++ [x]) :: Γ) Ms w := by
 refine hs.add (fun y hy => ?_)
 rcases List.mem_append.mp hy with hy | hy
 ·exact hs.facts _ h1 y hy
 ·rw [List.mem_singleton] at hy; subst hy; exact hs.facts _ h2
theorem St.C0s {e : TypeId} {xs : List Value} (hF : ∀ x, (F x).length = sz) (hs : St B Γ (A1q sz e a n xs :: Ms) w) {hBp : Prop} (hB : hBp) (hA : G0o E l ∈ Γ) (hx : xs = l.flatMap F) (hn : n = l.length) (hb : n * bt ≤ reach) : St B (E6l sz bt F E d l a :: Γ) Ms w := by
 subst hx
 have hrow := hs.B7p (F := ⟨fun ok w => rowAt ok sz bt n a (fun i => F (l.getD i d)) w, fun _ _ _ hs h => h.mono hs, fun _ _ _ h hs => h.loc hs⟩) hB (fun ok hok hh => B3h (F := F) hF d (hh : World.ownsRow _ _ _ _ _ _ _) hn hb hok)
 have hr2 := hrow.facts _ List.mem_cons_self
 have h3 := hrow.facts _ (List.mem_cons_of_mem _ hA)
 exact hs.drop.add ⟨hn ▸ hr2, h3⟩
theorem St.F3n (hs : St B Γ Ms w) (hF : E6l sz bt F E d l a ∈ Γ) : l.length * bt ≤ reach ∧ (0 < l.length → ∃ b o, a.1 = some ⟨b, o, Option.none⟩) := by
 obtain ⟨h2, _⟩ := hs.facts _ hF
 exact ⟨h2.2.1, fun hn => by obtain ⟨b, o, h3, _⟩ := h2.2.2 hn; exact ⟨b, o, h3⟩⟩
theorem St.F2x {i : Nat} (hs : St B Γ Ms w) (hF : E6l sz bt F E d l a ∈ Γ) (hi : i < l.length) : St B (E (l.getD i d) :: Γ) Ms w := hs.add ((hs.facts _ hF).2 _ (A0n hi))
end
section
variable {α : Type} {P : Program} {f : FuncId} {R : Ending → World → Prop} {B : A6n} {n : Fz} {todo : List Item} {σ : Nat → Value} {Γ : List Fact} {Ms : List Res} {E : α → Fact} {F : α → List Value} {sz bt : Nat} {d : α} {l : List α} {a : SH}
theorem C4v (hF : E6l sz bt F E d l a ∈ Γ) (k : l.length * bt ≤ reach → (0 < l.length → ∃ b o, a.1 = some ⟨b, o, none⟩) → GoT P f R B n todo σ Γ Ms) : GoT P f R B n todo σ Γ Ms := A1y (p := l.length * bt ≤ reach ∧ (0 < l.length → ∃ b o, a.1 = some ⟨b, o, none⟩)) (fun w hs => hs.F3n hF) (fun h => k h.1 h.2)
theorem E4y (hF : E6l sz bt F E d l a ∈ Γ) (i : Nat) (hi : i < l.length) (k : GoT P f R B n todo σ (E (l.getD i d) :: Γ) Ms) : GoT P f R B n todo σ Γ Ms := A0b (fun w hs => hs.F2x hF hi) k
variable [Tab P] {x y : Operand} {v : Value} {ty : TypeId}
theorem F4e {t : TypeId} {lay : List (Nat × Nat)} {bt' bk o i : Nat} {zv : Value} (hFs : ∀ x, (F x).length = sz) (hx : ev σ x = .pointer (some ⟨bk, o + i * sz, none⟩)) (hF : E6l sz bt F E d l a ∈ Γ) (ha : a.1 = some ⟨bk, o, none⟩) (hu : Tab.lay P t = some lay) (hi : Tab.inf P t = some (sz, bt', zv)) (hlt : i < l.length) :
  B2u P B σ Γ Ms (.load t x) ty (.agg (F (l.getD i d)).toArray) := fun w hs => by
 have h3 := (A9h (hs.facts _ hF).1 ha hlt).2
 have h4 := A3q (P := P) (bk := bk) (off := o + i * sz) (w := w) hu hi (cs := F (l.getD i d)) (hFs _) h3
 simp [opr, execOp, hx, Instr.loadAt, Instr.sureAddr, h4]
theorem F4f {t : TypeId} {d' : TypeDesc} {bk o i k : Nat} (hx : ev σ x = .pointer (some ⟨bk, o + i * sz + k, none⟩)) (hF : E6l sz bt F E d l a ∈ Γ) (ha : a.1 = some ⟨bk, o, none⟩) (hu : Tab.und P t = some d') (hd : (match d' with | .struct _ | .array _ _ => true | _ => false) = false) (hk : (F (l.getD i d))[k]? = some v) (hlt : i < l.length) :
  B2u P B σ Γ Ms (.load t x) ty v := fun w hs => by
 have h3 := (A9h (hs.facts _ hF).1 ha hlt).2 k v hk
 simp [opr, execOp, hx, Instr.loadAt, Instr.sureAddr, A4m hu hd h3]
theorem F4g {t : TypeId} {d' : TypeDesc} {bk o i : Nat} (hx : ev σ x = .pointer (some ⟨bk, o + i * 1, none⟩)) (hF : E6l 1 bt F E d l a ∈ Γ) (ha : a.1 = some ⟨bk, o, none⟩) (hu : Tab.und P t = some d') (hd : (match d' with | .struct _ | .array _ _ => true | _ => false) = false) (hk : (F (l.getD i d))[0]? = some v) (hlt : i < l.length) :
  B2u P B σ Γ Ms (.load t x) ty v := F4f (k := 0) hx hF ha hu hd hk hlt
end
/-! ### Spots and paths -/
abbrev QP := TP × Int × Int
def qE (q : QP) : Fact := RT q.1.1 q.1.2.1 q.1.2.2.1 q.1.2.2.2
abbrev IP := List Int × SH
def ipE (p : IP) : Fact := IL p.1 p.2
abbrev CP := List Cl × SH
def B8k (p : CP) : List Value := [sl p.2 p.1.length]
def cp0 : CP := ([], (none, 0))
abbrev cpE (p : CP) : Fact := CL p.1 p.2
abbrev CCF (l : List CP) (a : SH) : Fact := E6l 1 24 B8k cpE cp0 l a
section
variable {B : A6n} {Γ : List Fact} {Ms : List Res} {w : World}
/-- A list of one list of clauses, just written down. -/
theorem St.F8b {e : TypeId} {b : Nat} {l : List Cl} {a : SH} (hs : St B Γ (A1t b [sl a l.length] e :: Ms) w) {hBp : Prop} (hB : hBp) (hF : CL l a ∈ Γ) : St B (CCF [(l, a)] (some ⟨b, 0, Option.none⟩, 1) :: Γ) Ms w :=
 ((((hs.A5c (sz := 1) (m := 1) rfl (by decide)).E6b cpE).D1p (x := (l, a)) List.mem_cons_self (List.mem_cons_of_mem _ hF)).C0s (F := B8k) (E := cpE) (d := cp0) (bt := 24) (l := [(l, a)]) (fun _ => rfl) hB List.mem_cons_self rfl rfl (by decide)).less (by simp +contextual)
end
end Go.Hy
namespace Go.Hy
section
variable {P : Program} [Tab P] {B : A6n} {σ : Nat → Value} {Γ : List Fact} {Ms Ms2 : List Res} {ty : TypeId} {x y z : Operand} {v : Value}
end
section
variable {P : Program} [Tab P] {f : FuncId} {fn : Func} {B : A6n} {n : Fz} {K : List Item} {σ : Nat → Value} {Γ : List Fact} {Ms : List Res} {X : Type} {val : X → Value} {N : X → List Fact} {Ms1 : X → List Res}
/-- Two results, of which the first lies in a variable. -/
theorem A8f {r t T : Nat} {r2 : Tmp} {b s bt : Nat} {zv v2 : Value} {lay : List (Nat × Nat)} {cs : List Value} (hf : P.funcs[f]? = some fn) (hr : fn.results = #[.cell r t, .tmp r2]) (x : X) (hb : σ r = .pointer (some ⟨b, 0, none⟩)) (hm : A1t b cs T ∈ Ms) (hl : Tab.lay P t = some lay) (hi : Tab.inf P t = some (s, bt, zv)) (hcs : cs.length = s) (h2 : σ r2 = v2) (hv : Value.tuple #[.agg cs.toArray, v2] = val x) (hs : ∀ w, St B Γ Ms w → St B (N x) (Ms1 x) w) (hD : n.defs = [] := by rfl) (hK : okK n.kind := by first | exact .inl rfl | exact .inr rfl) : GoT P f (Ends B val N Ms1) B n (.code .ret :: K) σ Γ Ms :=
 go_ret hf (fun a w ha h => by
  have h1 := ha.get r
  rw [hb] at h1
  have h3 := ha.get r2
  rw [h2] at h3
  have h4 := A3q (P := P) (bk := b) (off := 0) (w := w) hl hi hcs (fun j v hj => by rw [Nat.zero_add]; exact B7b h hm j v hj)
  have h1' : (a.tmps[r]?.getD undef) = .pointer (some ⟨b, 0, none⟩) := by simpa [Array.getD_eq_getD_getElem?] using h1
  have h3' : (a.tmps[r2]?.getD undef) = v2 := by simpa [Array.getD_eq_getD_getElem?] using h3
  simp [results, hr, asAddr, h1', h4, h3', ← hv]) (fun w h => ⟨x, rfl, hs w h⟩) hD hK
theorem St.F0j {w : World} (hs : St B Γ Ms w) : St B (RT t0 (Option.none, 0) (Option.none, 0) (Option.none, 0) :: Γ) Ms w :=
 ((((hs.A3s 0).F3x 0).E8o 0).F3y (k := 0) (n := 0) (nm := ⟨#[]⟩) (r := []) (ks := []) (ss := []) (vr := (Option.none, 0)) (vk := (Option.none, 0)) (vs := (Option.none, 0)) (by unfold A2j; omega) (by unfold A2j; omega) (Nat.zero_le _) (by simp) (by simp) (by simp)).less (by simp +contextual [t0])
end
end Go.Hy
namespace Go.Hy
/-! Wrappers of rules for spots and paths (printed by a program of this repository). -/
section
variable {tn : Bool} {pn : Nat} {P : Program} [Tab P] {f : FuncId} {R : Ending → World → Prop} {B : A6n} {n : Fz} {K : List Item} {ops : Array Oper} {i : Nat} {l fin : List Nat} {σ : Nat → Value} {Γ : List Fact} {Ms Ms2 : List Res}
variable {dst : Option Tmp} {op : Op} {ty : TypeId} {pos : String} {after : Array Edge} {v : Value} {x y z : Operand}
theorem F7q {t : TypeId} {d : TypeDesc} {bk o i' : Nat} {a : SH} {ls : List CP} (k_ : RgT P f R B n K ops l (A1u σ dst v) Γ Ms) (hx : ev σ x = .pointer (some ⟨bk, o + i' * 1, none⟩) := by exact wn_) (hFa : CCF ls a ∈ Γ ∧ a.1 = some ⟨bk, o, none⟩ := by exact ma0_) (hu : Tab.und P t = some d := by rfl) (hd' : (match d with | .struct _ | .array _ _ => true | _ => false) = false := by rfl) (hk : (B8k (ls.getD i' cp0))[0]? = some v := by exact wn_) (hlt : i' < ls.length := by first | omega | (simp only [List.length_map, List.length_set]; omega) | (simp; omega)) (hd : A0s n dst = true := by rfl) : OpT P f R B n K ops l (opr dst (.load t x) ty) σ Γ Ms := A8b (F4g hx hFa.1 hFa.2 hu hd' hk hlt) hd k_
end
end Go.Hy
namespace Go.Hy
/-! Wrappers: comparisons whose answer is known (printed by a program of this repository). -/
section
variable {tn : Bool} {pn : Nat} {P : Program} [Tab P] {f : FuncId} {R : Ending → World → Prop} {B : A6n} {n : Fz} {K : List Item} {ops : Array Oper} {i : Nat} {l fin : List Nat} {σ : Nat → Value} {Γ : List Fact} {Ms Ms2 : List Res}
variable {dst : Option Tmp} {op : Op} {ty : TypeId} {pos : String} {after : Array Edge} {v : Value} {x y z : Operand}
theorem F1d {t : TypeId} {a : Int} (hx : ev σ x = .int .i64 a) (h : A2j (-a)) : A3j P σ (.unOp .neg t x) ty (.int .i64 (-a)) := fun w => by
 have e : IntKind.i64.wrap (0 - a) = -a := by rw [wrap64_in (by unfold A2j at *; omega)]; omega
 simp only [opr, execOp, hx, Op.unary, Op.intArith, e]
 rfl
theorem G1o {t : TypeId} {a : Int} (k_ : RgT P f R B n K ops l (A1u σ dst (.int .i64 (-a))) Γ Ms) (hx : ev σ x = .int .i64 a := by exact wn_) (h : A2j (-a) := by first | omega | (unfold A2j at *; omega)) (hd : A0s n dst = true := by rfl) : OpT P f R B n K ops l (opr dst (.unOp .neg t x) ty) σ Γ Ms := A1o (F1d hx h) hd k_
theorem G0p {t : TypeId} {a : Int} (k_ : NV tn pn P f R B n K ops fin l (A1u σ dst (.int .i64 (-a))) Γ Ms) (hx : ev σ x = .int .i64 a := by exact wn_) (h : A2j (-a) := by first | omega | (unfold A2j at *; omega)) (hd : A0s n dst = true := by rfl) : NvT tn pn P f R B n K ops fin i l dst (.unOp .neg t x) ty σ Γ Ms := A3r (F1d hx h) hd k_
theorem C4h {t t' : TypeId} {k : IntKind} {a b : Int} (k_ : RgT P f R B n K ops l (A1u σ dst (.bool true)) Γ Ms) (hx : ev σ x = .int k a := by exact wn_) (hy : ev σ y = .int k b := by exact wn_) (hp : a = b := by first | omega | (simp; done)) (hd : A0s n dst = true := by rfl) : OpT P f R B n K ops l (opr dst (.binOp .eql t x y t') ty) σ Γ Ms := A1o (show A3j P σ (.binOp .eql t x y t') ty (.bool true) from (decide_eq_true hp : decide (a = b) = true) ▸ D5k hx hy) hd k_
theorem F5s {t T' : TypeId} {b s bt : Nat} {zv : Value} {cs cs' : List Value} (k_ : NV tn pn P f R B n K ops fin l σ Γ (A1t b cs' T' :: Ms2)) (hx : ev σ x = .pointer (some ⟨b, 0, none⟩) := by exact wn_) (hm : Ms.Perm (A1t b cs T' :: Ms2) := by first | exact C6e | exact A0x | exact A4n | exact A6i | exact A5b | exact A5a | exact A3p | exact B2f | exact B3e) (hy : (ev σ y).cells = cs'.toArray := by rfl) (hi : Tab.inf P t = some (s, bt, zv) := by rfl) (hl : cs'.length = s := by rfl) (hl2 : cs.length = s := by rfl) (h1 : A9d cs' = true := by rfl) : NvT tn pn P f R B n K ops fin i l none (.store t x y) ty σ Γ Ms := E8l (r := [A1t b cs T']) (r' := [A1t b cs' T']) (fun M => F0o hx hy (List.Perm.refl _) hi hl hl2 h1) rfl hm k_
end
end Go.Hy
namespace Go.Hy
/-! ### A way through a term: each node becomes another, or the way ends in a refusal -/
inductive A2m (α : Type) where
 | ok (a : α)
 | bad (e : Int)
structure Tr (C : Type) where
 own : C → Int → Int → ByteArray → List Cl → A2m (T ⊕ (Int × List Cl))
 A1z : C → List Cl → A2m (Option (List Cl))
 kid : C → Int × Int → A2m C
section
variable {C : Type} (A : Tr C)
mutual
def A7h : T → C → A2m T
 | .mk k n nm r ks ss, c => match A.own c k n nm r with
  | .bad e => .bad e
  | .ok (.inl u) => .ok u
  | .ok (.inr p) => match A6t k 0 ks c with
   | .bad e => .bad e
   | .ok ks' => match A6v k ss c with
    | .bad e => .bad e
    | .ok ss' => .ok (.mk k p.1 nm p.2 ks' ss')
def A6t (k : Int) : Nat → List T → C → A2m (List T)
 | _, [], _ => .ok []
 | i, t :: ts, c => match A.kid c (binds k i) with
  | .bad e => .bad e
  | .ok c' => match A7h t c' with
   | .bad e => .bad e
   | .ok t' => match A6t k (i + 1) ts c with
    | .bad e => .bad e
    | .ok ts' => .ok (t' :: ts')
def A5h (k : Int) : List T → C → A2m (List T)
 | [], _ => .ok []
 | t :: ts, c => match A.kid c (0, more k) with
  | .bad e => .bad e
  | .ok c' => match A7h t c' with
   | .bad e => .bad e
   | .ok t' => match A5h k ts c with
    | .bad e => .bad e
    | .ok ts' => .ok (t' :: ts')
def A6v (k : Int) : List Br → C → A2m (List Br)
 | [], _ => .ok []
 | .mk f ks :: bs, c => match A.A1z c f with
  | .bad e => .bad e
  | .ok none => A6v k bs c
  | .ok (some f') => match A5h k ks c with
   | .bad e => .bad e
   | .ok ks' => match A6v k bs c with
    | .bad e => .bad e
    | .ok bs' => .ok (.mk f' ks' :: bs')
end
variable {A}
def A2m.bind {α β : Type} : A2m α → (α → A2m β) → A2m β
 | .ok a, f => f a
 | .bad e, _ => .bad e
theorem A2m.A0m {α β : Type} {x : A2m α} {f : α → A2m β} {b : β} (h : x.bind f = .ok b) : ∃ a, x = .ok a ∧ f a = .ok b := by
 cases x with
 | ok a => exact ⟨a, rfl, h⟩
 | bad e => cases h
/-! The same, with bind. -/
theorem A9s (t : T) (c : C) : A7h A t c = (A.own c t.kind t.n t.name t.r).bind fun o => match o with
  | .inl u => .ok u
  | .inr p => (A6t A t.kind 0 t.kids c).bind fun ks' => (A6v A t.kind t.sys c).bind fun ss' => .ok (.mk t.kind p.1 t.name p.2 ks' ss') := by
 obtain ⟨k, n, nm, r, ks, ss⟩ := t
 rw [A7h]
 simp only [T.kind, T.n, T.name, T.r, T.kids, T.sys]
 cases A.own c k n nm r with
 | bad e => rfl
 | ok o =>
  cases o with
  | inl u => rfl
  | inr p =>
   simp only [A2m.bind]
   cases A6t A k 0 ks c with
   | bad e => rfl
   | ok ks' =>
    cases A6v A k ss c <;> rfl
theorem A6s (k : Int) (i : Nat) (c : C) : A6t A k i [] c = .ok [] := by rw [A6t]
theorem A4k (k : Int) (i : Nat) (t : T) (ts : List T) (c : C) : A6t A k i (t :: ts) c = (A.kid c (binds k i)).bind fun c' => (A7h A t c').bind fun t' => (A6t A k (i + 1) ts c).bind fun ts' => .ok (t' :: ts') := by
 rw [A6t]
 cases A.kid c (binds k i) with
 | bad e => rfl
 | ok c' =>
  simp only [A2m.bind]
  cases A7h A t c' with
  | bad e => rfl
  | ok t' => simp only; cases A6t A k (i + 1) ts c <;> rfl
theorem A6r (k : Int) (c : C) : A5h A k [] c = .ok [] := by rw [A5h]
theorem A4j (k : Int) (t : T) (ts : List T) (c : C) : A5h A k (t :: ts) c = (A.kid c (0, more k)).bind fun c' => (A7h A t c').bind fun t' => (A5h A k ts c).bind fun ts' => .ok (t' :: ts') := by
 rw [A5h]
 cases A.kid c (0, more k) with
 | bad e => rfl
 | ok c' =>
  simp only [A2m.bind]
  cases A7h A t c' with
  | bad e => rfl
  | ok t' => simp only; cases A5h A k ts c <;> rfl
theorem A6u (k : Int) (c : C) : A6v A k [] c = .ok [] := by rw [A6v]
theorem A4s (k : Int) (b : Br) (bs : List Br) (c : C) : A6v A k (b :: bs) c = (A.A1z c b.A1z).bind fun f => match f with
  | none => A6v A k bs c
  | some f' => (A5h A k b.kids c).bind fun ks' => (A6v A k bs c).bind fun bs' => .ok (.mk f' ks' :: bs') := by
 obtain ⟨f, ks⟩ := b
 rw [A6v]
 simp only [Br.A1z, Br.kids]
 cases A.A1z c f with
 | bad e => rfl
 | ok o =>
  cases o with
  | none => rfl
  | some f' =>
   simp only [A2m.bind]
   cases A5h A k ks c with
   | bad e => rfl
   | ok ks' => simp only; cases A6v A k bs c <;> rfl
/-! The first so many. -/
theorem B7m (k : Int) (c : C) : ∀ (i : Nat) (l : List T) (t : T), A6t A k i (l ++ [t]) c = (A6t A k i l c).bind fun l' => (A.kid c (binds k ((i + l.length : Nat) : Int))).bind fun c' => (A7h A t c').bind fun t' => .ok (l' ++ [t'])
 | i, [], t => by
  simp only [List.nil_append, A4k, A6s, A2m.bind, List.length_nil, Nat.add_zero]
 | i, a :: l, t => by
  simp only [List.cons_append, A4k, B7m k c (i + 1) l t, List.length_cons]
  rw [show i + 1 + l.length = i + (l.length + 1) by omega]
  cases A.kid c (binds k i) with
  | bad e => rfl
  | ok c1 =>
   simp only [A2m.bind]
   cases A7h A a c1 with
   | bad e => rfl
   | ok a' =>
    simp only
    cases A6t A k (i + 1) l c with
    | bad e => rfl
    | ok l' =>
     simp only
     cases A.kid c (binds k ((i + (l.length + 1) : Nat) : Int)) with
     | bad e => rfl
     | ok c2 => simp only; cases A7h A t c2 <;> rfl
theorem B7l (k : Int) (c : C) : ∀ (l : List T) (t : T), A5h A k (l ++ [t]) c = (A5h A k l c).bind fun l' => (A.kid c (0, more k)).bind fun c' => (A7h A t c').bind fun t' => .ok (l' ++ [t'])
 | [], t => by simp only [List.nil_append, A4j, A6r, A2m.bind]
 | a :: l, t => by
  simp only [List.cons_append, A4j, B7l k c l t]
  cases A.kid c (0, more k) with
  | bad e => rfl
  | ok c1 =>
   simp only [A2m.bind]
   cases A7h A a c1 with
   | bad e => rfl
   | ok a' =>
    simp only
    cases A5h A k l c with
    | bad e => rfl
    | ok l' => simp only; cases A7h A t c1 <;> rfl
theorem B3u (k : Int) (c : C) : ∀ (l : List Br) (b : Br), A6v A k (l ++ [b]) c = (A6v A k l c).bind fun l' => (A.A1z c b.A1z).bind fun f => match f with
  | none => .ok l'
  | some f' => (A5h A k b.kids c).bind fun ks' => .ok (l' ++ [.mk f' ks'])
 | [], b => by
  simp only [List.nil_append, A4s, A6u, A2m.bind]
 | a :: l, b => by
  simp only [List.cons_append, A4s, B3u k c l b]
  cases A.A1z c a.A1z with
  | bad e => rfl
  | ok o =>
   cases o with
   | none => rfl
   | some f' =>
    simp only [A2m.bind]
    cases A5h A k a.kids c with
    | bad e => rfl
    | ok ks' =>
     simp only
     cases A6v A k l c with
     | bad e => rfl
     | ok l' =>
      simp only
      cases A.A1z c b.A1z with
      | bad e => rfl
      | ok o2 =>
       cases o2 with
       | none => rfl
       | some f2 => simp only; cases A5h A k b.kids c <;> rfl
/-- What comes behind a refusal is not looked at. -/
theorem C8a {k e : Int} {c : C} : ∀ {l m : List T} {i : Nat}, A6t A k i l c = .bad e → A6t A k i (l ++ m) c = .bad e
 | [], m, i, h => by rw [A6s] at h; cases h
 | a :: l, m, i, h => by
  rw [List.cons_append, A4k]
  rw [A4k] at h
  cases h1 : A.kid c (binds k i) with
  | bad e' => rw [h1] at h; exact h
  | ok c1 =>
   rw [h1] at h
   simp only [A2m.bind] at h ⊢
   cases h2 : A7h A a c1 with
   | bad e' => rw [h2] at h; exact h
   | ok a' =>
    rw [h2] at h
    simp only at h ⊢
    cases h3 : A6t A k (i + 1) l c with
    | bad e' => rw [h3] at h; rw [C8a h3]; exact h
    | ok l' => rw [h3] at h; cases h
theorem C7w {k e : Int} {c : C} : ∀ {l m : List T}, A5h A k l c = .bad e → A5h A k (l ++ m) c = .bad e
 | [], m, h => by rw [A6r] at h; cases h
 | a :: l, m, h => by
  rw [List.cons_append, A4j]
  rw [A4j] at h
  cases h1 : A.kid c (0, more k) with
  | bad e' => rw [h1] at h; exact h
  | ok c1 =>
   rw [h1] at h
   simp only [A2m.bind] at h ⊢
   cases h2 : A7h A a c1 with
   | bad e' => rw [h2] at h; exact h
   | ok a' =>
    rw [h2] at h
    simp only at h ⊢
    cases h3 : A5h A k l c with
    | bad e' => rw [h3] at h; rw [C7w h3]; exact h
    | ok l' => rw [h3] at h; cases h
theorem C0k {k e : Int} {c : C} : ∀ {l m : List Br}, A6v A k l c = .bad e → A6v A k (l ++ m) c = .bad e
 | [], m, h => by rw [A6u] at h; cases h
 | a :: l, m, h => by
  rw [List.cons_append, A4s]
  rw [A4s] at h
  cases h1 : A.A1z c a.A1z with
  | bad e' => rw [h1] at h; exact h
  | ok o =>
   rw [h1] at h
   cases o with
   | none => exact C0k (l := l) h
   | some f' =>
    simp only [A2m.bind] at h ⊢
    cases h2 : A5h A k a.kids c with
    | bad e' => rw [h2] at h; exact h
    | ok a' =>
     rw [h2] at h
     simp only at h ⊢
     cases h3 : A6v A k l c with
     | bad e' => rw [h3] at h; rw [C0k h3]; exact h
     | ok l' => rw [h3] at h; cases h
theorem B6g {k : Int} {c : C} : ∀ {l l' : List T} {i : Nat}, A6t A k i l c = .ok l' → l'.length = l.length
 | [], l', i, h => by rw [A6s] at h; injection h with h; subst h; rfl
 | a :: l, l', i, h => by
  rw [A4k] at h
  obtain ⟨c1, _, h⟩ := A2m.A0m h
  obtain ⟨t', _, h⟩ := A2m.A0m h
  obtain ⟨ts', h3, h⟩ := A2m.A0m h
  injection h with h
  subst h
  simp [B6g h3]
theorem B6f {k : Int} {c : C} : ∀ {l l' : List T}, A5h A k l c = .ok l' → l'.length = l.length
 | [], l', h => by rw [A6r] at h; injection h with h; subst h; rfl
 | a :: l, l', h => by
  rw [A4j] at h
  obtain ⟨c1, _, h⟩ := A2m.A0m h
  obtain ⟨t', _, h⟩ := A2m.A0m h
  obtain ⟨ts', h3, h⟩ := A2m.A0m h
  injection h with h
  subst h
  simp [B6f h3]
theorem B0n {k : Int} {c : C} : ∀ {l l' : List Br}, A6v A k l c = .ok l' → l'.length ≤ l.length
 | [], l', h => by rw [A6u] at h; injection h with h; subst h; simp
 | a :: l, l', h => by
  rw [A4s] at h
  obtain ⟨o, _, h⟩ := A2m.A0m h
  cases o with
  | none => have := B0n (l := l) h; simp; omega
  | some f' =>
   obtain ⟨ks', _, h⟩ := A2m.A0m h
   obtain ⟨bs', h3, h⟩ := A2m.A0m h
   injection h with h
   subst h
   have := B0n h3
   simp; omega
end
end Go.Hy
namespace Go.Hy
/-! ### Bringing to the front -/
/-! ### Calls that hand back, or panic with a number -/
def E9r (T : TypeId) (e : Int) : List PanicEntry := [{ v := .iface T (.int .i64 e), recovered := false }]
/-- A call's contract, where what it comes to is a refusal, or not. -/
def D9z (P : Program) (T : TypeId) (k : FuncId) (args : Array Value) (pre : List Fact) {α : Type} (r : A2m α) {X : α → Type} (val : ∀ a : α, X a → Value) (N : ∀ a : α, X a → List Fact) (Ms1 : ∀ a : α, X a → List Res) : Prop :=
 (∀ a, r = .ok a → Spec P k args pre [] (val a) (N a) (Ms1 a)) ∧ (∀ e, r = .bad e → E6h P k args pre (E9r T e))
section
variable {P : Program} {f : FuncId} {B : A6n} {n : Fz} {K : List Item} {σ : Nat → Value} {Γ : List Fact} {Ms : List Res} {todo : List Item} {T : TypeId} {α : Type} {X : α → Type} {r : A2m α} {val : ∀ a : α, X a → Value} {N : ∀ a : α, X a → List Fact} {Ms1 : ∀ a : α, X a → List Res}
theorem F4q {K : List Item} {it : Item} {R : Ending → World → Prop} {Ms' : List Res} (p : Prop) (live : List (Nat × Value)) (h1 : (p → ∀ σ', B8n σ' live → GoT P f R B n K σ' Γ Ms') → GoT P f R B n (it :: K) σ Γ Ms) (h2 : p → ∀ base, GoT P f R B n K (stL base live) Γ Ms') : GoT P f R B n (it :: K) σ Γ Ms :=
 h1 (fun hp σ' hl => go_slots live hl (h2 hp))
end
/-! ### Several facts as one -/
def B5x (L : List Fact) : Fact := ⟨fun ok w => ∀ F, F ∈ L → F.f ok w, fun ok ok' w hs h F hF => F.mono ok ok' w hs (h F hF), fun ok w w' h hs F hF => F.loc ok w w' (h F hF) hs⟩
section
variable {B : A6n} {Γ : List Fact} {Ms : List Res} {w : World} {L : List Fact}
theorem St.E9x (hs : St B Γ Ms w) (h : ∀ F, F ∈ L → F ∈ Γ) : St B (B5x L :: Γ) Ms w := hs.add (fun F hF => hs.facts F (h F hF))
theorem St.F0l (hs : St B [B5x L] Ms w) : St B L Ms w := ⟨hs.chg, fun F hF => hs.facts _ List.mem_cons_self F hF, hs.res, hs.lt, hs.disj⟩
theorem Spec.E9x {P : Program} {k : FuncId} {args : Array Value} {Ms0 : List Res} {X : Type} {val : X → Value} {N : X → List Fact} {Ms1 : X → List Res} (h : Spec P k args L Ms0 val N Ms1) : Spec P k args [B5x L] Ms0 val N Ms1 := fun ok w hok hs => h ok w hok hs.F0l
theorem E6h.E9x {P : Program} {k : FuncId} {args : Array Value} {chain : List PanicEntry} (h : E6h P k args L chain) : E6h P k args [B5x L] chain := fun ok w hok hs => h ok w hok hs.F0l
theorem D9z.E9x {P : Program} {T : TypeId} {k : FuncId} {args : Array Value} {α : Type} {r : A2m α} {X : α → Type} {val : ∀ a : α, X a → Value} {N : ∀ a : α, X a → List Fact} {Ms1 : ∀ a : α, X a → List Res} (h : D9z P T k args L r val N Ms1) : D9z P T k args [B5x L] r val N Ms1 := ⟨fun a ha => (h.1 a ha).E9x, fun e he => (h.2 e he).E9x⟩
end
/-! ### Operations -/
section
variable {P : Program} [Tab P] {f : FuncId} {R : Ending → World → Prop} {B : A6n} {n : Fz} {K : List Item} {ops : Array Oper} {i : Nat} {l : List Nat} {σ : Nat → Value} {Γ : List Fact} {Ms : List Res}
variable {dst : Option Tmp} {ty : TypeId} {v : Value} {x y : Operand}
end
section
variable {P : Program} {f : FuncId} {fn : Func} {R : Ending → World → Prop} {B : A6n} {n : Fz} {K : List Item} {σ : Nat → Value} {Γ : List Fact} {Ms : List Res}
end
/-! ### A deferred closure that begins with recover -/
section
variable {P : Program} {f : FuncId} {fn : Func} {B : A6n} {Γ : List Fact} {Ms : List Res}
end
section
variable {P : Program} [Tab P] {f : FuncId} {R : Ending → World → Prop} {B : A6n} {n : Fz} {K : List Item} {ops : Array Oper} {i : Nat} {l : List Nat} {σ : Nat → Value} {Γ : List Fact} {Ms : List Res}
variable {dst : Option Tmp} {ty : TypeId} {v : Value} {x y : Operand}
end
/-! ### Two results that lie in variables -/
section
variable {P : Program} [Tab P] {f : FuncId} {fn : Func} {B : A6n} {n : Fz} {K : List Item} {σ : Nat → Value} {Γ : List Fact} {Ms : List Res} {X : Type} {val : X → Value} {N : X → List Fact} {Ms1 : X → List Res}
end
/-! ### Leaving with two results in variables, where a call waits -/
section
variable {P : Program} [Tab P] {f : FuncId} {fn : Func} {B : A6n} {n : Fz} {K : List Item} {σ : Nat → Value} {Γ : List Fact} {Ms : List Res} {X : Type} {val : X → Value} {N : X → List Fact} {Ms1 : X → List Res}
end
/-! ### More operations -/
section
variable {P : Program} [Tab P] {f : FuncId} {R : Ending → World → Prop} {B : A6n} {n : Fz} {K : List Item} {ops : Array Oper} {i : Nat} {l : List Nat} {σ : Nat → Value} {Γ : List Fact} {Ms : List Res}
variable {dst : Option Tmp} {ty : TypeId} {v : Value} {x y : Operand}
theorem E2u {s d : TypeId} {a : Nat} (hs : Tab.und P s = some (.int .u32)) (hd : Tab.und P d = some (.int .u64)) (hx : ev σ x = .int .u32 (a : Int)) (ha : a < 4294967296) : A3j P σ (.convert s d x) ty (.int .u64 (a : Int)) := by
 have e : IntKind.u64.wrap (a : Int) = (a : Int) := by
  have : IntKind.u64.wrap (a : Int) = (a : Int) % 18446744073709551616 := by simp [IntKind.wrap, IntKind.bits, IntKind.signed]
  rw [this]; omega
 have := A8v (P := P) (ty := ty) hs hd hx
 rwa [e] at this
theorem E8h {s d : TypeId} {a : Nat} (k_ : RgT P f R B n K ops l (A1u σ dst (.int .u64 (a : Int))) Γ Ms) (hx : ev σ x = .int .u32 (a : Int) := by exact wn_) (ha : a < 4294967296 := by first | assumption | omega) (hs : Tab.und P s = some (.int .u32) := by rfl) (hd' : Tab.und P d = some (.int .u64) := by rfl) (hd : A0s n dst = true := by rfl) : OpT P f R B n K ops l (opr dst (.convert s d x) ty) σ Γ Ms := A1o (E2u hs hd' hx ha) hd k_
end
end Go.Hy
namespace Go.Hy
/-! ### Clauses, formulas -/
def A4d (c d : Cl) : Cl := ⟨c.pos ||| d.pos, c.neg ||| d.neg⟩
theorem D9u (c d : Cl) : decide (A4d c d = c) = below c d := by
 obtain ⟨p, n⟩ := c
 obtain ⟨p', n'⟩ := d
 simp [A4d, below]
def A5i (l : List Cl) (i : Nat) : Nat := (l.take i).foldl (fun a c => a ||| (c.pos ||| c.neg)) 0
theorem C1h {l : List Cl} {i : Nat} (h : i < l.length) : A5i l (i + 1) = A5i l i ||| ((l.getD i cl0).pos ||| (l.getD i cl0).neg) := by
 unfold A5i; rw [A0i (d := cl0) h, List.foldl_append]; rfl
theorem C9q {l : List Cl} (h : ∀ c, c ∈ l → u32 c) : ∀ i, A5i l i < 4294967296 := by
 intro i
 have : ∀ (m : List Cl) (a : Nat), (∀ c, c ∈ m → u32 c) → a < 4294967296 → m.foldl (fun a c => a ||| (c.pos ||| c.neg)) a < 4294967296 := by
  intro m
  induction m with
  | nil => intro a _ h; exact h
  | cons c m ih =>
   intro a hm ha
   have hc := hm c List.mem_cons_self
   exact ih _ (fun d hd => hm d (List.mem_cons_of_mem _ hd)) (Nat.or_lt_two_pow (n := 32) ha (Nat.or_lt_two_pow (n := 32) hc.1 hc.2))
 exact this _ 0 (fun c hc => h c (List.mem_of_mem_take hc)) (by omega)
theorem C7a (l : List Cl) : A4e l = A5i l l.length &&& 16777215 := by
 unfold A4e A5i; rw [List.take_length]
theorem D4f {s : Nat} (hs : s < 4294967296) : decide ((A1f s 16777215 : Int) = 0) = decide (s < 16777216) := by
 apply decide_eq_decide.mpr
 have h : A1f s 16777215 = s / 16777216 * 16777216 := by
  unfold A1f
  have e : (BitVec.ofNat 32 s &&& ~~~ BitVec.ofNat 32 16777215).toNat = s / 16777216 * 16777216 := by
   apply Nat.eq_of_testBit_eq
   intro i
   rw [← BitVec.getLsbD, BitVec.getLsbD_and, BitVec.getLsbD_not, BitVec.getLsbD_ofNat, BitVec.getLsbD_ofNat]
   rw [show s / 16777216 * 16777216 = (s / 2 ^ 24) * 2 ^ 24 from rfl, Nat.testBit_mul_two_pow, Nat.testBit_div_two_pow]
   rw [show (16777215 : Nat) = 2 ^ 24 - 1 from rfl, Nat.testBit_two_pow_sub_one]
   by_cases h1 : i < 32
   ·by_cases h2 : 24 ≤ i
    ·simp [h1, h2, Nat.sub_add_cancel h2]
    ·simp [h1, h2]; omega
   ·have : s.testBit i = false := Nat.testBit_lt_two_pow (Nat.lt_of_lt_of_le hs (Nat.pow_le_pow_right (n := 2) (by omega) (show 32 ≤ i by omega)))
    have h2 : 24 ≤ i := by omega
    simp [h1, h2, Nat.sub_add_cancel h2, this]
  exact e
 omega
end Go.Hy
namespace Go.Hy
/-! ### Least -/
def F4n (g : Cl → Bool) (l : List Cl) : Int := if l.any g then (l.findIdx g : Int) else -1
theorem A5g {α : Type} {d : α} {l : List α} {i : Nat} (h : i < l.length) : l.getD i d = l[i] := by
 rw [List.getD_eq_getElem?_getD, List.getElem?_eq_getElem h]; rfl
theorem F4m {g : Cl → Bool} {l : List Cl} {i : Nat} (h : i < l.length) (hg : g (l.getD i cl0) = true) (hb : ∀ j, j < i → g (l.getD j cl0) = false) : F4n g l = i := by
 have hany : l.any g = true := List.any_eq_true.mpr ⟨_, A0n h, hg⟩
 have hidx : l.findIdx g = i := by
  rw [List.findIdx_eq h]
  refine ⟨by rw [← A5g (d := cl0) h]; exact hg, fun j hj => ?_⟩
  have := hb j hj
  rwa [A5g (d := cl0) (by omega)] at this
 unfold F4n
 rw [hany, hidx]; rfl
theorem E4v {g : Cl → Bool} {l : List Cl} (hb : ∀ j, j < l.length → g (l.getD j cl0) = false) : F4n g l = -1 := by
 have hany : l.any g = false := by
  rw [List.any_eq_false]
  intro x hx
  obtain ⟨j, hj, e⟩ := List.mem_iff_getElem.mp hx
  have := hb j hj
  rw [A5g (d := cl0) hj, e] at this
  simp [this]
 unfold F4n; rw [hany]; rfl
theorem D3r (g : Cl → Bool) (l : List Cl) : decide (0 ≤ F4n g l) = l.any g := by
 unfold F4n
 cases l.any g
 ·rfl
 ·simp
/-- Each once, in the order of the first. -/
def once (l : List Cl) : List Cl := l.foldl (fun o c => if c ∈ o then o else o ++ [c]) []
theorem E3m (l : List Cl) (c : Cl) : once (l ++ [c]) = if c ∈ once l then once l else once l ++ [c] := by
 unfold once; rw [List.foldl_append]; rfl
theorem C6i (c : Cl) : ∀ (l o : List Cl), (c ∈ l.foldl (fun o c => if c ∈ o then o else o ++ [c]) o ↔ c ∈ o ∨ c ∈ l) ∧ (l.foldl (fun o c => if c ∈ o then o else o ++ [c]) o).length ≤ o.length + l.length
 | [], o => by simp
 | d :: l, o => by
  have ih := C6i c l (if d ∈ o then o else o ++ [d])
  rw [List.foldl_cons]
  constructor
  ·rw [ih.1, List.mem_cons]
   split
   ·rename_i h
    constructor
    ·rintro (h2 | h2)
     ·exact .inl h2
     ·exact .inr (.inr h2)
    ·rintro (h2 | h2 | h2)
     ·exact .inl h2
     ·exact .inl (h2 ▸ h)
     ·exact .inr h2
   ·rw [List.mem_append, List.mem_singleton, or_assoc]
  ·have h3 := ih.2
   have h4 : (if d ∈ o then o else o ++ [d]).length ≤ o.length + 1 := by split <;> simp
   simp only [List.length_cons]; omega
theorem B4b (c : Cl) (l : List Cl) : c ∈ once l ↔ c ∈ l := by
 have := (C6i c l []).1
 simpa [once] using this
theorem B9w (l : List Cl) : (once l).length ≤ l.length := by
 have := (C6i cl0 l []).2
 simpa [once] using this
/-- Is a clause A1w in a list? -/
def A1w (l : List Cl) (c : Cl) : Bool := l.any fun d => !decide (c = d) && below c d
def kept (l : List Cl) : List Cl := (once l).filter fun c => !A1w (once l) c
/-- Sorted, and the same clauses. -/
def D7c (l l' : List Cl) : Prop := l'.Perm l ∧ l'.Pairwise fun a b => A3i b a = false
/-- What clause.Least tells: an error's number, and the clauses. -/
def B0a (l : List Cl) (r : Int × List Cl) : Prop :=
 if l.all A0q = false then r = (2, []) else if 64 < (kept l).length then r = (3, []) else r.1 = 0 ∧ D7c (kept l) r.2
end Go.Hy
namespace Go.Hy
theorem G0h {l : List Cl} {g : Cl → Bool} (h : ∀ j, j < l.length → g (l.getD j cl0) = true) : l.all g = true := by
 rw [List.all_eq_true]
 intro x hx
 obtain ⟨j, hj, e⟩ := List.mem_iff_getElem.mp hx
 have := h j hj
 rwa [A5g (d := cl0) hj, e] at this
theorem F5e {l : List Cl} {g : Cl → Bool} {i : Nat} (hi : i < l.length) (h : g (l.getD i cl0) = false) : l.all g = false := by
 rw [List.all_eq_false]
 exact ⟨l.getD i cl0, A0n hi, by rw [h]; decide⟩
def A7f (l : List Cl) (i : Nat) : List Cl := ((once l).take i).filter fun c => !A1w (once l) c
theorem B6w {l : List Cl} {i : Nat} (h : i < (once l).length) : A7f l (i + 1) = if A1w (once l) ((once l).getD i cl0) then A7f l i else A7f l i ++ [(once l).getD i cl0] := by
 unfold A7f
 rw [A0i (d := cl0) h, List.filter_append]
 cases hn : A1w (once l) ((once l).getD i cl0)
 ·rw [List.filter_cons_of_pos (by rw [hn]; rfl)]; simp
 ·rw [List.filter_cons_of_neg (by rw [hn]; decide)]; simp
theorem D0f (l : List Cl) : A7f l (once l).length = kept l := by simp [A7f, kept]
theorem D0e (l : List Cl) (i : Nat) : (A7f l i).length ≤ l.length := by
 unfold A7f
 have h1 := List.length_filter_le (fun c => !A1w (once l) c) ((once l).take i)
 have h2 := B9w l
 simp only [List.length_take] at h1
 omega
theorem B4x {l : List Cl} {i : Nat} (h : i < l.length) : once (l.take (i + 1)) = if l.getD i cl0 ∈ once (l.take i) then once (l.take i) else once (l.take i) ++ [l.getD i cl0] := by
 rw [A0i (d := cl0) h, E3m]
theorem C6g (l : List Cl) (i : Nat) : (once (l.take i)).length ≤ l.length := by
 have := B9w (l.take i); simp only [List.length_take] at this; omega
theorem E8x {l : List Cl} {c : Cl} (h : c ∈ kept l) : c ∈ l := by
 unfold kept at h
 exact (B4b c l).mp (List.mem_filter.mp h).1
end Go.Hy
namespace Go.Hy
/-! ### What Least tells of a formula that may be -/
theorem B3j (a b : Cl) : A3i a b = true ∨ a = b ∨ A3i b a = true := by
 obtain ⟨p, n⟩ := a
 obtain ⟨p', n'⟩ := b
 simp only [A3i, Bool.or_eq_true, Bool.and_eq_true, decide_eq_true_eq, Cl.mk.injEq]
 omega
theorem B4h {a b : Cl} (h : A3i a b = true) : A3i b a = false := by
 simp only [A3i, Bool.or_eq_true, Bool.and_eq_true, decide_eq_true_eq, Bool.or_eq_false_iff, Bool.and_eq_false_iff, decide_eq_false_iff_not] at *
 omega
theorem C1q {a b c : Cl} (h : A3i a b = true) (h2 : A3i b c = true) : A3i a c = true := by
 simp only [A3i, Bool.or_eq_true, Bool.and_eq_true, decide_eq_true_eq] at *
 omega
theorem B6u (a : Cl) : A3i a a = false := by simp [A3i]
theorem G4e {a b : Cl} (h : A3i a b = false) (h2 : A3i b a = false) : a = b := by
 rcases B3j a b with h3 | h3 | h3
 ·rw [h] at h3; cases h3
 ·exact h3
 ·rw [h2] at h3; cases h3
/-- Two that are sorted, of the same clauses, are one. -/
theorem C8f : ∀ {l m : List Cl}, l.Perm m → (l.Pairwise fun a b => A3i b a = false) → (m.Pairwise fun a b => A3i b a = false) → l = m
 | [], m, hp, _, _ => by have := hp.length_eq; cases m with | nil => rfl | cons _ _ => simp at this
 | a :: l, [], hp, _, _ => by have := hp.length_eq; simp at this
 | a :: l, b :: m, hp, h1, h2 => by
  rw [List.pairwise_cons] at h1 h2
  have ha : a ∈ b :: m := hp.mem_iff.mp List.mem_cons_self
  have hb : b ∈ a :: l := hp.mem_iff.mpr List.mem_cons_self
  have e : a = b := by
   rcases List.mem_cons.mp ha with h | h
   ·exact h
   ·rcases List.mem_cons.mp hb with h3 | h3
    ·exact h3.symm
    ·exact G4e (h2.1 a h |> fun x => x) (h1.1 b h3) |> fun x => by exact x
  subst e
  rw [C8f (List.Perm.cons_inv hp) h1.2 h2.2]
theorem B2b : ∀ {l : List Cl}, B3b l = true ↔ l.Pairwise fun a b => A3i a b = true
 | [] => by simp [B3b]
 | [a] => by simp [B3b]
 | a :: b :: l => by
  rw [B3b, Bool.and_eq_true, B2b (l := b :: l), List.pairwise_cons (a := a)]
  constructor
  ·rintro ⟨h1, h2⟩
   refine ⟨fun c hc => ?_, h2⟩
   rcases List.mem_cons.mp hc with h | h
   ·exact h ▸ h1
   ·exact C1q h1 ((List.pairwise_cons.mp h2).1 c h)
  ·rintro ⟨h1, h2⟩
   exact ⟨h1 b List.mem_cons_self, h2⟩
theorem C6h {l : List Cl} (h : l.Pairwise fun a b => A3i a b = true) : once l = l := by
 have : ∀ (m o : List Cl), ((o ++ m).Pairwise fun a b => A3i a b = true) → m.foldl (fun o c => if c ∈ o then o else o ++ [c]) o = o ++ m := by
  intro m
  induction m with
  | nil => intro o _; simp
  | cons c m ih =>
   intro o h
   rw [List.foldl_cons]
   have hn : c ∉ o := by
    intro hc
    have := (List.pairwise_append.mp h).2.2 c hc c List.mem_cons_self
    rw [B6u] at this; cases this
   rw [if_neg hn, ih (o ++ [c]) (by simpa using h)]
   simp
 have := this l [] (by simpa using h)
 simpa [once] using this
theorem C2q {l : List Cl} : apart l = true ↔ ∀ a, a ∈ l → ∀ b, b ∈ l → a = b ∨ below a b = false := by
 unfold apart
 simp only [List.all_eq_true, Bool.or_eq_true, decide_eq_true_eq, Bool.not_eq_true']
theorem A9k {l : List Cl} {c : Cl} : A1w l c = false ↔ ∀ d, d ∈ l → c = d ∨ below c d = false := by
 unfold A1w
 rw [List.any_eq_false]
 constructor
 ·intro h d hd
  have := h d hd
  simp only [Bool.and_eq_true, Bool.not_eq_true', decide_eq_false_iff_not, not_and, Bool.not_eq_true] at this
  by_cases e : c = d
  ·exact .inl e
  ·exact .inr (this e)
 ·intro h d hd
  simp only [Bool.and_eq_true, Bool.not_eq_true', decide_eq_false_iff_not, not_and, Bool.not_eq_true]
  intro e
  exact (h d hd).resolve_left e
theorem B5p {l : List Cl} {r : Int × List Cl} (h : B0a l r) : (decide (r.1 = 0) && decide (r.2 = l)) = A0h l := by
 rw [Bool.eq_iff_iff, Bool.and_eq_true, decide_eq_true_eq, decide_eq_true_eq]
 unfold B0a at h
 constructor
 ·rintro ⟨h1, h2⟩
  split at h
  ·rw [h] at h1; cases h1
  ·rename_i hr
   split at h
   ·rw [h] at h1; cases h1
   ·rename_i h64
    obtain ⟨_, hp, hs⟩ := h
    rw [h2] at hp hs
    have hr' : l.all A0q = true := by simpa using hr
    have hlen := hp.length_eq
    have hk1 : (kept l).length ≤ (once l).length := by unfold kept; exact List.length_filter_le _ _
    have ho := B9w l
    have hkeep : kept l = once l := by
     have : (kept l).Sublist (once l) := by unfold kept; exact List.filter_sublist
     exact this.eq_of_length (by omega)
    have hnd : ∀ c, c ∈ l → A1w (once l) c = false := by
     intro c hc
     have : c ∈ kept l := hp.mem_iff.mp hc
     unfold kept at this
     have := (List.mem_filter.mp this).2
     simpa using this
    have hap : apart l = true := C2q.mpr fun a ha b hb => A9k.mp (hnd a ha) b ((B4b b l).mpr hb)
    have hnodup : (once l).Nodup := by
     have : ∀ (m o : List Cl), o.Nodup → (m.foldl (fun o c => if c ∈ o then o else o ++ [c]) o).Nodup := by
      intro m
      induction m with
      | nil => intro o h; exact h
      | cons c m ih =>
       intro o h
       rw [List.foldl_cons]
       apply ih
       split
       ·exact h
       ·rename_i hn
        rw [List.nodup_append]
        refine ⟨h, by simp, ?_⟩
        intro a ha b hb e
        rw [List.mem_singleton] at hb
        exact hn (hb ▸ e ▸ ha)
     exact this l [] List.nodup_nil
    have hln : l.Nodup := (hp.nodup_iff).mpr (hkeep ▸ hnodup)
    have hst : B3b l = true := by
     rw [B2b]
     have hboth : l.Pairwise fun a b => A3i b a = false ∧ a ≠ b := hs.and hln
     exact hboth.imp fun {a b} ⟨h3, h4⟩ => by
      rcases B3j a b with h5 | h5 | h5
      ·exact h5
      ·exact absurd h5 h4
      ·rw [h3] at h5; cases h5
    unfold A0h
    rw [hr', hst, hap]
    simp; omega
 ·intro hf
  unfold A0h at hf
  simp only [Bool.and_eq_true, decide_eq_true_eq] at hf
  obtain ⟨⟨⟨hr, hs⟩, ha⟩, h64⟩ := hf
  have hs' := B2b.mp hs
  have ho := C6h hs'
  have hk : kept l = l := by
   unfold kept
   rw [ho, List.filter_eq_self]
   intro c hc
   have : A1w l c = false := A9k.mpr fun d hd => C2q.mp ha c hc d hd
   simp [this]
  rw [hr, if_neg (by decide), hk, if_neg (by omega)] at h
  exact ⟨h.1, C8f h.2.1 h.2.2 (hs'.imp fun h => B4h h)⟩
end Go.Hy
namespace Go.Hy
/-! ### Sets of dimensions as bits of a number, by the document's definitions -/
def A3e (s : Nat) (i : Int) : Bool := decide (0 ≤ i) && decide (i < 24) && s.testBit i.toNat
theorem B3l (s : Nat) (i : Int) : A3e s i = (decide (0 ≤ i) && decide (i < 24) && decide (s / 2 ^ i.toNat % 2 = 1)) := by
 unfold A3e; rw [Nat.testBit_eq_decide_div_mod_eq]
/-- The dimensions of a set below a number, rising. -/
def A2f (s n : Nat) : List Int := ((List.range n).filter s.testBit).map fun (i : Nat) => (i : Int)
abbrev A0g (s : Nat) : List Int := A2f s 24
theorem A5n (s n : Nat) : A2f s (n + 1) = if s.testBit n then A2f s n ++ [(n : Int)] else A2f s n := by
 unfold A2f
 rw [List.range_succ, List.filter_append]
 cases h : s.testBit n <;> simp [h]
theorem B0r {s n : Nat} {x : Int} (h : x ∈ A2f s n) : 0 ≤ x ∧ x < n := by
 unfold A2f at h
 simp only [List.mem_map, List.mem_filter, List.mem_range] at h
 obtain ⟨i, ⟨h1, _⟩, rfl⟩ := h
 omega
theorem A3y {s n : Nat} {x : Int} : x ∈ A2f s n ↔ 0 ≤ x ∧ x < n ∧ s.testBit x.toNat = true := by
 unfold A2f
 simp only [List.mem_map, List.mem_filter, List.mem_range]
 constructor
 ·rintro ⟨i, ⟨h1, h2⟩, rfl⟩; exact ⟨by omega, by omega, by simpa using h2⟩
 ·rintro ⟨h1, h2, h3⟩; exact ⟨x.toNat, ⟨by omega, h3⟩, by omega⟩
theorem A6e (s n : Nat) : (A2f s n).length ≤ n := by
 unfold A2f
 rw [List.length_map]
 have := List.length_filter_le s.testBit (List.range n)
 simpa using this
/-- The set of dimensions. -/
def B2d (l : List Int) : Nat := (l.map fun x => 2 ^ x.toNat).sum
def C5y (l : List Int) (i : Nat) : Nat := B2d (l.take i)
theorem D7p (l : List Int) : C5y l 0 = 0 := by simp [C5y, B2d]
theorem E1h (l : List Int) : C5y l l.length = B2d l := by simp [C5y]
theorem D7q {l : List Int} {i : Nat} (h : i < l.length) : C5y l (i + 1) = C5y l i + 2 ^ (l.getD i 0).toNat := by
 unfold C5y B2d; rw [A0i (d := 0) h, List.map_append, List.sum_append]; simp
theorem F2q {l : List Int} (h : ∀ x, x ∈ l → 0 ≤ x ∧ x < 24) : B2d l ≤ l.length * 8388608 := by
 unfold B2d
 induction l with
 | nil => simp
 | cons a l ih =>
  have h1 := ih (fun x hx => h x (List.mem_cons_of_mem _ hx))
  have h2 := h a List.mem_cons_self
  have h3 : 2 ^ a.toNat ≤ 8388608 := Nat.pow_le_pow_right (n := 2) (j := 23) (by omega) (by omega)
  simp only [List.map_cons, List.sum_cons, List.length_cons]
  generalize 2 ^ a.toNat = q at *
  omega
theorem E7d {l : List Int} (h : ∀ x, x ∈ l → 0 ≤ x ∧ x < 24) (i : Nat) : C5y l i ≤ l.length * 8388608 := by
 have h1 := F2q (l := l.take i) (fun x hx => h x (List.mem_of_mem_take hx))
 have h2 : (l.take i).length ≤ l.length := by simp; omega
 exact Nat.le_trans h1 (Nat.mul_le_mul_right 8388608 h2)
theorem C0t (s : Nat) : ∀ n, B2d (A2f s n) = s % 2 ^ n
 | 0 => by
  have h : A2f s 0 = [] := by unfold A2f; rw [List.range_zero, List.filter_nil, List.map_nil]
  rw [h, Nat.pow_zero, Nat.mod_one, B2d, List.map_nil, List.sum_nil]
 | n + 1 => by
  rw [A5n, Nat.mod_pow_succ]
  have ih := C0t s n
  have hb := Nat.testBit_eq_decide_div_mod_eq (x := s) (i := n)
  by_cases h : s / 2 ^ n % 2 = 1
  ·rw [hb, decide_eq_true h, if_pos rfl, h]
   have e : B2d (A2f s n ++ [(n : Int)]) = B2d (A2f s n) + 2 ^ n := by simp [B2d]
   rw [e, ih, Nat.mul_one]
  ·have h0 : s / 2 ^ n % 2 = 0 := by omega
   rw [hb, decide_eq_false h, if_neg (by simp), h0, ih]; simp
theorem D4h (s : Nat) : s &&& 16777215 = s % 2 ^ 24 := by
 rw [show (16777215 : Nat) = 2 ^ 24 - 1 from rfl, Nat.and_two_pow_sub_one_eq_mod]
theorem B7q (s : Nat) : B2d (A0g s) = s &&& 16777215 := by rw [C0t, D4h]
end Go.Hy
namespace Go.Hy
/-! ### The document's clauses and formulas -/
theorem A8a {p : Nat → Prop} {i : Nat} (h : ∀ j, j < i → p j) (hi : p i) : ∀ j, j < i + 1 → p j := fun j hj => by
 rcases Nat.lt_succ_iff_lt_or_eq.mp hj with h2 | h2
 ·exact h j h2
 ·exact h2 ▸ hi
theorem B9o {α : Type} {d : α} {l : List α} {g : α → Bool} (h : ∀ j, j < l.length → g (l.getD j d) = false) : l.any g = false := by
 rw [List.any_eq_false]
 intro x hx
 obtain ⟨j, hj, e⟩ := List.mem_iff_getElem.mp hx
 have := h j hj
 rw [A5g (d := d) hj, e] at this
 simp [this]
theorem C2r {α : Type} {d : α} {l : List α} {g : α → Bool} {i : Nat} (hi : i < l.length) (h : g (l.getD i d) = true) : l.any g = true := List.any_eq_true.mpr ⟨_, A0n hi, h⟩
theorem B5w {α : Type} {d : α} {l : List α} {g : α → Bool} (h : ∀ j, j < l.length → g (l.getD j d) = true) : l.all g = true := by
 rw [List.all_eq_true]
 intro x hx
 obtain ⟨j, hj, e⟩ := List.mem_iff_getElem.mp hx
 have := h j hj
 rwa [A5g (d := d) hj, e] at this
theorem B3t {α : Type} {d : α} {l : List α} {g : α → Bool} {i : Nat} (hi : i < l.length) (h : g (l.getD i d) = false) : l.all g = false := by
 rw [List.all_eq_false]
 exact ⟨l.getD i d, A0n hi, by rw [h]; decide⟩
def B0b (c : Cl) : Bool := (List.range 24).any fun i => A3e c.pos (i : Int) && A3e c.neg (i : Int)
theorem B6n {c : Cl} (h : A0q c = true) : B0b c = A5s c := by
 simp only [A0q, Bool.and_eq_true, decide_eq_true_eq] at h
 rw [Bool.eq_iff_iff]
 unfold B0b A5s
 rw [List.any_eq_true, decide_eq_true_eq]
 constructor
 ·rintro ⟨i, hi, hb⟩ h0
  simp only [A3e, Bool.and_eq_true, decide_eq_true_eq, Int.toNat_natCast] at hb
  have := congrArg (fun n => Nat.testBit n i) h0
  simp only [Nat.testBit_and, Nat.zero_testBit] at this
  rw [hb.1.2, hb.2.2] at this
  cases this
 ·intro h0
  obtain ⟨i, hi⟩ : ∃ i, (c.pos &&& c.neg).testBit i = true := by
   apply Classical.byContradiction
   intro hn
   exact h0 (Nat.eq_of_testBit_eq fun i => by
    rw [Nat.zero_testBit]
    cases hb : (c.pos &&& c.neg).testBit i
    ·rfl
    ·exact absurd ⟨i, hb⟩ hn)
  rw [Nat.testBit_and, Bool.and_eq_true] at hi
  have hlt : i < 24 := by
   apply Classical.byContradiction
   intro hge
   have : c.pos.testBit i = false := Nat.testBit_lt_two_pow (Nat.lt_of_lt_of_le h.1 (Nat.pow_le_pow_right (n := 2) (by omega) (show 24 ≤ i by omega)))
   rw [this] at hi; cases hi.1
  exact ⟨i, List.mem_range.mpr hlt, by simp [A3e, hi.1, hi.2]; omega⟩
/-! A clause is put in its place. -/
def C2y (c : Cl) : List Cl → List Cl
 | [] => [c]
 | d :: l => if A3i d c then d :: C2y c l else if d = c then d :: l else c :: d :: l
def rl (l : List Cl) (m : List Cl) : List Cl := m.foldl (fun o c => if A1w l c then o else C2y c o) []
def A6p (l : List Cl) (i : Nat) : List Cl := rl l (l.take i)
abbrev A3o (l : List Cl) : List Cl := rl l l
theorem C9c (l : List Cl) : A6p l 0 = [] := by simp [A6p, rl]
theorem D5f (l : List Cl) : A6p l l.length = A3o l := by simp [A6p]
theorem C0y {l : List Cl} {i : Nat} (h : i < l.length) : A6p l (i + 1) = if A1w l (l.getD i cl0) then A6p l i else C2y (l.getD i cl0) (A6p l i) := by
 unfold A6p rl; rw [A0i (d := cl0) h, List.foldl_append]; rfl
theorem C6s {c x : Cl} : ∀ {l : List Cl}, x ∈ C2y c l ↔ x = c ∨ x ∈ l
 | [] => by simp [C2y]
 | d :: l => by
  unfold C2y
  split
  ·rw [List.mem_cons, C6s (l := l), List.mem_cons]
   constructor
   ·rintro (h | h | h)
    ·exact .inr (.inl h)
    ·exact .inl h
    ·exact .inr (.inr h)
   ·rintro (h | h | h)
    ·exact .inr (.inl h)
    ·exact .inl h
    ·exact .inr (.inr h)
  ·split
   ·rename_i h
    subst h
    simp
   ·simp
theorem D6j (c : Cl) : ∀ l : List Cl, (C2y c l).length ≤ l.length + 1
 | [] => by simp [C2y]
 | d :: l => by
  unfold C2y
  have := D6j c l
  split
  ·simp; omega
  ·split <;> simp
theorem C1y {c : Cl} : ∀ {l : List Cl}, (l.Pairwise fun a b => A3i a b = true) → (C2y c l).Pairwise fun a b => A3i a b = true
 | [], _ => by simp [C2y]
 | d :: l, h => by
  rw [List.pairwise_cons] at h
  unfold C2y
  split
  ·rename_i hd
   rw [List.pairwise_cons]
   refine ⟨fun x hx => ?_, C1y h.2⟩
   rcases C6s.mp hx with e | e
   ·exact e ▸ hd
   ·exact h.1 x e
  ·rename_i hd
   split
   ·exact List.pairwise_cons.mpr h
   ·rename_i hne
    have hcd : A3i c d = true := by
     rcases B3j c d with h3 | h3 | h3
     ·exact h3
     ·exact absurd h3.symm hne
     ·exact absurd h3 hd
    rw [List.pairwise_cons]
    refine ⟨fun x hx => ?_, List.pairwise_cons.mpr h⟩
    rcases List.mem_cons.mp hx with e | e
    ·exact e ▸ hcd
    ·exact C1q hcd (h.1 x e)
theorem C9b (l : List Cl) : ∀ (m o : List Cl), (o.Pairwise fun a b => A3i a b = true) → (m.foldl (fun o c => if A1w l c then o else C2y c o) o).Pairwise fun a b => A3i a b = true
 | [], o, h => h
 | c :: m, o, h => by
  rw [List.foldl_cons]
  apply C9b l m
  split
  ·exact h
  ·exact C1y h
theorem E1u (l : List Cl) (x : Cl) : ∀ (m o : List Cl), x ∈ m.foldl (fun o c => if A1w l c then o else C2y c o) o ↔ x ∈ o ∨ (x ∈ m ∧ A1w l x = false)
 | [], o => by simp
 | c :: m, o => by
  rw [List.foldl_cons, E1u l x m]
  by_cases hn : A1w l c = true
  ·rw [if_pos hn, List.mem_cons]
   constructor
   ·rintro (h | ⟨h, h2⟩)
    ·exact .inl h
    ·exact .inr ⟨.inr h, h2⟩
   ·rintro (h | ⟨h | h, h2⟩)
    ·exact .inl h
    ·subst h; rw [hn] at h2; cases h2
    ·exact .inr ⟨h, h2⟩
  ·rw [if_neg hn, C6s, List.mem_cons]
   constructor
   ·rintro ((h | h) | ⟨h, h2⟩)
    ·subst h; exact .inr ⟨.inl rfl, by simpa using hn⟩
    ·exact .inl h
    ·exact .inr ⟨.inr h, h2⟩
   ·rintro (h | ⟨h | h, h2⟩)
    ·exact .inl (.inr h)
    ·exact .inl (.inl h)
    ·exact .inr ⟨h, h2⟩
theorem A4i {l : List Cl} {x : Cl} : x ∈ A3o l ↔ x ∈ l ∧ A1w l x = false := by
 have := E1u l x l []
 simpa [A3o, rl] using this
theorem A8g (l : List Cl) : (A3o l).Pairwise fun a b => A3i a b = true := C9b l l [] List.Pairwise.nil
theorem C6c (l : List Cl) (i : Nat) : (A6p l i).length ≤ i := by
 have : ∀ (m o : List Cl), (m.foldl (fun o c => if A1w l c then o else C2y c o) o).length ≤ o.length + m.length := by
  intro m
  induction m with
  | nil => intro o; simp
  | cons c m ih =>
   intro o
   rw [List.foldl_cons]
   have h1 := ih (if A1w l c then o else C2y c o)
   have h2 : (if A1w l c = true then o else C2y c o).length ≤ o.length + 1 := by
    split
    ·omega
    ·exact D6j c o
   simp only [List.length_cons]; omega
 have := this (l.take i) []
 unfold A6p rl
 simp at this ⊢
 omega
theorem E1v {l : List Cl} {i : Nat} {c : Cl} (h : c ∈ A6p l i) : c ∈ l := by
 have := (E1u l c (l.take i) []).mp h
 rcases this with h | h
 ·cases h
 ·exact List.mem_of_mem_take h.1
theorem B7n : ∀ {l m : List Cl}, (l.Pairwise fun a b => A3i a b = true) → (m.Pairwise fun a b => A3i a b = true) → (∀ x, x ∈ l ↔ x ∈ m) → l = m
 | [], [], _, _, _ => rfl
 | [], b :: m, _, _, h => by have := (h b).mpr List.mem_cons_self; cases this
 | a :: l, [], _, _, h => by have := (h a).mp List.mem_cons_self; cases this
 | a :: l, b :: m, h1, h2, h => by
  rw [List.pairwise_cons] at h1 h2
  have e : a = b := by
   rcases List.mem_cons.mp ((h a).mp List.mem_cons_self) with h3 | h3
   ·exact h3
   ·rcases List.mem_cons.mp ((h b).mpr List.mem_cons_self) with h4 | h4
    ·exact h4.symm
    ·have h5 := h2.1 a h3
     have h6 := h1.1 b h4
     rw [B4h h5] at h6; cases h6
  subst e
  congr 1
  apply B7n h1.2 h2.2
  intro x
  have hx := h x
  rw [List.mem_cons, List.mem_cons] at hx
  constructor
  ·intro h3
   rcases hx.mp (.inr h3) with h4 | h4
   ·subst h4; have := h1.1 x h3; rw [B6u] at this; cases this
   ·exact h4
  ·intro h3
   rcases hx.mpr (.inr h3) with h4 | h4
   ·subst h4; have := h2.1 x h3; rw [B6u] at this; cases this
   ·exact h4
theorem C6n (l : List Cl) (c : Cl) : A1w (once l) c = A1w l c := by
 unfold A1w
 rw [Bool.eq_iff_iff, List.any_eq_true, List.any_eq_true]
 constructor
 ·rintro ⟨d, h1, h2⟩; exact ⟨d, (B4b d l).mp h1, h2⟩
 ·rintro ⟨d, h1, h2⟩; exact ⟨d, (B4b d l).mpr h1, h2⟩
theorem D8j (l : List Cl) : (once l).Nodup := by
 have : ∀ (m o : List Cl), o.Nodup → (m.foldl (fun o c => if c ∈ o then o else o ++ [c]) o).Nodup := by
  intro m
  induction m with
  | nil => intro o h; exact h
  | cons c m ih =>
   intro o h
   rw [List.foldl_cons]
   apply ih
   split
   ·exact h
   ·rename_i hn
    rw [List.nodup_append]
    refine ⟨h, by simp, ?_⟩
    intro a ha b hb e
    rw [List.mem_singleton] at hb
    exact hn (hb ▸ e ▸ ha)
 exact this l [] List.nodup_nil
theorem C8h (l : List Cl) : ∃ m, D7c l m := by
 refine ⟨l.mergeSort (fun a b => !A3i b a), List.mergeSort_perm _ _, ?_⟩
 have := List.pairwise_mergeSort (le := fun a b => !A3i b a) (fun a b c h1 h2 => by
  simp only [Bool.not_eq_true'] at *
  simp only [A3i, Bool.or_eq_false_iff, Bool.and_eq_false_iff, decide_eq_false_iff_not] at *
  omega) (fun a b => by
  rcases B3j a b with h | h | h
  ·simp [B4h h]
  ·subst h; simp [B6u]
  ·simp [B4h h]) l
 exact this.imp fun h => by simpa using h
theorem C8i {l m : List Cl} (h : D7c (kept l) m) : m = A3o l := by
 have hnd : m.Nodup := (h.1.nodup_iff).mpr (by unfold kept; exact (D8j l).filter _)
 have hb : m.Pairwise fun a b => A3i b a = false ∧ a ≠ b := h.2.and hnd
 refine B7n ?_ (A8g l) (fun x => ?_)
 ·exact hb.imp fun {a b} ⟨h3, h4⟩ => by
   rcases B3j a b with h5 | h5 | h5
   ·exact h5
   ·exact absurd h5 h4
   ·rw [h3] at h5; cases h5
 ·rw [h.1.mem_iff, A4i]
  unfold kept
  rw [List.mem_filter, B4b, C6n]
  simp
/-- What Least tells: an error's number, and the clauses. -/
def A0w (l : List Cl) : Int × List Cl := if l.all A0q = false then (2, []) else if 64 < (A3o l).length then (3, []) else (0, A3o l)
theorem C4q {l : List Cl} {r : Int × List Cl} (h : B0a l r) : r = A0w l := by
 unfold B0a at h
 unfold A0w
 by_cases h1 : l.all A0q = false
 ·rw [if_pos h1] at h ⊢; exact h
 ·rw [if_neg h1] at h ⊢
  by_cases h2 : 64 < (kept l).length
  ·have h3 : (kept l).length = (A3o l).length := by
    obtain ⟨m, hm⟩ := C8h (kept l)
    rw [← hm.1.length_eq, C8i hm]
   rw [if_pos h2] at h
   rw [if_pos (by omega)]; exact h
  ·rw [if_neg h2] at h
   have e := C8i h.2
   have h3 : (kept l).length = (A3o l).length := by rw [← h.2.1.length_eq, e]
   rw [if_neg (by omega)]
   exact Prod.ext h.1 e
theorem B9e (l : List Cl) : (decide ((A0w l).1 = 0) && decide ((A0w l).2 = l)) = A0h l := by
 obtain ⟨r, hr⟩ : ∃ r, B0a l r := by
  unfold B0a
  by_cases h1 : l.all A0q = false
  ·exact ⟨_, by rw [if_pos h1]⟩
  ·by_cases h2 : 64 < (kept l).length
   ·exact ⟨_, by rw [if_neg h1, if_pos h2]⟩
   ·obtain ⟨m, hm⟩ := C8h (kept l)
    exact ⟨(0, m), by rw [if_neg h1, if_neg h2]; exact ⟨rfl, hm⟩⟩
 rw [← C4q hr]
 exact B5p hr
/-- A clause in its place, by the place. -/
theorem D3q {c : Cl} : ∀ {l : List Cl} {k : Nat}, k ≤ l.length → (∀ j, j < k → A3i (l.getD j cl0) c = true) → (k < l.length → A3i (l.getD k cl0) c = false) → C2y c l = if k < l.length ∧ l.getD k cl0 = c then l else l.take k ++ [c] ++ l.drop k
 | [], k, hk, h1, h2 => by simp at hk; subst hk; simp [C2y]
 | d :: l, 0, hk, h1, h2 => by
  have h := h2 (by simp)
  simp only [List.getD_cons_zero] at h
  unfold C2y
  rw [h, if_neg (by decide)]
  simp
 | d :: l, k + 1, hk, h1, h2 => by
  have h := h1 0 (by omega)
  simp only [List.getD_cons_zero] at h
  unfold C2y
  rw [if_pos h, D3q (l := l) (k := k) (by simpa using hk) (fun j hj => by simpa using h1 (j + 1) (by omega)) (fun hlt => by simpa using h2 (by simpa using hlt))]
  simp only [List.length_cons, List.getD_cons_succ, List.take_succ_cons, List.drop_succ_cons, List.cons_append, Nat.add_lt_add_iff_right]
  split <;> rfl
end Go.Hy
namespace Go.Hy
/-! ### How great a term is: nodes, clauses, bytes -/
def G0b (t : T) (ks : List Nat) (bs : List (List Nat)) : Nat := 1 + t.r.length + t.name.size + ks.sum + ((t.sys.zip bs).map fun p => 1 + p.1.A1z.length + p.2.sum).sum
def B4n : T → Nat := tf G0b
def B9n (b : Br) : Nat := 1 + b.A1z.length + (b.kids.map B4n).sum
theorem C7g (t : T) : B4n t = 1 + t.r.length + t.name.size + (t.kids.map B4n).sum + (t.sys.map B9n).sum := by
 conv => lhs; rw [B4n, F6c]
 unfold G0b
 congr 2
 generalize t.sys = l
 induction l with
 | nil => rfl
 | cons b l ih => simp only [List.map_cons, List.zip_cons_cons, List.map_cons]; rw [ih]; rfl
def bK (t : T) (i : Nat) : Nat := 1 + t.r.length + t.name.size + ((t.kids.take i).map B4n).sum
def bS (t : T) (i : Nat) : Nat := bK t t.kids.length + ((t.sys.take i).map B9n).sum
def bJ (t : T) (i j : Nat) : Nat := bS t i + 1 + (t.sys.getD i br0).A1z.length + (((t.sys.getD i br0).kids.take j).map B4n).sum
theorem B1z {α : Type} (f : α → Nat) {l : List α} {i : Nat} {d : α} (h : i < l.length) : ((l.take (i + 1)).map f).sum = ((l.take i).map f).sum + f (l.getD i d) := by
 rw [A0i (d := d) h, List.map_append, List.sum_append]; simp
theorem B2a {α : Type} (f : α → Nat) : ∀ (l : List α) (i : Nat), ((l.take i).map f).sum ≤ (l.map f).sum
 | [], i => by simp
 | a :: l, 0 => by simp
 | a :: l, i + 1 => by have := B2a f l i; simp only [List.take_succ_cons, List.map_cons, List.sum_cons]; omega
theorem D4e (t : T) : bK t 0 = 1 + t.r.length + t.name.size := by simp [bK]
theorem F5c {t : T} {i : Nat} (h : i < t.kids.length) : bK t (i + 1) = bK t i + B4n (t.kids.getD i t0) := by
 unfold bK; rw [B1z B4n h (d := t0)]; omega
theorem F5b (t : T) : bS t 0 = bK t t.kids.length := by simp [bS]
theorem E5w (t : T) (i : Nat) : bJ t i 0 = bS t i + 1 + (t.sys.getD i br0).A1z.length := by simp [bJ]
theorem F5d {t : T} {i j : Nat} (h : j < (t.sys.getD i br0).kids.length) : bJ t i (j + 1) = bJ t i j + B4n ((t.sys.getD i br0).kids.getD j t0) := by
 unfold bJ; rw [B1z B4n h (d := t0)]; omega
theorem D4d {t : T} {i : Nat} (h : i < t.sys.length) : bS t (i + 1) = bJ t i (t.sys.getD i br0).kids.length := by
 unfold bS bJ bS; rw [B1z B9n h (d := br0), List.take_length]; unfold B9n; omega
theorem G0f (t : T) : bS t t.sys.length = B4n t := by
 rw [C7g]; unfold bS bK; rw [List.take_length, List.take_length]
theorem G0e (t : T) (i : Nat) : bS t i ≤ B4n t := by
 rw [C7g]; unfold bS bK; rw [List.take_length]; have := B2a B9n t.sys i; omega
theorem F0b (t : T) (i : Nat) : bK t i ≤ B4n t := by
 rw [C7g]; unfold bK; have := B2a B4n t.kids i; omega
theorem G0g {t : T} {i j : Nat} (h : i < t.sys.length) : bJ t i j ≤ B4n t := by
 have h1 := G0e t (i + 1)
 rw [D4d h] at h1
 unfold bJ at h1 ⊢
 rw [List.take_length] at h1
 have := B2a B4n (t.sys.getD i br0).kids j
 omega
/-- What a count has come to, as far as 'most'. -/
def A7g (t : T) (part : Nat) (A8j n : Int) : Prop := 0 ≤ n ∧ n ≤ 2 * A8j + 1 ∧ ((n ≤ A8j ∧ n = part) ∨ (A8j < n ∧ A8j < B4n t))
theorem C8l : ∀ t, size t ≤ B4n t := T.ind fun t ih => by
 have hk : ∀ (F G : T → Nat) (l : List T), (∀ k, k ∈ l → F k ≤ G k) → (l.map F).sum ≤ (l.map G).sum := by
  intro F G l
  induction l with
  | nil => intro _; simp
  | cons a l ih => intro h; have := ih (fun k hk => h k (List.mem_cons_of_mem _ hk)); have := h a List.mem_cons_self; simp only [List.map_cons, List.sum_cons]; omega
 have e : size t = 1 + ((parts t).map fun p => size p.1).sum := by
  rw [size_eq]
  have : ∀ (l : List Part) (a : Nat), l.foldl (fun a p => a + size p.1) a = a + (l.map fun p => size p.1).sum := by
   intro l
   induction l with
   | nil => intro a; simp
   | cons b l ih => intro a; rw [List.foldl_cons, ih]; simp; omega
  exact this _ _
 rw [e, B3f, C7g, List.sum_append]
 have h1 := hk size B4n t.kids (fun k hk => by obtain ⟨p, hp, e⟩ := A5p hk; exact e ▸ ih p hp)
 have h2 : ((t.sys.map fun b => b.kids.map size).flatten).sum ≤ (t.sys.map B9n).sum := by
  have : ∀ (l : List Br), (∀ b, b ∈ l → b ∈ t.sys) → ((l.map fun b => b.kids.map size).flatten).sum ≤ (l.map B9n).sum := by
   intro l
   induction l with
   | nil => intro _; simp
   | cons b l ih2 =>
    intro h
    have h3 := ih2 (fun b hb => h b (List.mem_cons_of_mem _ hb))
    have h4 := hk size B4n b.kids (fun k hk => by obtain ⟨p, hp, e⟩ := A5m (h b List.mem_cons_self) hk; exact e ▸ ih p hp)
    simp only [List.map_cons, List.flatten_cons, List.sum_append, List.sum_cons]
    have hb : B9n b = 1 + b.A1z.length + (b.kids.map B4n).sum := rfl
    rw [hb]
    omega
  exact this t.sys (fun _ h => h)
 omega
end Go.Hy
/- THE TYPES' TABLE of this seat's program, printed by mk_tab.py (a program of this repository): each row is checked by the kernel against the loaded program. -/
namespace Go.Proofs.YtpfjlbopkhdebaaGreatDoor.Hy
open Go.Proofs
set_option maxRecDepth 100000
set_option maxHeartbeats 8000000
def G0x : Nat → Option (TypeDesc)
 | 1 => some (.func #[] #[] false)
 | 2 => some (.int .i64)
 | 3 => some (.int .i64)
 | 4 => some (.bool)
 | 5 => some (.int .u8)
 | 9 => some (.string)
 | 12 => some (.int .u64)
 | 20 => some (.interface #[])
 | 21 => some (.int .i32)
 | 22 => some (.slice 47)
 | 23 => some (.func #[22] #[4] false)
 | 24 => some (.func #[] #[4] false)
 | 25 => some (.slice 45)
 | 26 => some (.int .i64)
 | 28 => some (.func #[22] #[25, 26] false)
 | 30 => some (.func #[22] #[25, 3] false)
 | 31 => some (.func #[22] #[3] false)
 | 32 => some (.func #[25, 25] #[4] false)
 | 33 => some (.slice 35)
 | 36 => some (.func #[35, 25] #[4] false)
 | 37 => some (.func #[35] #[35] false)
 | 39 => some (.func #[35, 3, 25] #[35, 26] false)
 | 41 => some (.func #[35, 3, 25] #[35, 3] false)
 | 42 => some (.func #[35, 35] #[4] false)
 | 43 => some (.int .u32)
 | 53 => some (.func #[45] #[4] false)
 | 54 => some (.func #[25, 45] #[25, 26] false)
 | 63 => some (.func #[35] #[4] false)
 | 103 => some (.func #[25, 3] #[25, 26] false)
 | 104 => some (.func #[25, 3] #[25, 26] false)
 | 108 => some (.func #[35, 3] #[35, 26] false)
 | 116 => some (.slice 115)
 | 117 => some (.slice 3)
 | 126 => some (.func #[45] #[45, 4] false)
 | 133 => some (.func #[35, 3, 3] #[4] false)
 | 138 => some (.func #[35, 3, 3] #[35] false)
 | 139 => some (.func #[] #[35] false)
 | 146 => some (.int .u64)
 | 148 => some (.func #[43, 3] #[4] false)
 | 151 => some (.func #[3] #[3] false)
 | 157 => some (.func #[25, 3, 25] #[25, 26] false)
 | 159 => some (.func #[157] #[104] false)
 | 165 => some (.func #[35, 3, 25, 3, 4] #[35] false)
 | 167 => some (.func #[3] #[35] false)
 | 168 => some (.func #[33] #[33] false)
 | 174 => some (.map 45 4)
 | 177 => some (.func #[45, 45] #[3] false)
 | 181 => some (.slice 25)
 | 195 => some (.int .u64)
 | 196 => some (.array 29 3)
 | 202 => some (.array 32 5)
 | 204 => some (.int .i64)
 | 215 => some (.func #[] #[195] false)
 | 216 => some (.func #[25, 3, 217, 177] #[3] false)
 | 217 => some (.pointer 3)
 | 233 => some (.pointer 5)
 | _ => none
def G0y : Nat → Option (Nat × Nat × Value)
 | 1 => some (1, 8, .nilFunc)
 | 2 => some (1, 8, .int .i64 0)
 | 3 => some (1, 8, .int .i64 0)
 | 4 => some (1, 1, .bool false)
 | 5 => some (1, 1, .int .u8 0)
 | 9 => some (1, 16, .string ⟨#[]⟩)
 | 12 => some (1, 8, .int .u64 0)
 | 21 => some (1, 4, .int .i32 0)
 | 22 => some (1, 24, .slice none 0 0)
 | 23 => some (1, 8, .nilFunc)
 | 24 => some (1, 8, .nilFunc)
 | 25 => some (1, 24, .slice none 0 0)
 | 26 => some (1, 8, .int .i64 0)
 | 28 => some (1, 8, .nilFunc)
 | 30 => some (1, 8, .nilFunc)
 | 31 => some (1, 8, .nilFunc)
 | 32 => some (1, 8, .nilFunc)
 | 33 => some (1, 24, .slice none 0 0)
 | 34 => some (6, 104, .agg #[.int .i64 0, .int .i64 0, .string ⟨#[]⟩, .slice none 0 0, .slice none 0 0, .slice none 0 0])
 | 35 => some (6, 104, .agg #[.int .i64 0, .int .i64 0, .string ⟨#[]⟩, .slice none 0 0, .slice none 0 0, .slice none 0 0])
 | 36 => some (1, 8, .nilFunc)
 | 37 => some (1, 8, .nilFunc)
 | 39 => some (1, 8, .nilFunc)
 | 41 => some (1, 8, .nilFunc)
 | 42 => some (1, 8, .nilFunc)
 | 43 => some (1, 4, .int .u32 0)
 | 44 => some (2, 8, .agg #[.int .u32 0, .int .u32 0])
 | 45 => some (2, 8, .agg #[.int .u32 0, .int .u32 0])
 | 46 => some (2, 48, .agg #[.slice none 0 0, .slice none 0 0])
 | 47 => some (2, 48, .agg #[.slice none 0 0, .slice none 0 0])
 | 53 => some (1, 8, .nilFunc)
 | 54 => some (1, 8, .nilFunc)
 | 63 => some (1, 8, .nilFunc)
 | 67 => some (2, 32, .agg #[.slice none 0 0, .int .i64 0])
 | 68 => some (2, 32, .agg #[.slice none 0 0, .int .i64 0])
 | 71 => some (2, 32, .agg #[.slice none 0 0, .int .i64 0])
 | 103 => some (1, 8, .nilFunc)
 | 104 => some (1, 8, .nilFunc)
 | 105 => some (2, 16, .agg #[.nilFunc, .nilFunc])
 | 106 => some (2, 16, .agg #[.nilFunc, .nilFunc])
 | 108 => some (1, 8, .nilFunc)
 | 115 => some (2, 32, .agg #[.int .u32 0, .slice none 0 0])
 | 116 => some (1, 24, .slice none 0 0)
 | 117 => some (1, 24, .slice none 0 0)
 | 126 => some (1, 8, .nilFunc)
 | 133 => some (1, 8, .nilFunc)
 | 136 => some (2, 16, .agg #[.int .i64 0, .int .i64 0])
 | 137 => some (2, 16, .agg #[.int .i64 0, .int .i64 0])
 | 138 => some (1, 8, .nilFunc)
 | 139 => some (1, 8, .nilFunc)
 | 146 => some (1, 8, .int .u64 0)
 | 148 => some (1, 8, .nilFunc)
 | 151 => some (1, 8, .nilFunc)
 | 157 => some (1, 8, .nilFunc)
 | 159 => some (1, 8, .nilFunc)
 | 165 => some (1, 8, .nilFunc)
 | 167 => some (1, 8, .nilFunc)
 | 168 => some (1, 8, .nilFunc)
 | 174 => some (1, 8, .map none)
 | 177 => some (1, 8, .nilFunc)
 | 181 => some (1, 24, .slice none 0 0)
 | 195 => some (1, 8, .int .u64 0)
 | 196 => some (29, 232, .agg #[.int .i64 0, .int .i64 0, .int .i64 0, .int .i64 0, .int .i64 0, .int .i64 0, .int .i64 0, .int .i64 0, .int .i64 0, .int .i64 0, .int .i64 0, .int .i64 0, .int .i64 0, .int .i64 0, .int .i64 0, .int .i64 0, .int .i64 0, .int .i64 0, .int .i64 0, .int .i64 0, .int .i64 0, .int .i64 0, .int .i64 0, .int .i64 0, .int .i64 0, .int .i64 0, .int .i64 0, .int .i64 0, .int .i64 0])
 | 202 => some (32, 32, .agg #[.int .u8 0, .int .u8 0, .int .u8 0, .int .u8 0, .int .u8 0, .int .u8 0, .int .u8 0, .int .u8 0, .int .u8 0, .int .u8 0, .int .u8 0, .int .u8 0, .int .u8 0, .int .u8 0, .int .u8 0, .int .u8 0, .int .u8 0, .int .u8 0, .int .u8 0, .int .u8 0, .int .u8 0, .int .u8 0, .int .u8 0, .int .u8 0, .int .u8 0, .int .u8 0, .int .u8 0, .int .u8 0, .int .u8 0, .int .u8 0, .int .u8 0, .int .u8 0])
 | 204 => some (1, 8, .int .i64 0)
 | 215 => some (1, 8, .nilFunc)
 | 216 => some (1, 8, .nilFunc)
 | 217 => some (1, 8, .pointer none)
 | 233 => some (1, 8, .pointer none)
 | _ => none
def F5l : Nat → Option (List (Nat × Nat))
 | 34 => some ([(0, 1), (1, 1), (2, 1), (3, 1), (4, 1), (5, 1)])
 | 35 => some ([(0, 1), (1, 1), (2, 1), (3, 1), (4, 1), (5, 1)])
 | 44 => some ([(0, 1), (1, 1)])
 | 45 => some ([(0, 1), (1, 1)])
 | 46 => some ([(0, 1), (1, 1)])
 | 47 => some ([(0, 1), (1, 1)])
 | 67 => some ([(0, 1), (1, 1)])
 | 68 => some ([(0, 1), (1, 1)])
 | 71 => some ([(0, 1), (1, 1)])
 | 105 => some ([(0, 1), (1, 1)])
 | 106 => some ([(0, 1), (1, 1)])
 | 115 => some ([(0, 1), (1, 1)])
 | 136 => some ([(0, 1), (1, 1)])
 | 137 => some ([(0, 1), (1, 1)])
 | _ => none
def G0z (t j : Nat) : Option Nat := (F5l t).bind fun l => (l[j]?).map (·.1)
theorem G4z : (Tryz.prog.info? 1).map (fun i => (i.size, i.bytes, i.zero)) = some (1, 8, some (.nilFunc)) := by kernel_rfl
theorem G4y : (Tryz.prog.info? 2).map (fun i => (i.size, i.bytes, i.zero)) = some (1, 8, some (.int .i64 0)) := by kernel_rfl
theorem G4x : (Tryz.prog.info? 3).map (fun i => (i.size, i.bytes, i.zero)) = some (1, 8, some (.int .i64 0)) := by kernel_rfl
theorem G4w : (Tryz.prog.info? 4).map (fun i => (i.size, i.bytes, i.zero)) = some (1, 1, some (.bool false)) := by kernel_rfl
theorem G4v : (Tryz.prog.info? 5).map (fun i => (i.size, i.bytes, i.zero)) = some (1, 1, some (.int .u8 0)) := by kernel_rfl
theorem G4u : (Tryz.prog.info? 9).map (fun i => (i.size, i.bytes, i.zero)) = some (1, 16, some (.string ⟨#[]⟩)) := by kernel_rfl
theorem G3v : (Tryz.prog.info? 12).map (fun i => (i.size, i.bytes, i.zero)) = some (1, 8, some (.int .u64 0)) := by kernel_rfl
theorem G3u : (Tryz.prog.info? 21).map (fun i => (i.size, i.bytes, i.zero)) = some (1, 4, some (.int .i32 0)) := by kernel_rfl
theorem G3t : (Tryz.prog.info? 22).map (fun i => (i.size, i.bytes, i.zero)) = some (1, 24, some (.slice none 0 0)) := by kernel_rfl
theorem G3s : (Tryz.prog.info? 23).map (fun i => (i.size, i.bytes, i.zero)) = some (1, 8, some (.nilFunc)) := by kernel_rfl
theorem G3r : (Tryz.prog.info? 24).map (fun i => (i.size, i.bytes, i.zero)) = some (1, 8, some (.nilFunc)) := by kernel_rfl
theorem G3q : (Tryz.prog.info? 25).map (fun i => (i.size, i.bytes, i.zero)) = some (1, 24, some (.slice none 0 0)) := by kernel_rfl
theorem G3p : (Tryz.prog.info? 26).map (fun i => (i.size, i.bytes, i.zero)) = some (1, 8, some (.int .i64 0)) := by kernel_rfl
theorem G3o : (Tryz.prog.info? 28).map (fun i => (i.size, i.bytes, i.zero)) = some (1, 8, some (.nilFunc)) := by kernel_rfl
theorem G3n : (Tryz.prog.info? 30).map (fun i => (i.size, i.bytes, i.zero)) = some (1, 8, some (.nilFunc)) := by kernel_rfl
theorem G3m : (Tryz.prog.info? 31).map (fun i => (i.size, i.bytes, i.zero)) = some (1, 8, some (.nilFunc)) := by kernel_rfl
theorem G3l : (Tryz.prog.info? 32).map (fun i => (i.size, i.bytes, i.zero)) = some (1, 8, some (.nilFunc)) := by kernel_rfl
theorem G3k : (Tryz.prog.info? 33).map (fun i => (i.size, i.bytes, i.zero)) = some (1, 24, some (.slice none 0 0)) := by kernel_rfl
theorem G3j : (Tryz.prog.info? 34).map (fun i => (i.size, i.bytes, i.zero)) = some (6, 104, some (.agg #[.int .i64 0, .int .i64 0, .string ⟨#[]⟩, .slice none 0 0, .slice none 0 0, .slice none 0 0])) := by kernel_rfl
theorem G3i : (Tryz.prog.info? 35).map (fun i => (i.size, i.bytes, i.zero)) = some (6, 104, some (.agg #[.int .i64 0, .int .i64 0, .string ⟨#[]⟩, .slice none 0 0, .slice none 0 0, .slice none 0 0])) := by kernel_rfl
theorem G3h : (Tryz.prog.info? 36).map (fun i => (i.size, i.bytes, i.zero)) = some (1, 8, some (.nilFunc)) := by kernel_rfl
theorem G3g : (Tryz.prog.info? 37).map (fun i => (i.size, i.bytes, i.zero)) = some (1, 8, some (.nilFunc)) := by kernel_rfl
theorem G3f : (Tryz.prog.info? 39).map (fun i => (i.size, i.bytes, i.zero)) = some (1, 8, some (.nilFunc)) := by kernel_rfl
theorem G3e : (Tryz.prog.info? 41).map (fun i => (i.size, i.bytes, i.zero)) = some (1, 8, some (.nilFunc)) := by kernel_rfl
theorem G3d : (Tryz.prog.info? 42).map (fun i => (i.size, i.bytes, i.zero)) = some (1, 8, some (.nilFunc)) := by kernel_rfl
theorem G3c : (Tryz.prog.info? 43).map (fun i => (i.size, i.bytes, i.zero)) = some (1, 4, some (.int .u32 0)) := by kernel_rfl
theorem G3b : (Tryz.prog.info? 44).map (fun i => (i.size, i.bytes, i.zero)) = some (2, 8, some (.agg #[.int .u32 0, .int .u32 0])) := by kernel_rfl
theorem G3a : (Tryz.prog.info? 45).map (fun i => (i.size, i.bytes, i.zero)) = some (2, 8, some (.agg #[.int .u32 0, .int .u32 0])) := by kernel_rfl
theorem G2z : (Tryz.prog.info? 46).map (fun i => (i.size, i.bytes, i.zero)) = some (2, 48, some (.agg #[.slice none 0 0, .slice none 0 0])) := by kernel_rfl
theorem G2y : (Tryz.prog.info? 47).map (fun i => (i.size, i.bytes, i.zero)) = some (2, 48, some (.agg #[.slice none 0 0, .slice none 0 0])) := by kernel_rfl
theorem G2x : (Tryz.prog.info? 53).map (fun i => (i.size, i.bytes, i.zero)) = some (1, 8, some (.nilFunc)) := by kernel_rfl
theorem G2w : (Tryz.prog.info? 54).map (fun i => (i.size, i.bytes, i.zero)) = some (1, 8, some (.nilFunc)) := by kernel_rfl
theorem G2v : (Tryz.prog.info? 63).map (fun i => (i.size, i.bytes, i.zero)) = some (1, 8, some (.nilFunc)) := by kernel_rfl
theorem G2u : (Tryz.prog.info? 67).map (fun i => (i.size, i.bytes, i.zero)) = some (2, 32, some (.agg #[.slice none 0 0, .int .i64 0])) := by kernel_rfl
theorem G2t : (Tryz.prog.info? 68).map (fun i => (i.size, i.bytes, i.zero)) = some (2, 32, some (.agg #[.slice none 0 0, .int .i64 0])) := by kernel_rfl
theorem G2s : (Tryz.prog.info? 71).map (fun i => (i.size, i.bytes, i.zero)) = some (2, 32, some (.agg #[.slice none 0 0, .int .i64 0])) := by kernel_rfl
theorem F9t : (Tryz.prog.info? 103).map (fun i => (i.size, i.bytes, i.zero)) = some (1, 8, some (.nilFunc)) := by kernel_rfl
theorem F9s : (Tryz.prog.info? 104).map (fun i => (i.size, i.bytes, i.zero)) = some (1, 8, some (.nilFunc)) := by kernel_rfl
theorem F9r : (Tryz.prog.info? 105).map (fun i => (i.size, i.bytes, i.zero)) = some (2, 16, some (.agg #[.nilFunc, .nilFunc])) := by kernel_rfl
theorem F9q : (Tryz.prog.info? 106).map (fun i => (i.size, i.bytes, i.zero)) = some (2, 16, some (.agg #[.nilFunc, .nilFunc])) := by kernel_rfl
theorem F9p : (Tryz.prog.info? 108).map (fun i => (i.size, i.bytes, i.zero)) = some (1, 8, some (.nilFunc)) := by kernel_rfl
theorem F9o : (Tryz.prog.info? 115).map (fun i => (i.size, i.bytes, i.zero)) = some (2, 32, some (.agg #[.int .u32 0, .slice none 0 0])) := by kernel_rfl
theorem F9n : (Tryz.prog.info? 116).map (fun i => (i.size, i.bytes, i.zero)) = some (1, 24, some (.slice none 0 0)) := by kernel_rfl
theorem F9m : (Tryz.prog.info? 117).map (fun i => (i.size, i.bytes, i.zero)) = some (1, 24, some (.slice none 0 0)) := by kernel_rfl
theorem F9l : (Tryz.prog.info? 126).map (fun i => (i.size, i.bytes, i.zero)) = some (1, 8, some (.nilFunc)) := by kernel_rfl
theorem F9k : (Tryz.prog.info? 133).map (fun i => (i.size, i.bytes, i.zero)) = some (1, 8, some (.nilFunc)) := by kernel_rfl
theorem F9j : (Tryz.prog.info? 136).map (fun i => (i.size, i.bytes, i.zero)) = some (2, 16, some (.agg #[.int .i64 0, .int .i64 0])) := by kernel_rfl
theorem F9i : (Tryz.prog.info? 137).map (fun i => (i.size, i.bytes, i.zero)) = some (2, 16, some (.agg #[.int .i64 0, .int .i64 0])) := by kernel_rfl
theorem F9h : (Tryz.prog.info? 138).map (fun i => (i.size, i.bytes, i.zero)) = some (1, 8, some (.nilFunc)) := by kernel_rfl
theorem F9g : (Tryz.prog.info? 139).map (fun i => (i.size, i.bytes, i.zero)) = some (1, 8, some (.nilFunc)) := by kernel_rfl
theorem F9f : (Tryz.prog.info? 146).map (fun i => (i.size, i.bytes, i.zero)) = some (1, 8, some (.int .u64 0)) := by kernel_rfl
theorem F9e : (Tryz.prog.info? 148).map (fun i => (i.size, i.bytes, i.zero)) = some (1, 8, some (.nilFunc)) := by kernel_rfl
theorem F9d : (Tryz.prog.info? 151).map (fun i => (i.size, i.bytes, i.zero)) = some (1, 8, some (.nilFunc)) := by kernel_rfl
theorem F9c : (Tryz.prog.info? 157).map (fun i => (i.size, i.bytes, i.zero)) = some (1, 8, some (.nilFunc)) := by kernel_rfl
theorem F9b : (Tryz.prog.info? 159).map (fun i => (i.size, i.bytes, i.zero)) = some (1, 8, some (.nilFunc)) := by kernel_rfl
theorem F9a : (Tryz.prog.info? 165).map (fun i => (i.size, i.bytes, i.zero)) = some (1, 8, some (.nilFunc)) := by kernel_rfl
theorem F8z : (Tryz.prog.info? 167).map (fun i => (i.size, i.bytes, i.zero)) = some (1, 8, some (.nilFunc)) := by kernel_rfl
theorem F8y : (Tryz.prog.info? 168).map (fun i => (i.size, i.bytes, i.zero)) = some (1, 8, some (.nilFunc)) := by kernel_rfl
theorem F8x : (Tryz.prog.info? 174).map (fun i => (i.size, i.bytes, i.zero)) = some (1, 8, some (.map none)) := by kernel_rfl
theorem F8w : (Tryz.prog.info? 177).map (fun i => (i.size, i.bytes, i.zero)) = some (1, 8, some (.nilFunc)) := by kernel_rfl
theorem F8v : (Tryz.prog.info? 181).map (fun i => (i.size, i.bytes, i.zero)) = some (1, 24, some (.slice none 0 0)) := by kernel_rfl
theorem F8u : (Tryz.prog.info? 195).map (fun i => (i.size, i.bytes, i.zero)) = some (1, 8, some (.int .u64 0)) := by kernel_rfl
theorem F8t : (Tryz.prog.info? 196).map (fun i => (i.size, i.bytes, i.zero)) = some (29, 232, some (.agg #[.int .i64 0, .int .i64 0, .int .i64 0, .int .i64 0, .int .i64 0, .int .i64 0, .int .i64 0, .int .i64 0, .int .i64 0, .int .i64 0, .int .i64 0, .int .i64 0, .int .i64 0, .int .i64 0, .int .i64 0, .int .i64 0, .int .i64 0, .int .i64 0, .int .i64 0, .int .i64 0, .int .i64 0, .int .i64 0, .int .i64 0, .int .i64 0, .int .i64 0, .int .i64 0, .int .i64 0, .int .i64 0, .int .i64 0])) := by kernel_rfl
theorem F8s : (Tryz.prog.info? 202).map (fun i => (i.size, i.bytes, i.zero)) = some (32, 32, some (.agg #[.int .u8 0, .int .u8 0, .int .u8 0, .int .u8 0, .int .u8 0, .int .u8 0, .int .u8 0, .int .u8 0, .int .u8 0, .int .u8 0, .int .u8 0, .int .u8 0, .int .u8 0, .int .u8 0, .int .u8 0, .int .u8 0, .int .u8 0, .int .u8 0, .int .u8 0, .int .u8 0, .int .u8 0, .int .u8 0, .int .u8 0, .int .u8 0, .int .u8 0, .int .u8 0, .int .u8 0, .int .u8 0, .int .u8 0, .int .u8 0, .int .u8 0, .int .u8 0])) := by kernel_rfl
theorem F8r : (Tryz.prog.info? 204).map (fun i => (i.size, i.bytes, i.zero)) = some (1, 8, some (.int .i64 0)) := by kernel_rfl
theorem F8q : (Tryz.prog.info? 215).map (fun i => (i.size, i.bytes, i.zero)) = some (1, 8, some (.nilFunc)) := by kernel_rfl
theorem F8p : (Tryz.prog.info? 216).map (fun i => (i.size, i.bytes, i.zero)) = some (1, 8, some (.nilFunc)) := by kernel_rfl
theorem F8o : (Tryz.prog.info? 217).map (fun i => (i.size, i.bytes, i.zero)) = some (1, 8, some (.pointer none)) := by kernel_rfl
theorem F8n : (Tryz.prog.info? 233).map (fun i => (i.size, i.bytes, i.zero)) = some (1, 8, some (.pointer none)) := by kernel_rfl
theorem A1h {t s b : Nat} {z : Value} (h : (Tryz.prog.info? t).map (fun i => (i.size, i.bytes, i.zero)) = some (s, b, some z)) : ∃ i, Tryz.prog.info? t = some i ∧ i.size = s ∧ i.bytes = b ∧ i.zero = some z := by
 obtain ⟨i, h1, h2⟩ := Option.map_eq_some_iff.1 h
 simp only [Prod.mk.injEq] at h2
 exact ⟨i, h1, h2.1, h2.2.1, h2.2.2⟩
theorem F2k : ∀ t d, G0x t = some d → Tryz.prog.underlying t = some d := by
 intro t d h
 unfold G0x at h
 split at h
 ·cases h; exact Tryz.underlying1
 ·cases h; exact Tryz.underlying2
 ·cases h; exact Tryz.underlying3
 ·cases h; exact Tryz.underlying4
 ·cases h; exact Tryz.underlying5
 ·cases h; exact Tryz.underlying9
 ·cases h; exact Tryz.underlying12
 ·cases h; exact Tryz.underlying20
 ·cases h; exact Tryz.underlying21
 ·cases h; exact Tryz.underlying22
 ·cases h; exact Tryz.underlying23
 ·cases h; exact Tryz.underlying24
 ·cases h; exact Tryz.underlying25
 ·cases h; exact Tryz.underlying26
 ·cases h; exact Tryz.underlying28
 ·cases h; exact Tryz.underlying30
 ·cases h; exact Tryz.underlying31
 ·cases h; exact Tryz.underlying32
 ·cases h; exact Tryz.underlying33
 ·cases h; exact Tryz.underlying36
 ·cases h; exact Tryz.underlying37
 ·cases h; exact Tryz.underlying39
 ·cases h; exact Tryz.underlying41
 ·cases h; exact Tryz.underlying42
 ·cases h; exact Tryz.underlying43
 ·cases h; exact Tryz.underlying53
 ·cases h; exact Tryz.underlying54
 ·cases h; exact Tryz.underlying63
 ·cases h; exact Tryz.underlying103
 ·cases h; exact Tryz.underlying104
 ·cases h; exact Tryz.underlying108
 ·cases h; exact Tryz.underlying116
 ·cases h; exact Tryz.underlying117
 ·cases h; exact Tryz.underlying126
 ·cases h; exact Tryz.underlying133
 ·cases h; exact Tryz.underlying138
 ·cases h; exact Tryz.underlying139
 ·cases h; exact Tryz.underlying146
 ·cases h; exact Tryz.underlying148
 ·cases h; exact Tryz.underlying151
 ·cases h; exact Tryz.underlying157
 ·cases h; exact Tryz.underlying159
 ·cases h; exact Tryz.underlying165
 ·cases h; exact Tryz.underlying167
 ·cases h; exact Tryz.underlying168
 ·cases h; exact Tryz.underlying174
 ·cases h; exact Tryz.underlying177
 ·cases h; exact Tryz.underlying181
 ·cases h; exact Tryz.underlying195
 ·cases h; exact Tryz.underlying196
 ·cases h; exact Tryz.underlying202
 ·cases h; exact Tryz.underlying204
 ·cases h; exact Tryz.underlying215
 ·cases h; exact Tryz.underlying216
 ·cases h; exact Tryz.underlying217
 ·cases h; exact Tryz.underlying233
 ·cases h
theorem F2l : ∀ t s b z, G0y t = some (s, b, z) → ∃ i, Tryz.prog.info? t = some i ∧ i.size = s ∧ i.bytes = b ∧ i.zero = some z := by
 intro t s b z h
 unfold G0y at h
 split at h
 ·cases h; exact A1h G4z
 ·cases h; exact A1h G4y
 ·cases h; exact A1h G4x
 ·cases h; exact A1h G4w
 ·cases h; exact A1h G4v
 ·cases h; exact A1h G4u
 ·cases h; exact A1h G3v
 ·cases h; exact A1h G3u
 ·cases h; exact A1h G3t
 ·cases h; exact A1h G3s
 ·cases h; exact A1h G3r
 ·cases h; exact A1h G3q
 ·cases h; exact A1h G3p
 ·cases h; exact A1h G3o
 ·cases h; exact A1h G3n
 ·cases h; exact A1h G3m
 ·cases h; exact A1h G3l
 ·cases h; exact A1h G3k
 ·cases h; exact A1h G3j
 ·cases h; exact A1h G3i
 ·cases h; exact A1h G3h
 ·cases h; exact A1h G3g
 ·cases h; exact A1h G3f
 ·cases h; exact A1h G3e
 ·cases h; exact A1h G3d
 ·cases h; exact A1h G3c
 ·cases h; exact A1h G3b
 ·cases h; exact A1h G3a
 ·cases h; exact A1h G2z
 ·cases h; exact A1h G2y
 ·cases h; exact A1h G2x
 ·cases h; exact A1h G2w
 ·cases h; exact A1h G2v
 ·cases h; exact A1h G2u
 ·cases h; exact A1h G2t
 ·cases h; exact A1h G2s
 ·cases h; exact A1h F9t
 ·cases h; exact A1h F9s
 ·cases h; exact A1h F9r
 ·cases h; exact A1h F9q
 ·cases h; exact A1h F9p
 ·cases h; exact A1h F9o
 ·cases h; exact A1h F9n
 ·cases h; exact A1h F9m
 ·cases h; exact A1h F9l
 ·cases h; exact A1h F9k
 ·cases h; exact A1h F9j
 ·cases h; exact A1h F9i
 ·cases h; exact A1h F9h
 ·cases h; exact A1h F9g
 ·cases h; exact A1h F9f
 ·cases h; exact A1h F9e
 ·cases h; exact A1h F9d
 ·cases h; exact A1h F9c
 ·cases h; exact A1h F9b
 ·cases h; exact A1h F9a
 ·cases h; exact A1h F8z
 ·cases h; exact A1h F8y
 ·cases h; exact A1h F8x
 ·cases h; exact A1h F8w
 ·cases h; exact A1h F8v
 ·cases h; exact A1h F8u
 ·cases h; exact A1h F8t
 ·cases h; exact A1h F8s
 ·cases h; exact A1h F8r
 ·cases h; exact A1h F8q
 ·cases h; exact A1h F8p
 ·cases h; exact A1h F8o
 ·cases h; exact A1h F8n
 ·cases h
theorem G2r : ∃ fs, Tryz.prog.underlying 34 = some (.struct fs) ∧ fs.toList.mapM (fun f => (Tryz.prog.info? f.type).map fun i => (f.offset, i.size)) = some [(0, 1), (1, 1), (2, 1), (3, 1), (4, 1), (5, 1)] := ⟨_, Tryz.underlying34, by kernel_rfl⟩
theorem G2q : ∃ fs, Tryz.prog.underlying 35 = some (.struct fs) ∧ fs.toList.mapM (fun f => (Tryz.prog.info? f.type).map fun i => (f.offset, i.size)) = some [(0, 1), (1, 1), (2, 1), (3, 1), (4, 1), (5, 1)] := ⟨_, Tryz.underlying35, by kernel_rfl⟩
theorem G2p : ∃ fs, Tryz.prog.underlying 44 = some (.struct fs) ∧ fs.toList.mapM (fun f => (Tryz.prog.info? f.type).map fun i => (f.offset, i.size)) = some [(0, 1), (1, 1)] := ⟨_, Tryz.underlying44, by kernel_rfl⟩
theorem G2o : ∃ fs, Tryz.prog.underlying 45 = some (.struct fs) ∧ fs.toList.mapM (fun f => (Tryz.prog.info? f.type).map fun i => (f.offset, i.size)) = some [(0, 1), (1, 1)] := ⟨_, Tryz.underlying45, by kernel_rfl⟩
theorem G2n : ∃ fs, Tryz.prog.underlying 46 = some (.struct fs) ∧ fs.toList.mapM (fun f => (Tryz.prog.info? f.type).map fun i => (f.offset, i.size)) = some [(0, 1), (1, 1)] := ⟨_, Tryz.underlying46, by kernel_rfl⟩
theorem G2m : ∃ fs, Tryz.prog.underlying 47 = some (.struct fs) ∧ fs.toList.mapM (fun f => (Tryz.prog.info? f.type).map fun i => (f.offset, i.size)) = some [(0, 1), (1, 1)] := ⟨_, Tryz.underlying47, by kernel_rfl⟩
theorem G2l : ∃ fs, Tryz.prog.underlying 67 = some (.struct fs) ∧ fs.toList.mapM (fun f => (Tryz.prog.info? f.type).map fun i => (f.offset, i.size)) = some [(0, 1), (1, 1)] := ⟨_, Tryz.underlying67, by kernel_rfl⟩
theorem G2k : ∃ fs, Tryz.prog.underlying 68 = some (.struct fs) ∧ fs.toList.mapM (fun f => (Tryz.prog.info? f.type).map fun i => (f.offset, i.size)) = some [(0, 1), (1, 1)] := ⟨_, Tryz.underlying68, by kernel_rfl⟩
theorem G2j : ∃ fs, Tryz.prog.underlying 71 = some (.struct fs) ∧ fs.toList.mapM (fun f => (Tryz.prog.info? f.type).map fun i => (f.offset, i.size)) = some [(0, 1), (1, 1)] := ⟨_, Tryz.underlying71, by kernel_rfl⟩
theorem F8k : ∃ fs, Tryz.prog.underlying 105 = some (.struct fs) ∧ fs.toList.mapM (fun f => (Tryz.prog.info? f.type).map fun i => (f.offset, i.size)) = some [(0, 1), (1, 1)] := ⟨_, Tryz.underlying105, by kernel_rfl⟩
theorem F8j : ∃ fs, Tryz.prog.underlying 106 = some (.struct fs) ∧ fs.toList.mapM (fun f => (Tryz.prog.info? f.type).map fun i => (f.offset, i.size)) = some [(0, 1), (1, 1)] := ⟨_, Tryz.underlying106, by kernel_rfl⟩
theorem F8i : ∃ fs, Tryz.prog.underlying 115 = some (.struct fs) ∧ fs.toList.mapM (fun f => (Tryz.prog.info? f.type).map fun i => (f.offset, i.size)) = some [(0, 1), (1, 1)] := ⟨_, Tryz.underlying115, by kernel_rfl⟩
theorem F8h : ∃ fs, Tryz.prog.underlying 136 = some (.struct fs) ∧ fs.toList.mapM (fun f => (Tryz.prog.info? f.type).map fun i => (f.offset, i.size)) = some [(0, 1), (1, 1)] := ⟨_, Tryz.underlying136, by kernel_rfl⟩
theorem F8g : ∃ fs, Tryz.prog.underlying 137 = some (.struct fs) ∧ fs.toList.mapM (fun f => (Tryz.prog.info? f.type).map fun i => (f.offset, i.size)) = some [(0, 1), (1, 1)] := ⟨_, Tryz.underlying137, by kernel_rfl⟩
theorem E0z : ∀ t l, F5l t = some l → ∃ fs, Tryz.prog.underlying t = some (.struct fs) ∧ fs.toList.mapM (fun f => (Tryz.prog.info? f.type).map fun i => (f.offset, i.size)) = some l := by
 intro t l h
 unfold F5l at h
 split at h
 ·cases h; exact G2r
 ·cases h; exact G2q
 ·cases h; exact G2p
 ·cases h; exact G2o
 ·cases h; exact G2n
 ·cases h; exact G2m
 ·cases h; exact G2l
 ·cases h; exact G2k
 ·cases h; exact G2j
 ·cases h; exact F8k
 ·cases h; exact F8j
 ·cases h; exact F8i
 ·cases h; exact F8h
 ·cases h; exact F8g
 ·cases h
theorem E6x : ∀ t l, F5l t = some l → l.all (fun x => x.2 != 0) = true := by
 intro t l h
 unfold F5l at h
 split at h
 ·cases h; rfl
 ·cases h; rfl
 ·cases h; rfl
 ·cases h; rfl
 ·cases h; rfl
 ·cases h; rfl
 ·cases h; rfl
 ·cases h; rfl
 ·cases h; rfl
 ·cases h; rfl
 ·cases h; rfl
 ·cases h; rfl
 ·cases h; rfl
 ·cases h; rfl
 ·cases h
theorem D6e {P : Program} : ∀ (fs : List Field) (l : List (Nat × Nat)), fs.mapM (fun f => (P.info? f.type).map fun i => (f.offset, i.size)) = some l → ∀ (j : Nat) (x : Nat × Nat), l[j]? = some x → ∃ fl i, fs[j]? = some fl ∧ P.info? fl.type = some i ∧ fl.offset = x.1 ∧ i.size = x.2
 | [], l, h, j, x, hx => by simp at h; subst h; simp at hx
 | f :: fs, l, h, j, x, hx => by
  simp only [List.mapM_cons, Option.bind_eq_bind, Option.pure_def] at h
  cases hi : P.info? f.type with
  | none => simp [hi] at h
  | some i =>
   cases hr : fs.mapM (fun f => (P.info? f.type).map fun i => (f.offset, i.size)) with
   | none => simp [hi, hr] at h
   | some rest =>
    simp [hi, hr] at h
    subst h
    cases j with
    | zero => simp at hx; subst hx; exact ⟨f, i, rfl, hi, rfl, rfl⟩
    | succ j => simpa using D6e fs rest hr j x (by simpa using hx)
theorem F2m : ∀ t j o, G0z t j = some o → ∃ fs fl i, Tryz.prog.underlying t = some (.struct fs) ∧ fs[j]? = some fl ∧ fl.offset = o ∧ Tryz.prog.info? fl.type = some i ∧ i.size ≠ 0 := by
 intro t j o h
 unfold G0z at h
 obtain ⟨l, h1, h2⟩ := Option.bind_eq_some_iff.1 h
 obtain ⟨x, h3, rfl⟩ := Option.map_eq_some_iff.1 h2
 obtain ⟨fs, h4, h5⟩ := E0z t l h1
 obtain ⟨fl, i, h6, h7, h8, h9⟩ := D6e fs.toList l h5 j x h3
 refine ⟨fs, fl, i, h4, by simpa using h6, h8, h7, ?_⟩
 have := List.all_eq_true.1 (E6x t l h1) x (List.mem_of_getElem? h3)
 rw [h9]
 simpa using this
theorem G5b (a b c d : Int) (w : World) : (Op.equalIn 10000 45 (.agg #[.int .u32 a, .int .u32 b]) (.agg #[.int .u32 c, .int .u32 d])).run Tryz.prog w = .ok (a == c && b == d) w := by
 have u := Tryz.underlying43
 have hS : Tryz.prog.underlying 45 = some (.struct (Tryz.prog.fieldsOf 45)) := by kernel_rfl
 have hp : Tryz.prog.stoodInHeld 45 = false := by kernel_rfl
 obtain ⟨i, h1, h2⟩ : ∃ i, Tryz.prog.info? 43 = some i ∧ i.size = 1 := by
  obtain ⟨i, h1, h2⟩ := Option.map_eq_some_iff.1 (show (Tryz.prog.info? 43).map (fun i => i.size) = some 1 by kernel_rfl)
  exact ⟨i, h1, h2⟩
 have hz : ∀ w, (sizeOf 43).run Tryz.prog w = .ok 1 w := fun w => by simp [sizeOf, typeInfo, h1, h2]
 rw [show (10000 : Nat) = 9999 + 1 from rfl, run_equalIn_agg w 9999 45 _ _ hS hp]
 simp only [Program.fieldsOf, Tryz.underlying45]
 have hA : ∀ w, (isAgg 43).run Tryz.prog w = .ok false w := fun w => by simp [isAgg, run_underlying u]
 have e : ∀ (a c : Int) (w : World), (Op.equalIn 9999 43 (.int .u32 a) (.int .u32 c)).run Tryz.prog w = .ok (a == c) w := fun a c w => run_equalIn_int w 9998 43 .u32 .u32 a c u
 simp [Op.eqFields, part, hA, hz, e]
 by_cases h1 : a = c <;> by_cases h2 : b = d <;> simp [h1, h2]
instance : Go.Hy.Tab Tryz.prog := ⟨G0x, F2k, G0y, F2l, G0z, F2m, F5l, E0z, by kernel_rfl, 45, G5b, by kernel_rfl⟩
noncomputable def fC' : Array Field := match Tryz.prog.underlying 45 with | some (.struct fs) => fs | _ => #[]
noncomputable def fT' : Array Field := match Tryz.prog.underlying 35 with | some (.struct fs) => fs | _ => #[]
noncomputable def fB' : Array Field := match Tryz.prog.underlying 47 with | some (.struct fs) => fs | _ => #[]
noncomputable instance : Go.Hy.TyF Tryz.prog := { tI := 3, tS := 9, tU := 43, tC := 45, tT := 35, tB := 47, lC := 25, lT := 33, lB := 22, fC := fC', fT := fT', fB := fB', uI := Tryz.underlying3, uS := Tryz.underlying9, uU := Tryz.underlying43, uC := by kernel_rfl, uT := by kernel_rfl, uB := by kernel_rfl, ulC := Tryz.underlying25, ulT := Tryz.underlying33, ulB := Tryz.underlying22, pC := by kernel_rfl, pT := by kernel_rfl, pB := by kernel_rfl, c1 := ⟨by kernel_rfl, by kernel_rfl, by kernel_rfl, by kernel_rfl, by kernel_rfl, by kernel_rfl⟩, c2 := ⟨by kernel_rfl, by kernel_rfl, by kernel_rfl⟩, b2 := ⟨by kernel_rfl, by kernel_rfl, by kernel_rfl⟩ }
theorem laid' : laidOutB Tryz.prog = true := by kernel_rfl
noncomputable instance : Go.Hy.TabM Tryz.prog := { law := deep_law_laid laid' (m := 3) (by omega) (of_decide_eq_true (by kernel_rfl)) (by kernel_rfl) (by kernel_rfl), kt := by kernel_rfl, names := by kernel_rfl, npos := of_decide_eq_true (by kernel_rfl) }
end Go.Proofs.YtpfjlbopkhdebaaGreatDoor.Hy
namespace Go.Hy
theorem size_pos' (t : T) : 1 ≤ size t := by
 rw [size_eq]
 have : ∀ (l : List Part) (a : Nat), a ≤ l.foldl (fun a p => a + size p.1) a := by
  intro l
  induction l with
  | nil => intro a; exact Nat.le_refl _
  | cons p l ih => intro a; exact Nat.le_trans (Nat.le_add_right _ _) (ih _)
 exact this _ _
end Go.Hy
namespace Go.Hy
theorem B7c (k i : Int) : 0 ≤ (binds k i).1 ∧ (binds k i).1 ≤ 1 ∧ 0 ≤ (binds k i).2 ∧ (binds k i).2 ≤ 1 := by
 unfold binds
 repeat (first | split | (refine ⟨?_, ?_, ?_, ?_⟩ <;> simp))
theorem D5m {t : T} {p : Part} (h : p ∈ parts t) : 0 ≤ p.2.1 ∧ p.2.1 ≤ 1 ∧ 0 ≤ p.2.2 ∧ p.2.2 ≤ 1 := by
 unfold parts at h
 rcases List.mem_append.mp h with h | h
 ·have : ∀ (ks : List T) (i : Nat), p ∈ A4g t.kind i ks → 0 ≤ p.2.1 ∧ p.2.1 ≤ 1 ∧ 0 ≤ p.2.2 ∧ p.2.2 ≤ 1 := by
   intro ks
   induction ks with
   | nil => intro i h; simp [A4g] at h
   | cons k ks ih =>
    intro i h
    rcases List.mem_cons.mp h with e | h
    ·subst e; exact B7c _ _
    ·exact ih _ h
  exact this _ _ h
 ·have : ∀ (bs : List Br), p ∈ A3f t.kind bs → 0 ≤ p.2.1 ∧ p.2.1 ≤ 1 ∧ 0 ≤ p.2.2 ∧ p.2.2 ≤ 1 := by
   intro bs
   induction bs with
   | nil => intro h; simp [A3f] at h
   | cons b bs ih =>
    intro h
    rcases List.mem_append.mp h with h | h
    ·obtain ⟨k, _, e⟩ := List.mem_map.mp h
     subst e
     show 0 ≤ (0 : Int) ∧ (0 : Int) ≤ 1 ∧ 0 ≤ more t.kind ∧ more t.kind ≤ 1
     unfold more
     split <;> omega
    ·exact ih h
  exact this _ h
theorem B1c {t : T} {p : Part} (h : p ∈ parts t) : size p.1 < size t := by
 obtain ⟨m, hm, e⟩ := List.mem_iff_getElem.mp h
 have h1 := B0p (t := t) (m := m) (p := p) (by rw [List.getElem?_eq_getElem hm, e])
 have h2 : 1 ≤ A2h t m := by
  unfold A2h B4o
  have : ∀ (l : List Part) (a : Nat), a ≤ l.foldl (fun a p => a + size p.1) a := by
   intro l
   induction l with
   | nil => intro a; exact Nat.le_refl _
   | cons p l ih => intro a; exact Nat.le_trans (Nat.le_add_right _ _) (ih _)
  exact this _ _
 omega
end Go.Hy
namespace Go.Hy
@[simp] theorem qE_def (q : QP) : qE q = RT q.1.1 q.1.2.1 q.1.2.2.1 q.1.2.2.2 := rfl
@[simp] theorem ipE_def (q : IP) : ipE q = IL q.1 q.2 := rfl
end Go.Hy
namespace Go.Hy
section
variable {α : Type} {B : A6n} {Γ : List Fact} {Ms : List Res} {w : World} {E : α → Fact} {l : List α}
end
end Go.Hy
namespace Go.Hy
theorem B5s {t : T} (h : A2p t = 0) : size t ≤ 20000 := by
 unfold A2p at h
 split at h
 ·rename_i hs; exact absurd h hs
 ·rename_i hs
  simp only [ne_eq, Decidable.not_not, sized] at hs
  split at hs
  ·cases hs
  ·split at hs
   ·cases hs
   ·omega
end Go.Hy
namespace Go.Hy
/-! Wrappers of rules for rows of whole numbers of the call's own (printed by a program of this repository). -/
section
variable {tn : Bool} {pn : Nat} {P : Program} [Tab P] {f : FuncId} {R : Ending → World → Prop} {B : A6n} {n : Fz} {K : List Item} {ops : Array Oper} {i : Nat} {l fin : List Nat} {σ : Nat → Value} {Γ : List Fact} {Ms Ms2 : List Res}
variable {dst : Option Tmp} {op : Op} {ty : TypeId} {pos : String} {after : Array Edge} {v : Value} {x y z : Operand}
theorem F7o {t e : TypeId} {d : TypeDesc} {g i' n' : Nat} {a : SH} {ls : List Int} (k_ : RgT P f R B n K ops l (A1u σ dst (.int .i64 (ls.getD i' 0))) Γ Ms) (hx : ev σ x = .pointer (some ⟨g, 0 + i' * 1, none⟩) := by exact wn_) (hma : A1q 1 e a n' (A4a ls) ∈ Ms ∧ a.1 = some ⟨g, 0, none⟩ := by exact ma1_) (hu : Tab.und P t = some d := by rfl) (hd' : (match d with | .struct _ | .array _ _ => true | _ => false) = false := by rfl) (hlt : i' < ls.length := by first | omega | (simp only [List.length_map, List.length_set]; omega) | (simp; omega)) (hd : A0s n dst = true := by rfl) : OpT P f R B n K ops l (opr dst (.load t x) ty) σ Γ Ms := A8b (F7y (F := B0f) B3k 0 hx hma.1 hma.2 hu hd' hlt rfl) hd k_
theorem G1n {t e : TypeId} {bt g i' n' : Nat} {a : SH} {zv : Value} {ls : List Int} (u : Int) (k_ : RgT P f R B n K ops l σ Γ (A1q 1 e a n' (A4a (ls.set i' u)) :: Ms2)) (hx : ev σ x = .pointer (some ⟨g, 0 + i' * 1, none⟩) := by exact wn_) (hm : Ms.Perm (A1q 1 e a n' (A4a ls) :: Ms2) := by first | exact C6e | exact A0x | exact A4n | exact A6i | exact A5b | exact A5a | exact A3p | exact B2f | exact B3e) (ha : a.1 = some ⟨g, 0, none⟩ := by assumption) (hn : n' = ls.length := by first | rfl | omega | (simp; done) | (simp; omega)) (hy : (ev σ y).cells = (B0f u).toArray := by exact wn_) (hi : Tab.inf P t = some (1, bt, zv) := by rfl) (hlt : i' < ls.length := by first | omega | (simp only [List.length_map, List.length_set]; omega) | (simp; omega)) : OpT P f R B n K ops l (opr none (.store t x y) ty) σ Γ Ms := B9t (F2n (F := B0f) B3k u hx hm ha hn hy hi rfl hlt) k_
end
end Go.Hy
namespace Go.Hy
/-! A call of a closure among operations of any order. -/
section
variable {tn : Bool} {pn : Nat} {P : Program} [Tab P] {f : FuncId} {R : Ending → World → Prop} {B : A6n} {n : Fz} {K : List Item} {ops : Array Oper} {i : Nat} {l fin : List Nat} {σ : Nat → Value} {Γ : List Fact} {Ms Ms2 : List Res}
variable {dst : Option Tmp} {ty : TypeId}
theorem F2i {c : FuncId} {args cap al : List Value} {av : Array Operand} {ts : Array TypeId} {g : Operand} {pre : List Fact} {X : Type} {val : X → Value} {N : X → List Fact} {Ms1 : X → List Res}
  (hc : ∀ (args : Array Value) (w : World), (callFunc c args).run P w = .ok (.enter c args) w) (hsp : Spec P c al.toArray pre [] val N Ms1) (kk : ∀ x, NV tn pn P f R B n K ops fin l (A1u σ dst (val x)) (N x ++ Γ) (Ms1 x ++ Ms))
  (hg : ev σ g = .func (.func c) #[] cap.toArray := by rfl) (ha : av.toList.map (ev σ) = args := by rfl) (hal : args ++ cap = al := by rfl) (hpre : ∀ F, F ∈ pre → F ∈ Γ := by first | (simp; done) | (simp +contextual; done)) (hd : A0s n dst = true := by rfl) : NvT tn pn P f R B n K ops fin i l dst (.call { callee := .value g, args := av, argTypes := ts }) ty σ Γ Ms :=
 E4c (F1y hg ha hc) (hal ▸ hsp) hpre rfl rfl hd kk
end
end Go.Hy
/-
 DERIVED: THE SHELF's CONTRACTS AT THIS DUMP, IN PLAIN WORDS (tools/lay-plain.mjs out of 'TryzSort.lean', which tools/lay-shelf.mjs wrote): THE SAME DECLARATIONS UNDER THE SAME NAMES: 'import', 'namespace', 'open', 'def', 'theorem' AND NOTHING ELSE: no command of the shelf's: FOR A HAND-IN. Each laying: the table of numbers ('.._ren') and one theorem, a field a fact of the dump's own or the kernel's comparison; each contract: ONE APPLICATION.
-/
namespace Go.Proofs
open Go.Shelf
def Tryz.C0r : Go.Shelf.Ren := ⟨fun | 6 => 170 | 15 => 222 | 14 => 221 | 28 => 245 | 29 => 246 | 20 => 237 | 21 => 238 | 22 => 239 | 23 => 240 | 24 => 241 | 25 => 242 | 26 => 243 | 27 => 244 | 46 => 257 | 47 => 258 | 48 => 259 | 49 => 260 | 50 => 261 | 57 => 264 | n => n, fun | 22 => 25 | 24 => 45 | 25 => 177 | 3 => 3 | 39 => 146 | 0 => 0 | 53 => 43 | 55 => 195 | 4 => 4 | 46 => 205 | 45 => 204 | 50 => 209 | 5 => 5 | 9 => 9 | 66 => 213 | 70 => 217 | 76 => 220 | 77 => 163 | n => n, fun | n => n⟩
theorem Tryz.F6h : Go.Proofs.SlLaysF0.n6 Tryz.prog Tryz.C0r := {
 mixed := by kernel_rfl
 f6 := ⟨Tryz.f170.name, by decide, Tryz.func170.trans (congrArg some (by kernel_rfl))⟩
 f14 := ⟨Tryz.f221.name, by decide, Tryz.func221.trans (congrArg some (by kernel_rfl))⟩
 f15 := Tryz.func222.trans (congrArg some (by kernel_rfl))
 f20 := ⟨Tryz.f237.name, by decide, Tryz.func237.trans (congrArg some (by kernel_rfl))⟩
 f21 := ⟨Tryz.f238.name, by decide, Tryz.func238.trans (congrArg some (by kernel_rfl))⟩
 f22 := ⟨Tryz.f239.name, by decide, Tryz.func239.trans (congrArg some (by kernel_rfl))⟩
 f23 := ⟨Tryz.f240.name, by decide, Tryz.func240.trans (congrArg some (by kernel_rfl))⟩
 f24 := ⟨Tryz.f241.name, by decide, Tryz.func241.trans (congrArg some (by kernel_rfl))⟩
 f25 := ⟨Tryz.f242.name, by decide, Tryz.func242.trans (congrArg some (by kernel_rfl))⟩
 f26 := ⟨Tryz.f243.name, by decide, Tryz.func243.trans (congrArg some (by kernel_rfl))⟩
 f27 := ⟨Tryz.f244.name, by decide, Tryz.func244.trans (congrArg some (by kernel_rfl))⟩
 f28 := Tryz.func245.trans (congrArg some (by kernel_rfl))
 f29 := Tryz.func246.trans (congrArg some (by kernel_rfl))
 f46 := ⟨Tryz.f257.name, by decide, Tryz.func257.trans (congrArg some (by kernel_rfl))⟩
 f47 := Tryz.func258.trans (congrArg some (by kernel_rfl))
 f48 := Tryz.func259.trans (congrArg some (by kernel_rfl))
 f49 := ⟨Tryz.f260.name, by decide, Tryz.func260.trans (congrArg some (by kernel_rfl))⟩
 f50 := ⟨Tryz.f261.name, by decide, Tryz.func261.trans (congrArg some (by kernel_rfl))⟩
 f57 := ⟨Tryz.f264.name, by decide, Tryz.func264.trans (congrArg some (by kernel_rfl))⟩
 t0 := Tryz.underlying0
 a0 := Tryz.isAgg0
 z0 := Tryz.sizeOf0
 v0 := Tryz.zeroValue0
 t3 := Tryz.underlying3
 a3 := Tryz.isAgg3
 z3 := Tryz.sizeOf3
 v3 := Tryz.zeroValue3
 t4 := Tryz.underlying4
 a4 := Tryz.isAgg4
 z4 := Tryz.sizeOf4
 v4 := Tryz.zeroValue4
 t5 := Tryz.underlying5
 a5 := Tryz.isAgg5
 z5 := Tryz.sizeOf5
 v5 := Tryz.zeroValue5
 t9 := Tryz.underlying9
 a9 := Tryz.isAgg9
 z9 := Tryz.sizeOf9
 v9 := Tryz.zeroValue9
 t22 := Tryz.underlying25
 a22 := Tryz.isAgg25
 z22 := Tryz.sizeOf25
 v22 := Tryz.zeroValue25
 t25 := Tryz.underlying177
 a25 := Tryz.isAgg177
 z25 := Tryz.sizeOf177
 v25 := Tryz.zeroValue177
 t39 := Tryz.underlying146
 a39 := Tryz.isAgg146
 z39 := Tryz.sizeOf146
 v39 := Tryz.zeroValue146
 t45 := Tryz.underlying204
 a45 := Tryz.isAgg204
 z45 := Tryz.sizeOf204
 v45 := Tryz.zeroValue204
 t46 := Tryz.underlying205
 a46 := Tryz.isAgg205
 z46 := Tryz.sizeOf205
 v46 := Tryz.zeroValue205
 t50 := Tryz.underlying209
 a50 := Tryz.isAgg209
 z50 := Tryz.sizeOf209
 v50 := Tryz.zeroValue209
 t53 := Tryz.underlying43
 a53 := Tryz.isAgg43
 z53 := Tryz.sizeOf43
 v53 := Tryz.zeroValue43
 t55 := Tryz.underlying195
 a55 := Tryz.isAgg195
 z55 := Tryz.sizeOf195
 v55 := Tryz.zeroValue195
 t66 := Tryz.underlying213
 a66 := Tryz.isAgg213
 z66 := Tryz.sizeOf213
 v66 := Tryz.zeroValue213
 t70 := Tryz.underlying217
 a70 := Tryz.isAgg217
 z70 := Tryz.sizeOf217
 v70 := Tryz.zeroValue217
 t76 := Tryz.underlying220
 a76 := Tryz.isAgg220
 z76 := Tryz.sizeOf220
 v76 := Tryz.zeroValue220
 t77 := Tryz.underlying163
 a77 := Tryz.isAgg163
 z77 := Tryz.sizeOf163
 v77 := Tryz.zeroValue163 }
end Go.Proofs
