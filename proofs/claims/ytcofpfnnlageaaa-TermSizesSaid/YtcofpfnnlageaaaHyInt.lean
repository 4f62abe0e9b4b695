/- Contracts of functions of this program, one theorem each (printed by a program of this repository). -/
import Derived.Test.YtcofpfnnlageaaaHyAuto
namespace Go.Hy
set_option linter.unusedVariables false
set_option linter.unusedSimpArgs false
set_option linter.unusedSectionVars false
set_option linter.unusedVariables false
set_option linter.unusedSimpArgs false
/-! ### More places of what is owned -/
theorem perm7 {a b c d e f g m : Res} {L : List Res} : (a :: b :: c :: d :: e :: f :: g :: m :: L).Perm (m :: a :: b :: c :: d :: e :: f :: g :: L) := (perm6.cons a).trans perm1
theorem perm8 {a b c d e f g h m : Res} {L : List Res} : (a :: b :: c :: d :: e :: f :: g :: h :: m :: L).Perm (m :: a :: b :: c :: d :: e :: f :: g :: h :: L) := (perm7.cons a).trans perm1
theorem perm9 {a b c d e f g h i m : Res} {L : List Res} : (a :: b :: c :: d :: e :: f :: g :: h :: i :: m :: L).Perm (m :: a :: b :: c :: d :: e :: f :: g :: h :: i :: L) := (perm8.cons a).trans perm1
theorem perm10 {a b c d e f g h i j m : Res} {L : List Res} : (a :: b :: c :: d :: e :: f :: g :: h :: i :: j :: m :: L).Perm (m :: a :: b :: c :: d :: e :: f :: g :: h :: i :: j :: L) := (perm9.cons a).trans perm1
theorem perm11 {a b c d e f g h i j k m : Res} {L : List Res} : (a :: b :: c :: d :: e :: f :: g :: h :: i :: j :: k :: m :: L).Perm (m :: a :: b :: c :: d :: e :: f :: g :: h :: i :: j :: k :: L) := (perm10.cons a).trans perm1
/-! ### Lists of whole numbers -/
def intCells (x : Int) : List Value := [.int .i64 x]
abbrev intFlat (l : List Int) : List Value := l.flatMap intCells
theorem intCells_len (x : Int) : (intCells x).length = 1 := rfl
def intsAt (ok : Nat → Prop) (l : List Int) (a : SH) (w : World) : Prop := rowAt ok 1 8 l.length a (fun i => intCells (l.getD i 0)) w ∧ ∀ x, x ∈ l → in64 x
def IL (l : List Int) (a : SH) : Fact := ⟨fun ok w => intsAt ok l a w, fun _ _ _ hs h => ⟨h.1.mono hs, h.2⟩, fun _ _ _ h hs => ⟨h.1.loc hs, h.2⟩⟩
section
variable {B : Base} {Γ : List Fact} {Ms : List Res} {w : World}
theorem St.settleIL {e : TypeId} {a : SH} {n : Nat} {xs : List Value} {l : List Int} (hs : St B Γ (rowS 1 e a n xs :: Ms) w) (hB : ∀ b, B.S0 b ↔ domAll [] b) (hx : xs = intFlat l) (hn : n = l.length) (hb : n * 8 ≤ reach) (hu : ∀ c, c ∈ l → in64 c) : St B (IL l a :: Γ) Ms w := by
  subst hx
  subst hn
  refine hs.settle0 hB (fun ok hok hh => ⟨?_, hu⟩)
  exact own_rowAt (F := intCells) intCells_len 0 (hh : World.ownsRow _ _ _ _ _ _ _) rfl hb hok
theorem St.nilIL (c : Nat) (hs : St B Γ Ms w) : St B (IL [] (Option.none, c) :: Γ) Ms w := hs.add ⟨⟨Nat.zero_le _, by simp, fun h => absurd h (by simp)⟩, fun c hc => by cases hc⟩
theorem St.snocC {e : TypeId} {a : SH} {n : Nat} {l : List Cl} {c : Cl} (hs : St B Γ (rowS 2 e a n (clFlat l ++ clCells c) :: Ms) w) : St B Γ (rowS 2 e a n (clFlat (l ++ [c])) :: Ms) w := by
  have h : clFlat (l ++ [c]) = clFlat l ++ clCells c := by simp [clFlat]
  rw [h]; exact hs
theorem St.snocI {e : TypeId} {a : SH} {n : Nat} {l : List Int} {c : Int} (hs : St B Γ (rowS 1 e a n (intFlat l ++ [.int .i64 c]) :: Ms) w) : St B Γ (rowS 1 e a n (intFlat (l ++ [c])) :: Ms) w := by
  have h : intFlat (l ++ [c]) = intFlat l ++ [.int .i64 c] := by simp [intFlat, intCells]
  rw [h]; exact hs
theorem St.snocT {e : TypeId} {a : SH} {n : Nat} {l : List TP} {t : T} {vr vk vs : SH} (hs : St B Γ (rowS 6 e a n (tpFlat l ++ tc t vr vk vs) :: Ms) w) : St B Γ (rowS 6 e a n (tpFlat (l ++ [(t, vr, vk, vs)])) :: Ms) w := by
  have h : tpFlat (l ++ [(t, vr, vk, vs)]) = tpFlat l ++ tc t vr vk vs := by simp [tpFlat, tpCells]
  rw [h]; exact hs
theorem St.snocB {e : TypeId} {a : SH} {n : Nat} {l : List BP} {b : Br} {vf vk : SH} (hs : St B Γ (rowS 2 e a n (bpFlat l ++ bc b vf vk) :: Ms) w) : St B Γ (rowS 2 e a n (bpFlat (l ++ [(b, vf, vk)])) :: Ms) w := by
  have h : bpFlat (l ++ [(b, vf, vk)]) = bpFlat l ++ bc b vf vk := by simp [bpFlat, bpCells]
  rw [h]; exact hs
theorem St.appFlatC {e : TypeId} {a : SH} {n : Nat} {l m : List Cl} (hs : St B Γ (rowS 2 e a n (clFlat l ++ clFlat m) :: Ms) w) : St B Γ (rowS 2 e a n (clFlat (l ++ m)) :: Ms) w := by
  have h : clFlat (l ++ m) = clFlat l ++ clFlat m := by simp [clFlat]
  rw [h]; exact hs
/-- What a list of whole numbers is, laid open. -/
theorem St.openIL {l : List Int} {a : SH} (hs : St B Γ Ms w) (hF : IL l a ∈ Γ) : l.length * 8 ≤ reach ∧ (0 < l.length → ∃ b o, a.1 = some ⟨b, o, Option.none⟩) ∧ ∀ c, c ∈ l → in64 c := by
  obtain ⟨h2, h4⟩ := hs.facts _ hF
  exact ⟨h2.2.1, fun hn => by obtain ⟨b, o, h3, _⟩ := h2.2.2 hn; exact ⟨b, o, h3⟩, h4⟩
end
section
variable {P : Program} {f : FuncId} {R : Ending → World → Prop} {B : Base} {n : Nat} {todo : List Item} {σ : Nat → Value} {Γ : List Fact} {Ms : List Res}
theorem go_openIL {l : List Int} {a : SH} (k : l.length * 8 ≤ reach → (0 < l.length → ∃ b o, a.1 = some ⟨b, o, none⟩) → (∀ c, c ∈ l → in64 c) → GoT P f R B n todo σ Γ Ms) (hF : IL l a ∈ Γ := by repeat (first | exact List.mem_cons_self | apply List.mem_cons_of_mem)) : GoT P f R B n todo σ Γ Ms :=
  go_know (p := l.length * 8 ≤ reach ∧ (0 < l.length → ∃ b o, a.1 = some ⟨b, o, none⟩) ∧ ∀ c, c ∈ l → in64 c) (fun w hs => hs.openIL hF) (fun h => k h.1 h.2.1 h.2.2)
/-- Two ways that meet; what each of them shows stays known. -/
theorem go_cutP {K : List Item} {it : Item} (p : Prop) (live : List (Nat × Value)) (h1 : (p → ∀ σ', LiveL σ' live → GoT P f R B n K σ' Γ Ms) → GoT P f R B n (it :: K) σ Γ Ms) (h2 : p → ∀ base, GoT P f R B n K (stL base live) Γ Ms) : GoT P f R B n (it :: K) σ Γ Ms :=
  h1 (fun hp σ' hl => go_slots live hl (h2 hp))
/-- A loop that keeps what is known: 'E x' adds what is known of the state x. -/
theorem go_loopE {K : List Item} {c : Code} {X : Type} (Inv : X → Prop) (live : X → List (Nat × Value)) (E : X → List Fact → List Fact) (Mf : X → List Res) (μ : X → Nat) (x0 : X) (h0 : Inv x0)
    (hl : LiveL σ (live x0)) (hΓ : ∀ w, St B Γ Ms w → St B (E x0 Γ) (Mf x0) w)
    (round : ∀ x base, Inv x → (∀ x' σ', Inv x' → μ x' < μ x → LiveL σ' (live x') → GoT P f R B n (.inLoop c :: K) σ' (E x' Γ) (Mf x')) →
      GoT P f R B n (.code c :: .inLoop c :: K) (stL base (live x)) (E x Γ) (Mf x)) :
    GoT P f R B n (.code (.loop c) :: K) σ Γ Ms := go_loopI Inv live (fun x => E x Γ) Mf μ x0 h0 hl hΓ round
/-- Something that holds of each state there is. -/
theorem rg_know {K : List Item} {ops : Array Oper} {l : List Nat} {p : Prop} (h : ∀ w, St B Γ Ms w → p) (k : p → RgT P f R B n K ops l σ Γ Ms) : RgT P f R B n K ops l σ Γ Ms := fun a w hr hs => k (h w hs) a w hr hs
theorem nv_know {tn : Bool} {K : List Item} {ops : Array Oper} {l fin : List Nat} {p : Prop} (h : ∀ w, St B Γ Ms w → p) (k : p → NV tn P f R B n K ops fin l σ Γ Ms) : NV tn P f R B n K ops fin l σ Γ Ms := by
  by_cases hex : ∃ w, St B Γ Ms w
  · obtain ⟨w, hw⟩ := hex
    exact k (h w hw)
  · exact .no hex
end
/-- What is owned, otherwise said, in a region that draws. -/
theorem NV.conv {tn : Bool} {P : Program} {f : FuncId} {R : Ending → World → Prop} {B : Base} {n : Nat} {K : List Item} {ops : Array Oper} {l fin : List Nat} {σ : Nat → Value} {Γ : List Fact} {Ms' : List Res} (h : NV tn P f R B n K ops fin l σ Γ Ms') :
    ∀ {Ms : List Res}, (∀ Γ M w, St B Γ (M ++ Ms) w → St B Γ (M ++ Ms') w) → NV tn P f R B n K ops fin l σ Γ Ms := by
  induction h with
  | done h => exact fun hc => .done (fun a w hr hs => h a w hr (hc _ [] w hs))
  | no h => exact fun hc => .no (fun ⟨w, hw⟩ => h ⟨w, hc _ [] w hw⟩)
  | pure ho hw hd h k ih => exact fun hc => .pure ho hw hd h (ih hc)
  | load ht ho hm hw hd h k ih => exact fun hc => .load ht ho hm hw hd (fun w hs => h w (hc _ [] w hs)) (ih hc)
  | off ho hw hd k ih => exact fun hc => .off ho hw hd (ih hc)
  | alloc ho hg hw hd h k ih => exact fun hc => .alloc ho hg hw hd h (fun b => ih b (fun Γ M w hs => by
      have := hc Γ (M ++ [boxR b _ _]) w (by simpa using hs)
      simpa using this))
  | call ht ho hg hm hw hd he hsp hpre k ih => exact fun hc => .call ht ho hg hm hw hd he hsp hpre (fun x => ih x (fun Γ M w hs => by
      have := hc Γ (M ++ _) w (by simpa using hs)
      simpa using this))
  | loadF ho hm hw hd h k ih => exact fun hc => .loadF ho hm hw hd h (ih hc)
  | @turn i l o X val r r' σ Γ Ms0 Ms2 ht ho hb hw hd hp h k ih =>
    intro Ms hc
    refine NV.turn (r := Ms) (r' := fun x => r' x ++ Ms2) (Ms2 := []) ht ho hb hw hd (by rw [List.append_nil]) (fun M w hs => ?_) (fun x => by rw [List.append_nil]; exact k x)
    have h0 : St B Γ (M ++ Ms0) w := hc _ M w (hs.perm List.perm_append_comm)
    have h1 : St B Γ (r ++ (Ms2 ++ M)) w := by
      rw [← List.append_assoc]
      exact h0.perm (List.perm_append_comm.trans (hp.append_right M))
    obtain ⟨x, w', h2, h3⟩ := h (Ms2 ++ M) w h1
    exact ⟨x, w', h2, by rw [List.append_assoc]; exact h3⟩
theorem nv_conv {tn : Bool} {P : Program} {f : FuncId} {R : Ending → World → Prop} {B : Base} {n : Nat} {K : List Item} {ops : Array Oper} {l fin : List Nat} {σ : Nat → Value} {Γ : List Fact} {Ms : List Res} (A A' : List Res) (hc : ∀ Γ L w, St B Γ (A ++ L) w → St B Γ (A' ++ L) w) (h : NV tn P f R B n K ops fin l σ Γ (A' ++ Ms)) : NV tn P f R B n K ops fin l σ Γ (A ++ Ms) :=
  h.conv (fun Γ M w hs => by
    have h1 := hc Γ (Ms ++ M) w (by simpa using hs.perm List.perm_append_comm)
    have h2 : St B Γ ((A' ++ Ms) ++ M) w := by simpa using h1
    exact h2.perm List.perm_append_comm)
section
variable {P : Program} [Tab P] {B : Base} {σ : Nat → Value} {Γ : List Fact} {Ms : List Res} {ty : TypeId} {x y : Operand} {k : IntKind} {a : Int} {v : Value}
theorem le_int {t : TypeId} {d : TypeDesc} {bk o i : Nat} {a : SH} {l : List Int} (hx : ev σ x = .pointer (some ⟨bk, o + i * 1, none⟩)) (hF : IL l a ∈ Γ) (ha : a.1 = some ⟨bk, o, none⟩) (hu : Tab.und P t = some d) (hd : (match d with | .struct _ | .array _ _ => true | _ => false) = false) (hlt : i < l.length) :
    LoadE P B σ Γ Ms (.load t x) ty (.int .i64 (l.getD i 0)) := fun w hs => by
  have h3 := (row_cells (hs.facts _ hF).1 ha hlt).2 0 (.int .i64 (l.getD i 0)) rfl
  rw [Nat.add_zero] at h3
  have h4 := run_loadVar_one (P := P) hu hd h3
  generalize hv : l.getD i 0 = u at h4 ⊢
  simp only [opr, execOp, hx, Instr.loadAt, Instr.sureAddr]
  rw [Nat.mul_one] at h4 ⊢
  simp [h4]
theorem pe_convUI {s d : TypeId} {a : Nat} (hs : Tab.und P s = some (.int .u32)) (hd : Tab.und P d = some (.int .i64)) (hx : ev σ x = .int .u32 (a : Int)) (ha : a < 4294967296) : PureE P σ (.convert s d x) ty (.int .i64 (a : Int)) := by
  have e : IntKind.i64.wrap (a : Int) = (a : Int) := by rw [IntKind.wrap_i64]; omega
  have := pe_convert (P := P) (ty := ty) hs hd hx
  rwa [e] at this
theorem pe_convII {s d : TypeId} {a : Int} (hs : Tab.und P s = some (.int .i64)) (hd : Tab.und P d = some (.int .i64)) (hx : ev σ x = .int .i64 a) (ha : in64 a) : PureE P σ (.convert s d x) ty (.int .i64 a) := by
  have e : IntKind.i64.wrap a = a := by rw [IntKind.wrap_i64]; unfold in64 at ha; omega
  have := pe_convert (P := P) (ty := ty) hs hd hx
  rwa [e] at this
theorem pe_convIU {s d : TypeId} {a : Nat} (hs : Tab.und P s = some (.int .i64)) (hd : Tab.und P d = some (.int .u32)) (hx : ev σ x = .int .i64 (a : Int)) (ha : a < 4294967296) : PureE P σ (.convert s d x) ty (.int .u32 (a : Int)) := by
  have e : IntKind.u32.wrap (a : Int) = (a : Int) := by
    have : IntKind.u32.wrap (a : Int) = (a : Int) % 4294967296 := by simp [IntKind.wrap, IntKind.bits, IntKind.signed]
    rw [this]; omega
  have := pe_convert (P := P) (ty := ty) hs hd hx
  rwa [e] at this
theorem pe_pickB {z : Operand} {c a b : Bool} (hz : ev σ z = .bool c) (hx : ev σ x = .bool a) (hy : ev σ y = .bool b) : PureE P σ (.pick z x y) ty (.bool (bif c then a else b)) := by
  cases c
  · exact pe_pickF hz hy
  · exact pe_pickT hz hx
theorem pe_pickC {z : Operand} {c : Bool} (hz : ev σ z = .bool c) (hx : ev σ x = .bool true) (hy : ev σ y = .bool false) : PureE P σ (.pick z x y) ty (.bool c) := by
  have := pe_pickB (P := P) (ty := ty) hz hx hy
  rwa [show (bif c then true else false) = c by cases c <;> rfl] at this
theorem pe_pickA {z : Operand} {c a : Bool} (hz : ev σ z = .bool c) (hx : ev σ x = .bool a) (hy : ev σ y = .bool false) : PureE P σ (.pick z x y) ty (.bool (c && a)) := by
  have := pe_pickB (P := P) (ty := ty) hz hx hy
  rwa [show (bif c then a else false) = (c && a) by cases c <;> rfl] at this
theorem pe_pickO {z : Operand} {c b : Bool} (hz : ev σ z = .bool c) (hx : ev σ x = .bool true) (hy : ev σ y = .bool b) : PureE P σ (.pick z x y) ty (.bool (c || b)) := by
  have := pe_pickB (P := P) (ty := ty) hz hx hy
  rwa [show (bif c then true else b) = (c || b) by cases c <;> rfl] at this
theorem run_eqB {t : TypeId} {c d : Bool} (hu : Tab.und P t = some .bool) (w : World) : (Op.equal t (.bool c) (.bool d)).run P w = .ok (c == d) w := by
  have h1 : (Op.equalIn (9999 + 1) t (.bool c) (.bool d)).run P w = .ok (c == d) w := by
    unfold Op.equalIn
    rw [bind_ok (run_und0 hu w)]
    rfl
  exact h1
theorem pe_eqB {t t' : TypeId} {c d : Bool} (hx : ev σ x = .bool c) (hy : ev σ y = .bool d) (hu : Tab.und P t = some .bool) : PureE P σ (.binOp .eql t x y t') ty (.bool (c == d)) := run_bin hx hy (fun w => rfl) (fun w => by
  simp only [binOp]
  rw [bind_ok (run_eqB hu w)]; rfl)
theorem pe_neB {t t' : TypeId} {c d : Bool} (hx : ev σ x = .bool c) (hy : ev σ y = .bool d) (hu : Tab.und P t = some .bool) : PureE P σ (.binOp .neq t x y t') ty (.bool (c != d)) := run_bin hx hy (fun w => rfl) (fun w => by
  simp only [binOp]
  rw [bind_ok (run_eqB hu w)]; rfl)
/-- To a number without a sign, as a number of places. -/
theorem pe_convI6 {s d : TypeId} {a : Int} {m : Nat} (hs : Tab.und P s = some (.int .i64)) (hd : Tab.und P d = some (.int .u64)) (hx : ev σ x = .int .i64 a) (ha : a = (m : Int)) (hm : m < 18446744073709551616) : PureE P σ (.convert s d x) ty (.int .u64 (m : Int)) := by
  have e : IntKind.u64.wrap a = (m : Int) := by
    have : IntKind.u64.wrap a = a % 18446744073709551616 := by simp [IntKind.wrap, IntKind.bits, IntKind.signed]
    rw [this]; omega
  have := pe_convert (P := P) (ty := ty) hs hd hx
  rwa [e] at this
end
end Go.Hy
namespace Go.Hy
set_option linter.unusedVariables false
set_option linter.unusedSimpArgs false
set_option linter.unusedSectionVars false
/-! ### Parts of slices -/
def dropSH (a : SH) (sz k : Nat) : SH := (if a.2 = k then a.1 else a.1.map (·.add (k * sz)), a.2 - k)
section
variable {P : Program} [Tab P] {B : Base} {σ : Nat → Value} {Γ : List Fact} {Ms : List Res} {ty : TypeId} {x y : Operand}
theorem pe_sliceHi {t e : TypeId} {s bt m c k : Nat} {zv : Value} {A : Option Addr} (hu : Tab.und P t = some (.slice e)) (hi : Tab.inf P e = some (s, bt, zv)) (hx : ev σ x = .slice A m c) (hy : ev σ y = .int .i64 (k : Int)) (hk : k ≤ c) : PureE P σ (.slice t x none (some y) none) ty (.slice A k c) := fun w => by
  have h0 : ∀ a : Option Addr, (a.map fun b : Addr => b.add 0) = a := fun a => by cases a <;> simp [Addr.add_zero']
  simp [opr, execOp, hx, hy, Instr.sliceAt, Instr.slice, Instr.sliceBounds, Instr.sliceBound, asIntOf, run_und0 hu, hk, run_size0 hi, h0]
theorem pe_sliceLo {t e : TypeId} {s bt m k : Nat} {zv : Value} {a : SH} (hu : Tab.und P t = some (.slice e)) (hi : Tab.inf P e = some (s, bt, zv)) (hx : ev σ x = sl a m) (hy : ev σ y = .int .i64 (k : Int)) (hk : k ≤ m) : PureE P σ (.slice t x (some y) none none) ty (sl (dropSH a s k) (m - k)) := fun w => by
  have hx' : ev σ x = .slice a.1 m a.2 := hx
  simp [opr, execOp, hx', hy, Instr.sliceAt, Instr.slice, Instr.sliceBounds, Instr.sliceBound, asIntOf, run_und0 hu, hk, run_size0 hi, sl, dropSH]
end
theorem rowAt_take {ok : Nat → Prop} {sz bt n k : Nat} {a : SH} {E : Nat → List Value} {w : World} (h : rowAt ok sz bt n a E w) (hk : k ≤ n) : rowAt ok sz bt k a E w :=
  ⟨Nat.le_trans hk h.1, Nat.le_trans (Nat.mul_le_mul_right bt hk) h.2.1, fun h0 => by
    obtain ⟨b, o, h1, h2, h3⟩ := h.2.2 (by omega)
    exact ⟨b, o, h1, h2, fun i hi => h3 i (by omega)⟩⟩
theorem rowAt_drop {ok : Nat → Prop} {sz bt n k : Nat} {a : SH} {E : Nat → List Value} {w : World} (h : rowAt ok sz bt n a E w) (hk : k ≤ n) : rowAt ok sz bt (n - k) (dropSH a sz k) (fun i => E (i + k)) w := by
  refine ⟨Nat.sub_le_sub_right h.1 k, Nat.le_trans (Nat.mul_le_mul_right bt (Nat.sub_le n k)) h.2.1, fun h0 => ?_⟩
  obtain ⟨b, o, h1, h2, h3⟩ := h.2.2 (by omega)
  have hne : a.2 ≠ k := by have := h.1; omega
  refine ⟨b, o + k * sz, by simp [dropSH, hne, h1, Addr.add_lit], h2, fun i hi j v hv => ?_⟩
  have := h3 (i + k) (by omega) j v hv
  rwa [show o + k * sz + i * sz + j = o + (i + k) * sz + j by rw [Nat.add_mul]; omega]
theorem rowAt_congr {ok : Nat → Prop} {sz bt n : Nat} {a : SH} {E E' : Nat → List Value} {w : World} (h : rowAt ok sz bt n a E w) (he : ∀ i, i < n → E i = E' i) : rowAt ok sz bt n a E' w :=
  ⟨h.1, h.2.1, fun h0 => by
    obtain ⟨b, o, h1, h2, h3⟩ := h.2.2 h0
    exact ⟨b, o, h1, h2, fun i hi => by rw [← he i hi]; exact h3 i hi⟩⟩
theorem getD_take' {α : Type} {d : α} {l : List α} {k i : Nat} (h : i < k) : (l.take k).getD i d = l.getD i d := by
  simp [List.getD_eq_getElem?_getD, h]
theorem getD_drop' {α : Type} {d : α} {l : List α} {k i : Nat} : (l.drop k).getD i d = l.getD (i + k) d := by
  simp [List.getD_eq_getElem?_getD, Nat.add_comm]
section
variable {B : Base} {Γ : List Fact} {Ms : List Res} {w : World}
theorem St.takeCL {l : List Cl} {a : SH} (k : Nat) (hs : St B Γ Ms w) (hF : CL l a ∈ Γ) (hk : k ≤ l.length) : St B (CL (l.take k) a :: Γ) Ms w := by
  obtain ⟨h2, h4⟩ := hs.facts _ hF
  refine hs.add ⟨?_, fun c hc => h4 c (List.mem_of_mem_take hc)⟩
  have e : (l.take k).length = k := by simp; omega
  rw [e]
  exact rowAt_congr (rowAt_take h2 hk) (fun i hi => by rw [getD_take' hi])
theorem St.dropCL {l : List Cl} {a : SH} (k : Nat) (hs : St B Γ Ms w) (hF : CL l a ∈ Γ) (hk : k ≤ l.length) : St B (CL (l.drop k) (dropSH a 2 k) :: Γ) Ms w := by
  obtain ⟨h2, h4⟩ := hs.facts _ hF
  refine hs.add ⟨?_, fun c hc => h4 c (List.mem_of_mem_drop hc)⟩
  rw [List.length_drop]
  exact rowAt_congr (rowAt_drop h2 hk) (fun i hi => by rw [getD_drop'])
theorem St.capCL {l : List Cl} {a : SH} (hs : St B Γ Ms w) (hF : CL l a ∈ Γ) : l.length ≤ a.2 := (hs.facts _ hF).1.1
end
end Go.Hy
namespace Go.Hy
set_option linter.unusedVariables false
set_option linter.unusedSimpArgs false
set_option linter.unusedSectionVars false
/-! ### Numbers of 64 bits without a sign -/
section
variable {P : Program} [Tab P] {σ : Nat → Value} {ty : TypeId} {x y : Operand}
theorem wrap64u (n : Int) : IntKind.u64.wrap n = n % 18446744073709551616 := by simp [IntKind.wrap, IntKind.bits, IntKind.signed]
theorem pe_shl6 {t t' : TypeId} {k2 : IntKind} {a m : Nat} (hx : ev σ x = .int .u64 (a : Int)) (hy : ev σ y = .int k2 (m : Int)) (hm : m ≤ 64) (hb : a * 2 ^ m < 18446744073709551616) : PureE P σ (.binOp .shl t x y t') ty (.int .u64 ((a * 2 ^ m : Nat) : Int)) :=
  run_bin hx hy (fun w => eqGuard_int w) (fun w => by
    have e : IntKind.u64.wrap ((a : Int) * 2 ^ min (m : Int).toNat 64) = ((a * 2 ^ m : Nat) : Int) := by
      rw [wrap64u, Int.toNat_natCast, Nat.min_eq_left hm]
      have : ((a : Int) * 2 ^ m) = ((a * 2 ^ m : Nat) : Int) := by rw [Int.natCast_mul, Int.natCast_pow]; rfl
      rw [this]; omega
    have h0 : ¬ ((m : Int) < 0) := by omega
    simp only [binOp, Op.shift, if_neg h0]
    show Result.ok (Value.int .u64 (IntKind.u64.wrap ((a : Int) * 2 ^ min (m : Int).toNat 64))) w = _
    rw [e])
theorem pe_sub6 {t t' : TypeId} {a b : Nat} (hx : ev σ x = .int .u64 (a : Int)) (hy : ev σ y = .int .u64 (b : Int)) (h : b ≤ a) (ha : a < 18446744073709551616) : PureE P σ (.binOp .sub t x y t') ty (.int .u64 ((a - b : Nat) : Int)) :=
  run_bin hx hy (fun w => eqGuard_int w) (fun w => by
    have e : IntKind.u64.wrap ((a : Int) - (b : Int)) = ((a - b : Nat) : Int) := by rw [wrap64u]; omega
    simp only [binOp, Op.intArith, ne_eq, not_true, if_false]
    show Result.ok (Value.int .u64 (IntKind.u64.wrap ((a : Int) - (b : Int)))) w = _
    rw [e])
theorem pe_conv6U {s d : TypeId} {a : Nat} (hs : Tab.und P s = some (.int .u64)) (hd : Tab.und P d = some (.int .u32)) (hx : ev σ x = .int .u64 (a : Int)) (ha : a < 4294967296) : PureE P σ (.convert s d x) ty (.int .u32 (a : Int)) := by
  have e : IntKind.u32.wrap (a : Int) = (a : Int) := by rw [wrapu]; omega
  have := pe_convert (P := P) (ty := ty) hs hd hx
  rwa [e] at this
end
end Go.Hy
namespace Go.Hy
set_option linter.unusedVariables false
set_option linter.unusedSimpArgs false
set_option linter.unusedSectionVars false
/-- A whole number as one without a sign. -/
def umod (m : Int) : Nat := (m % 18446744073709551616).toNat
section
variable {P : Program} [Tab P] {σ : Nat → Value} {ty : TypeId} {x y : Operand}
theorem pe_convI6M {s d : TypeId} {a : Int} (hs : Tab.und P s = some (.int .i64)) (hd : Tab.und P d = some (.int .u64)) (hx : ev σ x = .int .i64 a) : PureE P σ (.convert s d x) ty (.int .u64 ((umod a : Nat) : Int)) := by
  have e : IntKind.u64.wrap a = ((umod a : Nat) : Int) := by rw [wrap64u]; unfold umod; omega
  have := pe_convert (P := P) (ty := ty) hs hd hx
  rwa [e] at this
theorem pe_conv6I {s d : TypeId} {a : Nat} (hs : Tab.und P s = some (.int .u64)) (hd : Tab.und P d = some (.int .i64)) (hx : ev σ x = .int .u64 (a : Int)) (ha : a < 9223372036854775808) : PureE P σ (.convert s d x) ty (.int .i64 (a : Int)) := by
  have e : IntKind.i64.wrap (a : Int) = (a : Int) := by rw [IntKind.wrap_i64]; omega
  have := pe_convert (P := P) (ty := ty) hs hd hx
  rwa [e] at this
theorem pe_rem6 {t t' : TypeId} {a b : Nat} (hx : ev σ x = .int .u64 (a : Int)) (hy : ev σ y = .int .u64 (b : Int)) (hb : 0 < b) (ha : a < 18446744073709551616) : PureE P σ (.binOp .rem t x y t') ty (.int .u64 ((a % b : Nat) : Int)) :=
  run_bin hx hy (fun w => eqGuard_int w) (fun w => by
    have h0 : ¬ ((b : Int) = 0) := by omega
    have hle : a % b ≤ a := Nat.mod_le a b
    have e : (a : Int).tmod (b : Int) = ((a % b : Nat) : Int) := by rw [Int.ofNat_tmod]
    simp only [binOp, Op.intDiv, ne_eq, not_true, if_false, if_neg h0]
    rw [e]; rfl)
end
theorem umod_lt (m : Int) : umod m < 18446744073709551616 := by unfold umod; omega
end Go.Hy
