/- Contracts of this program's functions and the laws that they need: a separation logic over the machine's rules, one theorem each (partly printed by a program of this repository). -/
import Derived.Shelf.SlSortCmp.WholeK
import Derived.Shelf.SlGeneric
import Derived.Ground.SlsfProg
import Derived.Test.YtceegbilhbhibaaProg
import Derived.Tactics2
import Derived.Test.YtceegbilhbhibaaP3
import Derived.Test.YtceegbilhbhibaaP4
import Derived.Test.YtceegbilhbhibaaP5
namespace Go.Hy
set_option linter.unusedVariables false
set_option linter.unusedSimpArgs false
set_option linter.unusedSectionVars false
set_option linter.unusedVariables false
set_option linter.unusedSimpArgs false
/-! ### Lifting: masks, clauses, formulas -/
def maskLift (s : Nat) (f b : Int) : Int × Nat :=
  if f < 0 ∨ b < 0 then (2, 0) else
  if andNot32 (s &&& 16777215) (2 ^ (min f.toNat 24) - 1) = 0 then (0, (s &&& 16777215) &&& (2 ^ (min f.toNat 24) - 1)) else
  if 24 ≤ b ∨ 16777215 < andNot32 (s &&& 16777215) (2 ^ (min f.toNat 24) - 1) * 2 ^ b.toNat then (10, 0) else
  (0, ((s &&& 16777215) &&& (2 ^ (min f.toNat 24) - 1)) ||| (andNot32 (s &&& 16777215) (2 ^ (min f.toNat 24) - 1) * 2 ^ b.toNat))
theorem andNot32_bit (a b i : Nat) : (andNot32 a b).testBit i = (decide (i < 32) && a.testBit i && !b.testBit i) := by
  unfold andNot32
  rw [BitVec.testBit_toNat]
  by_cases h : i < 32
  · rw [BitVec.getLsbD_and, BitVec.getLsbD_not, BitVec.getLsbD_ofNat, BitVec.getLsbD_ofNat]
    simp [h]
  · have : (BitVec.ofNat 32 a &&& ~~~BitVec.ofNat 32 b).getLsbD i = false := BitVec.getLsbD_of_ge _ _ (by omega)
    rw [this]; simp [h]
theorem and24_bit (s i : Nat) : (s &&& 16777215).testBit i = (decide (i < 24) && s.testBit i) := by
  rw [and24, Nat.testBit_mod_two_pow]
theorem mask_bit (m i : Nat) : (2 ^ m - 1).testBit i = decide (i < m) := Nat.testBit_two_pow_sub_one m i
theorem andNot_lt {q m : Nat} (h : q < 16777216) : andNot32 q m < 16777216 := by
  refine Nat.lt_pow_two_of_testBit (n := 24) _ (fun i hi => ?_)
  rw [andNot32_bit, Nat.testBit_lt_two_pow (x := q) (Nat.lt_of_lt_of_le h (Nat.pow_le_pow_right (n := 2) (by decide) hi))]
  simp
theorem maskLift_lt (s : Nat) (f b : Int) : (maskLift s f b).2 < 16777216 := by
  unfold maskLift
  split
  · decide
  · split
    · exact Nat.lt_of_le_of_lt Nat.and_le_left (and24_lt s)
    · split
      · decide
      · refine Nat.or_lt_two_pow (n := 24) ?_ ?_
        · exact Nat.lt_of_le_of_lt Nat.and_le_left (and24_lt s)
        · rename_i h; simp only [not_or] at h; have := h.2; omega
def clLift (c : Cl) (f b : Int) : Int × Cl :=
  if right24 c = false then (2, cl0) else
  if (maskLift c.pos f b).1 ≠ 0 then ((maskLift c.pos f b).1, cl0) else
  if (maskLift c.neg f b).1 ≠ 0 then ((maskLift c.neg f b).1, cl0) else
  (0, ⟨(maskLift c.pos f b).2, (maskLift c.neg f b).2⟩)
theorem clLift_u32 (c : Cl) (f b : Int) : u32 (clLift c f b).2 := by
  have h1 := maskLift_lt c.pos f b
  have h2 := maskLift_lt c.neg f b
  unfold clLift
  split
  · exact ⟨(by decide : (0 : Nat) < 4294967296), (by decide : (0 : Nat) < 4294967296)⟩
  · split
    · exact ⟨(by decide : (0 : Nat) < 4294967296), (by decide : (0 : Nat) < 4294967296)⟩
    · split
      · exact ⟨(by decide : (0 : Nat) < 4294967296), (by decide : (0 : Nat) < 4294967296)⟩
      · exact ⟨by show (maskLift c.pos f b).2 < _; omega, by show (maskLift c.neg f b).2 < _; omega⟩
/-! Formulas, clause by clause. -/
def foldC (g : Cl → Int × Cl) (l : List Cl) : Int × List Cl := match l.find? (fun c => (g c).1 ≠ 0) with
  | some c => ((g c).1, [])
  | none => (0, l.map fun c => (g c).2)
theorem foldC_bad {g : Cl → Int × Cl} {l : List Cl} {i : Nat} (hi : i < l.length) (h0 : ∀ j, j < i → (g (l.getD j cl0)).1 = 0) (h : (g (l.getD i cl0)).1 ≠ 0) : foldC g l = ((g (l.getD i cl0)).1, []) := by
  have : l.find? (fun c => (g c).1 ≠ 0) = some (l.getD i cl0) := by
    rw [List.find?_eq_some_iff_getElem]
    rw [getD_get (d := cl0) hi] at h ⊢
    refine ⟨by simpa using h, i, hi, rfl, fun j hj => ?_⟩
    have := h0 j hj
    rw [getD_get (d := cl0) (by omega)] at this
    simp [this]
  rw [foldC, this]
theorem foldC_ok {g : Cl → Int × Cl} {l : List Cl} (h0 : ∀ j, j < l.length → (g (l.getD j cl0)).1 = 0) : foldC g l = (0, l.map fun c => (g c).2) := by
  have : l.find? (fun c => (g c).1 ≠ 0) = none := by
    rw [List.find?_eq_none]
    intro x hx
    obtain ⟨j, hj, e⟩ := List.mem_iff_getElem.mp hx
    have := h0 j hj
    rw [getD_get (d := cl0) hj, e] at this
    simp [this]
  rw [foldC, this]
theorem foldC_iff {g : Cl → Int × Cl} {l : List Cl} : (foldC g l).1 = 0 ↔ ∀ c, c ∈ l → (g c).1 = 0 := by
  unfold foldC
  cases h : l.find? (fun c => (g c).1 ≠ 0) with
  | none =>
    rw [List.find?_eq_none] at h
    simp only [true_iff]
    intro c hc
    simpa using h c hc
  | some c =>
    have h1 := List.find?_some h
    have h2 := List.mem_of_find?_eq_some h
    simp only
    refine ⟨fun h3 => ?_, fun h3 => h3 c h2⟩
    simp at h1; exact absurd h3 h1
theorem foldC_map {g : Cl → Int × Cl} {l : List Cl} (h : (foldC g l).1 = 0) : foldC g l = (0, l.map fun c => (g c).2) :=
  foldC_ok fun j hj => foldC_iff.mp h _ (getD_mem hj)
theorem leastF_fRight {l : List Cl} : fRight l = true ↔ leastF l = (0, l) := by
  rw [← leastF_right, Bool.and_eq_true, decide_eq_true_eq, decide_eq_true_eq]
  constructor
  · rintro ⟨h1, h2⟩; exact Prod.ext h1 h2
  · intro h; rw [h]; exact ⟨rfl, rfl⟩
def formLift (l : List Cl) (f b : Int) : Int × List Cl :=
  if fRight l = false then (2, []) else
  if (foldC (fun c => clLift c f b) l).1 ≠ 0 then ((foldC (fun c => clLift c f b) l).1, []) else leastF (foldC (fun c => clLift c f b) l).2
def rowLift (by_ : Int) (l : List Cl) (f : Int) : Res1 (List Cl) :=
  if by_ = 0 ∨ 24 ≤ f then .ok l else if (formLift l f by_).1 = 0 then .ok (formLift l f by_).2 else .bad (formLift l f by_).1
/-! ### Terms -/
def liftTr (vb db : Int) : Tr (Int × Int) where
  own c k n _ r := (rowLift db r c.2).bind fun r' => if k = 1 ∧ c.1 ≤ n then (if 1000000000 - vb < n then .bad 100 else .ok (.inr (n + vb, r'))) else .ok (.inr (n, r'))
  face c f := (rowLift db f c.2).bind fun f' => .ok (some f')
  kid c b := .ok (c.1 + b.1, c.2 + b.2)
section
variable {C : Type} {A : Tr C} {t : T} {c : C} {e : Int}
theorem trav_own_bad (h : A.own c t.kind t.n t.name t.r = .bad e) : trav A t c = .bad e := by rw [trav_eq, h]; rfl
theorem trav_kid_bad {p : Int × List Cl} {i : Nat} {l : List T} (h : A.own c t.kind t.n t.name t.r = .ok (.inr p)) (hi : i < t.kids.length) (hl : travL A t.kind 0 (t.kids.take i) c = .ok l) {c' : C} (hc : A.kid c (binds t.kind i) = .ok c') (hb : trav A (t.kids.getD i t0) c' = .bad e) : trav A t c = .bad e := by
  have h1 : travL A t.kind 0 (t.kids.take (i + 1)) c = .bad e := by
    rw [take_succ_getD (d := t0) hi, travL_snoc, hl]
    simp only [Res1.bind, List.length_take, Nat.zero_add, Nat.min_eq_left (Nat.le_of_lt hi)]
    rw [hc]; simp only; rw [hb]
  have h2 := travL_bad (m := t.kids.drop (i + 1)) h1
  rw [List.take_append_drop] at h2
  rw [trav_eq, h]; simp only [Res1.bind]; rw [h2]
theorem trav_kid_ok {k : Int} {ts : List T} {i : Nat} {l : List T} {u : T} (hi : i < ts.length) (hl : travL A k 0 (ts.take i) c = .ok l) {c' : C} (hc : A.kid c (binds k i) = .ok c') (hb : trav A (ts.getD i t0) c' = .ok u) : travL A k 0 (ts.take (i + 1)) c = .ok (l ++ [u]) := by
  rw [take_succ_getD (d := t0) hi, travL_snoc, hl]
  simp only [Res1.bind, List.length_take, Nat.zero_add, Nat.min_eq_left (Nat.le_of_lt hi)]
  rw [hc]; simp only; rw [hb]
theorem travS_at_bad {k : Int} {ts : List T} {i : Nat} {l : List T} (hi : i < ts.length) (hl : travS A k (ts.take i) c = .ok l) {c' : C} (hc : A.kid c (0, more k) = .ok c') (hb : trav A (ts.getD i t0) c' = .bad e) : travS A k ts c = .bad e := by
  have h1 : travS A k (ts.take (i + 1)) c = .bad e := by
    rw [take_succ_getD (d := t0) hi, travS_snoc, hl]
    simp only [Res1.bind]
    rw [hc]; simp only; rw [hb]
  have h2 := travS_bad (m := ts.drop (i + 1)) h1
  rwa [List.take_append_drop] at h2
theorem travS_at_ok {k : Int} {ts : List T} {i : Nat} {l : List T} {u : T} (hi : i < ts.length) (hl : travS A k (ts.take i) c = .ok l) {c' : C} (hc : A.kid c (0, more k) = .ok c') (hb : trav A (ts.getD i t0) c' = .ok u) : travS A k (ts.take (i + 1)) c = .ok (l ++ [u]) := by
  rw [take_succ_getD (d := t0) hi, travS_snoc, hl]
  simp only [Res1.bind]
  rw [hc]; simp only; rw [hb]
theorem trav_sys_bad {p : Int × List Cl} {s : Nat} {l : List T} {bs : List Br} (h : A.own c t.kind t.n t.name t.r = .ok (.inr p)) (hl : travL A t.kind 0 t.kids c = .ok l) (hs : s < t.sys.length) (hb : travB A t.kind (t.sys.take s) c = .ok bs) (hf : A.face c (t.sys.getD s br0).face = .bad e ∨ ∃ f', A.face c (t.sys.getD s br0).face = .ok (some f') ∧ travS A t.kind (t.sys.getD s br0).kids c = .bad e) : trav A t c = .bad e := by
  have h1 : travB A t.kind (t.sys.take (s + 1)) c = .bad e := by
    rw [take_succ_getD (d := br0) hs, travB_snoc, hb]
    simp only [Res1.bind]
    rcases hf with hf | ⟨f', hf, h2⟩
    · rw [hf]
    · rw [hf]; simp only; rw [h2]
  have h2 := travB_bad (m := t.sys.drop (s + 1)) h1
  rw [List.take_append_drop] at h2
  rw [trav_eq, h]; simp only [Res1.bind]; rw [hl]; simp only; rw [h2]
theorem travB_at_ok {k : Int} {ss : List Br} {s : Nat} {bs : List Br} {f' : List Cl} {ks : List T} (hs : s < ss.length) (hb : travB A k (ss.take s) c = .ok bs) (hf : A.face c (ss.getD s br0).face = .ok (some f')) (hk : travS A k (ss.getD s br0).kids c = .ok ks) : travB A k (ss.take (s + 1)) c = .ok (bs ++ [.mk f' ks]) := by
  rw [take_succ_getD (d := br0) hs, travB_snoc, hb]
  simp only [Res1.bind]
  rw [hf]; simp only; rw [hk]
theorem trav_ok_of {p : Int × List Cl} {l : List T} {bs : List Br} (h : A.own c t.kind t.n t.name t.r = .ok (.inr p)) (hl : travL A t.kind 0 t.kids c = .ok l) (hb : travB A t.kind t.sys c = .ok bs) : trav A t c = .ok (.mk t.kind p.1 t.name p.2 l bs) := by
  rw [trav_eq, h]; simp only [Res1.bind]; rw [hl]; simp only; rw [hb]
end
theorem foldC_u32 {g : Cl → Int × Cl} {l : List Cl} (h : ∀ c, u32 (g c).2) : ∀ c, c ∈ (foldC g l).2 → u32 c := by
  intro c hc
  unfold foldC at hc
  split at hc
  · cases hc
  · obtain ⟨d, _, rfl⟩ := List.mem_map.mp hc; exact h d
theorem foldC_len {g : Cl → Int × Cl} {l : List Cl} : (foldC g l).2.length ≤ l.length := by
  unfold foldC
  split <;> simp
theorem more_01 (k : Int) : 0 ≤ more k ∧ more k ≤ 1 := by unfold more; split <;> omega
theorem size_kid_lt {t : T} {i : Nat} (h : i < t.kids.length) : size (t.kids.getD i t0) < size t := by
  obtain ⟨p, hp, e⟩ := kid_mem_parts (getD_mem (d := t0) h); exact e ▸ size_part_lt hp
theorem size_sys_lt {t : T} {s k : Nat} (h : s < t.sys.length) (h2 : k < (t.sys.getD s br0).kids.length) : size ((t.sys.getD s br0).kids.getD k t0) < size t := by
  obtain ⟨p, hp, e⟩ := sys_mem_parts (getD_mem (d := br0) h) (getD_mem (d := t0) h2); exact e ▸ size_part_lt hp
/-- What a lifted node becomes. -/
def liftN (vb : Int) (v : Int) (k n : Int) : Int := if k = 1 ∧ v ≤ n then n + vb else n
theorem lift_own {vb db v d : Int} {t : T} {g : List Cl} (hg : rowLift db t.r d = .ok g) (h : ¬ (t.kind = 1 ∧ v ≤ t.n ∧ 1000000000 - vb < t.n)) : (liftTr vb db).own (v, d) t.kind t.n t.name t.r = .ok (.inr (liftN vb v t.kind t.n, g)) := by
  simp only [liftTr, hg, Res1.bind, liftN]
  split
  · rename_i h1
    rw [if_neg (fun h2 => h ⟨h1.1, h1.2, h2⟩)]
  · rfl
theorem lift_own_row {vb db v d : Int} {t : T} {e : Int} (hg : rowLift db t.r d = .bad e) : (liftTr vb db).own (v, d) t.kind t.n t.name t.r = .bad e := by
  simp only [liftTr, hg, Res1.bind]
theorem lift_own_far {vb db v d : Int} {t : T} {g : List Cl} (hg : rowLift db t.r d = .ok g) (h : t.kind = 1 ∧ v ≤ t.n ∧ 1000000000 - vb < t.n) : (liftTr vb db).own (v, d) t.kind t.n t.name t.r = .bad 100 := by
  simp only [liftTr, hg, Res1.bind]
  rw [if_pos ⟨h.1, h.2.1⟩, if_pos h.2.2]
theorem lift_face_ok {vb db v d : Int} {f g : List Cl} (hg : rowLift db f d = .ok g) : (liftTr vb db).face (v, d) f = .ok (some g) := by simp only [liftTr, hg, Res1.bind]
theorem lift_face_bad {vb db v d : Int} {f : List Cl} {e : Int} (hg : rowLift db f d = .bad e) : (liftTr vb db).face (v, d) f = .bad e := by simp only [liftTr, hg, Res1.bind]
theorem travB_all {vb db : Int} {k : Int} {c : Int × Int} : ∀ {l l' : List Br}, travB (liftTr vb db) k l c = .ok l' → l'.length = l.length
  | [], l', h => by rw [travB_nil] at h; injection h with h; subst h; rfl
  | a :: l, l', h => by
    rw [travB_cons] at h
    obtain ⟨o, ho, h⟩ := Res1.bind_ok h
    obtain ⟨g, _, hg⟩ := Res1.bind_ok (x := rowLift db a.face c.2) ho
    injection hg with hg
    subst hg
    obtain ⟨ks', _, h⟩ := Res1.bind_ok h
    obtain ⟨bs', h3, h⟩ := Res1.bind_ok h
    injection h with h
    subst h
    simp [travB_all h3]
/-! ### What is guarded -/
theorem h0_er : h0.er = t0 := by simp [h0, HT.er, HT.erL, HT.erB, t0]
theorem St.h0R {B : Base} {Γ : List Fact} {Ms : List Res} {w : World} (y : Tys) (hs : St B Γ Ms w) : St B Γ (bigR (treeR y h0) :: Ms) w := by
  have h1 := ((((hs.bigNil).bigNil).rowS0 2 y.b).rowS0 6 y.t).rowS0 2 y.c
  exact St.joinT (y := y) (k := 0) (n := 0) (nm := ByteArray.mk #[]) (r := []) (v := nul) (u := nul) (x := nul) (ks := []) (ss := []) rfl rfl rfl rfl rfl rfl (by simpa [kidsR, brsR] using h1)
def guardRes (t : T) (ns : List Int) (r : Res1 T) : Int × T := if formedP t ≠ 0 then (formedP t, t0) else if ns.all (fun n => decide (0 ≤ n)) = false then (2, t0) else match r with
  | .ok u => (0, u)
  | .bad e => (e, t0)
theorem guard_form {t : T} {ns : List Int} {r : Res1 T} (h : formedP t ≠ 0) : guardRes t ns r = (formedP t, t0) := by unfold guardRes; rw [if_pos h]
theorem guard_neg {t : T} {ns : List Int} {r : Res1 T} (h : formedP t = 0) (h2 : ns.all (fun n => decide (0 ≤ n)) = false) : guardRes t ns r = (2, t0) := by unfold guardRes; rw [if_neg (by simp [h]), if_pos h2]
theorem guard_ok {t u : T} {ns : List Int} {r : Res1 T} (h : formedP t = 0) (h2 : ns.all (fun n => decide (0 ≤ n)) = true) (hr : r = .ok u) : guardRes t ns r = (0, u) := by unfold guardRes; rw [if_neg (by simp [h]), if_neg (by simp [h2]), hr]
theorem guard_bad {t : T} {e : Int} {ns : List Int} {r : Res1 T} (h : formedP t = 0) (h2 : ns.all (fun n => decide (0 ≤ n)) = true) (hr : r = .bad e) : guardRes t ns r = (e, t0) := by unfold guardRes; rw [if_neg (by simp [h]), if_neg (by simp [h2]), hr]
/-! ### A tree of the caller's own, known for good -/
theorem Spec.settleT {P : Program} {k : FuncId} {args : Array Value} {pre : List Fact} (y : Tys) {u : T} (g : Value → Value) (h : Spec P k args pre [] (fun x : {h : HT // h.er = u} => g (.agg (tc u x.1.vr x.1.vk x.1.vs).toArray)) (fun _ => []) (fun x => [bigR (treeR y x.1)])) (hok : ∀ ok w, St ⟨ok, domAll [], w⟩ pre [] w → okT u) :
    Spec P k args pre [] (fun x : SH × SH × SH => g (.agg (tc u x.1 x.2.1 x.2.2).toArray)) (fun x => [RT u x.1 x.2.1 x.2.2]) (fun _ => []) := fun ok w hk hs => (h ok w hk hs).mono fun e w' hh => by
  obtain ⟨x, he, hs'⟩ := hh
  have h1 : St ⟨ok, domAll [], w⟩ [] (treeR y x.1 ++ []) w' := hs'.unpack
  have h2 := St.settleT y trivial x.1 (by rw [x.2]; exact hok ok w hs) h1
  rw [x.2] at h2
  exact ⟨(x.1.vr, x.1.vk, x.1.vs), he, h2⟩
theorem SpecR.settleT {P : Program} {Te : TypeId} {k : FuncId} {args : Array Value} {pre : List Fact} (y : Tys) {r : Res1 T} (h : SpecR P Te k args pre r (fun (u : T) => fun x : {h : HT // h.er = u} => .agg (tc u x.1.vr x.1.vk x.1.vs).toArray) (fun _ _ => []) (fun (u : T) => fun x : {h : HT // h.er = u} => [bigR (treeR y x.1)])) (hok : ∀ u, r = .ok u → ∀ ok w, St ⟨ok, domAll [], w⟩ pre [] w → okT u) :
    SpecR P Te k args pre r (fun (u : T) => fun x : SH × SH × SH => .agg (tc u x.1 x.2.1 x.2.2).toArray) (fun u x => [RT u x.1 x.2.1 x.2.2]) (fun _ _ => []) := ⟨fun u hu => Spec.settleT y (fun v => v) (h.1 u hu) (hok u hu), h.2⟩
abbrev rowOk (l : List Cl) : Prop := (∀ c, c ∈ l → u32 c) ∧ l.length * 8 ≤ reach
section
variable {C : Type} {A : Tr C}
mutual
theorem trav_okT (ho : ∀ c k n nm r p, in64 k → in64 n → rowOk r → A.own c k n nm r = .ok (.inr p) → in64 p.1 ∧ rowOk p.2) (hi : ∀ c k n nm r u, A.own c k n nm r = .ok (.inl u) → okT u) (hf : ∀ c f f', rowOk f → A.face c f = .ok (some f') → rowOk f') : ∀ (t : T) (c : C) (u : T), okT t → trav A t c = .ok u → okT u
  | .mk k n nm r ks ss, c, u, h, hu => by
    simp only [okT] at h
    obtain ⟨h1, h2, h3, h4, h5, h6, h7, h8⟩ := h
    rw [trav_eq] at hu
    simp only [T.kind, T.n, T.name, T.r, T.kids, T.sys] at hu
    obtain ⟨o, h9, hu⟩ := Res1.bind_ok hu
    cases o with
    | inl v => injection hu with hu; subst hu; exact hi _ _ _ _ _ _ h9
    | inr p =>
      obtain ⟨ks', h10, hu⟩ := Res1.bind_ok hu
      obtain ⟨ss', h11, hu⟩ := Res1.bind_ok hu
      injection hu with hu
      subst hu
      obtain ⟨p1, p2⟩ := ho _ _ _ _ _ _ h1 h2 h4 h9
      simp only [okT]
      exact ⟨h1, p1, h3, p2, by rw [travL_len h10]; exact h5, Nat.le_trans (Nat.mul_le_mul_right _ (travB_len h11)) h6, travL_okT ho hi hf ks 0 c ks' h7 h10, travB_okT ho hi hf ss c ss' h8 h11⟩
theorem travL_okT (ho : ∀ c k n nm r p, in64 k → in64 n → rowOk r → A.own c k n nm r = .ok (.inr p) → in64 p.1 ∧ rowOk p.2) (hi : ∀ c k n nm r u, A.own c k n nm r = .ok (.inl u) → okT u) (hf : ∀ c f f', rowOk f → A.face c f = .ok (some f') → rowOk f') {kd : Int} : ∀ (ts : List T) (i : Nat) (c : C) (us : List T), okL ts → travL A kd i ts c = .ok us → okL us
  | [], i, c, us, h, hu => by rw [travL_nil] at hu; injection hu with hu; subst hu; simp only [okL]
  | t :: ts, i, c, us, h, hu => by
    simp only [okL] at h
    rw [travL_cons] at hu
    obtain ⟨c', _, hu⟩ := Res1.bind_ok hu
    obtain ⟨t', h2, hu⟩ := Res1.bind_ok hu
    obtain ⟨ts', h3, hu⟩ := Res1.bind_ok hu
    injection hu with hu
    subst hu
    simp only [okL]
    exact ⟨trav_okT ho hi hf t c' t' h.1 h2, travL_okT ho hi hf ts (i + 1) c ts' h.2 h3⟩
theorem travS_okT (ho : ∀ c k n nm r p, in64 k → in64 n → rowOk r → A.own c k n nm r = .ok (.inr p) → in64 p.1 ∧ rowOk p.2) (hi : ∀ c k n nm r u, A.own c k n nm r = .ok (.inl u) → okT u) (hf : ∀ c f f', rowOk f → A.face c f = .ok (some f') → rowOk f') {kd : Int} : ∀ (ts : List T) (c : C) (us : List T), okL ts → travS A kd ts c = .ok us → okL us
  | [], c, us, h, hu => by rw [travS_nil] at hu; injection hu with hu; subst hu; simp only [okL]
  | t :: ts, c, us, h, hu => by
    simp only [okL] at h
    rw [travS_cons] at hu
    obtain ⟨c', _, hu⟩ := Res1.bind_ok hu
    obtain ⟨t', h2, hu⟩ := Res1.bind_ok hu
    obtain ⟨ts', h3, hu⟩ := Res1.bind_ok hu
    injection hu with hu
    subst hu
    simp only [okL]
    exact ⟨trav_okT ho hi hf t c' t' h.1 h2, travS_okT ho hi hf ts c ts' h.2 h3⟩
theorem travB_okT (ho : ∀ c k n nm r p, in64 k → in64 n → rowOk r → A.own c k n nm r = .ok (.inr p) → in64 p.1 ∧ rowOk p.2) (hi : ∀ c k n nm r u, A.own c k n nm r = .ok (.inl u) → okT u) (hf : ∀ c f f', rowOk f → A.face c f = .ok (some f') → rowOk f') {kd : Int} : ∀ (bs : List Br) (c : C) (us : List Br), okB bs → travB A kd bs c = .ok us → okB us
  | [], c, us, h, hu => by rw [travB_nil] at hu; injection hu with hu; subst hu; simp only [okB]
  | .mk f ks :: bs, c, us, h, hu => by
    simp only [okB] at h
    obtain ⟨h1, h2, h3, h4⟩ := h
    rw [travB_cons] at hu
    simp only [Br.face, Br.kids] at hu
    obtain ⟨o, h5, hu⟩ := Res1.bind_ok hu
    cases o with
    | none => exact travB_okT ho hi hf bs c us h4 hu
    | some f' =>
      obtain ⟨ks', h6, hu⟩ := Res1.bind_ok hu
      obtain ⟨bs', h7, hu⟩ := Res1.bind_ok hu
      injection hu with hu
      subst hu
      simp only [okB]
      exact ⟨hf _ _ _ h1 h5, by rw [travS_len h6]; exact h2, travS_okT ho hi hf ks c ks' h3 h6, travB_okT ho hi hf bs c bs' h4 h7⟩
end
end
theorem rowOk_nil : rowOk [] := ⟨fun c hc => (by cases hc), by unfold reach; decide⟩
theorem leastF_ok {l : List Cl} (h : ∀ c, c ∈ l → u32 c) : rowOk (leastF l).2 := by
  unfold leastF
  split
  · exact rowOk_nil
  · split
    · exact rowOk_nil
    · rename_i h64
      exact ⟨fun c hc => h c (refLeast_mem.mp hc).1, by show (refLeast l).length * 8 ≤ reach; unfold reach; omega⟩
theorem formLift_ok (l : List Cl) (f b : Int) : rowOk (formLift l f b).2 := by
  unfold formLift
  split
  · exact rowOk_nil
  · split
    · exact rowOk_nil
    · exact leastF_ok (foldC_u32 (fun c => clLift_u32 c f b))
theorem rowLift_ok {l g : List Cl} {f b : Int} (h : rowOk l) (hg : rowLift b l f = .ok g) : rowOk g := by
  unfold rowLift at hg
  split at hg
  · injection hg with hg; subst hg; exact h
  · split at hg
    · injection hg with hg; subst hg; exact formLift_ok l f b
    · cases hg
theorem lift_okT {vb db : Int} (hv : 0 ≤ vb ∧ vb ≤ 1000000) {t u : T} {c : Int × Int} (h : okT t) (hu : trav (liftTr vb db) t c = .ok u) : okT u := by
  refine trav_okT (A := liftTr vb db) ?_ ?_ ?_ t c u h hu
  · intro c k n nm r p _ hn hr ho
    obtain ⟨g, hg, ho⟩ := Res1.bind_ok (x := rowLift db r c.2) ho
    have hgo := rowLift_ok hr hg
    split at ho
    · rename_i h1
      split at ho
      · cases ho
      · injection ho with ho; injection ho with ho; subst ho
        exact ⟨by unfold in64 at *; dsimp only; omega, hgo⟩
    · injection ho with ho; injection ho with ho; subst ho
      exact ⟨hn, hgo⟩
  · intro c k n nm r u ho
    obtain ⟨g, hg, ho⟩ := Res1.bind_ok (x := rowLift db r c.2) ho
    split at ho
    · split at ho
      · cases ho
      · injection ho with ho; cases ho
    · injection ho with ho; cases ho
  · intro c f f' hr ho
    obtain ⟨g, hg, ho⟩ := Res1.bind_ok (x := rowLift db f c.2) ho
    injection ho with ho; injection ho with ho; subst ho
    exact rowLift_ok hr hg
theorem okT_t0 : okT t0 := by simp [t0, okT, okL, okB, in64, cap47, reach]; decide
theorem guard_okT' {t : T} {ns : List Int} {r : Res1 T} (h : ns.all (fun n => decide (0 ≤ n)) = true → ∀ u, r = .ok u → okT u) : okT (guardRes t ns r).2 := by
  unfold guardRes
  split
  · exact okT_t0
  · split
    · exact okT_t0
    · rename_i ha
      cases r with
      | ok u => exact h (by simpa using ha) u rfl
      | bad e => exact okT_t0
/-! ### lift.Vars, lift.Dims, lift.Both -/
abbrev varsR (t : T) (f b : Int) : Res1 T := trav (liftTr b 0) t (if 2000000000 < f then 2000000000 else f, 0)
def most (b : Int) : Int := IntKind.i64.wrap (1000000 - b)
theorem most_in (b : Int) : in64 (most b) := by
  have h : most b = (1000000 - b + 9223372036854775808) % 18446744073709551616 - 9223372036854775808 := by
    unfold most; rw [IntKind.wrap_i64]
  unfold in64; rw [h]; omega
theorem most_le {b : Int} (hb : in64 b) (h0 : 0 ≤ b) (h : 0 ≤ most b) : b ≤ 1000000 := by
  have h1 : most b = (1000000 - b + 9223372036854775808) % 18446744073709551616 - 9223372036854775808 := by
    unfold most; rw [IntKind.wrap_i64]
  unfold in64 at hb; omega
theorem most_of {b : Int} (hb : in64 b) (h0 : 0 ≤ b) : most b = 1000000 - b := by
  have h1 : most b = (1000000 - b + 9223372036854775808) % 18446744073709551616 - 9223372036854775808 := by
    unfold most; rw [IntKind.wrap_i64]
  unfold in64 at hb; omega
def varsRes (t : T) (f b : Int) : Int × T := guardRes t [f, b, most b] (varsR t f b)
/-! ### What is lifted keeps its form -/
theorem lift_own_inl {vb db : Int} {c : Int × Int} {k n : Int} {nm : ByteArray} {r : List Cl} {u : T} : (liftTr vb db).own c k n nm r ≠ .ok (.inl u) := by
  intro ho
  obtain ⟨g, hg, ho⟩ := Res1.bind_ok (x := rowLift db r c.2) ho
  split at ho
  · split at ho
    · cases ho
    · injection ho with ho; cases ho
  · injection ho with ho; cases ho
mutual
theorem lift_size {vb db : Int} : ∀ {t u : T} {c : Int × Int}, trav (liftTr vb db) t c = .ok u → size u = size t
  | .mk k n nm r ks ss, u, c, hu => by
    rw [trav_eq] at hu
    simp only [T.kind, T.n, T.name, T.r, T.kids, T.sys] at hu
    obtain ⟨o, h9, hu⟩ := Res1.bind_ok hu
    cases o with
    | inl v => exact absurd h9 lift_own_inl
    | inr p =>
      obtain ⟨ks', h10, hu⟩ := Res1.bind_ok hu
      obtain ⟨ss', h11, hu⟩ := Res1.bind_ok hu
      injection hu with hu
      subst hu
      rw [size_kids_sys, size_kids_sys]
      simp only [T.kids, T.sys]
      rw [liftL_size h10, liftB_size h11]
theorem liftL_size {vb db k : Int} : ∀ {ts us : List T} {i : Nat} {c : Int × Int}, travL (liftTr vb db) k i ts c = .ok us → us.map size = ts.map size
  | [], us, i, c, hu => by rw [travL_nil] at hu; injection hu with hu; subst hu; rfl
  | t :: ts, us, i, c, hu => by
    rw [travL_cons] at hu
    obtain ⟨c', _, hu⟩ := Res1.bind_ok hu
    obtain ⟨t', h2, hu⟩ := Res1.bind_ok hu
    obtain ⟨ts', h3, hu⟩ := Res1.bind_ok hu
    injection hu with hu
    subst hu
    simp only [List.map_cons]
    rw [lift_size h2, liftL_size h3]
theorem liftS_size {vb db k : Int} : ∀ {ts us : List T} {c : Int × Int}, travS (liftTr vb db) k ts c = .ok us → us.map size = ts.map size
  | [], us, c, hu => by rw [travS_nil] at hu; injection hu with hu; subst hu; rfl
  | t :: ts, us, c, hu => by
    rw [travS_cons] at hu
    obtain ⟨c', _, hu⟩ := Res1.bind_ok hu
    obtain ⟨t', h2, hu⟩ := Res1.bind_ok hu
    obtain ⟨ts', h3, hu⟩ := Res1.bind_ok hu
    injection hu with hu
    subst hu
    simp only [List.map_cons]
    rw [lift_size h2, liftS_size h3]
theorem liftB_size {vb db k : Int} : ∀ {bs us : List Br} {c : Int × Int}, travB (liftTr vb db) k bs c = .ok us → (us.map fun b => b.kids.map size) = bs.map fun b => b.kids.map size
  | [], us, c, hu => by rw [travB_nil] at hu; injection hu with hu; subst hu; rfl
  | .mk f ks :: bs, us, c, hu => by
    rw [travB_cons] at hu
    simp only [Br.face, Br.kids] at hu
    obtain ⟨o, h5, hu⟩ := Res1.bind_ok hu
    obtain ⟨g, _, h6⟩ := Res1.bind_ok (x := rowLift db f c.2) h5
    injection h6 with h6
    subst h6
    obtain ⟨ks', h7, hu⟩ := Res1.bind_ok hu
    obtain ⟨bs', h8, hu⟩ := Res1.bind_ok hu
    injection hu with hu
    subst hu
    show (ks'.map size :: (bs'.map fun b => b.kids.map size)) = (ks.map size :: (bs.map fun b => b.kids.map size))
    rw [liftS_size h7, liftB_size h8]
end
end Go.Hy
namespace Go.Hy
set_option linter.unusedVariables false
set_option linter.unusedSimpArgs false
set_option linter.unusedSectionVars false
set_option linter.unusedVariables false
/-! ### More variables, more dimensions; what a term has that may be -/
theorem all_iff {t : T} {v d : Int} {b : Bool} : allP t v d b = true ↔ (¬ (b = true ∧ 24 < d)) ∧ ownP t v d = true ∧ ∀ p, p ∈ parts t → allP p.1 (IntKind.i64.wrap (v + if v < 0 then 0 else p.2.1)) (d + p.2.2) b = true := by
  rw [allP_eq, Bool.and_eq_true, List.all_eq_true]
  simp only [Bool.not_eq_true', Bool.or_eq_false_iff, Bool.and_eq_false_iff, decide_eq_false_iff_not, Bool.not_eq_false']
  constructor
  · rintro ⟨⟨h1, h2⟩, h3⟩
    refine ⟨?_, h2, h3⟩
    rintro ⟨h4, h5⟩
    rcases h1 with h1 | h1
    · rw [h1] at h4; cases h4
    · exact h1 h5
  · rintro ⟨h1, h2, h3⟩
    refine ⟨⟨?_, h2⟩, h3⟩
    cases b
    · exact .inl rfl
    · exact .inr (fun h => h1 ⟨rfl, h⟩)
/-- What a node of itself must be, row by row. -/
theorem own_iff {t : T} {v d : Int} : ownP t v d = true ↔ own1 t = false ∧
    (if t.kind = 1 then t.r.length = 0 ∧ 0 ≤ t.n ∧ (v < 0 ∨ t.n < v)
     else if t.kind = 2 then t.r.length = 0 ∧ nameOK t.name = true
     else if t.kind = 13 ∨ t.kind = 21 ∨ t.kind = 26 then fRight t.r = true ∧ within t.r d = true
     else if t.kind = 14 then faceRight t.r = true ∧ within t.r d = true
     else (∀ x, x ∈ t.sys → ownB t d x = true) ∧ t.r.length = 0) := by
  unfold ownP
  rw [Bool.and_eq_true, Bool.not_eq_true']
  apply and_congr Iff.rfl
  split
  · simp only [Bool.and_eq_true, decide_eq_true_eq, Bool.or_eq_true, and_assoc]; constructor <;> (rintro ⟨h1, h2⟩; exact ⟨by omega, h2⟩)
  · split
    · simp only [Bool.and_eq_true, decide_eq_true_eq]; constructor <;> (rintro ⟨h1, h2⟩; exact ⟨by omega, h2⟩)
    · split
      · simp only [Bool.and_eq_true]
      · split
        · simp only [Bool.and_eq_true]
        · simp only [Bool.and_eq_true, decide_eq_true_eq, List.all_eq_true]; constructor <;> (rintro ⟨h1, h2⟩; exact ⟨h1, by omega⟩)
theorem part_depth {t : T} {p : Part} (hp : p ∈ parts t) : depth p.1 + 1 ≤ depth t := depth_mem hp
end Go.Hy
namespace Go.Hy
set_option linter.unusedVariables false
set_option linter.unusedSimpArgs false
set_option linter.unusedSectionVars false
set_option linter.unusedVariables false
theorem part_cases {t : T} {p : Part} (hp : p ∈ parts t) : (∃ i, i < t.kids.length ∧ p = (t.kids.getD i t0, binds t.kind (i : Int))) ∨ ∃ s k, s < t.sys.length ∧ k < (t.sys.getD s br0).kids.length ∧ p = ((t.sys.getD s br0).kids.getD k t0, 0, more t.kind) := by
  unfold parts at hp
  rcases List.mem_append.mp hp with hp | hp
  · left
    have key : ∀ (ks : List T) (s : Nat), p ∈ kidParts t.kind s ks → ∃ i, i < ks.length ∧ p = (ks.getD i t0, binds t.kind ((s + i : Nat) : Int)) := by
      intro ks
      induction ks with
      | nil => intro s h; simp [kidParts] at h
      | cons k ks ih =>
        intro s h
        simp only [kidParts, List.mem_cons] at h
        rcases h with h | h
        · exact ⟨0, by simp, by simpa using h⟩
        · obtain ⟨i, hi, e⟩ := ih (s + 1) h
          exact ⟨i + 1, by simpa using hi, by rw [e]; simp only [List.getD_cons_succ]; rw [show s + 1 + i = s + (i + 1) by omega]⟩
    obtain ⟨i, hi, e⟩ := key t.kids 0 hp
    exact ⟨i, hi, by rw [e]; simp⟩
  · right
    have key : ∀ (bs : List Br), p ∈ sysParts t.kind bs → ∃ s k, s < bs.length ∧ k < (bs.getD s br0).kids.length ∧ p = ((bs.getD s br0).kids.getD k t0, 0, more t.kind) := by
      intro bs
      induction bs with
      | nil => intro h; simp [sysParts] at h
      | cons b bs ih =>
        intro h
        simp only [sysParts, List.mem_append, List.mem_map] at h
        rcases h with ⟨k, hk, e⟩ | h
        · obtain ⟨j, hj, e2⟩ := List.mem_iff_getElem.mp hk
          exact ⟨0, j, by simp, by simpa using hj, by rw [← e]; simp only [List.getD_cons_zero]; rw [getD_get (d := t0) hj, e2]⟩
        · obtain ⟨s, k, h1, h2, e⟩ := ih h
          exact ⟨s + 1, k, by simpa using h1, by simpa using h2, by rw [e]; simp⟩
    exact key t.sys hp
end Go.Hy
namespace Go.Hy
set_option linter.unusedVariables false
set_option linter.unusedSimpArgs false
set_option linter.unusedSectionVars false
set_option linter.unusedVariables false
set_option linter.unusedSimpArgs false
/-! ### A term of which every node is as it may be -/
def headOK (k n : Int) (nm : ByteArray) (r : List Cl) : Prop :=
  (k ≠ 1 → n = 0) ∧ (k ≠ 2 → nm.toList = (ByteArray.mk #[]).toList) ∧ (k = 1 → r = [] ∧ 0 ≤ n) ∧ (k = 2 → r = [] ∧ nameOK nm = true) ∧ (k = 13 ∨ k = 21 ∨ k = 26 → fRight r = true) ∧ (k = 14 → faceRight r = true) ∧ (k ≠ 13 ∧ k ≠ 21 ∧ k ≠ 26 ∧ k ≠ 14 → r = [])
mutual
def fineT : T → Prop
  | .mk k n nm r ks ss => headOK k n nm r ∧ kidsN k = (ks.length : Int) ∧ (partsN k = 0 → ss = []) ∧ fineL ks ∧ fineB k ss
def fineL : List T → Prop
  | [] => True
  | t :: ts => fineT t ∧ fineL ts
def fineB (k : Int) : List Br → Prop
  | [] => True
  | .mk f ks :: bs => (ks.length : Int) = partsN k ∧ faceRight f = true ∧ fineL ks ∧ fineB k bs
end
theorem partsN_zero {k : Int} (h : k = 1 ∨ k = 2 ∨ k = 13 ∨ k = 21 ∨ k = 26 ∨ k = 14) : partsN k = 0 := by
  unfold partsN
  rcases h with h | h | h | h | h | h <;> subst h <;> decide
theorem within_24 (l : List Cl) {d : Int} (h : 24 ≤ d) : within l d = true := by unfold within; rw [decide_eq_true h]; rfl
theorem len_nil {α : Type} {l : List α} : ((l.length : Int) = 0) ↔ l = [] := by
  constructor
  · intro h; exact List.eq_nil_of_length_eq_zero (by omega)
  · rintro rfl; rfl
theorem own24_iff {k n : Int} {nm : ByteArray} {r : List Cl} {ks : List T} {ss : List Br} {d : Int} (hd : 24 ≤ d) : ownP (.mk k n nm r ks ss) (-1) d = true ↔ headOK k n nm r ∧ kidsN k = (ks.length : Int) ∧ (partsN k = 0 → ss = []) ∧ ∀ b, b ∈ ss → (b.kids.length : Int) = partsN k ∧ faceRight b.face = true := by
  have hB : ∀ b : Br, ownB (.mk k n nm r ks ss) d b = (decide ((b.kids.length : Int) = partsN k) && faceRight b.face) := fun b => by
    unfold ownB; rw [within_24 _ hd, Bool.and_true]; rfl
  have hL : (0 : Int) < (ss.length : Int) ↔ ss ≠ [] := by
    constructor
    · intro h e; subst e; simp at h
    · intro h; have := List.length_pos_iff.mpr h; omega
  have hs : ∀ p : Bool, (ss.all (ownB (.mk k n nm r ks ss) d) = true) ↔ ∀ b, b ∈ ss → (b.kids.length : Int) = partsN k ∧ faceRight b.face = true := fun _ => by
    rw [List.all_eq_true]
    exact forall_congr' fun b => forall_congr' fun _ => by rw [hB]; simp
  unfold ownP own1 headOK
  simp only [T.kind, T.n, T.name, T.r, T.kids, T.sys, within_24 _ hd, Bool.and_true, Bool.and_eq_true, Bool.not_eq_true', Bool.or_eq_false_iff, Bool.and_eq_false_iff, decide_eq_false_iff_not, Decidable.not_not, ne_eq, Int.not_lt, Bool.not_eq_false', beq_iff_eq]
  constructor
  · rintro ⟨⟨⟨⟨h1, h2⟩, h3⟩, h4⟩, h5⟩
    replace h1 : kidsN k = (ks.length : Int) := Decidable.not_not.mp (of_decide_eq_false h1)
    replace h2 : k = 1 ∨ n = 0 := h2.imp (fun h => Decidable.not_not.mp (of_decide_eq_false h)) (fun h => Decidable.not_not.mp (of_decide_eq_false h))
    replace h3 : k = 2 ∨ nm.toList = (ByteArray.mk #[]).toList := h3.imp (fun h => Decidable.not_not.mp (of_decide_eq_false h)) id
    replace h4 : ¬ partsN k = 0 ∨ ¬ (0 : Int) < (ss.length : Int) := h4.imp (fun h => of_decide_eq_false h) (fun h => of_decide_eq_false h)
    have hss : partsN k = 0 → ss = [] := by
      intro h
      rcases h4 with h4 | h4
      · exact absurd h h4
      · exact List.eq_nil_of_length_eq_zero (by omega)
    split at h5
    · rename_i hk
      have he := hss (partsN_zero (by omega))
      subst he
      simp only [Bool.and_eq_true, decide_eq_true_eq] at h5
      exact ⟨⟨by omega, fun _ => h3.resolve_left (by omega), fun _ => ⟨len_nil.mp (of_decide_eq_true h5.1.1), of_decide_eq_true h5.1.2⟩, by omega, by omega, by omega, fun _ => len_nil.mp (of_decide_eq_true h5.1.1)⟩, h1, hss, fun b hb => by cases hb⟩
    · split at h5
      · rename_i hk1 hk
        have he := hss (partsN_zero (by omega))
        subst he
        simp only [Bool.and_eq_true, decide_eq_true_eq] at h5
        exact ⟨⟨by omega, fun h => absurd hk h, by omega, fun _ => ⟨len_nil.mp (of_decide_eq_true h5.1), h5.2⟩, by omega, by omega, fun _ => len_nil.mp (of_decide_eq_true h5.1)⟩, h1, hss, fun b hb => by cases hb⟩
      · split at h5
        · rename_i hk1 hk2 hk
          have he := hss (partsN_zero (by omega))
          subst he
          exact ⟨⟨by omega, fun _ => h3.resolve_left (by omega), by omega, by omega, fun _ => h5, by omega, by omega⟩, h1, hss, fun b hb => by cases hb⟩
        · split at h5
          · rename_i hk1 hk2 hk3 hk
            have he := hss (partsN_zero (by omega))
            subst he
            exact ⟨⟨by omega, fun _ => h3.resolve_left (by omega), by omega, by omega, by omega, fun _ => h5, by omega⟩, h1, hss, fun b hb => by cases hb⟩
          · rename_i hk1 hk2 hk3 hk4
            simp only [Bool.and_eq_true, decide_eq_true_eq] at h5
            exact ⟨⟨by omega, fun _ => h3.resolve_left (by omega), by omega, by omega, by omega, by omega, fun _ => len_nil.mp (of_decide_eq_true h5.2)⟩, h1, hss, (hs true).mp h5.1⟩
  · rintro ⟨⟨a1, a2, a3, a4, a5, a6, a7⟩, b1, b2, b3⟩
    refine ⟨⟨⟨⟨decide_eq_false (Decidable.not_not.mpr b1), ?_⟩, ?_⟩, ?_⟩, ?_⟩
    · by_cases h : k = 1
      · exact .inl (decide_eq_false (Decidable.not_not.mpr h))
      · exact .inr (decide_eq_false (Decidable.not_not.mpr (a1 h)))
    · by_cases h : k = 2
      · exact .inl (decide_eq_false (Decidable.not_not.mpr h))
      · exact .inr (a2 h)
    · by_cases h : partsN k = 0
      · exact .inr (decide_eq_false (by rw [b2 h]; decide))
      · exact .inl (decide_eq_false h)
    · split
      · rename_i h; simp [(a3 h).1, (a3 h).2]
      · split
        · rename_i h; simp [(a4 h).1, (a4 h).2]
        · split
          · rename_i h; exact a5 h
          · split
            · rename_i h; exact a6 h
            · rename_i h1 h2 h3 h4
              rw [Bool.and_eq_true, (hs true)]
              exact ⟨b3, by simp [a7 (by omega)]⟩
theorem fineL_iff : ∀ {ts : List T}, fineL ts ↔ ∀ t, t ∈ ts → fineT t
  | [] => by simp [fineL]
  | t :: ts => by simp [fineL, fineL_iff (ts := ts)]
theorem fineB_iff {k : Int} : ∀ {bs : List Br}, fineB k bs ↔ ∀ b, b ∈ bs → (b.kids.length : Int) = partsN k ∧ faceRight b.face = true ∧ fineL b.kids
  | [] => by simp [fineB]
  | .mk f ks :: bs => by
    simp only [fineB, fineB_iff (bs := bs), List.forall_mem_cons, Br.kids, Br.face]
    constructor
    · rintro ⟨h1, h2, h3, h4⟩; exact ⟨⟨h1, h2, h3⟩, h4⟩
    · rintro ⟨⟨h1, h2, h3⟩, h4⟩; exact ⟨h1, h2, h3, h4⟩
theorem fineT_iff {t : T} : fineT t ↔ headOK t.kind t.n t.name t.r ∧ kidsN t.kind = (t.kids.length : Int) ∧ (partsN t.kind = 0 → t.sys = []) ∧ fineL t.kids ∧ fineB t.kind t.sys := by
  obtain ⟨k, n, nm, r, ks, ss⟩ := t
  simp only [fineT, T.kind, T.n, T.name, T.r, T.kids, T.sys]
theorem fine_parts {t : T} : fineT t ↔ (∀ d : Int, 24 ≤ d → ownP t (-1) d = true) ∧ ∀ p, p ∈ parts t → fineT p.1 := by
  rw [fineT_iff, fineL_iff, fineB_iff]
  have ho : ∀ d : Int, 24 ≤ d → (ownP t (-1) d = true ↔ headOK t.kind t.n t.name t.r ∧ kidsN t.kind = (t.kids.length : Int) ∧ (partsN t.kind = 0 → t.sys = []) ∧ ∀ b, b ∈ t.sys → (b.kids.length : Int) = partsN t.kind ∧ faceRight b.face = true) := by
    intro d hd
    obtain ⟨k, n, nm, r, ks, ss⟩ := t
    exact own24_iff hd
  constructor
  · rintro ⟨h1, h2, h3, h4, h5⟩
    refine ⟨fun d hd => (ho d hd).mpr ⟨h1, h2, h3, fun b hb => ⟨(h5 b hb).1, (h5 b hb).2.1⟩⟩, fun p hp => ?_⟩
    rcases part_cases hp with ⟨i, hi, rfl⟩ | ⟨s, k, hs, hk, rfl⟩
    · exact h4 _ (getD_mem hi)
    · exact fineL_iff.mp (h5 _ (getD_mem hs)).2.2 _ (getD_mem hk)
  · rintro ⟨h1, h2⟩
    obtain ⟨a1, a2, a3, a4⟩ := (ho 24 (by omega)).mp (h1 24 (by omega))
    refine ⟨a1, a2, a3, fun k hk => ?_, fun b hb => ⟨(a4 b hb).1, (a4 b hb).2, fineL_iff.mpr fun k hk => ?_⟩⟩
    · obtain ⟨p, hp, e⟩ := kid_mem_parts hk; exact e ▸ h2 p hp
    · obtain ⟨p, hp, e⟩ := sys_mem_parts hb hk; exact e ▸ h2 p hp
theorem all_fine : ∀ (t : T) (d : Int), 24 ≤ d → (allP t (-1) d false = true ↔ fineT t) := T.ind fun t ih d hd => by
  rw [all_iff, fine_parts]
  have hw : ∀ p : Part, IntKind.i64.wrap (-1 + if (-1 : Int) < 0 then 0 else p.2.1) = -1 := fun p => by rw [if_pos (by decide)]; decide
  constructor
  · rintro ⟨_, h2, h3⟩
    refine ⟨fun d' hd' => ?_, fun p hp => ?_⟩
    · obtain ⟨k, n, nm, r, ks, ss⟩ := t
      exact (own24_iff hd').mpr ((own24_iff hd).mp h2)
    · have h4 := h3 p hp
      rw [hw] at h4
      have h5 := parts_01 hp
      exact (ih p hp (d + p.2.2) (by omega)).mp h4
  · rintro ⟨h1, h2⟩
    refine ⟨by simp, h1 d hd, fun p hp => ?_⟩
    rw [hw]
    have h5 := parts_01 hp
    exact (ih p hp (d + p.2.2) (by omega)).mpr (h2 p hp)
theorem formed_fine {t : T} : formedP t = 0 ↔ sized t = 0 ∧ fineT t := by rw [formed_zero, all_fine t 24 (by omega)]
/-! ### What a way keeps -/
section
variable {C : Type} {A : Tr C}
mutual
theorem trav_fine (ho : ∀ c k n nm r p, headOK k n nm r → A.own c k n nm r = .ok (.inr p) → headOK k p.1 nm p.2) (hi : ∀ c k n nm r u, headOK k n nm r → A.own c k n nm r = .ok (.inl u) → fineT u) (hf : ∀ c f f', faceRight f = true → A.face c f = .ok (some f') → faceRight f' = true) : ∀ {t : T} {c : C} {u : T}, fineT t → trav A t c = .ok u → fineT u
  | .mk k n nm r ks ss, c, u, h, hu => by
    simp only [fineT] at h
    obtain ⟨h1, h2, h3, h4, h5⟩ := h
    rw [trav_eq] at hu
    simp only [T.kind, T.n, T.name, T.r, T.kids, T.sys] at hu
    obtain ⟨o, h9, hu⟩ := Res1.bind_ok hu
    cases o with
    | inl v => injection hu with hu; subst hu; exact hi _ _ _ _ _ _ h1 h9
    | inr p =>
      obtain ⟨ks', h10, hu⟩ := Res1.bind_ok hu
      obtain ⟨ss', h11, hu⟩ := Res1.bind_ok hu
      injection hu with hu
      subst hu
      simp only [fineT]
      refine ⟨ho _ _ _ _ _ _ h1 h9, by rw [travL_len h10]; exact h2, fun h => ?_, travL_fine ho hi hf h4 h10, travB_fine ho hi hf h5 h11⟩
      have h12 := travB_len h11
      rw [h3 h] at h12
      exact List.eq_nil_of_length_eq_zero (Nat.le_zero.mp h12)
theorem travL_fine (ho : ∀ c k n nm r p, headOK k n nm r → A.own c k n nm r = .ok (.inr p) → headOK k p.1 nm p.2) (hi : ∀ c k n nm r u, headOK k n nm r → A.own c k n nm r = .ok (.inl u) → fineT u) (hf : ∀ c f f', faceRight f = true → A.face c f = .ok (some f') → faceRight f' = true) {kd : Int} : ∀ {ts : List T} {i : Nat} {c : C} {us : List T}, fineL ts → travL A kd i ts c = .ok us → fineL us
  | [], i, c, us, h, hu => by rw [travL_nil] at hu; injection hu with hu; subst hu; simp only [fineL]
  | t :: ts, i, c, us, h, hu => by
    simp only [fineL] at h
    rw [travL_cons] at hu
    obtain ⟨c', _, hu⟩ := Res1.bind_ok hu
    obtain ⟨t', h2, hu⟩ := Res1.bind_ok hu
    obtain ⟨ts', h3, hu⟩ := Res1.bind_ok hu
    injection hu with hu
    subst hu
    simp only [fineL]
    exact ⟨trav_fine ho hi hf h.1 h2, travL_fine ho hi hf h.2 h3⟩
theorem travS_fine (ho : ∀ c k n nm r p, headOK k n nm r → A.own c k n nm r = .ok (.inr p) → headOK k p.1 nm p.2) (hi : ∀ c k n nm r u, headOK k n nm r → A.own c k n nm r = .ok (.inl u) → fineT u) (hf : ∀ c f f', faceRight f = true → A.face c f = .ok (some f') → faceRight f' = true) {kd : Int} : ∀ {ts : List T} {c : C} {us : List T}, fineL ts → travS A kd ts c = .ok us → fineL us
  | [], c, us, h, hu => by rw [travS_nil] at hu; injection hu with hu; subst hu; simp only [fineL]
  | t :: ts, c, us, h, hu => by
    simp only [fineL] at h
    rw [travS_cons] at hu
    obtain ⟨c', _, hu⟩ := Res1.bind_ok hu
    obtain ⟨t', h2, hu⟩ := Res1.bind_ok hu
    obtain ⟨ts', h3, hu⟩ := Res1.bind_ok hu
    injection hu with hu
    subst hu
    simp only [fineL]
    exact ⟨trav_fine ho hi hf h.1 h2, travS_fine ho hi hf h.2 h3⟩
theorem travB_fine (ho : ∀ c k n nm r p, headOK k n nm r → A.own c k n nm r = .ok (.inr p) → headOK k p.1 nm p.2) (hi : ∀ c k n nm r u, headOK k n nm r → A.own c k n nm r = .ok (.inl u) → fineT u) (hf : ∀ c f f', faceRight f = true → A.face c f = .ok (some f') → faceRight f' = true) {kd : Int} : ∀ {bs : List Br} {c : C} {us : List Br}, fineB kd bs → travB A kd bs c = .ok us → fineB kd us
  | [], c, us, h, hu => by rw [travB_nil] at hu; injection hu with hu; subst hu; simp only [fineB]
  | .mk f ks :: bs, c, us, h, hu => by
    simp only [fineB] at h
    obtain ⟨h1, h2, h3, h4⟩ := h
    rw [travB_cons] at hu
    simp only [Br.face, Br.kids] at hu
    obtain ⟨o, h5, hu⟩ := Res1.bind_ok hu
    cases o with
    | none => exact travB_fine ho hi hf h4 hu
    | some f' =>
      obtain ⟨ks', h6, hu⟩ := Res1.bind_ok hu
      obtain ⟨bs', h7, hu⟩ := Res1.bind_ok hu
      injection hu with hu
      subst hu
      simp only [fineB]
      exact ⟨by rw [travS_len h6]; exact h1, hf _ _ _ h2 h5, travS_fine ho hi hf h3 h6, travB_fine ho hi hf h4 h7⟩
end
end
/-! ### One way, and then another one -/
section
variable {CA CB CC : Type} {A : Tr CA} {B : Tr CB} {D : Tr CC} (R : CA → CB → CC → Prop)
structure Fuse : Prop where
  inl : ∀ ca cb cc k n nm r u, R ca cb cc → headOK k n nm r → A.own ca k n nm r = .ok (.inl u) → D.own cc k n nm r = (trav B u cb).bind fun w => .ok (.inl w)
  inr : ∀ ca cb cc k n nm r p, R ca cb cc → headOK k n nm r → A.own ca k n nm r = .ok (.inr p) → B.own cb k p.1 nm p.2 = D.own cc k n nm r
  none : ∀ ca cb cc f, R ca cb cc → faceRight f = true → A.face ca f = .ok none → D.face cc f = .ok none
  some : ∀ ca cb cc f f', R ca cb cc → faceRight f = true → A.face ca f = .ok (some f') → B.face cb f' = D.face cc f
  kid : ∀ ca cb cc b ca', 0 ≤ b.1 → 0 ≤ b.2 → R ca cb cc → A.kid ca b = .ok ca' → (∃ cb' cc', B.kid cb b = .ok cb' ∧ D.kid cc b = .ok cc' ∧ R ca' cb' cc') ∨ ∃ e, B.kid cb b = .bad e ∧ D.kid cc b = .bad e
variable {R}
mutual
theorem fuse (F : Fuse (A := A) (B := B) (D := D) R) : ∀ {t u : T} {ca : CA} {cb : CB} {cc : CC}, fineT t → R ca cb cc → trav A t ca = .ok u → trav B u cb = trav D t cc
  | .mk k n nm r ks ss, u, ca, cb, cc, h, hr, hu => by
    simp only [fineT] at h
    obtain ⟨h1, h2, h3, h4, h5⟩ := h
    rw [trav_eq] at hu
    simp only [T.kind, T.n, T.name, T.r, T.kids, T.sys] at hu
    obtain ⟨o, h9, hu⟩ := Res1.bind_ok hu
    cases o with
    | inl v =>
      injection hu with hu
      subst hu
      conv => rhs; rw [trav_eq]
      simp only [T.kind, T.n, T.name, T.r, T.kids, T.sys]
      rw [F.inl _ _ _ _ _ _ _ _ hr h1 h9]
      cases trav B v cb <;> rfl
    | inr p =>
      obtain ⟨ks', h10, hu⟩ := Res1.bind_ok hu
      obtain ⟨ss', h11, hu⟩ := Res1.bind_ok hu
      injection hu with hu
      subst hu
      rw [trav_eq, trav_eq]
      simp only [T.kind, T.n, T.name, T.r, T.kids, T.sys]
      rw [F.inr _ _ _ _ _ _ _ _ hr h1 h9, fuseL F h4 hr h10, fuseB F h5 hr h11]
theorem fuseL (F : Fuse (A := A) (B := B) (D := D) R) {kd : Int} : ∀ {ts us : List T} {i : Nat} {ca : CA} {cb : CB} {cc : CC}, fineL ts → R ca cb cc → travL A kd i ts ca = .ok us → travL B kd i us cb = travL D kd i ts cc
  | [], us, i, ca, cb, cc, h, hr, hu => by rw [travL_nil] at hu; injection hu with hu; subst hu; rw [travL_nil, travL_nil]
  | t :: ts, us, i, ca, cb, cc, h, hr, hu => by
    simp only [fineL] at h
    rw [travL_cons] at hu
    obtain ⟨c', h1, hu⟩ := Res1.bind_ok hu
    obtain ⟨t', h2, hu⟩ := Res1.bind_ok hu
    obtain ⟨ts', h3, hu⟩ := Res1.bind_ok hu
    injection hu with hu
    subst hu
    rw [travL_cons, travL_cons]
    rcases F.kid _ _ _ _ _ (binds_01 _ _).1 (binds_01 _ _).2.2.1 hr h1 with ⟨cb', cc', e1, e2, hr'⟩ | ⟨e, e1, e2⟩
    · rw [e1, e2]
      simp only [Res1.bind]
      rw [fuse F h.1 hr' h2, fuseL F h.2 hr h3]
    · rw [e1, e2]; rfl
theorem fuseS (F : Fuse (A := A) (B := B) (D := D) R) {kd : Int} : ∀ {ts us : List T} {ca : CA} {cb : CB} {cc : CC}, fineL ts → R ca cb cc → travS A kd ts ca = .ok us → travS B kd us cb = travS D kd ts cc
  | [], us, ca, cb, cc, h, hr, hu => by rw [travS_nil] at hu; injection hu with hu; subst hu; rw [travS_nil, travS_nil]
  | t :: ts, us, ca, cb, cc, h, hr, hu => by
    simp only [fineL] at h
    rw [travS_cons] at hu
    obtain ⟨c', h1, hu⟩ := Res1.bind_ok hu
    obtain ⟨t', h2, hu⟩ := Res1.bind_ok hu
    obtain ⟨ts', h3, hu⟩ := Res1.bind_ok hu
    injection hu with hu
    subst hu
    rw [travS_cons, travS_cons]
    rcases F.kid _ _ _ _ _ (Int.le_refl 0) (more_01 _).1 hr h1 with ⟨cb', cc', e1, e2, hr'⟩ | ⟨e, e1, e2⟩
    · rw [e1, e2]
      simp only [Res1.bind]
      rw [fuse F h.1 hr' h2, fuseS F h.2 hr h3]
    · rw [e1, e2]; rfl
theorem fuseB (F : Fuse (A := A) (B := B) (D := D) R) {kd : Int} : ∀ {bs us : List Br} {ca : CA} {cb : CB} {cc : CC}, fineB kd bs → R ca cb cc → travB A kd bs ca = .ok us → travB B kd us cb = travB D kd bs cc
  | [], us, ca, cb, cc, h, hr, hu => by rw [travB_nil] at hu; injection hu with hu; subst hu; rw [travB_nil, travB_nil]
  | .mk f ks :: bs, us, ca, cb, cc, h, hr, hu => by
    simp only [fineB] at h
    obtain ⟨h1, h2, h3, h4⟩ := h
    rw [travB_cons] at hu
    simp only [Br.face, Br.kids] at hu
    obtain ⟨o, h5, hu⟩ := Res1.bind_ok hu
    cases o with
    | none =>
      rw [fuseB F h4 hr hu]
      conv => rhs; rw [travB_cons]
      simp only [Br.face, Br.kids]
      rw [F.none _ _ _ _ hr h2 h5]
      rfl
    | some f' =>
      obtain ⟨ks', h6, hu⟩ := Res1.bind_ok hu
      obtain ⟨bs', h7, hu⟩ := Res1.bind_ok hu
      injection hu with hu
      subst hu
      rw [travB_cons, travB_cons]
      simp only [Br.face, Br.kids]
      rw [F.some _ _ _ _ _ hr h2 h5, fuseS F h3 hr h6, fuseB F h4 hr h7]
end
end
/-! ### Where one way is told, another one is -/
section
variable {CA CC : Type} {A : Tr CA} {D : Tr CC} (R : CA → CC → Prop)
structure Told : Prop where
  inl : ∀ ca cc k n nm r u, R ca cc → headOK k n nm r → A.own ca k n nm r = .ok (.inl u) → ∃ w, D.own cc k n nm r = .ok (.inl w)
  inr : ∀ ca cc k n nm r p, R ca cc → headOK k n nm r → A.own ca k n nm r = .ok (.inr p) → ∃ w, D.own cc k n nm r = .ok w
  none : ∀ ca cc f, R ca cc → faceRight f = true → A.face ca f = .ok none → D.face cc f = .ok none
  some : ∀ ca cc f f', R ca cc → faceRight f = true → A.face ca f = .ok (some f') → ∃ w, D.face cc f = .ok w
  kid : ∀ ca cc b ca', R ca cc → A.kid ca b = .ok ca' → ∃ cc', D.kid cc b = .ok cc' ∧ R ca' cc'
variable {R}
theorem Res1.bind_ex {α β : Type} {x : Res1 α} {k : α → Res1 β} (h : ∃ a, x = .ok a) (h2 : ∀ a, x = .ok a → ∃ b, k a = .ok b) : ∃ b, x.bind k = .ok b := by
  obtain ⟨a, ha⟩ := h
  obtain ⟨b, hb⟩ := h2 a ha
  exact ⟨b, by rw [ha]; exact hb⟩
mutual
theorem told (F : Told (A := A) (D := D) R) : ∀ {t u : T} {ca : CA} {cc : CC}, fineT t → R ca cc → trav A t ca = .ok u → ∃ w, trav D t cc = .ok w
  | .mk k n nm r ks ss, u, ca, cc, h, hr, hu => by
    simp only [fineT] at h
    obtain ⟨h1, h2, h3, h4, h5⟩ := h
    rw [trav_eq] at hu
    simp only [T.kind, T.n, T.name, T.r, T.kids, T.sys] at hu
    obtain ⟨o, h9, hu⟩ := Res1.bind_ok hu
    rw [trav_eq]
    simp only [T.kind, T.n, T.name, T.r, T.kids, T.sys]
    cases o with
    | inl v =>
      obtain ⟨w, hw⟩ := F.inl _ _ _ _ _ _ _ hr h1 h9
      exact ⟨w, by rw [hw]; rfl⟩
    | inr p =>
      obtain ⟨ks', h10, hu⟩ := Res1.bind_ok hu
      obtain ⟨ss', h11, hu⟩ := Res1.bind_ok hu
      refine Res1.bind_ex (F.inr _ _ _ _ _ _ _ hr h1 h9) (fun o _ => ?_)
      cases o with
      | inl v => exact ⟨v, rfl⟩
      | inr q =>
        refine Res1.bind_ex (toldL F h4 hr h10) (fun a _ => Res1.bind_ex (toldB F h5 hr h11) (fun b _ => ⟨_, rfl⟩))
theorem toldL (F : Told (A := A) (D := D) R) {kd : Int} : ∀ {ts us : List T} {i : Nat} {ca : CA} {cc : CC}, fineL ts → R ca cc → travL A kd i ts ca = .ok us → ∃ w, travL D kd i ts cc = .ok w
  | [], us, i, ca, cc, h, hr, hu => ⟨[], travL_nil _ _ _⟩
  | t :: ts, us, i, ca, cc, h, hr, hu => by
    simp only [fineL] at h
    rw [travL_cons] at hu
    obtain ⟨c', h1, hu⟩ := Res1.bind_ok hu
    obtain ⟨t', h2, hu⟩ := Res1.bind_ok hu
    obtain ⟨ts', h3, hu⟩ := Res1.bind_ok hu
    obtain ⟨cc', e2, hr'⟩ := F.kid _ _ _ _ hr h1
    rw [travL_cons]
    refine Res1.bind_ex ⟨cc', e2⟩ (fun a9 ha => ?_)
    rw [e2] at ha
    injection ha with ha
    subst ha
    exact Res1.bind_ex (told F h.1 hr' h2) (fun a _ => Res1.bind_ex (toldL F h.2 hr h3) (fun b _ => ⟨_, rfl⟩))
theorem toldS (F : Told (A := A) (D := D) R) {kd : Int} : ∀ {ts us : List T} {ca : CA} {cc : CC}, fineL ts → R ca cc → travS A kd ts ca = .ok us → ∃ w, travS D kd ts cc = .ok w
  | [], us, ca, cc, h, hr, hu => ⟨[], travS_nil _ _⟩
  | t :: ts, us, ca, cc, h, hr, hu => by
    simp only [fineL] at h
    rw [travS_cons] at hu
    obtain ⟨c', h1, hu⟩ := Res1.bind_ok hu
    obtain ⟨t', h2, hu⟩ := Res1.bind_ok hu
    obtain ⟨ts', h3, hu⟩ := Res1.bind_ok hu
    obtain ⟨cc', e2, hr'⟩ := F.kid _ _ _ _ hr h1
    rw [travS_cons]
    refine Res1.bind_ex ⟨cc', e2⟩ (fun a9 ha => ?_)
    rw [e2] at ha
    injection ha with ha
    subst ha
    exact Res1.bind_ex (told F h.1 hr' h2) (fun a _ => Res1.bind_ex (toldS F h.2 hr h3) (fun b _ => ⟨_, rfl⟩))
theorem toldB (F : Told (A := A) (D := D) R) {kd : Int} : ∀ {bs us : List Br} {ca : CA} {cc : CC}, fineB kd bs → R ca cc → travB A kd bs ca = .ok us → ∃ w, travB D kd bs cc = .ok w
  | [], us, ca, cc, h, hr, hu => ⟨[], travB_nil _ _⟩
  | .mk f ks :: bs, us, ca, cc, h, hr, hu => by
    simp only [fineB] at h
    obtain ⟨h1, h2, h3, h4⟩ := h
    rw [travB_cons] at hu
    simp only [Br.face, Br.kids] at hu
    obtain ⟨o, h5, hu⟩ := Res1.bind_ok hu
    rw [travB_cons]
    simp only [Br.face, Br.kids]
    cases o with
    | none =>
      rw [F.none _ _ _ hr h2 h5]
      exact toldB F h4 hr hu
    | some f' =>
      obtain ⟨ks', h6, hu⟩ := Res1.bind_ok hu
      obtain ⟨bs', h7, hu⟩ := Res1.bind_ok hu
      refine Res1.bind_ex (F.some _ _ _ _ hr h2 h5) (fun o _ => ?_)
      cases o with
      | none => exact toldB F h4 hr h7
      | some q => exact Res1.bind_ex (toldS F h3 hr h6) (fun a _ => Res1.bind_ex (toldB F h4 hr h7) (fun b _ => ⟨_, rfl⟩))
end
end
end Go.Hy
namespace Go.Hy
set_option linter.unusedVariables false
set_option linter.unusedSimpArgs false
set_option linter.unusedSectionVars false
set_option linter.unusedVariables false
end Go.Hy
namespace Go.Hy
set_option linter.unusedVariables false
set_option linter.unusedSimpArgs false
set_option linter.unusedSectionVars false
theorem formed_size {t : T} (h : formedP t = 0) : size t ≤ 20000 := by
  unfold formedP at h
  split at h
  · rename_i hs; exact absurd h hs
  · rename_i hs
    simp only [ne_eq, Decidable.not_not, sized] at hs
    split at hs
    · cases hs
    · split at hs
      · cases hs
      · omega
end Go.Hy
namespace Go.Hy
set_option linter.unusedVariables false
set_option linter.unusedSimpArgs false
set_option linter.unusedSectionVars false
set_option linter.unusedVariables false
set_option linter.unusedSimpArgs false
/-! ### Masks, bit by bit -/
theorem maskLift_bit {s : Nat} {f b : Int} (h : (maskLift s f b).1 = 0) (i : Nat) : 0 ≤ f ∧ 0 ≤ b ∧ (maskLift s f b).2.testBit i = ((decide (i < min f.toNat 24) && (s &&& 16777215).testBit i) || (decide (min f.toNat 24 + b.toNat ≤ i) && (s &&& 16777215).testBit (i - b.toNat))) := by
  by_cases h0 : f < 0 ∨ b < 0
  · rw [maskLift, if_pos h0] at h; cases h
  · have hq : ∀ j, (s &&& 16777215).testBit j = true → j < 24 := fun j hj => by rw [and24_bit, Bool.and_eq_true, decide_eq_true_eq] at hj; exact hj.1
    refine ⟨by omega, by omega, ?_⟩
    generalize hF : min f.toNat 24 = F at *
    by_cases h1 : andNot32 (s &&& 16777215) (2 ^ (min f.toNat 24) - 1) = 0
    · rw [maskLift, if_neg h0, if_pos h1]
      show ((s &&& 16777215) &&& (2 ^ (min f.toNat 24) - 1)).testBit i = _
      rw [hF] at h1 ⊢
      rw [Nat.testBit_and, mask_bit]
      have h2 : (decide (F + b.toNat ≤ i) && (s &&& 16777215).testBit (i - b.toNat)) = false := by
        cases h3 : (s &&& 16777215).testBit (i - b.toNat) with
        | false => rw [Bool.and_false]
        | true =>
          rw [Bool.and_true]
          refine decide_eq_false (fun h4 => ?_)
          have h5 : (andNot32 (s &&& 16777215) (2 ^ F - 1)).testBit (i - b.toNat) = true := by
            rw [andNot32_bit, mask_bit, h3, decide_eq_true (by have := hq _ h3; omega), decide_eq_false (by omega)]; rfl
          rw [h1, Nat.zero_testBit] at h5
          cases h5
      rw [h2, Bool.or_false, Bool.and_comm]
    · by_cases h2 : 24 ≤ b ∨ 16777215 < andNot32 (s &&& 16777215) (2 ^ (min f.toNat 24) - 1) * 2 ^ b.toNat
      · rw [maskLift, if_neg h0, if_neg h1, if_pos h2] at h; cases h
      · rw [maskLift, if_neg h0, if_neg h1, if_neg h2]
        show (((s &&& 16777215) &&& (2 ^ (min f.toNat 24) - 1)) ||| (andNot32 (s &&& 16777215) (2 ^ (min f.toNat 24) - 1) * 2 ^ b.toNat)).testBit i = _
        rw [hF, Nat.testBit_or, Nat.testBit_and, mask_bit, Nat.testBit_mul_two_pow, andNot32_bit, mask_bit]
        cases h3 : (s &&& 16777215).testBit (i - b.toNat) with
        | false => simp [Bool.and_comm]
        | true =>
          have h4 := hq _ h3
          rw [decide_eq_true (show i - b.toNat < 32 by omega)]
          simp only [Bool.and_true, Bool.true_and]
          rw [Bool.and_comm]
          congr 1
          by_cases h5 : F + b.toNat ≤ i
          · rw [decide_eq_true (show b.toNat ≤ i by omega), decide_eq_false (show ¬ i - b.toNat < F by omega), decide_eq_true h5]; rfl
          · rw [decide_eq_false h5]
            by_cases h6 : b.toNat ≤ i
            · rw [decide_eq_true h6, decide_eq_true (show i - b.toNat < F by omega)]; rfl
            · rw [decide_eq_false h6]; rfl
theorem maskLift_clash {p q : Nat} {f b : Int} (hp : (maskLift p f b).1 = 0) (hq : (maskLift q f b).1 = 0) (h : p &&& q = 0) : (maskLift p f b).2 &&& (maskLift q f b).2 = 0 := by
  refine Nat.eq_of_testBit_eq (fun i => ?_)
  have hb : ∀ j, (p &&& 16777215).testBit j = true → (q &&& 16777215).testBit j = true → False := fun j h1 h2 => by
    rw [and24_bit, Bool.and_eq_true] at h1 h2
    have : (p &&& q).testBit j = true := by rw [Nat.testBit_and, h1.2, h2.2]; rfl
    rw [h, Nat.zero_testBit] at this
    cases this
  rw [Nat.testBit_and, (maskLift_bit hp i).2.2, (maskLift_bit hq i).2.2, Nat.zero_testBit]
  cases h1 : (p &&& 16777215).testBit i <;> cases h2 : (q &&& 16777215).testBit i <;> cases h3 : (p &&& 16777215).testBit (i - b.toNat) <;> cases h4 : (q &&& 16777215).testBit (i - b.toNat) <;> first
    | exact (hb _ h1 h2).elim
    | exact (hb _ h3 h4).elim
    | (simp only [Bool.and_true, Bool.and_false, Bool.or_false, Bool.false_or, Bool.and_eq_false_iff, decide_eq_false_iff_not]; done)
    | (by_cases h5 : i < min f.toNat 24
       · rw [decide_eq_true h5, decide_eq_false (show ¬ min f.toNat 24 + b.toNat ≤ i by omega)]; simp
       · rw [decide_eq_false h5]; simp)
/-! ### Clauses, formulas -/
theorem clLift_ok {c : Cl} {f b : Int} (h : (clLift c f b).1 = 0) : right24 c = true ∧ (maskLift c.pos f b).1 = 0 ∧ (maskLift c.neg f b).1 = 0 ∧ (clLift c f b).2 = ⟨(maskLift c.pos f b).2, (maskLift c.neg f b).2⟩ := by
  unfold clLift at h ⊢
  split at h
  · cases h
  · rename_i h1
    split at h
    · rename_i h2; exact absurd h h2
    · rename_i h2
      split at h
      · rename_i h3; exact absurd h h3
      · rename_i h3
        rw [if_neg h1, if_neg h2, if_neg h3]
        exact ⟨by simpa using h1, Decidable.not_not.mp h2, Decidable.not_not.mp h3, rfl⟩
theorem clLift_clash {c : Cl} {f b : Int} (h : (clLift c f b).1 = 0) (hc : clash c = false) : clash (clLift c f b).2 = false := by
  obtain ⟨_, h1, h2, h3⟩ := clLift_ok h
  rw [h3]
  unfold clash at hc ⊢
  have h4 : c.pos &&& c.neg = 0 := Decidable.not_not.mp (of_decide_eq_false hc)
  exact decide_eq_false (Decidable.not_not.mpr (maskLift_clash h1 h2 h4))
theorem leastF_cases (l : List Cl) : ((leastF l).1 = 0 ∧ l.all right24 = true ∧ (leastF l).2 = refLeast l ∧ (refLeast l).length ≤ 64) ∨ (leastF l).1 = 2 ∨ (leastF l).1 = 3 := by
  unfold leastF
  split
  · exact .inr (.inl rfl)
  · rename_i h1
    split
    · exact .inr (.inr rfl)
    · rename_i h2
      exact .inl ⟨rfl, by simpa using h1, rfl, by omega⟩
theorem leastF_fR {l : List Cl} (h : (leastF l).1 = 0) : fRight (leastF l).2 = true := by
  rcases leastF_cases l with ⟨_, h1, h2, h3⟩ | h1 | h1
  · rw [h2]
    unfold fRight
    rw [Bool.and_eq_true, Bool.and_eq_true, Bool.and_eq_true]
    refine ⟨⟨⟨List.all_eq_true.mpr fun c hc => List.all_eq_true.mp h1 c (refLeast_mem.mp hc).1, sortedC_iff.mpr (refLeast_sorted l)⟩, apart_iff.mpr fun a ha b hb => needless_iff.mp (refLeast_mem.mp ha).2 b (refLeast_mem.mp hb).1⟩, decide_eq_true h3⟩
  · rw [h1] at h; cases h
  · rw [h1] at h; cases h
theorem leastF_sub {l : List Cl} (h : (leastF l).1 = 0) {c : Cl} (hc : c ∈ (leastF l).2) : c ∈ l := by
  rcases leastF_cases l with ⟨_, h1, h2, h3⟩ | h1 | h1
  · rw [h2] at hc; exact (refLeast_mem.mp hc).1
  · rw [h1] at h; cases h
  · rw [h1] at h; cases h
theorem formLift_cases {l : List Cl} {f b : Int} (h : (formLift l f b).1 = 0) : fRight l = true ∧ (∀ c, c ∈ l → (clLift c f b).1 = 0) ∧ formLift l f b = leastF (l.map fun c => (clLift c f b).2) := by
  unfold formLift at h ⊢
  split at h
  · cases h
  · rename_i h1
    split at h
    · rename_i h2; exact absurd h h2
    · rename_i h2
      have h3 : (foldC (fun c => clLift c f b) l).1 = 0 := Decidable.not_not.mp h2
      rw [if_neg h1, if_neg h2]
      exact ⟨by simpa using h1, foldC_iff.mp h3, by rw [foldC_map h3]⟩
theorem formLift_fR {l : List Cl} {f b : Int} (h : (formLift l f b).1 = 0) : fRight (formLift l f b).2 = true := by
  obtain ⟨_, _, h3⟩ := formLift_cases h
  rw [h3] at h ⊢
  exact leastF_fR h
theorem formLift_face {l : List Cl} {f b : Int} (h : (formLift l f b).1 = 0) (hl : faceRight l = true) : faceRight (formLift l f b).2 = true := by
  obtain ⟨_, h2, h3⟩ := formLift_cases h
  have hf := formLift_fR h
  unfold faceRight at hl ⊢
  rw [Bool.and_eq_true, Bool.not_eq_true'] at hl ⊢
  refine ⟨hf, ?_⟩
  rw [List.any_eq_false]
  intro c hc
  rw [h3] at h hc
  obtain ⟨d, hd, rfl⟩ := List.mem_map.mp (leastF_sub h hc)
  have h4 := List.any_eq_false.mp hl.2 d hd
  rw [Bool.not_eq_true] at h4 ⊢
  exact clLift_clash (h2 d hd) h4
theorem rowLift_fR {l g : List Cl} {f b : Int} (h : rowLift b l f = .ok g) (hl : fRight l = true) : fRight g = true := by
  unfold rowLift at h
  split at h
  · injection h with h; subst h; exact hl
  · split at h
    · rename_i h2; injection h with h; subst h; exact formLift_fR h2
    · cases h
theorem rowLift_face {l g : List Cl} {f b : Int} (h : rowLift b l f = .ok g) (hl : faceRight l = true) : faceRight g = true := by
  unfold rowLift at h
  split at h
  · injection h with h; subst h; exact hl
  · split at h
    · rename_i h2; injection h with h; subst h; exact formLift_face h2 hl
    · cases h
theorem fRight_nil : fRight [] = true := by decide
theorem formLift_nil (f b : Int) : formLift [] f b = (0, []) := by
  unfold formLift
  rw [if_neg (by rw [fRight_nil]; decide)]
  have h : foldC (fun c => clLift c f b) [] = (0, []) := rfl
  rw [h, if_neg (by decide)]
  exact leastF_fRight.mp fRight_nil
theorem rowLift_nil (f b : Int) : rowLift b [] f = .ok [] := by
  unfold rowLift
  rw [formLift_nil]
  simp
/-! ### Lifted terms are formed -/
theorem lift_fine {vb db : Int} (hv : 0 ≤ vb) {t u : T} {c : Int × Int} (h : fineT t) (hu : trav (liftTr vb db) t c = .ok u) : fineT u := by
  refine trav_fine (A := liftTr vb db) ?_ ?_ ?_ h hu
  · intro c k n nm r p h ho
    obtain ⟨h1, h2, h3, h4, h5, h6, h7⟩ := h
    obtain ⟨g, hg, ho⟩ := Res1.bind_ok (x := rowLift db r c.2) ho
    have hnil : r = [] → g = [] := fun e => by rw [e, rowLift_nil] at hg; injection hg with hg; exact hg.symm
    have key : ∀ n', (k ≠ 1 → n' = n) → (k = 1 → 0 ≤ n') → headOK k n' nm g := fun n' e1 e2 =>
      ⟨fun hk => by rw [e1 hk]; exact h1 hk, h2, fun hk => ⟨hnil (h3 hk).1, e2 hk⟩, fun hk => ⟨hnil (h4 hk).1, (h4 hk).2⟩, fun hk => rowLift_fR hg (h5 hk), fun hk => rowLift_face hg (h6 hk), fun hk => hnil (h7 hk)⟩
    split at ho
    · rename_i hk
      split at ho
      · cases ho
      · injection ho with ho; injection ho with ho; subst ho
        exact key _ (fun h => absurd hk.1 h) (fun h => by have := (h3 h).2; dsimp only; omega)
    · injection ho with ho; injection ho with ho; subst ho
      exact key _ (fun _ => rfl) (fun h => (h3 h).2)
  · intro c k n nm r u _ ho
    exact absurd ho lift_own_inl
  · intro c f f' hf ho
    obtain ⟨g, hg, ho⟩ := Res1.bind_ok (x := rowLift db f c.2) ho
    injection ho with ho; injection ho with ho; subst ho
    exact rowLift_face hg hf
section
variable {C : Type} {A : Tr C}
theorem travL_of {k : Int} {c : C} : ∀ {ts us : List T} {i : Nat}, travL A k i ts c = .ok us → ∀ u, u ∈ us → ∃ t, t ∈ ts ∧ ∃ c', trav A t c' = .ok u
  | [], us, i, h, u, hu => by rw [travL_nil] at h; injection h with h; subst h; cases hu
  | t :: ts, us, i, h, u, hu => by
    rw [travL_cons] at h
    obtain ⟨c', _, h⟩ := Res1.bind_ok h
    obtain ⟨t', h2, h⟩ := Res1.bind_ok h
    obtain ⟨ts', h3, h⟩ := Res1.bind_ok h
    injection h with h
    subst h
    rcases List.mem_cons.mp hu with rfl | hu
    · exact ⟨t, List.mem_cons_self, c', h2⟩
    · obtain ⟨t9, h9, h10⟩ := travL_of h3 u hu
      exact ⟨t9, List.mem_cons_of_mem _ h9, h10⟩
theorem travS_of {k : Int} {c : C} : ∀ {ts us : List T}, travS A k ts c = .ok us → ∀ u, u ∈ us → ∃ t, t ∈ ts ∧ ∃ c', trav A t c' = .ok u
  | [], us, h, u, hu => by rw [travS_nil] at h; injection h with h; subst h; cases hu
  | t :: ts, us, h, u, hu => by
    rw [travS_cons] at h
    obtain ⟨c', _, h⟩ := Res1.bind_ok h
    obtain ⟨t', h2, h⟩ := Res1.bind_ok h
    obtain ⟨ts', h3, h⟩ := Res1.bind_ok h
    injection h with h
    subst h
    rcases List.mem_cons.mp hu with rfl | hu
    · exact ⟨t, List.mem_cons_self, c', h2⟩
    · obtain ⟨t9, h9, h10⟩ := travS_of h3 u hu
      exact ⟨t9, List.mem_cons_of_mem _ h9, h10⟩
theorem travB_of {k : Int} {c : C} : ∀ {bs us : List Br}, travB A k bs c = .ok us → ∀ u, u ∈ us → ∃ b, b ∈ bs ∧ ∀ x, x ∈ u.kids → ∃ t, t ∈ b.kids ∧ ∃ c', trav A t c' = .ok x
  | [], us, h, u, hu => by rw [travB_nil] at h; injection h with h; subst h; cases hu
  | .mk f ks :: bs, us, h, u, hu => by
    rw [travB_cons] at h
    obtain ⟨o, h1, h⟩ := Res1.bind_ok h
    cases o with
    | none =>
      obtain ⟨b, hb, h9⟩ := travB_of (bs := bs) h u hu
      exact ⟨b, List.mem_cons_of_mem _ hb, h9⟩
    | some f' =>
      obtain ⟨ks', h2, h⟩ := Res1.bind_ok h
      obtain ⟨bs', h3, h⟩ := Res1.bind_ok h
      injection h with h
      subst h
      rcases List.mem_cons.mp hu with rfl | hu
      · exact ⟨.mk f ks, List.mem_cons_self, fun x hx => travS_of h2 x hx⟩
      · obtain ⟨b, hb, h9⟩ := travB_of h3 u hu
        exact ⟨b, List.mem_cons_of_mem _ hb, h9⟩
end
theorem lift_depth {vb db : Int} : ∀ (t : T) {u : T} {c : Int × Int}, trav (liftTr vb db) t c = .ok u → depth u ≤ depth t := T.ind fun t ih u c hu => by
  have h0 := depth_pos t
  rw [show depth t = (depth t - 1) + 1 by omega, depth_le_iff]
  rw [trav_eq] at hu
  obtain ⟨o, h9, hu⟩ := Res1.bind_ok hu
  cases o with
  | inl v => exact absurd h9 lift_own_inl
  | inr p =>
    obtain ⟨ks', h10, hu⟩ := Res1.bind_ok hu
    obtain ⟨ss', h11, hu⟩ := Res1.bind_ok hu
    injection hu with hu
    subst hu
    intro q hq
    rcases part_cases hq with ⟨i, hi, rfl⟩ | ⟨s, k, hs, hk, rfl⟩
    · obtain ⟨x, hx, c', h12⟩ := travL_of h10 _ (getD_mem (d := t0) hi)
      obtain ⟨p', hp', e⟩ := kid_mem_parts hx
      have h13 := part_depth hp'
      have h14 := ih p' hp' (c := c') (by rw [e]; exact h12)
      exact Nat.le_trans h14 (by omega)
    · obtain ⟨b, hb, h12⟩ := travB_of h11 _ (getD_mem (d := br0) hs)
      obtain ⟨x, hx, c', h13⟩ := h12 _ (getD_mem (d := t0) hk)
      obtain ⟨p', hp', e⟩ := sys_mem_parts hb hx
      have h14 := part_depth hp'
      have h15 := ih p' hp' (c := c') (by rw [e]; exact h13)
      exact Nat.le_trans h15 (by omega)
theorem lift_formed {vb db : Int} (hv : 0 ≤ vb) {t u : T} {c : Int × Int} (h : formedP t = 0) (hu : trav (liftTr vb db) t c = .ok u) : formedP u = 0 := by
  obtain ⟨h1, h2⟩ := formed_fine.mp h
  obtain ⟨h3, h4⟩ := sized_zero.mp h1
  exact formed_fine.mpr ⟨sized_zero.mpr ⟨Nat.le_trans (lift_depth t hu) h3, by rw [lift_size hu]; exact h4⟩, lift_fine hv h2 hu⟩
/-! ### Lifts, one behind the other -/
theorem rowLift_zero (l : List Cl) (f : Int) : rowLift 0 l f = .ok l := by unfold rowLift; rw [if_pos (.inl rfl)]
/-- What liftTr makes of a node. -/
theorem lift_own_eq {vb db : Int} {c : Int × Int} {k n : Int} {nm : ByteArray} {r : List Cl} : (liftTr vb db).own c k n nm r = (rowLift db r c.2).bind fun r' => if k = 1 ∧ c.1 ≤ n ∧ 1000000000 - vb < n then .bad 100 else .ok (.inr (liftN vb c.1 k n, r')) := by
  simp only [liftTr, liftN]
  congr 1
  funext g
  by_cases h1 : k = 1 ∧ c.1 ≤ n
  · rw [if_pos h1, if_pos h1]
    by_cases h2 : 1000000000 - vb < n
    · rw [if_pos h2, if_pos ⟨h1.1, h1.2, h2⟩]
    · rw [if_neg h2, if_neg (fun h => h2 h.2.2)]
  · rw [if_neg h1, if_neg h1, if_neg (fun h => h1 ⟨h.1, h.2.1⟩)]
theorem lift_own_ok {vb db : Int} {c : Int × Int} {k n : Int} {nm : ByteArray} {r : List Cl} {p : Int × List Cl} (h : (liftTr vb db).own c k n nm r = .ok (.inr p)) : rowLift db r c.2 = .ok p.2 ∧ ¬ (k = 1 ∧ c.1 ≤ n ∧ 1000000000 - vb < n) ∧ p.1 = liftN vb c.1 k n := by
  rw [lift_own_eq] at h
  obtain ⟨g, hg, h⟩ := Res1.bind_ok h
  split at h
  · cases h
  · rename_i h1
    injection h with h; injection h with h; subst h
    exact ⟨hg, h1, rfl⟩
theorem lift_face_eq {vb db : Int} {c : Int × Int} {f f' : List Cl} (h : (liftTr vb db).face c f = .ok (some f')) : rowLift db f c.2 = .ok f' := by
  obtain ⟨g, hg, h⟩ := Res1.bind_ok (x := rowLift db f c.2) h
  injection h with h; injection h with h; subst h; exact hg
theorem lift_face_none {vb db : Int} {c : Int × Int} {f : List Cl} : (liftTr vb db).face c f ≠ .ok none := fun h => by
  obtain ⟨g, hg, h⟩ := Res1.bind_ok (x := rowLift db f c.2) h
  injection h with h; cases h
abbrev Vl (a : Int) (t : T) : Res1 T := trav (liftTr a 0) t (0, 0)
def R3 (a b c : Int × Int) : Prop := a = b ∧ b = c
theorem liftN_add {a c v k n : Int} (ha : 0 ≤ a) : liftN c v k (liftN a v k n) = liftN (a + c) v k n := by
  unfold liftN
  by_cases h : k = 1 ∧ v ≤ n
  · rw [if_pos h, if_pos h, if_pos ⟨h.1, by omega⟩]; omega
  · rw [if_neg h, if_neg h, if_neg h]
theorem lift_face_def {vb db : Int} {c : Int × Int} {f : List Cl} : (liftTr vb db).face c f = (rowLift db f c.2).bind fun f' => .ok (some f') := rfl
/-- More variables. -/
theorem fuse_LV {a b c : Int} (ha : 0 ≤ a) (hc : 0 ≤ c) : Fuse (A := liftTr a b) (B := liftTr c 0) (D := liftTr (a + c) b) R3 where
  inl := fun ca cb cc k n nm r u _ _ h => absurd h lift_own_inl
  inr := by
    rintro ca cb cc k n nm r p ⟨rfl, rfl⟩ _ h
    obtain ⟨h1, h2, h3⟩ := lift_own_ok h
    rw [lift_own_eq, lift_own_eq, h1, rowLift_zero, h3]
    simp only [Res1.bind]
    have h4 : liftN c ca.1 k (liftN a ca.1 k n) = liftN (a + c) ca.1 k n := liftN_add ha
    rw [h4]
    have h5 : (k = 1 ∧ ca.1 ≤ liftN a ca.1 k n ∧ 1000000000 - c < liftN a ca.1 k n) ↔ (k = 1 ∧ ca.1 ≤ n ∧ 1000000000 - (a + c) < n) := by
      unfold liftN; split <;> omega
    by_cases h6 : k = 1 ∧ ca.1 ≤ n ∧ 1000000000 - (a + c) < n
    · rw [if_pos h6, if_pos (h5.mpr h6)]
    · rw [if_neg h6, if_neg (fun h => h6 (h5.mp h))]
  none := fun ca cb cc f _ _ h => absurd h lift_face_none
  some := by
    rintro ca cb cc f f' ⟨rfl, rfl⟩ _ h
    have h1 := lift_face_eq h
    rw [lift_face_def, lift_face_def, h1, rowLift_zero]
  kid := by
    rintro ca cb cc b' ca' hb1 hb2 ⟨rfl, rfl⟩ h
    injection h with h; subst h
    exact .inl ⟨_, _, rfl, rfl, rfl, rfl⟩
def asRes (r : Res1 T) : Int × T := match r with
  | .ok u => (0, u)
  | .bad e => (e, t0)
theorem guard_as {t : T} {ns : List Int} {r : Res1 T} (h : formedP t = 0) (h2 : ns.all (fun n => decide (0 ≤ n)) = true) : guardRes t ns r = asRes r := by
  cases r with
  | ok u => exact guard_ok h h2 rfl
  | bad e => exact guard_bad h h2 rfl
theorem most_in64 {b : Int} (h0 : 0 ≤ b) (h1 : b ≤ 1000000) : 0 ≤ most b := by rw [most_of (by unfold in64; omega) h0]; omega
theorem vars_as {t : T} {b : Int} (h : formedP t = 0) (hv : 0 ≤ b ∧ b ≤ 1000000) : varsRes t 0 b = asRes (Vl b t) := by
  have := most_in64 hv.1 hv.2
  exact guard_as h (by simp [hv.1, this])
end Go.Hy
namespace Go.Hy
set_option linter.unusedVariables false
set_option linter.unusedSimpArgs false
set_option linter.unusedSectionVars false
set_option linter.unusedVariables false
set_option linter.unusedSimpArgs false
/-! ### May a term be, node by node -/
def headM (v d : Int) (k n : Int) (r : List Cl) : Prop := d ≤ 24 ∧ (k = 1 → n < v) ∧ within r d = true
mutual
def mayT : T → Int → Int → Prop
  | .mk k n nm r ks ss, v, d => headM v d k n r ∧ mayL k 0 ks v d ∧ mayB k ss v d
def mayL (k : Int) : Nat → List T → Int → Int → Prop
  | _, [], _, _ => True
  | i, t :: ts, v, d => mayT t (v + (binds k i).1) (d + (binds k i).2) ∧ mayL k (i + 1) ts v d
def mayS (k : Int) : List T → Int → Int → Prop
  | [], _, _ => True
  | t :: ts, v, d => mayT t v (d + more k) ∧ mayS k ts v d
def mayB (k : Int) : List Br → Int → Int → Prop
  | [], _, _ => True
  | .mk f ks :: bs, v, d => within f d = true ∧ mayS k ks v d ∧ mayB k bs v d
end
theorem within_nil (d : Int) : within [] d = true := by
  unfold within
  rw [show fDims [] = 0 from rfl, Nat.zero_div]
  simp
theorem ownB_iff {t : T} {d : Int} {b : Br} : ownB t d b = true ↔ ((b.kids.length : Int) = partsN t.kind ∧ faceRight b.face = true) ∧ within b.face d = true := by
  unfold ownB
  rw [Bool.and_eq_true, Bool.and_eq_true, decide_eq_true_iff]
theorem own_link {t : T} {v d : Int} (hv : 0 ≤ v) : ownP t v d = true ↔ ownP t (-1) 24 = true ∧ (t.kind = 1 → t.n < v) ∧ within t.r d = true ∧ ∀ b, b ∈ t.sys → within b.face d = true := by
  rw [own_iff, own_iff]
  have hsys : ∀ (h : own1 t = false), partsN t.kind = 0 → t.sys = [] := fun h h0 => by
    unfold own1 at h
    rw [Bool.or_eq_false_iff, Bool.and_eq_false_iff] at h
    rcases h.2 with h2 | h2
    · exact absurd h0 (of_decide_eq_false h2)
    · exact List.eq_nil_of_length_eq_zero (by have := of_decide_eq_false h2; omega)
  have hw24 : ∀ l : List Cl, within l 24 = true := fun l => within_24 l (by omega)
  constructor
  · rintro ⟨h1, h2⟩
    refine (fun (h : (if t.kind = 1 then t.r.length = 0 ∧ 0 ≤ t.n ∧ ((-1 : Int) < 0 ∨ t.n < -1) else if t.kind = 2 then t.r.length = 0 ∧ nameOK t.name = true else if t.kind = 13 ∨ t.kind = 21 ∨ t.kind = 26 then fRight t.r = true ∧ within t.r 24 = true else if t.kind = 14 then faceRight t.r = true ∧ within t.r 24 = true else (∀ x, x ∈ t.sys → ownB t 24 x = true) ∧ t.r.length = 0) ∧ (t.kind = 1 → t.n < v) ∧ within t.r d = true ∧ ∀ b, b ∈ t.sys → within b.face d = true) => ⟨⟨h1, h.1⟩, h.2⟩) ?_
    split at h2
    · rename_i hk
      have hs := hsys h1 (partsN_zero (by omega))
      rw [hs, List.eq_nil_of_length_eq_zero h2.1]
      exact ⟨by rw [if_pos hk]; exact ⟨rfl, h2.2.1, .inl (by decide)⟩, fun _ => by omega, within_nil d, fun b hb => (by cases hb)⟩
    · rename_i hk1
      rw [if_neg hk1]
      split at h2
      · rename_i hk
        have hs := hsys h1 (partsN_zero (by omega))
        rw [hs, List.eq_nil_of_length_eq_zero h2.1]
        exact ⟨by rw [if_pos hk]; exact ⟨rfl, h2.2⟩, fun h => absurd h hk1, within_nil d, fun b hb => (by cases hb)⟩
      · rename_i hk2
        rw [if_neg hk2]
        split at h2
        · rename_i hk
          have hs := hsys h1 (partsN_zero (by omega))
          rw [hs]
          exact ⟨by rw [if_pos hk]; exact ⟨h2.1, hw24 _⟩, fun h => absurd h hk1, h2.2, fun b hb => (by cases hb)⟩
        · rename_i hk3
          rw [if_neg hk3]
          split at h2
          · rename_i hk
            have hs := hsys h1 (partsN_zero (by omega))
            rw [hs]
            exact ⟨by rw [if_pos hk]; exact ⟨h2.1, hw24 _⟩, fun h => absurd h hk1, h2.2, fun b hb => (by cases hb)⟩
          · rename_i hk4
            rw [if_neg hk4, List.eq_nil_of_length_eq_zero h2.2]
            exact ⟨⟨fun x hx => ownB_iff.mpr ⟨(ownB_iff.mp (h2.1 x hx)).1, hw24 _⟩, rfl⟩, fun h => absurd h hk1, within_nil d, fun b hb => (ownB_iff.mp (h2.1 b hb)).2⟩
  · rintro ⟨⟨h1, h2⟩, h3, h4, h5⟩
    refine ⟨h1, ?_⟩
    split at h2
    · rename_i hk; rw [if_pos hk]; exact ⟨h2.1, h2.2.1, .inr (h3 hk)⟩
    · rename_i hk1
      rw [if_neg hk1]
      split at h2
      · rename_i hk; rw [if_pos hk]; exact h2
      · rename_i hk2
        rw [if_neg hk2]
        split at h2
        · rename_i hk; rw [if_pos hk]; exact ⟨h2.1, h4⟩
        · rename_i hk3
          rw [if_neg hk3]
          split at h2
          · rename_i hk; rw [if_pos hk]; exact ⟨h2.1, h4⟩
          · rename_i hk4
            rw [if_neg hk4]
            exact ⟨fun x hx => ownB_iff.mpr ⟨(ownB_iff.mp (h2.1 x hx)).1, h5 x hx⟩, h2.2⟩
theorem mayL_iff {k v d : Int} : ∀ {ts : List T} {i : Nat}, mayL k i ts v d ↔ ∀ j, j < ts.length → mayT (ts.getD j t0) (v + (binds k ((i + j : Nat) : Int)).1) (d + (binds k ((i + j : Nat) : Int)).2)
  | [], i => by simp [mayL]
  | t :: ts, i => by
    simp only [mayL, mayL_iff (ts := ts) (i := i + 1)]
    constructor
    · rintro ⟨h1, h2⟩ j hj
      cases j with
      | zero => simpa using h1
      | succ j => rw [List.getD_cons_succ, show i + (j + 1) = i + 1 + j by omega]; exact h2 j (by simpa using hj)
    · intro h
      refine ⟨by simpa using h 0 (by simp), fun j hj => ?_⟩
      have := h (j + 1) (by simpa using hj)
      rw [List.getD_cons_succ, show i + (j + 1) = i + 1 + j by omega] at this
      exact this
theorem mayS_iff {k v d : Int} : ∀ {ts : List T}, mayS k ts v d ↔ ∀ j, j < ts.length → mayT (ts.getD j t0) v (d + more k)
  | [] => by simp [mayS]
  | t :: ts => by
    simp only [mayS, mayS_iff (ts := ts)]
    constructor
    · rintro ⟨h1, h2⟩ j hj
      cases j with
      | zero => simpa using h1
      | succ j => rw [List.getD_cons_succ]; exact h2 j (by simpa using hj)
    · intro h
      exact ⟨by simpa using h 0 (by simp), fun j hj => by have := h (j + 1) (by simpa using hj); rwa [List.getD_cons_succ] at this⟩
theorem mayB_iff {k v d : Int} : ∀ {bs : List Br}, mayB k bs v d ↔ ∀ b, b ∈ bs → within b.face d = true ∧ mayS k b.kids v d
  | [] => by simp [mayB]
  | .mk f ks :: bs => by
    simp only [mayB, mayB_iff (bs := bs), List.forall_mem_cons, Br.face, Br.kids, and_assoc]
theorem mayT_iff {t : T} {v d : Int} : mayT t v d ↔ headM v d t.kind t.n t.r ∧ (∀ b, b ∈ t.sys → within b.face d = true) ∧ ∀ p, p ∈ parts t → mayT p.1 (v + p.2.1) (d + p.2.2) := by
  have h : mayT t v d ↔ headM v d t.kind t.n t.r ∧ mayL t.kind 0 t.kids v d ∧ mayB t.kind t.sys v d := by
    obtain ⟨k, n, nm, r, ks, ss⟩ := t
    simp only [mayT, T.kind, T.n, T.r, T.kids, T.sys]
  rw [h, mayL_iff, mayB_iff]
  constructor
  · rintro ⟨h1, h2, h3⟩
    refine ⟨h1, fun b hb => (h3 b hb).1, fun p hp => ?_⟩
    rcases part_cases hp with ⟨i, hi, rfl⟩ | ⟨s, k, hs, hk, rfl⟩
    · have := h2 i hi; rw [Nat.zero_add] at this; exact this
    · have := mayS_iff.mp (h3 _ (getD_mem (d := br0) hs)).2 k hk; simpa using this
  · rintro ⟨h1, h2, h3⟩
    refine ⟨h1, fun j hj => ?_, fun b hb => ⟨h2 b hb, mayS_iff.mpr fun k hk => ?_⟩⟩
    · have := h3 _ (List.mem_of_getElem? (parts_kid t j hj)); rw [Nat.zero_add]; exact this
    · obtain ⟨s, hs, e⟩ := List.mem_iff_getElem.mp hb
      have e2 : t.sys.getD s br0 = b := by rw [getD_get (d := br0) hs]; exact e
      have := h3 _ (List.mem_of_getElem? (parts_sys t s k hs (by rw [e2]; exact hk)))
      rw [e2] at this
      simpa using this
theorem may_link : ∀ (t : T) (v d : Int), 0 ≤ v → v + size t ≤ 9000000000000000000 → (allP t v d true = true ↔ fineT t ∧ mayT t v d) := T.ind fun t ih v d h0 hb => by
  rw [all_iff, own_link h0, mayT_iff, fine_parts]
  have hown : ownP t (-1) 24 = true ↔ ∀ d' : Int, 24 ≤ d' → ownP t (-1) d' = true := by
    constructor
    · intro h d' hd'
      obtain ⟨k, n, nm, r, ks, ss⟩ := t
      exact (own24_iff hd').mpr ((own24_iff (by omega)).mp h)
    · intro h; exact h 24 (by omega)
  have key : ∀ p, p ∈ parts t → (allP p.1 (IntKind.i64.wrap (v + if v < 0 then 0 else p.2.1)) (d + p.2.2) true = true ↔ fineT p.1 ∧ mayT p.1 (v + p.2.1) (d + p.2.2)) := fun p hp => by
    have h1 := parts_01 hp
    have h2 := size_part_lt hp
    rw [if_neg (by omega), wrap_id (by unfold in64; omega)]
    exact ih p hp _ _ (by omega) (by omega)
  rw [hown]
  unfold headM
  constructor
  · rintro ⟨h1, ⟨h2, h3, h4, h5⟩, h6⟩
    exact ⟨⟨h2, fun p hp => ((key p hp).mp (h6 p hp)).1⟩, ⟨by simp at h1; omega, h3, h4⟩, h5, fun p hp => ((key p hp).mp (h6 p hp)).2⟩
  · rintro ⟨⟨h2, h6⟩, ⟨h1, h3, h4⟩, h5, h7⟩
    exact ⟨by simp; omega, ⟨h2, h3, h4, h5⟩, fun p hp => (key p hp).mpr ⟨h6 p hp, h7 p hp⟩⟩
theorem right_may {t : T} {v d : Int} (hv : 0 ≤ v) (hb : v ≤ 1000000000000) : rightP t v d = 0 ↔ 0 ≤ d ∧ d ≤ 24 ∧ sized t = 0 ∧ fineT t ∧ mayT t v d := by
  rw [right_zero]
  constructor
  · rintro ⟨_, h2, h3, h4, h5⟩
    have := (sized_zero.mp h4).2
    exact ⟨h2, h3, h4, (may_link t v d hv (by omega)).mp h5⟩
  · rintro ⟨h2, h3, h4, h5⟩
    have := (sized_zero.mp h4).2
    exact ⟨hv, h2, h3, h4, (may_link t v d hv (by omega)).mpr h5⟩
/-! ### A way is told where it is told of each part -/
section
variable {C : Type} {A : Tr C}
theorem travL_ex {k : Int} {c : C} : ∀ {ts : List T} {i : Nat}, (∀ j, j < ts.length → ∃ c' u, A.kid c (binds k ((i + j : Nat) : Int)) = .ok c' ∧ trav A (ts.getD j t0) c' = .ok u) → ∃ us, travL A k i ts c = .ok us
  | [], i, h => ⟨[], travL_nil _ _ _⟩
  | t :: ts, i, h => by
    obtain ⟨c', u, h1, h2⟩ := h 0 (by simp)
    obtain ⟨us, h3⟩ := travL_ex (ts := ts) (i := i + 1) (fun j hj => by
      have := h (j + 1) (by simpa using hj)
      rw [List.getD_cons_succ, show i + (j + 1) = i + 1 + j by omega] at this
      exact this)
    rw [Nat.add_zero] at h1
    rw [List.getD_cons_zero] at h2
    exact ⟨u :: us, by rw [travL_cons, h1]; simp only [Res1.bind]; rw [h2]; simp only; rw [h3]⟩
theorem travS_ex {k : Int} {c : C} : ∀ {ts : List T}, (∀ j, j < ts.length → ∃ c' u, A.kid c (0, more k) = .ok c' ∧ trav A (ts.getD j t0) c' = .ok u) → ∃ us, travS A k ts c = .ok us
  | [], h => ⟨[], travS_nil _ _⟩
  | t :: ts, h => by
    obtain ⟨c', u, h1, h2⟩ := h 0 (by simp)
    obtain ⟨us, h3⟩ := travS_ex (ts := ts) (fun j hj => by
      have := h (j + 1) (by simpa using hj)
      rw [List.getD_cons_succ] at this
      exact this)
    rw [List.getD_cons_zero] at h2
    exact ⟨u :: us, by rw [travS_cons, h1]; simp only [Res1.bind]; rw [h2]; simp only; rw [h3]⟩
end
/-! ### Variables of a term that may be are lifted -/
theorem var_told {a : Int} (ha : 0 ≤ a ∧ a ≤ 1000000) : ∀ (t : T) (v d : Int) (c : Int × Int), mayT t v d → v + size t ≤ 900000000 → ∃ u, trav (liftTr a 0) t c = .ok u := T.ind fun t ih v d c hm hb => by
  obtain ⟨h1, h2, h3⟩ := mayT_iff.mp hm
  have hsz := size_pos' t
  have hown : (liftTr a 0).own c t.kind t.n t.name t.r = .ok (.inr (liftN a c.1 t.kind t.n, t.r)) := by
    rw [lift_own_eq, rowLift_zero]
    simp only [Res1.bind]
    rw [if_neg]
    rintro ⟨h4, _, h5⟩
    have := h1.2.1 h4
    omega
  have hpart : ∀ p, p ∈ parts t → ∀ c', ∃ u, trav (liftTr a 0) p.1 c' = .ok u := fun p hp c' => by
    have h4 := parts_01 hp
    have h5 := size_part_lt hp
    exact ih p hp _ _ c' (h3 p hp) (by omega)
  obtain ⟨ks, hk⟩ := travL_ex (A := liftTr a 0) (k := t.kind) (c := c) (ts := t.kids) (i := 0) (fun j hj => by
    obtain ⟨u, hu⟩ := hpart _ (List.mem_of_getElem? (parts_kid t j hj)) (c.1 + (binds t.kind ((0 + j : Nat) : Int)).1, c.2 + (binds t.kind ((0 + j : Nat) : Int)).2)
    exact ⟨_, u, rfl, hu⟩)
  have hbr : ∀ bs : List Br, (∀ b, b ∈ bs → b ∈ t.sys) → ∃ us, travB (liftTr a 0) t.kind bs c = .ok us := by
    intro bs
    induction bs with
    | nil => intro _; exact ⟨[], travB_nil _ _⟩
    | cons b bs ihb =>
      intro hs
      obtain ⟨us, hus⟩ := ihb (fun x hx => hs x (List.mem_cons_of_mem _ hx))
      obtain ⟨s, hs1, e⟩ := List.mem_iff_getElem.mp (hs b List.mem_cons_self)
      have e2 : t.sys.getD s br0 = b := by rw [getD_get (d := br0) hs1]; exact e
      obtain ⟨xs, hx⟩ := travS_ex (A := liftTr a 0) (k := t.kind) (c := c) (ts := b.kids) (fun j hj => by
        obtain ⟨u, hu⟩ := hpart _ (List.mem_of_getElem? (parts_sys t s j hs1 (by rw [e2]; exact hj))) (c.1 + 0, c.2 + more t.kind)
        rw [e2] at hu
        exact ⟨_, u, rfl, hu⟩)
      exact ⟨.mk b.face xs :: us, by rw [travB_cons, lift_face_def, rowLift_zero]; simp only [Res1.bind]; rw [hx]; simp only; rw [hus]⟩
  obtain ⟨ss, hss⟩ := hbr t.sys (fun b hb => hb)
  exact ⟨_, trav_ok_of hown hk hss⟩
end Go.Hy
namespace Go.Hy
set_option linter.unusedVariables false
set_option linter.unusedSimpArgs false
set_option linter.unusedSectionVars false
set_option linter.unusedVariables false
set_option linter.unusedSimpArgs false
/-! ### A contract whose result is only known to be so and so -/
theorem Spec.hide {P : Program} {k : FuncId} {args : Array Value} {pre : List Fact} {Ms0 : List Res} {α X : Type} (r : α) {val : α → X → Value} {N : α → X → List Fact} {Ms1 : α → X → List Res} (h : Spec P k args pre Ms0 (val r) (N r) (Ms1 r)) :
    Spec P k args pre Ms0 (fun x : {x : α × X // x.1 = r} => val x.1.1 x.1.2) (fun x => N x.1.1 x.1.2) (fun x => Ms1 x.1.1 x.1.2) := fun ok w hk hs => (h ok w hk hs).mono fun e w' hh => by
  obtain ⟨x, he, hs'⟩ := hh
  exact ⟨⟨(r, x), rfl⟩, he, hs'⟩
/-! ### What a way tells of the parts -/
section
variable {C : Type} {A : Tr C}
end
end Go.Hy
namespace Go.Hy
set_option linter.unusedVariables false
set_option linter.unusedSimpArgs false
set_option linter.unusedSectionVars false
theorem St.litI {B : Base} {Γ : List Fact} {Ms : List Res} {w : World} {b : Nat} {e : TypeId} {cs : List Value} (l : List Int) (hs : St B Γ (boxR b cs e :: Ms) w) {hBp : Prop} (hB : hBp) (hc : cs = intFlat l) (hn : l.length ≤ 1000) (hu : ∀ c, c ∈ l → in64 c) : St B (IL l (some ⟨b, 0, Option.none⟩, l.length) :: Γ) Ms w :=
  (hs.boxRow (sz := 1) (m := l.length) (by rw [hc, flat_len intCells_len l]) (by unfold maxLen; omega)).settleIL hB hc rfl (by unfold reach; omega) hu
end Go.Hy
namespace Go.Hy
set_option linter.unusedVariables false
set_option linter.unusedSimpArgs false
set_option linter.unusedSectionVars false
/-! ### The chapter's examples of lifts -/
def vE (n : Int) : T := .mk 1 n ⟨#[]⟩ [] [] []
theorem vars_okT {t : T} {f b : Int} (hb : in64 b) (h : okT t) : okT (varsRes t f b).2 := by
  refine guard_okT' (fun ha u hu => ?_)
  simp only [List.all_cons, List.all_nil, Bool.and_true, Bool.and_eq_true, decide_eq_true_eq] at ha
  exact lift_okT ⟨ha.2.1, most_le hb ha.2.1 ha.2.2⟩ h hu
theorem guard_size {t : T} {ns : List Int} {r : Res1 T} (h : ∀ u, r = .ok u → size u = size t) : size (guardRes t ns r).2 ≤ size t := by
  have h0 : size t0 ≤ size t := by have := size_pos' t; rw [show size t0 = 1 by decide +kernel]; exact this
  unfold guardRes
  split
  · exact h0
  · split
    · exact h0
    · cases r with
      | ok u => exact Nat.le_of_eq (h u rfl)
      | bad e => exact h0
theorem vars_size (t : T) (f b : Int) : size (varsRes t f b).2 ≤ size t := guard_size fun u hu => lift_size hu
end Go.Hy
namespace Go.Hy
set_option linter.unusedVariables false
set_option linter.unusedSimpArgs false
set_option linter.unusedSectionVars false
set_option linter.unusedVariables false
set_option linter.unusedSimpArgs false
/-! ### Sizes as sums -/
def sizeL : List T → Nat
  | [] => 0
  | t :: ts => size t + sizeL ts
def sizeB : List Br → Nat
  | [] => 0
  | b :: bs => sizeL b.kids + sizeB bs
theorem foldl_add {α : Type} (f : α → Nat) : ∀ (l : List α) (a : Nat), l.foldl (fun a p => a + f p) a = a + l.foldl (fun a p => a + f p) 0
  | [], a => rfl
  | x :: l, a => by rw [List.foldl_cons, List.foldl_cons, foldl_add f l (a + f x), foldl_add f l (0 + f x)]; omega
theorem size_sumLB (t : T) : size t = 1 + sizeL t.kids + sizeB t.sys := by
  have hk : ∀ (k : Int) (ts : List T) (i : Nat), (kidParts k i ts).foldl (fun a p => a + size p.1) 0 = sizeL ts := by
    intro k ts
    induction ts with
    | nil => intro i; rfl
    | cons t ts ih => intro i; rw [kidParts, List.foldl_cons, foldl_add, ih, sizeL]; simp only; omega
  have hm : ∀ (ts : List T) (b : Int × Int), (ts.map fun k => ((k, b.1, b.2) : Part)).foldl (fun a p => a + size p.1) 0 = sizeL ts := by
    intro ts b
    induction ts with
    | nil => rfl
    | cons t ts ih => rw [List.map_cons, List.foldl_cons, foldl_add, ih, sizeL]; simp only; omega
  have hs : ∀ (k : Int) (bs : List Br), (sysParts k bs).foldl (fun a p => a + size p.1) 0 = sizeB bs := by
    intro k bs
    induction bs with
    | nil => rfl
    | cons b bs ih => rw [sysParts, List.foldl_append, foldl_add, ih, hm b.kids (0, more k), sizeB]
  rw [size_eq, parts, List.foldl_append, foldl_add, hs, foldl_add, hk]
section
variable {t u : T} {n : Int}
end
end Go.Hy
namespace Go.Hy
set_option linter.unusedVariables false
set_option linter.unusedSimpArgs false
set_option linter.unusedSectionVars false
set_option linter.unusedVariables false
set_option linter.unusedSimpArgs false
set_option linter.unusedSectionVars false
/-! ### Terms of a list that a fact tells of, behind one of the call's own -/
def tpsOf (l : List T) (VR VK VS : Nat → SH) : List TP := (List.range l.length).map fun i => (l.getD i t0, VR i, VK i, VS i)
theorem tpsOf_len (l : List T) (VR VK VS : Nat → SH) : (tpsOf l VR VK VS).length = l.length := by simp [tpsOf]
theorem tpsOf_get {l : List T} {VR VK VS : Nat → SH} {i : Nat} (h : i < l.length) : (tpsOf l VR VK VS).getD i tp0 = (l.getD i t0, VR i, VK i, VS i) := by
  unfold tpsOf
  rw [List.getD_eq_getElem?_getD, List.getElem?_map, List.getElem?_range h]
  rfl
theorem tpsOf_map (l : List T) (VR VK VS : Nat → SH) : (tpsOf l VR VK VS).map (·.1) = l := by
  refine List.ext_getElem (by simp [tpsOf]) fun i h1 h2 => ?_
  simp only [tpsOf, List.getElem_map, List.getElem_range]
  exact getD_get (d := t0) h2
theorem tp_one (l : List TP) : oneCells (tpFlat l) = true := by
  unfold oneCells
  rw [List.all_eq_true]
  intro v hv
  obtain ⟨c, _, hc⟩ := List.mem_flatMap.mp hv
  simp only [tpCells, tc, List.mem_cons, List.not_mem_nil, or_false] at hc
  rcases hc with rfl | rfl | rfl | rfl | rfl | rfl <;> rfl
section
variable {P : Program} [Tab P] {B : Base} {σ : Nat → Value} {Γ : List Fact} {Ms Ms2 : List Res} {ty : TypeId} {x y z : Operand} {v : Value}
theorem te_appTL {t e : TypeId} {ts : Array TypeId} {bt n : Nat} {zv : Value} {a b : SH} {xs : List Value} {l : List T} {VR VK VS : Nat → SH} (hm : Ms.Perm (rowS 6 e a n xs :: Ms2)) (hF : TLx l b VR VK VS ∈ Γ) (hx : ev σ x = sl a n) (hy : ev σ y = sl b l.length) (hts : ts = #[t, t]) (hu : Tab.und P t = some (.slice e)) (hi : Tab.inf P e = some (6, bt, zv)) (hzs : zv.cells.size = 6)
    (hb : (n + l.length) * bt ≤ 140737488355328) (hnm : n + l.length ≤ 9223372036854775807) :
    TurnE P B σ Γ Ms (.call { callee := .builtin .append, args := #[x, y], argTypes := ts }) ty (fun a' : SH => sl a' (n + l.length)) (fun _ => Γ) (fun a' => rowS 6 e a' (n + l.length) (xs ++ tpFlat (tpsOf l VR VK VS)) :: Ms2) := by
  obtain ⟨bo, bc⟩ := b
  cases bo with
  | some ad =>
    refine te_appendW hts hu hi hzs (by omega) hx hy hm (fun w hs j u hj => ?_) (by rw [flat_len (F := tpCells) (sz := 6) (fun _ => rfl), tpsOf_len]) (tp_one _) hb hnm
    obtain ⟨h1, h2⟩ := flat_get (F := tpCells) (sz := 6) (fun _ => rfl) tp0 (tpsOf l VR VK VS) j u hj
    rw [tpsOf_len] at h1
    rw [tpsOf_get h1] at h2
    have hcl : tlxAt (okOf B Ms w) l (some ad, bc) VR VK VS w := hs.facts _ hF
    obtain ⟨bk, o, hbk, _, hrow⟩ := hcl.1.2.2 (by omega)
    injection hbk with hbk
    subst hbk
    have := hrow (j / 6) h1 (j % 6) u h2
    rw [Addr.add_lit]
    rwa [show o + j / 6 * 6 + j % 6 = o + j by omega] at this
  | none =>
    intro w hs
    have hs' := hs.perm hm
    have hcl : tlxAt (okOf B Ms w) l (none, bc) VR VK VS w := hs.facts _ hF
    have hl : l.length = 0 := by
      rcases Nat.eq_zero_or_pos l.length with h | h
      · exact h
      · obtain ⟨bk, o, hbk, _⟩ := hcl.1.2.2 h; cases hbk
    have hown : w.ownsRow 0 e 6 (sl a n) n xs := hs'.res _ List.mem_cons_self w (fun _ _ => rfl)
    have hl2 : l = [] := List.eq_nil_of_length_eq_zero hl
    subst hl2
    refine ⟨a, w, ?_, by simpa [tpsOf] using hs'⟩
    subst hts
    have hle : n ≤ a.2 := by
      rcases hown.2 with ⟨h1, h2⟩ | ⟨g, cap, cur, h1, _, _, h3, _⟩
      · omega
      · injection h1 with _ _ h1; omega
    obtain ⟨ao, ac⟩ := a
    simp only at hle
    cases ao with
    | none => simp [opr, execOp, resolve, invoke, builtin, hx, hy, sl, Builtin.append_, run_und0 hu, run_size0 hi, Builtin.lenOf, hle, Builtin.firstCells]
    | some ad => simp [opr, execOp, resolve, invoke, builtin, hx, hy, sl, Builtin.append_, run_und0 hu, run_size0 hi, Builtin.lenOf, hle, Builtin.firstCells, storeCells]
theorem te_appNew {hBp : Prop} (hB : hBp) {t e : TypeId} {ts : Array TypeId} {g bt : Nat} {zv : Value} {b : SH} {u : T} {ur uk us : SH} {l : List T} {VR VK VS : Nat → SH} (hU : RT u ur uk us ∈ Γ) (hF : TLx l b VR VK VS ∈ Γ) (hx : ev σ x = .slice (some ⟨g, 0, none⟩) 1 1) (hy : ev σ y = sl b l.length) (hts : ts = #[t, t]) (hu : Tab.und P t = some (.slice e)) (hi : Tab.inf P e = some (6, bt, zv)) (hzs : zv.cells.size = 6)
    (hb : (1 + l.length) * bt ≤ 140737488355328) (hnm : (1 + l.length) * 104 ≤ reach) (M : List Res) :
    TurnE P B σ Γ ([boxR g (tc u ur uk us) e] ++ M) (.call { callee := .builtin .append, args := #[x, y], argTypes := ts }) ty (fun a' : SH => sl a' (1 + l.length)) (fun a' => [TL (u :: l) a'] ++ Γ) (fun _ => [] ++ M) := fun w hs => by
  have hs0 : St B Γ (boxR g (tc u ur uk us) e :: M) w := hs
  have h1 : St B Γ (rowS 6 e (some ⟨g, 0, none⟩, 1) 1 (tc u ur uk us) :: M) w := hs0.boxRow (sz := 6) (m := 1) rfl (by decide)
  obtain ⟨a', w', hr, h2⟩ := te_appTL (P := P) (ty := ty) (List.Perm.refl _) hF hx hy hts hu hi hzs hb (by unfold reach at hnm; omega) w h1
  refine ⟨a', w', hr, ?_⟩
  have h3 : St B (AP ((u, ur, uk, us) :: tpsOf l VR VK VS) :: Γ) (rowS 6 e a' (1 + l.length) (tc u ur uk us ++ tpFlat (tpsOf l VR VK VS)) :: M) w' := h2.add (fun p hp => by
    rcases List.mem_cons.mp hp with rfl | hp
    · exact h2.facts _ hU
    · obtain ⟨i, hi, rfl⟩ := List.mem_map.mp hp
      have hi := List.mem_range.mp hi
      have hA : tlxAt _ l b VR VK VS w' := h2.facts _ hF
      exact allAt_get hA.2 (by rw [List.getElem?_eq_getElem hi, getD_get (d := t0) hi]))
  have h4 := h3.settleTL (ps := (u, ur, uk, us) :: tpsOf l VR VK VS) (ts := u :: l) hB List.mem_cons_self (by simp [tpFlat, tpCells]) (by rw [List.map_cons, tpsOf_map]) (by rw [List.length_cons, tpsOf_len]; omega) (by exact hnm)
  exact h4.less (by simp +contextual)
end
section
variable {tn : Bool} {pn : Nat} {P : Program} [Tab P] {f : FuncId} {R : Ending → World → Prop} {B : Base} {n : Fz} {K : List Item} {ops : Array Oper} {i : Nat} {l fin : List Nat} {σ : Nat → Value} {Γ : List Fact} {Ms Ms2 : List Res}
variable {dst : Option Tmp} {op : Op} {ty : TypeId} {x y : Operand}
theorem w_appNew {hBp : Prop} (hB : hBp) {t e : TypeId} {ts : Array TypeId} {g bt : Nat} {zv : Value} {b : SH} (u : T) (ur uk us : SH) (ls : List T) (VR VK VS : Nat → SH) (k_ : ∀ a' : SH, NV tn pn P f R B n K ops fin l (putS σ dst (sl a' (1 + ls.length))) ([TL (u :: ls) a'] ++ Γ) ([] ++ Ms2)) (hm : Ms.Perm ([boxR g (tc u ur uk us) e] ++ Ms2)) (hU : RT u ur uk us ∈ Γ) (hF : TLx ls b VR VK VS ∈ Γ) (hnm : (1 + ls.length) * 104 ≤ reach) (hb : (1 + ls.length) * bt ≤ 140737488355328) (hx : ev σ x = .slice (some ⟨g, 0, none⟩) 1 1 := by rfl) (hy : ev σ y = sl b ls.length := by rfl) (hts : ts = #[t, t] := by rfl) (hu : Tab.und P t = some (.slice e) := by rfl) (hi : Tab.inf P e = some (6, bt, zv) := by rfl) (hzs : zv.cells.size = 6 := by rfl) (hd : dstOk n dst = true := by rfl) (hz : Nat.beq pn 1000002 = true := by rfl) : NvT tn pn P f R B n K ops fin i l dst (.call { callee := .builtin .append, args := #[x, y], argTypes := ts }) ty σ Γ Ms :=
  nv_turnF (F := fun a' => [TL (u :: ls) a']) (r := [boxR g (tc u ur uk us) e]) (r' := fun _ => []) (fun M => te_appNew hB hU hF hx hy hts hu hi hzs hb hnm M) rfl hd hm hz k_
end
end Go.Hy
namespace Go.Hy
set_option linter.unusedVariables false
set_option linter.unusedSimpArgs false
set_option linter.unusedSectionVars false
set_option linter.unusedVariables false
set_option linter.unusedSimpArgs false
/-! ### Contexts -/
/-- What is wrong with the types, each in those behind it. -/
def ctxErr (d : Int) : List T → Int
  | [] => 0
  | t :: ts => if rightP t ts.length d ≠ 0 then rightP t ts.length d else ctxErr d ts
def ctxRight (ts : List T) (d : Int) : Int := if d < 0 ∨ 24 < d then 2 else if 200 < ts.length then 62 else ctxErr d ts
theorem ctxErr_bad {d : Int} : ∀ {ts : List T} {i : Nat}, i < ts.length → (∀ j, j < i → rightP (ts.getD j t0) ((ts.length : Int) - 1 - j) d = 0) → rightP (ts.getD i t0) ((ts.length : Int) - 1 - i) d ≠ 0 → ctxErr d ts = rightP (ts.getD i t0) ((ts.length : Int) - 1 - i) d
  | [], i, h, _, _ => absurd h (by simp)
  | t :: ts, 0, h, _, h2 => by
    simp only [List.getD_cons_zero, List.length_cons] at h2 ⊢
    rw [show ((ts.length + 1 : Nat) : Int) - 1 - ((0 : Nat) : Int) = ts.length by omega] at h2 ⊢
    rw [ctxErr, if_pos h2]
  | t :: ts, i + 1, h, h1, h2 => by
    have h0 := h1 0 (by omega)
    simp only [List.getD_cons_zero, List.length_cons] at h0
    rw [show ((ts.length + 1 : Nat) : Int) - 1 - ((0 : Nat) : Int) = ts.length by omega] at h0
    rw [ctxErr, if_neg (by simp [h0])]
    simp only [List.getD_cons_succ, List.length_cons] at h2 ⊢
    rw [show ((ts.length + 1 : Nat) : Int) - 1 - ((i + 1 : Nat) : Int) = ts.length - 1 - i by omega] at h2 ⊢
    refine ctxErr_bad (by simpa using h) (fun j hj => ?_) h2
    have := h1 (j + 1) (by omega)
    simp only [List.getD_cons_succ, List.length_cons] at this
    rwa [show ((ts.length + 1 : Nat) : Int) - 1 - ((j + 1 : Nat) : Int) = ts.length - 1 - j by omega] at this
theorem ctxErr_ok {d : Int} : ∀ {ts : List T}, (∀ j, j < ts.length → rightP (ts.getD j t0) ((ts.length : Int) - 1 - j) d = 0) ↔ ctxErr d ts = 0
  | [] => by simp [ctxErr]
  | t :: ts => by
    have e0 : ((ts.length + 1 : Nat) : Int) - 1 - ((0 : Nat) : Int) = ts.length := by omega
    constructor
    · intro h
      have h0 := h 0 (by simp)
      simp only [List.getD_cons_zero, List.length_cons] at h0
      rw [e0] at h0
      rw [ctxErr, if_neg (by simp [h0])]
      refine ctxErr_ok.mp fun j hj => ?_
      have := h (j + 1) (by simpa using hj)
      simp only [List.getD_cons_succ, List.length_cons] at this
      rwa [show ((ts.length + 1 : Nat) : Int) - 1 - ((j + 1 : Nat) : Int) = ts.length - 1 - j by omega] at this
    · intro h j hj
      rw [ctxErr] at h
      by_cases h0 : rightP t ts.length d ≠ 0
      · rw [if_pos h0] at h; exact absurd h h0
      · rw [if_neg h0] at h
        cases j with
        | zero => simp only [List.getD_cons_zero, List.length_cons]; rw [e0]; omega
        | succ j =>
          simp only [List.getD_cons_succ, List.length_cons]
          rw [show ((ts.length + 1 : Nat) : Int) - 1 - ((j + 1 : Nat) : Int) = ts.length - 1 - j by omega]
          exact ctxErr_ok.mpr h j (by simpa using hj)
theorem ctxRight_zero {ts : List T} {d : Int} : ctxRight ts d = 0 ↔ 0 ≤ d ∧ d ≤ 24 ∧ ts.length ≤ 200 ∧ ctxErr d ts = 0 := by
  unfold ctxRight
  split
  · omega
  · split <;> omega
/-- Types, one by one. -/
def eachR (r : T → Int × T) : List T → Int × List T
  | [] => (0, [])
  | t :: ts => if (r t).1 ≠ 0 then ((r t).1, []) else if (eachR r ts).1 ≠ 0 then ((eachR r ts).1, []) else (0, (r t).2 :: (eachR r ts).2)
theorem eachR_ok {r : T → Int × T} : ∀ {ts : List T}, (∀ j, j < ts.length → (r (ts.getD j t0)).1 = 0) → eachR r ts = (0, ts.map fun t => (r t).2)
  | [], _ => rfl
  | t :: ts, h => by
    have h0 := h 0 (by simp)
    rw [List.getD_cons_zero] at h0
    have ih := eachR_ok (r := r) (ts := ts) fun j hj => by have := h (j + 1) (by simpa using hj); rwa [List.getD_cons_succ] at this
    rw [eachR, if_neg (by simp [h0]), ih, if_neg (by simp)]
    rfl
theorem eachR_bad {r : T → Int × T} : ∀ {ts : List T} {i : Nat}, i < ts.length → (∀ j, j < i → (r (ts.getD j t0)).1 = 0) → (r (ts.getD i t0)).1 ≠ 0 → eachR r ts = ((r (ts.getD i t0)).1, [])
  | [], i, h, _, _ => absurd h (by simp)
  | t :: ts, 0, h, _, h2 => by
    rw [List.getD_cons_zero] at h2 ⊢
    rw [eachR, if_pos h2]
  | t :: ts, i + 1, h, h1, h2 => by
    have h0 := h1 0 (by omega)
    rw [List.getD_cons_zero] at h0
    rw [List.getD_cons_succ] at h2 ⊢
    have ih := eachR_bad (r := r) (ts := ts) (i := i) (by simpa using h) (fun j hj => by have := h1 (j + 1) (by omega); rwa [List.getD_cons_succ] at this) h2
    rw [eachR, if_neg (by simp [h0]), ih, if_pos h2]
abbrev Cx : Type := Int × List T × Int
def doneR9 (ts : List T) (d : Int) : Cx := if ctxRight ts d ≠ 0 then (ctxRight ts d, [], 0) else (0, ts, d)
def pushR (ts : List T) (d : Int) (t : T) : Cx := if ctxRight ts d ≠ 0 then (ctxRight ts d, [], 0) else if rightP t ts.length d ≠ 0 then (rightP t ts.length d, [], 0) else doneR9 (t :: ts) d
def typeR (ts : List T) (d n : Int) : Int × T := if ctxRight ts d ≠ 0 then (ctxRight ts d, t0) else if n < 0 ∨ (ts.length : Int) ≤ n then (90, t0) else varsRes (ts.getD n.toNat t0) 0 (n + 1)
theorem eachR_copy (ts : List T) : eachR (fun t => (0, t)) ts = (0, ts) := by
  rw [eachR_ok (fun _ _ => rfl)]
  simp
end Go.Hy
namespace Go.Hy
set_option linter.unusedVariables false
set_option linter.unusedSimpArgs false
set_option linter.unusedSectionVars false
set_option linter.unusedVariables false
def uE : T := .mk 3 0 ⟨#[]⟩ [] [] []
def aE (t u : T) : T := .mk 6 0 ⟨#[]⟩ [] [t, u] []
end Go.Hy
namespace Go.Hy
set_option linter.unusedVariables false
set_option linter.unusedSimpArgs false
set_option linter.unusedSectionVars false
set_option linter.unusedVariables false
set_option linter.unusedSimpArgs false
theorem sizeL_mem {t : T} : ∀ {ts : List T}, t ∈ ts → size t ≤ sizeL ts
  | [], h => by cases h
  | a :: ts, h => by
    rw [sizeL]
    rcases List.mem_cons.mp h with rfl | h
    · omega
    · have := sizeL_mem h; omega
theorem sizeL_len : ∀ ts : List T, ts.length ≤ sizeL ts
  | [] => by simp [sizeL]
  | a :: ts => by
    rw [sizeL, List.length_cons]
    have := sizeL_len ts
    have := size_pos' a
    omega
def nodeT (ts : List T) : T := .mk 0 0 ⟨#[]⟩ [] ts []
theorem node_bulk {ts : List T} {m : Nat} (h : bulk (nodeT ts) ≤ m) : (∀ t, t ∈ ts → size t ≤ m) ∧ ts.length ≤ m := by
  have h1 := size_le_bulk (nodeT ts)
  have h2 := size_sumLB (nodeT ts)
  have h3 : (nodeT ts).kids = ts := rfl
  rw [h3] at h2
  have h4 := sizeL_len ts
  exact ⟨fun t ht => by have := sizeL_mem ht; omega, by omega⟩
theorem push_ok {ts : List T} {d : Int} {t : T} (h : (pushR ts d t).1 = 0) : pushR ts d t = (0, t :: ts, d) ∧ ctxRight ts d = 0 ∧ rightP t ts.length d = 0 ∧ ctxRight (t :: ts) d = 0 := by
  unfold pushR at h ⊢
  by_cases h1 : ctxRight ts d ≠ 0
  · rw [if_pos h1] at h; exact absurd h h1
  · rw [if_neg h1] at h ⊢
    by_cases h2 : rightP t ts.length d ≠ 0
    · rw [if_pos h2] at h; exact absurd h h2
    · rw [if_neg h2] at h ⊢
      unfold doneR9 at h ⊢
      by_cases h3 : ctxRight (t :: ts) d ≠ 0
      · rw [if_pos h3] at h; exact absurd h h3
      · rw [if_neg h3]
        exact ⟨rfl, by omega, by omega, by omega⟩
theorem type_zero {ts : List T} {d : Int} {t : T} (h : ctxRight (t :: ts) d = 0) : typeR (t :: ts) d 0 = varsRes t 0 1 := by
  unfold typeR
  rw [if_neg (by simp [h]), if_neg (by rw [List.length_cons]; omega)]
  rfl
theorem type_in {ts : List T} {d : Int} {n : Nat} (h : ctxRight ts d = 0) (hn : n < ts.length) : typeR ts d (n : Int) = varsRes (ts.getD n t0) 0 ((n : Int) + 1) := by
  unfold typeR
  rw [if_neg (by simp [h]), if_neg (by omega), Int.toNat_natCast]
theorem type_size {ts : List T} {d : Int} {n : Nat} (hz : ∀ u, u ∈ ts → size u ≤ 300) (h : ctxRight ts d = 0) (hn : n < ts.length) : size (typeR ts d (n : Int)).2 ≤ 300 := by
  rw [type_in h hn]
  have h1 := vars_size (ts.getD n t0) 0 ((n : Int) + 1)
  have h2 := hz _ (getD_mem (d := t0) hn)
  omega
/-- CtxBack. -/
theorem ctx_back {ts : List T} {d : Int} {t : T} {n : Nat} (h : ctxRight ts d = 0) (h2 : ctxRight (t :: ts) d = 0) (hn : n < ts.length) (hz : ∀ u, u ∈ ts → size u ≤ 300) :
    (typeR ts d (n : Int)).1 = 0 ∧ (varsRes (typeR ts d (n : Int)).2 0 1).1 = 0 ∧ (typeR (t :: ts) d ((n + 1 : Nat) : Int)).1 = 0 ∧ (varsRes (typeR ts d (n : Int)).2 0 1).2 = (typeR (t :: ts) d ((n + 1 : Nat) : Int)).2 := by
  obtain ⟨d0, d1, hl, he⟩ := ctxRight_zero.mp h
  have hr := ctxErr_ok.mpr he n hn
  have hsz := hz _ (getD_mem (d := t0) hn)
  obtain ⟨_, _, hsd, hfine, hmay⟩ := (right_may (by omega) (by omega)).mp hr
  have hfm : formedP (ts.getD n t0) = 0 := formed_fine.mpr ⟨hsd, hfine⟩
  rw [type_in h hn, type_in h2 (by rw [List.length_cons]; omega), List.getD_cons_succ]
  obtain ⟨w, hw⟩ := var_told (a := (n : Int) + 1) (by omega) _ _ _ (0, 0) hmay (by omega)
  obtain ⟨x, hx⟩ := var_told (a := ((n + 1 : Nat) : Int) + 1) (by omega) _ _ _ (0, 0) hmay (by omega)
  have hwf := lift_formed (by omega) hfm hw
  have e1 : varsRes (ts.getD n t0) 0 ((n : Int) + 1) = (0, w) := by rw [vars_as hfm (by omega)]; show asRes (trav (liftTr ((n : Int) + 1) 0) _ (0, 0)) = _; rw [hw]; rfl
  have e2 : varsRes (ts.getD n t0) 0 (((n + 1 : Nat) : Int) + 1) = (0, x) := by rw [vars_as hfm (by omega)]; show asRes (trav (liftTr (((n + 1 : Nat) : Int) + 1) 0) _ (0, 0)) = _; rw [hx]; rfl
  have e3 : trav (liftTr 1 0) w (0, 0) = .ok x := by
    have := fuse (fuse_LV (a := (n : Int) + 1) (b := 0) (c := 1) (by omega) (by decide)) hfine (show R3 (0, 0) (0, 0) (0, 0) from ⟨rfl, rfl⟩) hw
    rw [this, ← hx, show ((n + 1 : Nat) : Int) + 1 = (n : Int) + 1 + 1 by omega]
  have e4 : varsRes w 0 1 = (0, x) := by rw [vars_as hwf (by omega)]; show asRes (trav (liftTr 1 0) _ (0, 0)) = _; rw [e3]; rfl
  rw [e1, e2]
  dsimp only
  rw [e4]
  exact ⟨rfl, rfl, rfl, rfl⟩
theorem ex_ctx0 : typeR [vE 0, uE] 0 0 = (0, vE 1) := by decide +kernel
theorem ex_ctx1 : typeR [vE 0, uE] 0 1 = (0, uE) := by decide +kernel
theorem ex_ctx0a : (typeR [vE 0, uE] 0 ((0 : Nat) : Int)).1 = 0 := by rw [show ((0 : Nat) : Int) = 0 from rfl, ex_ctx0]
theorem ex_ctx0b : (typeR [vE 0, uE] 0 ((0 : Nat) : Int)).2 = vE 1 := by rw [show ((0 : Nat) : Int) = 0 from rfl, ex_ctx0]
theorem ex_ctx1a : (typeR [vE 0, uE] 0 ((1 : Nat) : Int)).1 = 0 := by rw [show ((1 : Nat) : Int) = 1 from rfl, ex_ctx1]
theorem ex_ctx1b : (typeR [vE 0, uE] 0 ((1 : Nat) : Int)).2 = uE := by rw [show ((1 : Nat) : Int) = 1 from rfl, ex_ctx1]
theorem ex_ctx_size : ∀ t, t ∈ [vE 0, uE] → size t ≤ 1152921504606846 := by
  intro t ht
  have h : size (vE 0) = 1 ∧ size uE = 1 := by decide +kernel
  rcases List.mem_cons.mp ht with rfl | ht
  · omega
  · rcases List.mem_cons.mp ht with rfl | ht
    · omega
    · cases ht
end Go.Hy
namespace Go.Hy
set_option linter.unusedVariables false
set_option linter.unusedSimpArgs false
set_option linter.unusedSectionVars false
open Go.Proofs
set_option linter.unusedVariables false
set_option linter.unusedSimpArgs false
set_option maxRecDepth 100000
theorem dimension_spec (i : Int) : Spec Try.prog 62 #[.int .i64 i] [] [] (fun _ : Unit => .bool (decide (0 ≤ i) && decide (i < 24))) (fun _ => []) (fun _ => []) := by
  refine spec_go (args := [.int .i64 i]) Try.func62 Try.ntmps62 rfl (by exact Nat.le_of_ble_eq_true rfl) fun B hB => ?_
  refine go_seq ?_
  refine go_region ⟨_, Try.func62⟩ rfl ?_
  refine q0 rfl (o_assign ?_)
  refine rg_nil ?_
  refine go_seq ?_
  refine go_region ⟨_, Try.func62⟩ rfl ?_
  refine q0 rfl (o_move ?_)
  refine q0 rfl (o_geq ?_)
  refine q0 rfl (o_move ?_)
  refine qI rfl rfl rfl wl_ (fun hg5 => o_move ?_) (fun hg5 => ?_)
  · refine qT rfl rfl rfl (o_lss ?_)
    refine q0 rfl (o_pickT ?_)
    refine q0 rfl (o_assign ?_)
    refine rg_nil ?_
    refine ret1 Try.func62 Try.results62 wn_ () (by first | (simp_all; done) | (simp_all; omega)) (fun w hs => hs.none)
  · refine qF rfl rfl rfl ?_
    refine q0 rfl (o_pickF ?_)
    refine q0 rfl (o_assign ?_)
    refine rg_nil ?_
    refine ret1 Try.func62 Try.results62 wn_ () (by first | (simp_all; done) | (simp_all; omega)) (fun w hs => hs.none)
theorem maskRight_spec (s : Nat) (hs : s < 4294967296) : Spec Try.prog 96 #[.int .u32 (s : Int)] [] [] (fun _ : Unit => .bool (decide (s < 16777216))) (fun _ => []) (fun _ => []) := by
  refine spec_go (args := [.int .u32 (s : Int)]) Try.func96 Try.ntmps96 rfl (by exact Nat.le_of_ble_eq_true rfl) fun B hB => ?_
  refine go_seq ?_
  refine go_region ⟨_, Try.func96⟩ rfl ?_
  refine q0 rfl (o_assign ?_)
  refine rg_nil ?_
  refine go_seq ?_
  refine go_region ⟨_, Try.func96⟩ rfl ?_
  refine q0 rfl (o_move ?_)
  refine q0 rfl (o_andNotU32 ?_ (b := 16777215))
  refine q0 rfl (o_eqI ?_ (b := 0))
  refine q0 rfl (o_assign ?_)
  refine rg_nil ?_
  refine ret1 Try.func96 Try.results96 wn_ () (by rw [andNot_zero hs]) (fun w hs => hs.none)
theorem withoutNone_spec (s : Nat) (hs : s < 4294967296) : Spec Try.prog 61 #[.int .u32 (s : Int), .int .i64 (-1)] [] [] (fun _ : Unit => .int .u32 ((s &&& 16777215 : Nat) : Int)) (fun _ => []) (fun _ => []) := by
  refine spec_go (args := [.int .u32 (s : Int), .int .i64 (-1)]) Try.func61 Try.ntmps61 rfl (by exact Nat.le_of_ble_eq_true rfl) fun B hB => ?_
  refine go_seq ?_
  refine go_region ⟨_, Try.func61⟩ rfl ?_
  refine q0 rfl (o_assign ?_)
  refine rg_nil ?_
  refine go_seq ?_
  refine go_region ⟨_, Try.func61⟩ rfl ?_
  refine q0 rfl (o_move ?_)
  refine q0 rfl (o_andU32 ?_ (b := 16777215))
  refine q0 rfl (o_assign ?_)
  refine rg_nil ?_
  refine go_seq ?_
  refine go_seq ?_
  refine go_region ⟨_, Try.func61⟩ rfl ?_
  refine q0 rfl (o_move ?_)
  refine q0 rfl (o_call Try.call62 (dimension_spec (-1)) (fun x8 => ?_))
  refine q0 rfl (o_not ?_)
  refine rg_nil ?_
  refine go_condI (fun h9 => ?_) (fun h9 => ?_)
  · refine go_seq ?_
    refine go_region ⟨_, Try.func61⟩ rfl ?_
    refine q0 rfl (o_move ?_)
    refine q0 rfl (o_assign ?_)
    refine rg_nil ?_
    refine ret1 Try.func61 Try.results61 wn_ () rfl (fun w hs => hs.none)
  · exact absurd h9 (by decide)
theorem fDims_spec : FDims := by
  intro l a
  refine spec_go (args := [sl a l.length]) Try.func41 Try.ntmps41 rfl (by exact Nat.le_of_ble_eq_true rfl) fun B hB => ?_
  refine go_openCL (l := l) (a := a) (fun hl1 hA1 hU1 => ?_)
  refine go_seq ?_
  refine go_region ⟨_, Try.func41⟩ rfl ?_
  refine q0 rfl (o_assign ?_)
  refine rg_nil ?_
  refine go_seq ?_
  refine go_region ⟨_, Try.func41⟩ rfl ?_
  refine q0 rfl (o_assign ?_)
  refine rg_nil ?_
  refine go_seq ?_
  refine go_seq ?_
  refine go_region ⟨_, Try.func41⟩ rfl ?_
  refine q0 rfl (o_move ?_)
  refine q0 rfl (o_len ?_)
  refine q0 rfl (o_move ?_)
  refine rg_nil ?_
  refine go_block ?_
  refine go_loopI (X := Nat) (fun i => i ≤ l.length) (fun i => [(3, .int .u32 (orUpto l i : Int)), (6, sl a l.length), (7, .int .i64 (l.length : Int)), (8, .int .i64 (i : Int))]) (fun i => [CL l a]) (fun i => []) (fun i => l.length - i) (0) (Nat.zero_le _) (by exact ⟨rfl, rfl, rfl, rfl, trivial⟩) ?_ ?_
  · exact fun w hs => hs.less (by simp)
  · intro i base0 hi next0
    refine go_seq ?_
    refine go_region ⟨_, Try.func41⟩ rfl ?_
    refine q0 rfl (o_lss ?_)
    refine rg_nil ?_
    refine go_seq ?_
    refine go_condI (fun h9 => ?_) (fun h9 => ?_)
    · have hlt : i < l.length := by have := of_decide_eq_true h9; omega
      obtain ⟨bk, o, hav⟩ := hA1 (by omega)
      have hu := hU1 _ (getD_mem (d := cl0) hlt)
      have hup := orUpto_lt hU1 i
      have hor : (l.getD i cl0).pos ||| (l.getD i cl0).neg < 4294967296 := Nat.or_lt_two_pow (n := 32) hu.1 hu.2
      refine go_skip ?_
      refine go_seq ?_
      refine go_block ?_
      refine go_seq ?_
      refine go_region ⟨_, Try.func41⟩ rfl ?_
      refine q0 rfl (o_ixN ?_)
      refine q0 rfl (o_ldC ?_)
      refine q0 rfl (o_new fun b5 => ?_)
      refine q0 rfl (o_st ?_)
      refine rg_nil ?_
      refine go_region ⟨_, Try.func41⟩ rfl ?_
      refine q0 rfl (o_move ?_)
      refine q0 rfl (o_fa ?_)
      refine q0 rfl (o_ld ?_)
      refine q0 rfl (o_fa ?_)
      refine q0 rfl (o_ld ?_)
      refine q0 rfl (o_orU32 ?_ (a := (l.getD i cl0).pos) (b := (l.getD i cl0).neg) (ha := hu.1) (hb := hu.2))
      refine q0 rfl (o_orU32 ?_ (a := orUpto l i) (b := (l.getD i cl0).pos ||| (l.getD i cl0).neg))
      refine q0 rfl (o_assign ?_)
      refine rg_nil ?_
      refine go_inBlock ?_
      refine go_region ⟨_, Try.func41⟩ rfl ?_
      refine q0 rfl (o_add ?_)
      refine q0 rfl (o_move ?_)
      refine rg_nil ?_
      refine go_state (fun w hs => ?_) (next0 (i + 1) _ hlt (by omega) ⟨by rw [orUpto_succ hlt]; rfl, rfl, rfl, rfl, trivial⟩)
      exact (hs.less (by simp)).bare
    · have hge : i = l.length := by have := of_decide_eq_false h9; omega
      refine go_exit rfl ?_
      refine go_seq ?_
      refine go_region ⟨_, Try.func41⟩ rfl ?_
      refine q0 rfl (o_move ?_)
      refine q0 rfl (o_call Try.call61 (withoutNone_spec (orUpto l i) (orUpto_lt hU1 i)) (fun x21 => ?_))
      refine q0 rfl (o_assign ?_)
      refine rg_nil ?_
      refine ret1 Try.func41 Try.results41 wn_ () (by rw [fDims_eq, ← hge]) (fun w hs => hs.none)
theorem clauseRight_spec (c : Cl) (hc : u32 c) : Spec Try.prog 88 #[.agg (clCells c).toArray] [] [] (fun _ : Unit => .bool (right24 c)) (fun _ => []) (fun _ => []) := by
  refine spec_go (args := [.agg (clCells c).toArray]) Try.func88 Try.ntmps88 rfl (by exact Nat.le_of_ble_eq_true rfl) fun B hB => ?_
  refine go_seq ?_
  refine go_region ⟨_, Try.func88⟩ rfl ?_
  refine q0 rfl (o_box fun b1 => ?_)
  refine q0 rfl (o_assign ?_)
  refine rg_nil ?_
  refine go_seq ?_
  refine go_region ⟨_, Try.func88⟩ rfl ?_
  refine q0 rfl (o_fa ?_)
  refine q0 rfl (o_ld ?_)
  refine q0 rfl (o_call Try.call96 (maskRight_spec c.pos hc.1) (fun x5 => ?_))
  refine q0 rfl (o_move ?_)
  refine qI rfl rfl rfl wl_ (fun hg6 => o_fa ?_) (fun hg6 => ?_)
  · refine qT rfl rfl rfl (o_ld ?_)
    refine qT rfl rfl rfl (o_call Try.call96 (maskRight_spec c.neg hc.2) (fun x9 => ?_))
    refine q0 rfl (o_pickT ?_)
    refine q0 rfl (o_assign ?_)
    refine rg_nil ?_
    refine ret1 Try.func88 Try.results88 wn_ () (by first | (simp_all [right24]; done) | (simp_all [right24]; intros; omega)) (fun w hs => hs.none)
  · refine qF rfl rfl rfl ?_
    refine qF rfl rfl rfl ?_
    refine q0 rfl (o_pickF ?_)
    refine q0 rfl (o_assign ?_)
    refine rg_nil ?_
    refine ret1 Try.func88 Try.results88 wn_ () (by first | (simp_all [right24]; done) | (simp_all [right24]; intros; omega)) (fun w hs => hs.none)
theorem clash_spec (c : Cl) (hc : u32 c) : Spec Try.prog 82 #[.agg (clCells c).toArray] [] [] (fun _ : Unit => .bool (clash c)) (fun _ => []) (fun _ => []) := by
  refine spec_go (args := [.agg (clCells c).toArray]) Try.func82 Try.ntmps82 rfl (by exact Nat.le_of_ble_eq_true rfl) fun B hB => ?_
  refine go_seq ?_
  refine go_region ⟨_, Try.func82⟩ rfl ?_
  refine q0 rfl (o_box fun b1 => ?_)
  refine q0 rfl (o_assign ?_)
  refine rg_nil ?_
  refine go_seq ?_
  refine go_region ⟨_, Try.func82⟩ rfl ?_
  refine q0 rfl (o_fa ?_)
  refine q0 rfl (o_ld ?_)
  refine q0 rfl (o_fa ?_)
  refine q0 rfl (o_ld ?_)
  refine q0 rfl (o_andU32 ?_ (a := c.pos) (b := c.neg) (ha := hc.1) (hb := hc.2))
  refine q0 rfl (o_neI ?_ (b := 0))
  refine q0 rfl (o_assign ?_)
  refine rg_nil ?_
  refine ret1 Try.func82 Try.results82 wn_ () (by simp only [clash]; congr 1; apply decide_eq_decide.mpr; omega) (fun w hs => hs.none)
theorem meet_spec (c d : Cl) (hc : u32 c) (hd : u32 d) : Spec Try.prog 97 #[.agg (clCells c).toArray, .agg (clCells d).toArray] [] [] (fun _ : Unit => .agg (clCells (meetC c d)).toArray) (fun _ => []) (fun _ => []) := by
  refine spec_go (args := [.agg (clCells c).toArray, .agg (clCells d).toArray]) Try.func97 Try.ntmps97 rfl (by exact Nat.le_of_ble_eq_true rfl) fun B hB => ?_
  refine go_seq ?_
  refine go_region ⟨_, Try.func97⟩ rfl ?_
  refine q0 rfl (o_box fun b2 => ?_)
  refine q0 rfl (o_box fun b3 => ?_)
  refine q0 rfl (o_new fun b4 => ?_)
  refine rg_nil ?_
  refine go_seq ?_
  refine go_region ⟨_, Try.func97⟩ rfl ?_
  refine q0 rfl (o_fa ?_)
  refine q0 rfl (o_ld ?_)
  refine q0 rfl (o_fa ?_)
  refine q0 rfl (o_ld ?_)
  refine q0 rfl (o_orU32 ?_ (a := c.pos) (b := d.pos) (ha := hc.1) (hb := hd.1))
  refine q0 rfl (o_fa ?_)
  refine q0 rfl (o_ld ?_)
  refine q0 rfl (o_fa ?_)
  refine q0 rfl (o_ld ?_)
  refine q0 rfl (o_orU32 ?_ (a := c.neg) (b := d.neg) (ha := hc.2) (hb := hd.2))
  refine q0 rfl (o_build (cs := clCells (meetC c d)) ?_)
  refine q0 rfl (o_st ?_)
  refine rg_nil ?_
  refine retC Try.func97 Try.results97 () rfl mm_ rfl rfl rfl rfl (fun w hs => hs.none)
theorem below_spec (c d : Cl) (hc : u32 c) (hd : u32 d) : Spec Try.prog 91 #[.agg (clCells c).toArray, .agg (clCells d).toArray] [] [] (fun _ : Unit => .bool (below c d)) (fun _ => []) (fun _ => []) := by
  refine spec_go (args := [.agg (clCells c).toArray, .agg (clCells d).toArray]) Try.func91 Try.ntmps91 rfl (by exact Nat.le_of_ble_eq_true rfl) fun B hB => ?_
  refine go_seq ?_
  refine go_region ⟨_, Try.func91⟩ rfl ?_
  refine q0 rfl (o_box fun b2 => ?_)
  refine q0 rfl (o_box fun b3 => ?_)
  refine q0 rfl (o_assign ?_)
  refine rg_nil ?_
  refine go_seq ?_
  refine go_draw (pn := 1000000) (tn := false) (A := [0, 0, 3, 0, 15, 31]) (l := [0, 1, 3, 2, 4, 5]) (fin := []) Tab.mixed ⟨_, Try.func91⟩ (by rfl) ?_
  refine n0 rfl (v_lds ?_)
  refine n0 rfl (v_lds ?_)
  refine n0 rfl (v_lds ?_)
  refine n0 rfl (v_call Try.call97 (meet_spec c d hc hd) (fun x7 => ?_))
  refine n0 rfl (v_eqC ?_ (c := meetC c d) (c' := c))
  refine n0 rfl (v_assign ?_)
  refine NV.done ?_
  refine rg_nil ?_
  refine ret1 Try.func91 Try.results91 wn_ () (by rw [below_meet]) (fun w hs => hs.none)
end Go.Hy
/-
  DERIVED: THE SHELF's CONTRACTS AT THIS DUMP, IN PLAIN WORDS (tools/lay-plain.mjs out of 'TrySort.lean', which tools/lay-shelf.mjs wrote): THE SAME DECLARATIONS UNDER THE SAME NAMES: 'import', 'namespace', 'open', 'def', 'theorem' AND NOTHING ELSE: no command of the shelf's: FOR A HAND-IN. Each laying: the table of numbers ('.._ren') and one theorem, a field a fact of the dump's own or the kernel's comparison; each contract: ONE APPLICATION.
-/
namespace Go.Proofs
set_option linter.unusedVariables false
set_option linter.unusedSimpArgs false
set_option linter.unusedSectionVars false
open Go.Shelf
def Try.sortL_ren : Go.Shelf.Ren := ⟨fun | 6 => 92 | 15 => 99 | 14 => 98 | 28 => 109 | 29 => 110 | 20 => 101 | 21 => 102 | 22 => 103 | 23 => 104 | 24 => 105 | 25 => 106 | 26 => 107 | 27 => 108 | 46 => 112 | 47 => 113 | 48 => 114 | 49 => 115 | 50 => 116 | 57 => 117 | n => n, fun | 22 => 22 | 24 => 53 | 25 => 105 | 3 => 3 | 39 => 40 | 0 => 0 | 53 => 38 | 55 => 90 | 4 => 4 | 46 => 117 | 45 => 116 | 50 => 121 | 5 => 5 | 9 => 9 | 66 => 125 | 70 => 129 | 76 => 131 | 77 => 69 | n => n, fun | n => n⟩
theorem Try.sortL : Go.Proofs.SlLaysF0.n6 Try.prog Try.sortL_ren := {
  mixed := by kernel_rfl
  f6 := ⟨Try.f92.name, by decide, Try.func92.trans (congrArg some (by kernel_rfl))⟩
  f14 := ⟨Try.f98.name, by decide, Try.func98.trans (congrArg some (by kernel_rfl))⟩
  f15 := Try.func99.trans (congrArg some (by kernel_rfl))
  f20 := ⟨Try.f101.name, by decide, Try.func101.trans (congrArg some (by kernel_rfl))⟩
  f21 := ⟨Try.f102.name, by decide, Try.func102.trans (congrArg some (by kernel_rfl))⟩
  f22 := ⟨Try.f103.name, by decide, Try.func103.trans (congrArg some (by kernel_rfl))⟩
  f23 := ⟨Try.f104.name, by decide, Try.func104.trans (congrArg some (by kernel_rfl))⟩
  f24 := ⟨Try.f105.name, by decide, Try.func105.trans (congrArg some (by kernel_rfl))⟩
  f25 := ⟨Try.f106.name, by decide, Try.func106.trans (congrArg some (by kernel_rfl))⟩
  f26 := ⟨Try.f107.name, by decide, Try.func107.trans (congrArg some (by kernel_rfl))⟩
  f27 := ⟨Try.f108.name, by decide, Try.func108.trans (congrArg some (by kernel_rfl))⟩
  f28 := Try.func109.trans (congrArg some (by kernel_rfl))
  f29 := Try.func110.trans (congrArg some (by kernel_rfl))
  f46 := ⟨Try.f112.name, by decide, Try.func112.trans (congrArg some (by kernel_rfl))⟩
  f47 := Try.func113.trans (congrArg some (by kernel_rfl))
  f48 := Try.func114.trans (congrArg some (by kernel_rfl))
  f49 := ⟨Try.f115.name, by decide, Try.func115.trans (congrArg some (by kernel_rfl))⟩
  f50 := ⟨Try.f116.name, by decide, Try.func116.trans (congrArg some (by kernel_rfl))⟩
  f57 := ⟨Try.f117.name, by decide, Try.func117.trans (congrArg some (by kernel_rfl))⟩
  t0 := Try.underlying0
  a0 := Try.isAgg0
  z0 := Try.sizeOf0
  v0 := Try.zeroValue0
  t3 := Try.underlying3
  a3 := Try.isAgg3
  z3 := Try.sizeOf3
  v3 := Try.zeroValue3
  t4 := Try.underlying4
  a4 := Try.isAgg4
  z4 := Try.sizeOf4
  v4 := Try.zeroValue4
  t5 := Try.underlying5
  a5 := Try.isAgg5
  z5 := Try.sizeOf5
  v5 := Try.zeroValue5
  t9 := Try.underlying9
  a9 := Try.isAgg9
  z9 := Try.sizeOf9
  v9 := Try.zeroValue9
  t22 := Try.underlying22
  a22 := Try.isAgg22
  z22 := Try.sizeOf22
  v22 := Try.zeroValue22
  t25 := Try.underlying105
  a25 := Try.isAgg105
  z25 := Try.sizeOf105
  v25 := Try.zeroValue105
  t39 := Try.underlying40
  a39 := Try.isAgg40
  z39 := Try.sizeOf40
  v39 := Try.zeroValue40
  t45 := Try.underlying116
  a45 := Try.isAgg116
  z45 := Try.sizeOf116
  v45 := Try.zeroValue116
  t46 := Try.underlying117
  a46 := Try.isAgg117
  z46 := Try.sizeOf117
  v46 := Try.zeroValue117
  t50 := Try.underlying121
  a50 := Try.isAgg121
  z50 := Try.sizeOf121
  v50 := Try.zeroValue121
  t53 := Try.underlying38
  a53 := Try.isAgg38
  z53 := Try.sizeOf38
  v53 := Try.zeroValue38
  t55 := Try.underlying90
  a55 := Try.isAgg90
  z55 := Try.sizeOf90
  v55 := Try.zeroValue90
  t66 := Try.underlying125
  a66 := Try.isAgg125
  z66 := Try.sizeOf125
  v66 := Try.zeroValue125
  t70 := Try.underlying129
  a70 := Try.isAgg129
  z70 := Try.sizeOf129
  v70 := Try.zeroValue129
  t76 := Try.underlying131
  a76 := Try.isAgg131
  z76 := Try.sizeOf131
  v76 := Try.zeroValue131
  t77 := Try.underlying69
  a77 := Try.isAgg69
  z77 := Try.sizeOf69
  v77 := Try.zeroValue69 }
end Go.Proofs
namespace Go.Hy
set_option linter.unusedVariables false
set_option linter.unusedSimpArgs false
set_option linter.unusedSectionVars false
open Go.Proofs
set_option linter.unusedVariables false
set_option linter.unusedSimpArgs false
set_option maxRecDepth 100000
open Go.Shelf Go.RowKit Go.Lib Go.Sort
theorem isNaN_k (a : Int) (W : World) : Calls Try.prog 111 #[.int .u32 a] W fun e w' => e = .returned (.bool false) ∧ w' = W := by
  go_enter Try.func111, Try.ntmps111
  go_wp2
  go_ret
  exact ⟨by simp, rfl⟩
theorem compare_k (a b : Int) (W : World) : Calls Try.prog 100 #[.int .u32 a, .int .u32 b] W fun e w' => e = .returned (.int .i64 (compareInt a b)) ∧ w' = W := by
  go_enter Try.func100, Try.ntmps100
  go_wp2_with (go_at_call 111; refine (isNaN_k _ _).mono ?_; rintro e w' ⟨rfl, rfl⟩)
  all_goals (go_ret; refine ⟨?_, rfl⟩; unfold Lib.compareInt; (repeat' split) <;> first | rfl | (exfalso; omega))
def cmpC (c d : Cl) : Int := if c.pos = d.pos then compareInt c.neg d.neg else compareInt c.pos d.pos
set_option maxHeartbeats 1000000 in
theorem cmp_k (c d : Cl) (W : World) : Calls Try.prog 93 #[.agg #[.int .u32 c.pos, .int .u32 c.neg], .agg #[.int .u32 d.pos, .int .u32 d.neg]] W fun e w' => e = .returned (.int .i64 (cmpC c d)) ∧ ∃ q os', w' = grow (W.drewN q) os' := by
  have hcon := fun a b W' => compare_k a b W'
  have e1 : cmpC c d = if (c.pos : Int) = d.pos then compareInt c.neg d.neg else compareInt c.pos d.pos := by unfold cmpC; simp only [Int.ofNat_inj]
  generalize hr : cmpC c d = r at e1 ⊢
  go_enter Try.func93, Try.ntmps93
  go_wp2_with (go_at_call 100; refine (hcon _ _ _).mono ?_; rintro e w' ⟨rfl, rfl⟩)
  all_goals (go_ret; refine ⟨?_, 0, _, by rw [alloc_eq_grow, alloc_eq_grow, grow_grow]; rfl⟩)
  all_goals (rw [e1]; simp_all)
/-! ### The order of clauses -/
instance : Inhabited Cl := ⟨cl0⟩
theorem cmp_lt (c d : Cl) : ltOf cmpC c d = lessC c d := by
  unfold ltOf cmpC lessC compareInt
  by_cases h : c.pos = d.pos
  · simp only [h, if_true]
    by_cases h2 : c.neg < d.neg
    · rw [if_pos (by omega)]; simp [h2]
    · rw [if_neg (by omega)]
      split <;> simp [h2]
  · simp only [h, if_false]
    by_cases h2 : c.pos < d.pos
    · rw [if_pos (by omega)]; simp [h2]
    · rw [if_neg (by omega), if_pos (by omega)]
      simp [h2]
theorem cmp_swo : SWO (ltOf cmpC) where
  irrefl x := by rw [cmp_lt]; simp [lessC]
  trans x y z h1 h2 := by
    rw [cmp_lt] at *
    simp only [lessC, Bool.or_eq_true, Bool.and_eq_true, decide_eq_true_eq] at *
    omega
  ntrans x y z h1 h2 := by
    rw [cmp_lt] at *
    simp only [lessC, Bool.or_eq_false_iff, Bool.and_eq_false_iff, decide_eq_false_iff_not] at *
    omega
theorem flatK_toList (d : Array Cl) : (flatK clCells 2 d).toList = clFlat d.toList := by
  apply List.ext_getElem?
  intro t
  have hl : (clFlat d.toList).length = d.size * 2 := by rw [flat_len clCells_len]; simp
  by_cases ht : t < d.size * 2
  · have h1 : (flatK clCells 2 d).toList[t]? = some (clCells d[t / 2]!)[t % 2]! := by
      have hs : t < (flatK clCells 2 d).size := by rw [size_flatK]; exact ht
      rw [Array.getElem?_toList, Array.getElem?_eq_getElem hs]
      have := get_flatK clCells 2 d t ht
      rw [getElem!_pos _ t hs] at this
      rw [this]
    rw [h1]
    have hd : t / 2 < d.toList.length := by simp; omega
    have e : d.toList.getD (t / 2) cl0 = d[t / 2]! := by
      have : t / 2 < d.size := by simpa using hd
      rw [getElem!_pos d (t / 2) this, List.getD_eq_getElem?_getD, List.getElem?_eq_getElem hd]; simp
    have h2 : (clCells (d.toList.getD (t / 2) cl0))[t % 2]? = some (clCells d[t / 2]!)[t % 2]! := by
      rw [e]
      have : t % 2 < (clCells d[t / 2]!).length := by rw [clCells_len]; omega
      rw [List.getElem?_eq_getElem this, getElem!_pos (clCells d[t / 2]!) (t % 2) this]
    have := flat_at clCells_len cl0 d.toList (t / 2) (t % 2) _ hd h2
    rw [show t / 2 * 2 + t % 2 = t by omega] at this
    exact this.symm
  · rw [List.getElem?_eq_none (by simp; omega), List.getElem?_eq_none (by omega)]
theorem put_cells (d : Array Cl) (l : List Cl) (rest : List Value) (hs : d.size = l.length) : putCells id 0 (flatK clCells 2 d) (clFlat l ++ rest).toArray = (clFlat d.toList ++ rest).toArray := by
  apply Array.ext_getElem?
  intro t
  have hl : (clFlat l).length = d.size * 2 := by rw [flat_len clCells_len, hs]
  have hl2 : (clFlat d.toList).length = d.size * 2 := by rw [flat_len clCells_len]; simp
  simp only [putCells, Array.getElem?_mapIdx, List.getElem?_toArray, size_flatK, Nat.zero_add, Nat.zero_le, true_and, Nat.sub_zero, id]
  by_cases ht : t < d.size * 2
  · rw [List.getElem?_append_left (by omega), List.getElem?_append_left (by omega)]
    have h1 : (clFlat d.toList)[t]? = some (flatK clCells 2 d)[t]! := by
      rw [← flatK_toList, Array.getElem?_toList]
      have hsz : t < (flatK clCells 2 d).size := by rw [size_flatK]; exact ht
      rw [Array.getElem?_eq_getElem hsz, getElem!_pos _ t hsz]
    rw [h1]
    obtain ⟨v, hv⟩ : ∃ v, (clFlat l)[t]? = some v := ⟨_, List.getElem?_eq_getElem (by omega)⟩
    rw [hv, Option.map_some, if_pos ht]
  · rw [List.getElem?_append_right (by omega), List.getElem?_append_right (by omega), hl, hl2]
    cases rest[t - d.size * 2]? with
    | none => rfl
    | some v => rw [Option.map_some, if_neg ht]
/-- slices.SortFunc at clauses, by clause.Cmp: a row of the caller's own. -/
theorem sort_spec (l : List Cl) (g cap : Nat) (rest : List Value) (hn : l.length < 4611686018427387904) :
    Spec Try.prog 92 #[.slice (some ⟨g, 0, none⟩) l.length cap, .func (.func 93) #[] #[]] [] [boxR g (clFlat l ++ rest) 53] (fun _ : {l' : List Cl // l'.Perm l ∧ l'.Pairwise fun a b => lessC b a = false} => .tuple #[]) (fun _ => []) (fun x => [boxR g (clFlat x.1 ++ rest) 53]) := by
  intro ok w hok hs
  have hg : w.heap[g]? = some (.cells (clFlat l ++ rest).toArray 53 (0, 0)) := hs.res _ List.mem_cons_self w (fun _ _ => rfl)
  have hlt : g < w.heap.size := (Array.getElem?_eq_some_iff.mp hg).1
  have hu : Try.prog.underlying 53 = some (.struct (TyF.fC Try.prog)) := TyF.uC
  have aE : ∀ w, (isAgg (Try.sortL_ren.t 24)).run Try.prog w = .ok true w := fun w => by
    show (isAgg 53).run Try.prog w = _
    simp [isAgg, run_underlying hu]
  have zE : ∀ w, (Go.sizeOf (Try.sortL_ren.t 24)).run Try.prog w = .ok 2 w := fun w => run_size0 (P := Try.prog) (t := 53) rfl w
  have hH : HoldsK clCells 2 w g 0 l.toArray := by
    intro j hj
    rw [size_flatK] at hj
    have e : (flatK clCells 2 l.toArray).toList = clFlat l := by rw [flatK_toList]
    have hsz : j < (flatK clCells 2 l.toArray).size := by rw [size_flatK]; exact hj
    have h1 : (clFlat l)[j]? = some (flatK clCells 2 l.toArray)[j]! := by
      rw [← e, Array.getElem?_toList, Array.getElem?_eq_getElem hsz, getElem!_pos _ j hsz]
    refine ⟨?_, by simp [World.frozen?, hg]⟩
    have hlen : j < (clFlat l).length := (List.getElem?_eq_some_iff.mp h1).1
    simp only [World.cell?, hg, Nat.zero_add, Option.isSome_none, Bool.false_eq_true, if_false, List.getElem?_toArray, id]
    rw [List.getElem?_append_left hlen]; exact h1
  have hc := AnyQ.slices_SortFunc (P := Try.prog) Try.sortL 2 aE zE clCells clCells_len (fun x v hv => by
      simp only [clCells, List.mem_cons, List.not_mem_nil, or_false] at hv; rcases hv with rfl | rfl <;> rfl) cmpC cmp_swo 93 #[] g 0 cap l.toArray w Try.call93
    (fun m os dk hsz x y => cmp_k x y _) hH hlt (by simpa using hn)
  have hc2 : Calls Try.prog 92 #[.slice (some ⟨g, 0, none⟩) l.length cap, .func (.func 93) #[] #[]] w _ := hc
  refine hc2.mono ?_
  rintro e w' ⟨he, d', n, os, hp, hsd, hw⟩
  have hsize : d'.size = l.length := by simpa using hp.1
  have hperm : d'.toList.Perm l := by
    have := hp.2.2
    have e1 : d'.extract 0 l.toArray.size = d' := by rw [show l.toArray.size = d'.size by simp [hsize]]; simp
    have e2 : l.toArray.extract 0 l.toArray.size = l.toArray := by simp
    rw [e1, e2] at this
    exact this
  have hsorted : d'.toList.Pairwise fun a b => lessC b a = false := by
    rw [List.pairwise_iff_getElem]
    intro i j hi hj hij
    have hi' : i < d'.size := by simpa using hi
    have hj' : j < d'.size := by simpa using hj
    have := hsd i j (Nat.zero_le _) hij (by simp; omega)
    rw [cmp_lt, getElem!_pos d' j hj', getElem!_pos d' i hi'] at this
    simpa using this
  have hg' : w'.heap[g]? = some (.cells (clFlat d'.toList ++ rest).toArray 53 (0, 0)) := by
    rw [hw]
    show ((mapBlock (Go.Sort.ahead w n) g (putCells id 0 (flatK clCells 2 d'))).heap ++ os)[g]? = _
    rw [Array.getElem?_append_left (by simp [mapBlock, Go.Sort.ahead]; exact hlt)]
    simp only [mapBlock, Go.Sort.ahead, Array.getElem?_modify, if_true, hg, Option.map_some, onCells]
    rw [put_cells d' l rest hsize]
  have hold : ∀ b, b < w.heap.size → b ≠ g → w'.heap[b]? = w.heap[b]? := by
    intro b hb hne
    rw [hw]
    show ((mapBlock (Go.Sort.ahead w n) g (putCells id 0 (flatK clCells 2 d'))).heap ++ os)[b]? = _
    rw [Array.getElem?_append_left (by simp [mapBlock, Go.Sort.ahead]; exact hb)]
    simp only [mapBlock, Go.Sort.ahead, Array.getElem?_modify, if_neg (Ne.symm hne)]
  have hsz' : w.heap.size ≤ w'.heap.size := by rw [hw]; simp [sortWorldK, putRowK, Go.Sort.ahead]
  refine ⟨⟨d'.toList, hperm, hsorted⟩, he, ?_⟩
  have h0 : St ⟨ok, domAll [boxR g (clFlat l ++ rest) 53], w⟩ [] ([boxR g (clFlat l ++ rest) 53]) w := hs
  refine h0.turn (m' := boxR g (clFlat d'.toList ++ rest) 53) ⟨by rw [hw]; rfl, by rw [hw]; rfl, by rw [hw]; rfl, hsz', fun b hb hn => hold b hb hn⟩ (fun w2 hw2 => by
    show w2.heap[g]? = _
    rw [hw2 g rfl]; exact hg') (fun b hb => ?_)
  have hb : b = g := hb
  subst hb
  exact ⟨by omega, .inl rfl⟩
end Go.Hy
namespace Go.Hy
set_option linter.unusedVariables false
set_option linter.unusedSimpArgs false
set_option linter.unusedSectionVars false
open Go.Proofs
set_option linter.unusedVariables false
set_option linter.unusedSimpArgs false
set_option maxRecDepth 100000
theorem permNil {M : List Res} : M.Perm (M ++ []) := by rw [List.append_nil]
theorem index_spec (l : List Cl) (a : SH) (c : FuncId) (cap : List Value) (FΓ : List Fact) (M : List Res) (g : Cl → Bool) (hc : ∀ (args : Array Value) (w : World), (callFunc c args).run Try.prog w = .ok (.enter c args) w) (hcl : ∀ x, x ∈ l → Spec Try.prog c (keyV x :: cap).toArray FΓ M (fun _ : Unit => .bool (g x)) (fun _ => []) (fun _ => M)) : Spec Try.prog 94 #[sl a l.length, .func (.func c) #[] cap.toArray] (CL l a :: FΓ) M (fun _ : Unit => .int .i64 (idxP g l)) (fun _ => []) (fun _ => M) := by
  refine spec_go (args := [sl a l.length, .func (.func c) #[] cap.toArray]) Try.func94 Try.ntmps94 rfl (by exact Nat.le_of_ble_eq_true rfl) fun B hB => ?_
  refine go_openCL (l := l) (a := a) (fun hl1 hA1 hU1 => ?_)
  refine go_seq ?_
  refine go_region ⟨_, Try.func94⟩ rfl ?_
  refine q0 rfl (o_assign ?_)
  refine rg_nil ?_
  refine go_seq ?_
  refine go_seq ?_
  refine go_region ⟨_, Try.func94⟩ rfl ?_
  refine q0 rfl (o_move ?_)
  refine q0 rfl (o_len ?_)
  refine q0 rfl (o_move ?_)
  refine rg_nil ?_
  refine go_block ?_
  refine go_loopI (X := Nat) (fun i => i ≤ l.length ∧ ∀ j, j < i → g (l.getD j cl0) = false) (fun i => [(0, sl a l.length), (1, .func (.func c) #[] cap.toArray), (7, .int .i64 (l.length : Int)), (8, .int .i64 (i : Int))]) (fun i => CL l a :: FΓ) (fun i => M) (fun i => l.length - i) (0) (⟨Nat.zero_le _, fun j hj => by omega⟩) (by exact ⟨rfl, rfl, rfl, rfl, trivial⟩) ?_ ?_
  · exact fun w hs => hs
  · intro i base0 ⟨hi, hok⟩ next0
    refine go_seq ?_
    refine go_region ⟨_, Try.func94⟩ rfl ?_
    refine q0 rfl (o_lss ?_)
    refine rg_nil ?_
    refine go_seq ?_
    refine go_condI (fun h9 => ?_) (fun h9 => ?_)
    · have hlt : i < l.length := by have := of_decide_eq_true h9; omega
      obtain ⟨bk, o, hav⟩ := hA1 (by omega)
      refine go_skip ?_
      refine go_seq ?_
      refine go_block ?_
      refine go_seq ?_
      refine go_region ⟨_, Try.func94⟩ rfl ?_
      refine q0 rfl (o_move ?_)
      refine q0 rfl (o_assign ?_)
      refine rg_nil ?_
      refine go_seq ?_
      refine go_region ⟨_, Try.func94⟩ rfl ?_
      refine q0 rfl (o_move ?_)
      refine q0 rfl (o_move ?_)
      refine q0 rfl (o_move ?_)
      refine q0 rfl (o_ixN ?_)
      refine q0 rfl (o_ldC ?_)
      refine q0 rfl (o_callC hc (hcl _ (getD_mem hlt)) (cap := cap) (fun x16 => ?_) (hm := permNil))
      refine rg_nil ?_
      refine go_condI (fun h16 => ?_) (fun h16 => ?_)
      · refine go_seq ?_
        refine go_region ⟨_, Try.func94⟩ rfl ?_
        refine q0 rfl (o_move ?_)
        refine q0 rfl (o_assign ?_)
        refine rg_nil ?_
        refine ret1 Try.func94 Try.results94 wn_ () (by rw [idxP_at hlt h16 hok]) (fun w hs => (hs.less (by simp)).dropR)
      · refine go_skip ?_
        refine go_inBlock ?_
        refine go_region ⟨_, Try.func94⟩ rfl ?_
        refine q0 rfl (o_add ?_)
        refine q0 rfl (o_move ?_)
        refine rg_nil ?_
        refine go_state (fun w hs => ?_) (next0 (i + 1) _ ⟨hlt, fun j hj => (by rcases Nat.lt_succ_iff_lt_or_eq.mp hj with h | h; exact hok j h; subst h; exact h16)⟩ (by omega) ⟨rfl, rfl, rfl, rfl, trivial⟩)
        exact (hs.less (by simp +contextual)).dropR
    · have hge : i = l.length := by have := of_decide_eq_false h9; omega
      refine go_exit rfl ?_
      refine go_seq ?_
      refine go_region ⟨_, Try.func94⟩ rfl ?_
      refine q0 rfl (o_assign ?_)
      refine rg_nil ?_
      refine ret1 Try.func94 Try.results94 wn_ () (by rw [idxP_none (by rw [← hge]; exact hok)]) (fun w hs => hs.less (by simp))
theorem contains_spec (l : List Cl) (a : SH) (c : FuncId) (cap : List Value) (FΓ : List Fact) (M : List Res) (g : Cl → Bool) (hc : ∀ (args : Array Value) (w : World), (callFunc c args).run Try.prog w = .ok (.enter c args) w) (hcl : ∀ x, x ∈ l → Spec Try.prog c (keyV x :: cap).toArray FΓ M (fun _ : Unit => .bool (g x)) (fun _ => []) (fun _ => M)) : Spec Try.prog 81 #[sl a l.length, .func (.func c) #[] cap.toArray] (CL l a :: FΓ) M (fun _ : Unit => .bool (l.any g)) (fun _ => []) (fun _ => M) := by
  refine spec_go (args := [sl a l.length, .func (.func c) #[] cap.toArray]) Try.func81 Try.ntmps81 rfl (by exact Nat.le_of_ble_eq_true rfl) fun B hB => ?_
  refine go_seq ?_
  refine go_region ⟨_, Try.func81⟩ rfl ?_
  refine q0 rfl (o_assign ?_)
  refine rg_nil ?_
  refine go_seq ?_
  refine go_region ⟨_, Try.func81⟩ rfl ?_
  refine q0 rfl (o_move ?_)
  refine q0 rfl (o_move ?_)
  refine q0 rfl (o_call Try.call94 (index_spec l a c cap FΓ M g hc hcl) (fun x7 => ?_) (hm := permNil))
  refine q0 rfl (o_geq ?_)
  refine q0 rfl (o_assign ?_)
  refine rg_nil ?_
  refine ret1 Try.func81 Try.results81 wn_ () (by rw [idxP_nonneg]) (fun w hs => (hs.less (by simp)).dropR)
theorem least11_spec (c d : Cl) (hc : u32 c) (hd : u32 d) (b : Nat) : Spec Try.prog 90 #[keyV d, .pointer (some ⟨b, 0, none⟩)] [] [boxR b (clCells c) 53] (fun _ : Unit => .bool (!decide (c = d) && below c d)) (fun _ => []) (fun _ => [boxR b (clCells c) 53]) := by
  refine spec_go (args := [keyV d, .pointer (some ⟨b, 0, none⟩)]) Try.func90 Try.ntmps90 rfl (by exact Nat.le_of_ble_eq_true rfl) fun B hB => ?_
  refine go_seq ?_
  refine go_region ⟨_, Try.func90⟩ rfl ?_
  refine q0 rfl (o_box fun b2 => ?_)
  refine q0 rfl (o_assign ?_)
  refine rg_nil ?_
  refine go_seq ?_
  refine go_region ⟨_, Try.func90⟩ rfl ?_
  refine q0 rfl (o_lds ?_)
  refine q0 rfl (o_lds ?_)
  refine q0 rfl (o_neC ?_ (c := c) (c' := d))
  refine q0 rfl (o_move ?_)
  refine qI rfl rfl rfl wl_ (fun hg7 => o_lds ?_) (fun hg7 => ?_)
  · refine qT rfl rfl rfl (o_lds ?_)
    refine qT rfl rfl rfl (o_call Try.call91 (below_spec c d hc hd) (fun x10 => ?_))
    refine q0 rfl (o_pickT ?_)
    refine q0 rfl (o_assign ?_)
    refine rg_nil ?_
    refine ret1 Try.func90 Try.results90 wn_ () (by simp_all) (fun w hs => (hs.less (by simp)).drop)
  · refine qF rfl rfl rfl ?_
    refine qF rfl rfl rfl ?_
    refine q0 rfl (o_pickF ?_)
    refine q0 rfl (o_assign ?_)
    refine rg_nil ?_
    refine ret1 Try.func90 Try.results90 wn_ () (by simp_all) (fun w hs => (hs.less (by simp)).drop)
theorem least1_spec (l : List Cl) (a : SH) (c : Cl) (hc : u32 c) (b : Nat) : Spec Try.prog 89 #[keyV c, .pointer (some ⟨b, 0, none⟩)] [CL l a] [boxR b [sl a l.length] 22] (fun _ : Unit => .bool (needless l c)) (fun _ => []) (fun _ => [boxR b [sl a l.length] 22]) := by
  refine spec_go (args := [keyV c, .pointer (some ⟨b, 0, none⟩)]) Try.func89 Try.ntmps89 rfl (by exact Nat.le_of_ble_eq_true rfl) fun B hB => ?_
  refine go_openCL (l := l) (a := a) (fun hl1 hA1 hU1 => ?_)
  refine go_seq ?_
  refine go_region ⟨_, Try.func89⟩ rfl ?_
  refine q0 rfl (o_box fun b2 => ?_)
  refine q0 rfl (o_assign ?_)
  refine rg_nil ?_
  refine go_seq ?_
  refine go_region ⟨_, Try.func89⟩ rfl ?_
  refine q0 rfl (o_ld ?_)
  refine q0 rfl (o_func ?_)
  refine q0 rfl (o_call Try.call81 (contains_spec l a 90 [.pointer (some ⟨b2, 0, none⟩)] [] [boxR b2 (clCells c) 53] (fun d => !decide (c = d) && below c d) Try.call90 (fun d hd => least11_spec c d hc (hU1 d hd) b2)) (fun x6 => ?_))
  refine q0 rfl (o_assign ?_)
  refine rg_nil ?_
  refine ret1 Try.func89 Try.results89 wn_ () rfl (fun w hs => (hs.less (by simp)).drop)
end Go.Hy
