/- Contracts of this program's functions and the laws that they need: a separation logic over the machine's rules, one theorem each (partly printed by a program of this repository). -/
import Derived.Test.YtceegbilhbhibaaP3
import Derived.Test.YtceegbilhbhibaaP4
import Derived.Test.YtceegbilhbhibaaP5
namespace Go.Hy
set_option linter.unusedVariables false
set_option linter.unusedSimpArgs false
set_option linter.unusedSectionVars false
set_option linter.unusedVariables false
set_option linter.unusedSimpArgs false
/-! ### Lifting: masks, clauses, formulas -/
def maskLift (s : Nat) (f b : Int) : Int × Nat :=
  if f < 0 ∨ b < 0 then (2, 0) else
  if andNot32 (s &&& 16777215) (2 ^ (min f.toNat 24) - 1) = 0 then (0, (s &&& 16777215) &&& (2 ^ (min f.toNat 24) - 1)) else
  if 24 ≤ b ∨ 16777215 < andNot32 (s &&& 16777215) (2 ^ (min f.toNat 24) - 1) * 2 ^ b.toNat then (10, 0) else
  (0, ((s &&& 16777215) &&& (2 ^ (min f.toNat 24) - 1)) ||| (andNot32 (s &&& 16777215) (2 ^ (min f.toNat 24) - 1) * 2 ^ b.toNat))
theorem andNot32_bit (a b i : Nat) : (andNot32 a b).testBit i = (decide (i < 32) && a.testBit i && !b.testBit i) := by
  unfold andNot32
  rw [BitVec.testBit_toNat]
  by_cases h : i < 32
  · rw [BitVec.getLsbD_and, BitVec.getLsbD_not, BitVec.getLsbD_ofNat, BitVec.getLsbD_ofNat]
    simp [h]
  · have : (BitVec.ofNat 32 a &&& ~~~BitVec.ofNat 32 b).getLsbD i = false := BitVec.getLsbD_of_ge _ _ (by omega)
    rw [this]; simp [h]
theorem and24_bit (s i : Nat) : (s &&& 16777215).testBit i = (decide (i < 24) && s.testBit i) := by
  rw [and24, Nat.testBit_mod_two_pow]
theorem mask_bit (m i : Nat) : (2 ^ m - 1).testBit i = decide (i < m) := Nat.testBit_two_pow_sub_one m i
theorem andNot_lt {q m : Nat} (h : q < 16777216) : andNot32 q m < 16777216 := by
  refine Nat.lt_pow_two_of_testBit (n := 24) _ (fun i hi => ?_)
  rw [andNot32_bit, Nat.testBit_lt_two_pow (x := q) (Nat.lt_of_lt_of_le h (Nat.pow_le_pow_right (n := 2) (by decide) hi))]
  simp
theorem maskLift_lt (s : Nat) (f b : Int) : (maskLift s f b).2 < 16777216 := by
  unfold maskLift
  split
  · decide
  · split
    · exact Nat.lt_of_le_of_lt Nat.and_le_left (and24_lt s)
    · split
      · decide
      · refine Nat.or_lt_two_pow (n := 24) ?_ ?_
        · exact Nat.lt_of_le_of_lt Nat.and_le_left (and24_lt s)
        · rename_i h; simp only [not_or] at h; have := h.2; omega
def clLift (c : Cl) (f b : Int) : Int × Cl :=
  if right24 c = false then (2, cl0) else
  if (maskLift c.pos f b).1 ≠ 0 then ((maskLift c.pos f b).1, cl0) else
  if (maskLift c.neg f b).1 ≠ 0 then ((maskLift c.neg f b).1, cl0) else
  (0, ⟨(maskLift c.pos f b).2, (maskLift c.neg f b).2⟩)
theorem clLift_u32 (c : Cl) (f b : Int) : u32 (clLift c f b).2 := by
  have h1 := maskLift_lt c.pos f b
  have h2 := maskLift_lt c.neg f b
  unfold clLift
  split
  · exact ⟨(by decide : (0 : Nat) < 4294967296), (by decide : (0 : Nat) < 4294967296)⟩
  · split
    · exact ⟨(by decide : (0 : Nat) < 4294967296), (by decide : (0 : Nat) < 4294967296)⟩
    · split
      · exact ⟨(by decide : (0 : Nat) < 4294967296), (by decide : (0 : Nat) < 4294967296)⟩
      · exact ⟨by show (maskLift c.pos f b).2 < _; omega, by show (maskLift c.neg f b).2 < _; omega⟩
/-! Formulas, clause by clause. -/
def foldC (g : Cl → Int × Cl) (l : List Cl) : Int × List Cl := match l.find? (fun c => (g c).1 ≠ 0) with
  | some c => ((g c).1, [])
  | none => (0, l.map fun c => (g c).2)
theorem foldC_bad {g : Cl → Int × Cl} {l : List Cl} {i : Nat} (hi : i < l.length) (h0 : ∀ j, j < i → (g (l.getD j cl0)).1 = 0) (h : (g (l.getD i cl0)).1 ≠ 0) : foldC g l = ((g (l.getD i cl0)).1, []) := by
  have : l.find? (fun c => (g c).1 ≠ 0) = some (l.getD i cl0) := by
    rw [List.find?_eq_some_iff_getElem]
    rw [getD_get (d := cl0) hi] at h ⊢
    refine ⟨by simpa using h, i, hi, rfl, fun j hj => ?_⟩
    have := h0 j hj
    rw [getD_get (d := cl0) (by omega)] at this
    simp [this]
  rw [foldC, this]
theorem foldC_ok {g : Cl → Int × Cl} {l : List Cl} (h0 : ∀ j, j < l.length → (g (l.getD j cl0)).1 = 0) : foldC g l = (0, l.map fun c => (g c).2) := by
  have : l.find? (fun c => (g c).1 ≠ 0) = none := by
    rw [List.find?_eq_none]
    intro x hx
    obtain ⟨j, hj, e⟩ := List.mem_iff_getElem.mp hx
    have := h0 j hj
    rw [getD_get (d := cl0) hj, e] at this
    simp [this]
  rw [foldC, this]
theorem foldC_iff {g : Cl → Int × Cl} {l : List Cl} : (foldC g l).1 = 0 ↔ ∀ c, c ∈ l → (g c).1 = 0 := by
  unfold foldC
  cases h : l.find? (fun c => (g c).1 ≠ 0) with
  | none =>
    rw [List.find?_eq_none] at h
    simp only [true_iff]
    intro c hc
    simpa using h c hc
  | some c =>
    have h1 := List.find?_some h
    have h2 := List.mem_of_find?_eq_some h
    simp only
    refine ⟨fun h3 => ?_, fun h3 => h3 c h2⟩
    simp at h1; exact absurd h3 h1
theorem foldC_map {g : Cl → Int × Cl} {l : List Cl} (h : (foldC g l).1 = 0) : foldC g l = (0, l.map fun c => (g c).2) :=
  foldC_ok fun j hj => foldC_iff.mp h _ (getD_mem hj)
theorem leastF_fRight {l : List Cl} : fRight l = true ↔ leastF l = (0, l) := by
  rw [← leastF_right, Bool.and_eq_true, decide_eq_true_eq, decide_eq_true_eq]
  constructor
  · rintro ⟨h1, h2⟩; exact Prod.ext h1 h2
  · intro h; rw [h]; exact ⟨rfl, rfl⟩
def formLift (l : List Cl) (f b : Int) : Int × List Cl :=
  if fRight l = false then (2, []) else
  if (foldC (fun c => clLift c f b) l).1 ≠ 0 then ((foldC (fun c => clLift c f b) l).1, []) else leastF (foldC (fun c => clLift c f b) l).2
def rowLift (by_ : Int) (l : List Cl) (f : Int) : Res1 (List Cl) :=
  if by_ = 0 ∨ 24 ≤ f then .ok l else if (formLift l f by_).1 = 0 then .ok (formLift l f by_).2 else .bad (formLift l f by_).1
/-! ### Terms -/
def liftTr (vb db : Int) : Tr (Int × Int) where
  own c k n _ r := (rowLift db r c.2).bind fun r' => if k = 1 ∧ c.1 ≤ n then (if 1000000000 - vb < n then .bad 100 else .ok (.inr (n + vb, r'))) else .ok (.inr (n, r'))
  face c f := (rowLift db f c.2).bind fun f' => .ok (some f')
  kid c b := .ok (c.1 + b.1, c.2 + b.2)
section
variable {C : Type} {A : Tr C} {t : T} {c : C} {e : Int}
theorem trav_own_bad (h : A.own c t.kind t.n t.name t.r = .bad e) : trav A t c = .bad e := by rw [trav_eq, h]; rfl
theorem trav_kid_bad {p : Int × List Cl} {i : Nat} {l : List T} (h : A.own c t.kind t.n t.name t.r = .ok (.inr p)) (hi : i < t.kids.length) (hl : travL A t.kind 0 (t.kids.take i) c = .ok l) {c' : C} (hc : A.kid c (binds t.kind i) = .ok c') (hb : trav A (t.kids.getD i t0) c' = .bad e) : trav A t c = .bad e := by
  have h1 : travL A t.kind 0 (t.kids.take (i + 1)) c = .bad e := by
    rw [take_succ_getD (d := t0) hi, travL_snoc, hl]
    simp only [Res1.bind, List.length_take, Nat.zero_add, Nat.min_eq_left (Nat.le_of_lt hi)]
    rw [hc]; simp only; rw [hb]
  have h2 := travL_bad (m := t.kids.drop (i + 1)) h1
  rw [List.take_append_drop] at h2
  rw [trav_eq, h]; simp only [Res1.bind]; rw [h2]
theorem trav_kid_ok {k : Int} {ts : List T} {i : Nat} {l : List T} {u : T} (hi : i < ts.length) (hl : travL A k 0 (ts.take i) c = .ok l) {c' : C} (hc : A.kid c (binds k i) = .ok c') (hb : trav A (ts.getD i t0) c' = .ok u) : travL A k 0 (ts.take (i + 1)) c = .ok (l ++ [u]) := by
  rw [take_succ_getD (d := t0) hi, travL_snoc, hl]
  simp only [Res1.bind, List.length_take, Nat.zero_add, Nat.min_eq_left (Nat.le_of_lt hi)]
  rw [hc]; simp only; rw [hb]
theorem travS_at_bad {k : Int} {ts : List T} {i : Nat} {l : List T} (hi : i < ts.length) (hl : travS A k (ts.take i) c = .ok l) {c' : C} (hc : A.kid c (0, more k) = .ok c') (hb : trav A (ts.getD i t0) c' = .bad e) : travS A k ts c = .bad e := by
  have h1 : travS A k (ts.take (i + 1)) c = .bad e := by
    rw [take_succ_getD (d := t0) hi, travS_snoc, hl]
    simp only [Res1.bind]
    rw [hc]; simp only; rw [hb]
  have h2 := travS_bad (m := ts.drop (i + 1)) h1
  rwa [List.take_append_drop] at h2
theorem travS_at_ok {k : Int} {ts : List T} {i : Nat} {l : List T} {u : T} (hi : i < ts.length) (hl : travS A k (ts.take i) c = .ok l) {c' : C} (hc : A.kid c (0, more k) = .ok c') (hb : trav A (ts.getD i t0) c' = .ok u) : travS A k (ts.take (i + 1)) c = .ok (l ++ [u]) := by
  rw [take_succ_getD (d := t0) hi, travS_snoc, hl]
  simp only [Res1.bind]
  rw [hc]; simp only; rw [hb]
theorem trav_sys_bad {p : Int × List Cl} {s : Nat} {l : List T} {bs : List Br} (h : A.own c t.kind t.n t.name t.r = .ok (.inr p)) (hl : travL A t.kind 0 t.kids c = .ok l) (hs : s < t.sys.length) (hb : travB A t.kind (t.sys.take s) c = .ok bs) (hf : A.face c (t.sys.getD s br0).face = .bad e ∨ ∃ f', A.face c (t.sys.getD s br0).face = .ok (some f') ∧ travS A t.kind (t.sys.getD s br0).kids c = .bad e) : trav A t c = .bad e := by
  have h1 : travB A t.kind (t.sys.take (s + 1)) c = .bad e := by
    rw [take_succ_getD (d := br0) hs, travB_snoc, hb]
    simp only [Res1.bind]
    rcases hf with hf | ⟨f', hf, h2⟩
    · rw [hf]
    · rw [hf]; simp only; rw [h2]
  have h2 := travB_bad (m := t.sys.drop (s + 1)) h1
  rw [List.take_append_drop] at h2
  rw [trav_eq, h]; simp only [Res1.bind]; rw [hl]; simp only; rw [h2]
theorem travB_at_ok {k : Int} {ss : List Br} {s : Nat} {bs : List Br} {f' : List Cl} {ks : List T} (hs : s < ss.length) (hb : travB A k (ss.take s) c = .ok bs) (hf : A.face c (ss.getD s br0).face = .ok (some f')) (hk : travS A k (ss.getD s br0).kids c = .ok ks) : travB A k (ss.take (s + 1)) c = .ok (bs ++ [.mk f' ks]) := by
  rw [take_succ_getD (d := br0) hs, travB_snoc, hb]
  simp only [Res1.bind]
  rw [hf]; simp only; rw [hk]
theorem trav_ok_of {p : Int × List Cl} {l : List T} {bs : List Br} (h : A.own c t.kind t.n t.name t.r = .ok (.inr p)) (hl : travL A t.kind 0 t.kids c = .ok l) (hb : travB A t.kind t.sys c = .ok bs) : trav A t c = .ok (.mk t.kind p.1 t.name p.2 l bs) := by
  rw [trav_eq, h]; simp only [Res1.bind]; rw [hl]; simp only; rw [hb]
end
theorem foldC_u32 {g : Cl → Int × Cl} {l : List Cl} (h : ∀ c, u32 (g c).2) : ∀ c, c ∈ (foldC g l).2 → u32 c := by
  intro c hc
  unfold foldC at hc
  split at hc
  · cases hc
  · obtain ⟨d, _, rfl⟩ := List.mem_map.mp hc; exact h d
theorem foldC_len {g : Cl → Int × Cl} {l : List Cl} : (foldC g l).2.length ≤ l.length := by
  unfold foldC
  split <;> simp
theorem more_01 (k : Int) : 0 ≤ more k ∧ more k ≤ 1 := by unfold more; split <;> omega
theorem size_kid_lt {t : T} {i : Nat} (h : i < t.kids.length) : size (t.kids.getD i t0) < size t := by
  obtain ⟨p, hp, e⟩ := kid_mem_parts (getD_mem (d := t0) h); exact e ▸ size_part_lt hp
theorem size_sys_lt {t : T} {s k : Nat} (h : s < t.sys.length) (h2 : k < (t.sys.getD s br0).kids.length) : size ((t.sys.getD s br0).kids.getD k t0) < size t := by
  obtain ⟨p, hp, e⟩ := sys_mem_parts (getD_mem (d := br0) h) (getD_mem (d := t0) h2); exact e ▸ size_part_lt hp
/-- What a lifted node becomes. -/
def liftN (vb : Int) (v : Int) (k n : Int) : Int := if k = 1 ∧ v ≤ n then n + vb else n
theorem lift_own {vb db v d : Int} {t : T} {g : List Cl} (hg : rowLift db t.r d = .ok g) (h : ¬ (t.kind = 1 ∧ v ≤ t.n ∧ 1000000000 - vb < t.n)) : (liftTr vb db).own (v, d) t.kind t.n t.name t.r = .ok (.inr (liftN vb v t.kind t.n, g)) := by
  simp only [liftTr, hg, Res1.bind, liftN]
  split
  · rename_i h1
    rw [if_neg (fun h2 => h ⟨h1.1, h1.2, h2⟩)]
  · rfl
theorem lift_own_row {vb db v d : Int} {t : T} {e : Int} (hg : rowLift db t.r d = .bad e) : (liftTr vb db).own (v, d) t.kind t.n t.name t.r = .bad e := by
  simp only [liftTr, hg, Res1.bind]
theorem lift_own_far {vb db v d : Int} {t : T} {g : List Cl} (hg : rowLift db t.r d = .ok g) (h : t.kind = 1 ∧ v ≤ t.n ∧ 1000000000 - vb < t.n) : (liftTr vb db).own (v, d) t.kind t.n t.name t.r = .bad 100 := by
  simp only [liftTr, hg, Res1.bind]
  rw [if_pos ⟨h.1, h.2.1⟩, if_pos h.2.2]
theorem lift_face_ok {vb db v d : Int} {f g : List Cl} (hg : rowLift db f d = .ok g) : (liftTr vb db).face (v, d) f = .ok (some g) := by simp only [liftTr, hg, Res1.bind]
theorem lift_face_bad {vb db v d : Int} {f : List Cl} {e : Int} (hg : rowLift db f d = .bad e) : (liftTr vb db).face (v, d) f = .bad e := by simp only [liftTr, hg, Res1.bind]
theorem lift_kid {vb db v d : Int} {b : Int × Int} : (liftTr vb db).kid (v, d) b = .ok (v + b.1, d + b.2) := rfl
theorem travB_all {vb db : Int} {k : Int} {c : Int × Int} : ∀ {l l' : List Br}, travB (liftTr vb db) k l c = .ok l' → l'.length = l.length
  | [], l', h => by rw [travB_nil] at h; injection h with h; subst h; rfl
  | a :: l, l', h => by
    rw [travB_cons] at h
    obtain ⟨o, ho, h⟩ := Res1.bind_ok h
    obtain ⟨g, _, hg⟩ := Res1.bind_ok (x := rowLift db a.face c.2) ho
    injection hg with hg
    subst hg
    obtain ⟨ks', _, h⟩ := Res1.bind_ok h
    obtain ⟨bs', h3, h⟩ := Res1.bind_ok h
    injection h with h
    subst h
    simp [travB_all h3]
/-! ### What is guarded -/
theorem h0_er : h0.er = t0 := by simp [h0, HT.er, HT.erL, HT.erB, t0]
theorem St.h0R {B : Base} {Γ : List Fact} {Ms : List Res} {w : World} (y : Tys) (hs : St B Γ Ms w) : St B Γ (bigR (treeR y h0) :: Ms) w := by
  have h1 := ((((hs.bigNil).bigNil).rowS0 2 y.b).rowS0 6 y.t).rowS0 2 y.c
  exact St.joinT (y := y) (k := 0) (n := 0) (nm := ByteArray.mk #[]) (r := []) (v := nul) (u := nul) (x := nul) (ks := []) (ss := []) rfl rfl rfl rfl rfl rfl (by simpa [kidsR, brsR] using h1)
def guardRes (t : T) (ns : List Int) (r : Res1 T) : Int × T := if formedP t ≠ 0 then (formedP t, t0) else if ns.all (fun n => decide (0 ≤ n)) = false then (2, t0) else match r with
  | .ok u => (0, u)
  | .bad e => (e, t0)
theorem guard_form {t : T} {ns : List Int} {r : Res1 T} (h : formedP t ≠ 0) : guardRes t ns r = (formedP t, t0) := by unfold guardRes; rw [if_pos h]
theorem guard_neg {t : T} {ns : List Int} {r : Res1 T} (h : formedP t = 0) (h2 : ns.all (fun n => decide (0 ≤ n)) = false) : guardRes t ns r = (2, t0) := by unfold guardRes; rw [if_neg (by simp [h]), if_pos h2]
theorem guard_ok {t u : T} {ns : List Int} {r : Res1 T} (h : formedP t = 0) (h2 : ns.all (fun n => decide (0 ≤ n)) = true) (hr : r = .ok u) : guardRes t ns r = (0, u) := by unfold guardRes; rw [if_neg (by simp [h]), if_neg (by simp [h2]), hr]
theorem guard_bad {t : T} {e : Int} {ns : List Int} {r : Res1 T} (h : formedP t = 0) (h2 : ns.all (fun n => decide (0 ≤ n)) = true) (hr : r = .bad e) : guardRes t ns r = (e, t0) := by unfold guardRes; rw [if_neg (by simp [h]), if_neg (by simp [h2]), hr]
/-! ### A tree of the caller's own, known for good -/
theorem Spec.settleT {P : Program} {k : FuncId} {args : Array Value} {pre : List Fact} (y : Tys) {u : T} (g : Value → Value) (h : Spec P k args pre [] (fun x : {h : HT // h.er = u} => g (.agg (tc u x.1.vr x.1.vk x.1.vs).toArray)) (fun _ => []) (fun x => [bigR (treeR y x.1)])) (hok : ∀ ok w, St ⟨ok, domAll [], w⟩ pre [] w → okT u) :
    Spec P k args pre [] (fun x : SH × SH × SH => g (.agg (tc u x.1 x.2.1 x.2.2).toArray)) (fun x => [RT u x.1 x.2.1 x.2.2]) (fun _ => []) := fun ok w hk hs => (h ok w hk hs).mono fun e w' hh => by
  obtain ⟨x, he, hs'⟩ := hh
  have h1 : St ⟨ok, domAll [], w⟩ [] (treeR y x.1 ++ []) w' := hs'.unpack
  have h2 := St.settleT y trivial x.1 (by rw [x.2]; exact hok ok w hs) h1
  rw [x.2] at h2
  exact ⟨(x.1.vr, x.1.vk, x.1.vs), he, h2⟩
theorem SpecR.settleT {P : Program} {Te : TypeId} {k : FuncId} {args : Array Value} {pre : List Fact} (y : Tys) {r : Res1 T} (h : SpecR P Te k args pre r (fun (u : T) => fun x : {h : HT // h.er = u} => .agg (tc u x.1.vr x.1.vk x.1.vs).toArray) (fun _ _ => []) (fun (u : T) => fun x : {h : HT // h.er = u} => [bigR (treeR y x.1)])) (hok : ∀ u, r = .ok u → ∀ ok w, St ⟨ok, domAll [], w⟩ pre [] w → okT u) :
    SpecR P Te k args pre r (fun (u : T) => fun x : SH × SH × SH => .agg (tc u x.1 x.2.1 x.2.2).toArray) (fun u x => [RT u x.1 x.2.1 x.2.2]) (fun _ _ => []) := ⟨fun u hu => Spec.settleT y (fun v => v) (h.1 u hu) (hok u hu), h.2⟩
abbrev rowOk (l : List Cl) : Prop := (∀ c, c ∈ l → u32 c) ∧ l.length * 8 ≤ reach
section
variable {C : Type} {A : Tr C}
mutual
theorem trav_okT (ho : ∀ c k n nm r p, in64 k → in64 n → rowOk r → A.own c k n nm r = .ok (.inr p) → in64 p.1 ∧ rowOk p.2) (hi : ∀ c k n nm r u, A.own c k n nm r = .ok (.inl u) → okT u) (hf : ∀ c f f', rowOk f → A.face c f = .ok (some f') → rowOk f') : ∀ (t : T) (c : C) (u : T), okT t → trav A t c = .ok u → okT u
  | .mk k n nm r ks ss, c, u, h, hu => by
    simp only [okT] at h
    obtain ⟨h1, h2, h3, h4, h5, h6, h7, h8⟩ := h
    rw [trav_eq] at hu
    simp only [T.kind, T.n, T.name, T.r, T.kids, T.sys] at hu
    obtain ⟨o, h9, hu⟩ := Res1.bind_ok hu
    cases o with
    | inl v => injection hu with hu; subst hu; exact hi _ _ _ _ _ _ h9
    | inr p =>
      obtain ⟨ks', h10, hu⟩ := Res1.bind_ok hu
      obtain ⟨ss', h11, hu⟩ := Res1.bind_ok hu
      injection hu with hu
      subst hu
      obtain ⟨p1, p2⟩ := ho _ _ _ _ _ _ h1 h2 h4 h9
      simp only [okT]
      exact ⟨h1, p1, h3, p2, by rw [travL_len h10]; exact h5, Nat.le_trans (Nat.mul_le_mul_right _ (travB_len h11)) h6, travL_okT ho hi hf ks 0 c ks' h7 h10, travB_okT ho hi hf ss c ss' h8 h11⟩
theorem travL_okT (ho : ∀ c k n nm r p, in64 k → in64 n → rowOk r → A.own c k n nm r = .ok (.inr p) → in64 p.1 ∧ rowOk p.2) (hi : ∀ c k n nm r u, A.own c k n nm r = .ok (.inl u) → okT u) (hf : ∀ c f f', rowOk f → A.face c f = .ok (some f') → rowOk f') {kd : Int} : ∀ (ts : List T) (i : Nat) (c : C) (us : List T), okL ts → travL A kd i ts c = .ok us → okL us
  | [], i, c, us, h, hu => by rw [travL_nil] at hu; injection hu with hu; subst hu; simp only [okL]
  | t :: ts, i, c, us, h, hu => by
    simp only [okL] at h
    rw [travL_cons] at hu
    obtain ⟨c', _, hu⟩ := Res1.bind_ok hu
    obtain ⟨t', h2, hu⟩ := Res1.bind_ok hu
    obtain ⟨ts', h3, hu⟩ := Res1.bind_ok hu
    injection hu with hu
    subst hu
    simp only [okL]
    exact ⟨trav_okT ho hi hf t c' t' h.1 h2, travL_okT ho hi hf ts (i + 1) c ts' h.2 h3⟩
theorem travS_okT (ho : ∀ c k n nm r p, in64 k → in64 n → rowOk r → A.own c k n nm r = .ok (.inr p) → in64 p.1 ∧ rowOk p.2) (hi : ∀ c k n nm r u, A.own c k n nm r = .ok (.inl u) → okT u) (hf : ∀ c f f', rowOk f → A.face c f = .ok (some f') → rowOk f') {kd : Int} : ∀ (ts : List T) (c : C) (us : List T), okL ts → travS A kd ts c = .ok us → okL us
  | [], c, us, h, hu => by rw [travS_nil] at hu; injection hu with hu; subst hu; simp only [okL]
  | t :: ts, c, us, h, hu => by
    simp only [okL] at h
    rw [travS_cons] at hu
    obtain ⟨c', _, hu⟩ := Res1.bind_ok hu
    obtain ⟨t', h2, hu⟩ := Res1.bind_ok hu
    obtain ⟨ts', h3, hu⟩ := Res1.bind_ok hu
    injection hu with hu
    subst hu
    simp only [okL]
    exact ⟨trav_okT ho hi hf t c' t' h.1 h2, travS_okT ho hi hf ts c ts' h.2 h3⟩
theorem travB_okT (ho : ∀ c k n nm r p, in64 k → in64 n → rowOk r → A.own c k n nm r = .ok (.inr p) → in64 p.1 ∧ rowOk p.2) (hi : ∀ c k n nm r u, A.own c k n nm r = .ok (.inl u) → okT u) (hf : ∀ c f f', rowOk f → A.face c f = .ok (some f') → rowOk f') {kd : Int} : ∀ (bs : List Br) (c : C) (us : List Br), okB bs → travB A kd bs c = .ok us → okB us
  | [], c, us, h, hu => by rw [travB_nil] at hu; injection hu with hu; subst hu; simp only [okB]
  | .mk f ks :: bs, c, us, h, hu => by
    simp only [okB] at h
    obtain ⟨h1, h2, h3, h4⟩ := h
    rw [travB_cons] at hu
    simp only [Br.face, Br.kids] at hu
    obtain ⟨o, h5, hu⟩ := Res1.bind_ok hu
    cases o with
    | none => exact travB_okT ho hi hf bs c us h4 hu
    | some f' =>
      obtain ⟨ks', h6, hu⟩ := Res1.bind_ok hu
      obtain ⟨bs', h7, hu⟩ := Res1.bind_ok hu
      injection hu with hu
      subst hu
      simp only [okB]
      exact ⟨hf _ _ _ h1 h5, by rw [travS_len h6]; exact h2, travS_okT ho hi hf ks c ks' h3 h6, travB_okT ho hi hf bs c bs' h4 h7⟩
end
end
theorem rowOk_nil : rowOk [] := ⟨fun c hc => (by cases hc), by unfold reach; decide⟩
theorem leastF_ok {l : List Cl} (h : ∀ c, c ∈ l → u32 c) : rowOk (leastF l).2 := by
  unfold leastF
  split
  · exact rowOk_nil
  · split
    · exact rowOk_nil
    · rename_i h64
      exact ⟨fun c hc => h c (refLeast_mem.mp hc).1, by show (refLeast l).length * 8 ≤ reach; unfold reach; omega⟩
theorem formLift_ok (l : List Cl) (f b : Int) : rowOk (formLift l f b).2 := by
  unfold formLift
  split
  · exact rowOk_nil
  · split
    · exact rowOk_nil
    · exact leastF_ok (foldC_u32 (fun c => clLift_u32 c f b))
theorem rowLift_ok {l g : List Cl} {f b : Int} (h : rowOk l) (hg : rowLift b l f = .ok g) : rowOk g := by
  unfold rowLift at hg
  split at hg
  · injection hg with hg; subst hg; exact h
  · split at hg
    · injection hg with hg; subst hg; exact formLift_ok l f b
    · cases hg
theorem lift_okT {vb db : Int} (hv : 0 ≤ vb ∧ vb ≤ 1000000) {t u : T} {c : Int × Int} (h : okT t) (hu : trav (liftTr vb db) t c = .ok u) : okT u := by
  refine trav_okT (A := liftTr vb db) ?_ ?_ ?_ t c u h hu
  · intro c k n nm r p _ hn hr ho
    obtain ⟨g, hg, ho⟩ := Res1.bind_ok (x := rowLift db r c.2) ho
    have hgo := rowLift_ok hr hg
    split at ho
    · rename_i h1
      split at ho
      · cases ho
      · injection ho with ho; injection ho with ho; subst ho
        exact ⟨by unfold in64 at *; dsimp only; omega, hgo⟩
    · injection ho with ho; injection ho with ho; subst ho
      exact ⟨hn, hgo⟩
  · intro c k n nm r u ho
    obtain ⟨g, hg, ho⟩ := Res1.bind_ok (x := rowLift db r c.2) ho
    split at ho
    · split at ho
      · cases ho
      · injection ho with ho; cases ho
    · injection ho with ho; cases ho
  · intro c f f' hr ho
    obtain ⟨g, hg, ho⟩ := Res1.bind_ok (x := rowLift db f c.2) ho
    injection ho with ho; injection ho with ho; subst ho
    exact rowLift_ok hr hg
theorem okT_t0 : okT t0 := by simp [t0, okT, okL, okB, in64, cap47, reach]; decide
theorem guard_okT' {t : T} {ns : List Int} {r : Res1 T} (h : ns.all (fun n => decide (0 ≤ n)) = true → ∀ u, r = .ok u → okT u) : okT (guardRes t ns r).2 := by
  unfold guardRes
  split
  · exact okT_t0
  · split
    · exact okT_t0
    · rename_i ha
      cases r with
      | ok u => exact h (by simpa using ha) u rfl
      | bad e => exact okT_t0
/-! ### lift.Vars, lift.Dims, lift.Both -/
abbrev varsR (t : T) (f b : Int) : Res1 T := trav (liftTr b 0) t (if 2000000000 < f then 2000000000 else f, 0)
abbrev dimsR (t : T) (f b : Int) : Res1 T := trav (liftTr 0 b) t (0, if 24 < f then 24 else f)
def most (b : Int) : Int := IntKind.i64.wrap (1000000 - b)
theorem most_in (b : Int) : in64 (most b) := by
  have h : most b = (1000000 - b + 9223372036854775808) % 18446744073709551616 - 9223372036854775808 := by
    unfold most; rw [IntKind.wrap_i64]
  unfold in64; rw [h]; omega
theorem most_le {b : Int} (hb : in64 b) (h0 : 0 ≤ b) (h : 0 ≤ most b) : b ≤ 1000000 := by
  have h1 : most b = (1000000 - b + 9223372036854775808) % 18446744073709551616 - 9223372036854775808 := by
    unfold most; rw [IntKind.wrap_i64]
  unfold in64 at hb; omega
theorem most_of {b : Int} (hb : in64 b) (h0 : 0 ≤ b) : most b = 1000000 - b := by
  have h1 : most b = (1000000 - b + 9223372036854775808) % 18446744073709551616 - 9223372036854775808 := by
    unfold most; rw [IntKind.wrap_i64]
  unfold in64 at hb; omega
def varsRes (t : T) (f b : Int) : Int × T := guardRes t [f, b, most b] (varsR t f b)
def dimsRes (t : T) (f b : Int) : Int × T := guardRes t [f, b] (dimsR t f b)
/-! ### What is lifted keeps its form -/
theorem lift_own_inl {vb db : Int} {c : Int × Int} {k n : Int} {nm : ByteArray} {r : List Cl} {u : T} : (liftTr vb db).own c k n nm r ≠ .ok (.inl u) := by
  intro ho
  obtain ⟨g, hg, ho⟩ := Res1.bind_ok (x := rowLift db r c.2) ho
  split at ho
  · split at ho
    · cases ho
    · injection ho with ho; cases ho
  · injection ho with ho; cases ho
mutual
theorem lift_size {vb db : Int} : ∀ {t u : T} {c : Int × Int}, trav (liftTr vb db) t c = .ok u → size u = size t
  | .mk k n nm r ks ss, u, c, hu => by
    rw [trav_eq] at hu
    simp only [T.kind, T.n, T.name, T.r, T.kids, T.sys] at hu
    obtain ⟨o, h9, hu⟩ := Res1.bind_ok hu
    cases o with
    | inl v => exact absurd h9 lift_own_inl
    | inr p =>
      obtain ⟨ks', h10, hu⟩ := Res1.bind_ok hu
      obtain ⟨ss', h11, hu⟩ := Res1.bind_ok hu
      injection hu with hu
      subst hu
      rw [size_kids_sys, size_kids_sys]
      simp only [T.kids, T.sys]
      rw [liftL_size h10, liftB_size h11]
theorem liftL_size {vb db k : Int} : ∀ {ts us : List T} {i : Nat} {c : Int × Int}, travL (liftTr vb db) k i ts c = .ok us → us.map size = ts.map size
  | [], us, i, c, hu => by rw [travL_nil] at hu; injection hu with hu; subst hu; rfl
  | t :: ts, us, i, c, hu => by
    rw [travL_cons] at hu
    obtain ⟨c', _, hu⟩ := Res1.bind_ok hu
    obtain ⟨t', h2, hu⟩ := Res1.bind_ok hu
    obtain ⟨ts', h3, hu⟩ := Res1.bind_ok hu
    injection hu with hu
    subst hu
    simp only [List.map_cons]
    rw [lift_size h2, liftL_size h3]
theorem liftS_size {vb db k : Int} : ∀ {ts us : List T} {c : Int × Int}, travS (liftTr vb db) k ts c = .ok us → us.map size = ts.map size
  | [], us, c, hu => by rw [travS_nil] at hu; injection hu with hu; subst hu; rfl
  | t :: ts, us, c, hu => by
    rw [travS_cons] at hu
    obtain ⟨c', _, hu⟩ := Res1.bind_ok hu
    obtain ⟨t', h2, hu⟩ := Res1.bind_ok hu
    obtain ⟨ts', h3, hu⟩ := Res1.bind_ok hu
    injection hu with hu
    subst hu
    simp only [List.map_cons]
    rw [lift_size h2, liftS_size h3]
theorem liftB_size {vb db k : Int} : ∀ {bs us : List Br} {c : Int × Int}, travB (liftTr vb db) k bs c = .ok us → (us.map fun b => b.kids.map size) = bs.map fun b => b.kids.map size
  | [], us, c, hu => by rw [travB_nil] at hu; injection hu with hu; subst hu; rfl
  | .mk f ks :: bs, us, c, hu => by
    rw [travB_cons] at hu
    simp only [Br.face, Br.kids] at hu
    obtain ⟨o, h5, hu⟩ := Res1.bind_ok hu
    obtain ⟨g, _, h6⟩ := Res1.bind_ok (x := rowLift db f c.2) h5
    injection h6 with h6
    subst h6
    obtain ⟨ks', h7, hu⟩ := Res1.bind_ok hu
    obtain ⟨bs', h8, hu⟩ := Res1.bind_ok hu
    injection hu with hu
    subst hu
    show (ks'.map size :: (bs'.map fun b => b.kids.map size)) = (ks.map size :: (bs.map fun b => b.kids.map size))
    rw [liftS_size h7, liftB_size h8]
end
end Go.Hy
namespace Go.Hy
set_option linter.unusedVariables false
set_option linter.unusedSimpArgs false
set_option linter.unusedSectionVars false
set_option linter.unusedVariables false
/-! ### More variables, more dimensions; what a term has that may be -/
theorem all_iff {t : T} {v d : Int} {b : Bool} : allP t v d b = true ↔ (¬ (b = true ∧ 24 < d)) ∧ ownP t v d = true ∧ ∀ p, p ∈ parts t → allP p.1 (IntKind.i64.wrap (v + if v < 0 then 0 else p.2.1)) (d + p.2.2) b = true := by
  rw [allP_eq, Bool.and_eq_true, List.all_eq_true]
  simp only [Bool.not_eq_true', Bool.or_eq_false_iff, Bool.and_eq_false_iff, decide_eq_false_iff_not, Bool.not_eq_false']
  constructor
  · rintro ⟨⟨h1, h2⟩, h3⟩
    refine ⟨?_, h2, h3⟩
    rintro ⟨h4, h5⟩
    rcases h1 with h1 | h1
    · rw [h1] at h4; cases h4
    · exact h1 h5
  · rintro ⟨h1, h2, h3⟩
    refine ⟨⟨?_, h2⟩, h3⟩
    cases b
    · exact .inl rfl
    · exact .inr (fun h => h1 ⟨rfl, h⟩)
/-- What a node of itself must be, row by row. -/
theorem own_iff {t : T} {v d : Int} : ownP t v d = true ↔ own1 t = false ∧
    (if t.kind = 1 then t.r.length = 0 ∧ 0 ≤ t.n ∧ (v < 0 ∨ t.n < v)
     else if t.kind = 2 then t.r.length = 0 ∧ nameOK t.name = true
     else if t.kind = 13 ∨ t.kind = 21 ∨ t.kind = 26 then fRight t.r = true ∧ within t.r d = true
     else if t.kind = 14 then faceRight t.r = true ∧ within t.r d = true
     else (∀ x, x ∈ t.sys → ownB t d x = true) ∧ t.r.length = 0) := by
  unfold ownP
  rw [Bool.and_eq_true, Bool.not_eq_true']
  apply and_congr Iff.rfl
  split
  · simp only [Bool.and_eq_true, decide_eq_true_eq, Bool.or_eq_true, and_assoc]; constructor <;> (rintro ⟨h1, h2⟩; exact ⟨by omega, h2⟩)
  · split
    · simp only [Bool.and_eq_true, decide_eq_true_eq]; constructor <;> (rintro ⟨h1, h2⟩; exact ⟨by omega, h2⟩)
    · split
      · simp only [Bool.and_eq_true]
      · split
        · simp only [Bool.and_eq_true]
        · simp only [Bool.and_eq_true, decide_eq_true_eq, List.all_eq_true]; constructor <;> (rintro ⟨h1, h2⟩; exact ⟨h1, by omega⟩)
theorem within_iff {l : List Cl} {d : Int} (h0 : 0 ≤ d) : within l d = true ↔ ∀ i : Nat, d ≤ (i : Int) → (fDims l).testBit i = false := by
  have hlt := fDims_lt l
  unfold within
  rw [Bool.or_eq_true, decide_eq_true_eq, decide_eq_true_eq]
  by_cases h24 : 24 ≤ d
  · constructor
    · intro _ i hi
      exact Nat.testBit_lt_two_pow (Nat.lt_of_lt_of_le hlt (Nat.pow_le_pow_right (n := 2) (by omega) (show 24 ≤ i by omega)))
    · intro _; exact .inl h24
  · have hm : min d.toNat 32 = d.toNat := by omega
    rw [hm]
    constructor
    · rintro (h | h) i hi
      · exact absurd h h24
      · have h1 : fDims l / 2 ^ d.toNat = 0 := by omega
        have h2 : fDims l < 2 ^ d.toNat := by
          have := Nat.div_eq_zero_iff.mp h1
          have hp : 0 < 2 ^ d.toNat := Nat.pow_pos (by omega)
          omega
        exact Nat.testBit_lt_two_pow (Nat.lt_of_lt_of_le h2 (Nat.pow_le_pow_right (n := 2) (by omega) (by omega)))
    · intro h
      right
      have h2 : fDims l < 2 ^ d.toNat := Nat.lt_pow_two_of_testBit _ (fun i hi => h i (by omega))
      rw [Nat.div_eq_of_lt h2]; rfl
theorem part_depth {t : T} {p : Part} (hp : p ∈ parts t) : depth p.1 + 1 ≤ depth t := depth_mem hp
theorem uses_iff {t : T} {n : Int} (h0 : 0 ≤ n) : uses t n = true ↔ (t.kind = 1 ∧ t.n = n) ∨ (¬ (t.kind = 1 ∧ t.n = n) ∧ ∃ p, p ∈ parts t ∧ uses p.1 (IntKind.i64.wrap (n + p.2.1)) = true) := by
  rw [uses_eq]
  split
  · rename_i h; simp [h, h0]
  · rename_i h
    rw [Bool.not_eq_true', List.all_eq_false]
    simp only [Bool.or_eq_true, decide_eq_true_eq, Bool.not_eq_true', not_or, Bool.not_eq_false]
    constructor
    · rintro ⟨p, hp, _, h2⟩; exact .inr ⟨h, p, hp, h2⟩
    · rintro (h2 | ⟨_, p, hp, h2⟩)
      · exact absurd h2 h
      · exact ⟨p, hp, by omega, h2⟩
theorem drop0_bit (s i : Nat) (h : s < 16777216) : (dropM s 0).testBit i = s.testBit (i + 1) := by
  have e : s &&& 16777215 = s := by rw [and24]; exact Nat.mod_eq_of_lt h
  unfold dropM
  rw [if_pos (by omega), e]
  simp [Nat.testBit_succ]
end Go.Hy
namespace Go.Hy
set_option linter.unusedVariables false
set_option linter.unusedSimpArgs false
set_option linter.unusedSectionVars false
set_option linter.unusedVariables false
theorem part_cases {t : T} {p : Part} (hp : p ∈ parts t) : (∃ i, i < t.kids.length ∧ p = (t.kids.getD i t0, binds t.kind (i : Int))) ∨ ∃ s k, s < t.sys.length ∧ k < (t.sys.getD s br0).kids.length ∧ p = ((t.sys.getD s br0).kids.getD k t0, 0, more t.kind) := by
  unfold parts at hp
  rcases List.mem_append.mp hp with hp | hp
  · left
    have key : ∀ (ks : List T) (s : Nat), p ∈ kidParts t.kind s ks → ∃ i, i < ks.length ∧ p = (ks.getD i t0, binds t.kind ((s + i : Nat) : Int)) := by
      intro ks
      induction ks with
      | nil => intro s h; simp [kidParts] at h
      | cons k ks ih =>
        intro s h
        simp only [kidParts, List.mem_cons] at h
        rcases h with h | h
        · exact ⟨0, by simp, by simpa using h⟩
        · obtain ⟨i, hi, e⟩ := ih (s + 1) h
          exact ⟨i + 1, by simpa using hi, by rw [e]; simp only [List.getD_cons_succ]; rw [show s + 1 + i = s + (i + 1) by omega]⟩
    obtain ⟨i, hi, e⟩ := key t.kids 0 hp
    exact ⟨i, hi, by rw [e]; simp⟩
  · right
    have key : ∀ (bs : List Br), p ∈ sysParts t.kind bs → ∃ s k, s < bs.length ∧ k < (bs.getD s br0).kids.length ∧ p = ((bs.getD s br0).kids.getD k t0, 0, more t.kind) := by
      intro bs
      induction bs with
      | nil => intro h; simp [sysParts] at h
      | cons b bs ih =>
        intro h
        simp only [sysParts, List.mem_append, List.mem_map] at h
        rcases h with ⟨k, hk, e⟩ | h
        · obtain ⟨j, hj, e2⟩ := List.mem_iff_getElem.mp hk
          exact ⟨0, j, by simp, by simpa using hj, by rw [← e]; simp only [List.getD_cons_zero]; rw [getD_get (d := t0) hj, e2]⟩
        · obtain ⟨s, k, h1, h2, e⟩ := ih h
          exact ⟨s + 1, k, by simpa using h1, by simpa using h2, by rw [e]; simp⟩
    exact key t.sys hp
theorem uses_neg {t : T} {n : Int} (h : n < 0) : uses t n = false := by
  rw [uses_eq]
  split
  · simp; omega
  · simp only [decide_eq_true h, Bool.true_or, Bool.not_eq_false']; simp
/-! Dimensions. -/
def hasD (t : T) (i : Int) : Bool := decide (i < 24) && (dimsT t).testBit i.toNat
theorem fold_bit {α : Type} (f : α → Nat) (i : Nat) : ∀ (l : List α) (a : Nat), (l.foldl (fun a x => a ||| f x) a).testBit i = true ↔ a.testBit i = true ∨ ∃ x, x ∈ l ∧ (f x).testBit i = true
  | [], a => by simp
  | x :: l, a => by
    rw [List.foldl_cons, fold_bit f i l, Nat.testBit_or]
    simp only [Bool.or_eq_true, List.mem_cons, exists_eq_or_imp, or_assoc]
theorem part_bit {p : Part} {i : Nat} (hi : i < 24) (hb : bindsIn p.2.1 p.2.2) : (dimsPart p).testBit i = hasD p.1 ((i : Int) + p.2.2) := by
  unfold dimsPart dimsPartG hasD
  unfold bindsIn at hb
  split
  · rename_i h
    simp only at h
    rw [drop0_bit _ _ (dims_lt _), h]
    by_cases h2 : (i : Int) + 1 < 24
    · rw [decide_eq_true h2, Bool.true_and]
      congr 1
    · rw [decide_eq_false h2, Bool.false_and]
      exact Nat.testBit_lt_two_pow (Nat.lt_of_lt_of_le (dims_lt p.1) (Nat.pow_le_pow_right (n := 2) (j := i + 1) (by omega) (show 24 ≤ i + 1 by omega)))
  · rename_i h
    simp only at h
    have h0 : p.2.2 = 0 := by omega
    rw [h0, Int.add_zero, decide_eq_true (show (i : Int) < 24 by omega), Bool.true_and]
    simp
end Go.Hy
namespace Go.Hy
set_option linter.unusedVariables false
set_option linter.unusedSimpArgs false
set_option linter.unusedSectionVars false
set_option linter.unusedVariables false
set_option linter.unusedSimpArgs false
/-! ### A term of which every node is as it may be -/
def headOK (k n : Int) (nm : ByteArray) (r : List Cl) : Prop :=
  (k ≠ 1 → n = 0) ∧ (k ≠ 2 → nm.toList = (ByteArray.mk #[]).toList) ∧ (k = 1 → r = [] ∧ 0 ≤ n) ∧ (k = 2 → r = [] ∧ nameOK nm = true) ∧ (k = 13 ∨ k = 21 ∨ k = 26 → fRight r = true) ∧ (k = 14 → faceRight r = true) ∧ (k ≠ 13 ∧ k ≠ 21 ∧ k ≠ 26 ∧ k ≠ 14 → r = [])
mutual
def fineT : T → Prop
  | .mk k n nm r ks ss => headOK k n nm r ∧ kidsN k = (ks.length : Int) ∧ (partsN k = 0 → ss = []) ∧ fineL ks ∧ fineB k ss
def fineL : List T → Prop
  | [] => True
  | t :: ts => fineT t ∧ fineL ts
def fineB (k : Int) : List Br → Prop
  | [] => True
  | .mk f ks :: bs => (ks.length : Int) = partsN k ∧ faceRight f = true ∧ fineL ks ∧ fineB k bs
end
theorem partsN_zero {k : Int} (h : k = 1 ∨ k = 2 ∨ k = 13 ∨ k = 21 ∨ k = 26 ∨ k = 14) : partsN k = 0 := by
  unfold partsN
  rcases h with h | h | h | h | h | h <;> subst h <;> decide
theorem within_24 (l : List Cl) {d : Int} (h : 24 ≤ d) : within l d = true := by unfold within; rw [decide_eq_true h]; rfl
theorem len_nil {α : Type} {l : List α} : ((l.length : Int) = 0) ↔ l = [] := by
  constructor
  · intro h; exact List.eq_nil_of_length_eq_zero (by omega)
  · rintro rfl; rfl
theorem own24_iff {k n : Int} {nm : ByteArray} {r : List Cl} {ks : List T} {ss : List Br} {d : Int} (hd : 24 ≤ d) : ownP (.mk k n nm r ks ss) (-1) d = true ↔ headOK k n nm r ∧ kidsN k = (ks.length : Int) ∧ (partsN k = 0 → ss = []) ∧ ∀ b, b ∈ ss → (b.kids.length : Int) = partsN k ∧ faceRight b.face = true := by
  have hB : ∀ b : Br, ownB (.mk k n nm r ks ss) d b = (decide ((b.kids.length : Int) = partsN k) && faceRight b.face) := fun b => by
    unfold ownB; rw [within_24 _ hd, Bool.and_true]; rfl
  have hL : (0 : Int) < (ss.length : Int) ↔ ss ≠ [] := by
    constructor
    · intro h e; subst e; simp at h
    · intro h; have := List.length_pos_iff.mpr h; omega
  have hs : ∀ p : Bool, (ss.all (ownB (.mk k n nm r ks ss) d) = true) ↔ ∀ b, b ∈ ss → (b.kids.length : Int) = partsN k ∧ faceRight b.face = true := fun _ => by
    rw [List.all_eq_true]
    exact forall_congr' fun b => forall_congr' fun _ => by rw [hB]; simp
  unfold ownP own1 headOK
  simp only [T.kind, T.n, T.name, T.r, T.kids, T.sys, within_24 _ hd, Bool.and_true, Bool.and_eq_true, Bool.not_eq_true', Bool.or_eq_false_iff, Bool.and_eq_false_iff, decide_eq_false_iff_not, Decidable.not_not, ne_eq, Int.not_lt, Bool.not_eq_false', beq_iff_eq]
  constructor
  · rintro ⟨⟨⟨⟨h1, h2⟩, h3⟩, h4⟩, h5⟩
    replace h1 : kidsN k = (ks.length : Int) := Decidable.not_not.mp (of_decide_eq_false h1)
    replace h2 : k = 1 ∨ n = 0 := h2.imp (fun h => Decidable.not_not.mp (of_decide_eq_false h)) (fun h => Decidable.not_not.mp (of_decide_eq_false h))
    replace h3 : k = 2 ∨ nm.toList = (ByteArray.mk #[]).toList := h3.imp (fun h => Decidable.not_not.mp (of_decide_eq_false h)) id
    replace h4 : ¬ partsN k = 0 ∨ ¬ (0 : Int) < (ss.length : Int) := h4.imp (fun h => of_decide_eq_false h) (fun h => of_decide_eq_false h)
    have hss : partsN k = 0 → ss = [] := by
      intro h
      rcases h4 with h4 | h4
      · exact absurd h h4
      · exact List.eq_nil_of_length_eq_zero (by omega)
    split at h5
    · rename_i hk
      have he := hss (partsN_zero (by omega))
      subst he
      simp only [Bool.and_eq_true, decide_eq_true_eq] at h5
      exact ⟨⟨by omega, fun _ => h3.resolve_left (by omega), fun _ => ⟨len_nil.mp (of_decide_eq_true h5.1.1), of_decide_eq_true h5.1.2⟩, by omega, by omega, by omega, fun _ => len_nil.mp (of_decide_eq_true h5.1.1)⟩, h1, hss, fun b hb => by cases hb⟩
    · split at h5
      · rename_i hk1 hk
        have he := hss (partsN_zero (by omega))
        subst he
        simp only [Bool.and_eq_true, decide_eq_true_eq] at h5
        exact ⟨⟨by omega, fun h => absurd hk h, by omega, fun _ => ⟨len_nil.mp (of_decide_eq_true h5.1), h5.2⟩, by omega, by omega, fun _ => len_nil.mp (of_decide_eq_true h5.1)⟩, h1, hss, fun b hb => by cases hb⟩
      · split at h5
        · rename_i hk1 hk2 hk
          have he := hss (partsN_zero (by omega))
          subst he
          exact ⟨⟨by omega, fun _ => h3.resolve_left (by omega), by omega, by omega, fun _ => h5, by omega, by omega⟩, h1, hss, fun b hb => by cases hb⟩
        · split at h5
          · rename_i hk1 hk2 hk3 hk
            have he := hss (partsN_zero (by omega))
            subst he
            exact ⟨⟨by omega, fun _ => h3.resolve_left (by omega), by omega, by omega, by omega, fun _ => h5, by omega⟩, h1, hss, fun b hb => by cases hb⟩
          · rename_i hk1 hk2 hk3 hk4
            simp only [Bool.and_eq_true, decide_eq_true_eq] at h5
            exact ⟨⟨by omega, fun _ => h3.resolve_left (by omega), by omega, by omega, by omega, by omega, fun _ => len_nil.mp (of_decide_eq_true h5.2)⟩, h1, hss, (hs true).mp h5.1⟩
  · rintro ⟨⟨a1, a2, a3, a4, a5, a6, a7⟩, b1, b2, b3⟩
    refine ⟨⟨⟨⟨decide_eq_false (Decidable.not_not.mpr b1), ?_⟩, ?_⟩, ?_⟩, ?_⟩
    · by_cases h : k = 1
      · exact .inl (decide_eq_false (Decidable.not_not.mpr h))
      · exact .inr (decide_eq_false (Decidable.not_not.mpr (a1 h)))
    · by_cases h : k = 2
      · exact .inl (decide_eq_false (Decidable.not_not.mpr h))
      · exact .inr (a2 h)
    · by_cases h : partsN k = 0
      · exact .inr (decide_eq_false (by rw [b2 h]; decide))
      · exact .inl (decide_eq_false h)
    · split
      · rename_i h; simp [(a3 h).1, (a3 h).2]
      · split
        · rename_i h; simp [(a4 h).1, (a4 h).2]
        · split
          · rename_i h; exact a5 h
          · split
            · rename_i h; exact a6 h
            · rename_i h1 h2 h3 h4
              rw [Bool.and_eq_true, (hs true)]
              exact ⟨b3, by simp [a7 (by omega)]⟩
theorem fineL_iff : ∀ {ts : List T}, fineL ts ↔ ∀ t, t ∈ ts → fineT t
  | [] => by simp [fineL]
  | t :: ts => by simp [fineL, fineL_iff (ts := ts)]
theorem fineB_iff {k : Int} : ∀ {bs : List Br}, fineB k bs ↔ ∀ b, b ∈ bs → (b.kids.length : Int) = partsN k ∧ faceRight b.face = true ∧ fineL b.kids
  | [] => by simp [fineB]
  | .mk f ks :: bs => by
    simp only [fineB, fineB_iff (bs := bs), List.forall_mem_cons, Br.kids, Br.face]
    constructor
    · rintro ⟨h1, h2, h3, h4⟩; exact ⟨⟨h1, h2, h3⟩, h4⟩
    · rintro ⟨⟨h1, h2, h3⟩, h4⟩; exact ⟨h1, h2, h3, h4⟩
theorem fineT_iff {t : T} : fineT t ↔ headOK t.kind t.n t.name t.r ∧ kidsN t.kind = (t.kids.length : Int) ∧ (partsN t.kind = 0 → t.sys = []) ∧ fineL t.kids ∧ fineB t.kind t.sys := by
  obtain ⟨k, n, nm, r, ks, ss⟩ := t
  simp only [fineT, T.kind, T.n, T.name, T.r, T.kids, T.sys]
theorem fine_parts {t : T} : fineT t ↔ (∀ d : Int, 24 ≤ d → ownP t (-1) d = true) ∧ ∀ p, p ∈ parts t → fineT p.1 := by
  rw [fineT_iff, fineL_iff, fineB_iff]
  have ho : ∀ d : Int, 24 ≤ d → (ownP t (-1) d = true ↔ headOK t.kind t.n t.name t.r ∧ kidsN t.kind = (t.kids.length : Int) ∧ (partsN t.kind = 0 → t.sys = []) ∧ ∀ b, b ∈ t.sys → (b.kids.length : Int) = partsN t.kind ∧ faceRight b.face = true) := by
    intro d hd
    obtain ⟨k, n, nm, r, ks, ss⟩ := t
    exact own24_iff hd
  constructor
  · rintro ⟨h1, h2, h3, h4, h5⟩
    refine ⟨fun d hd => (ho d hd).mpr ⟨h1, h2, h3, fun b hb => ⟨(h5 b hb).1, (h5 b hb).2.1⟩⟩, fun p hp => ?_⟩
    rcases part_cases hp with ⟨i, hi, rfl⟩ | ⟨s, k, hs, hk, rfl⟩
    · exact h4 _ (getD_mem hi)
    · exact fineL_iff.mp (h5 _ (getD_mem hs)).2.2 _ (getD_mem hk)
  · rintro ⟨h1, h2⟩
    obtain ⟨a1, a2, a3, a4⟩ := (ho 24 (by omega)).mp (h1 24 (by omega))
    refine ⟨a1, a2, a3, fun k hk => ?_, fun b hb => ⟨(a4 b hb).1, (a4 b hb).2, fineL_iff.mpr fun k hk => ?_⟩⟩
    · obtain ⟨p, hp, e⟩ := kid_mem_parts hk; exact e ▸ h2 p hp
    · obtain ⟨p, hp, e⟩ := sys_mem_parts hb hk; exact e ▸ h2 p hp
theorem all_fine : ∀ (t : T) (d : Int), 24 ≤ d → (allP t (-1) d false = true ↔ fineT t) := T.ind fun t ih d hd => by
  rw [all_iff, fine_parts]
  have hw : ∀ p : Part, IntKind.i64.wrap (-1 + if (-1 : Int) < 0 then 0 else p.2.1) = -1 := fun p => by rw [if_pos (by decide)]; decide
  constructor
  · rintro ⟨_, h2, h3⟩
    refine ⟨fun d' hd' => ?_, fun p hp => ?_⟩
    · obtain ⟨k, n, nm, r, ks, ss⟩ := t
      exact (own24_iff hd').mpr ((own24_iff hd).mp h2)
    · have h4 := h3 p hp
      rw [hw] at h4
      have h5 := parts_01 hp
      exact (ih p hp (d + p.2.2) (by omega)).mp h4
  · rintro ⟨h1, h2⟩
    refine ⟨by simp, h1 d hd, fun p hp => ?_⟩
    rw [hw]
    have h5 := parts_01 hp
    exact (ih p hp (d + p.2.2) (by omega)).mpr (h2 p hp)
theorem formed_fine {t : T} : formedP t = 0 ↔ sized t = 0 ∧ fineT t := by rw [formed_zero, all_fine t 24 (by omega)]
/-! ### What a way keeps -/
section
variable {C : Type} {A : Tr C}
mutual
theorem trav_fine (ho : ∀ c k n nm r p, headOK k n nm r → A.own c k n nm r = .ok (.inr p) → headOK k p.1 nm p.2) (hi : ∀ c k n nm r u, headOK k n nm r → A.own c k n nm r = .ok (.inl u) → fineT u) (hf : ∀ c f f', faceRight f = true → A.face c f = .ok (some f') → faceRight f' = true) : ∀ {t : T} {c : C} {u : T}, fineT t → trav A t c = .ok u → fineT u
  | .mk k n nm r ks ss, c, u, h, hu => by
    simp only [fineT] at h
    obtain ⟨h1, h2, h3, h4, h5⟩ := h
    rw [trav_eq] at hu
    simp only [T.kind, T.n, T.name, T.r, T.kids, T.sys] at hu
    obtain ⟨o, h9, hu⟩ := Res1.bind_ok hu
    cases o with
    | inl v => injection hu with hu; subst hu; exact hi _ _ _ _ _ _ h1 h9
    | inr p =>
      obtain ⟨ks', h10, hu⟩ := Res1.bind_ok hu
      obtain ⟨ss', h11, hu⟩ := Res1.bind_ok hu
      injection hu with hu
      subst hu
      simp only [fineT]
      refine ⟨ho _ _ _ _ _ _ h1 h9, by rw [travL_len h10]; exact h2, fun h => ?_, travL_fine ho hi hf h4 h10, travB_fine ho hi hf h5 h11⟩
      have h12 := travB_len h11
      rw [h3 h] at h12
      exact List.eq_nil_of_length_eq_zero (Nat.le_zero.mp h12)
theorem travL_fine (ho : ∀ c k n nm r p, headOK k n nm r → A.own c k n nm r = .ok (.inr p) → headOK k p.1 nm p.2) (hi : ∀ c k n nm r u, headOK k n nm r → A.own c k n nm r = .ok (.inl u) → fineT u) (hf : ∀ c f f', faceRight f = true → A.face c f = .ok (some f') → faceRight f' = true) {kd : Int} : ∀ {ts : List T} {i : Nat} {c : C} {us : List T}, fineL ts → travL A kd i ts c = .ok us → fineL us
  | [], i, c, us, h, hu => by rw [travL_nil] at hu; injection hu with hu; subst hu; simp only [fineL]
  | t :: ts, i, c, us, h, hu => by
    simp only [fineL] at h
    rw [travL_cons] at hu
    obtain ⟨c', _, hu⟩ := Res1.bind_ok hu
    obtain ⟨t', h2, hu⟩ := Res1.bind_ok hu
    obtain ⟨ts', h3, hu⟩ := Res1.bind_ok hu
    injection hu with hu
    subst hu
    simp only [fineL]
    exact ⟨trav_fine ho hi hf h.1 h2, travL_fine ho hi hf h.2 h3⟩
theorem travS_fine (ho : ∀ c k n nm r p, headOK k n nm r → A.own c k n nm r = .ok (.inr p) → headOK k p.1 nm p.2) (hi : ∀ c k n nm r u, headOK k n nm r → A.own c k n nm r = .ok (.inl u) → fineT u) (hf : ∀ c f f', faceRight f = true → A.face c f = .ok (some f') → faceRight f' = true) {kd : Int} : ∀ {ts : List T} {c : C} {us : List T}, fineL ts → travS A kd ts c = .ok us → fineL us
  | [], c, us, h, hu => by rw [travS_nil] at hu; injection hu with hu; subst hu; simp only [fineL]
  | t :: ts, c, us, h, hu => by
    simp only [fineL] at h
    rw [travS_cons] at hu
    obtain ⟨c', _, hu⟩ := Res1.bind_ok hu
    obtain ⟨t', h2, hu⟩ := Res1.bind_ok hu
    obtain ⟨ts', h3, hu⟩ := Res1.bind_ok hu
    injection hu with hu
    subst hu
    simp only [fineL]
    exact ⟨trav_fine ho hi hf h.1 h2, travS_fine ho hi hf h.2 h3⟩
theorem travB_fine (ho : ∀ c k n nm r p, headOK k n nm r → A.own c k n nm r = .ok (.inr p) → headOK k p.1 nm p.2) (hi : ∀ c k n nm r u, headOK k n nm r → A.own c k n nm r = .ok (.inl u) → fineT u) (hf : ∀ c f f', faceRight f = true → A.face c f = .ok (some f') → faceRight f' = true) {kd : Int} : ∀ {bs : List Br} {c : C} {us : List Br}, fineB kd bs → travB A kd bs c = .ok us → fineB kd us
  | [], c, us, h, hu => by rw [travB_nil] at hu; injection hu with hu; subst hu; simp only [fineB]
  | .mk f ks :: bs, c, us, h, hu => by
    simp only [fineB] at h
    obtain ⟨h1, h2, h3, h4⟩ := h
    rw [travB_cons] at hu
    simp only [Br.face, Br.kids] at hu
    obtain ⟨o, h5, hu⟩ := Res1.bind_ok hu
    cases o with
    | none => exact travB_fine ho hi hf h4 hu
    | some f' =>
      obtain ⟨ks', h6, hu⟩ := Res1.bind_ok hu
      obtain ⟨bs', h7, hu⟩ := Res1.bind_ok hu
      injection hu with hu
      subst hu
      simp only [fineB]
      exact ⟨by rw [travS_len h6]; exact h1, hf _ _ _ h2 h5, travS_fine ho hi hf h3 h6, travB_fine ho hi hf h4 h7⟩
end
end
/-! ### One way, and then another one -/
section
variable {CA CB CC : Type} {A : Tr CA} {B : Tr CB} {D : Tr CC} (R : CA → CB → CC → Prop)
structure Fuse : Prop where
  inl : ∀ ca cb cc k n nm r u, R ca cb cc → headOK k n nm r → A.own ca k n nm r = .ok (.inl u) → D.own cc k n nm r = (trav B u cb).bind fun w => .ok (.inl w)
  inr : ∀ ca cb cc k n nm r p, R ca cb cc → headOK k n nm r → A.own ca k n nm r = .ok (.inr p) → B.own cb k p.1 nm p.2 = D.own cc k n nm r
  none : ∀ ca cb cc f, R ca cb cc → faceRight f = true → A.face ca f = .ok none → D.face cc f = .ok none
  some : ∀ ca cb cc f f', R ca cb cc → faceRight f = true → A.face ca f = .ok (some f') → B.face cb f' = D.face cc f
  kid : ∀ ca cb cc b ca', R ca cb cc → A.kid ca b = .ok ca' → (∃ cb' cc', B.kid cb b = .ok cb' ∧ D.kid cc b = .ok cc' ∧ R ca' cb' cc') ∨ ∃ e, B.kid cb b = .bad e ∧ D.kid cc b = .bad e
variable {R}
end
/-! ### Where one way is told, another one is -/
section
variable {CA CC : Type} {A : Tr CA} {D : Tr CC} (R : CA → CC → Prop)
structure Told : Prop where
  inl : ∀ ca cc k n nm r u, R ca cc → headOK k n nm r → A.own ca k n nm r = .ok (.inl u) → ∃ w, D.own cc k n nm r = .ok (.inl w)
  inr : ∀ ca cc k n nm r p, R ca cc → headOK k n nm r → A.own ca k n nm r = .ok (.inr p) → ∃ w, D.own cc k n nm r = .ok w
  none : ∀ ca cc f, R ca cc → faceRight f = true → A.face ca f = .ok none → D.face cc f = .ok none
  some : ∀ ca cc f f', R ca cc → faceRight f = true → A.face ca f = .ok (some f') → ∃ w, D.face cc f = .ok w
  kid : ∀ ca cc b ca', R ca cc → A.kid ca b = .ok ca' → ∃ cc', D.kid cc b = .ok cc' ∧ R ca' cc'
variable {R}
theorem Res1.bind_ex {α β : Type} {x : Res1 α} {k : α → Res1 β} (h : ∃ a, x = .ok a) (h2 : ∀ a, x = .ok a → ∃ b, k a = .ok b) : ∃ b, x.bind k = .ok b := by
  obtain ⟨a, ha⟩ := h
  obtain ⟨b, hb⟩ := h2 a ha
  exact ⟨b, by rw [ha]; exact hb⟩
mutual
theorem told (F : Told (A := A) (D := D) R) : ∀ {t u : T} {ca : CA} {cc : CC}, fineT t → R ca cc → trav A t ca = .ok u → ∃ w, trav D t cc = .ok w
  | .mk k n nm r ks ss, u, ca, cc, h, hr, hu => by
    simp only [fineT] at h
    obtain ⟨h1, h2, h3, h4, h5⟩ := h
    rw [trav_eq] at hu
    simp only [T.kind, T.n, T.name, T.r, T.kids, T.sys] at hu
    obtain ⟨o, h9, hu⟩ := Res1.bind_ok hu
    rw [trav_eq]
    simp only [T.kind, T.n, T.name, T.r, T.kids, T.sys]
    cases o with
    | inl v =>
      obtain ⟨w, hw⟩ := F.inl _ _ _ _ _ _ _ hr h1 h9
      exact ⟨w, by rw [hw]; rfl⟩
    | inr p =>
      obtain ⟨ks', h10, hu⟩ := Res1.bind_ok hu
      obtain ⟨ss', h11, hu⟩ := Res1.bind_ok hu
      refine Res1.bind_ex (F.inr _ _ _ _ _ _ _ hr h1 h9) (fun o _ => ?_)
      cases o with
      | inl v => exact ⟨v, rfl⟩
      | inr q =>
        refine Res1.bind_ex (toldL F h4 hr h10) (fun a _ => Res1.bind_ex (toldB F h5 hr h11) (fun b _ => ⟨_, rfl⟩))
theorem toldL (F : Told (A := A) (D := D) R) {kd : Int} : ∀ {ts us : List T} {i : Nat} {ca : CA} {cc : CC}, fineL ts → R ca cc → travL A kd i ts ca = .ok us → ∃ w, travL D kd i ts cc = .ok w
  | [], us, i, ca, cc, h, hr, hu => ⟨[], travL_nil _ _ _⟩
  | t :: ts, us, i, ca, cc, h, hr, hu => by
    simp only [fineL] at h
    rw [travL_cons] at hu
    obtain ⟨c', h1, hu⟩ := Res1.bind_ok hu
    obtain ⟨t', h2, hu⟩ := Res1.bind_ok hu
    obtain ⟨ts', h3, hu⟩ := Res1.bind_ok hu
    obtain ⟨cc', e2, hr'⟩ := F.kid _ _ _ _ hr h1
    rw [travL_cons]
    refine Res1.bind_ex ⟨cc', e2⟩ (fun a9 ha => ?_)
    rw [e2] at ha
    injection ha with ha
    subst ha
    exact Res1.bind_ex (told F h.1 hr' h2) (fun a _ => Res1.bind_ex (toldL F h.2 hr h3) (fun b _ => ⟨_, rfl⟩))
theorem toldS (F : Told (A := A) (D := D) R) {kd : Int} : ∀ {ts us : List T} {ca : CA} {cc : CC}, fineL ts → R ca cc → travS A kd ts ca = .ok us → ∃ w, travS D kd ts cc = .ok w
  | [], us, ca, cc, h, hr, hu => ⟨[], travS_nil _ _⟩
  | t :: ts, us, ca, cc, h, hr, hu => by
    simp only [fineL] at h
    rw [travS_cons] at hu
    obtain ⟨c', h1, hu⟩ := Res1.bind_ok hu
    obtain ⟨t', h2, hu⟩ := Res1.bind_ok hu
    obtain ⟨ts', h3, hu⟩ := Res1.bind_ok hu
    obtain ⟨cc', e2, hr'⟩ := F.kid _ _ _ _ hr h1
    rw [travS_cons]
    refine Res1.bind_ex ⟨cc', e2⟩ (fun a9 ha => ?_)
    rw [e2] at ha
    injection ha with ha
    subst ha
    exact Res1.bind_ex (told F h.1 hr' h2) (fun a _ => Res1.bind_ex (toldS F h.2 hr h3) (fun b _ => ⟨_, rfl⟩))
theorem toldB (F : Told (A := A) (D := D) R) {kd : Int} : ∀ {bs us : List Br} {ca : CA} {cc : CC}, fineB kd bs → R ca cc → travB A kd bs ca = .ok us → ∃ w, travB D kd bs cc = .ok w
  | [], us, ca, cc, h, hr, hu => ⟨[], travB_nil _ _⟩
  | .mk f ks :: bs, us, ca, cc, h, hr, hu => by
    simp only [fineB] at h
    obtain ⟨h1, h2, h3, h4⟩ := h
    rw [travB_cons] at hu
    simp only [Br.face, Br.kids] at hu
    obtain ⟨o, h5, hu⟩ := Res1.bind_ok hu
    rw [travB_cons]
    simp only [Br.face, Br.kids]
    cases o with
    | none =>
      rw [F.none _ _ _ hr h2 h5]
      exact toldB F h4 hr hu
    | some f' =>
      obtain ⟨ks', h6, hu⟩ := Res1.bind_ok hu
      obtain ⟨bs', h7, hu⟩ := Res1.bind_ok hu
      refine Res1.bind_ex (F.some _ _ _ _ hr h2 h5) (fun o _ => ?_)
      cases o with
      | none => exact toldB F h4 hr h7
      | some q => exact Res1.bind_ex (toldS F h3 hr h6) (fun a _ => Res1.bind_ex (toldB F h4 hr h7) (fun b _ => ⟨_, rfl⟩))
end
end
end Go.Hy
namespace Go.Hy
set_option linter.unusedVariables false
set_option linter.unusedSimpArgs false
set_option linter.unusedSectionVars false
set_option linter.unusedVariables false
end Go.Hy
namespace Go.Hy
set_option linter.unusedVariables false
set_option linter.unusedSimpArgs false
set_option linter.unusedSectionVars false
theorem formed_size {t : T} (h : formedP t = 0) : size t ≤ 20000 := by
  unfold formedP at h
  split at h
  · rename_i hs; exact absurd h hs
  · rename_i hs
    simp only [ne_eq, Decidable.not_not, sized] at hs
    split at hs
    · cases hs
    · split at hs
      · cases hs
      · omega
end Go.Hy
namespace Go.Hy
set_option linter.unusedVariables false
set_option linter.unusedSimpArgs false
set_option linter.unusedSectionVars false
set_option linter.unusedVariables false
set_option linter.unusedSimpArgs false
/-! ### Masks, bit by bit -/
theorem maskLift_bit {s : Nat} {f b : Int} (h : (maskLift s f b).1 = 0) (i : Nat) : 0 ≤ f ∧ 0 ≤ b ∧ (maskLift s f b).2.testBit i = ((decide (i < min f.toNat 24) && (s &&& 16777215).testBit i) || (decide (min f.toNat 24 + b.toNat ≤ i) && (s &&& 16777215).testBit (i - b.toNat))) := by
  by_cases h0 : f < 0 ∨ b < 0
  · rw [maskLift, if_pos h0] at h; cases h
  · have hq : ∀ j, (s &&& 16777215).testBit j = true → j < 24 := fun j hj => by rw [and24_bit, Bool.and_eq_true, decide_eq_true_eq] at hj; exact hj.1
    refine ⟨by omega, by omega, ?_⟩
    generalize hF : min f.toNat 24 = F at *
    by_cases h1 : andNot32 (s &&& 16777215) (2 ^ (min f.toNat 24) - 1) = 0
    · rw [maskLift, if_neg h0, if_pos h1]
      show ((s &&& 16777215) &&& (2 ^ (min f.toNat 24) - 1)).testBit i = _
      rw [hF] at h1 ⊢
      rw [Nat.testBit_and, mask_bit]
      have h2 : (decide (F + b.toNat ≤ i) && (s &&& 16777215).testBit (i - b.toNat)) = false := by
        cases h3 : (s &&& 16777215).testBit (i - b.toNat) with
        | false => rw [Bool.and_false]
        | true =>
          rw [Bool.and_true]
          refine decide_eq_false (fun h4 => ?_)
          have h5 : (andNot32 (s &&& 16777215) (2 ^ F - 1)).testBit (i - b.toNat) = true := by
            rw [andNot32_bit, mask_bit, h3, decide_eq_true (by have := hq _ h3; omega), decide_eq_false (by omega)]; rfl
          rw [h1, Nat.zero_testBit] at h5
          cases h5
      rw [h2, Bool.or_false, Bool.and_comm]
    · by_cases h2 : 24 ≤ b ∨ 16777215 < andNot32 (s &&& 16777215) (2 ^ (min f.toNat 24) - 1) * 2 ^ b.toNat
      · rw [maskLift, if_neg h0, if_neg h1, if_pos h2] at h; cases h
      · rw [maskLift, if_neg h0, if_neg h1, if_neg h2]
        show (((s &&& 16777215) &&& (2 ^ (min f.toNat 24) - 1)) ||| (andNot32 (s &&& 16777215) (2 ^ (min f.toNat 24) - 1) * 2 ^ b.toNat)).testBit i = _
        rw [hF, Nat.testBit_or, Nat.testBit_and, mask_bit, Nat.testBit_mul_two_pow, andNot32_bit, mask_bit]
        cases h3 : (s &&& 16777215).testBit (i - b.toNat) with
        | false => simp [Bool.and_comm]
        | true =>
          have h4 := hq _ h3
          rw [decide_eq_true (show i - b.toNat < 32 by omega)]
          simp only [Bool.and_true, Bool.true_and]
          rw [Bool.and_comm]
          congr 1
          by_cases h5 : F + b.toNat ≤ i
          · rw [decide_eq_true (show b.toNat ≤ i by omega), decide_eq_false (show ¬ i - b.toNat < F by omega), decide_eq_true h5]; rfl
          · rw [decide_eq_false h5]
            by_cases h6 : b.toNat ≤ i
            · rw [decide_eq_true h6, decide_eq_true (show i - b.toNat < F by omega)]; rfl
            · rw [decide_eq_false h6]; rfl
theorem maskLift_clash {p q : Nat} {f b : Int} (hp : (maskLift p f b).1 = 0) (hq : (maskLift q f b).1 = 0) (h : p &&& q = 0) : (maskLift p f b).2 &&& (maskLift q f b).2 = 0 := by
  refine Nat.eq_of_testBit_eq (fun i => ?_)
  have hb : ∀ j, (p &&& 16777215).testBit j = true → (q &&& 16777215).testBit j = true → False := fun j h1 h2 => by
    rw [and24_bit, Bool.and_eq_true] at h1 h2
    have : (p &&& q).testBit j = true := by rw [Nat.testBit_and, h1.2, h2.2]; rfl
    rw [h, Nat.zero_testBit] at this
    cases this
  rw [Nat.testBit_and, (maskLift_bit hp i).2.2, (maskLift_bit hq i).2.2, Nat.zero_testBit]
  cases h1 : (p &&& 16777215).testBit i <;> cases h2 : (q &&& 16777215).testBit i <;> cases h3 : (p &&& 16777215).testBit (i - b.toNat) <;> cases h4 : (q &&& 16777215).testBit (i - b.toNat) <;> first
    | exact (hb _ h1 h2).elim
    | exact (hb _ h3 h4).elim
    | (simp only [Bool.and_true, Bool.and_false, Bool.or_false, Bool.false_or, Bool.and_eq_false_iff, decide_eq_false_iff_not]; done)
    | (by_cases h5 : i < min f.toNat 24
       · rw [decide_eq_true h5, decide_eq_false (show ¬ min f.toNat 24 + b.toNat ≤ i by omega)]; simp
       · rw [decide_eq_false h5]; simp)
/-! ### Clauses, formulas -/
theorem clLift_ok {c : Cl} {f b : Int} (h : (clLift c f b).1 = 0) : right24 c = true ∧ (maskLift c.pos f b).1 = 0 ∧ (maskLift c.neg f b).1 = 0 ∧ (clLift c f b).2 = ⟨(maskLift c.pos f b).2, (maskLift c.neg f b).2⟩ := by
  unfold clLift at h ⊢
  split at h
  · cases h
  · rename_i h1
    split at h
    · rename_i h2; exact absurd h h2
    · rename_i h2
      split at h
      · rename_i h3; exact absurd h h3
      · rename_i h3
        rw [if_neg h1, if_neg h2, if_neg h3]
        exact ⟨by simpa using h1, Decidable.not_not.mp h2, Decidable.not_not.mp h3, rfl⟩
theorem clLift_right {c : Cl} {f b : Int} (h : (clLift c f b).1 = 0) : right24 (clLift c f b).2 = true := by
  rw [(clLift_ok h).2.2.2]
  have h1 := maskLift_lt c.pos f b
  have h2 := maskLift_lt c.neg f b
  unfold right24
  rw [decide_eq_true h1, decide_eq_true h2]; rfl
theorem clLift_clash {c : Cl} {f b : Int} (h : (clLift c f b).1 = 0) (hc : clash c = false) : clash (clLift c f b).2 = false := by
  obtain ⟨_, h1, h2, h3⟩ := clLift_ok h
  rw [h3]
  unfold clash at hc ⊢
  have h4 : c.pos &&& c.neg = 0 := Decidable.not_not.mp (of_decide_eq_false hc)
  exact decide_eq_false (Decidable.not_not.mpr (maskLift_clash h1 h2 h4))
theorem leastF_cases (l : List Cl) : ((leastF l).1 = 0 ∧ l.all right24 = true ∧ (leastF l).2 = refLeast l ∧ (refLeast l).length ≤ 64) ∨ (leastF l).1 = 2 ∨ (leastF l).1 = 3 := by
  unfold leastF
  split
  · exact .inr (.inl rfl)
  · rename_i h1
    split
    · exact .inr (.inr rfl)
    · rename_i h2
      exact .inl ⟨rfl, by simpa using h1, rfl, by omega⟩
theorem leastF_fR {l : List Cl} (h : (leastF l).1 = 0) : fRight (leastF l).2 = true := by
  rcases leastF_cases l with ⟨_, h1, h2, h3⟩ | h1 | h1
  · rw [h2]
    unfold fRight
    rw [Bool.and_eq_true, Bool.and_eq_true, Bool.and_eq_true]
    refine ⟨⟨⟨List.all_eq_true.mpr fun c hc => List.all_eq_true.mp h1 c (refLeast_mem.mp hc).1, sortedC_iff.mpr (refLeast_sorted l)⟩, apart_iff.mpr fun a ha b hb => needless_iff.mp (refLeast_mem.mp ha).2 b (refLeast_mem.mp hb).1⟩, decide_eq_true h3⟩
  · rw [h1] at h; cases h
  · rw [h1] at h; cases h
theorem leastF_sub {l : List Cl} (h : (leastF l).1 = 0) {c : Cl} (hc : c ∈ (leastF l).2) : c ∈ l := by
  rcases leastF_cases l with ⟨_, h1, h2, h3⟩ | h1 | h1
  · rw [h2] at hc; exact (refLeast_mem.mp hc).1
  · rw [h1] at h; cases h
  · rw [h1] at h; cases h
theorem formLift_cases {l : List Cl} {f b : Int} (h : (formLift l f b).1 = 0) : fRight l = true ∧ (∀ c, c ∈ l → (clLift c f b).1 = 0) ∧ formLift l f b = leastF (l.map fun c => (clLift c f b).2) := by
  unfold formLift at h ⊢
  split at h
  · cases h
  · rename_i h1
    split at h
    · rename_i h2; exact absurd h h2
    · rename_i h2
      have h3 : (foldC (fun c => clLift c f b) l).1 = 0 := Decidable.not_not.mp h2
      rw [if_neg h1, if_neg h2]
      exact ⟨by simpa using h1, foldC_iff.mp h3, by rw [foldC_map h3]⟩
theorem formLift_fR {l : List Cl} {f b : Int} (h : (formLift l f b).1 = 0) : fRight (formLift l f b).2 = true := by
  obtain ⟨_, _, h3⟩ := formLift_cases h
  rw [h3] at h ⊢
  exact leastF_fR h
theorem formLift_face {l : List Cl} {f b : Int} (h : (formLift l f b).1 = 0) (hl : faceRight l = true) : faceRight (formLift l f b).2 = true := by
  obtain ⟨_, h2, h3⟩ := formLift_cases h
  have hf := formLift_fR h
  unfold faceRight at hl ⊢
  rw [Bool.and_eq_true, Bool.not_eq_true'] at hl ⊢
  refine ⟨hf, ?_⟩
  rw [List.any_eq_false]
  intro c hc
  rw [h3] at h hc
  obtain ⟨d, hd, rfl⟩ := List.mem_map.mp (leastF_sub h hc)
  have h4 := List.any_eq_false.mp hl.2 d hd
  rw [Bool.not_eq_true] at h4 ⊢
  exact clLift_clash (h2 d hd) h4
theorem rowLift_fR {l g : List Cl} {f b : Int} (h : rowLift b l f = .ok g) (hl : fRight l = true) : fRight g = true := by
  unfold rowLift at h
  split at h
  · injection h with h; subst h; exact hl
  · split at h
    · rename_i h2; injection h with h; subst h; exact formLift_fR h2
    · cases h
theorem rowLift_face {l g : List Cl} {f b : Int} (h : rowLift b l f = .ok g) (hl : faceRight l = true) : faceRight g = true := by
  unfold rowLift at h
  split at h
  · injection h with h; subst h; exact hl
  · split at h
    · rename_i h2; injection h with h; subst h; exact formLift_face h2 hl
    · cases h
theorem fRight_nil : fRight [] = true := by decide
theorem formLift_nil (f b : Int) : formLift [] f b = (0, []) := by
  unfold formLift
  rw [if_neg (by rw [fRight_nil]; decide)]
  have h : foldC (fun c => clLift c f b) [] = (0, []) := rfl
  rw [h, if_neg (by decide)]
  exact leastF_fRight.mp fRight_nil
theorem rowLift_nil (f b : Int) : rowLift b [] f = .ok [] := by
  unfold rowLift
  rw [formLift_nil]
  simp
/-! ### Lifted terms are formed -/
theorem lift_fine {vb db : Int} (hv : 0 ≤ vb) {t u : T} {c : Int × Int} (h : fineT t) (hu : trav (liftTr vb db) t c = .ok u) : fineT u := by
  refine trav_fine (A := liftTr vb db) ?_ ?_ ?_ h hu
  · intro c k n nm r p h ho
    obtain ⟨h1, h2, h3, h4, h5, h6, h7⟩ := h
    obtain ⟨g, hg, ho⟩ := Res1.bind_ok (x := rowLift db r c.2) ho
    have hnil : r = [] → g = [] := fun e => by rw [e, rowLift_nil] at hg; injection hg with hg; exact hg.symm
    have key : ∀ n', (k ≠ 1 → n' = n) → (k = 1 → 0 ≤ n') → headOK k n' nm g := fun n' e1 e2 =>
      ⟨fun hk => by rw [e1 hk]; exact h1 hk, h2, fun hk => ⟨hnil (h3 hk).1, e2 hk⟩, fun hk => ⟨hnil (h4 hk).1, (h4 hk).2⟩, fun hk => rowLift_fR hg (h5 hk), fun hk => rowLift_face hg (h6 hk), fun hk => hnil (h7 hk)⟩
    split at ho
    · rename_i hk
      split at ho
      · cases ho
      · injection ho with ho; injection ho with ho; subst ho
        exact key _ (fun h => absurd hk.1 h) (fun h => by have := (h3 h).2; dsimp only; omega)
    · injection ho with ho; injection ho with ho; subst ho
      exact key _ (fun _ => rfl) (fun h => (h3 h).2)
  · intro c k n nm r u _ ho
    exact absurd ho lift_own_inl
  · intro c f f' hf ho
    obtain ⟨g, hg, ho⟩ := Res1.bind_ok (x := rowLift db f c.2) ho
    injection ho with ho; injection ho with ho; subst ho
    exact rowLift_face hg hf
section
variable {C : Type} {A : Tr C}
theorem travL_of {k : Int} {c : C} : ∀ {ts us : List T} {i : Nat}, travL A k i ts c = .ok us → ∀ u, u ∈ us → ∃ t, t ∈ ts ∧ ∃ c', trav A t c' = .ok u
  | [], us, i, h, u, hu => by rw [travL_nil] at h; injection h with h; subst h; cases hu
  | t :: ts, us, i, h, u, hu => by
    rw [travL_cons] at h
    obtain ⟨c', _, h⟩ := Res1.bind_ok h
    obtain ⟨t', h2, h⟩ := Res1.bind_ok h
    obtain ⟨ts', h3, h⟩ := Res1.bind_ok h
    injection h with h
    subst h
    rcases List.mem_cons.mp hu with rfl | hu
    · exact ⟨t, List.mem_cons_self, c', h2⟩
    · obtain ⟨t9, h9, h10⟩ := travL_of h3 u hu
      exact ⟨t9, List.mem_cons_of_mem _ h9, h10⟩
theorem travS_of {k : Int} {c : C} : ∀ {ts us : List T}, travS A k ts c = .ok us → ∀ u, u ∈ us → ∃ t, t ∈ ts ∧ ∃ c', trav A t c' = .ok u
  | [], us, h, u, hu => by rw [travS_nil] at h; injection h with h; subst h; cases hu
  | t :: ts, us, h, u, hu => by
    rw [travS_cons] at h
    obtain ⟨c', _, h⟩ := Res1.bind_ok h
    obtain ⟨t', h2, h⟩ := Res1.bind_ok h
    obtain ⟨ts', h3, h⟩ := Res1.bind_ok h
    injection h with h
    subst h
    rcases List.mem_cons.mp hu with rfl | hu
    · exact ⟨t, List.mem_cons_self, c', h2⟩
    · obtain ⟨t9, h9, h10⟩ := travS_of h3 u hu
      exact ⟨t9, List.mem_cons_of_mem _ h9, h10⟩
theorem travB_of {k : Int} {c : C} : ∀ {bs us : List Br}, travB A k bs c = .ok us → ∀ u, u ∈ us → ∃ b, b ∈ bs ∧ ∀ x, x ∈ u.kids → ∃ t, t ∈ b.kids ∧ ∃ c', trav A t c' = .ok x
  | [], us, h, u, hu => by rw [travB_nil] at h; injection h with h; subst h; cases hu
  | .mk f ks :: bs, us, h, u, hu => by
    rw [travB_cons] at h
    obtain ⟨o, h1, h⟩ := Res1.bind_ok h
    cases o with
    | none =>
      obtain ⟨b, hb, h9⟩ := travB_of (bs := bs) h u hu
      exact ⟨b, List.mem_cons_of_mem _ hb, h9⟩
    | some f' =>
      obtain ⟨ks', h2, h⟩ := Res1.bind_ok h
      obtain ⟨bs', h3, h⟩ := Res1.bind_ok h
      injection h with h
      subst h
      rcases List.mem_cons.mp hu with rfl | hu
      · exact ⟨.mk f ks, List.mem_cons_self, fun x hx => travS_of h2 x hx⟩
      · obtain ⟨b, hb, h9⟩ := travB_of h3 u hu
        exact ⟨b, List.mem_cons_of_mem _ hb, h9⟩
end
theorem lift_depth {vb db : Int} : ∀ (t : T) {u : T} {c : Int × Int}, trav (liftTr vb db) t c = .ok u → depth u ≤ depth t := T.ind fun t ih u c hu => by
  have h0 := depth_pos t
  rw [show depth t = (depth t - 1) + 1 by omega, depth_le_iff]
  rw [trav_eq] at hu
  obtain ⟨o, h9, hu⟩ := Res1.bind_ok hu
  cases o with
  | inl v => exact absurd h9 lift_own_inl
  | inr p =>
    obtain ⟨ks', h10, hu⟩ := Res1.bind_ok hu
    obtain ⟨ss', h11, hu⟩ := Res1.bind_ok hu
    injection hu with hu
    subst hu
    intro q hq
    rcases part_cases hq with ⟨i, hi, rfl⟩ | ⟨s, k, hs, hk, rfl⟩
    · obtain ⟨x, hx, c', h12⟩ := travL_of h10 _ (getD_mem (d := t0) hi)
      obtain ⟨p', hp', e⟩ := kid_mem_parts hx
      have h13 := part_depth hp'
      have h14 := ih p' hp' (c := c') (by rw [e]; exact h12)
      exact Nat.le_trans h14 (by omega)
    · obtain ⟨b, hb, h12⟩ := travB_of h11 _ (getD_mem (d := br0) hs)
      obtain ⟨x, hx, c', h13⟩ := h12 _ (getD_mem (d := t0) hk)
      obtain ⟨p', hp', e⟩ := sys_mem_parts hb hx
      have h14 := part_depth hp'
      have h15 := ih p' hp' (c := c') (by rw [e]; exact h13)
      exact Nat.le_trans h15 (by omega)
theorem lift_formed {vb db : Int} (hv : 0 ≤ vb) {t u : T} {c : Int × Int} (h : formedP t = 0) (hu : trav (liftTr vb db) t c = .ok u) : formedP u = 0 := by
  obtain ⟨h1, h2⟩ := formed_fine.mp h
  obtain ⟨h3, h4⟩ := sized_zero.mp h1
  exact formed_fine.mpr ⟨sized_zero.mpr ⟨Nat.le_trans (lift_depth t hu) h3, by rw [lift_size hu]; exact h4⟩, lift_fine hv h2 hu⟩
/-! ### Lifts, one behind the other -/
theorem rowLift_zero (l : List Cl) (f : Int) : rowLift 0 l f = .ok l := by unfold rowLift; rw [if_pos (.inl rfl)]
/-- What liftTr makes of a node. -/
theorem lift_own_eq {vb db : Int} {c : Int × Int} {k n : Int} {nm : ByteArray} {r : List Cl} : (liftTr vb db).own c k n nm r = (rowLift db r c.2).bind fun r' => if k = 1 ∧ c.1 ≤ n ∧ 1000000000 - vb < n then .bad 100 else .ok (.inr (liftN vb c.1 k n, r')) := by
  simp only [liftTr, liftN]
  congr 1
  funext g
  by_cases h1 : k = 1 ∧ c.1 ≤ n
  · rw [if_pos h1, if_pos h1]
    by_cases h2 : 1000000000 - vb < n
    · rw [if_pos h2, if_pos ⟨h1.1, h1.2, h2⟩]
    · rw [if_neg h2, if_neg (fun h => h2 h.2.2)]
  · rw [if_neg h1, if_neg h1, if_neg (fun h => h1 ⟨h.1, h.2.1⟩)]
theorem lift_own_ok {vb db : Int} {c : Int × Int} {k n : Int} {nm : ByteArray} {r : List Cl} {p : Int × List Cl} (h : (liftTr vb db).own c k n nm r = .ok (.inr p)) : rowLift db r c.2 = .ok p.2 ∧ ¬ (k = 1 ∧ c.1 ≤ n ∧ 1000000000 - vb < n) ∧ p.1 = liftN vb c.1 k n := by
  rw [lift_own_eq] at h
  obtain ⟨g, hg, h⟩ := Res1.bind_ok h
  split at h
  · cases h
  · rename_i h1
    injection h with h; injection h with h; subst h
    exact ⟨hg, h1, rfl⟩
theorem lift_face_eq {vb db : Int} {c : Int × Int} {f f' : List Cl} (h : (liftTr vb db).face c f = .ok (some f')) : rowLift db f c.2 = .ok f' := by
  obtain ⟨g, hg, h⟩ := Res1.bind_ok (x := rowLift db f c.2) h
  injection h with h; injection h with h; subst h; exact hg
theorem liftN_zero {v k n : Int} : liftN 0 v k n = n := by unfold liftN; split <;> omega
theorem lift_face_def {vb db : Int} {c : Int × Int} {f : List Cl} : (liftTr vb db).face c f = (rowLift db f c.2).bind fun f' => .ok (some f') := rfl
theorem most_in64 {b : Int} (h0 : 0 ≤ b) (h1 : b ≤ 1000000) : 0 ≤ most b := by rw [most_of (by unfold in64; omega) h0]; omega
end Go.Hy
namespace Go.Hy
set_option linter.unusedVariables false
set_option linter.unusedSimpArgs false
set_option linter.unusedSectionVars false
set_option linter.unusedVariables false
set_option linter.unusedSimpArgs false
/-! ### Which variables, node by node -/
mutual
def usesT : T → Int → Prop
  | .mk k n nm r ks ss, m => (k = 1 ∧ n = m) ∨ usesL k 0 ks m ∨ usesB ss m
def usesL (k : Int) : Nat → List T → Int → Prop
  | _, [], _ => False
  | i, t :: ts, m => usesT t (m + (binds k i).1) ∨ usesL k (i + 1) ts m
def usesB : List Br → Int → Prop
  | [], _ => False
  | .mk f ks :: bs, m => usesS ks m ∨ usesB bs m
def usesS : List T → Int → Prop
  | [], _ => False
  | t :: ts, m => usesT t m ∨ usesS ts m
end
theorem usesL_iff {k : Int} : ∀ {ts : List T} {i : Nat} {m : Int}, usesL k i ts m ↔ ∃ j, j < ts.length ∧ usesT (ts.getD j t0) (m + (binds k ((i + j : Nat) : Int)).1)
  | [], i, m => by simp [usesL]
  | t :: ts, i, m => by
    simp only [usesL, usesL_iff (ts := ts) (i := i + 1)]
    constructor
    · rintro (h | ⟨j, hj, h⟩)
      · exact ⟨0, by simp, by simpa using h⟩
      · exact ⟨j + 1, by simpa using hj, by rw [List.getD_cons_succ]; rw [show i + (j + 1) = i + 1 + j by omega]; exact h⟩
    · rintro ⟨j, hj, h⟩
      cases j with
      | zero => left; simpa using h
      | succ j => right; exact ⟨j, by simpa using hj, by rw [List.getD_cons_succ] at h; rw [show i + 1 + j = i + (j + 1) by omega]; exact h⟩
theorem usesS_iff : ∀ {ts : List T} {m : Int}, usesS ts m ↔ ∃ j, j < ts.length ∧ usesT (ts.getD j t0) m
  | [], m => by simp [usesS]
  | t :: ts, m => by
    simp only [usesS, usesS_iff (ts := ts)]
    constructor
    · rintro (h | ⟨j, hj, h⟩)
      · exact ⟨0, by simp, by simpa using h⟩
      · exact ⟨j + 1, by simpa using hj, by rw [List.getD_cons_succ]; exact h⟩
    · rintro ⟨j, hj, h⟩
      cases j with
      | zero => left; simpa using h
      | succ j => right; exact ⟨j, by simpa using hj, by rw [List.getD_cons_succ] at h; exact h⟩
theorem usesB_iff : ∀ {bs : List Br} {m : Int}, usesB bs m ↔ ∃ s, s < bs.length ∧ usesS (bs.getD s br0).kids m
  | [], m => by simp [usesB]
  | .mk f ks :: bs, m => by
    simp only [usesB, usesB_iff (bs := bs)]
    constructor
    · rintro (h | ⟨j, hj, h⟩)
      · exact ⟨0, by simp, by simpa [Br.kids] using h⟩
      · exact ⟨j + 1, by simpa using hj, by rw [List.getD_cons_succ]; exact h⟩
    · rintro ⟨j, hj, h⟩
      cases j with
      | zero => left; simpa [Br.kids] using h
      | succ j => right; exact ⟨j, by simpa using hj, by rw [List.getD_cons_succ] at h; exact h⟩
theorem usesT_iff {t : T} {m : Int} : usesT t m ↔ (t.kind = 1 ∧ t.n = m) ∨ ∃ p, p ∈ parts t ∧ usesT p.1 (m + p.2.1) := by
  have h : usesT t m ↔ (t.kind = 1 ∧ t.n = m) ∨ usesL t.kind 0 t.kids m ∨ usesB t.sys m := by
    obtain ⟨k, n, nm, r, ks, ss⟩ := t
    simp only [usesT, T.kind, T.n, T.kids, T.sys]
  rw [h, usesL_iff, usesB_iff]
  constructor
  · rintro (h | ⟨j, hj, h⟩ | ⟨s, hs, h⟩)
    · exact .inl h
    · exact .inr ⟨_, List.mem_of_getElem? (parts_kid t j hj), by rw [Nat.zero_add] at h; exact h⟩
    · obtain ⟨k, hk, h⟩ := usesS_iff.mp h
      exact .inr ⟨_, List.mem_of_getElem? (parts_sys t s k hs hk), by simpa using h⟩
  · rintro (h | ⟨p, hp, h⟩)
    · exact .inl h
    · rcases part_cases hp with ⟨i, hi, rfl⟩ | ⟨s, k, hs, hk, rfl⟩
      · exact .inr (.inl ⟨i, hi, by rw [Nat.zero_add]; exact h⟩)
      · exact .inr (.inr ⟨s, hs, usesS_iff.mpr ⟨k, hk, by simpa using h⟩⟩)
theorem uses_link : ∀ (t : T) (m : Int), 0 ≤ m → m + size t ≤ 9000000000000000000 → (uses t m = true ↔ usesT t m) := T.ind fun t ih m h0 hb => by
  rw [uses_iff h0, usesT_iff]
  have key : ∀ p, p ∈ parts t → (uses p.1 (IntKind.i64.wrap (m + p.2.1)) = true ↔ usesT p.1 (m + p.2.1)) := fun p hp => by
    have h1 := parts_01 hp
    have h2 := size_part_lt hp
    rw [wrap_id (by unfold in64; omega)]
    exact ih p hp _ (by omega) (by omega)
  constructor
  · rintro (h | ⟨h, p, hp, h2⟩)
    · exact .inl h
    · exact .inr ⟨p, hp, (key p hp).mp h2⟩
  · rintro (h | ⟨p, hp, h2⟩)
    · exact .inl h
    · by_cases h3 : t.kind = 1 ∧ t.n = m
      · exact .inl h3
      · exact .inr ⟨h3, p, hp, (key p hp).mpr h2⟩
def atOr (v m : Int) : Prop := v = m ∨ (v ≤ m ∧ 1000000000 ≤ v)
mutual
theorem lift_uses {db : Int} : ∀ {t u : T} {c : Int × Int} {m : Int}, trav (liftTr 1 db) t c = .ok u → atOr c.1 m → ¬ usesT u m
  | .mk k n nm r ks ss, u, c, m, hu, ha => by
    rw [trav_eq] at hu
    simp only [T.kind, T.n, T.name, T.r, T.kids, T.sys] at hu
    obtain ⟨o, h9, hu⟩ := Res1.bind_ok hu
    cases o with
    | inl v => exact absurd h9 lift_own_inl
    | inr p =>
      obtain ⟨ks', h10, hu⟩ := Res1.bind_ok hu
      obtain ⟨ss', h11, hu⟩ := Res1.bind_ok hu
      injection hu with hu
      subst hu
      obtain ⟨_, h2, h3⟩ := lift_own_ok h9
      simp only [usesT, not_or]
      refine ⟨?_, liftL_uses h10 ha, liftB_uses h11 ha⟩
      rintro ⟨h4, h5⟩
      rw [h3] at h5
      unfold liftN at h5
      unfold atOr at ha
      split at h5 <;> omega
termination_by structural t => t
theorem liftL_uses {db k : Int} : ∀ {ts us : List T} {i : Nat} {c : Int × Int} {m : Int}, travL (liftTr 1 db) k i ts c = .ok us → atOr c.1 m → ¬ usesL k i us m
  | [], us, i, c, m, hu, ha => by rw [travL_nil] at hu; injection hu with hu; subst hu; simp [usesL]
  | t :: ts, us, i, c, m, hu, ha => by
    rw [travL_cons, lift_kid] at hu
    obtain ⟨c', h1, hu⟩ := Res1.bind_ok hu
    injection h1 with h1
    subst h1
    obtain ⟨t', h2, hu⟩ := Res1.bind_ok hu
    obtain ⟨ts', h3, hu⟩ := Res1.bind_ok hu
    injection hu with hu
    subst hu
    simp only [usesL, not_or]
    have hb := binds_01 k i
    exact ⟨lift_uses h2 (by unfold atOr at *; dsimp only; omega), liftL_uses h3 ha⟩
termination_by structural ts => ts
theorem liftS_uses {db k : Int} : ∀ {ts us : List T} {c : Int × Int} {m : Int}, travS (liftTr 1 db) k ts c = .ok us → atOr c.1 m → ¬ usesS us m
  | [], us, c, m, hu, ha => by rw [travS_nil] at hu; injection hu with hu; subst hu; simp [usesS]
  | t :: ts, us, c, m, hu, ha => by
    rw [travS_cons, lift_kid] at hu
    obtain ⟨c', h1, hu⟩ := Res1.bind_ok hu
    injection h1 with h1
    subst h1
    obtain ⟨t', h2, hu⟩ := Res1.bind_ok hu
    obtain ⟨ts', h3, hu⟩ := Res1.bind_ok hu
    injection hu with hu
    subst hu
    simp only [usesS, not_or]
    exact ⟨lift_uses h2 (by unfold atOr at *; dsimp only; omega), liftS_uses h3 ha⟩
termination_by structural ts => ts
theorem liftB_uses {db k : Int} : ∀ {bs us : List Br} {c : Int × Int} {m : Int}, travB (liftTr 1 db) k bs c = .ok us → atOr c.1 m → ¬ usesB us m
  | [], us, c, m, hu, ha => by rw [travB_nil] at hu; injection hu with hu; subst hu; simp [usesB]
  | .mk f ks :: bs, us, c, m, hu, ha => by
    rw [travB_cons, lift_face_def] at hu
    simp only [Br.face, Br.kids] at hu
    obtain ⟨o, h5, hu⟩ := Res1.bind_ok hu
    obtain ⟨g, _, h6⟩ := Res1.bind_ok h5
    injection h6 with h6
    subst h6
    obtain ⟨ks', h7, hu⟩ := Res1.bind_ok hu
    obtain ⟨bs', h8, hu⟩ := Res1.bind_ok hu
    injection hu with hu
    subst hu
    simp only [usesB, not_or]
    exact ⟨liftS_uses h7 ha, liftB_uses h8 ha⟩
termination_by structural bs => bs
end
/-! ### May a term be, node by node -/
def headM (v d : Int) (k n : Int) (r : List Cl) : Prop := d ≤ 24 ∧ (k = 1 → n < v) ∧ within r d = true
mutual
def mayT : T → Int → Int → Prop
  | .mk k n nm r ks ss, v, d => headM v d k n r ∧ mayL k 0 ks v d ∧ mayB k ss v d
def mayL (k : Int) : Nat → List T → Int → Int → Prop
  | _, [], _, _ => True
  | i, t :: ts, v, d => mayT t (v + (binds k i).1) (d + (binds k i).2) ∧ mayL k (i + 1) ts v d
def mayS (k : Int) : List T → Int → Int → Prop
  | [], _, _ => True
  | t :: ts, v, d => mayT t v (d + more k) ∧ mayS k ts v d
def mayB (k : Int) : List Br → Int → Int → Prop
  | [], _, _ => True
  | .mk f ks :: bs, v, d => within f d = true ∧ mayS k ks v d ∧ mayB k bs v d
end
theorem within_nil (d : Int) : within [] d = true := by
  unfold within
  rw [show fDims [] = 0 from rfl, Nat.zero_div]
  simp
theorem ownB_iff {t : T} {d : Int} {b : Br} : ownB t d b = true ↔ ((b.kids.length : Int) = partsN t.kind ∧ faceRight b.face = true) ∧ within b.face d = true := by
  unfold ownB
  rw [Bool.and_eq_true, Bool.and_eq_true, decide_eq_true_iff]
theorem own_link {t : T} {v d : Int} (hv : 0 ≤ v) : ownP t v d = true ↔ ownP t (-1) 24 = true ∧ (t.kind = 1 → t.n < v) ∧ within t.r d = true ∧ ∀ b, b ∈ t.sys → within b.face d = true := by
  rw [own_iff, own_iff]
  have hsys : ∀ (h : own1 t = false), partsN t.kind = 0 → t.sys = [] := fun h h0 => by
    unfold own1 at h
    rw [Bool.or_eq_false_iff, Bool.and_eq_false_iff] at h
    rcases h.2 with h2 | h2
    · exact absurd h0 (of_decide_eq_false h2)
    · exact List.eq_nil_of_length_eq_zero (by have := of_decide_eq_false h2; omega)
  have hw24 : ∀ l : List Cl, within l 24 = true := fun l => within_24 l (by omega)
  constructor
  · rintro ⟨h1, h2⟩
    refine (fun (h : (if t.kind = 1 then t.r.length = 0 ∧ 0 ≤ t.n ∧ ((-1 : Int) < 0 ∨ t.n < -1) else if t.kind = 2 then t.r.length = 0 ∧ nameOK t.name = true else if t.kind = 13 ∨ t.kind = 21 ∨ t.kind = 26 then fRight t.r = true ∧ within t.r 24 = true else if t.kind = 14 then faceRight t.r = true ∧ within t.r 24 = true else (∀ x, x ∈ t.sys → ownB t 24 x = true) ∧ t.r.length = 0) ∧ (t.kind = 1 → t.n < v) ∧ within t.r d = true ∧ ∀ b, b ∈ t.sys → within b.face d = true) => ⟨⟨h1, h.1⟩, h.2⟩) ?_
    split at h2
    · rename_i hk
      have hs := hsys h1 (partsN_zero (by omega))
      rw [hs, List.eq_nil_of_length_eq_zero h2.1]
      exact ⟨by rw [if_pos hk]; exact ⟨rfl, h2.2.1, .inl (by decide)⟩, fun _ => by omega, within_nil d, fun b hb => (by cases hb)⟩
    · rename_i hk1
      rw [if_neg hk1]
      split at h2
      · rename_i hk
        have hs := hsys h1 (partsN_zero (by omega))
        rw [hs, List.eq_nil_of_length_eq_zero h2.1]
        exact ⟨by rw [if_pos hk]; exact ⟨rfl, h2.2⟩, fun h => absurd h hk1, within_nil d, fun b hb => (by cases hb)⟩
      · rename_i hk2
        rw [if_neg hk2]
        split at h2
        · rename_i hk
          have hs := hsys h1 (partsN_zero (by omega))
          rw [hs]
          exact ⟨by rw [if_pos hk]; exact ⟨h2.1, hw24 _⟩, fun h => absurd h hk1, h2.2, fun b hb => (by cases hb)⟩
        · rename_i hk3
          rw [if_neg hk3]
          split at h2
          · rename_i hk
            have hs := hsys h1 (partsN_zero (by omega))
            rw [hs]
            exact ⟨by rw [if_pos hk]; exact ⟨h2.1, hw24 _⟩, fun h => absurd h hk1, h2.2, fun b hb => (by cases hb)⟩
          · rename_i hk4
            rw [if_neg hk4, List.eq_nil_of_length_eq_zero h2.2]
            exact ⟨⟨fun x hx => ownB_iff.mpr ⟨(ownB_iff.mp (h2.1 x hx)).1, hw24 _⟩, rfl⟩, fun h => absurd h hk1, within_nil d, fun b hb => (ownB_iff.mp (h2.1 b hb)).2⟩
  · rintro ⟨⟨h1, h2⟩, h3, h4, h5⟩
    refine ⟨h1, ?_⟩
    split at h2
    · rename_i hk; rw [if_pos hk]; exact ⟨h2.1, h2.2.1, .inr (h3 hk)⟩
    · rename_i hk1
      rw [if_neg hk1]
      split at h2
      · rename_i hk; rw [if_pos hk]; exact h2
      · rename_i hk2
        rw [if_neg hk2]
        split at h2
        · rename_i hk; rw [if_pos hk]; exact ⟨h2.1, h4⟩
        · rename_i hk3
          rw [if_neg hk3]
          split at h2
          · rename_i hk; rw [if_pos hk]; exact ⟨h2.1, h4⟩
          · rename_i hk4
            rw [if_neg hk4]
            exact ⟨fun x hx => ownB_iff.mpr ⟨(ownB_iff.mp (h2.1 x hx)).1, h5 x hx⟩, h2.2⟩
theorem mayL_iff {k v d : Int} : ∀ {ts : List T} {i : Nat}, mayL k i ts v d ↔ ∀ j, j < ts.length → mayT (ts.getD j t0) (v + (binds k ((i + j : Nat) : Int)).1) (d + (binds k ((i + j : Nat) : Int)).2)
  | [], i => by simp [mayL]
  | t :: ts, i => by
    simp only [mayL, mayL_iff (ts := ts) (i := i + 1)]
    constructor
    · rintro ⟨h1, h2⟩ j hj
      cases j with
      | zero => simpa using h1
      | succ j => rw [List.getD_cons_succ, show i + (j + 1) = i + 1 + j by omega]; exact h2 j (by simpa using hj)
    · intro h
      refine ⟨by simpa using h 0 (by simp), fun j hj => ?_⟩
      have := h (j + 1) (by simpa using hj)
      rw [List.getD_cons_succ, show i + (j + 1) = i + 1 + j by omega] at this
      exact this
theorem mayS_iff {k v d : Int} : ∀ {ts : List T}, mayS k ts v d ↔ ∀ j, j < ts.length → mayT (ts.getD j t0) v (d + more k)
  | [] => by simp [mayS]
  | t :: ts => by
    simp only [mayS, mayS_iff (ts := ts)]
    constructor
    · rintro ⟨h1, h2⟩ j hj
      cases j with
      | zero => simpa using h1
      | succ j => rw [List.getD_cons_succ]; exact h2 j (by simpa using hj)
    · intro h
      exact ⟨by simpa using h 0 (by simp), fun j hj => by have := h (j + 1) (by simpa using hj); rwa [List.getD_cons_succ] at this⟩
theorem mayB_iff {k v d : Int} : ∀ {bs : List Br}, mayB k bs v d ↔ ∀ b, b ∈ bs → within b.face d = true ∧ mayS k b.kids v d
  | [] => by simp [mayB]
  | .mk f ks :: bs => by
    simp only [mayB, mayB_iff (bs := bs), List.forall_mem_cons, Br.face, Br.kids, and_assoc]
theorem mayT_iff {t : T} {v d : Int} : mayT t v d ↔ headM v d t.kind t.n t.r ∧ (∀ b, b ∈ t.sys → within b.face d = true) ∧ ∀ p, p ∈ parts t → mayT p.1 (v + p.2.1) (d + p.2.2) := by
  have h : mayT t v d ↔ headM v d t.kind t.n t.r ∧ mayL t.kind 0 t.kids v d ∧ mayB t.kind t.sys v d := by
    obtain ⟨k, n, nm, r, ks, ss⟩ := t
    simp only [mayT, T.kind, T.n, T.r, T.kids, T.sys]
  rw [h, mayL_iff, mayB_iff]
  constructor
  · rintro ⟨h1, h2, h3⟩
    refine ⟨h1, fun b hb => (h3 b hb).1, fun p hp => ?_⟩
    rcases part_cases hp with ⟨i, hi, rfl⟩ | ⟨s, k, hs, hk, rfl⟩
    · have := h2 i hi; rw [Nat.zero_add] at this; exact this
    · have := mayS_iff.mp (h3 _ (getD_mem (d := br0) hs)).2 k hk; simpa using this
  · rintro ⟨h1, h2, h3⟩
    refine ⟨h1, fun j hj => ?_, fun b hb => ⟨h2 b hb, mayS_iff.mpr fun k hk => ?_⟩⟩
    · have := h3 _ (List.mem_of_getElem? (parts_kid t j hj)); rw [Nat.zero_add]; exact this
    · obtain ⟨s, hs, e⟩ := List.mem_iff_getElem.mp hb
      have e2 : t.sys.getD s br0 = b := by rw [getD_get (d := br0) hs]; exact e
      have := h3 _ (List.mem_of_getElem? (parts_sys t s k hs (by rw [e2]; exact hk)))
      rw [e2] at this
      simpa using this
theorem may_link : ∀ (t : T) (v d : Int), 0 ≤ v → v + size t ≤ 9000000000000000000 → (allP t v d true = true ↔ fineT t ∧ mayT t v d) := T.ind fun t ih v d h0 hb => by
  rw [all_iff, own_link h0, mayT_iff, fine_parts]
  have hown : ownP t (-1) 24 = true ↔ ∀ d' : Int, 24 ≤ d' → ownP t (-1) d' = true := by
    constructor
    · intro h d' hd'
      obtain ⟨k, n, nm, r, ks, ss⟩ := t
      exact (own24_iff hd').mpr ((own24_iff (by omega)).mp h)
    · intro h; exact h 24 (by omega)
  have key : ∀ p, p ∈ parts t → (allP p.1 (IntKind.i64.wrap (v + if v < 0 then 0 else p.2.1)) (d + p.2.2) true = true ↔ fineT p.1 ∧ mayT p.1 (v + p.2.1) (d + p.2.2)) := fun p hp => by
    have h1 := parts_01 hp
    have h2 := size_part_lt hp
    rw [if_neg (by omega), wrap_id (by unfold in64; omega)]
    exact ih p hp _ _ (by omega) (by omega)
  rw [hown]
  unfold headM
  constructor
  · rintro ⟨h1, ⟨h2, h3, h4, h5⟩, h6⟩
    exact ⟨⟨h2, fun p hp => ((key p hp).mp (h6 p hp)).1⟩, ⟨by simp at h1; omega, h3, h4⟩, h5, fun p hp => ((key p hp).mp (h6 p hp)).2⟩
  · rintro ⟨⟨h2, h6⟩, ⟨h1, h3, h4⟩, h5, h7⟩
    exact ⟨by simp; omega, ⟨h2, h3, h4, h5⟩, fun p hp => (key p hp).mpr ⟨h6 p hp, h7 p hp⟩⟩
theorem right_may {t : T} {v d : Int} (hv : 0 ≤ v) (hb : v ≤ 1000000000000) : rightP t v d = 0 ↔ 0 ≤ d ∧ d ≤ 24 ∧ sized t = 0 ∧ fineT t ∧ mayT t v d := by
  rw [right_zero]
  constructor
  · rintro ⟨_, h2, h3, h4, h5⟩
    have := (sized_zero.mp h4).2
    exact ⟨h2, h3, h4, (may_link t v d hv (by omega)).mp h5⟩
  · rintro ⟨h2, h3, h4, h5⟩
    have := (sized_zero.mp h4).2
    exact ⟨hv, h2, h3, h4, (may_link t v d hv (by omega)).mpr h5⟩
/-! ### A way is told where it is told of each part -/
section
variable {C : Type} {A : Tr C}
theorem travL_ex {k : Int} {c : C} : ∀ {ts : List T} {i : Nat}, (∀ j, j < ts.length → ∃ c' u, A.kid c (binds k ((i + j : Nat) : Int)) = .ok c' ∧ trav A (ts.getD j t0) c' = .ok u) → ∃ us, travL A k i ts c = .ok us
  | [], i, h => ⟨[], travL_nil _ _ _⟩
  | t :: ts, i, h => by
    obtain ⟨c', u, h1, h2⟩ := h 0 (by simp)
    obtain ⟨us, h3⟩ := travL_ex (ts := ts) (i := i + 1) (fun j hj => by
      have := h (j + 1) (by simpa using hj)
      rw [List.getD_cons_succ, show i + (j + 1) = i + 1 + j by omega] at this
      exact this)
    rw [Nat.add_zero] at h1
    rw [List.getD_cons_zero] at h2
    exact ⟨u :: us, by rw [travL_cons, h1]; simp only [Res1.bind]; rw [h2]; simp only; rw [h3]⟩
theorem travS_ex {k : Int} {c : C} : ∀ {ts : List T}, (∀ j, j < ts.length → ∃ c' u, A.kid c (0, more k) = .ok c' ∧ trav A (ts.getD j t0) c' = .ok u) → ∃ us, travS A k ts c = .ok us
  | [], h => ⟨[], travS_nil _ _⟩
  | t :: ts, h => by
    obtain ⟨c', u, h1, h2⟩ := h 0 (by simp)
    obtain ⟨us, h3⟩ := travS_ex (ts := ts) (fun j hj => by
      have := h (j + 1) (by simpa using hj)
      rw [List.getD_cons_succ] at this
      exact this)
    rw [List.getD_cons_zero] at h2
    exact ⟨u :: us, by rw [travS_cons, h1]; simp only [Res1.bind]; rw [h2]; simp only; rw [h3]⟩
end
/-! ### Variables of a term that may be are lifted -/
theorem var_told {a : Int} (ha : 0 ≤ a ∧ a ≤ 1000000) : ∀ (t : T) (v d : Int) (c : Int × Int), mayT t v d → v + size t ≤ 900000000 → ∃ u, trav (liftTr a 0) t c = .ok u := T.ind fun t ih v d c hm hb => by
  obtain ⟨h1, h2, h3⟩ := mayT_iff.mp hm
  have hsz := size_pos' t
  have hown : (liftTr a 0).own c t.kind t.n t.name t.r = .ok (.inr (liftN a c.1 t.kind t.n, t.r)) := by
    rw [lift_own_eq, rowLift_zero]
    simp only [Res1.bind]
    rw [if_neg]
    rintro ⟨h4, _, h5⟩
    have := h1.2.1 h4
    omega
  have hpart : ∀ p, p ∈ parts t → ∀ c', ∃ u, trav (liftTr a 0) p.1 c' = .ok u := fun p hp c' => by
    have h4 := parts_01 hp
    have h5 := size_part_lt hp
    exact ih p hp _ _ c' (h3 p hp) (by omega)
  obtain ⟨ks, hk⟩ := travL_ex (A := liftTr a 0) (k := t.kind) (c := c) (ts := t.kids) (i := 0) (fun j hj => by
    obtain ⟨u, hu⟩ := hpart _ (List.mem_of_getElem? (parts_kid t j hj)) (c.1 + (binds t.kind ((0 + j : Nat) : Int)).1, c.2 + (binds t.kind ((0 + j : Nat) : Int)).2)
    exact ⟨_, u, rfl, hu⟩)
  have hbr : ∀ bs : List Br, (∀ b, b ∈ bs → b ∈ t.sys) → ∃ us, travB (liftTr a 0) t.kind bs c = .ok us := by
    intro bs
    induction bs with
    | nil => intro _; exact ⟨[], travB_nil _ _⟩
    | cons b bs ihb =>
      intro hs
      obtain ⟨us, hus⟩ := ihb (fun x hx => hs x (List.mem_cons_of_mem _ hx))
      obtain ⟨s, hs1, e⟩ := List.mem_iff_getElem.mp (hs b List.mem_cons_self)
      have e2 : t.sys.getD s br0 = b := by rw [getD_get (d := br0) hs1]; exact e
      obtain ⟨xs, hx⟩ := travS_ex (A := liftTr a 0) (k := t.kind) (c := c) (ts := b.kids) (fun j hj => by
        obtain ⟨u, hu⟩ := hpart _ (List.mem_of_getElem? (parts_sys t s j hs1 (by rw [e2]; exact hj))) (c.1 + 0, c.2 + more t.kind)
        rw [e2] at hu
        exact ⟨_, u, rfl, hu⟩)
      exact ⟨.mk b.face xs :: us, by rw [travB_cons, lift_face_def, rowLift_zero]; simp only [Res1.bind]; rw [hx]; simp only; rw [hus]⟩
  obtain ⟨ss, hss⟩ := hbr t.sys (fun b hb => hb)
  exact ⟨_, trav_ok_of hown hk hss⟩
mutual
theorem lift_mayV {a : Int} (ha : 0 ≤ a) : ∀ {t u : T} {c : Int × Int} {v d : Int}, trav (liftTr a 0) t c = .ok u → mayT t v d → mayT u (v + a) d
  | .mk k n nm r ks ss, u, c, v, d, hu, hm => by
    rw [trav_eq] at hu
    simp only [T.kind, T.n, T.name, T.r, T.kids, T.sys] at hu
    obtain ⟨o, h9, hu⟩ := Res1.bind_ok hu
    cases o with
    | inl w => exact absurd h9 lift_own_inl
    | inr p =>
      obtain ⟨ks', h10, hu⟩ := Res1.bind_ok hu
      obtain ⟨ss', h11, hu⟩ := Res1.bind_ok hu
      injection hu with hu
      subst hu
      obtain ⟨h1, h2, h3⟩ := lift_own_ok h9
      rw [rowLift_zero] at h1
      injection h1 with h1
      simp only [mayT] at hm ⊢
      obtain ⟨⟨m1, m2, m3⟩, m4, m5⟩ := hm
      refine ⟨⟨m1, fun hk => ?_, by rw [← h1]; exact m3⟩, lift_mayVL ha h10 m4, lift_mayVB ha h11 m5⟩
      have := m2 hk
      rw [h3]
      unfold liftN
      split <;> omega
termination_by structural t => t
theorem lift_mayVL {a k : Int} (ha : 0 ≤ a) : ∀ {ts us : List T} {i : Nat} {c : Int × Int} {v d : Int}, travL (liftTr a 0) k i ts c = .ok us → mayL k i ts v d → mayL k i us (v + a) d
  | [], us, i, c, v, d, hu, hm => by rw [travL_nil] at hu; injection hu with hu; subst hu; simp only [mayL]
  | t :: ts, us, i, c, v, d, hu, hm => by
    rw [travL_cons, lift_kid] at hu
    obtain ⟨c', h1, hu⟩ := Res1.bind_ok hu
    obtain ⟨t', h2, hu⟩ := Res1.bind_ok hu
    obtain ⟨ts', h3, hu⟩ := Res1.bind_ok hu
    injection hu with hu
    subst hu
    simp only [mayL] at hm ⊢
    refine ⟨?_, lift_mayVL ha h3 hm.2⟩
    have := lift_mayV ha h2 hm.1
    rwa [show v + (binds k (i : Int)).1 + a = v + a + (binds k (i : Int)).1 by omega] at this
termination_by structural ts => ts
theorem lift_mayVS {a k : Int} (ha : 0 ≤ a) : ∀ {ts us : List T} {c : Int × Int} {v d : Int}, travS (liftTr a 0) k ts c = .ok us → mayS k ts v d → mayS k us (v + a) d
  | [], us, c, v, d, hu, hm => by rw [travS_nil] at hu; injection hu with hu; subst hu; simp only [mayS]
  | t :: ts, us, c, v, d, hu, hm => by
    rw [travS_cons, lift_kid] at hu
    obtain ⟨c', h1, hu⟩ := Res1.bind_ok hu
    obtain ⟨t', h2, hu⟩ := Res1.bind_ok hu
    obtain ⟨ts', h3, hu⟩ := Res1.bind_ok hu
    injection hu with hu
    subst hu
    simp only [mayS] at hm ⊢
    exact ⟨lift_mayV ha h2 hm.1, lift_mayVS ha h3 hm.2⟩
termination_by structural ts => ts
theorem lift_mayVB {a k : Int} (ha : 0 ≤ a) : ∀ {bs us : List Br} {c : Int × Int} {v d : Int}, travB (liftTr a 0) k bs c = .ok us → mayB k bs v d → mayB k us (v + a) d
  | [], us, c, v, d, hu, hm => by rw [travB_nil] at hu; injection hu with hu; subst hu; simp only [mayB]
  | .mk f ks :: bs, us, c, v, d, hu, hm => by
    rw [travB_cons, lift_face_def] at hu
    simp only [Br.face, Br.kids] at hu
    rw [rowLift_zero] at hu
    simp only [Res1.bind] at hu
    obtain ⟨ks', h7, hu⟩ := Res1.bind_ok (x := travS (liftTr a 0) k ks c) hu
    obtain ⟨bs', h8, hu⟩ := Res1.bind_ok hu
    injection hu with hu
    subst hu
    simp only [mayB] at hm ⊢
    exact ⟨hm.1, lift_mayVS ha h7 hm.2.1, lift_mayVB ha h8 hm.2.2⟩
termination_by structural bs => bs
end
end Go.Hy
namespace Go.Hy
set_option linter.unusedVariables false
set_option linter.unusedSimpArgs false
set_option linter.unusedSectionVars false
set_option linter.unusedVariables false
set_option linter.unusedSimpArgs false
/-! ### A contract whose result is only known to be so and so -/
theorem Spec.hide {P : Program} {k : FuncId} {args : Array Value} {pre : List Fact} {Ms0 : List Res} {α X : Type} (r : α) {val : α → X → Value} {N : α → X → List Fact} {Ms1 : α → X → List Res} (h : Spec P k args pre Ms0 (val r) (N r) (Ms1 r)) :
    Spec P k args pre Ms0 (fun x : {x : α × X // x.1 = r} => val x.1.1 x.1.2) (fun x => N x.1.1 x.1.2) (fun x => Ms1 x.1.1 x.1.2) := fun ok w hk hs => (h ok w hk hs).mono fun e w' hh => by
  obtain ⟨x, he, hs'⟩ := hh
  exact ⟨⟨(r, x), rfl⟩, he, hs'⟩
/-! ### What a way tells of the parts -/
section
variable {C : Type} {A : Tr C}
theorem travL_at {k : Int} {c : C} : ∀ {ts us : List T} {i : Nat}, travL A k i ts c = .ok us → us.length = ts.length ∧ ∀ j, j < us.length → ∃ c', A.kid c (binds k ((i + j : Nat) : Int)) = .ok c' ∧ trav A (ts.getD j t0) c' = .ok (us.getD j t0)
  | [], us, i, h => by rw [travL_nil] at h; injection h with h; subst h; exact ⟨rfl, fun j hj => absurd hj (by simp)⟩
  | t :: ts, us, i, h => by
    rw [travL_cons] at h
    obtain ⟨c', h1, h⟩ := Res1.bind_ok h
    obtain ⟨t', h2, h⟩ := Res1.bind_ok h
    obtain ⟨ts', h3, h⟩ := Res1.bind_ok h
    injection h with h
    subst h
    obtain ⟨h4, h5⟩ := travL_at h3
    refine ⟨by simp [h4], fun j hj => ?_⟩
    cases j with
    | zero => exact ⟨c', by simpa using h1, by simpa using h2⟩
    | succ j =>
      obtain ⟨d, h6, h7⟩ := h5 j (by simpa using hj)
      exact ⟨d, by rw [show i + (j + 1) = i + 1 + j by omega]; exact h6, by rw [List.getD_cons_succ, List.getD_cons_succ]; exact h7⟩
theorem travS_at {k : Int} {c : C} : ∀ {ts us : List T}, travS A k ts c = .ok us → us.length = ts.length ∧ ∀ j, j < us.length → ∃ c', A.kid c (0, more k) = .ok c' ∧ trav A (ts.getD j t0) c' = .ok (us.getD j t0)
  | [], us, h => by rw [travS_nil] at h; injection h with h; subst h; exact ⟨rfl, fun j hj => absurd hj (by simp)⟩
  | t :: ts, us, h => by
    rw [travS_cons] at h
    obtain ⟨c', h1, h⟩ := Res1.bind_ok h
    obtain ⟨t', h2, h⟩ := Res1.bind_ok h
    obtain ⟨ts', h3, h⟩ := Res1.bind_ok h
    injection h with h
    subst h
    obtain ⟨h4, h5⟩ := travS_at h3
    refine ⟨by simp [h4], fun j hj => ?_⟩
    cases j with
    | zero => exact ⟨c', h1, by simpa using h2⟩
    | succ j =>
      obtain ⟨d, h6, h7⟩ := h5 j (by simpa using hj)
      exact ⟨d, h6, by rw [List.getD_cons_succ, List.getD_cons_succ]; exact h7⟩
theorem travB_at {k : Int} {c : C} : ∀ {bs us : List Br}, travB A k bs c = .ok us → us.length ≤ bs.length ∧ ∀ u, u ∈ us → ∃ b, b ∈ bs ∧ A.face c b.face = .ok (some u.face) ∧ travS A k b.kids c = .ok u.kids
  | [], us, h => by rw [travB_nil] at h; injection h with h; subst h; exact ⟨Nat.le_refl _, fun u hu => (by cases hu)⟩
  | b :: bs, us, h => by
    rw [travB_cons] at h
    obtain ⟨o, h1, h⟩ := Res1.bind_ok h
    cases o with
    | none =>
      obtain ⟨h4, h5⟩ := travB_at h
      exact ⟨by simp only [List.length_cons]; omega, fun u hu => by obtain ⟨x, hx, h6⟩ := h5 u hu; exact ⟨x, List.mem_cons_of_mem _ hx, h6⟩⟩
    | some f' =>
      obtain ⟨ks', h2, h⟩ := Res1.bind_ok h
      obtain ⟨bs', h3, h⟩ := Res1.bind_ok h
      injection h with h
      subst h
      obtain ⟨h4, h5⟩ := travB_at h3
      refine ⟨by simp only [List.length_cons]; omega, fun u hu => ?_⟩
      rcases List.mem_cons.mp hu with rfl | hu
      · exact ⟨b, List.mem_cons_self, h1, h2⟩
      · obtain ⟨x, hx, h6⟩ := h5 u hu; exact ⟨x, List.mem_cons_of_mem _ hx, h6⟩
theorem mem_getD {α : Type} {d x : α} {l : List α} (h : x ∈ l) : ∃ i, i < l.length ∧ l.getD i d = x := by
  obtain ⟨i, hi, e⟩ := List.mem_iff_getElem.mp h
  exact ⟨i, hi, by rw [getD_get (d := d) hi]; exact e⟩
theorem trav_out {t u : T} {c : C} (h : trav A t c = .ok u) : A.own c t.kind t.n t.name t.r = .ok (.inl u) ∨ ∃ p, A.own c t.kind t.n t.name t.r = .ok (.inr p) ∧ (u.kind = t.kind ∧ u.n = p.1 ∧ u.name = t.name ∧ u.r = p.2) ∧
    (∀ q, q ∈ parts u → ∃ p, p ∈ parts t ∧ p.2 = q.2 ∧ ∃ c', A.kid c p.2 = .ok c' ∧ trav A p.1 c' = .ok q.1) ∧ ∀ b', b' ∈ u.sys → ∃ b, b ∈ t.sys ∧ A.face c b.face = .ok (some b'.face) := by
  rw [trav_eq] at h
  obtain ⟨o, h1, h⟩ := Res1.bind_ok h
  cases o with
  | inl v => injection h with h; subst h; exact .inl h1
  | inr p =>
    obtain ⟨ks', h2, h⟩ := Res1.bind_ok h
    obtain ⟨ss', h3, h⟩ := Res1.bind_ok h
    injection h with h
    subst h
    obtain ⟨l1, l2⟩ := travL_at h2
    obtain ⟨b1, b2⟩ := travB_at h3
    refine .inr ⟨p, h1, ⟨rfl, rfl, rfl, rfl⟩, fun q hq => ?_, fun b' hb' => ?_⟩
    · rcases part_cases hq with ⟨i, hi, rfl⟩ | ⟨s, j, hs, hj, rfl⟩
      · simp only [T.kids, T.kind] at hi ⊢
        obtain ⟨c', h4, h5⟩ := l2 i hi
        exact ⟨_, List.mem_of_getElem? (parts_kid t i (by omega)), rfl, c', by rw [Nat.zero_add] at h4; exact h4, h5⟩
      · simp only [T.sys, T.kind] at hs hj ⊢
        obtain ⟨b, hb, _, h6⟩ := b2 _ (getD_mem (d := br0) hs)
        obtain ⟨h7, h8⟩ := travS_at h6
        obtain ⟨c', h9, h10⟩ := h8 j hj
        obtain ⟨s', hs', e⟩ := mem_getD (d := br0) hb
        refine ⟨_, List.mem_of_getElem? (parts_sys t s' j hs' (by rw [e]; omega)), rfl, c', h9, ?_⟩
        rw [e]; exact h10
    · obtain ⟨b, hb, h6, _⟩ := b2 b' hb'
      exact ⟨b, hb, h6⟩
theorem bind_bad_of {α β : Type} {x : Res1 α} {k : α → Res1 β} {e : Int} (h : x.bind k = .bad e) : x = .bad e ∨ ∃ a, x = .ok a ∧ k a = .bad e := by
  cases x with
  | ok a => exact .inr ⟨a, rfl, h⟩
  | bad e' => injection h with h; subst h; exact .inl rfl
theorem travL_why {k : Int} {c : C} {e : Int} : ∀ {ts : List T} {i : Nat}, travL A k i ts c = .bad e → ∃ j, j < ts.length ∧ (A.kid c (binds k ((i + j : Nat) : Int)) = .bad e ∨ ∃ c', A.kid c (binds k ((i + j : Nat) : Int)) = .ok c' ∧ trav A (ts.getD j t0) c' = .bad e)
  | [], i, h => by rw [travL_nil] at h; cases h
  | t :: ts, i, h => by
    rw [travL_cons] at h
    rcases bind_bad_of h with h | ⟨c', h1, h⟩
    · exact ⟨0, by simp, .inl (by simpa using h)⟩
    · rcases bind_bad_of h with h | ⟨t', h2, h⟩
      · exact ⟨0, by simp, .inr ⟨c', by simpa using h1, by simpa using h⟩⟩
      · rcases bind_bad_of h with h | ⟨ts', h3, h⟩
        · obtain ⟨j, hj, h4⟩ := travL_why h
          refine ⟨j + 1, by simpa using hj, ?_⟩
          rw [List.getD_cons_succ, show i + (j + 1) = i + 1 + j by omega]; exact h4
        · cases h
theorem travS_why {k : Int} {c : C} {e : Int} : ∀ {ts : List T}, travS A k ts c = .bad e → ∃ j, j < ts.length ∧ (A.kid c (0, more k) = .bad e ∨ ∃ c', A.kid c (0, more k) = .ok c' ∧ trav A (ts.getD j t0) c' = .bad e)
  | [], h => by rw [travS_nil] at h; cases h
  | t :: ts, h => by
    rw [travS_cons] at h
    rcases bind_bad_of h with h | ⟨c', h1, h⟩
    · exact ⟨0, by simp, .inl h⟩
    · rcases bind_bad_of h with h | ⟨t', h2, h⟩
      · exact ⟨0, by simp, .inr ⟨c', h1, by simpa using h⟩⟩
      · rcases bind_bad_of h with h | ⟨ts', h3, h⟩
        · obtain ⟨j, hj, h4⟩ := travS_why h
          exact ⟨j + 1, by simpa using hj, by rw [List.getD_cons_succ]; exact h4⟩
        · cases h
theorem travB_why {k : Int} {c : C} {e : Int} : ∀ {bs : List Br}, travB A k bs c = .bad e → ∃ b, b ∈ bs ∧ (A.face c b.face = .bad e ∨ travS A k b.kids c = .bad e)
  | [], h => by rw [travB_nil] at h; cases h
  | b :: bs, h => by
    rw [travB_cons] at h
    rcases bind_bad_of h with h | ⟨o, h1, h⟩
    · exact ⟨b, List.mem_cons_self, .inl h⟩
    · cases o with
      | none => obtain ⟨x, hx, h⟩ := travB_why h; exact ⟨x, List.mem_cons_of_mem _ hx, h⟩
      | some f' =>
        rcases bind_bad_of h with h | ⟨ks, h2, h⟩
        · exact ⟨b, List.mem_cons_self, .inr h⟩
        · rcases bind_bad_of h with h | ⟨us, h3, h⟩
          · obtain ⟨x, hx, h⟩ := travB_why h; exact ⟨x, List.mem_cons_of_mem _ hx, h⟩
          · cases h
theorem trav_why {t : T} {c : C} {e : Int} (h : trav A t c = .bad e) : A.own c t.kind t.n t.name t.r = .bad e ∨ (∃ b, b ∈ t.sys ∧ A.face c b.face = .bad e) ∨ ∃ p, p ∈ parts t ∧ (A.kid c p.2 = .bad e ∨ ∃ c', A.kid c p.2 = .ok c' ∧ trav A p.1 c' = .bad e) := by
  rw [trav_eq] at h
  rcases bind_bad_of h with h | ⟨o, h1, h⟩
  · exact .inl h
  · cases o with
    | inl u => cases h
    | inr p =>
      rcases bind_bad_of h with h | ⟨ks, h2, h⟩
      · obtain ⟨j, hj, h3⟩ := travL_why h
        rw [Nat.zero_add] at h3
        exact .inr (.inr ⟨_, List.mem_of_getElem? (parts_kid t j hj), h3⟩)
      · rcases bind_bad_of h with h | ⟨ss, h3, h⟩
        · obtain ⟨b, hb, h4⟩ := travB_why h
          rcases h4 with h4 | h4
          · exact .inr (.inl ⟨b, hb, h4⟩)
          · obtain ⟨j, hj, h5⟩ := travS_why h4
            obtain ⟨s, hs, e2⟩ := mem_getD (d := br0) hb
            refine .inr (.inr ⟨_, List.mem_of_getElem? (parts_sys t s j hs (by rw [e2]; exact hj)), ?_⟩)
            rw [e2]; exact h5
        · cases h
end
end Go.Hy
namespace Go.Hy
set_option linter.unusedVariables false
set_option linter.unusedSimpArgs false
set_option linter.unusedSectionVars false
set_option linter.unusedVariables false
set_option linter.unusedSimpArgs false
/-! ### Dimensions, bit by bit -/
theorem fDims_bit {l : List Cl} {i : Nat} : (fDims l).testBit i = true ↔ i < 24 ∧ ∃ c, c ∈ l ∧ (c.pos ||| c.neg).testBit i = true := by
  unfold fDims
  rw [and24_bit, Bool.and_eq_true, decide_eq_true_eq, fold_bit (fun c : Cl => c.pos ||| c.neg)]
  simp
theorem dims_bit {t : T} {i : Nat} : (dimsT t).testBit i = true ↔ (fDims t.r).testBit i = true ∨ (∃ b, b ∈ t.sys ∧ (fDims b.face).testBit i = true) ∨ ∃ p, p ∈ parts t ∧ (dimsT p.1).testBit (i + p.2.2.toNat) = true := by
  have hbig : ∀ x : Nat, x < 16777216 → ∀ j, x.testBit j = true → j < 24 := fun x hx j hj => by
    refine Nat.lt_of_not_le fun h => ?_
    rw [Nat.testBit_lt_two_pow (Nat.lt_of_lt_of_le hx (Nat.pow_le_pow_right (n := 2) (i := 24) (by omega) h))] at hj
    cases hj
  by_cases hi : i < 24
  · rw [← dimsUpto_all]
    unfold dimsUpto
    rw [List.take_length, fold_bit dimsPart]
    unfold dimsF
    rw [List.take_length, fold_bit (fun b : Br => fDims b.face), or_assoc]
    refine or_congr Iff.rfl (or_congr Iff.rfl ?_)
    have key : ∀ p, p ∈ parts t → ((dimsPart p).testBit i = true ↔ (dimsT p.1).testBit (i + p.2.2.toNat) = true) := fun p hp => by
      have h1 := parts_01 hp
      rw [part_bit (p := p) hi (parts_in (k := p.1) (v := p.2.1) (d := p.2.2) hp)]
      unfold hasD
      rw [show ((i : Int) + p.2.2).toNat = i + p.2.2.toNat by omega, Bool.and_eq_true, decide_eq_true_eq]
      exact ⟨fun h => h.2, fun h => ⟨by have := hbig _ (dims_lt _) _ h; omega, h⟩⟩
    constructor
    · rintro ⟨p, hp, h⟩; exact ⟨p, hp, (key p hp).mp h⟩
    · rintro ⟨p, hp, h⟩; exact ⟨p, hp, (key p hp).mpr h⟩
  · constructor
    · intro h; exact absurd (hbig _ (dims_lt _) _ h) hi
    · rintro (h | ⟨b, _, h⟩ | ⟨p, _, h⟩)
      · exact absurd (hbig _ (fDims_lt _) _ h) hi
      · exact absurd (hbig _ (fDims_lt _) _ h) hi
      · exact absurd (hbig _ (dims_lt _) _ h) (by omega)
/-! ### What a lift does to the bits -/
theorem maskLift_from {s : Nat} {f b : Int} (h : (maskLift s f b).1 = 0) (i : Nat) (hi : (maskLift s f b).2.testBit i = true) : ∃ j, j < 24 ∧ s.testBit j = true ∧ (((j : Int) < f ∧ i = j) ∨ (f ≤ (j : Int) ∨ 24 ≤ j) ∧ (i : Int) = j + b) := by
  obtain ⟨h0, h1, h2⟩ := maskLift_bit h i
  rw [h2, Bool.or_eq_true, Bool.and_eq_true, Bool.and_eq_true, decide_eq_true_eq, decide_eq_true_eq, and24_bit, and24_bit, Bool.and_eq_true, Bool.and_eq_true, decide_eq_true_eq, decide_eq_true_eq] at hi
  rcases hi with ⟨h3, h4, h5⟩ | ⟨h3, h4, h5⟩
  · exact ⟨i, h4, h5, .inl ⟨by omega, rfl⟩⟩
  · exact ⟨i - b.toNat, h4, h5, .inr ⟨by omega, by omega⟩⟩
theorem rowLift_from {l g : List Cl} {f b : Int} (hf : 0 ≤ f) (h : rowLift b l f = .ok g) {i : Nat} (hi : (fDims g).testBit i = true) : ∃ j : Nat, j < 24 ∧ (fDims l).testBit j = true ∧ (((j : Int) < f ∧ i = j) ∨ f ≤ (j : Int) ∧ (i : Int) = j + b) := by
  unfold rowLift at h
  split at h
  · rename_i h0
    injection h with h
    subst h
    have h1 := (fDims_bit.mp hi).1
    refine ⟨i, h1, hi, ?_⟩
    omega
  · split at h
    · rename_i h0 h1
      injection h with h
      subst h
      obtain ⟨h2, h3, h4⟩ := formLift_cases h1
      obtain ⟨h5, c, hc, h6⟩ := fDims_bit.mp hi
      rw [h4] at h1 hc
      have hc2 := leastF_sub h1 hc
      obtain ⟨d, hd, e⟩ := List.mem_map.mp hc2
      have h7 := h3 d hd
      obtain ⟨_, h8, h9, h10⟩ := clLift_ok h7
      rw [h10] at e
      subst e
      rw [Nat.testBit_or, Bool.or_eq_true] at h6
      have key : ∀ j, (d.pos.testBit j = true ∨ d.neg.testBit j = true) → j < 24 → (fDims l).testBit j = true := fun j hj hj2 => fDims_bit.mpr ⟨hj2, d, hd, by rw [Nat.testBit_or, Bool.or_eq_true]; exact hj⟩
      rcases h6 with h6 | h6
      · obtain ⟨j, h11, h12, h13⟩ := maskLift_from h8 i h6
        exact ⟨j, h11, key j (.inl h12) h11, by omega⟩
      · obtain ⟨j, h11, h12, h13⟩ := maskLift_from h9 i h6
        exact ⟨j, h11, key j (.inr h12) h11, by omega⟩
    · cases h
theorem lift_own_row_ok {vb db : Int} {c : Int × Int} {t : T} {p : Int × List Cl} (h : (liftTr vb db).own c t.kind t.n t.name t.r = .ok (.inr p)) : rowLift db t.r c.2 = .ok p.2 := (lift_own_ok h).1
theorem lift_kid_eq {vb db : Int} {c c' : Int × Int} {b : Int × Int} (h : (liftTr vb db).kid c b = .ok c') : c' = (c.1 + b.1, c.2 + b.2) := by injection h with h; exact h.symm
/-- Behind a lift of dimensions by one, the one at its place is free. -/
theorem lift_gap {vb : Int} : ∀ (t u : T) (c : Int × Int), 0 ≤ c.2 → trav (liftTr vb 1) t c = .ok u → (dimsT u).testBit c.2.toNat = false := T.ind fun t ih u c h0 hu => by
  rcases trav_out hu with h | ⟨p, h1, ⟨_, _, _, h2⟩, h3, h4⟩
  · exact absurd h lift_own_inl
  · cases hb : (dimsT u).testBit c.2.toNat with
    | false => rfl
    | true =>
      exfalso
      rcases dims_bit.mp hb with h5 | ⟨b, hb2, h5⟩ | ⟨q, hq, h5⟩
      · rw [h2] at h5
        obtain ⟨j, _, _, h6⟩ := rowLift_from h0 (lift_own_row_ok h1) h5
        omega
      · obtain ⟨b', hb', h6⟩ := h4 b hb2
        obtain ⟨j, _, _, h7⟩ := rowLift_from h0 (lift_face_eq h6) h5
        omega
      · obtain ⟨q', hq', e, c', h6, h7⟩ := h3 q hq
        have h8 := lift_kid_eq h6
        have h9 := parts_01 hq'
        subst h8
        have := ih q' hq' q.1 _ (by dsimp only; omega) h7
        rw [e] at this h9
        dsimp only at this
        rw [show (c.2 + q.2.2).toNat = c.2.toNat + q.2.2.toNat by omega, h5] at this
        cases this
/-! ### Binders of dimensions -/
mutual
def bindT : T → Int
  | .mk k n nm r ks ss => max (bindL k 0 ks) (bindB ss)
def bindL (k : Int) : Nat → List T → Int
  | _, [] => 0
  | i, t :: ts => max ((binds k i).2 + bindT t) (bindL k (i + 1) ts)
def bindS : List T → Int
  | [] => 0
  | t :: ts => max (1 + bindT t) (bindS ts)
def bindB : List Br → Int
  | [] => 0
  | .mk f ks :: bs => max (bindS ks) (bindB bs)
end
theorem bindL_snoc {k : Int} {t : T} : ∀ {ts : List T} {i : Nat}, bindL k i (ts ++ [t]) = max (bindL k i ts) (max ((binds k ((i + ts.length : Nat) : Int)).2 + bindT t) 0)
  | [], i => by simp only [List.nil_append, bindL, List.length_nil, Nat.add_zero]; omega
  | a :: ts, i => by
    rw [List.cons_append, bindL, bindL_snoc (ts := ts), bindL, List.length_cons, show i + 1 + ts.length = i + (ts.length + 1) by omega]
    omega
theorem bindS_snoc {t : T} : ∀ {ts : List T}, bindS (ts ++ [t]) = max (bindS ts) (max (1 + bindT t) 0)
  | [] => by simp only [List.nil_append, bindS]; omega
  | a :: ts => by
    rw [List.cons_append, bindS, bindS_snoc (ts := ts), bindS]
    omega
theorem bindB_snoc {b : Br} : ∀ {bs : List Br}, bindB (bs ++ [b]) = max (bindB bs) (max (bindS b.kids) 0)
  | [] => by obtain ⟨f, ks⟩ := b; simp only [List.nil_append, bindB, Br.kids]; omega
  | .mk f ks :: bs => by
    rw [List.cons_append, bindB, bindB_snoc (bs := bs), bindB]
    omega
theorem bindL_pos {k : Int} : ∀ {ts : List T} {i : Nat}, 0 ≤ bindL k i ts
  | [], i => by simp [bindL]
  | t :: ts, i => by rw [bindL]; have := bindL_pos (k := k) (ts := ts) (i := i + 1); omega
theorem bindB_pos : ∀ {bs : List Br}, 0 ≤ bindB bs
  | [] => by simp [bindB]
  | .mk f ks :: bs => by rw [bindB]; have := bindB_pos (bs := bs); omega
theorem bindT_eq (t : T) : bindT t = max (bindL t.kind 0 t.kids) (bindB t.sys) := by obtain ⟨k, n, nm, r, ks, ss⟩ := t; rfl
theorem bindT_pos (t : T) : 0 ≤ bindT t := by rw [bindT_eq]; have := bindB_pos (bs := t.sys); omega
theorem bindL_ge {k : Int} : ∀ {ts : List T} {i j : Nat}, j < ts.length → (binds k ((i + j : Nat) : Int)).2 + bindT (ts.getD j t0) ≤ bindL k i ts
  | [], i, j, h => absurd h (by simp)
  | t :: ts, i, j, h => by
    rw [bindL]
    cases j with
    | zero => simp only [Nat.add_zero, List.getD_cons_zero]; omega
    | succ j =>
      have := bindL_ge (k := k) (ts := ts) (i := i + 1) (j := j) (by simpa using h)
      rw [List.getD_cons_succ, show i + (j + 1) = i + 1 + j by omega]
      omega
theorem bindS_ge : ∀ {ts : List T} {j : Nat}, j < ts.length → 1 + bindT (ts.getD j t0) ≤ bindS ts
  | [], j, h => absurd h (by simp)
  | t :: ts, j, h => by
    rw [bindS]
    cases j with
    | zero => simp only [List.getD_cons_zero]; omega
    | succ j =>
      have := bindS_ge (ts := ts) (j := j) (by simpa using h)
      rw [List.getD_cons_succ]
      omega
theorem bindB_ge : ∀ {bs : List Br} {s : Nat}, s < bs.length → bindS (bs.getD s br0).kids ≤ bindB bs
  | [], s, h => absurd h (by simp)
  | .mk f ks :: bs, s, h => by
    rw [bindB]
    cases s with
    | zero => simp only [List.getD_cons_zero, Br.kids]; omega
    | succ j =>
      have := bindB_ge (bs := bs) (s := j) (by simpa using h)
      rw [List.getD_cons_succ]
      omega
theorem bind_part {t : T} {p : Part} (hp : p ∈ parts t) : p.2.2 + bindT p.1 ≤ bindT t := by
  rw [bindT_eq t]
  rcases part_cases hp with ⟨i, hi, rfl⟩ | ⟨s, k, hs, hk, rfl⟩
  · have := bindL_ge (k := t.kind) (ts := t.kids) (i := 0) hi
    rw [Nat.zero_add] at this
    exact Int.le_trans this (Int.le_max_left _ _)
  · have h1 := bindS_ge hk
    have h2 := bindB_ge hs
    have h3 : more t.kind ≤ 1 := by unfold more; split <;> omega
    show more t.kind + bindT ((t.sys.getD s br0).kids.getD k t0) ≤ max (bindL t.kind 0 t.kids) (bindB t.sys)
    refine Int.le_trans ?_ (Int.le_max_right _ _)
    exact Int.le_trans (Int.add_le_add_right h3 _) (Int.le_trans h1 h2)
theorem bindT_size : ∀ t : T, bindT t + 1 ≤ size t := T.ind fun t ih => by
  have hs := size_pos' t
  have key : ∀ p, p ∈ parts t → bindT p.1 + 2 ≤ size t := fun p hp => by
    have := ih p hp
    have := size_part_lt hp
    omega
  have h1 : ∀ (ts : List T) (i : Nat), (∀ j, j < ts.length → bindT (ts.getD j t0) + 2 ≤ size t) → bindL t.kind i ts + 1 ≤ size t := by
    intro ts
    induction ts with
    | nil => intro i h; rw [bindL]; omega
    | cons a ts ih2 =>
      intro i h
      have h0 := h 0 (by simp)
      rw [List.getD_cons_zero] at h0
      have := ih2 (i + 1) (fun j hj => by have := h (j + 1) (by simpa using hj); rwa [List.getD_cons_succ] at this)
      have hb := binds_in t.kind (i : Int)
      unfold bindsIn at hb
      rw [bindL]
      omega
  have h2 : ∀ (ts : List T), (∀ j, j < ts.length → bindT (ts.getD j t0) + 2 ≤ size t) → bindS ts + 1 ≤ size t := by
    intro ts
    induction ts with
    | nil => intro h; rw [bindS]; omega
    | cons a ts ih2 =>
      intro h
      have h0 := h 0 (by simp)
      rw [List.getD_cons_zero] at h0
      have := ih2 (fun j hj => by have := h (j + 1) (by simpa using hj); rwa [List.getD_cons_succ] at this)
      rw [bindS]
      omega
  have h3 : ∀ (bs : List Br), (∀ s, s < bs.length → ∀ j, j < (bs.getD s br0).kids.length → bindT ((bs.getD s br0).kids.getD j t0) + 2 ≤ size t) → bindB bs + 1 ≤ size t := by
    intro bs
    induction bs with
    | nil => intro h; rw [bindB]; omega
    | cons b bs ih2 =>
      intro h
      obtain ⟨f, ks⟩ := b
      have h0 := h2 ks (h 0 (by simp))
      have := ih2 (fun s hs => by have := h (s + 1) (by simpa using hs); rwa [List.getD_cons_succ] at this)
      rw [bindB]
      omega
  have k1 := h1 t.kids 0 (fun j hj => key _ (List.mem_of_getElem? (parts_kid t j hj)))
  have k2 := h3 t.sys (fun s hs j hj => key _ (List.mem_of_getElem? (parts_sys t s j hs hj)))
  rw [bindT_eq]
  omega
/-- A term that may be, with its dimensions lifted by one, may be in one more, if there is room for its binders. -/
theorem lift_mayD : ∀ (t u : T) (c : Int × Int) (v d : Int), 0 ≤ c.2 → 0 ≤ d → trav (liftTr 0 1) t c = .ok u → mayT t v d → d + bindT t < 24 → mayT u v (d + 1) := T.ind fun t ih u c v d h0 hd hu hm hb => by
  obtain ⟨⟨m1, m2, m3⟩, m4, m5⟩ := mayT_iff.mp hm
  have hbp := bindT_pos t
  have hw : ∀ {l g : List Cl}, rowLift 1 l c.2 = .ok g → within l d = true → within g (d + 1) = true := fun {l g} hg hl => by
    rw [within_iff (by omega)]
    intro i hi
    cases hx : (fDims g).testBit i with
    | false => rfl
    | true =>
      obtain ⟨j, _, h2, h3⟩ := rowLift_from h0 hg hx
      have := (within_iff hd).mp hl j (by omega)
      rw [h2] at this
      cases this
  rcases trav_out hu with h | ⟨p, h1, ⟨e1, e2, e3, e4⟩, h3, h4⟩
  · exact absurd h lift_own_inl
  · obtain ⟨o1, o2, o3⟩ := lift_own_ok h1
    refine mayT_iff.mpr ⟨⟨by omega, fun hk => ?_, by rw [e4]; exact hw o1 m3⟩, fun b' hb' => ?_, fun q hq => ?_⟩
    · rw [e2, o3, liftN_zero]; exact m2 (e1 ▸ hk)
    · obtain ⟨b, hb2, h6⟩ := h4 b' hb'
      exact hw (lift_face_eq h6) (m4 b hb2)
    · obtain ⟨q', hq', e, c', h6, h7⟩ := h3 q hq
      have h8 := lift_kid_eq h6
      have h9 := parts_01 hq'
      have h10 := bind_part hq'
      subst h8
      have := ih q' hq' q.1 _ _ _ (by dsimp only; omega) (by omega) h7 (m5 q' hq') (by omega)
      rw [e] at this
      rwa [show d + 1 + q.2.2 = d + q.2.2 + 1 by omega]
/-! ### Why a lift of dimensions is not told -/
theorem least_room {l m : List Cl} (hl : l.length ≤ 64) (hm : m.length = l.length) (hr : m.all right24 = true) : (leastF m).1 = 0 := by
  have : (refLeast m).length ≤ m.length := by
    have := rlTo_len m m.length
    unfold rlTo at this
    rw [List.take_length] at this
    exact this
  unfold leastF
  rw [if_neg (by rw [hr]; simp), if_neg (by omega)]
theorem rowLift_err {l : List Cl} {f b e : Int} (hb : 0 ≤ b) (hf : 0 ≤ f) (hl : fRight l = true) (h : rowLift b l f = .bad e) : e = 10 := by
  unfold rowLift at h
  split at h
  · cases h
  · split at h
    · cases h
    · rename_i h1
      injection h with h
      subst h
      unfold formLift at h1 ⊢
      rw [if_neg (by rw [hl]; simp)] at h1 ⊢
      have hparts : l.all right24 = true ∧ l.length ≤ 64 := by
        unfold fRight at hl
        simp only [Bool.and_eq_true, decide_eq_true_eq] at hl
        exact ⟨hl.1.1.1, hl.2⟩
      split
      · rename_i h2
        rw [if_pos h2] at h1
        unfold foldC at h2 ⊢
        cases hx : l.find? (fun c => (clLift c f b).1 ≠ 0) with
        | none => rw [hx] at h2; simp at h2
        | some c =>
          simp only
          have hc := List.mem_of_find?_eq_some hx
          rw [hx] at h2
          simp only at h2
          have hr := List.all_eq_true.mp hparts.1 c hc
          have hm : ∀ s, (maskLift s f b).1 = 0 ∨ (maskLift s f b).1 = 10 := fun s => by
            unfold maskLift
            rw [if_neg (by omega)]
            split
            · exact .inl rfl
            · split
              · exact .inr rfl
              · exact .inl rfl
          unfold clLift at h2 ⊢
          rw [if_neg (by rw [hr]; simp)] at h2 ⊢
          have hp := hm c.pos
          have hn := hm c.neg
          split
          · omega
          · rename_i h3
            rw [if_neg h3] at h2
            split
            · omega
            · rename_i h4
              rw [if_neg h4] at h2
              exact absurd rfl h2
      · rename_i h2
        exfalso
        rw [if_neg h2] at h1
        refine h1 ?_
        unfold foldC at h2 ⊢
        cases hx : l.find? (fun c => (clLift c f b).1 ≠ 0) with
        | some c =>
          rw [hx] at h2
          have := List.find?_some hx
          simp at this h2
          exact absurd h2 this
        | none =>
          simp only
          refine least_room hparts.2 (by simp) ?_
          rw [List.all_eq_true]
          intro c hc
          obtain ⟨d, hd, rfl⟩ := List.mem_map.mp hc
          have := List.find?_eq_none.mp hx d hd
          exact clLift_right (by simpa using this)
theorem fine_row {t : T} (h : fineT t) : fRight t.r = true := by
  obtain ⟨_, _, _, _, h13, h14, h0⟩ := (fineT_iff.mp h).1
  by_cases h1 : t.kind = 13 ∨ t.kind = 21 ∨ t.kind = 26
  · exact h13 h1
  · by_cases h2 : t.kind = 14
    · have := h14 h2
      unfold faceRight at this
      rw [Bool.and_eq_true] at this
      exact this.1
    · rw [h0 (by omega)]; exact fRight_nil
theorem fine_face {t : T} (h : fineT t) {b : Br} (hb : b ∈ t.sys) : faceRight b.face = true := (fineB_iff.mp (fineT_iff.mp h).2.2.2.2 b hb).2.1
theorem fine_part {t : T} (h : fineT t) {p : Part} (hp : p ∈ parts t) : fineT p.1 := (fine_parts.mp h).2 p hp
theorem face_row {l : List Cl} (h : faceRight l = true) : fRight l = true := by
  unfold faceRight at h
  rw [Bool.and_eq_true] at h
  exact h.1
theorem dim_bad {b : Int} (hb : 0 ≤ b) : ∀ (t : T) (c : Int × Int) (v d e : Int), 0 ≤ c.2 → fineT t → mayT t v d → v + size t ≤ 900000000 → trav (liftTr 0 b) t c = .bad e → e = 10 := T.ind fun t ih c v d e h0 hf hm hz h => by
  obtain ⟨⟨m1, m2, m3⟩, m4, m5⟩ := mayT_iff.mp hm
  have hs := size_pos' t
  rcases trav_why h with h1 | ⟨br, hbr, h1⟩ | ⟨p, hp, h1 | ⟨c', h1, h2⟩⟩
  · rw [lift_own_eq] at h1
    rcases bind_bad_of h1 with h2 | ⟨g, _, h2⟩
    · exact rowLift_err hb h0 (fine_row hf) h2
    · split at h2
      · rename_i h3
        have := m2 h3.1
        omega
      · cases h2
  · rw [lift_face_def] at h1
    rcases bind_bad_of h1 with h2 | ⟨g, _, h2⟩
    · exact rowLift_err hb h0 (face_row (fine_face hf hbr)) h2
    · cases h2
  · cases h1
  · have h8 := lift_kid_eq h1
    have h9 := parts_01 hp
    have h10 := size_part_lt hp
    subst h8
    exact ih p hp _ _ _ e (by dsimp only; omega) (fine_part hf hp) (m5 p hp) (by omega) h2
theorem uses_far : ∀ (t : T) (v d m : Int), mayT t v d → v + size t ≤ 900000000 → 900000000 ≤ m → in64 m → uses t m = false := T.ind fun t ih v d m hm hz h0 hi => by
  obtain ⟨⟨m1, m2, m3⟩, m4, m5⟩ := mayT_iff.mp hm
  have hs := size_pos' t
  cases hu : uses t m with
  | false => rfl
  | true =>
    rcases (uses_iff (by omega)).mp hu with ⟨h1, h2⟩ | ⟨_, p, hp, h2⟩
    · have := m2 h1; omega
    · have h9 := parts_01 hp
      have h10 := size_part_lt hp
      by_cases h3 : in64 (m + p.2.1)
      · rw [wrap_id h3] at h2
        rw [ih p hp _ _ _ (m5 p hp) (by omega) (by omega) h3] at h2
        cases h2
      · have h4 : IntKind.i64.wrap (m + p.2.1) < 0 := by rw [IntKind.wrap_i64]; unfold in64 at h3 hi; omega
        rw [uses_neg h4] at h2
        cases h2
/-! ### What LiftFree says -/
theorem free_vars {t : T} {v d a : Int} (h : rightP t v d = 0) (hb : bulk t ≤ 400) (hv : v ≤ 1000) (ha : 0 ≤ a) (hi : in64 a) : (varsRes t a 1).1 = 0 ∧ uses (varsRes t a 1).2 a = false ∧ rightP (varsRes t a 1).2 (v + 1) d = 0 ∧ size (varsRes t a 1).2 = size t := by
  have hv0 := (right_zero.mp h).1
  obtain ⟨h1, h2, h3, h4, h5⟩ := (right_may hv0 (by omega)).mp h
  have hsz := size_le_bulk t
  have hfm : formedP t = 0 := formed_fine.mpr ⟨h3, h4⟩
  obtain ⟨u, hu⟩ := var_told (a := 1) (by omega) t v d (if 2000000000 < a then 2000000000 else a, 0) h5 (by omega)
  have e : varsRes t a 1 = (0, u) := guard_ok hfm (by have := most_in64 (b := 1) (by omega) (by omega); simp [ha, this]) hu
  rw [e]
  have hsu := lift_size hu
  have hfu := lift_formed (by omega) hfm hu
  obtain ⟨g1, g2⟩ := formed_fine.mp hfu
  have hmu := lift_mayV (by omega) hu h5
  refine ⟨rfl, ?_, (right_may (by omega) (by omega)).mpr ⟨h1, h2, g1, g2, hmu⟩, hsu⟩
  by_cases h6 : a < 900000000
  · rw [if_neg (by omega)] at hu
    cases hx : uses u a with
    | false => rfl
    | true => exact absurd ((uses_link u a ha (by omega)).mp hx) (lift_uses hu (.inl rfl))
  · exact uses_far u (v + 1) d a hmu (by omega) (by omega) hi
theorem free_dims {t : T} {v d a : Int} (h : rightP t v d = 0) (hb : bulk t ≤ 400) (hv : v ≤ 1000) (hd : d < 24) (ha : 0 ≤ a) : ((dimsRes t a 1).1 ≠ 0 → (dimsRes t a 1).1 = 10) ∧ ((dimsRes t a 1).1 = 0 → (a < 24 → (dimsT (dimsRes t a 1).2).testBit a.toNat = false) ∧ (rightP (dimsRes t a 1).2 v (d + 1) = 0 ∨ rightP (dimsRes t a 1).2 v (d + 1) = 100 ∧ 24 ≤ d + bindT t)) := by
  have hv0 := (right_zero.mp h).1
  obtain ⟨h1, h2, h3, h4, h5⟩ := (right_may hv0 (by omega)).mp h
  have hsz := size_le_bulk t
  have hfm : formedP t = 0 := formed_fine.mpr ⟨h3, h4⟩
  have hg : ([a, 1] : List Int).all (fun n => decide (0 ≤ n)) = true := by simp [ha]
  cases hu : dimsR t a 1 with
  | bad e =>
    have e2 : dimsRes t a 1 = (e, t0) := guard_bad hfm hg hu
    have h6 := dim_bad (b := 1) (by omega) t _ v d e (by dsimp only; split <;> omega) h4 h5 (by omega) hu
    rw [e2]
    exact ⟨fun _ => h6, fun h7 => by simp only at h7; omega⟩
  | ok u =>
    have e2 : dimsRes t a 1 = (0, u) := guard_ok hfm hg hu
    rw [e2]
    refine ⟨fun h7 => absurd rfl h7, fun _ => ⟨fun h7 => ?_, ?_⟩⟩
    · have := lift_gap t u _ (by dsimp only; split <;> omega) hu
      dsimp only at this
      rwa [if_neg (by omega)] at this
    · have hfu := lift_formed (by omega) hfm hu
      obtain ⟨g1, g2⟩ := formed_fine.mp hfu
      by_cases h8 : d + bindT t < 24
      · exact .inl ((right_may hv0 (by omega)).mpr ⟨by omega, by omega, g1, g2, lift_mayD t u _ v d (by dsimp only; split <;> omega) h1 hu h5 h8⟩)
      · show rightP u v (d + 1) = 0 ∨ rightP u v (d + 1) = 100 ∧ 24 ≤ d + bindT t
        unfold rightP
        rw [if_neg (by simp; omega), if_neg (by rw [g1]; simp)]
        split
        · exact .inl rfl
        · exact .inr ⟨rfl, by omega⟩
end Go.Hy
namespace Go.Hy
set_option linter.unusedVariables false
set_option linter.unusedSimpArgs false
set_option linter.unusedSectionVars false
theorem St.litI {B : Base} {Γ : List Fact} {Ms : List Res} {w : World} {b : Nat} {e : TypeId} {cs : List Value} (l : List Int) (hs : St B Γ (boxR b cs e :: Ms) w) {hBp : Prop} (hB : hBp) (hc : cs = intFlat l) (hn : l.length ≤ 1000) (hu : ∀ c, c ∈ l → in64 c) : St B (IL l (some ⟨b, 0, Option.none⟩, l.length) :: Γ) Ms w :=
  (hs.boxRow (sz := 1) (m := l.length) (by rw [hc, flat_len intCells_len l]) (by unfold maxLen; omega)).settleIL hB hc rfl (by unfold reach; omega) hu
end Go.Hy
namespace Go.Hy
set_option linter.unusedVariables false
set_option linter.unusedSimpArgs false
set_option linter.unusedSectionVars false
/-! ### The chapter's examples of lifts -/
def vE (n : Int) : T := .mk 1 n ⟨#[]⟩ [] [] []
def appE : T := .mk 6 0 ⟨#[]⟩ [] [vE 0, vE 1] []
def exL : T := .mk 5 0 ⟨#[]⟩ [] [appE] []
def exA : T := .mk 5 0 ⟨#[]⟩ [] [.mk 6 0 ⟨#[]⟩ [] [vE 0, vE 3] []] []
def loopE : T := .mk 21 0 ⟨#[]⟩ [⟨3, 0⟩] [] []
def exP : T := .mk 12 0 ⟨#[]⟩ [] [loopE] []
def exQ : T := .mk 12 0 ⟨#[]⟩ [] [.mk 21 0 ⟨#[]⟩ [⟨5, 0⟩] [] []] []
theorem ex_vars : varsRes exL 0 2 = (0, exA) := by decide +kernel
theorem ex_dims : dimsRes exP 0 1 = (0, exQ) := by decide +kernel
theorem ex_vars1 : (varsRes exL 0 2).1 = 0 := by rw [ex_vars]
theorem ex_vars2 : (varsRes exL 0 2).2 = exA := by rw [ex_vars]
theorem ex_dims1 : (dimsRes exP 0 1).1 = 0 := by rw [ex_dims]
theorem ex_dims2 : (dimsRes exP 0 1).2 = exQ := by rw [ex_dims]
theorem exL_size : size exL = 4 ∧ size exP = 2 := by decide +kernel
theorem vars_okT {t : T} {f b : Int} (hb : in64 b) (h : okT t) : okT (varsRes t f b).2 := by
  refine guard_okT' (fun ha u hu => ?_)
  simp only [List.all_cons, List.all_nil, Bool.and_true, Bool.and_eq_true, decide_eq_true_eq] at ha
  exact lift_okT ⟨ha.2.1, most_le hb ha.2.1 ha.2.2⟩ h hu
theorem dims_okT {t : T} {f b : Int} (h : okT t) : okT (dimsRes t f b).2 := guard_okT' (fun _ u hu => lift_okT (by omega) h hu)
theorem guard_size {t : T} {ns : List Int} {r : Res1 T} (h : ∀ u, r = .ok u → size u = size t) : size (guardRes t ns r).2 ≤ size t := by
  have h0 : size t0 ≤ size t := by have := size_pos' t; rw [show size t0 = 1 by decide +kernel]; exact this
  unfold guardRes
  split
  · exact h0
  · split
    · exact h0
    · cases r with
      | ok u => exact Nat.le_of_eq (h u rfl)
      | bad e => exact h0
theorem dims_size (t : T) (f b : Int) : size (dimsRes t f b).2 ≤ size t := guard_size fun u hu => lift_size hu
end Go.Hy
namespace Go.Hy
set_option linter.unusedVariables false
set_option linter.unusedSimpArgs false
set_option linter.unusedSectionVars false
open Go.Proofs
set_option linter.unusedVariables false
set_option linter.unusedSimpArgs false
set_option maxRecDepth 100000
theorem dimension_spec (i : Int) : Spec Try.prog 62 #[.int .i64 i] [] [] (fun _ : Unit => .bool (decide (0 ≤ i) && decide (i < 24))) (fun _ => []) (fun _ => []) := by
  refine spec_go (args := [.int .i64 i]) Try.func62 Try.ntmps62 rfl (by exact Nat.le_of_ble_eq_true rfl) fun B hB => ?_
  refine go_seq ?_
  refine go_region ⟨_, Try.func62⟩ rfl ?_
  refine q0 rfl (o_assign ?_)
  refine rg_nil ?_
  refine go_seq ?_
  refine go_region ⟨_, Try.func62⟩ rfl ?_
  refine q0 rfl (o_move ?_)
  refine q0 rfl (o_geq ?_)
  refine q0 rfl (o_move ?_)
  refine qI rfl rfl rfl wl_ (fun hg5 => o_move ?_) (fun hg5 => ?_)
  · refine qT rfl rfl rfl (o_lss ?_)
    refine q0 rfl (o_pickT ?_)
    refine q0 rfl (o_assign ?_)
    refine rg_nil ?_
    refine ret1 Try.func62 Try.results62 wn_ () (by first | (simp_all; done) | (simp_all; omega)) (fun w hs => hs.none)
  · refine qF rfl rfl rfl ?_
    refine q0 rfl (o_pickF ?_)
    refine q0 rfl (o_assign ?_)
    refine rg_nil ?_
    refine ret1 Try.func62 Try.results62 wn_ () (by first | (simp_all; done) | (simp_all; omega)) (fun w hs => hs.none)
theorem maskRight_spec (s : Nat) (hs : s < 4294967296) : Spec Try.prog 96 #[.int .u32 (s : Int)] [] [] (fun _ : Unit => .bool (decide (s < 16777216))) (fun _ => []) (fun _ => []) := by
  refine spec_go (args := [.int .u32 (s : Int)]) Try.func96 Try.ntmps96 rfl (by exact Nat.le_of_ble_eq_true rfl) fun B hB => ?_
  refine go_seq ?_
  refine go_region ⟨_, Try.func96⟩ rfl ?_
  refine q0 rfl (o_assign ?_)
  refine rg_nil ?_
  refine go_seq ?_
  refine go_region ⟨_, Try.func96⟩ rfl ?_
  refine q0 rfl (o_move ?_)
  refine q0 rfl (o_andNotU32 ?_ (b := 16777215))
  refine q0 rfl (o_eqI ?_ (b := 0))
  refine q0 rfl (o_assign ?_)
  refine rg_nil ?_
  refine ret1 Try.func96 Try.results96 wn_ () (by rw [andNot_zero hs]) (fun w hs => hs.none)
theorem withoutNone_spec (s : Nat) (hs : s < 4294967296) : Spec Try.prog 61 #[.int .u32 (s : Int), .int .i64 (-1)] [] [] (fun _ : Unit => .int .u32 ((s &&& 16777215 : Nat) : Int)) (fun _ => []) (fun _ => []) := by
  refine spec_go (args := [.int .u32 (s : Int), .int .i64 (-1)]) Try.func61 Try.ntmps61 rfl (by exact Nat.le_of_ble_eq_true rfl) fun B hB => ?_
  refine go_seq ?_
  refine go_region ⟨_, Try.func61⟩ rfl ?_
  refine q0 rfl (o_assign ?_)
  refine rg_nil ?_
  refine go_seq ?_
  refine go_region ⟨_, Try.func61⟩ rfl ?_
  refine q0 rfl (o_move ?_)
  refine q0 rfl (o_andU32 ?_ (b := 16777215))
  refine q0 rfl (o_assign ?_)
  refine rg_nil ?_
  refine go_seq ?_
  refine go_seq ?_
  refine go_region ⟨_, Try.func61⟩ rfl ?_
  refine q0 rfl (o_move ?_)
  refine q0 rfl (o_call Try.call62 (dimension_spec (-1)) (fun x8 => ?_))
  refine q0 rfl (o_not ?_)
  refine rg_nil ?_
  refine go_condI (fun h9 => ?_) (fun h9 => ?_)
  · refine go_seq ?_
    refine go_region ⟨_, Try.func61⟩ rfl ?_
    refine q0 rfl (o_move ?_)
    refine q0 rfl (o_assign ?_)
    refine rg_nil ?_
    refine ret1 Try.func61 Try.results61 wn_ () rfl (fun w hs => hs.none)
  · exact absurd h9 (by decide)
theorem fDims_spec : FDims := by
  intro l a
  refine spec_go (args := [sl a l.length]) Try.func41 Try.ntmps41 rfl (by exact Nat.le_of_ble_eq_true rfl) fun B hB => ?_
  refine go_openCL (l := l) (a := a) (fun hl1 hA1 hU1 => ?_)
  refine go_seq ?_
  refine go_region ⟨_, Try.func41⟩ rfl ?_
  refine q0 rfl (o_assign ?_)
  refine rg_nil ?_
  refine go_seq ?_
  refine go_region ⟨_, Try.func41⟩ rfl ?_
  refine q0 rfl (o_assign ?_)
  refine rg_nil ?_
  refine go_seq ?_
  refine go_seq ?_
  refine go_region ⟨_, Try.func41⟩ rfl ?_
  refine q0 rfl (o_move ?_)
  refine q0 rfl (o_len ?_)
  refine q0 rfl (o_move ?_)
  refine rg_nil ?_
  refine go_block ?_
  refine go_loopI (X := Nat) (fun i => i ≤ l.length) (fun i => [(3, .int .u32 (orUpto l i : Int)), (6, sl a l.length), (7, .int .i64 (l.length : Int)), (8, .int .i64 (i : Int))]) (fun i => [CL l a]) (fun i => []) (fun i => l.length - i) (0) (Nat.zero_le _) (by exact ⟨rfl, rfl, rfl, rfl, trivial⟩) ?_ ?_
  · exact fun w hs => hs.less (by simp)
  · intro i base0 hi next0
    refine go_seq ?_
    refine go_region ⟨_, Try.func41⟩ rfl ?_
    refine q0 rfl (o_lss ?_)
    refine rg_nil ?_
    refine go_seq ?_
    refine go_condI (fun h9 => ?_) (fun h9 => ?_)
    · have hlt : i < l.length := by have := of_decide_eq_true h9; omega
      obtain ⟨bk, o, hav⟩ := hA1 (by omega)
      have hu := hU1 _ (getD_mem (d := cl0) hlt)
      have hup := orUpto_lt hU1 i
      have hor : (l.getD i cl0).pos ||| (l.getD i cl0).neg < 4294967296 := Nat.or_lt_two_pow (n := 32) hu.1 hu.2
      refine go_skip ?_
      refine go_seq ?_
      refine go_block ?_
      refine go_seq ?_
      refine go_region ⟨_, Try.func41⟩ rfl ?_
      refine q0 rfl (o_ixN ?_)
      refine q0 rfl (o_ldC ?_)
      refine q0 rfl (o_new fun b5 => ?_)
      refine q0 rfl (o_st ?_)
      refine rg_nil ?_
      refine go_region ⟨_, Try.func41⟩ rfl ?_
      refine q0 rfl (o_move ?_)
      refine q0 rfl (o_fa ?_)
      refine q0 rfl (o_ld ?_)
      refine q0 rfl (o_fa ?_)
      refine q0 rfl (o_ld ?_)
      refine q0 rfl (o_orU32 ?_ (a := (l.getD i cl0).pos) (b := (l.getD i cl0).neg) (ha := hu.1) (hb := hu.2))
      refine q0 rfl (o_orU32 ?_ (a := orUpto l i) (b := (l.getD i cl0).pos ||| (l.getD i cl0).neg))
      refine q0 rfl (o_assign ?_)
      refine rg_nil ?_
      refine go_inBlock ?_
      refine go_region ⟨_, Try.func41⟩ rfl ?_
      refine q0 rfl (o_add ?_)
      refine q0 rfl (o_move ?_)
      refine rg_nil ?_
      refine go_state (fun w hs => ?_) (next0 (i + 1) _ hlt (by omega) ⟨by rw [orUpto_succ hlt]; rfl, rfl, rfl, rfl, trivial⟩)
      exact (hs.less (by simp)).bare
    · have hge : i = l.length := by have := of_decide_eq_false h9; omega
      refine go_exit rfl ?_
      refine go_seq ?_
      refine go_region ⟨_, Try.func41⟩ rfl ?_
      refine q0 rfl (o_move ?_)
      refine q0 rfl (o_call Try.call61 (withoutNone_spec (orUpto l i) (orUpto_lt hU1 i)) (fun x21 => ?_))
      refine q0 rfl (o_assign ?_)
      refine rg_nil ?_
      refine ret1 Try.func41 Try.results41 wn_ () (by rw [fDims_eq, ← hge]) (fun w hs => hs.none)
theorem clauseRight_spec (c : Cl) (hc : u32 c) : Spec Try.prog 88 #[.agg (clCells c).toArray] [] [] (fun _ : Unit => .bool (right24 c)) (fun _ => []) (fun _ => []) := by
  refine spec_go (args := [.agg (clCells c).toArray]) Try.func88 Try.ntmps88 rfl (by exact Nat.le_of_ble_eq_true rfl) fun B hB => ?_
  refine go_seq ?_
  refine go_region ⟨_, Try.func88⟩ rfl ?_
  refine q0 rfl (o_box fun b1 => ?_)
  refine q0 rfl (o_assign ?_)
  refine rg_nil ?_
  refine go_seq ?_
  refine go_region ⟨_, Try.func88⟩ rfl ?_
  refine q0 rfl (o_fa ?_)
  refine q0 rfl (o_ld ?_)
  refine q0 rfl (o_call Try.call96 (maskRight_spec c.pos hc.1) (fun x5 => ?_))
  refine q0 rfl (o_move ?_)
  refine qI rfl rfl rfl wl_ (fun hg6 => o_fa ?_) (fun hg6 => ?_)
  · refine qT rfl rfl rfl (o_ld ?_)
    refine qT rfl rfl rfl (o_call Try.call96 (maskRight_spec c.neg hc.2) (fun x9 => ?_))
    refine q0 rfl (o_pickT ?_)
    refine q0 rfl (o_assign ?_)
    refine rg_nil ?_
    refine ret1 Try.func88 Try.results88 wn_ () (by first | (simp_all [right24]; done) | (simp_all [right24]; intros; omega)) (fun w hs => hs.none)
  · refine qF rfl rfl rfl ?_
    refine qF rfl rfl rfl ?_
    refine q0 rfl (o_pickF ?_)
    refine q0 rfl (o_assign ?_)
    refine rg_nil ?_
    refine ret1 Try.func88 Try.results88 wn_ () (by first | (simp_all [right24]; done) | (simp_all [right24]; intros; omega)) (fun w hs => hs.none)
theorem clash_spec (c : Cl) (hc : u32 c) : Spec Try.prog 82 #[.agg (clCells c).toArray] [] [] (fun _ : Unit => .bool (clash c)) (fun _ => []) (fun _ => []) := by
  refine spec_go (args := [.agg (clCells c).toArray]) Try.func82 Try.ntmps82 rfl (by exact Nat.le_of_ble_eq_true rfl) fun B hB => ?_
  refine go_seq ?_
  refine go_region ⟨_, Try.func82⟩ rfl ?_
  refine q0 rfl (o_box fun b1 => ?_)
  refine q0 rfl (o_assign ?_)
  refine rg_nil ?_
  refine go_seq ?_
  refine go_region ⟨_, Try.func82⟩ rfl ?_
  refine q0 rfl (o_fa ?_)
  refine q0 rfl (o_ld ?_)
  refine q0 rfl (o_fa ?_)
  refine q0 rfl (o_ld ?_)
  refine q0 rfl (o_andU32 ?_ (a := c.pos) (b := c.neg) (ha := hc.1) (hb := hc.2))
  refine q0 rfl (o_neI ?_ (b := 0))
  refine q0 rfl (o_assign ?_)
  refine rg_nil ?_
  refine ret1 Try.func82 Try.results82 wn_ () (by simp only [clash]; congr 1; apply decide_eq_decide.mpr; omega) (fun w hs => hs.none)
theorem meet_spec (c d : Cl) (hc : u32 c) (hd : u32 d) : Spec Try.prog 97 #[.agg (clCells c).toArray, .agg (clCells d).toArray] [] [] (fun _ : Unit => .agg (clCells (meetC c d)).toArray) (fun _ => []) (fun _ => []) := by
  refine spec_go (args := [.agg (clCells c).toArray, .agg (clCells d).toArray]) Try.func97 Try.ntmps97 rfl (by exact Nat.le_of_ble_eq_true rfl) fun B hB => ?_
  refine go_seq ?_
  refine go_region ⟨_, Try.func97⟩ rfl ?_
  refine q0 rfl (o_box fun b2 => ?_)
  refine q0 rfl (o_box fun b3 => ?_)
  refine q0 rfl (o_new fun b4 => ?_)
  refine rg_nil ?_
  refine go_seq ?_
  refine go_region ⟨_, Try.func97⟩ rfl ?_
  refine q0 rfl (o_fa ?_)
  refine q0 rfl (o_ld ?_)
  refine q0 rfl (o_fa ?_)
  refine q0 rfl (o_ld ?_)
  refine q0 rfl (o_orU32 ?_ (a := c.pos) (b := d.pos) (ha := hc.1) (hb := hd.1))
  refine q0 rfl (o_fa ?_)
  refine q0 rfl (o_ld ?_)
  refine q0 rfl (o_fa ?_)
  refine q0 rfl (o_ld ?_)
  refine q0 rfl (o_orU32 ?_ (a := c.neg) (b := d.neg) (ha := hc.2) (hb := hd.2))
  refine q0 rfl (o_build (cs := clCells (meetC c d)) ?_)
  refine q0 rfl (o_st ?_)
  refine rg_nil ?_
  refine retC Try.func97 Try.results97 () rfl mm_ rfl rfl rfl rfl (fun w hs => hs.none)
theorem below_spec (c d : Cl) (hc : u32 c) (hd : u32 d) : Spec Try.prog 91 #[.agg (clCells c).toArray, .agg (clCells d).toArray] [] [] (fun _ : Unit => .bool (below c d)) (fun _ => []) (fun _ => []) := by
  refine spec_go (args := [.agg (clCells c).toArray, .agg (clCells d).toArray]) Try.func91 Try.ntmps91 rfl (by exact Nat.le_of_ble_eq_true rfl) fun B hB => ?_
  refine go_seq ?_
  refine go_region ⟨_, Try.func91⟩ rfl ?_
  refine q0 rfl (o_box fun b2 => ?_)
  refine q0 rfl (o_box fun b3 => ?_)
  refine q0 rfl (o_assign ?_)
  refine rg_nil ?_
  refine go_seq ?_
  refine go_draw (pn := 1000000) (tn := false) (A := [0, 0, 3, 0, 15, 31]) (l := [0, 1, 3, 2, 4, 5]) (fin := []) Tab.mixed ⟨_, Try.func91⟩ (by rfl) ?_
  refine n0 rfl (v_lds ?_)
  refine n0 rfl (v_lds ?_)
  refine n0 rfl (v_lds ?_)
  refine n0 rfl (v_call Try.call97 (meet_spec c d hc hd) (fun x7 => ?_))
  refine n0 rfl (v_eqC ?_ (c := meetC c d) (c' := c))
  refine n0 rfl (v_assign ?_)
  refine NV.done ?_
  refine rg_nil ?_
  refine ret1 Try.func91 Try.results91 wn_ () (by rw [below_meet]) (fun w hs => hs.none)
end Go.Hy
