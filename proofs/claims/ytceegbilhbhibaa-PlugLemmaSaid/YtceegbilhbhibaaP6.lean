/- Contracts of this program's functions and the laws that they need: a separation logic over the machine's rules, one theorem each (partly printed by a program of this repository). -/
import Derived.Test.YtceegbilhbhibaaP3
import Derived.Test.YtceegbilhbhibaaP4
import Derived.Test.YtceegbilhbhibaaP5
namespace Go.Hy
set_option linter.unusedVariables false
set_option linter.unusedSimpArgs false
set_option linter.unusedSectionVars false
set_option linter.unusedVariables false
set_option linter.unusedSimpArgs false
/-! ### Lifting: masks, clauses, formulas -/
def maskLift (s : Nat) (f b : Int) : Int × Nat :=
  if f < 0 ∨ b < 0 then (2, 0) else
  if andNot32 (s &&& 16777215) (2 ^ (min f.toNat 24) - 1) = 0 then (0, (s &&& 16777215) &&& (2 ^ (min f.toNat 24) - 1)) else
  if 24 ≤ b ∨ 16777215 < andNot32 (s &&& 16777215) (2 ^ (min f.toNat 24) - 1) * 2 ^ b.toNat then (10, 0) else
  (0, ((s &&& 16777215) &&& (2 ^ (min f.toNat 24) - 1)) ||| (andNot32 (s &&& 16777215) (2 ^ (min f.toNat 24) - 1) * 2 ^ b.toNat))
theorem andNot32_bit (a b i : Nat) : (andNot32 a b).testBit i = (decide (i < 32) && a.testBit i && !b.testBit i) := by
  unfold andNot32
  rw [BitVec.testBit_toNat]
  by_cases h : i < 32
  · rw [BitVec.getLsbD_and, BitVec.getLsbD_not, BitVec.getLsbD_ofNat, BitVec.getLsbD_ofNat]
    simp [h]
  · have : (BitVec.ofNat 32 a &&& ~~~BitVec.ofNat 32 b).getLsbD i = false := BitVec.getLsbD_of_ge _ _ (by omega)
    rw [this]; simp [h]
theorem and24_bit (s i : Nat) : (s &&& 16777215).testBit i = (decide (i < 24) && s.testBit i) := by
  rw [and24, Nat.testBit_mod_two_pow]
theorem mask_bit (m i : Nat) : (2 ^ m - 1).testBit i = decide (i < m) := Nat.testBit_two_pow_sub_one m i
theorem andNot_lt {q m : Nat} (h : q < 16777216) : andNot32 q m < 16777216 := by
  refine Nat.lt_pow_two_of_testBit (n := 24) _ (fun i hi => ?_)
  rw [andNot32_bit, Nat.testBit_lt_two_pow (x := q) (Nat.lt_of_lt_of_le h (Nat.pow_le_pow_right (n := 2) (by decide) hi))]
  simp
theorem maskLift_lt (s : Nat) (f b : Int) : (maskLift s f b).2 < 16777216 := by
  unfold maskLift
  split
  · decide
  · split
    · exact Nat.lt_of_le_of_lt Nat.and_le_left (and24_lt s)
    · split
      · decide
      · refine Nat.or_lt_two_pow (n := 24) ?_ ?_
        · exact Nat.lt_of_le_of_lt Nat.and_le_left (and24_lt s)
        · rename_i h; simp only [not_or] at h; have := h.2; omega
def clLift (c : Cl) (f b : Int) : Int × Cl :=
  if right24 c = false then (2, cl0) else
  if (maskLift c.pos f b).1 ≠ 0 then ((maskLift c.pos f b).1, cl0) else
  if (maskLift c.neg f b).1 ≠ 0 then ((maskLift c.neg f b).1, cl0) else
  (0, ⟨(maskLift c.pos f b).2, (maskLift c.neg f b).2⟩)
theorem clLift_u32 (c : Cl) (f b : Int) : u32 (clLift c f b).2 := by
  have h1 := maskLift_lt c.pos f b
  have h2 := maskLift_lt c.neg f b
  unfold clLift
  split
  · exact ⟨(by decide : (0 : Nat) < 4294967296), (by decide : (0 : Nat) < 4294967296)⟩
  · split
    · exact ⟨(by decide : (0 : Nat) < 4294967296), (by decide : (0 : Nat) < 4294967296)⟩
    · split
      · exact ⟨(by decide : (0 : Nat) < 4294967296), (by decide : (0 : Nat) < 4294967296)⟩
      · exact ⟨by show (maskLift c.pos f b).2 < _; omega, by show (maskLift c.neg f b).2 < _; omega⟩
/-! Formulas, clause by clause. -/
def foldC (g : Cl → Int × Cl) (l : List Cl) : Int × List Cl := match l.find? (fun c => (g c).1 ≠ 0) with
  | some c => ((g c).1, [])
  | none => (0, l.map fun c => (g c).2)
theorem foldC_bad {g : Cl → Int × Cl} {l : List Cl} {i : Nat} (hi : i < l.length) (h0 : ∀ j, j < i → (g (l.getD j cl0)).1 = 0) (h : (g (l.getD i cl0)).1 ≠ 0) : foldC g l = ((g (l.getD i cl0)).1, []) := by
  have : l.find? (fun c => (g c).1 ≠ 0) = some (l.getD i cl0) := by
    rw [List.find?_eq_some_iff_getElem]
    rw [getD_get (d := cl0) hi] at h ⊢
    refine ⟨by simpa using h, i, hi, rfl, fun j hj => ?_⟩
    have := h0 j hj
    rw [getD_get (d := cl0) (by omega)] at this
    simp [this]
  rw [foldC, this]
theorem foldC_ok {g : Cl → Int × Cl} {l : List Cl} (h0 : ∀ j, j < l.length → (g (l.getD j cl0)).1 = 0) : foldC g l = (0, l.map fun c => (g c).2) := by
  have : l.find? (fun c => (g c).1 ≠ 0) = none := by
    rw [List.find?_eq_none]
    intro x hx
    obtain ⟨j, hj, e⟩ := List.mem_iff_getElem.mp hx
    have := h0 j hj
    rw [getD_get (d := cl0) hj, e] at this
    simp [this]
  rw [foldC, this]
theorem foldC_iff {g : Cl → Int × Cl} {l : List Cl} : (foldC g l).1 = 0 ↔ ∀ c, c ∈ l → (g c).1 = 0 := by
  unfold foldC
  cases h : l.find? (fun c => (g c).1 ≠ 0) with
  | none =>
    rw [List.find?_eq_none] at h
    simp only [true_iff]
    intro c hc
    simpa using h c hc
  | some c =>
    have h1 := List.find?_some h
    have h2 := List.mem_of_find?_eq_some h
    simp only
    refine ⟨fun h3 => ?_, fun h3 => h3 c h2⟩
    simp at h1; exact absurd h3 h1
theorem foldC_map {g : Cl → Int × Cl} {l : List Cl} (h : (foldC g l).1 = 0) : foldC g l = (0, l.map fun c => (g c).2) :=
  foldC_ok fun j hj => foldC_iff.mp h _ (getD_mem hj)
theorem leastF_fRight {l : List Cl} : fRight l = true ↔ leastF l = (0, l) := by
  rw [← leastF_right, Bool.and_eq_true, decide_eq_true_eq, decide_eq_true_eq]
  constructor
  · rintro ⟨h1, h2⟩; exact Prod.ext h1 h2
  · intro h; rw [h]; exact ⟨rfl, rfl⟩
def formLift (l : List Cl) (f b : Int) : Int × List Cl :=
  if fRight l = false then (2, []) else
  if (foldC (fun c => clLift c f b) l).1 ≠ 0 then ((foldC (fun c => clLift c f b) l).1, []) else leastF (foldC (fun c => clLift c f b) l).2
def rowLift (by_ : Int) (l : List Cl) (f : Int) : Res1 (List Cl) :=
  if by_ = 0 ∨ 24 ≤ f then .ok l else if (formLift l f by_).1 = 0 then .ok (formLift l f by_).2 else .bad (formLift l f by_).1
/-! ### Terms -/
def liftTr (vb db : Int) : Tr (Int × Int) where
  own c k n _ r := (rowLift db r c.2).bind fun r' => if k = 1 ∧ c.1 ≤ n then (if 1000000000 - vb < n then .bad 100 else .ok (.inr (n + vb, r'))) else .ok (.inr (n, r'))
  face c f := (rowLift db f c.2).bind fun f' => .ok (some f')
  kid c b := .ok (c.1 + b.1, c.2 + b.2)
section
variable {C : Type} {A : Tr C} {t : T} {c : C} {e : Int}
theorem trav_own_bad (h : A.own c t.kind t.n t.name t.r = .bad e) : trav A t c = .bad e := by rw [trav_eq, h]; rfl
theorem trav_kid_bad {p : Int × List Cl} {i : Nat} {l : List T} (h : A.own c t.kind t.n t.name t.r = .ok (.inr p)) (hi : i < t.kids.length) (hl : travL A t.kind 0 (t.kids.take i) c = .ok l) {c' : C} (hc : A.kid c (binds t.kind i) = .ok c') (hb : trav A (t.kids.getD i t0) c' = .bad e) : trav A t c = .bad e := by
  have h1 : travL A t.kind 0 (t.kids.take (i + 1)) c = .bad e := by
    rw [take_succ_getD (d := t0) hi, travL_snoc, hl]
    simp only [Res1.bind, List.length_take, Nat.zero_add, Nat.min_eq_left (Nat.le_of_lt hi)]
    rw [hc]; simp only; rw [hb]
  have h2 := travL_bad (m := t.kids.drop (i + 1)) h1
  rw [List.take_append_drop] at h2
  rw [trav_eq, h]; simp only [Res1.bind]; rw [h2]
theorem trav_kid_ok {k : Int} {ts : List T} {i : Nat} {l : List T} {u : T} (hi : i < ts.length) (hl : travL A k 0 (ts.take i) c = .ok l) {c' : C} (hc : A.kid c (binds k i) = .ok c') (hb : trav A (ts.getD i t0) c' = .ok u) : travL A k 0 (ts.take (i + 1)) c = .ok (l ++ [u]) := by
  rw [take_succ_getD (d := t0) hi, travL_snoc, hl]
  simp only [Res1.bind, List.length_take, Nat.zero_add, Nat.min_eq_left (Nat.le_of_lt hi)]
  rw [hc]; simp only; rw [hb]
theorem travS_at_bad {k : Int} {ts : List T} {i : Nat} {l : List T} (hi : i < ts.length) (hl : travS A k (ts.take i) c = .ok l) {c' : C} (hc : A.kid c (0, more k) = .ok c') (hb : trav A (ts.getD i t0) c' = .bad e) : travS A k ts c = .bad e := by
  have h1 : travS A k (ts.take (i + 1)) c = .bad e := by
    rw [take_succ_getD (d := t0) hi, travS_snoc, hl]
    simp only [Res1.bind]
    rw [hc]; simp only; rw [hb]
  have h2 := travS_bad (m := ts.drop (i + 1)) h1
  rwa [List.take_append_drop] at h2
theorem travS_at_ok {k : Int} {ts : List T} {i : Nat} {l : List T} {u : T} (hi : i < ts.length) (hl : travS A k (ts.take i) c = .ok l) {c' : C} (hc : A.kid c (0, more k) = .ok c') (hb : trav A (ts.getD i t0) c' = .ok u) : travS A k (ts.take (i + 1)) c = .ok (l ++ [u]) := by
  rw [take_succ_getD (d := t0) hi, travS_snoc, hl]
  simp only [Res1.bind]
  rw [hc]; simp only; rw [hb]
theorem trav_sys_bad {p : Int × List Cl} {s : Nat} {l : List T} {bs : List Br} (h : A.own c t.kind t.n t.name t.r = .ok (.inr p)) (hl : travL A t.kind 0 t.kids c = .ok l) (hs : s < t.sys.length) (hb : travB A t.kind (t.sys.take s) c = .ok bs) (hf : A.face c (t.sys.getD s br0).face = .bad e ∨ ∃ f', A.face c (t.sys.getD s br0).face = .ok (some f') ∧ travS A t.kind (t.sys.getD s br0).kids c = .bad e) : trav A t c = .bad e := by
  have h1 : travB A t.kind (t.sys.take (s + 1)) c = .bad e := by
    rw [take_succ_getD (d := br0) hs, travB_snoc, hb]
    simp only [Res1.bind]
    rcases hf with hf | ⟨f', hf, h2⟩
    · rw [hf]
    · rw [hf]; simp only; rw [h2]
  have h2 := travB_bad (m := t.sys.drop (s + 1)) h1
  rw [List.take_append_drop] at h2
  rw [trav_eq, h]; simp only [Res1.bind]; rw [hl]; simp only; rw [h2]
theorem travB_at_ok {k : Int} {ss : List Br} {s : Nat} {bs : List Br} {f' : List Cl} {ks : List T} (hs : s < ss.length) (hb : travB A k (ss.take s) c = .ok bs) (hf : A.face c (ss.getD s br0).face = .ok (some f')) (hk : travS A k (ss.getD s br0).kids c = .ok ks) : travB A k (ss.take (s + 1)) c = .ok (bs ++ [.mk f' ks]) := by
  rw [take_succ_getD (d := br0) hs, travB_snoc, hb]
  simp only [Res1.bind]
  rw [hf]; simp only; rw [hk]
theorem trav_ok_of {p : Int × List Cl} {l : List T} {bs : List Br} (h : A.own c t.kind t.n t.name t.r = .ok (.inr p)) (hl : travL A t.kind 0 t.kids c = .ok l) (hb : travB A t.kind t.sys c = .ok bs) : trav A t c = .ok (.mk t.kind p.1 t.name p.2 l bs) := by
  rw [trav_eq, h]; simp only [Res1.bind]; rw [hl]; simp only; rw [hb]
end
theorem foldC_u32 {g : Cl → Int × Cl} {l : List Cl} (h : ∀ c, u32 (g c).2) : ∀ c, c ∈ (foldC g l).2 → u32 c := by
  intro c hc
  unfold foldC at hc
  split at hc
  · cases hc
  · obtain ⟨d, _, rfl⟩ := List.mem_map.mp hc; exact h d
theorem foldC_len {g : Cl → Int × Cl} {l : List Cl} : (foldC g l).2.length ≤ l.length := by
  unfold foldC
  split <;> simp
theorem more_01 (k : Int) : 0 ≤ more k ∧ more k ≤ 1 := by unfold more; split <;> omega
theorem size_kid_lt {t : T} {i : Nat} (h : i < t.kids.length) : size (t.kids.getD i t0) < size t := by
  obtain ⟨p, hp, e⟩ := kid_mem_parts (getD_mem (d := t0) h); exact e ▸ size_part_lt hp
theorem size_sys_lt {t : T} {s k : Nat} (h : s < t.sys.length) (h2 : k < (t.sys.getD s br0).kids.length) : size ((t.sys.getD s br0).kids.getD k t0) < size t := by
  obtain ⟨p, hp, e⟩ := sys_mem_parts (getD_mem (d := br0) h) (getD_mem (d := t0) h2); exact e ▸ size_part_lt hp
/-- What a lifted node becomes. -/
def liftN (vb : Int) (v : Int) (k n : Int) : Int := if k = 1 ∧ v ≤ n then n + vb else n
theorem lift_own {vb db v d : Int} {t : T} {g : List Cl} (hg : rowLift db t.r d = .ok g) (h : ¬ (t.kind = 1 ∧ v ≤ t.n ∧ 1000000000 - vb < t.n)) : (liftTr vb db).own (v, d) t.kind t.n t.name t.r = .ok (.inr (liftN vb v t.kind t.n, g)) := by
  simp only [liftTr, hg, Res1.bind, liftN]
  split
  · rename_i h1
    rw [if_neg (fun h2 => h ⟨h1.1, h1.2, h2⟩)]
  · rfl
theorem lift_own_row {vb db v d : Int} {t : T} {e : Int} (hg : rowLift db t.r d = .bad e) : (liftTr vb db).own (v, d) t.kind t.n t.name t.r = .bad e := by
  simp only [liftTr, hg, Res1.bind]
theorem lift_own_far {vb db v d : Int} {t : T} {g : List Cl} (hg : rowLift db t.r d = .ok g) (h : t.kind = 1 ∧ v ≤ t.n ∧ 1000000000 - vb < t.n) : (liftTr vb db).own (v, d) t.kind t.n t.name t.r = .bad 100 := by
  simp only [liftTr, hg, Res1.bind]
  rw [if_pos ⟨h.1, h.2.1⟩, if_pos h.2.2]
theorem lift_face_ok {vb db v d : Int} {f g : List Cl} (hg : rowLift db f d = .ok g) : (liftTr vb db).face (v, d) f = .ok (some g) := by simp only [liftTr, hg, Res1.bind]
theorem lift_face_bad {vb db v d : Int} {f : List Cl} {e : Int} (hg : rowLift db f d = .bad e) : (liftTr vb db).face (v, d) f = .bad e := by simp only [liftTr, hg, Res1.bind]
theorem lift_kid {vb db v d : Int} {b : Int × Int} : (liftTr vb db).kid (v, d) b = .ok (v + b.1, d + b.2) := rfl
theorem travB_all {vb db : Int} {k : Int} {c : Int × Int} : ∀ {l l' : List Br}, travB (liftTr vb db) k l c = .ok l' → l'.length = l.length
  | [], l', h => by rw [travB_nil] at h; injection h with h; subst h; rfl
  | a :: l, l', h => by
    rw [travB_cons] at h
    obtain ⟨o, ho, h⟩ := Res1.bind_ok h
    obtain ⟨g, _, hg⟩ := Res1.bind_ok (x := rowLift db a.face c.2) ho
    injection hg with hg
    subst hg
    obtain ⟨ks', _, h⟩ := Res1.bind_ok h
    obtain ⟨bs', h3, h⟩ := Res1.bind_ok h
    injection h with h
    subst h
    simp [travB_all h3]
/-! ### What is guarded -/
theorem h0_er : h0.er = t0 := by simp [h0, HT.er, HT.erL, HT.erB, t0]
theorem St.h0R {B : Base} {Γ : List Fact} {Ms : List Res} {w : World} (y : Tys) (hs : St B Γ Ms w) : St B Γ (bigR (treeR y h0) :: Ms) w := by
  have h1 := ((((hs.bigNil).bigNil).rowS0 2 y.b).rowS0 6 y.t).rowS0 2 y.c
  exact St.joinT (y := y) (k := 0) (n := 0) (nm := ByteArray.mk #[]) (r := []) (v := nul) (u := nul) (x := nul) (ks := []) (ss := []) rfl rfl rfl rfl rfl rfl (by simpa [kidsR, brsR] using h1)
def guardRes (t : T) (ns : List Int) (r : Res1 T) : Int × T := if formedP t ≠ 0 then (formedP t, t0) else if ns.all (fun n => decide (0 ≤ n)) = false then (2, t0) else match r with
  | .ok u => (0, u)
  | .bad e => (e, t0)
theorem guard_form {t : T} {ns : List Int} {r : Res1 T} (h : formedP t ≠ 0) : guardRes t ns r = (formedP t, t0) := by unfold guardRes; rw [if_pos h]
theorem guard_neg {t : T} {ns : List Int} {r : Res1 T} (h : formedP t = 0) (h2 : ns.all (fun n => decide (0 ≤ n)) = false) : guardRes t ns r = (2, t0) := by unfold guardRes; rw [if_neg (by simp [h]), if_pos h2]
theorem guard_ok {t u : T} {ns : List Int} {r : Res1 T} (h : formedP t = 0) (h2 : ns.all (fun n => decide (0 ≤ n)) = true) (hr : r = .ok u) : guardRes t ns r = (0, u) := by unfold guardRes; rw [if_neg (by simp [h]), if_neg (by simp [h2]), hr]
theorem guard_bad {t : T} {e : Int} {ns : List Int} {r : Res1 T} (h : formedP t = 0) (h2 : ns.all (fun n => decide (0 ≤ n)) = true) (hr : r = .bad e) : guardRes t ns r = (e, t0) := by unfold guardRes; rw [if_neg (by simp [h]), if_neg (by simp [h2]), hr]
/-! ### A tree of the caller's own, known for good -/
theorem Spec.settleT {P : Program} {k : FuncId} {args : Array Value} {pre : List Fact} (y : Tys) {u : T} (g : Value → Value) (h : Spec P k args pre [] (fun x : {h : HT // h.er = u} => g (.agg (tc u x.1.vr x.1.vk x.1.vs).toArray)) (fun _ => []) (fun x => [bigR (treeR y x.1)])) (hok : ∀ ok w, St ⟨ok, domAll [], w⟩ pre [] w → okT u) :
    Spec P k args pre [] (fun x : SH × SH × SH => g (.agg (tc u x.1 x.2.1 x.2.2).toArray)) (fun x => [RT u x.1 x.2.1 x.2.2]) (fun _ => []) := fun ok w hk hs => (h ok w hk hs).mono fun e w' hh => by
  obtain ⟨x, he, hs'⟩ := hh
  have h1 : St ⟨ok, domAll [], w⟩ [] (treeR y x.1 ++ []) w' := hs'.unpack
  have h2 := St.settleT y trivial x.1 (by rw [x.2]; exact hok ok w hs) h1
  rw [x.2] at h2
  exact ⟨(x.1.vr, x.1.vk, x.1.vs), he, h2⟩
theorem SpecR.settleT {P : Program} {Te : TypeId} {k : FuncId} {args : Array Value} {pre : List Fact} (y : Tys) {r : Res1 T} (h : SpecR P Te k args pre r (fun (u : T) => fun x : {h : HT // h.er = u} => .agg (tc u x.1.vr x.1.vk x.1.vs).toArray) (fun _ _ => []) (fun (u : T) => fun x : {h : HT // h.er = u} => [bigR (treeR y x.1)])) (hok : ∀ u, r = .ok u → ∀ ok w, St ⟨ok, domAll [], w⟩ pre [] w → okT u) :
    SpecR P Te k args pre r (fun (u : T) => fun x : SH × SH × SH => .agg (tc u x.1 x.2.1 x.2.2).toArray) (fun u x => [RT u x.1 x.2.1 x.2.2]) (fun _ _ => []) := ⟨fun u hu => Spec.settleT y (fun v => v) (h.1 u hu) (hok u hu), h.2⟩
abbrev rowOk (l : List Cl) : Prop := (∀ c, c ∈ l → u32 c) ∧ l.length * 8 ≤ reach
section
variable {C : Type} {A : Tr C}
mutual
theorem trav_okT (ho : ∀ c k n nm r p, in64 k → in64 n → rowOk r → A.own c k n nm r = .ok (.inr p) → in64 p.1 ∧ rowOk p.2) (hi : ∀ c k n nm r u, A.own c k n nm r = .ok (.inl u) → okT u) (hf : ∀ c f f', rowOk f → A.face c f = .ok (some f') → rowOk f') : ∀ (t : T) (c : C) (u : T), okT t → trav A t c = .ok u → okT u
  | .mk k n nm r ks ss, c, u, h, hu => by
    simp only [okT] at h
    obtain ⟨h1, h2, h3, h4, h5, h6, h7, h8⟩ := h
    rw [trav_eq] at hu
    simp only [T.kind, T.n, T.name, T.r, T.kids, T.sys] at hu
    obtain ⟨o, h9, hu⟩ := Res1.bind_ok hu
    cases o with
    | inl v => injection hu with hu; subst hu; exact hi _ _ _ _ _ _ h9
    | inr p =>
      obtain ⟨ks', h10, hu⟩ := Res1.bind_ok hu
      obtain ⟨ss', h11, hu⟩ := Res1.bind_ok hu
      injection hu with hu
      subst hu
      obtain ⟨p1, p2⟩ := ho _ _ _ _ _ _ h1 h2 h4 h9
      simp only [okT]
      exact ⟨h1, p1, h3, p2, by rw [travL_len h10]; exact h5, Nat.le_trans (Nat.mul_le_mul_right _ (travB_len h11)) h6, travL_okT ho hi hf ks 0 c ks' h7 h10, travB_okT ho hi hf ss c ss' h8 h11⟩
theorem travL_okT (ho : ∀ c k n nm r p, in64 k → in64 n → rowOk r → A.own c k n nm r = .ok (.inr p) → in64 p.1 ∧ rowOk p.2) (hi : ∀ c k n nm r u, A.own c k n nm r = .ok (.inl u) → okT u) (hf : ∀ c f f', rowOk f → A.face c f = .ok (some f') → rowOk f') {kd : Int} : ∀ (ts : List T) (i : Nat) (c : C) (us : List T), okL ts → travL A kd i ts c = .ok us → okL us
  | [], i, c, us, h, hu => by rw [travL_nil] at hu; injection hu with hu; subst hu; simp only [okL]
  | t :: ts, i, c, us, h, hu => by
    simp only [okL] at h
    rw [travL_cons] at hu
    obtain ⟨c', _, hu⟩ := Res1.bind_ok hu
    obtain ⟨t', h2, hu⟩ := Res1.bind_ok hu
    obtain ⟨ts', h3, hu⟩ := Res1.bind_ok hu
    injection hu with hu
    subst hu
    simp only [okL]
    exact ⟨trav_okT ho hi hf t c' t' h.1 h2, travL_okT ho hi hf ts (i + 1) c ts' h.2 h3⟩
theorem travS_okT (ho : ∀ c k n nm r p, in64 k → in64 n → rowOk r → A.own c k n nm r = .ok (.inr p) → in64 p.1 ∧ rowOk p.2) (hi : ∀ c k n nm r u, A.own c k n nm r = .ok (.inl u) → okT u) (hf : ∀ c f f', rowOk f → A.face c f = .ok (some f') → rowOk f') {kd : Int} : ∀ (ts : List T) (c : C) (us : List T), okL ts → travS A kd ts c = .ok us → okL us
  | [], c, us, h, hu => by rw [travS_nil] at hu; injection hu with hu; subst hu; simp only [okL]
  | t :: ts, c, us, h, hu => by
    simp only [okL] at h
    rw [travS_cons] at hu
    obtain ⟨c', _, hu⟩ := Res1.bind_ok hu
    obtain ⟨t', h2, hu⟩ := Res1.bind_ok hu
    obtain ⟨ts', h3, hu⟩ := Res1.bind_ok hu
    injection hu with hu
    subst hu
    simp only [okL]
    exact ⟨trav_okT ho hi hf t c' t' h.1 h2, travS_okT ho hi hf ts c ts' h.2 h3⟩
theorem travB_okT (ho : ∀ c k n nm r p, in64 k → in64 n → rowOk r → A.own c k n nm r = .ok (.inr p) → in64 p.1 ∧ rowOk p.2) (hi : ∀ c k n nm r u, A.own c k n nm r = .ok (.inl u) → okT u) (hf : ∀ c f f', rowOk f → A.face c f = .ok (some f') → rowOk f') {kd : Int} : ∀ (bs : List Br) (c : C) (us : List Br), okB bs → travB A kd bs c = .ok us → okB us
  | [], c, us, h, hu => by rw [travB_nil] at hu; injection hu with hu; subst hu; simp only [okB]
  | .mk f ks :: bs, c, us, h, hu => by
    simp only [okB] at h
    obtain ⟨h1, h2, h3, h4⟩ := h
    rw [travB_cons] at hu
    simp only [Br.face, Br.kids] at hu
    obtain ⟨o, h5, hu⟩ := Res1.bind_ok hu
    cases o with
    | none => exact travB_okT ho hi hf bs c us h4 hu
    | some f' =>
      obtain ⟨ks', h6, hu⟩ := Res1.bind_ok hu
      obtain ⟨bs', h7, hu⟩ := Res1.bind_ok hu
      injection hu with hu
      subst hu
      simp only [okB]
      exact ⟨hf _ _ _ h1 h5, by rw [travS_len h6]; exact h2, travS_okT ho hi hf ks c ks' h3 h6, travB_okT ho hi hf bs c bs' h4 h7⟩
end
end
theorem rowOk_nil : rowOk [] := ⟨fun c hc => (by cases hc), by unfold reach; decide⟩
theorem leastF_ok {l : List Cl} (h : ∀ c, c ∈ l → u32 c) : rowOk (leastF l).2 := by
  unfold leastF
  split
  · exact rowOk_nil
  · split
    · exact rowOk_nil
    · rename_i h64
      exact ⟨fun c hc => h c (refLeast_mem.mp hc).1, by show (refLeast l).length * 8 ≤ reach; unfold reach; omega⟩
theorem formLift_ok (l : List Cl) (f b : Int) : rowOk (formLift l f b).2 := by
  unfold formLift
  split
  · exact rowOk_nil
  · split
    · exact rowOk_nil
    · exact leastF_ok (foldC_u32 (fun c => clLift_u32 c f b))
theorem rowLift_ok {l g : List Cl} {f b : Int} (h : rowOk l) (hg : rowLift b l f = .ok g) : rowOk g := by
  unfold rowLift at hg
  split at hg
  · injection hg with hg; subst hg; exact h
  · split at hg
    · injection hg with hg; subst hg; exact formLift_ok l f b
    · cases hg
theorem lift_okT {vb db : Int} (hv : 0 ≤ vb ∧ vb ≤ 1000000) {t u : T} {c : Int × Int} (h : okT t) (hu : trav (liftTr vb db) t c = .ok u) : okT u := by
  refine trav_okT (A := liftTr vb db) ?_ ?_ ?_ t c u h hu
  · intro c k n nm r p _ hn hr ho
    obtain ⟨g, hg, ho⟩ := Res1.bind_ok (x := rowLift db r c.2) ho
    have hgo := rowLift_ok hr hg
    split at ho
    · rename_i h1
      split at ho
      · cases ho
      · injection ho with ho; injection ho with ho; subst ho
        exact ⟨by unfold in64 at *; dsimp only; omega, hgo⟩
    · injection ho with ho; injection ho with ho; subst ho
      exact ⟨hn, hgo⟩
  · intro c k n nm r u ho
    obtain ⟨g, hg, ho⟩ := Res1.bind_ok (x := rowLift db r c.2) ho
    split at ho
    · split at ho
      · cases ho
      · injection ho with ho; cases ho
    · injection ho with ho; cases ho
  · intro c f f' hr ho
    obtain ⟨g, hg, ho⟩ := Res1.bind_ok (x := rowLift db f c.2) ho
    injection ho with ho; injection ho with ho; subst ho
    exact rowLift_ok hr hg
theorem okT_t0 : okT t0 := by simp [t0, okT, okL, okB, in64, cap47, reach]; decide
theorem guard_okT' {t : T} {ns : List Int} {r : Res1 T} (h : ns.all (fun n => decide (0 ≤ n)) = true → ∀ u, r = .ok u → okT u) : okT (guardRes t ns r).2 := by
  unfold guardRes
  split
  · exact okT_t0
  · split
    · exact okT_t0
    · rename_i ha
      cases r with
      | ok u => exact h (by simpa using ha) u rfl
      | bad e => exact okT_t0
/-! ### lift.Vars, lift.Dims, lift.Both -/
abbrev varsR (t : T) (f b : Int) : Res1 T := trav (liftTr b 0) t (if 2000000000 < f then 2000000000 else f, 0)
abbrev bothR (t : T) (v d : Int) : Res1 T := (trav (liftTr v 0) t (0, 0)).bind fun u => trav (liftTr 0 d) u (0, 0)
def most (b : Int) : Int := IntKind.i64.wrap (1000000 - b)
theorem most_in (b : Int) : in64 (most b) := by
  have h : most b = (1000000 - b + 9223372036854775808) % 18446744073709551616 - 9223372036854775808 := by
    unfold most; rw [IntKind.wrap_i64]
  unfold in64; rw [h]; omega
theorem most_le {b : Int} (hb : in64 b) (h0 : 0 ≤ b) (h : 0 ≤ most b) : b ≤ 1000000 := by
  have h1 : most b = (1000000 - b + 9223372036854775808) % 18446744073709551616 - 9223372036854775808 := by
    unfold most; rw [IntKind.wrap_i64]
  unfold in64 at hb; omega
theorem most_of {b : Int} (hb : in64 b) (h0 : 0 ≤ b) : most b = 1000000 - b := by
  have h1 : most b = (1000000 - b + 9223372036854775808) % 18446744073709551616 - 9223372036854775808 := by
    unfold most; rw [IntKind.wrap_i64]
  unfold in64 at hb; omega
def varsRes (t : T) (f b : Int) : Int × T := guardRes t [f, b, most b] (varsR t f b)
def bothRes (t : T) (v d : Int) : Int × T := guardRes t [v, d, most v] (bothR t v d)
theorem Res1.bind_bad {α β : Type} {x : Res1 α} {e : Int} {k : α → Res1 β} (h : x = .bad e) : x.bind k = .bad e := by rw [h]; rfl
theorem Res1.bind_of {α β : Type} {x : Res1 α} {a : α} {y : Res1 β} {k : α → Res1 β} (h : x = .ok a) (h2 : k a = y) : x.bind k = y := by rw [h]; exact h2
/-! ### What is lifted keeps its form -/
theorem lift_own_inl {vb db : Int} {c : Int × Int} {k n : Int} {nm : ByteArray} {r : List Cl} {u : T} : (liftTr vb db).own c k n nm r ≠ .ok (.inl u) := by
  intro ho
  obtain ⟨g, hg, ho⟩ := Res1.bind_ok (x := rowLift db r c.2) ho
  split at ho
  · split at ho
    · cases ho
    · injection ho with ho; cases ho
  · injection ho with ho; cases ho
mutual
theorem lift_size {vb db : Int} : ∀ {t u : T} {c : Int × Int}, trav (liftTr vb db) t c = .ok u → size u = size t
  | .mk k n nm r ks ss, u, c, hu => by
    rw [trav_eq] at hu
    simp only [T.kind, T.n, T.name, T.r, T.kids, T.sys] at hu
    obtain ⟨o, h9, hu⟩ := Res1.bind_ok hu
    cases o with
    | inl v => exact absurd h9 lift_own_inl
    | inr p =>
      obtain ⟨ks', h10, hu⟩ := Res1.bind_ok hu
      obtain ⟨ss', h11, hu⟩ := Res1.bind_ok hu
      injection hu with hu
      subst hu
      rw [size_kids_sys, size_kids_sys]
      simp only [T.kids, T.sys]
      rw [liftL_size h10, liftB_size h11]
theorem liftL_size {vb db k : Int} : ∀ {ts us : List T} {i : Nat} {c : Int × Int}, travL (liftTr vb db) k i ts c = .ok us → us.map size = ts.map size
  | [], us, i, c, hu => by rw [travL_nil] at hu; injection hu with hu; subst hu; rfl
  | t :: ts, us, i, c, hu => by
    rw [travL_cons] at hu
    obtain ⟨c', _, hu⟩ := Res1.bind_ok hu
    obtain ⟨t', h2, hu⟩ := Res1.bind_ok hu
    obtain ⟨ts', h3, hu⟩ := Res1.bind_ok hu
    injection hu with hu
    subst hu
    simp only [List.map_cons]
    rw [lift_size h2, liftL_size h3]
theorem liftS_size {vb db k : Int} : ∀ {ts us : List T} {c : Int × Int}, travS (liftTr vb db) k ts c = .ok us → us.map size = ts.map size
  | [], us, c, hu => by rw [travS_nil] at hu; injection hu with hu; subst hu; rfl
  | t :: ts, us, c, hu => by
    rw [travS_cons] at hu
    obtain ⟨c', _, hu⟩ := Res1.bind_ok hu
    obtain ⟨t', h2, hu⟩ := Res1.bind_ok hu
    obtain ⟨ts', h3, hu⟩ := Res1.bind_ok hu
    injection hu with hu
    subst hu
    simp only [List.map_cons]
    rw [lift_size h2, liftS_size h3]
theorem liftB_size {vb db k : Int} : ∀ {bs us : List Br} {c : Int × Int}, travB (liftTr vb db) k bs c = .ok us → (us.map fun b => b.kids.map size) = bs.map fun b => b.kids.map size
  | [], us, c, hu => by rw [travB_nil] at hu; injection hu with hu; subst hu; rfl
  | .mk f ks :: bs, us, c, hu => by
    rw [travB_cons] at hu
    simp only [Br.face, Br.kids] at hu
    obtain ⟨o, h5, hu⟩ := Res1.bind_ok hu
    obtain ⟨g, _, h6⟩ := Res1.bind_ok (x := rowLift db f c.2) h5
    injection h6 with h6
    subst h6
    obtain ⟨ks', h7, hu⟩ := Res1.bind_ok hu
    obtain ⟨bs', h8, hu⟩ := Res1.bind_ok hu
    injection hu with hu
    subst hu
    show (ks'.map size :: (bs'.map fun b => b.kids.map size)) = (ks.map size :: (bs.map fun b => b.kids.map size))
    rw [liftS_size h7, liftB_size h8]
end
end Go.Hy
namespace Go.Hy
set_option linter.unusedVariables false
set_option linter.unusedSimpArgs false
set_option linter.unusedSectionVars false
set_option linter.unusedVariables false
/-! ### More variables, more dimensions; what a term has that may be -/
theorem all_iff {t : T} {v d : Int} {b : Bool} : allP t v d b = true ↔ (¬ (b = true ∧ 24 < d)) ∧ ownP t v d = true ∧ ∀ p, p ∈ parts t → allP p.1 (IntKind.i64.wrap (v + if v < 0 then 0 else p.2.1)) (d + p.2.2) b = true := by
  rw [allP_eq, Bool.and_eq_true, List.all_eq_true]
  simp only [Bool.not_eq_true', Bool.or_eq_false_iff, Bool.and_eq_false_iff, decide_eq_false_iff_not, Bool.not_eq_false']
  constructor
  · rintro ⟨⟨h1, h2⟩, h3⟩
    refine ⟨?_, h2, h3⟩
    rintro ⟨h4, h5⟩
    rcases h1 with h1 | h1
    · rw [h1] at h4; cases h4
    · exact h1 h5
  · rintro ⟨h1, h2, h3⟩
    refine ⟨⟨?_, h2⟩, h3⟩
    cases b
    · exact .inl rfl
    · exact .inr (fun h => h1 ⟨rfl, h⟩)
end Go.Hy
namespace Go.Hy
set_option linter.unusedVariables false
set_option linter.unusedSimpArgs false
set_option linter.unusedSectionVars false
set_option linter.unusedVariables false
theorem part_cases {t : T} {p : Part} (hp : p ∈ parts t) : (∃ i, i < t.kids.length ∧ p = (t.kids.getD i t0, binds t.kind (i : Int))) ∨ ∃ s k, s < t.sys.length ∧ k < (t.sys.getD s br0).kids.length ∧ p = ((t.sys.getD s br0).kids.getD k t0, 0, more t.kind) := by
  unfold parts at hp
  rcases List.mem_append.mp hp with hp | hp
  · left
    have key : ∀ (ks : List T) (s : Nat), p ∈ kidParts t.kind s ks → ∃ i, i < ks.length ∧ p = (ks.getD i t0, binds t.kind ((s + i : Nat) : Int)) := by
      intro ks
      induction ks with
      | nil => intro s h; simp [kidParts] at h
      | cons k ks ih =>
        intro s h
        simp only [kidParts, List.mem_cons] at h
        rcases h with h | h
        · exact ⟨0, by simp, by simpa using h⟩
        · obtain ⟨i, hi, e⟩ := ih (s + 1) h
          exact ⟨i + 1, by simpa using hi, by rw [e]; simp only [List.getD_cons_succ]; rw [show s + 1 + i = s + (i + 1) by omega]⟩
    obtain ⟨i, hi, e⟩ := key t.kids 0 hp
    exact ⟨i, hi, by rw [e]; simp⟩
  · right
    have key : ∀ (bs : List Br), p ∈ sysParts t.kind bs → ∃ s k, s < bs.length ∧ k < (bs.getD s br0).kids.length ∧ p = ((bs.getD s br0).kids.getD k t0, 0, more t.kind) := by
      intro bs
      induction bs with
      | nil => intro h; simp [sysParts] at h
      | cons b bs ih =>
        intro h
        simp only [sysParts, List.mem_append, List.mem_map] at h
        rcases h with ⟨k, hk, e⟩ | h
        · obtain ⟨j, hj, e2⟩ := List.mem_iff_getElem.mp hk
          exact ⟨0, j, by simp, by simpa using hj, by rw [← e]; simp only [List.getD_cons_zero]; rw [getD_get (d := t0) hj, e2]⟩
        · obtain ⟨s, k, h1, h2, e⟩ := ih h
          exact ⟨s + 1, k, by simpa using h1, by simpa using h2, by rw [e]; simp⟩
    exact key t.sys hp
end Go.Hy
namespace Go.Hy
set_option linter.unusedVariables false
set_option linter.unusedSimpArgs false
set_option linter.unusedSectionVars false
set_option linter.unusedVariables false
set_option linter.unusedSimpArgs false
/-! ### A term of which every node is as it may be -/
def headOK (k n : Int) (nm : ByteArray) (r : List Cl) : Prop :=
  (k ≠ 1 → n = 0) ∧ (k ≠ 2 → nm.toList = (ByteArray.mk #[]).toList) ∧ (k = 1 → r = [] ∧ 0 ≤ n) ∧ (k = 2 → r = [] ∧ nameOK nm = true) ∧ (k = 13 ∨ k = 21 ∨ k = 26 → fRight r = true) ∧ (k = 14 → faceRight r = true) ∧ (k ≠ 13 ∧ k ≠ 21 ∧ k ≠ 26 ∧ k ≠ 14 → r = [])
mutual
def fineT : T → Prop
  | .mk k n nm r ks ss => headOK k n nm r ∧ kidsN k = (ks.length : Int) ∧ (partsN k = 0 → ss = []) ∧ fineL ks ∧ fineB k ss
def fineL : List T → Prop
  | [] => True
  | t :: ts => fineT t ∧ fineL ts
def fineB (k : Int) : List Br → Prop
  | [] => True
  | .mk f ks :: bs => (ks.length : Int) = partsN k ∧ faceRight f = true ∧ fineL ks ∧ fineB k bs
end
theorem partsN_zero {k : Int} (h : k = 1 ∨ k = 2 ∨ k = 13 ∨ k = 21 ∨ k = 26 ∨ k = 14) : partsN k = 0 := by
  unfold partsN
  rcases h with h | h | h | h | h | h <;> subst h <;> decide
theorem within_24 (l : List Cl) {d : Int} (h : 24 ≤ d) : within l d = true := by unfold within; rw [decide_eq_true h]; rfl
theorem len_nil {α : Type} {l : List α} : ((l.length : Int) = 0) ↔ l = [] := by
  constructor
  · intro h; exact List.eq_nil_of_length_eq_zero (by omega)
  · rintro rfl; rfl
theorem own24_iff {k n : Int} {nm : ByteArray} {r : List Cl} {ks : List T} {ss : List Br} {d : Int} (hd : 24 ≤ d) : ownP (.mk k n nm r ks ss) (-1) d = true ↔ headOK k n nm r ∧ kidsN k = (ks.length : Int) ∧ (partsN k = 0 → ss = []) ∧ ∀ b, b ∈ ss → (b.kids.length : Int) = partsN k ∧ faceRight b.face = true := by
  have hB : ∀ b : Br, ownB (.mk k n nm r ks ss) d b = (decide ((b.kids.length : Int) = partsN k) && faceRight b.face) := fun b => by
    unfold ownB; rw [within_24 _ hd, Bool.and_true]; rfl
  have hL : (0 : Int) < (ss.length : Int) ↔ ss ≠ [] := by
    constructor
    · intro h e; subst e; simp at h
    · intro h; have := List.length_pos_iff.mpr h; omega
  have hs : ∀ p : Bool, (ss.all (ownB (.mk k n nm r ks ss) d) = true) ↔ ∀ b, b ∈ ss → (b.kids.length : Int) = partsN k ∧ faceRight b.face = true := fun _ => by
    rw [List.all_eq_true]
    exact forall_congr' fun b => forall_congr' fun _ => by rw [hB]; simp
  unfold ownP own1 headOK
  simp only [T.kind, T.n, T.name, T.r, T.kids, T.sys, within_24 _ hd, Bool.and_true, Bool.and_eq_true, Bool.not_eq_true', Bool.or_eq_false_iff, Bool.and_eq_false_iff, decide_eq_false_iff_not, Decidable.not_not, ne_eq, Int.not_lt, Bool.not_eq_false', beq_iff_eq]
  constructor
  · rintro ⟨⟨⟨⟨h1, h2⟩, h3⟩, h4⟩, h5⟩
    replace h1 : kidsN k = (ks.length : Int) := Decidable.not_not.mp (of_decide_eq_false h1)
    replace h2 : k = 1 ∨ n = 0 := h2.imp (fun h => Decidable.not_not.mp (of_decide_eq_false h)) (fun h => Decidable.not_not.mp (of_decide_eq_false h))
    replace h3 : k = 2 ∨ nm.toList = (ByteArray.mk #[]).toList := h3.imp (fun h => Decidable.not_not.mp (of_decide_eq_false h)) id
    replace h4 : ¬ partsN k = 0 ∨ ¬ (0 : Int) < (ss.length : Int) := h4.imp (fun h => of_decide_eq_false h) (fun h => of_decide_eq_false h)
    have hss : partsN k = 0 → ss = [] := by
      intro h
      rcases h4 with h4 | h4
      · exact absurd h h4
      · exact List.eq_nil_of_length_eq_zero (by omega)
    split at h5
    · rename_i hk
      have he := hss (partsN_zero (by omega))
      subst he
      simp only [Bool.and_eq_true, decide_eq_true_eq] at h5
      exact ⟨⟨by omega, fun _ => h3.resolve_left (by omega), fun _ => ⟨len_nil.mp (of_decide_eq_true h5.1.1), of_decide_eq_true h5.1.2⟩, by omega, by omega, by omega, fun _ => len_nil.mp (of_decide_eq_true h5.1.1)⟩, h1, hss, fun b hb => by cases hb⟩
    · split at h5
      · rename_i hk1 hk
        have he := hss (partsN_zero (by omega))
        subst he
        simp only [Bool.and_eq_true, decide_eq_true_eq] at h5
        exact ⟨⟨by omega, fun h => absurd hk h, by omega, fun _ => ⟨len_nil.mp (of_decide_eq_true h5.1), h5.2⟩, by omega, by omega, fun _ => len_nil.mp (of_decide_eq_true h5.1)⟩, h1, hss, fun b hb => by cases hb⟩
      · split at h5
        · rename_i hk1 hk2 hk
          have he := hss (partsN_zero (by omega))
          subst he
          exact ⟨⟨by omega, fun _ => h3.resolve_left (by omega), by omega, by omega, fun _ => h5, by omega, by omega⟩, h1, hss, fun b hb => by cases hb⟩
        · split at h5
          · rename_i hk1 hk2 hk3 hk
            have he := hss (partsN_zero (by omega))
            subst he
            exact ⟨⟨by omega, fun _ => h3.resolve_left (by omega), by omega, by omega, by omega, fun _ => h5, by omega⟩, h1, hss, fun b hb => by cases hb⟩
          · rename_i hk1 hk2 hk3 hk4
            simp only [Bool.and_eq_true, decide_eq_true_eq] at h5
            exact ⟨⟨by omega, fun _ => h3.resolve_left (by omega), by omega, by omega, by omega, by omega, fun _ => len_nil.mp (of_decide_eq_true h5.2)⟩, h1, hss, (hs true).mp h5.1⟩
  · rintro ⟨⟨a1, a2, a3, a4, a5, a6, a7⟩, b1, b2, b3⟩
    refine ⟨⟨⟨⟨decide_eq_false (Decidable.not_not.mpr b1), ?_⟩, ?_⟩, ?_⟩, ?_⟩
    · by_cases h : k = 1
      · exact .inl (decide_eq_false (Decidable.not_not.mpr h))
      · exact .inr (decide_eq_false (Decidable.not_not.mpr (a1 h)))
    · by_cases h : k = 2
      · exact .inl (decide_eq_false (Decidable.not_not.mpr h))
      · exact .inr (a2 h)
    · by_cases h : partsN k = 0
      · exact .inr (decide_eq_false (by rw [b2 h]; decide))
      · exact .inl (decide_eq_false h)
    · split
      · rename_i h; simp [(a3 h).1, (a3 h).2]
      · split
        · rename_i h; simp [(a4 h).1, (a4 h).2]
        · split
          · rename_i h; exact a5 h
          · split
            · rename_i h; exact a6 h
            · rename_i h1 h2 h3 h4
              rw [Bool.and_eq_true, (hs true)]
              exact ⟨b3, by simp [a7 (by omega)]⟩
theorem fineL_iff : ∀ {ts : List T}, fineL ts ↔ ∀ t, t ∈ ts → fineT t
  | [] => by simp [fineL]
  | t :: ts => by simp [fineL, fineL_iff (ts := ts)]
theorem fineB_iff {k : Int} : ∀ {bs : List Br}, fineB k bs ↔ ∀ b, b ∈ bs → (b.kids.length : Int) = partsN k ∧ faceRight b.face = true ∧ fineL b.kids
  | [] => by simp [fineB]
  | .mk f ks :: bs => by
    simp only [fineB, fineB_iff (bs := bs), List.forall_mem_cons, Br.kids, Br.face]
    constructor
    · rintro ⟨h1, h2, h3, h4⟩; exact ⟨⟨h1, h2, h3⟩, h4⟩
    · rintro ⟨⟨h1, h2, h3⟩, h4⟩; exact ⟨h1, h2, h3, h4⟩
theorem fineT_iff {t : T} : fineT t ↔ headOK t.kind t.n t.name t.r ∧ kidsN t.kind = (t.kids.length : Int) ∧ (partsN t.kind = 0 → t.sys = []) ∧ fineL t.kids ∧ fineB t.kind t.sys := by
  obtain ⟨k, n, nm, r, ks, ss⟩ := t
  simp only [fineT, T.kind, T.n, T.name, T.r, T.kids, T.sys]
theorem fine_parts {t : T} : fineT t ↔ (∀ d : Int, 24 ≤ d → ownP t (-1) d = true) ∧ ∀ p, p ∈ parts t → fineT p.1 := by
  rw [fineT_iff, fineL_iff, fineB_iff]
  have ho : ∀ d : Int, 24 ≤ d → (ownP t (-1) d = true ↔ headOK t.kind t.n t.name t.r ∧ kidsN t.kind = (t.kids.length : Int) ∧ (partsN t.kind = 0 → t.sys = []) ∧ ∀ b, b ∈ t.sys → (b.kids.length : Int) = partsN t.kind ∧ faceRight b.face = true) := by
    intro d hd
    obtain ⟨k, n, nm, r, ks, ss⟩ := t
    exact own24_iff hd
  constructor
  · rintro ⟨h1, h2, h3, h4, h5⟩
    refine ⟨fun d hd => (ho d hd).mpr ⟨h1, h2, h3, fun b hb => ⟨(h5 b hb).1, (h5 b hb).2.1⟩⟩, fun p hp => ?_⟩
    rcases part_cases hp with ⟨i, hi, rfl⟩ | ⟨s, k, hs, hk, rfl⟩
    · exact h4 _ (getD_mem hi)
    · exact fineL_iff.mp (h5 _ (getD_mem hs)).2.2 _ (getD_mem hk)
  · rintro ⟨h1, h2⟩
    obtain ⟨a1, a2, a3, a4⟩ := (ho 24 (by omega)).mp (h1 24 (by omega))
    refine ⟨a1, a2, a3, fun k hk => ?_, fun b hb => ⟨(a4 b hb).1, (a4 b hb).2, fineL_iff.mpr fun k hk => ?_⟩⟩
    · obtain ⟨p, hp, e⟩ := kid_mem_parts hk; exact e ▸ h2 p hp
    · obtain ⟨p, hp, e⟩ := sys_mem_parts hb hk; exact e ▸ h2 p hp
theorem all_fine : ∀ (t : T) (d : Int), 24 ≤ d → (allP t (-1) d false = true ↔ fineT t) := T.ind fun t ih d hd => by
  rw [all_iff, fine_parts]
  have hw : ∀ p : Part, IntKind.i64.wrap (-1 + if (-1 : Int) < 0 then 0 else p.2.1) = -1 := fun p => by rw [if_pos (by decide)]; decide
  constructor
  · rintro ⟨_, h2, h3⟩
    refine ⟨fun d' hd' => ?_, fun p hp => ?_⟩
    · obtain ⟨k, n, nm, r, ks, ss⟩ := t
      exact (own24_iff hd').mpr ((own24_iff hd).mp h2)
    · have h4 := h3 p hp
      rw [hw] at h4
      have h5 := parts_01 hp
      exact (ih p hp (d + p.2.2) (by omega)).mp h4
  · rintro ⟨h1, h2⟩
    refine ⟨by simp, h1 d hd, fun p hp => ?_⟩
    rw [hw]
    have h5 := parts_01 hp
    exact (ih p hp (d + p.2.2) (by omega)).mpr (h2 p hp)
theorem formed_fine {t : T} : formedP t = 0 ↔ sized t = 0 ∧ fineT t := by rw [formed_zero, all_fine t 24 (by omega)]
/-! ### What a way keeps -/
section
variable {C : Type} {A : Tr C}
end
/-! ### One way, and then another one -/
section
variable {CA CB CC : Type} {A : Tr CA} {B : Tr CB} {D : Tr CC} (R : CA → CB → CC → Prop)
structure Fuse : Prop where
  inl : ∀ ca cb cc k n nm r u, R ca cb cc → headOK k n nm r → A.own ca k n nm r = .ok (.inl u) → D.own cc k n nm r = (trav B u cb).bind fun w => .ok (.inl w)
  inr : ∀ ca cb cc k n nm r p, R ca cb cc → headOK k n nm r → A.own ca k n nm r = .ok (.inr p) → B.own cb k p.1 nm p.2 = D.own cc k n nm r
  none : ∀ ca cb cc f, R ca cb cc → faceRight f = true → A.face ca f = .ok none → D.face cc f = .ok none
  some : ∀ ca cb cc f f', R ca cb cc → faceRight f = true → A.face ca f = .ok (some f') → B.face cb f' = D.face cc f
  kid : ∀ ca cb cc b ca', 0 ≤ b.1 → 0 ≤ b.2 → R ca cb cc → A.kid ca b = .ok ca' → (∃ cb' cc', B.kid cb b = .ok cb' ∧ D.kid cc b = .ok cc' ∧ R ca' cb' cc') ∨ ∃ e, B.kid cb b = .bad e ∧ D.kid cc b = .bad e
variable {R}
mutual
theorem fuse (F : Fuse (A := A) (B := B) (D := D) R) : ∀ {t u : T} {ca : CA} {cb : CB} {cc : CC}, fineT t → R ca cb cc → trav A t ca = .ok u → trav B u cb = trav D t cc
  | .mk k n nm r ks ss, u, ca, cb, cc, h, hr, hu => by
    simp only [fineT] at h
    obtain ⟨h1, h2, h3, h4, h5⟩ := h
    rw [trav_eq] at hu
    simp only [T.kind, T.n, T.name, T.r, T.kids, T.sys] at hu
    obtain ⟨o, h9, hu⟩ := Res1.bind_ok hu
    cases o with
    | inl v =>
      injection hu with hu
      subst hu
      conv => rhs; rw [trav_eq]
      simp only [T.kind, T.n, T.name, T.r, T.kids, T.sys]
      rw [F.inl _ _ _ _ _ _ _ _ hr h1 h9]
      cases trav B v cb <;> rfl
    | inr p =>
      obtain ⟨ks', h10, hu⟩ := Res1.bind_ok hu
      obtain ⟨ss', h11, hu⟩ := Res1.bind_ok hu
      injection hu with hu
      subst hu
      rw [trav_eq, trav_eq]
      simp only [T.kind, T.n, T.name, T.r, T.kids, T.sys]
      rw [F.inr _ _ _ _ _ _ _ _ hr h1 h9, fuseL F h4 hr h10, fuseB F h5 hr h11]
theorem fuseL (F : Fuse (A := A) (B := B) (D := D) R) {kd : Int} : ∀ {ts us : List T} {i : Nat} {ca : CA} {cb : CB} {cc : CC}, fineL ts → R ca cb cc → travL A kd i ts ca = .ok us → travL B kd i us cb = travL D kd i ts cc
  | [], us, i, ca, cb, cc, h, hr, hu => by rw [travL_nil] at hu; injection hu with hu; subst hu; rw [travL_nil, travL_nil]
  | t :: ts, us, i, ca, cb, cc, h, hr, hu => by
    simp only [fineL] at h
    rw [travL_cons] at hu
    obtain ⟨c', h1, hu⟩ := Res1.bind_ok hu
    obtain ⟨t', h2, hu⟩ := Res1.bind_ok hu
    obtain ⟨ts', h3, hu⟩ := Res1.bind_ok hu
    injection hu with hu
    subst hu
    rw [travL_cons, travL_cons]
    rcases F.kid _ _ _ _ _ (binds_01 _ _).1 (binds_01 _ _).2.2.1 hr h1 with ⟨cb', cc', e1, e2, hr'⟩ | ⟨e, e1, e2⟩
    · rw [e1, e2]
      simp only [Res1.bind]
      rw [fuse F h.1 hr' h2, fuseL F h.2 hr h3]
    · rw [e1, e2]; rfl
theorem fuseS (F : Fuse (A := A) (B := B) (D := D) R) {kd : Int} : ∀ {ts us : List T} {ca : CA} {cb : CB} {cc : CC}, fineL ts → R ca cb cc → travS A kd ts ca = .ok us → travS B kd us cb = travS D kd ts cc
  | [], us, ca, cb, cc, h, hr, hu => by rw [travS_nil] at hu; injection hu with hu; subst hu; rw [travS_nil, travS_nil]
  | t :: ts, us, ca, cb, cc, h, hr, hu => by
    simp only [fineL] at h
    rw [travS_cons] at hu
    obtain ⟨c', h1, hu⟩ := Res1.bind_ok hu
    obtain ⟨t', h2, hu⟩ := Res1.bind_ok hu
    obtain ⟨ts', h3, hu⟩ := Res1.bind_ok hu
    injection hu with hu
    subst hu
    rw [travS_cons, travS_cons]
    rcases F.kid _ _ _ _ _ (Int.le_refl 0) (more_01 _).1 hr h1 with ⟨cb', cc', e1, e2, hr'⟩ | ⟨e, e1, e2⟩
    · rw [e1, e2]
      simp only [Res1.bind]
      rw [fuse F h.1 hr' h2, fuseS F h.2 hr h3]
    · rw [e1, e2]; rfl
theorem fuseB (F : Fuse (A := A) (B := B) (D := D) R) {kd : Int} : ∀ {bs us : List Br} {ca : CA} {cb : CB} {cc : CC}, fineB kd bs → R ca cb cc → travB A kd bs ca = .ok us → travB B kd us cb = travB D kd bs cc
  | [], us, ca, cb, cc, h, hr, hu => by rw [travB_nil] at hu; injection hu with hu; subst hu; rw [travB_nil, travB_nil]
  | .mk f ks :: bs, us, ca, cb, cc, h, hr, hu => by
    simp only [fineB] at h
    obtain ⟨h1, h2, h3, h4⟩ := h
    rw [travB_cons] at hu
    simp only [Br.face, Br.kids] at hu
    obtain ⟨o, h5, hu⟩ := Res1.bind_ok hu
    cases o with
    | none =>
      rw [fuseB F h4 hr hu]
      conv => rhs; rw [travB_cons]
      simp only [Br.face, Br.kids]
      rw [F.none _ _ _ _ hr h2 h5]
      rfl
    | some f' =>
      obtain ⟨ks', h6, hu⟩ := Res1.bind_ok hu
      obtain ⟨bs', h7, hu⟩ := Res1.bind_ok hu
      injection hu with hu
      subst hu
      rw [travB_cons, travB_cons]
      simp only [Br.face, Br.kids]
      rw [F.some _ _ _ _ _ hr h2 h5, fuseS F h3 hr h6, fuseB F h4 hr h7]
end
end
/-! ### Where one way is told, another one is -/
section
variable {CA CC : Type} {A : Tr CA} {D : Tr CC} (R : CA → CC → Prop)
structure Told : Prop where
  inl : ∀ ca cc k n nm r u, R ca cc → headOK k n nm r → A.own ca k n nm r = .ok (.inl u) → ∃ w, D.own cc k n nm r = .ok (.inl w)
  inr : ∀ ca cc k n nm r p, R ca cc → headOK k n nm r → A.own ca k n nm r = .ok (.inr p) → ∃ w, D.own cc k n nm r = .ok w
  none : ∀ ca cc f, R ca cc → faceRight f = true → A.face ca f = .ok none → D.face cc f = .ok none
  some : ∀ ca cc f f', R ca cc → faceRight f = true → A.face ca f = .ok (some f') → ∃ w, D.face cc f = .ok w
  kid : ∀ ca cc b ca', R ca cc → A.kid ca b = .ok ca' → ∃ cc', D.kid cc b = .ok cc' ∧ R ca' cc'
variable {R}
theorem Res1.bind_ex {α β : Type} {x : Res1 α} {k : α → Res1 β} (h : ∃ a, x = .ok a) (h2 : ∀ a, x = .ok a → ∃ b, k a = .ok b) : ∃ b, x.bind k = .ok b := by
  obtain ⟨a, ha⟩ := h
  obtain ⟨b, hb⟩ := h2 a ha
  exact ⟨b, by rw [ha]; exact hb⟩
mutual
theorem told (F : Told (A := A) (D := D) R) : ∀ {t u : T} {ca : CA} {cc : CC}, fineT t → R ca cc → trav A t ca = .ok u → ∃ w, trav D t cc = .ok w
  | .mk k n nm r ks ss, u, ca, cc, h, hr, hu => by
    simp only [fineT] at h
    obtain ⟨h1, h2, h3, h4, h5⟩ := h
    rw [trav_eq] at hu
    simp only [T.kind, T.n, T.name, T.r, T.kids, T.sys] at hu
    obtain ⟨o, h9, hu⟩ := Res1.bind_ok hu
    rw [trav_eq]
    simp only [T.kind, T.n, T.name, T.r, T.kids, T.sys]
    cases o with
    | inl v =>
      obtain ⟨w, hw⟩ := F.inl _ _ _ _ _ _ _ hr h1 h9
      exact ⟨w, by rw [hw]; rfl⟩
    | inr p =>
      obtain ⟨ks', h10, hu⟩ := Res1.bind_ok hu
      obtain ⟨ss', h11, hu⟩ := Res1.bind_ok hu
      refine Res1.bind_ex (F.inr _ _ _ _ _ _ _ hr h1 h9) (fun o _ => ?_)
      cases o with
      | inl v => exact ⟨v, rfl⟩
      | inr q =>
        refine Res1.bind_ex (toldL F h4 hr h10) (fun a _ => Res1.bind_ex (toldB F h5 hr h11) (fun b _ => ⟨_, rfl⟩))
theorem toldL (F : Told (A := A) (D := D) R) {kd : Int} : ∀ {ts us : List T} {i : Nat} {ca : CA} {cc : CC}, fineL ts → R ca cc → travL A kd i ts ca = .ok us → ∃ w, travL D kd i ts cc = .ok w
  | [], us, i, ca, cc, h, hr, hu => ⟨[], travL_nil _ _ _⟩
  | t :: ts, us, i, ca, cc, h, hr, hu => by
    simp only [fineL] at h
    rw [travL_cons] at hu
    obtain ⟨c', h1, hu⟩ := Res1.bind_ok hu
    obtain ⟨t', h2, hu⟩ := Res1.bind_ok hu
    obtain ⟨ts', h3, hu⟩ := Res1.bind_ok hu
    obtain ⟨cc', e2, hr'⟩ := F.kid _ _ _ _ hr h1
    rw [travL_cons]
    refine Res1.bind_ex ⟨cc', e2⟩ (fun a9 ha => ?_)
    rw [e2] at ha
    injection ha with ha
    subst ha
    exact Res1.bind_ex (told F h.1 hr' h2) (fun a _ => Res1.bind_ex (toldL F h.2 hr h3) (fun b _ => ⟨_, rfl⟩))
theorem toldS (F : Told (A := A) (D := D) R) {kd : Int} : ∀ {ts us : List T} {ca : CA} {cc : CC}, fineL ts → R ca cc → travS A kd ts ca = .ok us → ∃ w, travS D kd ts cc = .ok w
  | [], us, ca, cc, h, hr, hu => ⟨[], travS_nil _ _⟩
  | t :: ts, us, ca, cc, h, hr, hu => by
    simp only [fineL] at h
    rw [travS_cons] at hu
    obtain ⟨c', h1, hu⟩ := Res1.bind_ok hu
    obtain ⟨t', h2, hu⟩ := Res1.bind_ok hu
    obtain ⟨ts', h3, hu⟩ := Res1.bind_ok hu
    obtain ⟨cc', e2, hr'⟩ := F.kid _ _ _ _ hr h1
    rw [travS_cons]
    refine Res1.bind_ex ⟨cc', e2⟩ (fun a9 ha => ?_)
    rw [e2] at ha
    injection ha with ha
    subst ha
    exact Res1.bind_ex (told F h.1 hr' h2) (fun a _ => Res1.bind_ex (toldS F h.2 hr h3) (fun b _ => ⟨_, rfl⟩))
theorem toldB (F : Told (A := A) (D := D) R) {kd : Int} : ∀ {bs us : List Br} {ca : CA} {cc : CC}, fineB kd bs → R ca cc → travB A kd bs ca = .ok us → ∃ w, travB D kd bs cc = .ok w
  | [], us, ca, cc, h, hr, hu => ⟨[], travB_nil _ _⟩
  | .mk f ks :: bs, us, ca, cc, h, hr, hu => by
    simp only [fineB] at h
    obtain ⟨h1, h2, h3, h4⟩ := h
    rw [travB_cons] at hu
    simp only [Br.face, Br.kids] at hu
    obtain ⟨o, h5, hu⟩ := Res1.bind_ok hu
    rw [travB_cons]
    simp only [Br.face, Br.kids]
    cases o with
    | none =>
      rw [F.none _ _ _ hr h2 h5]
      exact toldB F h4 hr hu
    | some f' =>
      obtain ⟨ks', h6, hu⟩ := Res1.bind_ok hu
      obtain ⟨bs', h7, hu⟩ := Res1.bind_ok hu
      refine Res1.bind_ex (F.some _ _ _ _ hr h2 h5) (fun o _ => ?_)
      cases o with
      | none => exact toldB F h4 hr h7
      | some q => exact Res1.bind_ex (toldS F h3 hr h6) (fun a _ => Res1.bind_ex (toldB F h4 hr h7) (fun b _ => ⟨_, rfl⟩))
end
end
end Go.Hy
namespace Go.Hy
set_option linter.unusedVariables false
set_option linter.unusedSimpArgs false
set_option linter.unusedSectionVars false
set_option linter.unusedVariables false
end Go.Hy
namespace Go.Hy
set_option linter.unusedVariables false
set_option linter.unusedSimpArgs false
set_option linter.unusedSectionVars false
theorem formed_size {t : T} (h : formedP t = 0) : size t ≤ 20000 := by
  unfold formedP at h
  split at h
  · rename_i hs; exact absurd h hs
  · rename_i hs
    simp only [ne_eq, Decidable.not_not, sized] at hs
    split at hs
    · cases hs
    · split at hs
      · cases hs
      · omega
end Go.Hy
namespace Go.Hy
set_option linter.unusedVariables false
set_option linter.unusedSimpArgs false
set_option linter.unusedSectionVars false
set_option linter.unusedVariables false
set_option linter.unusedSimpArgs false
/-! ### Masks, bit by bit -/
theorem maskLift_bit {s : Nat} {f b : Int} (h : (maskLift s f b).1 = 0) (i : Nat) : 0 ≤ f ∧ 0 ≤ b ∧ (maskLift s f b).2.testBit i = ((decide (i < min f.toNat 24) && (s &&& 16777215).testBit i) || (decide (min f.toNat 24 + b.toNat ≤ i) && (s &&& 16777215).testBit (i - b.toNat))) := by
  by_cases h0 : f < 0 ∨ b < 0
  · rw [maskLift, if_pos h0] at h; cases h
  · have hq : ∀ j, (s &&& 16777215).testBit j = true → j < 24 := fun j hj => by rw [and24_bit, Bool.and_eq_true, decide_eq_true_eq] at hj; exact hj.1
    refine ⟨by omega, by omega, ?_⟩
    generalize hF : min f.toNat 24 = F at *
    by_cases h1 : andNot32 (s &&& 16777215) (2 ^ (min f.toNat 24) - 1) = 0
    · rw [maskLift, if_neg h0, if_pos h1]
      show ((s &&& 16777215) &&& (2 ^ (min f.toNat 24) - 1)).testBit i = _
      rw [hF] at h1 ⊢
      rw [Nat.testBit_and, mask_bit]
      have h2 : (decide (F + b.toNat ≤ i) && (s &&& 16777215).testBit (i - b.toNat)) = false := by
        cases h3 : (s &&& 16777215).testBit (i - b.toNat) with
        | false => rw [Bool.and_false]
        | true =>
          rw [Bool.and_true]
          refine decide_eq_false (fun h4 => ?_)
          have h5 : (andNot32 (s &&& 16777215) (2 ^ F - 1)).testBit (i - b.toNat) = true := by
            rw [andNot32_bit, mask_bit, h3, decide_eq_true (by have := hq _ h3; omega), decide_eq_false (by omega)]; rfl
          rw [h1, Nat.zero_testBit] at h5
          cases h5
      rw [h2, Bool.or_false, Bool.and_comm]
    · by_cases h2 : 24 ≤ b ∨ 16777215 < andNot32 (s &&& 16777215) (2 ^ (min f.toNat 24) - 1) * 2 ^ b.toNat
      · rw [maskLift, if_neg h0, if_neg h1, if_pos h2] at h; cases h
      · rw [maskLift, if_neg h0, if_neg h1, if_neg h2]
        show (((s &&& 16777215) &&& (2 ^ (min f.toNat 24) - 1)) ||| (andNot32 (s &&& 16777215) (2 ^ (min f.toNat 24) - 1) * 2 ^ b.toNat)).testBit i = _
        rw [hF, Nat.testBit_or, Nat.testBit_and, mask_bit, Nat.testBit_mul_two_pow, andNot32_bit, mask_bit]
        cases h3 : (s &&& 16777215).testBit (i - b.toNat) with
        | false => simp [Bool.and_comm]
        | true =>
          have h4 := hq _ h3
          rw [decide_eq_true (show i - b.toNat < 32 by omega)]
          simp only [Bool.and_true, Bool.true_and]
          rw [Bool.and_comm]
          congr 1
          by_cases h5 : F + b.toNat ≤ i
          · rw [decide_eq_true (show b.toNat ≤ i by omega), decide_eq_false (show ¬ i - b.toNat < F by omega), decide_eq_true h5]; rfl
          · rw [decide_eq_false h5]
            by_cases h6 : b.toNat ≤ i
            · rw [decide_eq_true h6, decide_eq_true (show i - b.toNat < F by omega)]; rfl
            · rw [decide_eq_false h6]; rfl
/-! ### Clauses, formulas -/
theorem clLift_ok {c : Cl} {f b : Int} (h : (clLift c f b).1 = 0) : right24 c = true ∧ (maskLift c.pos f b).1 = 0 ∧ (maskLift c.neg f b).1 = 0 ∧ (clLift c f b).2 = ⟨(maskLift c.pos f b).2, (maskLift c.neg f b).2⟩ := by
  unfold clLift at h ⊢
  split at h
  · cases h
  · rename_i h1
    split at h
    · rename_i h2; exact absurd h h2
    · rename_i h2
      split at h
      · rename_i h3; exact absurd h h3
      · rename_i h3
        rw [if_neg h1, if_neg h2, if_neg h3]
        exact ⟨by simpa using h1, Decidable.not_not.mp h2, Decidable.not_not.mp h3, rfl⟩
theorem leastF_cases (l : List Cl) : ((leastF l).1 = 0 ∧ l.all right24 = true ∧ (leastF l).2 = refLeast l ∧ (refLeast l).length ≤ 64) ∨ (leastF l).1 = 2 ∨ (leastF l).1 = 3 := by
  unfold leastF
  split
  · exact .inr (.inl rfl)
  · rename_i h1
    split
    · exact .inr (.inr rfl)
    · rename_i h2
      exact .inl ⟨rfl, by simpa using h1, rfl, by omega⟩
theorem leastF_fR {l : List Cl} (h : (leastF l).1 = 0) : fRight (leastF l).2 = true := by
  rcases leastF_cases l with ⟨_, h1, h2, h3⟩ | h1 | h1
  · rw [h2]
    unfold fRight
    rw [Bool.and_eq_true, Bool.and_eq_true, Bool.and_eq_true]
    refine ⟨⟨⟨List.all_eq_true.mpr fun c hc => List.all_eq_true.mp h1 c (refLeast_mem.mp hc).1, sortedC_iff.mpr (refLeast_sorted l)⟩, apart_iff.mpr fun a ha b hb => needless_iff.mp (refLeast_mem.mp ha).2 b (refLeast_mem.mp hb).1⟩, decide_eq_true h3⟩
  · rw [h1] at h; cases h
  · rw [h1] at h; cases h
theorem formLift_cases {l : List Cl} {f b : Int} (h : (formLift l f b).1 = 0) : fRight l = true ∧ (∀ c, c ∈ l → (clLift c f b).1 = 0) ∧ formLift l f b = leastF (l.map fun c => (clLift c f b).2) := by
  unfold formLift at h ⊢
  split at h
  · cases h
  · rename_i h1
    split at h
    · rename_i h2; exact absurd h h2
    · rename_i h2
      have h3 : (foldC (fun c => clLift c f b) l).1 = 0 := Decidable.not_not.mp h2
      rw [if_neg h1, if_neg h2]
      exact ⟨by simpa using h1, foldC_iff.mp h3, by rw [foldC_map h3]⟩
theorem formLift_fR {l : List Cl} {f b : Int} (h : (formLift l f b).1 = 0) : fRight (formLift l f b).2 = true := by
  obtain ⟨_, _, h3⟩ := formLift_cases h
  rw [h3] at h ⊢
  exact leastF_fR h
theorem rowLift_fR {l g : List Cl} {f b : Int} (h : rowLift b l f = .ok g) (hl : fRight l = true) : fRight g = true := by
  unfold rowLift at h
  split at h
  · injection h with h; subst h; exact hl
  · split at h
    · rename_i h2; injection h with h; subst h; exact formLift_fR h2
    · cases h
theorem fRight_nil : fRight [] = true := by decide
theorem formLift_nil (f b : Int) : formLift [] f b = (0, []) := by
  unfold formLift
  rw [if_neg (by rw [fRight_nil]; decide)]
  have h : foldC (fun c => clLift c f b) [] = (0, []) := rfl
  rw [h, if_neg (by decide)]
  exact leastF_fRight.mp fRight_nil
theorem rowLift_nil (f b : Int) : rowLift b [] f = .ok [] := by
  unfold rowLift
  rw [formLift_nil]
  simp
section
variable {C : Type} {A : Tr C}
end
/-! ### Lifts, one behind the other -/
theorem rowLift_zero (l : List Cl) (f : Int) : rowLift 0 l f = .ok l := by unfold rowLift; rw [if_pos (.inl rfl)]
/-- What liftTr makes of a node. -/
theorem lift_own_eq {vb db : Int} {c : Int × Int} {k n : Int} {nm : ByteArray} {r : List Cl} : (liftTr vb db).own c k n nm r = (rowLift db r c.2).bind fun r' => if k = 1 ∧ c.1 ≤ n ∧ 1000000000 - vb < n then .bad 100 else .ok (.inr (liftN vb c.1 k n, r')) := by
  simp only [liftTr, liftN]
  congr 1
  funext g
  by_cases h1 : k = 1 ∧ c.1 ≤ n
  · rw [if_pos h1, if_pos h1]
    by_cases h2 : 1000000000 - vb < n
    · rw [if_pos h2, if_pos ⟨h1.1, h1.2, h2⟩]
    · rw [if_neg h2, if_neg (fun h => h2 h.2.2)]
  · rw [if_neg h1, if_neg h1, if_neg (fun h => h1 ⟨h.1, h.2.1⟩)]
theorem lift_own_ok {vb db : Int} {c : Int × Int} {k n : Int} {nm : ByteArray} {r : List Cl} {p : Int × List Cl} (h : (liftTr vb db).own c k n nm r = .ok (.inr p)) : rowLift db r c.2 = .ok p.2 ∧ ¬ (k = 1 ∧ c.1 ≤ n ∧ 1000000000 - vb < n) ∧ p.1 = liftN vb c.1 k n := by
  rw [lift_own_eq] at h
  obtain ⟨g, hg, h⟩ := Res1.bind_ok h
  split at h
  · cases h
  · rename_i h1
    injection h with h; injection h with h; subst h
    exact ⟨hg, h1, rfl⟩
theorem lift_face_eq {vb db : Int} {c : Int × Int} {f f' : List Cl} (h : (liftTr vb db).face c f = .ok (some f')) : rowLift db f c.2 = .ok f' := by
  obtain ⟨g, hg, h⟩ := Res1.bind_ok (x := rowLift db f c.2) h
  injection h with h; injection h with h; subst h; exact hg
theorem lift_face_none {vb db : Int} {c : Int × Int} {f : List Cl} : (liftTr vb db).face c f ≠ .ok none := fun h => by
  obtain ⟨g, hg, h⟩ := Res1.bind_ok (x := rowLift db f c.2) h
  injection h with h; cases h
abbrev Vl (a : Int) (t : T) : Res1 T := trav (liftTr a 0) t (0, 0)
def R3 (a b c : Int × Int) : Prop := a = b ∧ b = c
theorem liftN_zero {v k n : Int} : liftN 0 v k n = n := by unfold liftN; split <;> omega
theorem lift_face_def {vb db : Int} {c : Int × Int} {f : List Cl} : (liftTr vb db).face c f = (rowLift db f c.2).bind fun f' => .ok (some f') := rfl
/-- Dimensions behind variables: both at once. -/
theorem fuse_VD {a b : Int} (ha : 0 ≤ a) : Fuse (A := liftTr a 0) (B := liftTr 0 b) (D := liftTr a b) R3 where
  inl := fun ca cb cc k n nm r u _ _ h => absurd h lift_own_inl
  inr := by
    rintro ca cb cc k n nm r p ⟨rfl, rfl⟩ _ h
    obtain ⟨h1, h2, h3⟩ := lift_own_ok h
    rw [rowLift_zero] at h1
    injection h1 with h1
    rw [lift_own_eq, lift_own_eq, ← h1, h3]
    congr 1
    funext g
    have h4 : liftN 0 ca.1 k (liftN a ca.1 k n) = liftN a ca.1 k n := liftN_zero
    rw [h4, if_neg h2, if_neg]
    unfold liftN
    rintro ⟨h5, h6, h7⟩
    split at h6 <;> split at h7 <;> omega
  none := fun ca cb cc f _ _ h => absurd h lift_face_none
  some := by
    rintro ca cb cc f f' ⟨rfl, rfl⟩ _ h
    have h1 := lift_face_eq h
    rw [rowLift_zero] at h1
    injection h1 with h1
    rw [← h1]; rfl
  kid := by
    rintro ca cb cc b' ca' hb1 hb2 ⟨rfl, rfl⟩ h
    injection h with h; subst h
    exact .inl ⟨_, _, rfl, rfl, rfl, rfl⟩
def asRes (r : Res1 T) : Int × T := match r with
  | .ok u => (0, u)
  | .bad e => (e, t0)
theorem guard_as {t : T} {ns : List Int} {r : Res1 T} (h : formedP t = 0) (h2 : ns.all (fun n => decide (0 ≤ n)) = true) : guardRes t ns r = asRes r := by
  cases r with
  | ok u => exact guard_ok h h2 rfl
  | bad e => exact guard_bad h h2 rfl
theorem most_in64 {b : Int} (h0 : 0 ≤ b) (h1 : b ≤ 1000000) : 0 ≤ most b := by rw [most_of (by unfold in64; omega) h0]; omega
theorem vars_as {t : T} {b : Int} (h : formedP t = 0) (hv : 0 ≤ b ∧ b ≤ 1000000) : varsRes t 0 b = asRes (Vl b t) := by
  have := most_in64 hv.1 hv.2
  exact guard_as h (by simp [hv.1, this])
theorem rowLift_bad {l : List Cl} {f b e : Int} (h : rowLift b l f = .bad e) : e ≠ 0 := by
  unfold rowLift at h
  split at h
  · cases h
  · split at h
    · cases h
    · rename_i h2; injection h with h; exact h ▸ h2
mutual
theorem lift_bad_ne' {vb db : Int} : ∀ {t : T} {c : Int × Int} {e : Int}, trav (liftTr vb db) t c = .bad e → e ≠ 0
  | .mk k n nm r ks ss, c, e, h => by
    rw [trav_eq] at h
    simp only [T.kind, T.n, T.name, T.r, T.kids, T.sys] at h
    rw [lift_own_eq] at h
    cases h0 : rowLift db r c.2 with
    | bad e' => rw [h0] at h; injection h with h; exact h ▸ rowLift_bad h0
    | ok g =>
      rw [h0] at h
      simp only [Res1.bind] at h
      by_cases h6 : k = 1 ∧ c.1 ≤ n ∧ 1000000000 - vb < n
      · rw [if_pos h6] at h; injection h with h; subst h; decide
      · rw [if_neg h6] at h
        simp only at h
        cases h1 : travL (liftTr vb db) k 0 ks c with
        | bad e' => rw [h1] at h; injection h with h; exact h ▸ liftL_bad_ne h1
        | ok x =>
          rw [h1] at h
          simp only at h
          cases h2 : travB (liftTr vb db) k ss c with
          | bad e' => rw [h2] at h; injection h with h; exact h ▸ liftB_bad_ne h2
          | ok y => rw [h2] at h; cases h
theorem liftL_bad_ne {vb db k : Int} : ∀ {ts : List T} {i : Nat} {c : Int × Int} {e : Int}, travL (liftTr vb db) k i ts c = .bad e → e ≠ 0
  | [], i, c, e, h => by rw [travL_nil] at h; cases h
  | t :: ts, i, c, e, h => by
    rw [travL_cons, lift_kid] at h
    simp only [Res1.bind] at h
    cases h1 : trav (liftTr vb db) t (c.1 + (binds k i).1, c.2 + (binds k i).2) with
    | bad e' => rw [h1] at h; injection h with h; exact h ▸ lift_bad_ne' h1
    | ok x =>
      rw [h1] at h
      simp only at h
      cases h2 : travL (liftTr vb db) k (i + 1) ts c with
      | bad e' => rw [h2] at h; injection h with h; exact h ▸ liftL_bad_ne h2
      | ok y => rw [h2] at h; cases h
theorem liftS_bad_ne {vb db k : Int} : ∀ {ts : List T} {c : Int × Int} {e : Int}, travS (liftTr vb db) k ts c = .bad e → e ≠ 0
  | [], c, e, h => by rw [travS_nil] at h; cases h
  | t :: ts, c, e, h => by
    rw [travS_cons, lift_kid] at h
    simp only [Res1.bind] at h
    cases h1 : trav (liftTr vb db) t (c.1 + 0, c.2 + more k) with
    | bad e' => rw [h1] at h; injection h with h; exact h ▸ lift_bad_ne' h1
    | ok x =>
      rw [h1] at h
      simp only at h
      cases h2 : travS (liftTr vb db) k ts c with
      | bad e' => rw [h2] at h; injection h with h; exact h ▸ liftS_bad_ne h2
      | ok y => rw [h2] at h; cases h
theorem liftB_bad_ne {vb db k : Int} : ∀ {bs : List Br} {c : Int × Int} {e : Int}, travB (liftTr vb db) k bs c = .bad e → e ≠ 0
  | [], c, e, h => by rw [travB_nil] at h; cases h
  | .mk f ks :: bs, c, e, h => by
    rw [travB_cons, lift_face_def] at h
    simp only [Br.face, Br.kids] at h
    cases h0 : rowLift db f c.2 with
    | bad e' => rw [h0] at h; injection h with h; exact h ▸ rowLift_bad h0
    | ok g =>
      rw [h0] at h
      simp only [Res1.bind] at h
      cases h1 : travS (liftTr vb db) k ks c with
      | bad e' => rw [h1] at h; injection h with h; exact h ▸ liftS_bad_ne h1
      | ok x =>
        rw [h1] at h
        simp only at h
        cases h2 : travB (liftTr vb db) k bs c with
        | bad e' => rw [h2] at h; injection h with h; exact h ▸ liftB_bad_ne h2
        | ok y => rw [h2] at h; cases h
end
end Go.Hy
namespace Go.Hy
set_option linter.unusedVariables false
set_option linter.unusedSimpArgs false
set_option linter.unusedSectionVars false
set_option linter.unusedVariables false
set_option linter.unusedSimpArgs false
/-! ### A contract whose result is only known to be so and so -/
theorem Spec.hide {P : Program} {k : FuncId} {args : Array Value} {pre : List Fact} {Ms0 : List Res} {α X : Type} (r : α) {val : α → X → Value} {N : α → X → List Fact} {Ms1 : α → X → List Res} (h : Spec P k args pre Ms0 (val r) (N r) (Ms1 r)) :
    Spec P k args pre Ms0 (fun x : {x : α × X // x.1 = r} => val x.1.1 x.1.2) (fun x => N x.1.1 x.1.2) (fun x => Ms1 x.1.1 x.1.2) := fun ok w hk hs => (h ok w hk hs).mono fun e w' hh => by
  obtain ⟨x, he, hs'⟩ := hh
  exact ⟨⟨(r, x), rfl⟩, he, hs'⟩
/-! ### What a way tells of the parts -/
section
variable {C : Type} {A : Tr C}
theorem mem_getD {α : Type} {d x : α} {l : List α} (h : x ∈ l) : ∃ i, i < l.length ∧ l.getD i d = x := by
  obtain ⟨i, hi, e⟩ := List.mem_iff_getElem.mp h
  exact ⟨i, hi, by rw [getD_get (d := d) hi]; exact e⟩
theorem bind_bad_of {α β : Type} {x : Res1 α} {k : α → Res1 β} {e : Int} (h : x.bind k = .bad e) : x = .bad e ∨ ∃ a, x = .ok a ∧ k a = .bad e := by
  cases x with
  | ok a => exact .inr ⟨a, rfl, h⟩
  | bad e' => injection h with h; subst h; exact .inl rfl
theorem travL_why {k : Int} {c : C} {e : Int} : ∀ {ts : List T} {i : Nat}, travL A k i ts c = .bad e → ∃ j, j < ts.length ∧ (A.kid c (binds k ((i + j : Nat) : Int)) = .bad e ∨ ∃ c', A.kid c (binds k ((i + j : Nat) : Int)) = .ok c' ∧ trav A (ts.getD j t0) c' = .bad e)
  | [], i, h => by rw [travL_nil] at h; cases h
  | t :: ts, i, h => by
    rw [travL_cons] at h
    rcases bind_bad_of h with h | ⟨c', h1, h⟩
    · exact ⟨0, by simp, .inl (by simpa using h)⟩
    · rcases bind_bad_of h with h | ⟨t', h2, h⟩
      · exact ⟨0, by simp, .inr ⟨c', by simpa using h1, by simpa using h⟩⟩
      · rcases bind_bad_of h with h | ⟨ts', h3, h⟩
        · obtain ⟨j, hj, h4⟩ := travL_why h
          refine ⟨j + 1, by simpa using hj, ?_⟩
          rw [List.getD_cons_succ, show i + (j + 1) = i + 1 + j by omega]; exact h4
        · cases h
theorem travS_why {k : Int} {c : C} {e : Int} : ∀ {ts : List T}, travS A k ts c = .bad e → ∃ j, j < ts.length ∧ (A.kid c (0, more k) = .bad e ∨ ∃ c', A.kid c (0, more k) = .ok c' ∧ trav A (ts.getD j t0) c' = .bad e)
  | [], h => by rw [travS_nil] at h; cases h
  | t :: ts, h => by
    rw [travS_cons] at h
    rcases bind_bad_of h with h | ⟨c', h1, h⟩
    · exact ⟨0, by simp, .inl h⟩
    · rcases bind_bad_of h with h | ⟨t', h2, h⟩
      · exact ⟨0, by simp, .inr ⟨c', h1, by simpa using h⟩⟩
      · rcases bind_bad_of h with h | ⟨ts', h3, h⟩
        · obtain ⟨j, hj, h4⟩ := travS_why h
          exact ⟨j + 1, by simpa using hj, by rw [List.getD_cons_succ]; exact h4⟩
        · cases h
theorem travB_why {k : Int} {c : C} {e : Int} : ∀ {bs : List Br}, travB A k bs c = .bad e → ∃ b, b ∈ bs ∧ (A.face c b.face = .bad e ∨ travS A k b.kids c = .bad e)
  | [], h => by rw [travB_nil] at h; cases h
  | b :: bs, h => by
    rw [travB_cons] at h
    rcases bind_bad_of h with h | ⟨o, h1, h⟩
    · exact ⟨b, List.mem_cons_self, .inl h⟩
    · cases o with
      | none => obtain ⟨x, hx, h⟩ := travB_why h; exact ⟨x, List.mem_cons_of_mem _ hx, h⟩
      | some f' =>
        rcases bind_bad_of h with h | ⟨ks, h2, h⟩
        · exact ⟨b, List.mem_cons_self, .inr h⟩
        · rcases bind_bad_of h with h | ⟨us, h3, h⟩
          · obtain ⟨x, hx, h⟩ := travB_why h; exact ⟨x, List.mem_cons_of_mem _ hx, h⟩
          · cases h
theorem trav_why {t : T} {c : C} {e : Int} (h : trav A t c = .bad e) : A.own c t.kind t.n t.name t.r = .bad e ∨ (∃ b, b ∈ t.sys ∧ A.face c b.face = .bad e) ∨ ∃ p, p ∈ parts t ∧ (A.kid c p.2 = .bad e ∨ ∃ c', A.kid c p.2 = .ok c' ∧ trav A p.1 c' = .bad e) := by
  rw [trav_eq] at h
  rcases bind_bad_of h with h | ⟨o, h1, h⟩
  · exact .inl h
  · cases o with
    | inl u => cases h
    | inr p =>
      rcases bind_bad_of h with h | ⟨ks, h2, h⟩
      · obtain ⟨j, hj, h3⟩ := travL_why h
        rw [Nat.zero_add] at h3
        exact .inr (.inr ⟨_, List.mem_of_getElem? (parts_kid t j hj), h3⟩)
      · rcases bind_bad_of h with h | ⟨ss, h3, h⟩
        · obtain ⟨b, hb, h4⟩ := travB_why h
          rcases h4 with h4 | h4
          · exact .inr (.inl ⟨b, hb, h4⟩)
          · obtain ⟨j, hj, h5⟩ := travS_why h4
            obtain ⟨s, hs, e2⟩ := mem_getD (d := br0) hb
            refine .inr (.inr ⟨_, List.mem_of_getElem? (parts_sys t s j hs (by rw [e2]; exact hj)), ?_⟩)
            rw [e2]; exact h5
        · cases h
end
end Go.Hy
namespace Go.Hy
set_option linter.unusedVariables false
set_option linter.unusedSimpArgs false
set_option linter.unusedSectionVars false
set_option linter.unusedVariables false
set_option linter.unusedSimpArgs false
/-! ### What a lift does to the bits -/
theorem maskLift_from {s : Nat} {f b : Int} (h : (maskLift s f b).1 = 0) (i : Nat) (hi : (maskLift s f b).2.testBit i = true) : ∃ j, j < 24 ∧ s.testBit j = true ∧ (((j : Int) < f ∧ i = j) ∨ (f ≤ (j : Int) ∨ 24 ≤ j) ∧ (i : Int) = j + b) := by
  obtain ⟨h0, h1, h2⟩ := maskLift_bit h i
  rw [h2, Bool.or_eq_true, Bool.and_eq_true, Bool.and_eq_true, decide_eq_true_eq, decide_eq_true_eq, and24_bit, and24_bit, Bool.and_eq_true, Bool.and_eq_true, decide_eq_true_eq, decide_eq_true_eq] at hi
  rcases hi with ⟨h3, h4, h5⟩ | ⟨h3, h4, h5⟩
  · exact ⟨i, h4, h5, .inl ⟨by omega, rfl⟩⟩
  · exact ⟨i - b.toNat, h4, h5, .inr ⟨by omega, by omega⟩⟩
theorem lift_kid_eq {vb db : Int} {c c' : Int × Int} {b : Int × Int} (h : (liftTr vb db).kid c b = .ok c') : c' = (c.1 + b.1, c.2 + b.2) := by injection h with h; exact h.symm
theorem fine_part {t : T} (h : fineT t) {p : Part} (hp : p ∈ parts t) : fineT p.1 := (fine_parts.mp h).2 p hp
theorem face_row {l : List Cl} (h : faceRight l = true) : fRight l = true := by
  unfold faceRight at h
  rw [Bool.and_eq_true] at h
  exact h.1
end Go.Hy
namespace Go.Hy
set_option linter.unusedVariables false
set_option linter.unusedSimpArgs false
set_option linter.unusedSectionVars false
theorem St.litI {B : Base} {Γ : List Fact} {Ms : List Res} {w : World} {b : Nat} {e : TypeId} {cs : List Value} (l : List Int) (hs : St B Γ (boxR b cs e :: Ms) w) {hBp : Prop} (hB : hBp) (hc : cs = intFlat l) (hn : l.length ≤ 1000) (hu : ∀ c, c ∈ l → in64 c) : St B (IL l (some ⟨b, 0, Option.none⟩, l.length) :: Γ) Ms w :=
  (hs.boxRow (sz := 1) (m := l.length) (by rw [hc, flat_len intCells_len l]) (by unfold maxLen; omega)).settleIL hB hc rfl (by unfold reach; omega) hu
end Go.Hy
namespace Go.Hy
set_option linter.unusedVariables false
set_option linter.unusedSimpArgs false
set_option linter.unusedSectionVars false
/-! ### The chapter's examples of lifts -/
def vE (n : Int) : T := .mk 1 n ⟨#[]⟩ [] [] []
theorem vars_okT {t : T} {f b : Int} (hb : in64 b) (h : okT t) : okT (varsRes t f b).2 := by
  refine guard_okT' (fun ha u hu => ?_)
  simp only [List.all_cons, List.all_nil, Bool.and_true, Bool.and_eq_true, decide_eq_true_eq] at ha
  exact lift_okT ⟨ha.2.1, most_le hb ha.2.1 ha.2.2⟩ h hu
theorem both_okT {t : T} {v d : Int} (hv : in64 v) (h : okT t) : okT (bothRes t v d).2 := by
  refine guard_okT' (fun ha u hu => ?_)
  simp only [List.all_cons, List.all_nil, Bool.and_true, Bool.and_eq_true, decide_eq_true_eq] at ha
  obtain ⟨x, hx, hu⟩ := Res1.bind_ok hu
  exact lift_okT (by omega) (lift_okT ⟨ha.1, most_le hv ha.1 ha.2.2⟩ h hx) hu
theorem guard_size {t : T} {ns : List Int} {r : Res1 T} (h : ∀ u, r = .ok u → size u = size t) : size (guardRes t ns r).2 ≤ size t := by
  have h0 : size t0 ≤ size t := by have := size_pos' t; rw [show size t0 = 1 by decide +kernel]; exact this
  unfold guardRes
  split
  · exact h0
  · split
    · exact h0
    · cases r with
      | ok u => exact Nat.le_of_eq (h u rfl)
      | bad e => exact h0
theorem vars_size (t : T) (f b : Int) : size (varsRes t f b).2 ≤ size t := guard_size fun u hu => lift_size hu
end Go.Hy
namespace Go.Hy
set_option linter.unusedVariables false
set_option linter.unusedSimpArgs false
set_option linter.unusedSectionVars false
set_option linter.unusedVariables false
set_option linter.unusedSimpArgs false
/-! ### A term in the place of a variable -/
def plugOwn (n : Int) (u : T) (c : Int × Int) (k m : Int) (r : List Cl) : Res1 (T ⊕ (Int × List Cl)) :=
  if k = 1 then (if m = n + c.1 then (if (bothRes u c.1 c.2).1 = 0 then .ok (.inl (bothRes u c.1 c.2).2) else .bad (bothRes u c.1 c.2).1) else .ok (.inr (if n + c.1 < m then m - 1 else m, r))) else .ok (.inr (m, r))
def plugTr (n : Int) (u : T) : Tr (Int × Int) where
  own c k m _ r := plugOwn n u c k m r
  face _ f := .ok (some f)
  kid c b := .ok (c.1 + b.1, c.2 + b.2)
theorem fine_var {t : T} (h : fineT t) (hk : t.kind = 1) : t = .mk 1 t.n ⟨#[]⟩ [] [] [] ∧ 0 ≤ t.n := by
  obtain ⟨h1, h2, h3, h4, h5⟩ := fineT_iff.mp h
  obtain ⟨_, a2, a3, _⟩ := h1
  have hn : t.name = ⟨#[]⟩ := bytes_eq.mp (beq_iff_eq.mpr (a2 (by rw [hk]; decide)))
  have hr := (a3 hk).1
  have hks : t.kids = [] := by
    rw [hk, show kidsN 1 = 0 by decide] at h2
    exact List.eq_nil_of_length_eq_zero (by omega)
  have hss := h3 (by rw [hk]; decide)
  refine ⟨?_, (a3 hk).2⟩
  obtain ⟨k, n, nm, r, ks, ss⟩ := t
  simp only [T.kind, T.n, T.name, T.r, T.kids, T.sys] at *
  subst hk hn hr hks hss
  rfl
theorem fine_zero {t : T} (h : fineT t) (hk : t.kind ≠ 1) : t.n = 0 := (fineT_iff.mp h).1.1 hk
theorem plug_kid {n : Int} {u : T} {v d : Int} {b : Int × Int} : (plugTr n u).kid (v, d) b = .ok (v + b.1, d + b.2) := rfl
theorem plug_face {n : Int} {u : T} {c : Int × Int} {f : List Cl} : (plugTr n u).face c f = .ok (some f) := rfl
theorem plug_own_ne {n : Int} {u : T} {c : Int × Int} {k m : Int} {nm : ByteArray} {r : List Cl} (hk : k ≠ 1) : (plugTr n u).own c k m nm r = .ok (.inr (m, r)) := by
  show plugOwn n u c k m r = _
  unfold plugOwn
  rw [if_neg hk]
theorem plug_own_hit {n : Int} {u : T} {c : Int × Int} {m : Int} {nm : ByteArray} {r : List Cl} (h : m = n + c.1) : (plugTr n u).own c 1 m nm r = if (bothRes u c.1 c.2).1 = 0 then .ok (.inl (bothRes u c.1 c.2).2) else .bad (bothRes u c.1 c.2).1 := by
  show plugOwn n u c 1 m r = _
  unfold plugOwn
  rw [if_pos rfl, if_pos h]
theorem plug_own_not {n : Int} {u : T} {c : Int × Int} {m : Int} {nm : ByteArray} {r : List Cl} (h : m ≠ n + c.1) : (plugTr n u).own c 1 m nm r = .ok (.inr (if n + c.1 < m then m - 1 else m, r)) := by
  show plugOwn n u c 1 m r = _
  unfold plugOwn
  rw [if_pos rfl, if_neg h]
theorem plug_hit {n : Int} {u t : T} {v d : Int} (hk : t.kind = 1) (h : t.n = n + v) (h0 : (bothRes u v d).1 = 0) : trav (plugTr n u) t (v, d) = .ok (bothRes u v d).2 := by
  rw [trav_eq, hk, plug_own_hit h, if_pos h0]; rfl
theorem plug_hit_bad {n : Int} {u t : T} {v d : Int} (hk : t.kind = 1) (h : t.n = n + v) (h0 : (bothRes u v d).1 ≠ 0) : trav (plugTr n u) t (v, d) = .bad (bothRes u v d).1 := by
  rw [trav_eq, hk, plug_own_hit h, if_neg h0]; rfl
theorem plug_miss {n : Int} {u t : T} {c : Int × Int} (hf : fineT t) (hk : t.kind = 1) (h : t.n ≠ n + c.1) : trav (plugTr n u) t c = .ok (.mk 1 (if n + c.1 < t.n then t.n - 1 else t.n) ⟨#[]⟩ [] [] []) := by
  have e := (fine_var hf hk).1
  generalize t.n = m at e h ⊢
  subst e
  rw [trav_eq]
  simp only [T.kind, T.n, T.name, T.r, T.kids, T.sys]
  rw [plug_own_not h]
  simp only [Res1.bind, travL_nil, travB_nil]
theorem plug_less {n : Int} {u t : T} {c : Int × Int} (hf : fineT t) (hk : t.kind = 1) (h : n + c.1 < t.n) : trav (plugTr n u) t c = .ok (.mk 1 (t.n - 1) ⟨#[]⟩ [] [] []) := by
  rw [plug_miss hf hk (by omega), if_pos h]
theorem plug_same {n : Int} {u t : T} {c : Int × Int} (hf : fineT t) (hk : t.kind = 1) (h : t.n < n + c.1) : trav (plugTr n u) t c = .ok t := by
  rw [plug_miss hf hk (by omega), if_neg (by omega)]
  exact congrArg Res1.ok (fine_var hf hk).1.symm
theorem plugB_all {n : Int} {u : T} {k : Int} {c : Int × Int} : ∀ {l l' : List Br}, travB (plugTr n u) k l c = .ok l' → l'.length = l.length
  | [], l', h => by rw [travB_nil] at h; injection h with h; subst h; rfl
  | b :: l, l', h => by
    rw [travB_cons, plug_face] at h
    simp only [Res1.bind] at h
    obtain ⟨ks, h1, h⟩ := Res1.bind_ok (x := travS (plugTr n u) k b.kids c) h
    obtain ⟨bs, h2, h⟩ := Res1.bind_ok h
    injection h with h
    subst h
    rw [List.length_cons, List.length_cons, plugB_all h2]
/-! ### How often a variable stands in a term -/
mutual
def countT : T → Int → Int
  | .mk k n nm r ks ss, m => if k = 1 ∧ n = m then 1 else countL k 0 ks m + countB ss m
def countL (k : Int) : Nat → List T → Int → Int
  | _, [], _ => 0
  | i, t :: ts, m => countT t (m + (binds k i).1) + countL k (i + 1) ts m
def countS : List T → Int → Int
  | [], _ => 0
  | t :: ts, m => countT t m + countS ts m
def countB : List Br → Int → Int
  | [], _ => 0
  | .mk f ks :: bs, m => countS ks m + countB bs m
end
theorem countT_eq (t : T) (m : Int) : countT t m = if t.kind = 1 ∧ t.n = m then 1 else countL t.kind 0 t.kids m + countB t.sys m := by obtain ⟨k, n, nm, r, ks, ss⟩ := t; rfl
theorem countL_snoc {k m : Int} {t : T} : ∀ {ts : List T} {i : Nat}, countL k i (ts ++ [t]) m = countL k i ts m + countT t (m + (binds k ((i + ts.length : Nat) : Int)).1)
  | [], i => by simp only [List.nil_append, countL, List.length_nil, Nat.add_zero]; omega
  | a :: ts, i => by
    rw [List.cons_append, countL, countL_snoc (ts := ts), countL, List.length_cons, show i + 1 + ts.length = i + (ts.length + 1) by omega]
    omega
theorem countS_snoc {m : Int} {t : T} : ∀ {ts : List T}, countS (ts ++ [t]) m = countS ts m + countT t m
  | [] => by simp only [List.nil_append, countS]; omega
  | a :: ts => by rw [List.cons_append, countS, countS_snoc (ts := ts), countS]; omega
theorem countB_snoc {m : Int} {b : Br} : ∀ {bs : List Br}, countB (bs ++ [b]) m = countB bs m + countS b.kids m
  | [] => by obtain ⟨f, ks⟩ := b; simp only [List.nil_append, countB, Br.kids]; omega
  | .mk f ks :: bs => by rw [List.cons_append, countB, countB_snoc (bs := bs), countB]; omega
/-! ### Sizes as sums -/
def sizeL : List T → Nat
  | [] => 0
  | t :: ts => size t + sizeL ts
def sizeB : List Br → Nat
  | [] => 0
  | b :: bs => sizeL b.kids + sizeB bs
theorem foldl_add {α : Type} (f : α → Nat) : ∀ (l : List α) (a : Nat), l.foldl (fun a p => a + f p) a = a + l.foldl (fun a p => a + f p) 0
  | [], a => rfl
  | x :: l, a => by rw [List.foldl_cons, List.foldl_cons, foldl_add f l (a + f x), foldl_add f l (0 + f x)]; omega
theorem size_sumLB (t : T) : size t = 1 + sizeL t.kids + sizeB t.sys := by
  have hk : ∀ (k : Int) (ts : List T) (i : Nat), (kidParts k i ts).foldl (fun a p => a + size p.1) 0 = sizeL ts := by
    intro k ts
    induction ts with
    | nil => intro i; rfl
    | cons t ts ih => intro i; rw [kidParts, List.foldl_cons, foldl_add, ih, sizeL]; simp only; omega
  have hm : ∀ (ts : List T) (b : Int × Int), (ts.map fun k => ((k, b.1, b.2) : Part)).foldl (fun a p => a + size p.1) 0 = sizeL ts := by
    intro ts b
    induction ts with
    | nil => rfl
    | cons t ts ih => rw [List.map_cons, List.foldl_cons, foldl_add, ih, sizeL]; simp only; omega
  have hs : ∀ (k : Int) (bs : List Br), (sysParts k bs).foldl (fun a p => a + size p.1) 0 = sizeB bs := by
    intro k bs
    induction bs with
    | nil => rfl
    | cons b bs ih => rw [sysParts, List.foldl_append, foldl_add, ih, hm b.kids (0, more k), sizeB]
  rw [size_eq, parts, List.foldl_append, foldl_add, hs, foldl_add, hk]
mutual
theorem count_ge : ∀ (t : T) (m : Int), 0 ≤ countT t m
  | .mk k n nm r ks ss, m => by
    rw [countT]
    have h1 := countL_ge (k := k) ks 0 m
    have h2 := countB_ge ss m
    split <;> omega
theorem countL_ge {k : Int} : ∀ (ts : List T) (i : Nat) (m : Int), 0 ≤ countL k i ts m
  | [], i, m => by rw [countL]; omega
  | t :: ts, i, m => by
    rw [countL]
    have h1 := count_ge t (m + (binds k i).1)
    have h2 := countL_ge (k := k) ts (i + 1) m
    omega
theorem countS_ge : ∀ (ts : List T) (m : Int), 0 ≤ countS ts m
  | [], m => by rw [countS]; omega
  | t :: ts, m => by
    rw [countS]
    have h1 := count_ge t m
    have h2 := countS_ge ts m
    omega
theorem countB_ge : ∀ (bs : List Br) (m : Int), 0 ≤ countB bs m
  | [], m => by rw [countB]; omega
  | .mk f ks :: bs, m => by
    rw [countB]
    have h1 := countS_ge ks m
    have h2 := countB_ge bs m
    omega
end
mutual
theorem count_le : ∀ (t : T) (m : Int), countT t m ≤ size t
  | .mk k n nm r ks ss, m => by
    rw [countT, size_sumLB]
    have h1 := countL_le (k := k) ks 0 m
    have h2 := countB_le ss m
    show _ ≤ ((1 + sizeL ks + sizeB ss : Nat) : Int)
    split <;> omega
theorem countL_le {k : Int} : ∀ (ts : List T) (i : Nat) (m : Int), countL k i ts m ≤ sizeL ts
  | [], i, m => by rw [countL, sizeL]; omega
  | t :: ts, i, m => by
    rw [countL, sizeL]
    have h1 := count_le t (m + (binds k i).1)
    have h2 := countL_le (k := k) ts (i + 1) m
    omega
theorem countS_le : ∀ (ts : List T) (m : Int), countS ts m ≤ sizeL ts
  | [], m => by rw [countS, sizeL]; omega
  | t :: ts, m => by
    rw [countS, sizeL]
    have h1 := count_le t m
    have h2 := countS_le ts m
    omega
theorem countB_le : ∀ (bs : List Br) (m : Int), countB bs m ≤ sizeB bs
  | [], m => by rw [countB, sizeB]; omega
  | .mk f ks :: bs, m => by
    rw [countB, sizeB]
    have h1 := countS_le ks m
    have h2 := countB_le bs m
    simp only [Br.kids]
    omega
end
theorem countL_take {k m : Int} (ts : List T) (i : Nat) : ∀ j, countL k i (ts.take j) m ≤ countL k i ts m := by
  induction ts generalizing i with
  | nil => intro j; rw [List.take_nil]; omega
  | cons t ts ih =>
    intro j
    cases j with
    | zero => rw [List.take_zero]; exact countL_ge (t :: ts) i m
    | succ j => rw [List.take_succ_cons, countL, countL]; have := ih (i + 1) j; omega
theorem countS_take {m : Int} (ts : List T) : ∀ j, countS (ts.take j) m ≤ countS ts m := by
  induction ts with
  | nil => intro j; rw [List.take_nil]; omega
  | cons t ts ih =>
    intro j
    cases j with
    | zero => rw [List.take_zero]; exact countS_ge (t :: ts) m
    | succ j => rw [List.take_succ_cons, countS, countS]; have := ih j; omega
theorem countB_take {m : Int} (bs : List Br) : ∀ j, countB (bs.take j) m ≤ countB bs m := by
  induction bs with
  | nil => intro j; rw [List.take_nil]; omega
  | cons b bs ih =>
    intro j
    obtain ⟨f, ks⟩ := b
    cases j with
    | zero => rw [List.take_zero]; exact countB_ge (.mk f ks :: bs) m
    | succ j => rw [List.take_succ_cons, countB, countB]; have := ih j; omega
/-! The sums of the walk. -/
def cntA (t : T) (m : Int) (i : Nat) : Int := countL t.kind 0 (t.kids.take i) m
def cntB (t : T) (m : Int) (s : Nat) : Int := countL t.kind 0 t.kids m + countB (t.sys.take s) m
def cntC (t : T) (m : Int) (s k : Nat) : Int := cntB t m s + countS ((t.sys.getD s br0).kids.take k) m
theorem cntA_zero (t : T) (m : Int) : cntA t m 0 = 0 := by simp [cntA, countL]
theorem cntA_succ {t : T} {m : Int} {i : Nat} (h : i < t.kids.length) : cntA t m (i + 1) = cntA t m i + countT (t.kids.getD i t0) (m + (binds t.kind (i : Int)).1) := by
  unfold cntA
  rw [take_succ_getD (d := t0) h, countL_snoc, List.length_take, Nat.min_eq_left (by omega), Nat.zero_add]
theorem cntB_zero (t : T) (m : Int) : cntB t m 0 = cntA t m t.kids.length := by
  unfold cntB cntA
  rw [List.take_length, List.take_zero, show countB [] m = 0 from rfl]; omega
theorem cntB_all {t : T} {m : Int} (h : ¬ (t.kind = 1 ∧ t.n = m)) : cntB t m t.sys.length = countT t m := by unfold cntB; rw [List.take_length, countT_eq, if_neg h]
theorem cntC_zero (t : T) (m : Int) (s : Nat) : cntC t m s 0 = cntB t m s := by
  unfold cntC
  rw [List.take_zero, show countS [] m = 0 from rfl]; omega
theorem cntC_succ {t : T} {m : Int} {s k : Nat} (h : k < (t.sys.getD s br0).kids.length) : cntC t m s (k + 1) = cntC t m s k + countT ((t.sys.getD s br0).kids.getD k t0) m := by
  unfold cntC
  rw [take_succ_getD (d := t0) h, countS_snoc]; omega
theorem cntC_all {t : T} {m : Int} {s : Nat} (h : s < t.sys.length) : cntC t m s (t.sys.getD s br0).kids.length = cntB t m (s + 1) := by
  unfold cntC cntB
  rw [List.take_length, take_succ_getD (d := br0) h, countB_snoc]; omega
theorem cntA_in (t : T) (m : Int) (i : Nat) : 0 ≤ cntA t m i ∧ cntA t m i ≤ size t := by
  have h1 := countL_ge (k := t.kind) (t.kids.take i) 0 m
  have h2 := countL_take (k := t.kind) (m := m) t.kids 0 i
  have h3 := countL_le (k := t.kind) t.kids 0 m
  have h4 := size_sumLB t
  unfold cntA
  omega
theorem cntC_in {t : T} {m : Int} {s : Nat} (hs : s < t.sys.length) (k : Nat) : 0 ≤ cntC t m s k ∧ cntC t m s k ≤ size t := by
  have h1 := countL_ge (k := t.kind) t.kids 0 m
  have h2 := countB_ge (t.sys.take s) m
  have h3 := countS_ge ((t.sys.getD s br0).kids.take k) m
  have h4 := countS_take (m := m) (t.sys.getD s br0).kids k
  have h5 := countB_take (m := m) t.sys (s + 1)
  rw [take_succ_getD (d := br0) hs, countB_snoc] at h5
  have h6 := countB_le t.sys m
  have h7 := countL_le (k := t.kind) t.kids 0 m
  have h8 := size_sumLB t
  unfold cntC cntB
  omega
/-! ### What plug.At tells -/
abbrev lid (n : Int) : Int := if 1099511627776 < n then 1099511627776 else n
def plugRes (t : T) (n : Int) (u : T) : Int × T :=
  if formedP t ≠ 0 then (formedP t, t0) else if formedP u ≠ 0 then (formedP u, t0) else if n < 0 then (2, t0) else
  if 20000 < (size t : Int) + countT t (lid n) * ((size u : Int) - 1) then (221, t0) else
  match trav (plugTr (lid n) u) t (0, 0) with
  | .bad e => (e, t0)
  | .ok x => if 200 < depth x then (62, t0) else (0, x)
section
variable {t u : T} {n : Int}
theorem plugRes_t (h : formedP t ≠ 0) : plugRes t n u = (formedP t, t0) := by unfold plugRes; rw [if_pos h]
theorem plugRes_u (h : formedP t = 0) (h2 : formedP u ≠ 0) : plugRes t n u = (formedP u, t0) := by unfold plugRes; rw [if_neg (by simp [h]), if_pos h2]
theorem plugRes_n (h : formedP t = 0) (h2 : formedP u = 0) (h3 : n < 0) : plugRes t n u = (2, t0) := by unfold plugRes; rw [if_neg (by simp [h]), if_neg (by simp [h2]), if_pos h3]
theorem plugRes_size (h : formedP t = 0) (h2 : formedP u = 0) (h3 : ¬ n < 0) (h4 : 20000 < (size t : Int) + countT t (lid n) * ((size u : Int) - 1)) : plugRes t n u = (221, t0) := by unfold plugRes; rw [if_neg (by simp [h]), if_neg (by simp [h2]), if_neg h3, if_pos h4]
theorem plugRes_bad {e : Int} (h : formedP t = 0) (h2 : formedP u = 0) (h3 : ¬ n < 0) (h4 : ¬ 20000 < (size t : Int) + countT t (lid n) * ((size u : Int) - 1)) (h5 : trav (plugTr (lid n) u) t (0, 0) = .bad e) : plugRes t n u = (e, t0) := by
  unfold plugRes; rw [if_neg (by simp [h]), if_neg (by simp [h2]), if_neg h3, if_neg h4, h5]
theorem plugRes_deep {x : T} (h : formedP t = 0) (h2 : formedP u = 0) (h3 : ¬ n < 0) (h4 : ¬ 20000 < (size t : Int) + countT t (lid n) * ((size u : Int) - 1)) (h5 : trav (plugTr (lid n) u) t (0, 0) = .ok x) (h6 : 200 < depth x) : plugRes t n u = (62, t0) := by
  unfold plugRes; rw [if_neg (by simp [h]), if_neg (by simp [h2]), if_neg h3, if_neg h4, h5]; simp only; rw [if_pos h6]
theorem plugRes_ok {x : T} (h : formedP t = 0) (h2 : formedP u = 0) (h3 : ¬ n < 0) (h4 : ¬ 20000 < (size t : Int) + countT t (lid n) * ((size u : Int) - 1)) (h5 : trav (plugTr (lid n) u) t (0, 0) = .ok x) (h6 : ¬ 200 < depth x) : plugRes t n u = (0, x) := by
  unfold plugRes; rw [if_neg (by simp [h]), if_neg (by simp [h2]), if_neg h3, if_neg h4, h5]; simp only; rw [if_neg h6]
end
theorem bothRes_told {u : T} {v d : Int} (h : (bothRes u v d).1 = 0) : formedP u = 0 ∧ 0 ≤ v ∧ 0 ≤ d ∧ bothR u v d = .ok (bothRes u v d).2 := by
  unfold bothRes guardRes at h ⊢
  split at h
  · rename_i h1; exact absurd h h1
  · rename_i h1
    split at h
    · cases h
    · rename_i h2
      rw [if_neg h1, if_neg h2]
      simp only [List.all_cons, List.all_nil, Bool.and_true, Bool.not_eq_false, Bool.and_eq_true, decide_eq_true_eq] at h2
      refine ⟨by omega, h2.1, h2.2.1, ?_⟩
      cases hx : bothR u v d with
      | bad e =>
        exfalso
        rw [hx] at h
        simp only at h
        rcases bind_bad_of hx with h3 | ⟨y, _, h3⟩
        · exact lift_bad_ne' h3 h
        · exact lift_bad_ne' h3 h
      | ok x => rfl
theorem both_sized {u : T} {v d : Int} (h : (bothRes u v d).1 = 0) : size (bothRes u v d).2 = size u := by
  obtain ⟨_, _, _, h1⟩ := bothRes_told h
  obtain ⟨y, h2, h3⟩ := Res1.bind_ok (x := trav (liftTr v 0) u (0, 0)) h1
  rw [lift_size h3, lift_size h2]
mutual
theorem plug_size {n : Int} {u : T} : ∀ {t x : T} {c : Int × Int}, fineT t → trav (plugTr n u) t c = .ok x → (size x : Int) = size t + countT t (n + c.1) * ((size u : Int) - 1)
  | .mk k m nm r ks ss, x, c, hf, hx => by
    by_cases hk : k = 1
    · subst hk
      have hfv := fine_var hf rfl
      simp only [T.n, T.mk.injEq, true_and] at hfv
      obtain ⟨⟨hnm, hr, hks, hss⟩, _⟩ := hfv
      subst hr hks hss
      by_cases h : m = n + c.1
      · rw [trav_eq] at hx
        simp only [T.kind, T.n, T.name, T.r, T.kids, T.sys] at hx
        rw [plug_own_hit h] at hx
        split at hx
        · rename_i h0
          injection hx with hx
          rw [← hx, both_sized h0, countT, if_pos ⟨rfl, h⟩, size_sumLB (.mk 1 m nm [] [] [])]
          simp only [T.kids, T.sys, sizeL, sizeB]
          omega
        · cases hx
      · have := plug_miss (u := u) hf rfl (c := c) h
        rw [this] at hx
        injection hx with hx
        rw [← hx, countT, if_neg (show ¬ ((1 : Int) = 1 ∧ m = n + c.1) from fun h2 => h h2.2), size_sumLB, size_sumLB (.mk 1 m nm [] [] [])]
        simp only [T.kids, T.sys, sizeL, sizeB, countL, countB]
        omega
    · rw [trav_eq] at hx
      simp only [T.kind, T.n, T.name, T.r, T.kids, T.sys] at hx
      rw [plug_own_ne hk] at hx
      simp only [Res1.bind] at hx
      obtain ⟨ks', h1, hx⟩ := Res1.bind_ok (x := travL (plugTr n u) k 0 ks c) hx
      obtain ⟨ss', h2, hx⟩ := Res1.bind_ok hx
      injection hx with hx
      have hf2 := fineT_iff.mp hf
      simp only [T.kids, T.sys, T.kind] at hf2
      have e1 := plugL_size hf2.2.2.2.1 h1
      have e2 := plugB_size hf2.2.2.2.2 h2
      rw [← hx, countT, if_neg (fun h2 => hk h2.1), size_sumLB, size_sumLB]
      simp only [T.kids, T.sys]
      rw [Int.add_mul]
      omega
theorem plugL_size {n k : Int} {u : T} : ∀ {ts xs : List T} {i : Nat} {c : Int × Int}, fineL ts → travL (plugTr n u) k i ts c = .ok xs → (sizeL xs : Int) = sizeL ts + countL k i ts (n + c.1) * ((size u : Int) - 1)
  | [], xs, i, c, hf, hx => by rw [travL_nil] at hx; injection hx with hx; subst hx; simp [sizeL, countL]
  | t :: ts, xs, i, c, hf, hx => by
    rw [travL_cons, plug_kid] at hx
    simp only [Res1.bind] at hx
    obtain ⟨t', h2, hx⟩ := Res1.bind_ok (x := trav (plugTr n u) t _) hx
    obtain ⟨ts', h3, hx⟩ := Res1.bind_ok hx
    injection hx with hx
    subst hx
    have e1 := plug_size hf.1 h2
    have e2 := plugL_size hf.2 h3
    rw [sizeL, sizeL, countL, Int.add_mul]
    rw [← Int.add_assoc] at e1
    omega
theorem plugS_size {n k : Int} {u : T} : ∀ {ts xs : List T} {c : Int × Int}, fineL ts → travS (plugTr n u) k ts c = .ok xs → (sizeL xs : Int) = sizeL ts + countS ts (n + c.1) * ((size u : Int) - 1)
  | [], xs, c, hf, hx => by rw [travS_nil] at hx; injection hx with hx; subst hx; simp [sizeL, countS]
  | t :: ts, xs, c, hf, hx => by
    rw [travS_cons, plug_kid] at hx
    simp only [Res1.bind] at hx
    obtain ⟨t', h2, hx⟩ := Res1.bind_ok (x := trav (plugTr n u) t _) hx
    obtain ⟨ts', h3, hx⟩ := Res1.bind_ok hx
    injection hx with hx
    subst hx
    have e1 := plug_size hf.1 h2
    have e2 := plugS_size hf.2 h3
    rw [sizeL, sizeL, countS, Int.add_mul]
    rw [show n + (c.1 + 0) = n + c.1 by omega] at e1
    omega
theorem plugB_size {n k : Int} {u : T} : ∀ {bs xs : List Br} {c : Int × Int}, fineB k bs → travB (plugTr n u) k bs c = .ok xs → (sizeB xs : Int) = sizeB bs + countB bs (n + c.1) * ((size u : Int) - 1)
  | [], xs, c, hf, hx => by rw [travB_nil] at hx; injection hx with hx; subst hx; simp [sizeB, countB]
  | .mk f ks :: bs, xs, c, hf, hx => by
    rw [travB_cons, plug_face] at hx
    simp only [Res1.bind, Br.face, Br.kids] at hx
    obtain ⟨ks', h2, hx⟩ := Res1.bind_ok (x := travS (plugTr n u) k ks c) hx
    obtain ⟨bs', h3, hx⟩ := Res1.bind_ok hx
    injection hx with hx
    subst hx
    have e1 := plugS_size hf.2.2.1 h2
    have e2 := plugB_size hf.2.2.2 h3
    rw [sizeB, sizeB, countB, Int.add_mul]
    simp only [Br.kids]
    omega
end
end Go.Hy
namespace Go.Hy
set_option linter.unusedVariables false
set_option linter.unusedSimpArgs false
set_option linter.unusedSectionVars false
set_option linter.unusedVariables false
set_option linter.unusedSimpArgs false
/-! ### Lifted rows, clause by clause -/
theorem maskLift_iff {s : Nat} {f b : Int} (h : (maskLift s f b).1 = 0) (i : Nat) : (maskLift s f b).2.testBit i = true ↔ ∃ j, j < 24 ∧ s.testBit j = true ∧ (((j : Int) < f ∧ i = j) ∨ (f ≤ (j : Int) ∧ (i : Int) = j + b)) := by
  obtain ⟨h0, h1, h2⟩ := maskLift_bit h i
  constructor
  · intro hi
    obtain ⟨j, h3, h4, h5⟩ := maskLift_from h i hi
    exact ⟨j, h3, h4, by omega⟩
  · rintro ⟨j, h3, h4, h5⟩
    rw [h2, Bool.or_eq_true, Bool.and_eq_true, Bool.and_eq_true, decide_eq_true_eq, decide_eq_true_eq, and24_bit, and24_bit, Bool.and_eq_true, Bool.and_eq_true, decide_eq_true_eq, decide_eq_true_eq]
    rcases h5 with ⟨h5, rfl⟩ | ⟨h5, h6⟩
    · exact .inl ⟨by omega, h3, h4⟩
    · refine .inr ⟨by omega, ?_⟩
      rw [show i - b.toNat = j by omega]
      exact ⟨h3, h4⟩
theorem mask_add {s : Nat} {f b f2 b2 : Int} (hf : f ≤ f2) (hf2 : f2 ≤ f + b) (h1 : (maskLift s f b).1 = 0) (h2 : (maskLift (maskLift s f b).2 f2 b2).1 = 0) (h3 : (maskLift s f (b + b2)).1 = 0) : (maskLift (maskLift s f b).2 f2 b2).2 = (maskLift s f (b + b2)).2 := by
  obtain ⟨a1, a2, _⟩ := maskLift_bit h1 0
  obtain ⟨a3, a4, _⟩ := maskLift_bit h2 0
  refine Nat.eq_of_testBit_eq fun i => ?_
  rw [Bool.eq_iff_iff, maskLift_iff h2, maskLift_iff h3]
  have hlt := maskLift_lt s f b
  constructor
  · rintro ⟨j, h4, h5, h6⟩
    obtain ⟨j2, h7, h8, h9⟩ := (maskLift_iff h1 j).mp h5
    exact ⟨j2, h7, h8, by omega⟩
  · rintro ⟨j, h4, h5, h6⟩
    by_cases hj : (j : Int) < f
    · have h7 := (maskLift_iff h1 j).mpr ⟨j, h4, h5, .inl ⟨hj, rfl⟩⟩
      exact ⟨j, h4, h7, by omega⟩
    · have h7 := (maskLift_iff h1 (j + b.toNat)).mpr ⟨j, h4, h5, .inr ⟨by omega, by omega⟩⟩
      refine ⟨j + b.toNat, ?_, h7, by omega⟩
      refine Nat.lt_of_not_le fun hge => ?_
      rw [Nat.testBit_lt_two_pow (Nat.lt_of_lt_of_le hlt (Nat.pow_le_pow_right (n := 2) (i := 24) (by omega) hge))] at h7
      cases h7
theorem mask_sub {s m : Nat} {f b : Int} (hs : m < 16777216) (h1 : (maskLift s f b).1 = 0) (h2 : (maskLift m f b).1 = 0) (h : (maskLift s f b).2 ||| (maskLift m f b).2 = (maskLift s f b).2) : s ||| m = s := by
  refine Nat.eq_of_testBit_eq fun i => ?_
  rw [Nat.testBit_or, Bool.eq_iff_iff, Bool.or_eq_true]
  refine ⟨fun h3 => h3.elim id fun h3 => ?_, .inl⟩
  have hi : i < 24 := by
    refine Nat.lt_of_not_le fun hge => ?_
    rw [Nat.testBit_lt_two_pow (Nat.lt_of_lt_of_le hs (Nat.pow_le_pow_right (n := 2) (i := 24) (by omega) hge))] at h3
    cases h3
  have key : ∀ i' : Nat, (((i : Int) < f ∧ i' = i) ∨ (f ≤ (i : Int) ∧ (i' : Int) = i + b)) → s.testBit i = true := fun i' h4 => by
    have h5 := (maskLift_iff h2 i').mpr ⟨i, hi, h3, h4⟩
    have h6 : (maskLift s f b).2.testBit i' = true := by rw [← h, Nat.testBit_or, h5, Bool.or_true]
    obtain ⟨j, _, h7, h8⟩ := (maskLift_iff h1 i').mp h6
    obtain ⟨_, hb0, _⟩ := maskLift_bit h1 0
    rw [show i = j by omega]; exact h7
  by_cases hf : (i : Int) < f
  · exact key i (.inl ⟨hf, rfl⟩)
  · obtain ⟨_, hb0, _⟩ := maskLift_bit h1 0
    exact key (i + b.toNat) (.inr ⟨by omega, by omega⟩)
theorem mask_keep {s : Nat} {f b : Int} (hs : s < 16777216) (h0 : 0 ≤ f) (hb : 0 ≤ b) (h : b = 0 ∨ 24 ≤ f) : maskLift s f b = (0, s) := by
  have hs24 : s &&& 16777215 = s := by rw [and24]; exact Nat.mod_eq_of_lt hs
  have h1 : (maskLift s f b).1 = 0 := by
    unfold maskLift
    rw [if_neg (by omega)]
    split
    · rfl
    · rename_i h2
      rw [if_neg]
      rintro (h3 | h3)
      · rcases h with h | h
        · omega
        · refine h2 ?_
          refine Nat.eq_of_testBit_eq fun i => ?_
          rw [andNot32_bit, mask_bit, Nat.zero_testBit, and24_bit, show min f.toNat 24 = 24 by omega]
          by_cases hi : i < 24 <;> simp [hi]
      · rcases h with h | h
        · subst h
          have := andNot_lt (q := s &&& 16777215) (m := 2 ^ min f.toNat 24 - 1) (and24_lt s)
          simp at h3
          omega
        · refine h2 ?_
          refine Nat.eq_of_testBit_eq fun i => ?_
          rw [andNot32_bit, mask_bit, Nat.zero_testBit, and24_bit, show min f.toNat 24 = 24 by omega]
          by_cases hi : i < 24 <;> simp [hi]
  refine Prod.ext h1 ?_
  refine Nat.eq_of_testBit_eq fun i => ?_
  rw [Bool.eq_iff_iff, maskLift_iff h1]
  have hlt : ∀ j, s.testBit j = true → j < 24 := fun j hj => by
    refine Nat.lt_of_not_le fun hge => ?_
    rw [Nat.testBit_lt_two_pow (Nat.lt_of_lt_of_le hs (Nat.pow_le_pow_right (n := 2) (i := 24) (by omega) hge))] at hj
    cases hj
  constructor
  · rintro ⟨j, h2, h3, h4⟩
    rw [show i = j by omega]; exact h3
  · intro h2
    exact ⟨i, hlt i h2, h2, by have := hlt i h2; omega⟩
theorem fRight_parts {l : List Cl} (h : fRight l = true) : (∀ c, c ∈ l → right24 c = true) ∧ apart l = true := by
  unfold fRight at h
  simp only [Bool.and_eq_true, List.all_eq_true] at h
  exact ⟨h.1.1.1, h.1.2⟩
theorem right24_iff {c : Cl} : right24 c = true ↔ c.pos < 16777216 ∧ c.neg < 16777216 := by unfold right24; rw [Bool.and_eq_true, decide_eq_true_eq, decide_eq_true_eq]
/-- What is in a lifted row. -/
theorem row_mem {l g : List Cl} {f b : Int} (hl : fRight l = true) (h0 : 0 ≤ f) (hb : 0 ≤ b) (h : rowLift b l f = .ok g) : (∀ c, c ∈ l → (clLift c f b).1 = 0) ∧ ∀ x, x ∈ g ↔ ∃ c, c ∈ l ∧ x = (clLift c f b).2 := by
  obtain ⟨hr, hap⟩ := fRight_parts hl
  unfold rowLift at h
  split at h
  · rename_i h1
    injection h with h
    subst h
    have key : ∀ c, c ∈ l → clLift c f b = (0, c) := fun c hc => by
      obtain ⟨h2, h3⟩ := right24_iff.mp (hr c hc)
      unfold clLift
      rw [if_neg (by rw [hr c hc]; simp), mask_keep h2 h0 hb h1, mask_keep h3 h0 hb h1]
      simp
    exact ⟨fun c hc => by rw [key c hc], fun x => ⟨fun hx => ⟨x, hx, by rw [key x hx]⟩, fun ⟨c, hc, e⟩ => by rw [e, key c hc]; exact hc⟩⟩
  · split at h
    · rename_i h1
      injection h with h
      subst h
      obtain ⟨_, h2, h3⟩ := formLift_cases h1
      refine ⟨h2, fun x => ?_⟩
      rw [h3] at h1 ⊢
      rcases leastF_cases (l.map fun c => (clLift c f b).2) with ⟨_, _, h4, _⟩ | h4 | h4
      · rw [h4, refLeast_mem, List.mem_map]
        constructor
        · rintro ⟨⟨c, hc, rfl⟩, _⟩; exact ⟨c, hc, rfl⟩
        · rintro ⟨c, hc, rfl⟩
          refine ⟨⟨c, hc, rfl⟩, needless_iff.mpr fun d hd => ?_⟩
          obtain ⟨c', hc', rfl⟩ := List.mem_map.mp hd
          cases hbl : below (clLift c f b).2 (clLift c' f b).2 with
          | false => exact .inr rfl
          | true =>
            left
            obtain ⟨_, a1, a2, a3⟩ := clLift_ok (h2 c hc)
            obtain ⟨_, b1, b2, b3⟩ := clLift_ok (h2 c' hc')
            rw [a3, b3] at hbl
            unfold below at hbl
            rw [Bool.and_eq_true, decide_eq_true_eq, decide_eq_true_eq] at hbl
            have hr' := right24_iff.mp (hr c' hc')
            have e1 := mask_sub hr'.1 a1 b1 hbl.1
            have e2 := mask_sub hr'.2 a2 b2 hbl.2
            have hbe : below c c' = true := by unfold below; rw [e1, e2]; simp
            rcases apart_iff.mp hap c hc c' hc' with h5 | h5
            · rw [h5]
            · rw [hbe] at h5; cases h5
      · rw [h4] at h1; cases h1
      · rw [h4] at h1; cases h1
    · cases h
theorem fRight_sorted {l : List Cl} (h : fRight l = true) : l.Pairwise fun a b => lessC a b = true := by
  have hs : sortedC l = true := by unfold fRight at h; simp only [Bool.and_eq_true] at h; exact h.1.1.2
  exact sortedC_iff.mp hs
/-- Lifts of rows add up. -/
theorem row_add {l g h k : List Cl} {f b f2 b2 : Int} (hl : fRight l = true) (h0 : 0 ≤ f) (hb : 0 ≤ b) (hb2 : 0 ≤ b2) (hf : f ≤ f2) (hf2 : f2 ≤ f + b) (h1 : rowLift b l f = .ok g) (h2 : rowLift b2 g f2 = .ok h) (h3 : rowLift (b + b2) l f = .ok k) : h = k := by
  have hg := rowLift_fR h1 hl
  obtain ⟨a1, a2⟩ := row_mem hl h0 hb h1
  obtain ⟨b1, b2'⟩ := row_mem hg (by omega) hb2 h2
  obtain ⟨c1, c2⟩ := row_mem hl h0 (by omega) h3
  refine strict_ext (fRight_sorted (rowLift_fR h2 hg)) (fRight_sorted (rowLift_fR h3 hl)) fun x => ?_
  rw [b2', c2]
  have key : ∀ c, c ∈ l → (clLift (clLift c f b).2 f2 b2).2 = (clLift c f (b + b2)).2 := fun c hc => by
    obtain ⟨_, d1, d2, d3⟩ := clLift_ok (a1 c hc)
    obtain ⟨_, e1, e2, e3⟩ := clLift_ok (b1 _ ((a2 _).mpr ⟨c, hc, rfl⟩))
    obtain ⟨_, g1, g2, g3⟩ := clLift_ok (c1 c hc)
    rw [e3, g3]
    rw [d3] at e1 e2 ⊢
    simp only at e1 e2 ⊢
    rw [mask_add hf hf2 d1 e1 g1, mask_add hf hf2 d2 e2 g2]
  constructor
  · rintro ⟨d, hd, rfl⟩
    obtain ⟨c, hc, rfl⟩ := (a2 d).mp hd
    exact ⟨c, hc, key c hc⟩
  · rintro ⟨c, hc, rfl⟩
    exact ⟨_, (a2 _).mpr ⟨c, hc, rfl⟩, (key c hc).symm⟩
/-! ### Two ways and two others -/
section
variable {CA CB CC CD : Type} {A : Tr CA} {B : Tr CB} {C : Tr CC} {D : Tr CD} (R : CA → CB → CC → CD → Prop)
/-- Where both are told, the one and then the other is the third and then the fourth; no branch is dropped, and only variables become what they become by themselves. -/
structure Sq : Prop where
  leaf : ∀ t a b c x ca cb cc cd, R ca cb cc cd → fineT t → t.kind = 1 → trav A t ca = .ok a → trav B a cb = .ok b → trav C t cc = .ok c → trav D c cd = .ok x → b = x
  nA : ∀ ca k n nm r u, k ≠ 1 → A.own ca k n nm r ≠ .ok (.inl u)
  nB : ∀ ca k n nm r u, k ≠ 1 → B.own ca k n nm r ≠ .ok (.inl u)
  nC : ∀ ca k n nm r u, k ≠ 1 → C.own ca k n nm r ≠ .ok (.inl u)
  nD : ∀ ca k n nm r u, k ≠ 1 → D.own ca k n nm r ≠ .ok (.inl u)
  own : ∀ ca cb cc cd k n nm r pa pb pc pd, R ca cb cc cd → headOK k n nm r → k ≠ 1 → A.own ca k n nm r = .ok (.inr pa) → B.own cb k pa.1 nm pa.2 = .ok (.inr pb) → C.own cc k n nm r = .ok (.inr pc) → D.own cd k pc.1 nm pc.2 = .ok (.inr pd) → pb = pd
  face : ∀ ca cb cc cd f oa oc ob od, R ca cb cc cd → faceRight f = true → A.face ca f = .ok oa → C.face cc f = .ok oc → ∃ fa fc, oa = some fa ∧ oc = some fc ∧ (B.face cb fa = .ok ob → D.face cd fc = .ok od → ∃ g, ob = some g ∧ od = some g)
  kid : ∀ ca cb cc cd b ca' cb' cc' cd', R ca cb cc cd → 0 ≤ b.1 → 0 ≤ b.2 → A.kid ca b = .ok ca' → B.kid cb b = .ok cb' → C.kid cc b = .ok cc' → D.kid cd b = .ok cd' → R ca' cb' cc' cd'
variable {R}
theorem more_pos (k : Int) : 0 ≤ more k := (more_01 k).1
mutual
theorem sq (F : Sq (A := A) (B := B) (C := C) (D := D) R) : ∀ {t a b c x : T} {ca : CA} {cb : CB} {cc : CC} {cd : CD}, fineT t → R ca cb cc cd → trav A t ca = .ok a → trav B a cb = .ok b → trav C t cc = .ok c → trav D c cd = .ok x → b = x
  | .mk k n nm r ks ss, a, b, c, x, ca, cb, cc, cd, hf, hr, ha, hb, hc, hx => by
    by_cases hk : k = 1
    · exact F.leaf _ _ _ _ _ _ _ _ _ hr hf hk ha hb hc hx
    · simp only [fineT] at hf
      obtain ⟨h1, h2, h3, h4, h5⟩ := hf
      rw [trav_eq] at ha hc
      simp only [T.kind, T.n, T.name, T.r, T.kids, T.sys] at ha hc
      obtain ⟨oa, a1, ha⟩ := Res1.bind_ok ha
      obtain ⟨oc, c1, hc⟩ := Res1.bind_ok hc
      cases oa with
      | inl v => exact absurd a1 (F.nA _ _ _ _ _ _ hk)
      | inr pa =>
        cases oc with
        | inl v => exact absurd c1 (F.nC _ _ _ _ _ _ hk)
        | inr pc =>
          obtain ⟨ka, a2, ha⟩ := Res1.bind_ok ha
          obtain ⟨sa, a3, ha⟩ := Res1.bind_ok ha
          obtain ⟨kc, c2, hc⟩ := Res1.bind_ok hc
          obtain ⟨sc, c3, hc⟩ := Res1.bind_ok hc
          injection ha with ha
          injection hc with hc
          subst ha hc
          rw [trav_eq] at hb hx
          simp only [T.kind, T.n, T.name, T.r, T.kids, T.sys] at hb hx
          obtain ⟨ob, b1, hb⟩ := Res1.bind_ok hb
          obtain ⟨od, d1, hx⟩ := Res1.bind_ok hx
          cases ob with
          | inl v => exact absurd b1 (F.nB _ _ _ _ _ _ hk)
          | inr pb =>
            cases od with
            | inl v => exact absurd d1 (F.nD _ _ _ _ _ _ hk)
            | inr pd =>
              obtain ⟨kb, b2, hb⟩ := Res1.bind_ok hb
              obtain ⟨sb, b3, hb⟩ := Res1.bind_ok hb
              obtain ⟨kd, d2, hx⟩ := Res1.bind_ok hx
              obtain ⟨sd, d3, hx⟩ := Res1.bind_ok hx
              injection hb with hb
              injection hx with hx
              subst hb hx
              rw [F.own _ _ _ _ _ _ _ _ _ _ _ _ hr h1 hk a1 b1 c1 d1, sqL F h4 hr a2 b2 c2 d2, sqB F h5 hr a3 b3 c3 d3]
termination_by structural t => t
theorem sqL (F : Sq (A := A) (B := B) (C := C) (D := D) R) {k : Int} : ∀ {ts a b c x : List T} {i : Nat} {ca : CA} {cb : CB} {cc : CC} {cd : CD}, fineL ts → R ca cb cc cd → travL A k i ts ca = .ok a → travL B k i a cb = .ok b → travL C k i ts cc = .ok c → travL D k i c cd = .ok x → b = x
  | [], a, b, c, x, i, ca, cb, cc, cd, hf, hr, ha, hb, hc, hx => by
    rw [travL_nil] at ha hc
    injection ha with ha
    injection hc with hc
    subst ha hc
    rw [travL_nil] at hb hx
    injection hb with hb
    injection hx with hx
    rw [← hb, ← hx]
  | t :: ts, a, b, c, x, i, ca, cb, cc, cd, hf, hr, ha, hb, hc, hx => by
    rw [travL_cons] at ha hc
    obtain ⟨ca', a1, ha⟩ := Res1.bind_ok ha
    obtain ⟨ta, a2, ha⟩ := Res1.bind_ok ha
    obtain ⟨tsa, a3, ha⟩ := Res1.bind_ok ha
    obtain ⟨cc', c1, hc⟩ := Res1.bind_ok hc
    obtain ⟨tc, c2, hc⟩ := Res1.bind_ok hc
    obtain ⟨tsc, c3, hc⟩ := Res1.bind_ok hc
    injection ha with ha
    injection hc with hc
    subst ha hc
    rw [travL_cons] at hb hx
    obtain ⟨cb', b1, hb⟩ := Res1.bind_ok hb
    obtain ⟨tb, b2, hb⟩ := Res1.bind_ok hb
    obtain ⟨tsb, b3, hb⟩ := Res1.bind_ok hb
    obtain ⟨cd', d1, hx⟩ := Res1.bind_ok hx
    obtain ⟨td, d2, hx⟩ := Res1.bind_ok hx
    obtain ⟨tsd, d3, hx⟩ := Res1.bind_ok hx
    injection hb with hb
    injection hx with hx
    subst hb hx
    have hbi := binds_01 k i
    rw [sq F hf.1 (F.kid _ _ _ _ _ _ _ _ _ hr (by omega) (by omega) a1 b1 c1 d1) a2 b2 c2 d2, sqL F hf.2 hr a3 b3 c3 d3]
termination_by structural ts => ts
theorem sqS (F : Sq (A := A) (B := B) (C := C) (D := D) R) {k : Int} : ∀ {ts a b c x : List T} {ca : CA} {cb : CB} {cc : CC} {cd : CD}, fineL ts → R ca cb cc cd → travS A k ts ca = .ok a → travS B k a cb = .ok b → travS C k ts cc = .ok c → travS D k c cd = .ok x → b = x
  | [], a, b, c, x, ca, cb, cc, cd, hf, hr, ha, hb, hc, hx => by
    rw [travS_nil] at ha hc
    injection ha with ha
    injection hc with hc
    subst ha hc
    rw [travS_nil] at hb hx
    injection hb with hb
    injection hx with hx
    rw [← hb, ← hx]
  | t :: ts, a, b, c, x, ca, cb, cc, cd, hf, hr, ha, hb, hc, hx => by
    rw [travS_cons] at ha hc
    obtain ⟨ca', a1, ha⟩ := Res1.bind_ok ha
    obtain ⟨ta, a2, ha⟩ := Res1.bind_ok ha
    obtain ⟨tsa, a3, ha⟩ := Res1.bind_ok ha
    obtain ⟨cc', c1, hc⟩ := Res1.bind_ok hc
    obtain ⟨tc, c2, hc⟩ := Res1.bind_ok hc
    obtain ⟨tsc, c3, hc⟩ := Res1.bind_ok hc
    injection ha with ha
    injection hc with hc
    subst ha hc
    rw [travS_cons] at hb hx
    obtain ⟨cb', b1, hb⟩ := Res1.bind_ok hb
    obtain ⟨tb, b2, hb⟩ := Res1.bind_ok hb
    obtain ⟨tsb, b3, hb⟩ := Res1.bind_ok hb
    obtain ⟨cd', d1, hx⟩ := Res1.bind_ok hx
    obtain ⟨td, d2, hx⟩ := Res1.bind_ok hx
    obtain ⟨tsd, d3, hx⟩ := Res1.bind_ok hx
    injection hb with hb
    injection hx with hx
    subst hb hx
    have hm := more_pos k
    rw [sq F hf.1 (F.kid _ _ _ _ _ _ _ _ _ hr (by omega) hm a1 b1 c1 d1) a2 b2 c2 d2, sqS F hf.2 hr a3 b3 c3 d3]
termination_by structural ts => ts
theorem sqB (F : Sq (A := A) (B := B) (C := C) (D := D) R) {k : Int} : ∀ {bs a b c x : List Br} {ca : CA} {cb : CB} {cc : CC} {cd : CD}, fineB k bs → R ca cb cc cd → travB A k bs ca = .ok a → travB B k a cb = .ok b → travB C k bs cc = .ok c → travB D k c cd = .ok x → b = x
  | [], a, b, c, x, ca, cb, cc, cd, hf, hr, ha, hb, hc, hx => by
    rw [travB_nil] at ha hc
    injection ha with ha
    injection hc with hc
    subst ha hc
    rw [travB_nil] at hb hx
    injection hb with hb
    injection hx with hx
    rw [← hb, ← hx]
  | .mk f ks :: bs, a, b, c, x, ca, cb, cc, cd, hf, hr, ha, hb, hc, hx => by
    rw [travB_cons] at ha hc
    simp only [Br.face, Br.kids] at ha hc
    obtain ⟨oa, a1, ha⟩ := Res1.bind_ok ha
    obtain ⟨oc, c1, hc⟩ := Res1.bind_ok hc
    have hfc := fun ob od => F.face _ _ _ _ f oa oc ob od hr hf.2.1 a1 c1
    obtain ⟨fa, fc, e1, e2, _⟩ := hfc none none
    subst e1 e2
    obtain ⟨ka, a2, ha⟩ := Res1.bind_ok ha
    obtain ⟨ba, a3, ha⟩ := Res1.bind_ok ha
    obtain ⟨kc, c2, hc⟩ := Res1.bind_ok hc
    obtain ⟨bc, c3, hc⟩ := Res1.bind_ok hc
    injection ha with ha
    injection hc with hc
    subst ha hc
    rw [travB_cons] at hb hx
    simp only [Br.face, Br.kids] at hb hx
    obtain ⟨ob, b1, hb⟩ := Res1.bind_ok hb
    obtain ⟨od, d1, hx⟩ := Res1.bind_ok hx
    obtain ⟨fa', fc', e1, e2, hg⟩ := hfc ob od
    injection e1 with e1
    injection e2 with e2
    subst e1 e2
    obtain ⟨g, g1, g2⟩ := hg b1 d1
    subst g1 g2
    obtain ⟨kb, b2, hb⟩ := Res1.bind_ok hb
    obtain ⟨bb, b3, hb⟩ := Res1.bind_ok hb
    obtain ⟨kd, d2, hx⟩ := Res1.bind_ok hx
    obtain ⟨bd, d3, hx⟩ := Res1.bind_ok hx
    injection hb with hb
    injection hx with hx
    subst hb hx
    rw [sqS F hf.2.2.1 hr a2 b2 c2 d2, sqB F hf.2.2.2 hr a3 b3 c3 d3]
termination_by structural bs => bs
end
end
/-! ### The way that changes nothing -/
def idTr : Tr Unit where
  own _ _ n _ r := .ok (.inr (n, r))
  face _ f := .ok (some f)
  kid _ _ := .ok ()
mutual
theorem id_eq : ∀ t : T, trav idTr t () = .ok t
  | .mk k n nm r ks ss => by rw [trav_eq]; simp only [T.kind, T.n, T.name, T.r, T.kids, T.sys, idTr, Res1.bind]; rw [show (Tr.mk _ _ _ : Tr Unit) = idTr from rfl, idL_eq ks, idB_eq ss]
theorem idL_eq {k : Int} : ∀ {i : Nat} (ts : List T), travL idTr k i ts () = .ok ts
  | i, [] => travL_nil _ _ _
  | i, t :: ts => by rw [travL_cons, show idTr.kid () (binds k i) = .ok () from rfl]; simp only [Res1.bind]; rw [id_eq t]; simp only; rw [idL_eq ts]
theorem idS_eq {k : Int} : ∀ ts : List T, travS idTr k ts () = .ok ts
  | [] => travS_nil _ _
  | t :: ts => by rw [travS_cons, show idTr.kid () (0, more k) = .ok () from rfl]; simp only [Res1.bind]; rw [id_eq t]; simp only; rw [idS_eq ts]
theorem idB_eq {k : Int} : ∀ bs : List Br, travB idTr k bs () = .ok bs
  | [] => travB_nil _ _
  | .mk f ks :: bs => by rw [travB_cons, show idTr.face () (Br.face (.mk f ks)) = .ok (some f) from rfl]; simp only [Res1.bind]; rw [show (Br.mk f ks).kids = ks from rfl, idS_eq ks]; simp only; rw [idB_eq bs]
end
theorem lift_var {a b : Int} {t u : T} {c : Int × Int} (hf : fineT t) (hk : t.kind = 1) (h : trav (liftTr a b) t c = .ok u) : u = .mk 1 (liftN a c.1 1 t.n) ⟨#[]⟩ [] [] [] ∧ ¬ (c.1 ≤ t.n ∧ 1000000000 - a < t.n) := by
  have e := (fine_var hf hk).1
  generalize t.n = m at e ⊢
  subst e
  rw [trav_eq] at h
  simp only [T.kind, T.n, T.name, T.r, T.kids, T.sys] at h
  rw [lift_own_eq, rowLift_nil] at h
  simp only [Res1.bind, true_and] at h
  by_cases h2 : c.1 ≤ m ∧ 1000000000 - a < m
  · rw [if_pos h2] at h; cases h
  · rw [if_neg h2] at h
    simp only [travL_nil, travB_nil] at h
    injection h with h
    exact ⟨h.symm, h2⟩
theorem var_fine {n : Int} (h : 0 ≤ n) : fineT (.mk 1 n ⟨#[]⟩ [] [] []) := by
  rw [fineT_iff]
  refine ⟨⟨fun h => absurd rfl h, fun _ => rfl, fun _ => ⟨rfl, h⟩, fun h2 => by simp [T.kind] at h2, fun h2 => by simp [T.kind] at h2, fun h2 => by simp [T.kind] at h2, fun _ => rfl⟩, by simp [T.kind, T.kids]; decide, fun _ => rfl, trivial, trivial⟩
/-! ### Lifts, one behind another -/
/-- Variables first. -/
theorem fuse_VL {a c d : Int} (ha : 0 ≤ a) (hc : 0 ≤ c) : Fuse (A := liftTr a 0) (B := liftTr c d) (D := liftTr (a + c) d) (fun x y z => z = x ∧ y.2 = x.2 ∧ x.1 ≤ y.1 ∧ y.1 ≤ x.1 + a) where
  inl := fun ca cb cc k n nm r u _ _ h => absurd h lift_own_inl
  inr := by
    rintro ca cb cc k n nm r p ⟨rfl, e2, e3, e4⟩ _ h
    obtain ⟨h1, h2, h3⟩ := lift_own_ok h
    rw [rowLift_zero] at h1
    injection h1 with h1
    rw [lift_own_eq, lift_own_eq, ← h1, h3, e2]
    congr 1
    funext g
    have h4 : liftN c cb.1 k (liftN a cc.1 k n) = liftN (a + c) cc.1 k n := by unfold liftN; split <;> split <;> omega
    have h5 : (k = 1 ∧ cb.1 ≤ liftN a cc.1 k n ∧ 1000000000 - c < liftN a cc.1 k n) ↔ (k = 1 ∧ cc.1 ≤ n ∧ 1000000000 - (a + c) < n) := by
      unfold liftN; split <;> omega
    rw [h4]
    by_cases h6 : k = 1 ∧ cc.1 ≤ n ∧ 1000000000 - (a + c) < n
    · rw [if_pos h6, if_pos (h5.mpr h6)]
    · rw [if_neg h6, if_neg (fun h => h6 (h5.mp h))]
  none := fun ca cb cc f _ _ h => absurd h lift_face_none
  some := by
    rintro ca cb cc f f' ⟨rfl, e2, _⟩ _ h
    have h1 := lift_face_eq h
    rw [rowLift_zero] at h1
    injection h1 with h1
    rw [lift_face_def, lift_face_def, ← h1, e2]
  kid := by
    rintro ca cb cc b' ca' hb1 hb2 ⟨rfl, e2, e3, e4⟩ h
    injection h with h; subst h
    exact .inl ⟨_, _, rfl, rfl, rfl, by dsimp only; omega, by dsimp only; omega, by dsimp only; omega⟩
/-- A term in the place of a variable that a lift made free. -/
theorem fuse_gap {v k n : Int} {d : T} (hv : 0 ≤ v) : Fuse (A := liftTr (v + 1) k) (B := plugTr n d) (D := liftTr v k) (fun x y z => z = x ∧ x.1 ≤ n + y.1 ∧ (n + y.1 ≤ x.1 + v ∨ 1000000000 ≤ x.1)) where
  inl := fun ca cb cc k n nm r u _ _ h => absurd h lift_own_inl
  inr := by
    rintro ca cb cc kd m nm r p ⟨rfl, e3, e4⟩ _ h
    obtain ⟨h1, h2, h3⟩ := lift_own_ok h
    rw [lift_own_eq, h1]
    simp only [Res1.bind]
    rw [if_neg (by omega)]
    by_cases hk : kd = 1
    · subst hk
      have hne : p.1 ≠ n + cb.1 := by rw [h3]; unfold liftN; split <;> omega
      rw [plug_own_not hne]
      have h4 : (if n + cb.1 < p.1 then p.1 - 1 else p.1) = liftN v cc.1 1 m := by rw [h3]; unfold liftN; split <;> split <;> omega
      rw [h4]
    · rw [plug_own_ne hk]
      have h4 : p.1 = liftN v cc.1 kd m := by rw [h3]; unfold liftN; rw [if_neg (fun h => hk h.1), if_neg (fun h => hk h.1)]
      rw [h4]
  none := fun ca cb cc f _ _ h => absurd h lift_face_none
  some := by
    rintro ca cb cc f f' ⟨rfl, _⟩ _ h
    rw [plug_face]
    rw [lift_face_def] at h ⊢
    rw [h]
  kid := by
    rintro ca cb cc b' ca' hb1 hb2 ⟨rfl, e3, e4⟩ h
    injection h with h; subst h
    exact .inl ⟨_, _, rfl, rfl, rfl, by dsimp only; omega, by dsimp only; omega⟩
theorem head_row {k n : Int} {nm : ByteArray} {r : List Cl} (h : headOK k n nm r) : fRight r = true := by
  obtain ⟨_, _, _, _, h13, h14, h0⟩ := h
  by_cases h1 : k = 13 ∨ k = 21 ∨ k = 26
  · exact h13 h1
  · by_cases h2 : k = 14
    · exact face_row (h14 h2)
    · rw [h0 (by omega)]; exact fRight_nil
theorem liftN_ne {a v k n : Int} (hk : k ≠ 1) : liftN a v k n = n := by unfold liftN; rw [if_neg (fun h => hk h.1)]
/-- Lifts add up, of dimensions, too. -/
theorem sq_add {a b c d : Int} (ha : 0 ≤ a) (hb : 0 ≤ b) (hc : 0 ≤ c) (hd : 0 ≤ d) : Sq (A := liftTr a b) (B := liftTr c d) (C := idTr) (D := liftTr (a + c) (b + d)) (fun x y _ z => z = x ∧ x.1 ≤ y.1 ∧ y.1 ≤ x.1 + a ∧ 0 ≤ x.2 ∧ x.2 ≤ y.2 ∧ y.2 ≤ x.2 + b) where
  leaf := by
    rintro t u w y x ca cb cc cd ⟨rfl, e1, e2, e3, e4, e5⟩ hf hk h1 h2 h3 h4
    rw [id_eq] at h3
    injection h3 with h3
    subst h3
    obtain ⟨rfl, g1⟩ := lift_var hf hk h1
    obtain ⟨_, hn⟩ := fine_var hf hk
    obtain ⟨rfl, g2⟩ := lift_var (var_fine (by unfold liftN; split <;> omega)) rfl h2
    obtain ⟨rfl, g3⟩ := lift_var hf hk h4
    simp only [T.n] at *
    congr 1
    unfold liftN at *
    split at * <;> split at * <;> omega
  nA := fun _ _ _ _ _ _ _ => lift_own_inl
  nB := fun _ _ _ _ _ _ _ => lift_own_inl
  nC := fun _ _ _ _ _ _ _ h => (by injection h with h; cases h)
  nD := fun _ _ _ _ _ _ _ => lift_own_inl
  own := by
    rintro ca cb cc cd k n nm r pa pb pc pd ⟨rfl, e1, e2, e3, e4, e5⟩ hh hk h1 h2 h3 h4
    injection h3 with h3
    injection h3 with h3
    subst h3
    obtain ⟨a1, _, a3⟩ := lift_own_ok h1
    obtain ⟨b1, _, b3⟩ := lift_own_ok h2
    obtain ⟨d1, _, d3⟩ := lift_own_ok h4
    refine Prod.ext ?_ (row_add (head_row hh) e3 hb hd e4 e5 a1 b1 d1)
    rw [b3, d3, liftN_ne hk, liftN_ne hk, a3, liftN_ne hk]
  face := by
    rintro ca cb cc cd f oa oc ob od ⟨rfl, e1, e2, e3, e4, e5⟩ hf h1 h3
    injection h3 with h3
    subst h3
    cases oa with
    | none => exact absurd h1 lift_face_none
    | some fa =>
      refine ⟨fa, f, rfl, rfl, fun h2 h4 => ?_⟩
      cases ob with
      | none => exact absurd h2 lift_face_none
      | some fb =>
        cases od with
        | none => exact absurd h4 lift_face_none
        | some fd => exact ⟨fb, rfl, by rw [row_add (face_row hf) e3 hb hd e4 e5 (lift_face_eq h1) (lift_face_eq h2) (lift_face_eq h4)]⟩
  kid := by
    rintro ca cb cc cd b' ca' cb' cc' cd' ⟨rfl, e1, e2, e3, e4, e5⟩ p1 p2 h1 h2 h3 h4
    have := lift_kid_eq h1
    have := lift_kid_eq h2
    have := lift_kid_eq h4
    subst_vars
    exact ⟨rfl, by dsimp only; omega, by dsimp only; omega, by dsimp only; omega, by dsimp only; omega, by dsimp only; omega⟩
/-- lift.Both in one way. -/
theorem both_way {u : T} {v d : Int} (h : (bothRes u v d).1 = 0) : fineT u ∧ 0 ≤ v ∧ 0 ≤ d ∧ trav (liftTr v d) u (0, 0) = .ok (bothRes u v d).2 := by
  obtain ⟨h1, h2, h3, h4⟩ := bothRes_told h
  have hf := (formed_fine.mp h1).2
  obtain ⟨y, h5, h6⟩ := Res1.bind_ok (x := trav (liftTr v 0) u (0, 0)) h4
  exact ⟨hf, h2, h3, by rw [← fuse (fuse_VD h2) hf (show R3 (0, 0) (0, 0) (0, 0) from ⟨rfl, rfl⟩) h5]; exact h6⟩
theorem plug_var {n : Int} {u t x : T} {c : Int × Int} (hf : fineT t) (hk : t.kind = 1) (h : trav (plugTr n u) t c = .ok x) : (t.n = n + c.1 ∧ (bothRes u c.1 c.2).1 = 0 ∧ x = (bothRes u c.1 c.2).2) ∨ (t.n ≠ n + c.1 ∧ x = .mk 1 (if n + c.1 < t.n then t.n - 1 else t.n) ⟨#[]⟩ [] [] []) := by
  by_cases h1 : t.n = n + c.1
  · left
    by_cases h2 : (bothRes u c.1 c.2).1 = 0
    · have := plug_hit (n := n) (u := u) (v := c.1) (d := c.2) hk h1 h2
      rw [show ((c.1, c.2) : Int × Int) = c from rfl, h] at this
      injection this with this
      exact ⟨h1, h2, this⟩
    · have := plug_hit_bad (n := n) (u := u) (v := c.1) (d := c.2) hk h1 h2
      rw [show ((c.1, c.2) : Int × Int) = c from rfl, h] at this
      cases this
  · right
    rw [plug_miss hf hk h1] at h
    injection h with h
    exact ⟨h1, h.symm⟩
theorem plug_nl {n : Int} {u : T} {ca : Int × Int} {k m : Int} {nm : ByteArray} {r : List Cl} {x : T} (hk : k ≠ 1) : (plugTr n u).own ca k m nm r ≠ .ok (.inl x) := by
  rw [plug_own_ne hk]
  intro h
  injection h with h
  cases h
/-- A term in a variable's place, and then a lift. -/
theorem sq_plug {v k n : Int} {w : T} (hv : 0 ≤ v) (hk0 : 0 ≤ k) (hn : 0 ≤ n) : Sq (A := liftTr v k) (B := plugTr n w) (C := plugTr n w) (D := liftTr v k) (fun x y z z' => z = x ∧ z' = x ∧ y = (v + x.1, k + x.2) ∧ 0 ≤ x.1 ∧ 0 ≤ x.2) where
  leaf := by
    rintro t a b c x ca cb cc cd ⟨rfl, rfl, rfl, e1, e2⟩ hf hk h1 h2 h3 h4
    obtain ⟨_, hn0⟩ := fine_var hf hk
    obtain ⟨rfl, g1⟩ := lift_var hf hk h1
    have hfa : fineT (.mk 1 (liftN v cd.1 1 t.n) ⟨#[]⟩ [] [] []) := var_fine (by unfold liftN; split <;> omega)
    rcases plug_var hf hk h3 with ⟨p1, p2, p3⟩ | ⟨p1, p3⟩
    · rcases plug_var hfa rfl h2 with ⟨q1, q2, q3⟩ | ⟨q1, q3⟩
      · obtain ⟨fw, _, _, w1⟩ := both_way p2
        obtain ⟨_, _, _, w2⟩ := both_way q2
        subst p3 q3
        refine (sq (sq_add e1 e2 hv hk0) fw (ca := (0, 0)) (cb := cd) (cc := ()) (cd := (0, 0)) ⟨rfl, e1, by dsimp only; omega, by decide, e2, by dsimp only; omega⟩ w1 h4 (id_eq w) ?_).symm
        rw [show cd.1 + v = v + cd.1 by omega, show cd.2 + k = k + cd.2 by omega]
        exact w2
      · exfalso
        apply q1
        show liftN v cd.1 1 t.n = n + (v + cd.1)
        unfold liftN
        rw [if_pos ⟨rfl, by omega⟩]
        omega
    · subst p3
      rcases plug_var hfa rfl h2 with ⟨q1, q2, q3⟩ | ⟨q1, q3⟩
      · exfalso
        change liftN v cd.1 1 t.n = n + (v + cd.1) at q1
        unfold liftN at q1
        split at q1 <;> omega
      · obtain ⟨q4, _⟩ := lift_var (var_fine (by split <;> omega)) rfl h4
        rw [q3, q4]
        simp only [T.n]
        congr 1
        unfold liftN at *
        split at * <;> split at * <;> split at * <;> split at * <;> omega
  nA := fun _ _ _ _ _ _ _ => lift_own_inl
  nB := fun _ _ _ _ _ _ hk => plug_nl hk
  nC := fun _ _ _ _ _ _ hk => plug_nl hk
  nD := fun _ _ _ _ _ _ _ => lift_own_inl
  own := by
    rintro ca cb cc cd kd m nm r pa pb pc pd ⟨rfl, rfl, rfl, e1, e2⟩ hh hk h1 h2 h3 h4
    rw [plug_own_ne hk] at h2 h3
    injection h2 with h2
    injection h2 with h2
    injection h3 with h3
    injection h3 with h3
    subst h2 h3
    rw [h1] at h4
    injection h4 with h4
    injection h4
  face := by
    rintro ca cb cc cd f oa oc ob od ⟨rfl, rfl, rfl, e1, e2⟩ hf h1 h3
    rw [plug_face] at h3
    injection h3 with h3
    subst h3
    cases oa with
    | none => exact absurd h1 lift_face_none
    | some fa =>
      refine ⟨fa, f, rfl, rfl, fun h2 h4 => ?_⟩
      rw [plug_face] at h2
      injection h2 with h2
      rw [h1] at h4
      injection h4 with h4
      exact ⟨fa, h2.symm, h4.symm⟩
  kid := by
    rintro ca cb cc cd b' ca' cb' cc' cd' ⟨rfl, rfl, rfl, e1, e2⟩ p1 p2 h1 h2 h3 h4
    have h1 := lift_kid_eq h1
    have h4 := lift_kid_eq h4
    injection h2 with h2
    injection h3 with h3
    subst h1 h2 h3 h4
    exact ⟨rfl, rfl, by dsimp only; rw [Int.add_assoc, Int.add_assoc], by dsimp only; omega, by dsimp only; omega⟩
/-- The one at 0 and then the other at n; the other, lifted, at n + 1 and then the one with the other in it. -/
theorem sq_main {n : Int} {u w up d : T} (hn : 0 ≤ n) (hu : trav (liftTr 1 0) w (0, 0) = .ok up) (hd : trav (plugTr n w) u (0, 0) = .ok d) : Sq (A := plugTr 0 u) (B := plugTr n w) (C := plugTr (n + 1) up) (D := plugTr 0 d) (fun x y z z' => y = x ∧ z = x ∧ z' = x ∧ 0 ≤ x.1 ∧ 0 ≤ x.2) where
  leaf := by
    rintro t a b c x ca cb cc cd ⟨rfl, rfl, rfl, e1, e2⟩ hf hk h1 h2 h3 h4
    obtain ⟨_, hn0⟩ := fine_var hf hk
    rcases plug_var hf hk h1 with ⟨a1, a2, rfl⟩ | ⟨a1, rfl⟩
    · rcases plug_var hf hk h3 with ⟨c1, c2, rfl⟩ | ⟨c1, rfl⟩
      · omega
      · rw [if_neg (by omega)] at h4
        rcases plug_var (var_fine hn0) rfl h4 with ⟨x1, x2, rfl⟩ | ⟨x1, rfl⟩
        · obtain ⟨fu, _, _, w1⟩ := both_way a2
          obtain ⟨_, _, _, w2⟩ := both_way x2
          exact sq (sq_plug e1 e2 hn) fu (ca := (0, 0)) (cb := (cd.1 + 0, cd.2 + 0)) (cc := (0, 0)) (cd := (0, 0)) ⟨rfl, rfl, rfl, by decide, by decide⟩ w1 (by rw [Int.add_zero, Int.add_zero]; exact h2) hd w2
        · exact absurd a1 x1
    · have hfa : fineT (.mk 1 (if 0 + cd.1 < t.n then t.n - 1 else t.n) ⟨#[]⟩ [] [] []) := var_fine (by split <;> omega)
      rcases plug_var hfa rfl h2 with ⟨b1, b2, rfl⟩ | ⟨b1, rfl⟩
      · change (if 0 + cd.1 < t.n then t.n - 1 else t.n) = n + cd.1 at b1
        rcases plug_var hf hk h3 with ⟨c1, c2, rfl⟩ | ⟨c1, rfl⟩
        · obtain ⟨fw, _, _, w1⟩ := both_way b2
          obtain ⟨_, _, _, w2⟩ := both_way c2
          have w3 := (fuse (fuse_VL (by decide) e1) fw (ca := (0, 0)) (cb := (0, 0)) (cc := (0, 0)) ⟨rfl, rfl, by decide, by decide⟩ hu).symm.trans w2
          rw [show 1 + cd.1 = cd.1 + 1 by omega] at w3
          have w4 := fuse (fuse_gap (d := d) (n := 0) e1) fw (ca := (0, 0)) (cb := cd) (cc := (0, 0)) ⟨rfl, by dsimp only; omega, .inl (by dsimp only; omega)⟩ w3
          rw [h4, w1] at w4
          injection w4 with w4
          exact w4.symm
        · exfalso
          split at b1 <;> omega
      · change (if 0 + cd.1 < t.n then t.n - 1 else t.n) ≠ n + cd.1 at b1
        rcases plug_var hf hk h3 with ⟨c1, c2, rfl⟩ | ⟨c1, rfl⟩
        · exfalso
          split at b1 <;> omega
        · have hfc : fineT (.mk 1 (if n + 1 + cd.1 < t.n then t.n - 1 else t.n) ⟨#[]⟩ [] [] []) := var_fine (by split <;> omega)
          rcases plug_var hfc rfl h4 with ⟨x1, x2, rfl⟩ | ⟨x1, rfl⟩
          · exfalso
            change (if n + 1 + cd.1 < t.n then t.n - 1 else t.n) = 0 + cd.1 at x1
            split at x1 <;> omega
          · have key : (if n + cd.1 < (if 0 + cd.1 < t.n then t.n - 1 else t.n) then (if 0 + cd.1 < t.n then t.n - 1 else t.n) - 1 else (if 0 + cd.1 < t.n then t.n - 1 else t.n)) = (if 0 + cd.1 < (if n + 1 + cd.1 < t.n then t.n - 1 else t.n) then (if n + 1 + cd.1 < t.n then t.n - 1 else t.n) - 1 else (if n + 1 + cd.1 < t.n then t.n - 1 else t.n)) := by
              change (if n + 1 + cd.1 < t.n then t.n - 1 else t.n) ≠ 0 + cd.1 at x1
              generalize t.n = m at *
              by_cases q1 : 0 + cd.1 < m
              · rw [if_pos q1] at b1 ⊢
                by_cases q2 : n + 1 + cd.1 < m
                · rw [if_pos q2] at x1 ⊢; (repeat' split) <;> omega
                · rw [if_neg q2] at x1 ⊢; (repeat' split) <;> omega
              · rw [if_neg q1] at b1 ⊢
                rw [if_neg (show ¬ n + 1 + cd.1 < m by omega)] at x1 ⊢
                (repeat' split) <;> omega
            exact congrArg (fun z => T.mk 1 z ⟨#[]⟩ [] [] []) key
  nA := fun _ _ _ _ _ _ hk => plug_nl hk
  nB := fun _ _ _ _ _ _ hk => plug_nl hk
  nC := fun _ _ _ _ _ _ hk => plug_nl hk
  nD := fun _ _ _ _ _ _ hk => plug_nl hk
  own := by
    rintro ca cb cc cd kd m nm r pa pb pc pd _ hh hk h1 h2 h3 h4
    rw [plug_own_ne hk] at h1 h2 h3 h4
    injection h1 with h1
    injection h1 with h1
    injection h2 with h2
    injection h2 with h2
    injection h3 with h3
    injection h3 with h3
    injection h4 with h4
    injection h4 with h4
    subst h1 h2 h3 h4
    rfl
  face := by
    rintro ca cb cc cd f oa oc ob od _ hf h1 h3
    rw [plug_face] at h1 h3
    injection h1 with h1
    injection h3 with h3
    subst h1 h3
    refine ⟨f, f, rfl, rfl, fun h2 h4 => ?_⟩
    rw [plug_face] at h2 h4
    injection h2 with h2
    injection h4 with h4
    exact ⟨f, h2.symm, h4.symm⟩
  kid := by
    rintro ca cb cc cd b' ca' cb' cc' cd' ⟨rfl, rfl, rfl, e1, e2⟩ p1 p2 h1 h2 h3 h4
    injection h1 with h1
    injection h2 with h2
    injection h3 with h3
    injection h4 with h4
    subst h1 h2 h3 h4
    exact ⟨rfl, rfl, rfl, by dsimp only; omega, by dsimp only; omega⟩
/-! ### What the laws say -/
theorem plug_bad_ne {n : Int} {u : T} : ∀ {t : T} {c : Int × Int} {e : Int}, trav (plugTr n u) t c = .bad e → e ≠ 0 := fun {t} => T.ind (P := fun t => ∀ {c : Int × Int} {e : Int}, trav (plugTr n u) t c = .bad e → e ≠ 0) (fun t ih c e h => by
  rcases trav_why h with h1 | ⟨b, _, h1⟩ | ⟨p, hp, h1 | ⟨c', _, h2⟩⟩
  · by_cases hk : t.kind = 1
    · rw [hk] at h1
      by_cases h2 : t.n = n + c.1
      · rw [plug_own_hit h2] at h1
        split at h1
        · cases h1
        · rename_i h3; injection h1 with h1; exact h1 ▸ h3
      · rw [plug_own_not h2] at h1; cases h1
    · rw [plug_own_ne hk] at h1; cases h1
  · cases h1
  · cases h1
  · exact ih p hp h2) t
theorem lid_id {n : Int} (h : n ≤ 1099511627776) : lid n = n := by unfold lid; rw [if_neg (by omega)]
theorem plugRes_told {t u : T} {n : Int} (h : (plugRes t n u).1 = 0) : formedP t = 0 ∧ formedP u = 0 ∧ 0 ≤ n ∧ size (plugRes t n u).2 ≤ 20000 ∧ trav (plugTr (lid n) u) t (0, 0) = .ok (plugRes t n u).2 := by
  by_cases h1 : formedP t = 0
  · by_cases h2 : formedP u = 0
    · by_cases h3 : n < 0
      · rw [plugRes_n h1 h2 h3] at h; cases h
      · by_cases h4 : 20000 < (size t : Int) + countT t (lid n) * ((size u : Int) - 1)
        · rw [plugRes_size h1 h2 h3 h4] at h; cases h
        · cases h5 : trav (plugTr (lid n) u) t (0, 0) with
          | bad e =>
            rw [plugRes_bad h1 h2 h3 h4 h5] at h
            exact absurd h (plug_bad_ne h5)
          | ok x =>
            by_cases h6 : 200 < depth x
            · rw [plugRes_deep h1 h2 h3 h4 h5 h6] at h; cases h
            · rw [plugRes_ok h1 h2 h3 h4 h5 h6]
              have := plug_size (formed_fine.mp h1).2 h5
              rw [show lid n + ((0, 0) : Int × Int).1 = lid n from Int.add_zero _] at this
              exact ⟨h1, h2, by omega, by show size x ≤ 20000; omega, rfl⟩
    · rw [plugRes_u h1 h2] at h; exact absurd h h2
  · rw [plugRes_t h1] at h; exact absurd h h1
theorem plugRes_szd (t u : T) (n : Int) : size (plugRes t n u).2 ≤ 20000 := by
  by_cases h : (plugRes t n u).1 = 0
  · exact (plugRes_told h).2.2.2.1
  · have : (plugRes t n u).2 = t0 := by
      unfold plugRes at h ⊢
      split
      · rfl
      · rename_i h1
        rw [if_neg h1] at h
        split
        · rfl
        · rename_i h2
          rw [if_neg h2] at h
          split
          · rfl
          · rename_i h3
            rw [if_neg h3] at h
            split
            · rfl
            · rename_i h4
              rw [if_neg h4] at h
              cases h5 : trav (plugTr (lid n) u) t (0, 0) with
              | bad e => rfl
              | ok x =>
                rw [h5] at h
                simp only at h ⊢
                by_cases h6 : 200 < depth x
                · rw [if_pos h6]
                · rw [if_neg h6] at h; exact absurd rfl h
    rw [this]
    decide
/-- PlugLemma. -/
theorem plug_lemma {t u w : T} {n : Int} (h0 : 0 ≤ n) (h1 : n ≤ 1000) {ra rb rup rc rd rx : Int × T} (ea : ra = plugRes t 0 u) (eb : rb = plugRes ra.2 n w) (eu : rup = varsRes w 0 1) (ec : rc = plugRes t (n + 1) rup.2) (ed : rd = plugRes u n w) (ex : rx = plugRes rc.2 0 rd.2)
    (ha : ra.1 = 0) (hb : rb.1 = 0) (hu : rup.1 = 0) (hc : rc.1 = 0) (hd : rd.1 = 0) (hx : rx.1 = 0) : rb.2 = rx.2 := by
  subst ea eb eu ec ed ex
  obtain ⟨f1, f2, _, _, a1⟩ := plugRes_told ha
  obtain ⟨_, f3, _, _, b1⟩ := plugRes_told hb
  obtain ⟨_, _, _, _, c1⟩ := plugRes_told hc
  obtain ⟨_, _, _, _, d1⟩ := plugRes_told hd
  obtain ⟨_, _, _, _, x1⟩ := plugRes_told hx
  rw [lid_id (by omega)] at a1 b1 c1 d1 x1
  have hv : trav (liftTr 1 0) w (0, 0) = .ok (varsRes w 0 1).2 := by
    rw [vars_as f3 (by omega)] at hu ⊢
    cases h : Vl 1 w with
    | bad e => rw [h] at hu; exact absurd hu (lift_bad_ne' h)
    | ok y => exact h
  exact sq (sq_main h0 hv d1) (formed_fine.mp f1).2 (ca := (0, 0)) (cb := (0, 0)) (cc := (0, 0)) (cd := (0, 0)) ⟨rfl, rfl, rfl, by decide, by decide⟩ a1 b1 c1 x1
end Go.Hy
namespace Go.Hy
set_option linter.unusedVariables false
set_option linter.unusedSimpArgs false
set_option linter.unusedSectionVars false
set_option linter.unusedVariables false
def uE : T := .mk 3 0 ⟨#[]⟩ [] [] []
def aE (t u : T) : T := .mk 6 0 ⟨#[]⟩ [] [t, u] []
def lE (t : T) : T := .mk 5 0 ⟨#[]⟩ [] [t] []
theorem ex_plug1 : plugRes (aE (vE 0) (vE 1)) 0 uE = (0, aE uE (vE 0)) := by decide +kernel
theorem ex_plug2 : plugRes (lE (aE (vE 1) (vE 0))) 0 (vE 5) = (0, lE (aE (vE 6) (vE 0))) := by decide +kernel
theorem ex_plug1a : (plugRes (aE (vE 0) (vE 1)) 0 uE).1 = 0 := by rw [ex_plug1]
theorem ex_plug1b : (plugRes (aE (vE 0) (vE 1)) 0 uE).2 = aE uE (vE 0) := by rw [ex_plug1]
theorem ex_plug2a : (plugRes (lE (aE (vE 1) (vE 0))) 0 (vE 5)).1 = 0 := by rw [ex_plug2]
theorem ex_plug2b : (plugRes (lE (aE (vE 1) (vE 0))) 0 (vE 5)).2 = lE (aE (vE 6) (vE 0)) := by rw [ex_plug2]
theorem ex_plug_size : size (aE (vE 0) (vE 1)) = 3 ∧ size uE = 1 ∧ size (lE (aE (vE 1) (vE 0))) = 4 ∧ size (vE 5) = 1 ∧ size (aE (vE 1) (vE 1)) = 3 := by decide +kernel
end Go.Hy
