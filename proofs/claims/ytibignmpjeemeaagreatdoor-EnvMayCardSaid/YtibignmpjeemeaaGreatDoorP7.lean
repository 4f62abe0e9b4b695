/- Contracts of this program's functions and the laws that they need. -/
import Derived.Lib.TrailingZeros
import Derived.LaidMore
import Derived.OpenShut
import Derived.Stop.Joined
import Derived.MakeChecks
import Derived.Shelf.Spec.TrailingZeros
import Derived.Test.YtibignmpjeemeaaGreatDoorP6
set_option linter.unusedVariables false
set_option linter.unusedSimpArgs false
set_option linter.unusedSectionVars false
namespace Go.Hy
section
variable {C : Type} {A : Tr C}
theorem A2n {k : Int} {c : C} : ∀ {ts us : List T} {i : Nat}, D3 A k i ts c = .ok us → us.length = ts.length ∧ ∀ j, j < us.length → ∃ c', A.M0 c (binds k ((i + j : Nat) : Int)) = .ok c' ∧ Ce A (ts.getD j t0) c' = .ok (us.getD j t0)
 | [], us, i, h => by rw [Eh] at h; injection h with h; subst h; exact ⟨rfl, fun j hj => absurd hj Cq⟩
 | t :: ts, us, i, h => by
  rw [Du] at h
  obtain ⟨c', h1, h⟩ := Ai.A3 h
  obtain ⟨t', h2, h⟩ := Ai.A3 h
  obtain ⟨ts', h3, h⟩ := Ai.A3 h
  injection h with h
  subst h
  obtain ⟨h4, h5⟩ := A2n h3
  refine ⟨by simp [h4], fun j hj => ?_⟩
  cases j with
  | zero => exact ⟨c', by simpa using h1, by simpa using h2⟩
  | succ j =>
   obtain ⟨d, h6, h7⟩ := h5 j (by simpa using hj)
   exact ⟨d, by rw [show i + (j + 1) = i + 1 + j by omega]; exact h6, by rw [List.getD_cons_succ, List.getD_cons_succ]; exact h7⟩
theorem A2m {k : Int} {c : C} : ∀ {ts us : List T}, Cd A k ts c = .ok us → us.length = ts.length ∧ ∀ j, j < us.length → ∃ c', A.M0 c (0, more k) = .ok c' ∧ Ce A (ts.getD j t0) c' = .ok (us.getD j t0)
 | [], us, h => by rw [Eg] at h; injection h with h; subst h; exact ⟨rfl, fun j hj => absurd hj Cq⟩
 | t :: ts, us, h => by
  rw [Dt] at h
  obtain ⟨c', h1, h⟩ := Ai.A3 h
  obtain ⟨t', h2, h⟩ := Ai.A3 h
  obtain ⟨ts', h3, h⟩ := Ai.A3 h
  injection h with h
  subst h
  obtain ⟨h4, h5⟩ := A2m h3
  refine ⟨by simp [h4], fun j hj => ?_⟩
  cases j with
  | zero => exact ⟨c', h1, by simpa using h2⟩
  | succ j =>
   obtain ⟨d, h6, h7⟩ := h5 j (by simpa using hj)
   exact ⟨d, h6, by rw [List.getD_cons_succ, List.getD_cons_succ]; exact h7⟩
theorem Ua {k : Int} {c : C} : ∀ {bs us : List Br}, Cn A k bs c = .ok us → us.length ≤ bs.length ∧ ∀ u, u ∈ us → ∃ b, b ∈ bs ∧ A.Ay c b.Ay = .ok (some u.Ay) ∧ Cd A k b.kids c = .ok u.kids
 | [], us, h => by rw [E2] at h; injection h with h; subst h; exact ⟨Nat.le_refl _, fun u hu => (by cases hu)⟩
 | b :: bs, us, h => by
  rw [Dh] at h
  obtain ⟨o, h1, h⟩ := Ai.A3 h
  cases o with
  | none =>
   obtain ⟨h4, h5⟩ := Ua h
   exact ⟨by simp only [List.length_cons]; omega, fun u hu => by obtain ⟨x, hx, h6⟩ := h5 u hu; exact ⟨x, List.mem_cons_of_mem _ hx, h6⟩⟩
  | some f' =>
   obtain ⟨ks', h2, h⟩ := Ai.A3 h
   obtain ⟨bs', h3, h⟩ := Ai.A3 h
   injection h with h
   subst h
   obtain ⟨h4, h5⟩ := Ua h3
   refine ⟨by simp only [List.length_cons]; omega, fun u hu => ?_⟩
   rcases List.mem_cons.mp hu with rfl | hu
   ·exact ⟨b, List.mem_cons_self, h1, h2⟩
   ·obtain ⟨x, hx, h6⟩ := h5 u hu; exact ⟨x, List.mem_cons_of_mem _ hx, h6⟩
theorem V0 {α : Type} {d x : α} {l : List α} (h : x ∈ l) : ∃ i, i < l.length ∧ l.getD i d = x := by
 obtain ⟨i, hi, e⟩ := List.mem_iff_getElem.mp h
 exact ⟨i, hi, by rw [Cy (d := d) hi]; exact e⟩
theorem U8 {t u : T} {c : C} (h : Ce A t c = .ok u) : A.own c t.kind t.n t.name t.r = .ok (.inl u) ∨ ∃ p, A.own c t.kind t.n t.name t.r = .ok (.inr p) ∧ (u.kind = t.kind ∧ u.n = p.1 ∧ u.name = t.name ∧ u.r = p.2) ∧
  (∀ q, q ∈ parts u → ∃ p, p ∈ parts t ∧ p.2 = q.2 ∧ ∃ c', A.M0 c p.2 = .ok c' ∧ Ce A p.1 c' = .ok q.1) ∧ ∀ b', b' ∈ u.sys → ∃ b, b ∈ t.sys ∧ A.Ay c b.Ay = .ok (some b'.Ay) := by
 rw [Fv] at h
 obtain ⟨o, h1, h⟩ := Ai.A3 h
 cases o with
 | inl v => injection h with h; subst h; exact .inl h1
 | inr p =>
  obtain ⟨ks', h2, h⟩ := Ai.A3 h
  obtain ⟨ss', h3, h⟩ := Ai.A3 h
  injection h with h
  subst h
  obtain ⟨l1, l2⟩ := A2n h2
  obtain ⟨b1, b2⟩ := Ua h3
  refine .inr ⟨p, h1, ⟨rfl, rfl, rfl, rfl⟩, fun q hq => ?_, fun b' hb' => ?_⟩
  ·rcases Hn hq with ⟨i, hi, rfl⟩ | ⟨s, j, hs, hj, rfl⟩
   ·simp only [T.kids, T.kind] at hi ⊢
    obtain ⟨c', h4, h5⟩ := l2 i hi
    exact ⟨_, List.mem_of_getElem? (Hm t i A4), rfl, c', by rw [Nat.zero_add] at h4; exact h4, h5⟩
   ·simp only [T.sys, T.kind] at hs hj ⊢
    obtain ⟨b, hb, _, h6⟩ := b2 _ (Ad (d := Bd) hs)
    obtain ⟨h7, h8⟩ := A2m h6
    obtain ⟨c', h9, h10⟩ := h8 j hj
    obtain ⟨s', hs', e⟩ := V0 (d := Bd) hb
    refine ⟨_, List.mem_of_getElem? (Hl t s' j hs' (by rw [e]; omega)), rfl, c', h9, ?_⟩
    rw [e]; exact h10
  ·obtain ⟨b, hb, h6, _⟩ := b2 b' hb'
   exact ⟨b, hb, h6⟩
theorem B6 {α β : Type} {x : Ai α} {k : α → Ai β} {e : Int} (h : x.bind k = .bad e) : x = .bad e ∨ ∃ a, x = .ok a ∧ k a = .bad e := by
 cases x with
 | ok a => exact .inr ⟨a, rfl, h⟩
 | bad e' => injection h with h; subst h; exact .inl rfl
theorem Xo {k : Int} {c : C} {e : Int} : ∀ {ts : List T} {i : Nat}, D3 A k i ts c = .bad e → ∃ j, j < ts.length ∧ (A.M0 c (binds k ((i + j : Nat) : Int)) = .bad e ∨ ∃ c', A.M0 c (binds k ((i + j : Nat) : Int)) = .ok c' ∧ Ce A (ts.getD j t0) c' = .bad e)
 | [], i, h => by rw [Eh] at h; cases h
 | t :: ts, i, h => by
  rw [Du] at h
  rcases B6 h with h | ⟨c', h1, h⟩
  ·exact ⟨0, by simp, .inl (by simpa using h)⟩
  ·rcases B6 h with h | ⟨t', h2, h⟩
   ·exact ⟨0, by simp, .inr ⟨c', by simpa using h1, by simpa using h⟩⟩
   ·rcases B6 h with h | ⟨ts', h3, h⟩
    ·obtain ⟨j, hj, h4⟩ := Xo h
     refine ⟨j + 1, by simpa using hj, ?_⟩
     rw [List.getD_cons_succ, show i + (j + 1) = i + 1 + j by omega]; exact h4
    ·cases h
theorem Xm {k : Int} {c : C} {e : Int} : ∀ {ts : List T}, Cd A k ts c = .bad e → ∃ j, j < ts.length ∧ (A.M0 c (0, more k) = .bad e ∨ ∃ c', A.M0 c (0, more k) = .ok c' ∧ Ce A (ts.getD j t0) c' = .bad e)
 | [], h => by rw [Eg] at h; cases h
 | t :: ts, h => by
  rw [Dt] at h
  rcases B6 h with h | ⟨c', h1, h⟩
  ·exact ⟨0, by simp, .inl h⟩
  ·rcases B6 h with h | ⟨t', h2, h⟩
   ·exact ⟨0, by simp, .inr ⟨c', h1, by simpa using h⟩⟩
   ·rcases B6 h with h | ⟨ts', h3, h⟩
    ·obtain ⟨j, hj, h4⟩ := Xm h
     exact ⟨j + 1, by simpa using hj, by rw [List.getD_cons_succ]; exact h4⟩
    ·cases h
theorem Ry {k : Int} {c : C} {e : Int} : ∀ {bs : List Br}, Cn A k bs c = .bad e → ∃ b, b ∈ bs ∧ (A.Ay c b.Ay = .bad e ∨ Cd A k b.kids c = .bad e)
 | [], h => by rw [E2] at h; cases h
 | b :: bs, h => by
  rw [Dh] at h
  rcases B6 h with h | ⟨o, h1, h⟩
  ·exact ⟨b, List.mem_cons_self, .inl h⟩
  ·cases o with
   | none => obtain ⟨x, hx, h⟩ := Ry h; exact ⟨x, List.mem_cons_of_mem _ hx, h⟩
   | some f' =>
    rcases B6 h with h | ⟨ks, h2, h⟩
    ·exact ⟨b, List.mem_cons_self, .inr h⟩
    ·rcases B6 h with h | ⟨us, h3, h⟩
     ·obtain ⟨x, hx, h⟩ := Ry h; exact ⟨x, List.mem_cons_of_mem _ hx, h⟩
     ·cases h
theorem A2l {t : T} {c : C} {e : Int} (h : Ce A t c = .bad e) : A.own c t.kind t.n t.name t.r = .bad e ∨ (∃ b, b ∈ t.sys ∧ A.Ay c b.Ay = .bad e) ∨ ∃ p, p ∈ parts t ∧ (A.M0 c p.2 = .bad e ∨ ∃ c', A.M0 c p.2 = .ok c' ∧ Ce A p.1 c' = .bad e) := by
 rw [Fv] at h
 rcases B6 h with h | ⟨o, h1, h⟩
 ·exact .inl h
 ·cases o with
  | inl u => cases h
  | inr p =>
   rcases B6 h with h | ⟨ks, h2, h⟩
   ·obtain ⟨j, hj, h3⟩ := Xo h
    rw [Nat.zero_add] at h3
    exact .inr (.inr ⟨_, List.mem_of_getElem? (Hm t j hj), h3⟩)
   ·rcases B6 h with h | ⟨ss, h3, h⟩
    ·obtain ⟨b, hb, h4⟩ := Ry h
     rcases h4 with h4 | h4
     ·exact .inr (.inl ⟨b, hb, h4⟩)
     ·obtain ⟨j, hj, h5⟩ := Xm h4
      obtain ⟨s, hs, e2⟩ := V0 (d := Bd) hb
      refine .inr (.inr ⟨_, List.mem_of_getElem? (Hl t s j hs (by rw [e2]; exact hj)), ?_⟩)
      rw [e2]; exact h5
    ·cases h
end
theorem J0 {l : List Cl} {i : Nat} : (F1 l).testBit i = true ↔ i < 24 ∧ ∃ c, c ∈ l ∧ (c.pos ||| c.neg).testBit i = true := by
 unfold F1
 rw [G0, Bool.and_eq_true, decide_eq_true_eq, A5g (fun c : Cl => c.pos ||| c.neg)]
 simp
theorem Kf {s : Nat} {f b : Int} (h : (Ak s f b).1 = 0) (i : Nat) (hi : (Ak s f b).2.testBit i = true) : ∃ j, j < 24 ∧ s.testBit j = true ∧ (((j : Int) < f ∧ i = j) ∨ (f ≤ (j : Int) ∨ 24 ≤ j) ∧ (i : Int) = j + b) := by
 obtain ⟨h0, h1, h2⟩ := R4 h i
 rw [h2, Bool.or_eq_true, Bool.and_eq_true, Bool.and_eq_true, decide_eq_true_eq, decide_eq_true_eq, G0, G0, Bool.and_eq_true, Bool.and_eq_true, decide_eq_true_eq, decide_eq_true_eq] at hi
 rcases hi with ⟨h3, h4, h5⟩ | ⟨h3, h4, h5⟩
 ·exact ⟨i, h4, h5, .inl ⟨by omega, rfl⟩⟩
 ·exact ⟨i - b.toNat, h4, h5, .inr ⟨by omega, by omega⟩⟩
theorem Qs {l g : List Cl} {f b : Int} (hf : 0 ≤ f) (h : B7 b l f = .ok g) {i : Nat} (hi : (F1 g).testBit i = true) : ∃ j : Nat, j < 24 ∧ (F1 l).testBit j = true ∧ (((j : Int) < f ∧ i = j) ∨ f ≤ (j : Int) ∧ (i : Int) = j + b) := by
 unfold B7 at h
 split at h
 ·rename_i h0
  injection h with h
  subst h
  have h1 := (J0.mp hi).1
  refine ⟨i, h1, hi, ?_⟩
  omega
 ·split at h
  ·rename_i h0 h1
   injection h with h
   subst h
   obtain ⟨h2, h3, h4⟩ := Jo h1
   obtain ⟨h5, c, hc, h6⟩ := J0.mp hi
   rw [h4] at h1 hc
   have hc2 := Jn h1 hc
   obtain ⟨d, hd, e⟩ := List.mem_map.mp hc2
   have h7 := h3 d hd
   obtain ⟨_, h8, h9, h10⟩ := B5l h7
   rw [h10] at e
   subst e
   rw [Nat.testBit_or, Bool.or_eq_true] at h6
   have key : ∀ j, (d.pos.testBit j = true ∨ d.neg.testBit j = true) → j < 24 → (F1 l).testBit j = true := fun j hj hj2 => J0.mpr ⟨hj2, d, hd, by rw [Nat.testBit_or, Bool.or_eq_true]; exact hj⟩
   rcases h6 with h6 | h6
   ·obtain ⟨j, h11, h12, h13⟩ := Kf h8 i h6
    exact ⟨j, h11, key j (.inl h12) h11, by omega⟩
   ·obtain ⟨j, h11, h12, h13⟩ := Kf h9 i h6
    exact ⟨j, h11, key j (.inr h12) h11, by omega⟩
  ·cases h
theorem A4o {vb db : Int} {c c' : Int × Int} {b : Int × Int} (h : (Bh vb db).M0 c b = .ok c') : c' = (c.1 + b.1, c.2 + b.2) := by injection h with h; exact h.symm
theorem B4u {t : T} (h : F0 t) {b : Br} (hb : b ∈ t.sys) : A8 b.Ay = true := (On.mp (L6.mp h).2.2.2.2 b hb).2.1
theorem Sh {t : T} (h : F0 t) {p : Part} (hp : p ∈ parts t) : F0 p.1 := (M4.mp h).2 p hp
def vE (n : Int) : T := .mk 1 n ⟨#[]⟩ [] [] []
theorem B5y {t : T} {f b : Int} (hb : Ap b) (h : Lr t) : Lr (Be t f b).2 := by
 refine guard_okT' (fun ha u hu => ?_)
 simp only [List.all_cons, List.all_nil, Bool.and_true, Bool.and_eq_true, decide_eq_true_eq] at ha
 exact A4n ⟨ha.2.1, B1g hb ha.2.1 ha.2.2⟩ h hu
theorem C0i {t : T} {f b : Int} (h : Lr t) : Lr (Bf t f b).2 := guard_okT' (fun _ u hu => A4n A4 h hu)
theorem Vn {t : T} (h : F0 t) (hk : t.kind = 1) : t = .mk 1 t.n ⟨#[]⟩ [] [] [] ∧ 0 ≤ t.n := by
 obtain ⟨h1, h2, h3, h4, h5⟩ := L6.mp h
 obtain ⟨_, a2, a3, _⟩ := h1
 have hn : t.name = ⟨#[]⟩ := W6.mp (beq_iff_eq.mpr (a2 (by rw [hk]; decide)))
 have hr := (a3 hk).1
 have hks : t.kids = [] := by
  rw [hk, show D6 1 = 0 by decide] at h2
  exact List.eq_nil_of_length_eq_zero A4
 have hss := h3 (by rw [hk]; decide)
 refine ⟨?_, (a3 hk).2⟩
 obtain ⟨k, n, nm, r, ks, ss⟩ := t
 simp only [T.kind, T.n, T.name, T.r, T.kids, T.sys] at *
 subst hk hn hr hks hss
 rfl
def Fo : List T → Nat
 | [] => 0
 | t :: ts => size t + Fo ts
def Ks : List Br → Nat
 | [] => 0
 | b :: bs => Fo b.kids + Ks bs
theorem foldl_add {α : Type} (f : α → Nat) : ∀ (l : List α) (a : Nat), l.foldl (fun a p => a + f p) a = a + l.foldl (fun a p => a + f p) 0
 | [], a => rfl
 | x :: l, a => by rw [List.foldl_cons, List.foldl_cons, foldl_add f l (a + f x), foldl_add f l (0 + f x)]; omega
theorem Pn (t : T) : size t = 1 + Fo t.kids + Ks t.sys := by
 have hk : ∀ (k : Int) (ts : List T) (i : Nat), (Cx k i ts).foldl (fun a p => a + size p.1) 0 = Fo ts := by
  intro k ts
  induction ts with
  | nil => intro i; rfl
  | cons t ts ih => intro i; rw [Cx, List.foldl_cons, foldl_add, ih, Fo]; simp only; omega
 have hm : ∀ (ts : List T) (b : Int × Int), (ts.map fun k => ((k, b.1, b.2) : Part)).foldl (fun a p => a + size p.1) 0 = Fo ts := by
  intro ts b
  induction ts with
  | nil => rfl
  | cons t ts ih => rw [List.map_cons, List.foldl_cons, foldl_add, ih, Fo]; simp only; omega
 have hs : ∀ (k : Int) (bs : List Br), (Ct k bs).foldl (fun a p => a + size p.1) 0 = Ks bs := by
  intro k bs
  induction bs with
  | nil => rfl
  | cons b bs ih => rw [Ct, List.foldl_append, foldl_add, ih, hm b.kids (0, more k), Ks]
 rw [size_eq, parts, List.foldl_append, foldl_add, hs, foldl_add, hk]
section
variable {t u : T} {n : Int}
end
theorem A0n {s : Nat} {f b : Int} (h : (Ak s f b).1 = 0) (i : Nat) : (Ak s f b).2.testBit i = true ↔ ∃ j, j < 24 ∧ s.testBit j = true ∧ (((j : Int) < f ∧ i = j) ∨ (f ≤ (j : Int) ∧ (i : Int) = j + b)) := by
 obtain ⟨h0, h1, h2⟩ := R4 h i
 constructor
 ·intro hi
  obtain ⟨j, h3, h4, h5⟩ := Kf h i hi
  exact ⟨j, h3, h4, by omega⟩
 ·rintro ⟨j, h3, h4, h5⟩
  rw [h2, Bool.or_eq_true, Bool.and_eq_true, Bool.and_eq_true, decide_eq_true_eq, decide_eq_true_eq, G0, G0, Bool.and_eq_true, Bool.and_eq_true, decide_eq_true_eq, decide_eq_true_eq]
  rcases h5 with ⟨h5, rfl⟩ | ⟨h5, h6⟩
  ·exact .inl ⟨by omega, h3, h4⟩
  ·refine .inr ⟨by omega, ?_⟩
   rw [show i - b.toNat = j by omega]
   exact ⟨h3, h4⟩
theorem Yg {s : Nat} {f b : Int} (hs : s < 16777216) (h0 : 0 ≤ f) (hb : 0 ≤ b) (h : b = 0 ∨ 24 ≤ f) : Ak s f b = (0, s) := by
 have hs24 : s &&& 16777215 = s := by rw [A6l]; exact Nat.mod_eq_of_lt hs
 have h1 : (Ak s f b).1 = 0 := by
  unfold Ak
  rw [if_neg A4]
  split
  ·rfl
  ·rename_i h2
   rw [if_neg]
   rintro (h3 | h3)
   ·rcases h with h | h
    ·omega
    ·refine h2 ?_
     refine Nat.eq_of_testBit_eq fun i => ?_
     rw [H2, L3, Nat.zero_testBit, G0, show min f.toNat 24 = 24 by omega]
     by_cases hi : i < 24 <;> simp [hi]
   ·rcases h with h | h
    ·subst h
     have := Z8 (q := s &&& 16777215) (m := 2 ^ min f.toNat 24 - 1) (Js s)
     simp at h3
     omega
    ·refine h2 ?_
     refine Nat.eq_of_testBit_eq fun i => ?_
     rw [H2, L3, Nat.zero_testBit, G0, show min f.toNat 24 = 24 by omega]
     by_cases hi : i < 24 <;> simp [hi]
 refine Prod.ext h1 ?_
 refine Nat.eq_of_testBit_eq fun i => ?_
 rw [Bool.eq_iff_iff, A0n h1]
 have hlt : ∀ j, s.testBit j = true → j < 24 := fun j hj => by
  refine Nat.lt_of_not_le fun hge => ?_
  rw [Nat.testBit_lt_two_pow (Nat.lt_of_lt_of_le hs (Nat.pow_le_pow_right (n := 2) (i := 24) A4 hge))] at hj
  cases hj
 constructor
 ·rintro ⟨j, h2, h3, h4⟩
  rw [show i = j by omega]; exact h3
 ·intro h2
  exact ⟨i, hlt i h2, h2, by have := hlt i h2; omega⟩
theorem A1d {l : List Cl} (h : Ab l = true) : (∀ c, c ∈ l → B8 c = true) ∧ apart l = true := by
 unfold Ab at h
 simp only [Bool.and_eq_true, List.all_eq_true] at h
 exact ⟨h.1.1.1, h.1.2⟩
theorem I2 {c : Cl} : B8 c = true ↔ c.pos < 16777216 ∧ c.neg < 16777216 := by unfold B8; rw [Bool.and_eq_true, decide_eq_true_eq, decide_eq_true_eq]
section
variable {CA CB CC CD : Type} {A : Tr CA} {B : Tr CB} {C : Tr CC} {D : Tr CD} (R : CA → CB → CC → CD → Prop)
variable {R}
end
theorem Pl : ∀ {l m : List Int}, (l.Pairwise fun a b => a < b) → (m.Pairwise fun a b => a < b) → (∀ x, x ∈ l ↔ x ∈ m) → l = m
 | [], [], _, _, _ => rfl
 | [], b :: m, _, _, h => by have := (h b).mpr List.mem_cons_self; cases this
 | a :: l, [], _, _, h => by have := (h a).mp List.mem_cons_self; cases this
 | a :: l, b :: m, hl, hm, h => by
  obtain ⟨l1, l2⟩ := List.pairwise_cons.mp hl
  obtain ⟨m1, m2⟩ := List.pairwise_cons.mp hm
  have hab : a = b := by
   rcases List.mem_cons.mp ((h a).mp List.mem_cons_self) with h1 | h1
   ·exact h1
   ·rcases List.mem_cons.mp ((h b).mpr List.mem_cons_self) with h2 | h2
    ·exact h2.symm
    ·have := l1 b h2; have := m1 a h1; omega
  subst hab
  have : l = m := Pl l2 m2 fun x => by
   constructor
   ·intro hx
    rcases List.mem_cons.mp ((h x).mp (List.mem_cons_of_mem _ hx)) with h1 | h1
    ·subst h1; have := l1 x hx; omega
    ·exact h1
   ·intro hx
    rcases List.mem_cons.mp ((h x).mpr (List.mem_cons_of_mem _ hx)) with h1 | h1
    ·subst h1; have := m1 x hx; omega
    ·exact h1
  rw [this]
theorem Ly (s : Nat) : (Ar s).Pairwise fun a b => a < b := by
 unfold Ar Nn
 rw [List.pairwise_map]
 refine List.Pairwise.filter _ ?_
 exact List.pairwise_lt_range.imp fun h => by omega
theorem B4b (s : Nat) : Ar (s &&& 16777215) = Ar s := by
 refine Pl (Ly _) (Ly _) fun x => ?_
 rw [Hp, Hp, G0]
 constructor
 ·rintro ⟨h1, h2, h3⟩
  rw [Bool.and_eq_true] at h3
  exact ⟨h1, h2, h3.2⟩
 ·rintro ⟨h1, h2, h3⟩
  exact ⟨h1, h2, by rw [h3, decide_eq_true A4]; rfl⟩
theorem B3y {r : Nat} (h0 : ¬ r = 0) (h : r < 4294967296) : ∃ m, r = 2 ^ Lib.ctz 32 r * (2 * m + 1) ∧ Lib.ctz 32 r < 32 := by
 obtain ⟨m, h1, h2⟩ := Lib.ctzFrom_spec 32 r A4 h
 have e : Lib.ctz 32 r = Lib.ctzFrom 32 r := by unfold Lib.ctz; rw [if_neg h0]
 rw [e]
 exact ⟨m, h1, h2⟩
theorem C2w {r k m i : Nat} (h : r = 2 ^ k * (2 * m + 1)) : (r &&& (r - 1)).testBit i = (r.testBit i && decide (i ≠ k)) ∧ r.testBit k = true ∧ (i < k → r.testBit i = false) := by
 have hp : 0 < 2 ^ k := Nat.pow_pos Ii
 have e1 : r = 2 ^ (k + 1) * m + 2 ^ k := by rw [h, Nat.pow_succ, Nat.mul_add, Nat.mul_assoc]; simp
 have e2 : r - 1 = 2 ^ (k + 1) * m + (2 ^ k - 1) := by omega
 have hb1 : 2 ^ k < 2 ^ (k + 1) := by rw [Nat.pow_succ]; omega
 have hb2 : 2 ^ k - 1 < 2 ^ (k + 1) := by omega
 have t1 : ∀ j, r.testBit j = if j < k + 1 then (2 ^ k).testBit j else m.testBit (j - (k + 1)) := fun j => by rw [e1]; exact Nat.testBit_two_pow_mul_add m hb1 j
 have t2 : ∀ j, (r - 1).testBit j = if j < k + 1 then (2 ^ k - 1).testBit j else m.testBit (j - (k + 1)) := fun j => by rw [e2]; exact Nat.testBit_two_pow_mul_add m hb2 j
 refine ⟨?_, by rw [t1, if_pos A4, Nat.testBit_two_pow_self], fun hi => by rw [t1, if_pos A4, Nat.testBit_two_pow_of_ne A4]⟩
 rw [Nat.testBit_and, t1, t2]
 by_cases hi : i < k + 1
 ·rw [if_pos hi, if_pos hi, Nat.testBit_two_pow, Nat.testBit_two_pow_sub_one]
  by_cases hk : k = i
  ·subst hk; simp
  ·simp [hk]
 ·rw [if_neg hi, if_neg hi]
  have : i ≠ k := by omega
  simp [this]
theorem Yi {r : Nat} (h0 : ¬ r = 0) (h : r < 16777216) : Lib.ctz 32 r < 24 ∧ Ar r = (Lib.ctz 32 r : Int) :: Ar (r &&& (r - 1)) := by
 obtain ⟨m, h1, h2⟩ := B3y h0 A4
 have hb := fun i => C2w (i := i) h1
 have hk : Lib.ctz 32 r < 24 := Decidable.byContradiction fun hn => by
  have h3 := Nat.ge_two_pow_of_testBit (hb 0).2.1
  have h4 : 2 ^ 24 ≤ 2 ^ Lib.ctz 32 r := Nat.pow_le_pow_right Ii A4
  omega
 refine ⟨hk, Pl (Ly _) (List.pairwise_cons.mpr ⟨fun x hx => ?_, Ly _⟩) fun x => ?_⟩
 ·obtain ⟨x0, x1, x2⟩ := Hp.mp hx
  rw [(hb x.toNat).1, Bool.and_eq_true, decide_eq_true_eq] at x2
  have : ¬ x.toNat < Lib.ctz 32 r := fun hlt => by have := (hb x.toNat).2.2 hlt; rw [x2.1] at this; cases this
  omega
 ·rw [List.mem_cons, Hp, Hp, (hb x.toNat).1, Bool.and_eq_true, decide_eq_true_eq]
  constructor
  ·rintro ⟨x0, x1, x2⟩
   by_cases hx : x = (Lib.ctz 32 r : Int)
   ·exact .inl hx
   ·exact .inr ⟨x0, x1, x2, by omega⟩
  ·rintro (rfl | ⟨x0, x1, x2, _⟩)
   ·exact ⟨by omega, by omega, by rw [Int.toNat_natCast]; exact (hb 0).2.1⟩
   ·exact ⟨x0, x1, x2⟩
theorem C7j {r : Nat} (h0 : ¬ r = 0) : r &&& (r - 1) < r := Nat.lt_of_le_of_lt Nat.and_le_right A4
def C6k : ByteArray := ⟨#[0, 1, 1, 2, 1, 2, 2, 3, 1, 2, 2, 3, 2, 3, 3, 4, 1, 2, 2, 3, 2, 3, 3, 4, 2, 3, 3, 4, 3, 4, 4, 5, 1, 2, 2, 3, 2, 3, 3, 4, 2, 3, 3, 4, 3, 4, 4, 5, 2, 3, 3, 4, 3, 4, 4, 5, 3, 4, 4, 5, 4, 5, 5, 6, 1, 2, 2, 3, 2, 3, 3, 4, 2, 3, 3, 4, 3, 4, 4, 5, 2, 3, 3, 4, 3, 4, 4, 5, 3, 4, 4, 5, 4, 5, 5, 6, 2, 3, 3, 4, 3, 4, 4, 5, 3, 4, 4, 5, 4, 5, 5, 6, 3, 4, 4, 5, 4, 5, 5, 6, 4, 5, 5, 6, 5, 6, 6, 7, 1, 2, 2, 3, 2, 3, 3, 4, 2, 3, 3, 4, 3, 4, 4, 5, 2, 3, 3, 4, 3, 4, 4, 5, 3, 4, 4, 5, 4, 5, 5, 6, 2, 3, 3, 4, 3, 4, 4, 5, 3, 4, 4, 5, 4, 5, 5, 6, 3, 4, 4, 5, 4, 5, 5, 6, 4, 5, 5, 6, 5, 6, 6, 7, 2, 3, 3, 4, 3, 4, 4, 5, 3, 4, 4, 5, 4, 5, 5, 6, 3, 4, 4, 5, 4, 5, 5, 6, 4, 5, 5, 6, 5, 6, 6, 7, 3, 4, 4, 5, 4, 5, 5, 6, 4, 5, 5, 6, 5, 6, 6, 7, 4, 5, 5, 6, 5, 6, 6, 7, 5, 6, 6, 7, 6, 7, 7, 8]⟩
def pop8 (j : Nat) : Nat := j % 2 + j / 2 % 2 + j / 4 % 2 + j / 8 % 2 + j / 16 % 2 + j / 32 % 2 + j / 64 % 2 + j / 128 % 2
theorem Up : ∀ j, j < 256 → C6k[j]? = some (UInt8.ofNat (pop8 j)) ∧ pop8 j ≤ 8 := by decide +kernel
def Qu (s : Nat) : Nat := pop8 (s / 16777216) + pop8 (s / 65536 &&& 255) + pop8 (s / 256 &&& 255) + pop8 (s &&& 255)
theorem B3g : ∀ k, k < 24 → Qu (2 ^ k) = 1 := by decide +kernel
theorem A7r : Qu 0 = 0 := by decide
theorem A1p (s : Nat) : s &&& 255 < 256 := Nat.lt_of_le_of_lt Nat.and_le_right Ii
section
variable {tn : Bool} {pn : Nat} {P : Program} [Tab P] {f : FuncId} {R : Ending → World → Prop} {B : Bx} {n : Fz} {K : List Item} {ops : Array Oper} {i : Nat} {l fin : List Nat} {σ : Nat → Value} {Γ : List Fact} {Ms Ms2 : List Aw}
variable {dst : Option Tmp} {op : Op} {ty : TypeId} {pos : String} {after : Array Edge} {v : Value} {x y z : Operand}
theorem A3d {t : TypeId} {s : ByteArray} {j : Nat} (hu : Tab.und P t = some .string) (hx : ev σ x = .string s) (hs : s = C6k) (hy : ev σ y = .int .u32 (j : Int)) (hj : j < 256) : C4 P σ (.index t x y) ty (.int .u8 (pop8 j : Nat)) := fun w => by
 subst hs
 have h := (Up j hj)
 have e : ((UInt8.ofNat (pop8 j)).toNat : Int) = (pop8 j : Nat) := by
  rw [UInt8.toNat_ofNat']
  have := h.2
  omega
 simp [C2, execOp, hx, hy, Instr.index, asIntOf, Cu hu, h.1]
 have := h.2
 omega
theorem B7r {t t' : TypeId} {a b : Nat} (hx : ev σ x = .int .u8 (a : Nat)) (hy : ev σ y = .int .u8 (b : Nat)) (h : a + b < 256) : C4 P σ (.binOp .add t x y t') ty (.int .u8 ((a + b : Nat) : Int)) :=
 Cp hx hy (fun w => Bl w) (fun w => by
  have e : IntKind.u8.wrap ((a : Int) + (b : Int)) = ((a + b : Nat) : Int) := by simp [IntKind.wrap, IntKind.signed, IntKind.bits]; omega
  show Result.ok (Value.int .u8 (IntKind.u8.wrap ((a : Int) + (b : Int)))) w = _
  rw [e])
theorem B3k {s d : TypeId} {ds : TypeDesc} {a : Nat} (hs : Tab.und P s = some ds) (hd : Tab.und P d = some (.int .i64)) (hx : ev σ x = .int .u8 (a : Nat)) (ha : a < 256) : C4 P σ (.convert s d x) ty (.int .i64 (a : Int)) := by
 have h := Jg hs hd hx (ty := ty)
 rwa [show IntKind.i64.wrap (a : Int) = (a : Int) by rw [IntKind.wrap_i64]; omega] at h
theorem Ts {t : TypeId} {s : ByteArray} {j : Nat} (k_ : NV tn pn P f R B n K ops fin l (Ah σ dst (.int .u8 (pop8 j : Nat))) Γ Ms) (hx : ev σ x = .string s := by exact A7) (hy : ev σ y = .int .u32 (j : Int) := by exact A7) (hs : s = C6k := by rfl) (hu : Tab.und P t = some .string := by rfl) (hj : j < 256 := by first | omega | exact A1p _) (hd : A9 n dst = true := by rfl) : Ij tn pn P f R B n K ops fin i l dst (.index t x y) ty σ Γ Ms := Cv (A3d hu hx hs hy hj) hd k_
theorem Zk {t t' : TypeId} {a b : Nat} (k_ : NV tn pn P f R B n K ops fin l (Ah σ dst (.int .u8 ((a + b : Nat) : Int))) Γ Ms) (hx : ev σ x = .int .u8 (a : Nat) := by exact A7) (hy : ev σ y = .int .u8 (b : Nat) := by exact A7) (h : a + b < 256 := by omega) (hd : A9 n dst = true := by rfl) : Ij tn pn P f R B n K ops fin i l dst (.binOp .add t x y t') ty σ Γ Ms := Cv (B7r hx hy h) hd k_
theorem B6e {s d : TypeId} {ds : TypeDesc} {a : Nat} (k_ : NV tn pn P f R B n K ops fin l (Ah σ dst (.int .i64 (a : Int))) Γ Ms) (hx : ev σ x = .int .u8 (a : Nat) := by exact A7) (hs : Tab.und P s = some ds := by rfl) (hd' : Tab.und P d = some (.int .i64) := by rfl) (ha : a < 256 := by omega) (hd : A9 n dst = true := by rfl) : Ij tn pn P f R B n K ops fin i l dst (.convert s d x) ty σ Γ Ms := Cv (B3k hs hd' hx ha) hd k_
end
theorem Pu {l : List Cl} (h : (Bc l).1 ≠ 0) : (Bc l).2 = [] := by
 unfold Bc at h ⊢
 split
 ·rfl
 ·rename_i h1
  rw [if_neg h1] at h
  split
  ·rfl
  ·rename_i h2
   rw [if_neg h2] at h
   exact absurd rfl h
theorem X6 {l : List Cl} {f b : Int} (hl : Ab l = true) (h0 : 0 ≤ f) (hb : 0 ≤ b) (h : b = 0 ∨ 24 ≤ f) : Aa l f b = (0, l) := by
 obtain ⟨hr, _⟩ := A1d hl
 have key : ∀ c, c ∈ l → B4 c f b = (0, c) := fun c hc => by
  obtain ⟨h2, h3⟩ := I2.mp (hr c hc)
  unfold B4
  rw [if_neg (by rw [hr c hc]; simp), Yg h2 h0 hb h, Yg h3 h0 hb h]
  simp
 have hf : E7 (fun c => B4 c f b) l = (0, l) := by
  unfold E7
  rw [List.find?_eq_none.mpr (fun c hc => by show ¬ decide ((B4 c f b).1 ≠ 0) = true; rw [key c hc]; simp)]
  simp only
  congr 1
  conv => rhs; rw [← List.map_id l]
  exact List.map_congr_left (fun c hc => by rw [key c hc]; rfl)
 unfold Aa
 rw [if_neg (by rw [hl]; simp), hf, if_neg Cq]
 have := A0t l
 rw [hl, Bool.and_eq_true, decide_eq_true_eq, decide_eq_true_eq] at this
 exact Prod.ext this.1 this.2
theorem Qt {l : List Cl} {f b : Int} (hl : Ab l = true) (h0 : 0 ≤ f) (hb : 0 ≤ b) : B7 b l f = if (Aa l f b).1 = 0 then .ok (Aa l f b).2 else .bad (Aa l f b).1 := by
 unfold B7
 by_cases h : b = 0 ∨ 24 ≤ f
 ·rw [if_pos h, X6 hl h0 hb h]; rfl
 ·rw [if_neg h]
theorem B9q {l : List Cl} {f b : Int} : 0 ≤ (Aa l f b).1 := by
 have hl : ∀ m : List Cl, 0 ≤ (Bc m).1 := fun m => by rcases Gy m with h | h | h <;> omega
 unfold Aa
 split
 ·exact (show (0 : Int) ≤ 2 by omega)
 ·split
  ·unfold E7
   split
   ·rename_i c _
    rcases A9j c f b with h | h | h <;> (simp only; omega)
   ·exact Int.le_refl 0
  ·exact hl _
theorem Sy {l : List Cl} {f b e : Int} (h : B7 b l f = .bad e) : 0 < e := by
 unfold B7 at h
 split at h
 ·cases h
 ·split at h
  ·cases h
  ·rename_i h2
   injection h with h
   have := B9q (l := l) (f := f) (b := b)
   omega
theorem R7 {vb db : Int} : ∀ (t : T) {c : Int × Int} {e : Int}, Ce (Bh vb db) t c = .bad e → 0 < e := T.ind fun t ih c e h => by
 rcases A2l h with h1 | ⟨b, _, h1⟩ | ⟨p, hp, h1 | ⟨c', _, h2⟩⟩
 ·rw [T6] at h1
  rcases B6 h1 with h2 | ⟨g, _, h2⟩
  ·exact Sy h2
  ·split at h2
   ·injection h2 with h2; omega
   ·cases h2
 ·rw [P9] at h1
  rcases B6 h1 with h2 | ⟨g, _, h2⟩
  ·exact Sy h2
  ·cases h2
 ·cases h1
 ·exact ih p hp h2
abbrev EL : Type := Int × List Cl
def Et (i : Int) : Nat := if 0 ≤ i ∧ i < 24 then 2 ^ i.toNat else 0
def A2k (s : Nat) (i : Int) : Nat := if 0 ≤ i ∧ i < 24 then (s &&& 16777215) ||| 2 ^ i.toNat else s &&& 16777215
theorem Lg (i : Int) : A2k 0 i = Et i := by unfold A2k Et; split <;> simp
theorem M9 (i : Int) : Et i < 16777216 := by
 unfold Et
 split
 ·exact Nat.pow_lt_pow_right (n := 24) (a := 2) Ii A4
 ·decide
def Vh (i : Int) : Bool := decide (0 ≤ i) && decide (i < 24)
theorem C1y {i : Int} (h : Vh i = true) : Qu (Et i &&& 16777215) = 1 := by
 have h1 : 0 ≤ i ∧ i < 24 := by unfold Vh at h; simpa using h
 have h2 := M9 i
 rw [A6l, Nat.mod_eq_of_lt A4]
 unfold Et
 rw [if_pos h1]
 exact B3g _ A4
theorem B7e {i : Int} (h : Vh i = false) : Qu (Et i &&& 16777215) = 0 := by
 have h1 : ¬ (0 ≤ i ∧ i < 24) := by unfold Vh at h; simp at h; omega
 unfold Et
 rw [if_neg h1]
 exact A7r
theorem A2w (i : Int) : decide (((Qu (Et i &&& 16777215) : Nat) : Int) = 0) = !Vh i := by
 cases h : Vh i
 ·rw [B7e h]; rfl
 ·rw [C1y h]; rfl
def Hc (x : EL) (k : List Cl → EL) : EL := if x.1 ≠ 0 then (x.1, []) else k x.2
theorem Bb {x : EL} {k : List Cl → EL} (h : x.1 ≠ 0) : Hc x k = (x.1, []) := if_pos h
theorem Bz {x : EL} {k : List Cl → EL} (h : x.1 = 0) : Hc x k = k x.2 := if_neg (by simp [h])
def C8 (g : List Cl → Cl → EL) : List Cl → List Cl → EL
 | h, [] => (0, h)
 | h, c :: cs => Hc (g h c) fun h' => C8 g h' cs
theorem Vl {g : List Cl → Cl → EL} : ∀ {l m h h' : List Cl}, C8 g h l = (0, h') → C8 g h (l ++ m) = C8 g h' m
 | [], m, h, h', e => by
  rw [C8, Prod.mk.injEq] at e
  rw [List.nil_append, e.2]
 | d :: l, m, h, h', e => by
  rw [C8] at e
  by_cases h0 : (g h d).1 = 0
  ·rw [Bz h0] at e
   rw [List.cons_append, C8, Bz h0]
   exact Vl e
  ·rw [Bb h0, Prod.mk.injEq] at e
   exact absurd e.1 h0
theorem Vm {g : List Cl → Cl → EL} {l h h' : List Cl} {i : Nat} (hi : i < l.length) (e : C8 g h (l.take i) = (0, h')) (h0 : (g h' (l.getD i Bw)).1 = 0) : C8 g h (l.take (i + 1)) = (0, (g h' (l.getD i Bw)).2) := by
 rw [Ac (d := Bw) hi, Vl e, C8, Bz h0, C8]
theorem Sf {g : List Cl → Cl → EL} {l h h' : List Cl} {i : Nat} (hi : i < l.length) (e : C8 g h (l.take i) = (0, h')) (h0 : (g h' (l.getD i Bw)).1 ≠ 0) : C8 g h l = ((g h' (l.getD i Bw)).1, []) := by
 have e2 : l = l.take i ++ l.getD i Bw :: l.drop (i + 1) := by rw [Cy (d := Bw) hi, List.getElem_cons_drop, List.take_append_drop]
 rw [e2, Vl e, ← e2, C8, Bb h0]
theorem Sg {g : List Cl → Cl → EL} {l h h' : List Cl} {i : Nat} (hi : i = l.length) (e : C8 g h (l.take i) = (0, h')) : C8 g h l = (0, h') := by
 rw [hi, List.take_length] at e
 exact e
def Gz (f g : List Cl) : EL := Bc (f ++ g)
def I5 (f g : List Cl) : List Cl := f.flatMap fun a => g.map fun b => Cr a b
def Jk (f g : List Cl) : EL := Bc (I5 f g)
def Wv (c : Cl) : List Cl := ((Ar c.pos).map fun i => (⟨0, Et i⟩ : Cl)) ++ ((Ar c.neg).map fun i => (⟨Et i, 0⟩ : Cl))
def A0f (c : Cl) : EL := Bc (Wv c)
def Cw (h : List Cl) (c : Cl) : EL := Hc (A0f c) fun o => Jk h o
def R1 (f : List Cl) : EL := C8 Cw [Bw] f
def Jw (f : List Cl) : EL := if Ab f then R1 f else (2, [])
def Dc (l : List Cl) : List Cl := l.filter fun c => !I7 c
def Tp (f : List Cl) : EL := if Ab f then Bc (Dc f) else (2, [])
def Ej (r : List Cl) : EL := Hc (Jw r) Tp
def L2 (f g : List Cl) : EL := Bc (f.flatMap fun a => Dc (g.map fun b => Cr a b))
def Ha (f g : List Cl) : EL := if (A8 f && A8 g) = false then (2, []) else Gz f g
abbrev Q5 (x : EL) : Prop := Ag x.2
theorem B2z {l m : List Cl} (h : Ag l) (hs : ∀ c, c ∈ m → c ∈ l) (hl : m.length ≤ l.length) : Ag m := ⟨fun c hc => h.1 c (hs c hc), by have := h.2; omega⟩
theorem Kz {l : List Cl} (h : ∀ c, c ∈ l → u32 c) : Q5 (Bc l) := Yn h
theorem Uy {x : EL} {k : List Cl → EL} (h : x.1 = 0 → Q5 (k x.2)) : Q5 (Hc x k) := by
 by_cases h0 : x.1 = 0
 ·rw [Bz h0]; exact h h0
 ·rw [Bb h0]; exact Ci
theorem A3o {g : List Cl → Cl → EL} : ∀ {l h : List Cl}, (∀ h c, c ∈ l → Ag h → Q5 (g h c)) → Ag h → Q5 (C8 g h l)
 | [], h, _, h2 => h2
 | c :: l, h, h1, h2 => by
  rw [C8]
  exact Uy fun _ => A3o (fun h' d hd => h1 h' d (List.mem_cons_of_mem _ hd)) (h1 h c List.mem_cons_self h2)
theorem Jc {a b : Cl} (h : u32 a) (h2 : u32 b) : u32 (Cr a b) := ⟨Nat.or_lt_two_pow (n := 32) h.1 h2.1, Nat.or_lt_two_pow (n := 32) h.2 h2.2⟩
theorem U6 {f g : List Cl} (h : ∀ c, c ∈ f → u32 c) (h2 : ∀ c, c ∈ g → u32 c) : ∀ c, c ∈ f ++ g → u32 c := fun c hc => (List.mem_append.mp hc).elim (h c) (h2 c)
theorem Xl {f g : List Cl} (h : ∀ c, c ∈ f → u32 c) (h2 : ∀ c, c ∈ g → u32 c) : ∀ c, c ∈ I5 f g → u32 c := fun c hc => by
 obtain ⟨a, ha, hc⟩ := List.mem_flatMap.mp hc
 obtain ⟨b, hb, rfl⟩ := List.mem_map.mp hc
 exact Jc (h a ha) (h2 b hb)
theorem B0f (c : Cl) : ∀ d, d ∈ Wv c → u32 d := fun d hd => by
 rcases List.mem_append.mp hd with hd | hd
 ·obtain ⟨i, _, rfl⟩ := List.mem_map.mp hd
  exact ⟨by show (0 : Nat) < _; decide, by have := M9 i; show Et i < 4294967296; omega⟩
 ·obtain ⟨i, _, rfl⟩ := List.mem_map.mp hd
  exact ⟨by have := M9 i; show Et i < 4294967296; omega, by show (0 : Nat) < _; decide⟩
theorem Xy {c : Cl} (h : u32 c) : Ag [c] := ⟨fun d hd => by rw [List.mem_singleton] at hd; subst hd; exact h, by unfold reach; simp⟩
theorem A3n {f g : List Cl} (h : Ag f) (h2 : Ag g) : Q5 (Gz f g) := Kz (U6 h.1 h2.1)
theorem A3m {f g : List Cl} (h : Ag f) (h2 : Ag g) : Q5 (Jk f g) := Kz (Xl h.1 h2.1)
theorem B0z (c : Cl) : Q5 (A0f c) := Kz (B0f c)
theorem T3 {h : List Cl} {c : Cl} (hh : Ag h) : Q5 (Cw h c) := Uy fun _ => A3m hh (B0z c)
theorem Hh : Ag [Bw] := Xy ⟨by decide, by decide⟩
theorem B1a (f : List Cl) : Q5 (R1 f) := A3o (fun h c _ hh => T3 hh) Hh
theorem A3k (f : List Cl) : Q5 (Jw f) := by unfold Jw; split; exact B1a f; exact Ci
theorem Po {l : List Cl} (h : Ag l) : Ag (Dc l) := B2z h (fun c hc => (List.mem_filter.mp hc).1) (List.length_filter_le _ _)
theorem B7y {f : List Cl} (h : Ag f) : Q5 (Tp f) := by unfold Tp; split; exact Kz (Po h).1; exact Ci
theorem A8b (r : List Cl) : Q5 (Ej r) := Uy fun _ => B7y (A3k r)
theorem B3q {f g : List Cl} (h : Ag f) (h2 : Ag g) : Q5 (L2 f g) := Kz fun c hc => by
 obtain ⟨a, ha, hc⟩ := List.mem_flatMap.mp hc
 obtain ⟨b, hb, rfl⟩ := List.mem_map.mp (List.mem_filter.mp hc).1
 exact Jc (h.1 a ha) (h2.1 b hb)
abbrev C2z (x : EL) : Prop := x.2.length ≤ 64
theorem Iy (l : List Cl) : C2z (Bc l) := by
 rcases Gy l with ⟨_, _, h, h2⟩ | h | h
 ·show (Bc l).2.length ≤ 64; rw [h]; exact h2
 ·show (Bc l).2.length ≤ 64; rw [Pu A4]; decide
 ·show (Bc l).2.length ≤ 64; rw [Pu A4]; decide
theorem B8x {x : EL} {k : List Cl → EL} (h : x.1 = 0 → C2z (k x.2)) : C2z (Hc x k) := by
 by_cases h0 : x.1 = 0
 ·rw [Bz h0]; exact h h0
 ·rw [Bb h0]; show ([] : List Cl).length ≤ 64; decide
theorem A4r (h : List Cl) (c : Cl) : C2z (Cw h c) := B8x fun _ => Iy _
theorem Hr {f : List Cl} (h : Ab f = true) : f.length ≤ 64 := by
 unfold Ab at h
 simp only [Bool.and_eq_true, decide_eq_true_eq] at h
 exact h.2
theorem B7v (c : Cl) : (Wv c).length ≤ 48 := by
 unfold Wv
 rw [List.length_append, List.length_map, List.length_map]
 have h1 : (Ar c.pos).length ≤ 24 := Hq _ _
 have h2 : (Ar c.neg).length ≤ 24 := Hq _ _
 omega
theorem B8t {s i : Nat} (h : i < (Ar s).length) : 0 ≤ (Ar s).getD i 0 ∧ (Ar s).getD i 0 < 24 := by
 have h1 := Yh (Ad (d := (0 : Int)) h)
 exact ⟨h1.1, by have := h1.2; exact_mod_cast this⟩
theorem A4l {s i : Nat} (h : i < (Ar s).length) : Ap ((Ar s).getD i 0) := by have := B8t h; unfold Ap; omega
theorem Yf (f g : List Cl) : (I5 f g).length = f.length * g.length := by
 unfold I5
 induction f with
 | nil => simp
 | cons a f ih => rw [List.flatMap_cons, List.length_append, ih, List.length_map, List.length_cons, Nat.succ_mul]; omega
theorem A8j (f g : List Cl) (a : Cl) : I5 (f ++ [a]) g = I5 f g ++ g.map fun b => Cr a b := by unfold I5; rw [List.flatMap_append]; simp
theorem Bq {ok : Nat → Prop} {l : List Cl} {a : SH} {w : World} (h : Hb ok l a w) : Ag l := ⟨h.2, h.1.2.1⟩
def Vv (i : Int) : EL := if Vh i then (0, [⟨Et i, 0⟩]) else (2, [])
theorem St.A0p {B : Bx} {Γ : List Fact} {Ms : List Aw} {w : World} {e : TypeId} {b : Nat} {l m : List Cl} {a a' : SH} (hs : St B Γ (Af b [sl a l.length, sl a' m.length] e :: Ms) w) {hBp : Prop} (hB : hBp) (hF : CL l a ∈ Γ) (hG : CL m a' ∈ Γ) : St B (J4 [(l, a), (m, a')] (some ⟨b, 0, Option.none⟩, 2) :: Γ) Ms w := by
 have h1 := ((hs.Ib (sz := 1) (m := 2) rfl Ii).A1u N0).Wh (x := (l, a)) List.mem_cons_self (List.mem_cons_of_mem _ hF)
 have h2 := h1.Wh (x := (m, a')) List.mem_cons_self (List.mem_cons_of_mem _ (List.mem_cons_of_mem _ hG))
 exact (h2.Oc (F := By) (E := N0) (d := C6) (bt := 24) (l := [(l, a), (m, a')]) (fun _ => rfl) hB List.mem_cons_self rfl rfl Ii).less sx_
theorem Spec.Oy {P : Program} {k : FuncId} {args : Array Value} {pre : List Fact} {e : TypeId} {r r' : EL} (he : r' = r) (h : Spec P k args pre [] (fun x : SH => .tuple #[sl x r.2.length, .int .i64 r.1]) (fun _ => []) (fun x => [Am 2 e x r.2.length (A5 r.2)])) (hr : Q5 r) :
  Spec P k args pre [] (fun x : SH => .tuple #[sl x r'.2.length, .int .i64 r'.1]) (fun x => [CL r'.2 x]) (fun _ => []) := by
 subst he
 exact fun ok w hok hst => (h ok w hok hst).mono fun e w' hh => by
  obtain ⟨x, he, hs⟩ := hh
  exact ⟨x, he, hs.D4 trivial rfl rfl hr.2 hr.1⟩
theorem Spec.Ox {P : Program} {k : FuncId} {args : Array Value} {pre : List Fact} {e : TypeId} {r r' : EL} (he : r' = r) (h : Spec P k args pre [] (fun x : SH => .tuple #[sl x r.2.length, .int .i64 r.1]) (fun _ => []) (fun x => [Am 2 e x r.2.length (A5 r.2)])) :
  Spec P k args pre [] (fun x : SH => .tuple #[sl x r'.2.length, .int .i64 r'.1]) (fun _ => []) (fun x => [Am 2 e x r'.2.length (A5 r'.2)]) := by
 subst he
 exact h
structure C1c where
 form : Int → List Cl → EL
 Ay : Int → List Cl → EL
def elR (x : EL) : Ai (List Cl) := if x.1 = 0 then .ok x.2 else .bad x.1
theorem A9e {x : EL} (h : x.1 = 0) : elR x = .ok x.2 := if_pos h
theorem B1t {x : EL} (h : x.1 ≠ 0) : elR x = .bad x.1 := if_neg h
theorem Vu {x : EL} {g : List Cl} : elR x = .ok g ↔ x = (0, g) := by
 unfold elR
 split
 ·rename_i h
  constructor
  ·intro h2; injection h2 with h2; exact Prod.ext h h2
  ·rintro rfl; rfl
 ·rename_i h
  constructor
  ·intro h2; cases h2
  ·rintro rfl; exact absurd rfl h
theorem Td {x : EL} {e : Int} : elR x = .bad e ↔ x.1 = e ∧ e ≠ 0 := by
 unfold elR
 split
 ·rename_i h
  constructor
  ·intro h2; cases h2
  ·rintro ⟨h2, h3⟩; exact absurd (h2.symm.trans h) h3
 ·rename_i h
  constructor
  ·intro h2; injection h2 with h2; exact ⟨h2, h2 ▸ h⟩
  ·rintro ⟨h2, h3⟩; rw [h2]
section
variable {g : Nat → T → Ai T}
end
theorem Ws {C : Type} {A : Tr C} {k : Int} {c : C} {ss : List Br} {s : Nat} {bs : List Br} (hs : s < ss.length) (hb : Cn A k (ss.take s) c = .ok bs) (hf : A.Ay c (ss.getD s Bd).Ay = .ok none) : Cn A k (ss.take (s + 1)) c = .ok bs := by
 rw [Ac (d := Bd) hs, Jd, hb]
 simp only [Ai.bind]
 rw [hf]
theorem Wr {C : Type} {A : Tr C} {t : T} {c : C} {e : Int} {p : Int × List Cl} (h : A.own c t.kind t.n t.name t.r = .ok (.inr p)) (hl : D3 A t.kind 0 t.kids c = .bad e) : Ce A t c = .bad e := by
 rw [Fv, h]; simp only [Ai.bind]; rw [hl]
section
variable {W : C1c}
theorem Zq : size t0 = 1 := by decide
end
section
variable {α : Type} {g : α → T → Int × T}
end
section
variable {P : Program} [Tab P] {f : FuncId} {R : Ending → World → Prop} {B : Bx} {n : Fz} {K : List Item} {ops : Array Oper} {l : List Nat} {σ : Nat → Value} {Γ : List Fact} {Ms : List Aw} {dst : Option Tmp} {ty : TypeId} {x : Operand}
end
end Go.Hy
namespace Go.Hy
open Go Go.ChangeShapes Go.WideShapes Go.RowKit Go.Shelf Go.Proofs
theorem Tq {C : Checked} {os : Os} {f : FuncId} {fn : Func} {s : ChangeSpec} {conds : List PathCond} {ts : List TypeId} {tb : TypeId} {H : Type} {enc : TypeId × Value → H} {L : List (String × DataW Unit)}
  (own : ownKnob C.prog.godebug = none) (started : os.Started) (noInit : C.prog.inits.idxOf? f = none) (hfn : C.prog.funcs[f]? = some fn)
  (witness : ∃ (w : World) (tape : Tape) (i : Input), w.os = os ∧ (w.forCall tape i).Shaped C.prog ∧ i.vars = [] ∧ Input.okWide C.prog (w.forCall tape i) .any w.heap.size f i ∧
   ((s.pre enc C.prog fn conds false (w.forCall tape i).memory i.args ∧ laidMetH C.prog L (w.forCall tape i).memory) ∧ sizedMet enc C.prog fn (OpenSpec.ofChange s) false (w.forCall tape i).memory i.args) ∧ Assume.holds {} C.prog (lone (Frame.enter C.prog f i.args .normal) [] (w.forCall tape i)))
  (laid : laidOutB C.prog = true) (hps : fn.params.toList = ts) (hread : ts.all (fun t => C.prog.readableRec t && decide (t < C.prog.types.size)) = true) (hres : fn.resultTypes = #[tb]) (hbool : C.prog.underlying tb = some .bool) (hvars : s.vars = [])
  (hsays : ∀ ds : List (DataW H), ds.length = ts.length → s.fn H ds = { results := [.lit (.bool true)], args := ds })
  (hcall : ∀ (W : World) (base : Nat) (args : Array Value) (ds : List (DataW H)) (p : List MemPlace), (∀ (j : Nat) t v, ts[j]? = some t → args[j]? = some v → Value.okWide C.prog W .any base t v) →
   DataW.TrodAll enc C.prog W 0 (fun _ => true) true ts args.toList ds p → (∀ x, x ∈ DataW.weightsEach C.prog ts ds → x ≤ reach) → laidMetH C.prog L W →
   Calls C.prog f args W fun e W' => e = .returned (.bool true) ∧ Below W.heap.size W W') :
  ReturnsInHanded {} C os f .any (fun w args => (s.pre enc C.prog fn conds false w args ∧ laidMetH C.prog L w) ∧ sizedMet enc C.prog fn (OpenSpec.ofChange s) false w args) (s.post enc C.prog fn false true false false) := by
 refine returnsInHanded_of_change_and (X := fun w _ => laidMetH C.prog L w) (fun _ _ _ hh h => h.of_heap hh) own started noInit hfn witness ?_
 intro W base args ds gs before hval hW hcnd hwt hL _
 have hW' := hW
 obtain ⟨p, q, hA, hV, rfl, hfz, hnd⟩ := hW
 rw [hvars] at hV
 obtain ⟨rfl, rfl⟩ := trodVars_none hV
 rw [hps] at hA hwt
 have hlen : ∀ {ts : List TypeId} {vs : List Value} {ds : List (DataW H)} {ps : List MemPlace}, DataW.TrodAll enc C.prog W 0 (fun _ => true) true ts vs ds ps → ds.length = ts.length := by
  intro ts
  induction ts with
  | nil => intro vs ds ps h; obtain ⟨_, rfl, _⟩ := trodAll_nil h; rfl
  | cons t ts ih =>
   intro vs ds ps h
   obtain ⟨v, vs1, d, ds1, a, b, rfl, rfl, rfl, _, h2⟩ := trodAll_cons h
   simp [ih h2]
 have hvt : s.plain.varTypes C.prog = [] := by
  have : s.plain.vars = [] := hvars
  unfold DataSpec.varTypes; rw [this]; rfl
 have hw2 : ∀ x, x ∈ DataW.weightsEach C.prog ts ds → x ≤ reach := by
  intro x hx
  rw [List.append_nil, hvt, List.append_nil] at hwt
  have := List.all_eq_true.mp hwt x hx
  exact of_decide_eq_true this
 refine (hcall W base args ds p (fun j t v ht hv => hval j t v (by rw [← Array.getElem?_toList, hps]; exact ht) hv) hA hw2 hL).mono ?_
 intro e W' ⟨he, hb⟩
 have hlt : ∀ x ∈ p, x.block < W.heap.size := fun x hx => hW'.lt x (by simpa using hx)
 refine ⟨.bool true, he, ds, [], p ++ [], [], p, [], hW', ?_, ?_, ?_, hb.frame _, fun h => by cases h⟩
 ·rw [List.append_nil, hsays ds (hlen hA), hres]
  exact ⟨[], [], ⟨1, by simp [DataW.trod, Value.cells, hbool]⟩, rfl, rfl⟩
 ·rw [List.append_nil, hsays ds (hlen hA), hps]
  refine P4 laid hb (fun t ht => ?_) hA hlt
  have := List.all_eq_true.mp hread t ht
  simpa using this
 ·rw [List.append_nil, hsays ds (hlen hA), hvars]
  rfl
theorem B6j {P : Program} {W : World} {nm : String} {t e : TypeId} {tab : List Nat} (hg : P.globalNamed nm = some 0) (ht : (P.globals[0]?).map (·.type) = some t) (hu : P.underlying t = some (.array tab.length e)) (he : P.underlying e = some (.int .u8)) (hc : P.cellsOf e = 1) (hc2 : P.cellsOf t = tab.length) (hpos : 0 < tab.length)
  (hp : ([(nm, (DataW.agg (tab.map fun (v : Nat) => .lit (.int .u8 (v : Int))) : DataW Unit))].all fun x => x.2.handleName?.isNone) = true) (h : laidMetH P [(nm, .agg (tab.map fun (v : Nat) => .lit (.int .u8 (v : Int))))] W) : TabAt 0 tab W ∧ 0 < W.heap.size := by
 rw [MakeChecks.laidMetH_plain _ _ _ hp] at h
 obtain ⟨ps, ⟨g0, t0, cs0, f0, p0, q0, hg0, ht0, hv0, hd0, _⟩, _⟩ := h
 obtain rfl := u_ hg hg0
 obtain rfl := u_ ht ht0
 obtain ⟨xs, m1, rfl, hx1, hlen, hn3, hel⟩ := DataW.trod_array hu hd0
 simp only [Prod.mk.injEq, DataW.agg.injEq] at hx1
 have hcell : ∀ j, j < tab.length → W.cell? ⟨0, j, none⟩ = some (.int .u8 (tab.getD j 0)) := by
  intro j hj
  have h1 := hel j hj
  rw [hc, Nat.mul_one, List.getElem?_eq_getElem A4] at h1
  obtain ⟨n, e1, e2, _⟩ := DataW.trod_int he h1
  have h2 := World.var?_cell hg0 hv0 j
  have h3 : cs0[j]? = some (.int .u8 n) := by
   have h4 := congrArg (fun l => l[0]?) e1
   simp only [List.getElem?_take, List.getElem?_drop, List.getElem?_cons_zero] at h4
   simpa using h4
  rw [h2, h3]
  have h5 : (tab.map fun (v : Nat) => (DataW.lit (.int .u8 (v : Int)) : DataW Unit))[j]? = (xs.map (·.1))[j]? := by rw [hx1.1]
  rw [List.getElem?_map, List.getElem?_map, List.getElem?_eq_getElem hj, List.getElem?_eq_getElem (show j < xs.length by omega)] at h5
  simp only [Option.map_some, Option.some.injEq] at h5
  rw [e2] at h5
  simp only [DataW.lit.injEq, Lit.int.injEq, true_and] at h5
  rw [List.getD_eq_getElem?_getD, List.getElem?_eq_getElem hj]
  simp [← h5]
 refine ⟨hcell, ?_⟩
 have h6 := hcell 0 hpos
 refine Nat.lt_of_not_le fun hz => ?_
 unfold World.cell? at h6
 rw [Array.getElem?_eq_none (show W.heap.size ≤ 0 from hz)] at h6
 simp at h6
theorem B6k {W : World} {tab : List Nat} (h : TabAt 0 tab W ∧ 0 < W.heap.size) : (At 0 0 (tab.map fun (v : Nat) => Value.int .u8 (v : Int))).f (Yc W) W := by
 refine ⟨h.2, fun j v hj => ?_⟩
 rw [List.getElem?_map] at hj
 cases hq : tab[j]? with
 | none => rw [hq] at hj; cases hj
 | some k =>
  rw [hq] at hj
  injection hj with hj
  subst hj
  have hlt : j < tab.length := by
   refine Nat.lt_of_not_le fun hn => ?_
   rw [List.getElem?_eq_none hn] at hq
   cases hq
  have h1 := h.1 j hlt
  rw [List.getD_eq_getElem?_getD, hq] at h1
  rw [Nat.zero_add]
  exact h1
end Go.Hy
namespace Go.Hy
abbrev Wd : Type := Nat → Prop
def Mt (c : Cl) (P N : Wd) : Prop := (∀ i, c.pos.testBit i = true → P i) ∧ ∀ i, c.neg.testBit i = true → N i
def sat (l : List Cl) (P N : Wd) : Prop := ∃ c, c ∈ l ∧ Mt c P N
def Ti (s : Nat) : Wd := fun i => s.testBit i = true
def Z3 (P N : Wd) : Prop := ∀ i, ¬ (P i ∧ N i)
theorem B7u {a b : Nat} : a ||| b = a ↔ ∀ i, b.testBit i = true → a.testBit i = true := by
 constructor
 ·intro h i hi
  rw [← h, Nat.testBit_or, hi, Bool.or_true]
 ·intro h
  refine Nat.eq_of_testBit_eq fun i => ?_
  rw [Nat.testBit_or]
  cases hb : b.testBit i with
  | false => simp
  | true => rw [h i hb]; rfl
theorem Oo {a b : Cl} : below a b = true ↔ Mt b (Ti a.pos) (Ti a.neg) := by
 unfold below Mt Ti
 rw [Bool.and_eq_true, decide_eq_true_eq, decide_eq_true_eq, B7u, B7u]
theorem B2y (c : Cl) : Mt c (Ti c.pos) (Ti c.neg) := ⟨fun i h => h, fun i h => h⟩
theorem Qq {a b : Cl} {P N : Wd} (h : below a b = true) (hs : Mt a P N) : Mt b P N := by
 have h1 := Oo.mp h
 exact ⟨fun i hi => hs.1 i (h1.1 i hi), fun i hi => hs.2 i (h1.2 i hi)⟩
theorem A9q (c : Cl) : below c c = true := Oo.mpr (B2y c)
theorem A6f {a b c : Cl} (h : below a b = true) (h2 : below b c = true) : below a c = true := Oo.mpr (Qq h2 (Oo.mp h))
theorem X1 {l : List Cl} {c : Cl} (h : C5 l c = true) : ∃ d, d ∈ l ∧ c ≠ d ∧ below c d = true := by
 unfold C5 at h
 obtain ⟨d, hd, h2⟩ := List.any_eq_true.mp h
 rw [Bool.and_eq_true] at h2
 exact ⟨d, hd, by simpa using h2.1, h2.2⟩
theorem T8 {l : List Cl} : ∀ (n : Nat) (c : Cl), c.pos + c.neg ≤ n → c ∈ l → ∃ d, d ∈ Ei l ∧ below c d = true
 | n, c, hn, hc => by
  cases h : C5 l c with
  | false => exact ⟨c, E5.mpr ⟨hc, h⟩, A9q c⟩
  | true =>
   obtain ⟨d, hd, hne, hb⟩ := X1 h
   have h1 : c.pos ||| d.pos = c.pos ∧ c.neg ||| d.neg = c.neg := by
    unfold below at hb
    rw [Bool.and_eq_true, decide_eq_true_eq, decide_eq_true_eq] at hb
    exact hb
   have h2 : d.pos ≤ c.pos := by have := Nat.right_le_or (n := c.pos) (m := d.pos); omega
   have h3 : d.neg ≤ c.neg := by have := Nat.right_le_or (n := c.neg) (m := d.neg); omega
   have h4 : d.pos + d.neg < c.pos + c.neg := by
    refine Nat.lt_of_le_of_ne A4 fun he => hne ?_
    have e1 : c.pos = d.pos := by omega
    have e2 : c.neg = d.neg := by omega
    cases c; cases d; simp_all
   obtain ⟨e, he, h5⟩ := T8 (d.pos + d.neg) d (Nat.le_refl _) hd
   exact ⟨e, he, A6f hb h5⟩
termination_by n c => c.pos + c.neg
theorem Zv {l : List Cl} {P N : Wd} : sat (Ei l) P N ↔ sat l P N := by
 constructor
 ·rintro ⟨c, hc, h⟩; exact ⟨c, (E5.mp hc).1, h⟩
 ·rintro ⟨c, hc, h⟩
  obtain ⟨d, hd, hb⟩ := T8 _ c (Nat.le_refl _) hc
  exact ⟨d, hd, Qq hb h⟩
theorem Hg {l : List Cl} {P N : Wd} (h : (Bc l).1 = 0) : sat (Bc l).2 P N ↔ sat l P N := by
 rcases Gy l with ⟨_, _, h2, _⟩ | h2 | h2
 ·rw [h2]; exact Zv
 ·rw [h2] at h; cases h
 ·rw [h2] at h; cases h
theorem Hu {l : List Cl} (h : Ab l = true) : l.all B8 = true := by
 unfold Ab at h
 simp only [Bool.and_eq_true] at h
 exact h.1.1.1
theorem B5k {c : Cl} : I7 c = false ↔ Z3 (Ti c.pos) (Ti c.neg) := by
 unfold I7 Z3 Ti
 rw [decide_eq_false_iff_not, Decidable.not_not]
 constructor
 ·rintro h i ⟨h1, h2⟩
  have h3 : (c.pos &&& c.neg).testBit i = true := by rw [Nat.testBit_and, h1, h2]; rfl
  rw [h, Nat.zero_testBit] at h3
  cases h3
 ·intro h
  refine Nat.eq_of_testBit_eq fun i => ?_
  rw [Nat.testBit_and, Nat.zero_testBit]
  cases h1 : c.pos.testBit i with
  | false => rfl
  | true => cases h2 : c.neg.testBit i with
   | false => rfl
   | true => exact absurd ⟨h1, h2⟩ (h i)
theorem Ep {l : List Cl} (h : A8 l = true) : Ab l = true ∧ ∀ c, c ∈ l → I7 c = false := by
 unfold A8 at h
 rw [Bool.and_eq_true, Bool.not_eq_true'] at h
 refine ⟨h.1, fun c hc => ?_⟩
 cases hq : I7 c with
 | false => rfl
 | true => rw [List.any_eq_true.mpr ⟨c, hc, hq⟩] at h; cases h.2
theorem Sn {l : List Cl} (h : Ab l = true) (h2 : ∀ c, c ∈ l → I7 c = false) : A8 l = true := by
 unfold A8
 rw [Bool.and_eq_true, Bool.not_eq_true', h]
 refine ⟨rfl, ?_⟩
 cases hq : l.any I7 with
 | false => rfl
 | true => obtain ⟨c, hc, h3⟩ := List.any_eq_true.mp hq; rw [h2 c hc] at h3; cases h3
section
variable {f g l : List Cl} {P N : Wd} {a b c : Cl}
theorem B0k : ¬ sat [] P N := by rintro ⟨c, hc, _⟩; cases hc
theorem Lp : sat (f ++ g) P N ↔ sat f P N ∨ sat g P N := by
 unfold sat
 simp only [List.mem_append]
 constructor
 ·rintro ⟨c, h | h, h2⟩
  ·exact .inl ⟨c, h, h2⟩
  ·exact .inr ⟨c, h, h2⟩
 ·rintro (⟨c, h, h2⟩ | ⟨c, h, h2⟩)
  ·exact ⟨c, .inl h, h2⟩
  ·exact ⟨c, .inr h, h2⟩
theorem Uk : sat [c] P N ↔ Mt c P N := by
 unfold sat
 constructor
 ·rintro ⟨d, hd, h⟩; rw [List.mem_singleton] at hd; subst hd; exact h
 ·intro h; exact ⟨c, List.mem_singleton.mpr rfl, h⟩
theorem B6s : Mt Bw P N := ⟨fun i hi => by simp [Bw] at hi, fun i hi => by simp [Bw] at hi⟩
theorem B0i : sat [Bw] P N := Uk.mpr B6s
theorem Xx : Mt (Cr a b) P N ↔ Mt a P N ∧ Mt b P N := by
 unfold Mt Cr
 simp only [Nat.testBit_or, Bool.or_eq_true]
 constructor
 ·rintro ⟨h1, h2⟩; exact ⟨⟨fun i hi => h1 i (.inl hi), fun i hi => h2 i (.inl hi)⟩, fun i hi => h1 i (.inr hi), fun i hi => h2 i (.inr hi)⟩
 ·rintro ⟨h1, h2⟩; exact ⟨fun i hi => hi.elim (h1.1 i) (h2.1 i), fun i hi => hi.elim (h1.2 i) (h2.2 i)⟩
theorem S2 : sat (I5 f g) P N ↔ sat f P N ∧ sat g P N := by
 unfold sat I5
 simp only [List.mem_flatMap, List.mem_map]
 constructor
 ·rintro ⟨c, ⟨a, ha, b, hb, rfl⟩, h⟩
  have h2 := Xx.mp h
  exact ⟨⟨a, ha, h2.1⟩, b, hb, h2.2⟩
 ·rintro ⟨⟨a, ha, h1⟩, b, hb, h2⟩
  exact ⟨_, ⟨a, ha, b, hb, rfl⟩, Xx.mpr ⟨h1, h2⟩⟩
theorem A2u (hw : Z3 P N) : sat (Dc l) P N ↔ sat l P N := by
 unfold sat Dc
 constructor
 ·rintro ⟨c, hc, h⟩; exact ⟨c, (List.mem_filter.mp hc).1, h⟩
 ·rintro ⟨c, hc, h⟩
  refine ⟨c, List.mem_filter.mpr ⟨hc, ?_⟩, h⟩
  rw [Bool.not_eq_true', B5k]
  rintro i ⟨h1, h2⟩
  exact hw i ⟨h.1 i h1, h.2 i h2⟩
end
theorem Rm {i : Int} {j : Nat} : (Et i).testBit j = true ↔ (0 ≤ i ∧ i < 24) ∧ (j : Int) = i := by
 unfold Et
 split
 ·rename_i h
  rw [Nat.testBit_two_pow, decide_eq_true_eq]
  omega
 ·rename_i h
  rw [Nat.zero_testBit]
  constructor
  ·intro h2; cases h2
  ·rintro ⟨h2, _⟩; exact absurd h2 h
theorem Im {c : Cl} (h : B8 c = true) : (∀ i, c.pos.testBit i = true → i < 24) ∧ ∀ i, c.neg.testBit i = true → i < 24 := by
 obtain ⟨h1, h2⟩ := I2.mp h
 have key : ∀ s i : Nat, s < 16777216 → s.testBit i = true → i < 24 := fun s i hs hi => by
  refine Decidable.byContradiction fun hn => ?_
  have h3 : s < 2 ^ i := Nat.lt_of_lt_of_le (show s < 2 ^ 24 by omega) (Nat.pow_le_pow_right A4 A4)
  rw [Nat.testBit_lt_two_pow h3] at hi
  cases hi
 exact ⟨fun i hi => key _ i h1 hi, fun i hi => key _ i h2 hi⟩
theorem Df {s : Nat} {x : Int} : x ∈ Ar s ↔ 0 ≤ x ∧ x < 24 ∧ s.testBit x.toNat = true := Hp
theorem C1u {c : Cl} {P N : Wd} (hc : B8 c = true) : sat (Wv c) P N ↔ (∃ i, c.pos.testBit i = true ∧ N i) ∨ ∃ i, c.neg.testBit i = true ∧ P i := by
 obtain ⟨b1, b2⟩ := Im hc
 unfold Wv
 rw [Lp]
 have one : ∀ (s : Nat) (hs : ∀ i, s.testBit i = true → i < 24) (mk : Nat → Cl) (Q : Wd) (hq : ∀ x : Int, 0 ≤ x → x < 24 → (Mt (mk (Et x)) P N ↔ Q x.toNat)), sat ((Ar s).map fun i => mk (Et i)) P N ↔ ∃ i, s.testBit i = true ∧ Q i := by
  intro s hs mk Q hq
  unfold sat
  simp only [List.mem_map]
  constructor
  ·rintro ⟨_, ⟨x, hx, rfl⟩, h⟩
   obtain ⟨x0, x1, x2⟩ := Df.mp hx
   exact ⟨x.toNat, x2, (hq x x0 x1).mp h⟩
  ·rintro ⟨i, hi, h⟩
   have h3 := hs i hi
   exact ⟨_, ⟨(i : Int), Df.mpr ⟨by omega, by omega, by simpa using hi⟩, rfl⟩, (hq (i : Int) A4 A4).mpr (by simpa using h)⟩
 have e1 := one c.pos b1 (fun s => ⟨0, s⟩) N (fun x x0 x1 => by
  unfold Mt
  simp only [Nat.zero_testBit, Rm]
  constructor
  ·intro h; exact h.2 x.toNat ⟨⟨x0, x1⟩, by omega⟩
  ·intro h; exact ⟨fun i hi => (by cases hi), fun i hi => (show i = x.toNat by omega) ▸ h⟩)
 have e2 := one c.neg b2 (fun s => ⟨s, 0⟩) P (fun x x0 x1 => by
  unfold Mt
  simp only [Nat.zero_testBit, Rm]
  constructor
  ·intro h; exact h.1 x.toNat ⟨⟨x0, x1⟩, by omega⟩
  ·intro h; exact ⟨fun i hi => (show i = x.toNat by omega) ▸ h, fun i hi => (by cases hi)⟩)
 exact or_congr e1 e2
theorem Ol {g : List Cl → Cl → EL} {L : List Cl} {I : List Cl → List Cl → Prop} (hs : ∀ pre c h, c ∈ L → I pre h → (g h c).1 = 0 → I (pre ++ [c]) (g h c).2) : ∀ (m pre h : List Cl), I pre h → (∀ c, c ∈ m → c ∈ L) → (C8 g h m).1 = 0 → I (pre ++ m) (C8 g h m).2
 | [], pre, h, hi, _, _ => by rw [List.append_nil]; exact hi
 | c :: m, pre, h, hi, hm, h0 => by
  rw [C8] at h0 ⊢
  by_cases h1 : (g h c).1 = 0
  ·rw [Bz h1] at h0 ⊢
   have h2 := Ol hs m (pre ++ [c]) _ (hs pre c h (hm c List.mem_cons_self) hi h1) (fun d hd => hm d (List.mem_cons_of_mem _ hd)) h0
   rwa [List.append_assoc] at h2
  ·rw [Bb h1] at h0
   exact absurd h0 h1
theorem F6 {x : EL} {k : List Cl → EL} (h : (Hc x k).1 = 0) : x.1 = 0 ∧ (k x.2).1 = 0 ∧ Hc x k = k x.2 := by
 by_cases h1 : x.1 = 0
 ·rw [Bz h1] at h ⊢; exact ⟨h1, h, rfl⟩
 ·rw [Bb h1] at h; exact absurd h h1
def coW (P : Wd) : Wd := fun i => ¬ P i
theorem B0j {f : List Cl} {P N : Wd} (hf : ∀ c, c ∈ f → B8 c = true) (h : (R1 f).1 = 0) : sat (R1 f).2 P N ↔ ¬ sat f (coW N) (coW P) := by
 have h2 := Ol (g := Cw) (L := f) (I := fun pre h => ∀ P N, sat h P N ↔ ∀ c, c ∈ pre → ¬ Mt c (coW N) (coW P)) (fun pre c h hc hi h0 P N => by
  unfold Cw at h0 ⊢
  obtain ⟨a1, a2, a3⟩ := F6 h0
  rw [a3]
  unfold Jk at a2 ⊢
  rw [Hg a2, S2, hi]
  unfold A0f at a1 ⊢
  rw [Hg a1, C1u (hf c hc)]
  simp only [List.mem_append, List.mem_singleton, or_imp, forall_and, forall_eq]
  refine and_congr Iff.rfl ?_
  unfold Mt coW
  constructor
  ·rintro (⟨i, hi, hn⟩ | ⟨i, hi, hn⟩) ⟨h1, h2⟩
   ·exact h1 i hi hn
   ·exact h2 i hi hn
  ·intro h1
   refine Classical.byContradiction fun h2 => h1 ⟨fun i hi hn => h2 (.inl ⟨i, hi, hn⟩), fun i hi hn => h2 (.inr ⟨i, hi, hn⟩)⟩) f [] [Bw] (fun P N => ⟨fun _ c hc => (by cases hc), fun _ => B0i⟩) (fun c hc => hc) h P N
 rw [List.nil_append] at h2
 unfold R1
 rw [h2]
 unfold sat
 constructor
 ·rintro h3 ⟨c, hc, h4⟩; exact h3 c hc h4
 ·intro h3 c hc h4; exact h3 ⟨c, hc, h4⟩
theorem B6r {r : List Cl} {P N : Wd} (hw : Z3 P N) (h : (Tp r).1 = 0) : sat (Tp r).2 P N ↔ sat r P N := by
 unfold Tp at h ⊢
 split at h
 ·rename_i h1
  rw [if_pos h1, Hg h, A2u hw]
 ·cases h
theorem A7g {r : List Cl} {P N : Wd} (hw : Z3 P N) (h : (Ej r).1 = 0) : sat (Ej r).2 P N ↔ ¬ sat r (coW N) (coW P) := by
 unfold Ej at h ⊢
 obtain ⟨a1, a2, a3⟩ := F6 h
 rw [a3, B6r hw a2]
 unfold Jw at a1 ⊢
 split at a1
 ·rename_i h1
  rw [if_pos h1, B0j (fun c hc => List.all_eq_true.mp (Hu h1) c hc) a1]
 ·cases a1
def uE : T := .mk 3 0 ⟨#[]⟩ [] [] []
def aE (t u : T) : T := .mk 6 0 ⟨#[]⟩ [] [t, u] []
def lE (t : T) : T := .mk 5 0 ⟨#[]⟩ [] [t] []
theorem Zz {a b : Cl} (h : B8 a = true) (h2 : B8 b = true) : B8 (Cr a b) = true := by
 obtain ⟨a1, a2⟩ := I2.mp h
 obtain ⟨b1, b2⟩ := I2.mp h2
 exact I2.mpr ⟨Nat.or_lt_two_pow (n := 24) a1 b1, Nat.or_lt_two_pow (n := 24) a2 b2⟩
theorem Z9 {f g : List Cl} (h : f.all B8 = true) (h2 : g.all B8 = true) : (I5 f g).all B8 = true := List.all_eq_true.mpr fun c hc => by
 obtain ⟨a, ha, hc⟩ := List.mem_flatMap.mp hc
 obtain ⟨b, hb, rfl⟩ := List.mem_map.mp hc
 exact Zz (List.all_eq_true.mp h a ha) (List.all_eq_true.mp h2 b hb)
theorem A8f {f : List Cl} (h : (R1 f).1 = 0) : Ab (R1 f).2 = true :=
 Ol (g := Cw) (L := f) (I := fun pre h => Ab h = true) (fun pre c h hc hi h0 => by
  unfold Cw at h0 ⊢
  obtain ⟨a1, a2, a3⟩ := F6 h0
  rw [a3]
  exact Hs a2) f [] [Bw] Ii (fun c hc => hc) h
theorem M1 {k n : Int} {nm : ByteArray} {r : List Cl} (h : Se k n nm r) : (k = 14 → A8 r = true) ∧ Ab r = true := by
 obtain ⟨_, _, h3, h4, h5, h6, h7⟩ := h
 refine ⟨h6, ?_⟩
 by_cases e : k = 13 ∨ k = 21 ∨ k = 26
 ·exact h5 e
 ·by_cases e2 : k = 14
  ·exact (Ep (h6 e2)).1
  ·rw [h7 A4]; decide
theorem C2o (i : Int) : Q5 (Vv i) := by
 unfold Vv
 split
 ·exact Xy ⟨by have := M9 i; show Et i < _; omega, by show (0 : Nat) < _; omega⟩
 ·exact Ci
theorem B4h {f g : List Cl} (h : (Ha f g).1 = 0) : (Ha f g).2.length ≤ 64 ∧ A8 (Ha f g).2 = true := by
 unfold Ha at h ⊢
 split at h
 ·cases h
 ·rename_i h1
  rw [if_neg h1]
  simp only [Bool.not_eq_false, Bool.and_eq_true] at h1
  unfold Gz at h ⊢
  have hr := Hs h
  refine ⟨Hr hr, Sn hr fun c hc => ?_⟩
  rcases List.mem_append.mp (Jn h hc) with hc | hc
  ·exact (Ep h1.1).2 c hc
  ·exact (Ep h1.2).2 c hc
section
variable {C : Type} {A : Tr C}
end
def A0b (l : List Cl) : List Cl := l.filter fun c => !A7q c
theorem Y5 {l : List Cl} (h : l.all B8 = true) : A0b l = Dc l := by
 unfold A0b Dc
 refine List.filter_congr fun c hc => ?_
 rw [B3d (List.all_eq_true.mp h c hc)]
def L1 (f g : List Cl) : EL := if (Ab f && Ab g) = false then (2, []) else Jk f g
def L5 (f g : List Cl) : EL := if (Ab f && Ab g) = false then (2, []) else Gz f g
def E6 (f g : List Cl) : EL := if (A8 f && A8 g) = false then (2, []) else Bc (A0b (I5 f g))
theorem A3q {r : List Cl} (h : (Tp r).1 = 0) : A8 (Tp r).2 = true := by
 unfold Tp at h ⊢
 split at h
 ·rename_i h1
  rw [if_pos h1]
  exact Sn (Hs h) fun c hc => by
   have := Jn h hc
   have := (List.mem_filter.mp this).2
   simpa using this
 ·cases h
theorem A3p {r : List Cl} (h : (Ej r).1 = 0) : A8 (Ej r).2 = true := by
 unfold Ej at h ⊢
 obtain ⟨a1, a2, a3⟩ := F6 h
 rw [a3]
 exact A3q a2
theorem A9l {f g : List Cl} : Dc (I5 f g) = f.flatMap fun a => Dc (g.map fun b => Cr a b) := by
 unfold Dc I5
 rw [List.filter_flatMap]
theorem Ke {f g : List Cl} (h : A8 f = true) (h2 : A8 g = true) : E6 f g = L2 f g := by
 unfold E6 L2
 rw [if_neg (by simp [h, h2]), Y5 (Z9 (Hu (Ep h).1) (Hu (Ep h2).1)), A9l]
theorem A8k {f g : List Cl} (h : (L2 f g).1 = 0) : A8 (L2 f g).2 = true := by
 unfold L2 at h ⊢
 exact Sn (Hs h) fun c hc => by
  obtain ⟨a, _, h2⟩ := List.mem_flatMap.mp (Jn h hc)
  have := (List.mem_filter.mp h2).2
  simpa using this
theorem A8q {f g : List Cl} (h : A8 f = true) (h2 : A8 g = true) : Ha f g = Gz f g := by unfold Ha; rw [if_neg (by simp [h, h2])]
def My (k : Int) (r : List Cl) (ks : List T) : T := .mk k 0 ⟨#[]⟩ r ks []
abbrev kd (t : T) (i : Nat) : T := t.kids.getD i t0
abbrev Ev := List T × List (List Cl)
def Wz (p neg : Bool) (f : List Cl) : EL := if p = true then (if neg = true then Ej f else Tp f) else if neg = true then Jw f else (0, f)
def I4 (p : Bool) (g h : List Cl) : EL := if p = true then E6 g h else L1 g h
def Pv (p : Bool) (g h : List Cl) : EL := if p = true then Ha g h else L5 g h
def Ck (p neg : Bool) (D : List (List Cl)) : List Int → List Cl → EL
 | [], g => (0, g)
 | i :: l, g => Hc (Wz p neg (D.getD i.toNat [])) fun h => Hc (I4 p g h) fun g => Ck p neg D l g
def Q0 (p : Bool) (D : List (List Cl)) (c : Cl) : EL := Hc (Ck p false D (Ar c.pos) [Bw]) fun g => Ck p true D (Ar c.neg) g
def Ec (p : Bool) (D : List (List Cl)) (h : List Cl) (c : Cl) : EL := Hc (Q0 p D c) fun g => Pv p h g
def F9 (p : Bool) (D : List (List Cl)) (f : List Cl) : EL := C8 (Ec p D) [] f
theorem Tu {p neg : Bool} {D : List (List Cl)} : ∀ {l m : List Int} {g g' : List Cl}, Ck p neg D l g = (0, g') → Ck p neg D (l ++ m) g = Ck p neg D m g'
 | [], m, g, g', h => by
  rw [Ck, Prod.mk.injEq] at h
  rw [List.nil_append, h.2]
 | i :: l, m, g, g', h => by
  rw [Ck] at h
  rw [List.cons_append, Ck]
  by_cases h1 : (Wz p neg (D.getD i.toNat [])).1 = 0
  ·rw [Bz h1] at h ⊢
   by_cases h2 : (I4 p g (Wz p neg (D.getD i.toNat [])).2).1 = 0
   ·rw [Bz h2] at h ⊢
    exact Tu h
   ·rw [Bb h2, Prod.mk.injEq] at h
    exact absurd h.1 h2
  ·rw [Bb h1, Prod.mk.injEq] at h
   exact absurd h.1 h1
theorem C2x {p neg : Bool} {D : List (List Cl)} {l : List Int} {g g' : List Cl} {k : Nat} (hk : k < l.length) (h : Ck p neg D (l.take k) g = (0, g')) (h1 : (Wz p neg (D.getD (l.getD k 0).toNat [])).1 = 0) (h2 : (I4 p g' (Wz p neg (D.getD (l.getD k 0).toNat [])).2).1 = 0) :
  Ck p neg D (l.take (k + 1)) g = (0, (I4 p g' (Wz p neg (D.getD (l.getD k 0).toNat [])).2).2) := by
 rw [Ac (d := 0) hk, Tu h, Ck, Bz h1, Bz h2, Ck]
theorem B4a {p neg : Bool} {D : List (List Cl)} {l : List Int} {g g' : List Cl} {k : Nat} (hk : k < l.length) (h : Ck p neg D (l.take k) g = (0, g')) (h1 : (Wz p neg (D.getD (l.getD k 0).toNat [])).1 ≠ 0) : Ck p neg D l g = ((Wz p neg (D.getD (l.getD k 0).toNat [])).1, []) := by
 have e2 : l = l.take k ++ l.getD k 0 :: l.drop (k + 1) := by rw [Cy (d := 0) hk, List.getElem_cons_drop, List.take_append_drop]
 rw [e2, Tu h, ← e2, Ck, Bb h1]
theorem B3z {p neg : Bool} {D : List (List Cl)} {l : List Int} {g g' : List Cl} {k : Nat} (hk : k < l.length) (h : Ck p neg D (l.take k) g = (0, g')) (h1 : (Wz p neg (D.getD (l.getD k 0).toNat [])).1 = 0) (h2 : (I4 p g' (Wz p neg (D.getD (l.getD k 0).toNat [])).2).1 ≠ 0) : Ck p neg D l g = ((I4 p g' (Wz p neg (D.getD (l.getD k 0).toNat [])).2).1, []) := by
 have e2 : l = l.take k ++ l.getD k 0 :: l.drop (k + 1) := by rw [Cy (d := 0) hk, List.getElem_cons_drop, List.take_append_drop]
 rw [e2, Tu h, ← e2, Ck, Bz h1, Bb h2]
theorem R5 {p neg : Bool} {D : List (List Cl)} {l : List Int} {g g' : List Cl} {k : Nat} (hk : k = l.length) (h : Ck p neg D (l.take k) g = (0, g')) : Ck p neg D l g = (0, g') := by
 rw [hk, List.take_length] at h
 exact h
def G7 {α β : Type} (g : α → Int × β) : List α → Int × List β
 | [] => (0, [])
 | a :: l => if (g a).1 ≠ 0 then ((g a).1, []) else if (G7 g l).1 ≠ 0 then ((G7 g l).1, []) else (0, (g a).2 :: (G7 g l).2)
theorem A0o {α β : Type} {g : α → Int × β} : ∀ {l : List α}, (∀ a, a ∈ l → (g a).1 = 0) → G7 g l = (0, l.map fun a => (g a).2)
 | [], _ => rfl
 | a :: l, h => by
  have h0 := h a List.mem_cons_self
  have ih := A0o (g := g) (l := l) fun b hb => h b (List.mem_cons_of_mem _ hb)
  rw [G7, if_neg (by simp [h0]), ih, if_neg Cq]
  rfl
theorem V6 {α β : Type} {g : α → Int × β} {d : α} : ∀ {l : List α} {i : Nat}, i < l.length → (∀ j, j < i → (g (l.getD j d)).1 = 0) → (g (l.getD i d)).1 ≠ 0 → G7 g l = ((g (l.getD i d)).1, [])
 | [], i, h, _, _ => absurd h Cq
 | a :: l, 0, h, _, h2 => by
  rw [List.getD_cons_zero] at h2 ⊢
  rw [G7, if_pos h2]
 | a :: l, i + 1, h, h1, h2 => by
  have h0 := h1 0 A4
  rw [List.getD_cons_zero] at h0
  rw [List.getD_cons_succ] at h2 ⊢
  have ih := V6 (g := g) (d := d) (l := l) (i := i) (by simpa using h) (fun j hj => by have := h1 (j + 1) A4; rwa [List.getD_cons_succ] at this) h2
  rw [G7, if_neg (by simp [h0]), ih, if_pos h2]
def Wu {α : Type} (x : Int × α) : Ai α := if x.1 = 0 then .ok x.2 else .bad x.1
def Tn (e : Ev) : Ai Ev := (Wu (G7 (fun t => Be t 0 1) e.1)).bind fun l => .ok (.mk 1 0 ⟨#[]⟩ [] [] [] :: l, e.2)
def Rj (e : Ev) : Ai Ev := (Wu (G7 (fun f => Aa f 0 1) e.2)).bind fun D => (Wu (G7 (fun t => Bf t 0 1) e.1)).bind fun l => .ok (l, [⟨1, 0⟩] :: D)
def Jx (e : Ev) (b : Int × Int) : Ai Ev := if b.1 = 1 then Tn e else if b.2 = 1 then Rj e else .ok e
def Bu : Tr Ev where
 own e k n nm r := if k = 1 then .ok (.inl (e.1.getD n.toNat t0)) else (elR (F9 (decide (k = 14)) e.2 r)).bind fun g => .ok (.inr (0, g))
 Ay e f := (elR (F9 true e.2 f)).bind fun g => .ok (if g.length = 0 then none else some g)
 M0 e b := Jx e b
def Ez (e : Ev) : Bool := decide (e.1.length ≤ 200) && decide (e.2.length ≤ 24)
def Di (e : Ev) : Bool := e.2.all fun f => Ab f
def Mv (f : List Cl) (d : Nat) : Bool := decide (F1 f / 2 ^ d = 0)
def Co (e : Ev) (v d : Int) : Int :=
 if (decide (v < 0) || decide (d < 0) || decide (24 < d) || !Ez e || !Di e || !(e.2.all fun f => Mv f d.toNat)) = true then 2
 else (G7 (fun t => (Bk t v d, ())) e.1).1
def idE (v d : Int) : Int × Ev := if v < 0 ∨ 200 < v ∨ d < 0 ∨ 24 < d then (2, [], []) else (0, (List.range v.toNat).map (fun (n : Nat) => (T.mk 1 (n : Int) ⟨#[]⟩ [] [] [])), (List.range d.toNat).map fun (i : Nat) => [⟨Et (i : Int), 0⟩])
def Vt (f : List Cl) (e : Ev) : EL := if (Ab f && Ez e && Mv f e.2.length && Di e) = true then F9 false e.2 f else (2, [])
def Ae (t : T) (e : Ev) : Int × T :=
 if Ez e = false then (2, t0)
 else if Bk t e.1.length e.2.length ≠ 0 then (Bk t e.1.length e.2.length, t0)
 else if (Di e && e.1.all fun x => decide (As x = 0)) = false then (2, t0)
 else match Ce Bu t e with
  | .bad x => (x, t0)
  | .ok u => if As u ≠ 0 then (As u, t0) else (0, u)
def C4o (e f : Ev) : Int × Ev :=
 if (G7 (fun g => Vt g f) e.2).1 ≠ 0 then ((G7 (fun g => Vt g f) e.2).1, [], [])
 else if (G7 (fun t => Ae t f) e.1).1 ≠ 0 then ((G7 (fun t => Ae t f) e.1).1, [], [])
 else (0, (G7 (fun t => Ae t f) e.1).2, (G7 (fun g => Vt g f) e.2).2)
def Cj (p : Bool) (g : List Cl) : Prop := if p = true then A8 g = true else Ab g = true
def W5 (p : Bool) (P N : Wd) : Prop := p = true → Z3 P N
theorem S5 {p : Bool} {g : List Cl} (h : Cj p g) : Ab g = true := by
 unfold Cj at h
 split at h
 ·exact (Ep h).1
 ·exact h
def evP (D : List (List Cl)) (P N : Wd) : Wd := fun j => sat (D.getD j []) P N
def evN (D : List (List Cl)) (P N : Wd) : Wd := fun j => ¬ sat (D.getD j []) (coW N) (coW P)
theorem C2p {p neg : Bool} {d : List Cl} (hd : Ab d = true) (h : (Wz p neg d).1 = 0) : Cj p (Wz p neg d).2 ∧ ∀ P N, W5 p P N → (sat (Wz p neg d).2 P N ↔ if neg = true then ¬ sat d (coW N) (coW P) else sat d P N) := by
 unfold Wz at h ⊢
 cases p with
 | false =>
  simp only [Bool.false_eq_true, if_false] at h ⊢
  cases neg with
  | false =>
   simp only [Bool.false_eq_true, if_false]
   exact ⟨by unfold Cj; rw [if_neg Ii]; exact hd, fun P N _ => trivial⟩
  | true =>
   simp only [if_true] at h ⊢
   unfold Jw at h ⊢
   rw [if_pos hd] at h ⊢
   exact ⟨by unfold Cj; rw [if_neg Ii]; exact A8f h, fun P N _ => B0j (fun c hc => List.all_eq_true.mp (Hu hd) c hc) h⟩
 | true =>
  simp only [if_true] at h ⊢
  cases neg with
  | false =>
   simp only [Bool.false_eq_true, if_false] at h ⊢
   exact ⟨by unfold Cj; rw [if_pos rfl]; exact A3q h, fun P N hw => B6r (hw rfl) h⟩
  | true =>
   simp only [if_true] at h ⊢
   exact ⟨by unfold Cj; rw [if_pos rfl]; exact A3p h, fun P N hw => A7g (hw rfl) h⟩
theorem B8l {p : Bool} {g k : List Cl} (hg : Cj p g) (hk : Cj p k) (h : (I4 p g k).1 = 0) : Cj p (I4 p g k).2 ∧ ∀ P N, W5 p P N → (sat (I4 p g k).2 P N ↔ sat g P N ∧ sat k P N) := by
 unfold I4 at h ⊢
 cases p with
 | false =>
  simp only [Bool.false_eq_true, if_false] at h ⊢
  unfold Cj at hg hk ⊢
  simp only [Bool.false_eq_true, if_false] at hg hk ⊢
  unfold L1 at h ⊢
  rw [if_neg (by simp [hg, hk])] at h ⊢
  unfold Jk at h ⊢
  exact ⟨Hs h, fun P N _ => (Hg h).trans S2⟩
 | true =>
  simp only [if_true] at h ⊢
  unfold Cj at hg hk ⊢
  simp only [if_true] at hg hk ⊢
  have e := Ke hg hk
  refine ⟨by rw [e] at h ⊢; exact A8k h, fun P N hw => ?_⟩
  unfold E6 at h ⊢
  rw [if_neg (by simp [hg, hk]), Y5 (Z9 (Hu (Ep hg).1) (Hu (Ep hk).1))] at h ⊢
  exact (Hg h).trans ((A2u (hw rfl)).trans S2)
theorem B9k {p : Bool} {g k : List Cl} (hg : Cj p g) (hk : Cj p k) (h : (Pv p g k).1 = 0) : Cj p (Pv p g k).2 ∧ ∀ P N, W5 p P N → (sat (Pv p g k).2 P N ↔ sat g P N ∨ sat k P N) := by
 unfold Pv at h ⊢
 cases p with
 | false =>
  simp only [Bool.false_eq_true, if_false] at h ⊢
  unfold Cj at hg hk ⊢
  simp only [Bool.false_eq_true, if_false] at hg hk ⊢
  unfold L5 at h ⊢
  rw [if_neg (by simp [hg, hk])] at h ⊢
  unfold Gz at h ⊢
  exact ⟨Hs h, fun P N _ => (Hg h).trans Lp⟩
 | true =>
  simp only [if_true] at h ⊢
  unfold Cj at hg hk ⊢
  simp only [if_true] at hg hk ⊢
  refine ⟨(B4h h).2, fun P N hw => ?_⟩
  rw [A8q hg hk] at h ⊢
  unfold Gz at h ⊢
  exact (Hg h).trans Lp
theorem B3n (p : Bool) : Cj p [Bw] := by cases p <;> (unfold Cj; decide)
theorem A8g (p : Bool) : Cj p [] := by cases p <;> (unfold Cj; decide)
theorem V7 {p neg : Bool} {D : List (List Cl)} : ∀ {l : List Int} {g : List Cl}, (∀ i, i ∈ l → Ab (D.getD i.toNat []) = true) → Cj p g → (Ck p neg D l g).1 = 0 →
  Cj p (Ck p neg D l g).2 ∧ ∀ P N, W5 p P N → (sat (Ck p neg D l g).2 P N ↔ sat g P N ∧ ∀ i, i ∈ l → if neg = true then evN D P N i.toNat else evP D P N i.toNat)
 | [], g, hD, hg, h => ⟨hg, fun P N _ => ⟨fun h => ⟨h, fun i hi => by cases hi⟩, fun h => h.1⟩⟩
 | i :: l, g, hD, hg, h => by
  rw [Ck] at h ⊢
  obtain ⟨h1, h, e⟩ := F6 h
  rw [e]
  obtain ⟨a1, a2⟩ := C2p (hD i List.mem_cons_self) h1
  obtain ⟨h2, h, e⟩ := F6 h
  rw [e]
  obtain ⟨b1, b2⟩ := B8l hg a1 h2
  obtain ⟨c1, c2⟩ := V7 (neg := neg) (fun j hj => hD j (List.mem_cons_of_mem _ hj)) b1 h
  refine ⟨c1, fun P N hw => ?_⟩
  rw [c2 P N hw, b2 P N hw, a2 P N hw]
  constructor
  ·rintro ⟨⟨q1, q2⟩, q3⟩
   refine ⟨q1, fun j hj => ?_⟩
   rcases List.mem_cons.mp hj with rfl | hj
   ·exact q2
   ·exact q3 j hj
  ·rintro ⟨q1, q2⟩
   exact ⟨⟨q1, q2 i List.mem_cons_self⟩, fun j hj => q2 j (List.mem_cons_of_mem _ hj)⟩
theorem C0k {p : Bool} {D : List (List Cl)} {c : Cl} (hc : B8 c = true) (hD : ∀ j, (c.pos ||| c.neg).testBit j = true → Ab (D.getD j []) = true) (h : (Q0 p D c).1 = 0) :
  Cj p (Q0 p D c).2 ∧ ∀ P N, W5 p P N → (sat (Q0 p D c).2 P N ↔ Mt c (evP D P N) (evN D P N)) := by
 obtain ⟨r1, r2⟩ := Im hc
 have dp : ∀ i, i ∈ Ar c.pos → Ab (D.getD i.toNat []) = true := fun i hi => hD _ (by rw [Nat.testBit_or, (Df.mp hi).2.2]; rfl)
 have dn : ∀ i, i ∈ Ar c.neg → Ab (D.getD i.toNat []) = true := fun i hi => hD _ (by rw [Nat.testBit_or, (Df.mp hi).2.2, Bool.or_true])
 unfold Q0 at h ⊢
 obtain ⟨h1, h, e⟩ := F6 h
 rw [e]
 obtain ⟨a1, a2⟩ := V7 dp (B3n p) h1
 obtain ⟨b1, b2⟩ := V7 dn a1 h
 refine ⟨b1, fun P N hw => ?_⟩
 rw [b2 P N hw, a2 P N hw]
 simp only [Bool.false_eq_true, if_false, if_true]
 constructor
 ·rintro ⟨⟨_, q1⟩, q2⟩
  refine ⟨fun j hj => ?_, fun j hj => ?_⟩
  ·have := q1 (j : Int) (Df.mpr ⟨by omega, by have := r1 j hj; omega, by simpa using hj⟩)
   simpa using this
  ·have := q2 (j : Int) (Df.mpr ⟨by omega, by have := r2 j hj; omega, by simpa using hj⟩)
   simpa using this
 ·rintro ⟨q1, q2⟩
  exact ⟨⟨B0i, fun i hi => q1 _ (Df.mp hi).2.2⟩, fun i hi => q2 _ (Df.mp hi).2.2⟩
theorem B6x {p : Bool} {D : List (List Cl)} {f : List Cl} (hf : f.all B8 = true) (hD : ∀ c, c ∈ f → ∀ j, (c.pos ||| c.neg).testBit j = true → Ab (D.getD j []) = true) (h : (F9 p D f).1 = 0) :
  Cj p (F9 p D f).2 ∧ ∀ P N, W5 p P N → (sat (F9 p D f).2 P N ↔ sat f (evP D P N) (evN D P N)) := by
 have key := Ol (g := Ec p D) (L := f) (I := fun pre h => Cj p h ∧ ∀ P N, W5 p P N → (sat h P N ↔ sat pre (evP D P N) (evN D P N))) (fun pre c g hc hI h0 => by
  unfold Ec at h0 ⊢
  obtain ⟨h1, h0, e⟩ := F6 h0
  rw [e]
  obtain ⟨a1, a2⟩ := C0k (List.all_eq_true.mp hf c hc) (hD c hc) h1
  obtain ⟨b1, b2⟩ := B9k hI.1 a1 h0
  refine ⟨b1, fun P N hw => ?_⟩
  rw [b2 P N hw, hI.2 P N hw, a2 P N hw, Lp, Uk]) f [] [] ⟨A8g p, fun P N _ => ⟨fun h => absurd h B0k, fun h => absurd h B0k⟩⟩ (fun c hc => hc) h
 exact key
theorem U3 {f : List Cl} {d : Nat} (hd : d ≤ 24) (hf : f.all B8 = true) (h : within f d = true) : ∀ c, c ∈ f → ∀ j, (c.pos ||| c.neg).testBit j = true → j < d := fun c hc j hj => by
 refine Decidable.byContradiction fun hn => ?_
 have h24 : j < 24 := by
  obtain ⟨r1, r2⟩ := Im (List.all_eq_true.mp hf c hc)
  rw [Nat.testBit_or, Bool.or_eq_true] at hj
  rcases hj with hj | hj
  ·exact r1 j hj
  ·exact r2 j hj
 have h1 := (within_iff (l := f) (d := d) A4).mp h j A4
 rw [J0.mpr ⟨h24, c, hc, hj⟩] at h1
 cases h1
theorem Sp (k i : Int) : ((binds k i).1 = 0 ∨ (binds k i).1 = 1) ∧ ((binds k i).2 = 0 ∨ (binds k i).2 = 1) ∧ ¬ ((binds k i).1 = 1 ∧ (binds k i).2 = 1) := by
 unfold binds
 (repeat' split) <;> simp
def B5n (S : Nat → Prop) (c : Cl) : Prop := ∀ j, (c.pos ||| c.neg).testBit j = true → S j
def Cb (S : Nat → Prop) (f : List Cl) : Prop := ∀ c, c ∈ f → B5n S c
variable {S : Nat → Prop}
theorem Ff : Cb S [] := fun c hc => by cases hc
theorem C0l : B5n S Bw := fun j hj => by simp [Bw] at hj
theorem Xz : Cb S [Bw] := fun c hc => by rw [List.mem_singleton] at hc; subst hc; exact C0l
theorem Y1 {f g : List Cl} (h : Cb S f) (h2 : Cb S g) : Cb S (f ++ g) := fun c hc => by
 rcases List.mem_append.mp hc with hc | hc
 ·exact h c hc
 ·exact h2 c hc
theorem Gh {l : List Cl} (h : Cb S l) : Cb S (Bc l).2 := by
 by_cases h0 : (Bc l).1 = 0
 ·exact fun c hc => h c (Jn h0 hc)
 ·rw [Pu h0]; exact Ff
theorem B5m {a b : Cl} (h : B5n S a) (h2 : B5n S b) : B5n S (Cr a b) := fun j hj => by
 unfold Cr at hj
 simp only [Nat.testBit_or, Bool.or_eq_true] at hj
 rcases hj with (hj | hj) | (hj | hj)
 ·exact h j (by rw [Nat.testBit_or, hj]; rfl)
 ·exact h2 j (by rw [Nat.testBit_or, hj]; rfl)
 ·exact h j (by rw [Nat.testBit_or, hj, Bool.or_true])
 ·exact h2 j (by rw [Nat.testBit_or, hj, Bool.or_true])
theorem Sz {f g : List Cl} (h : Cb S f) (h2 : Cb S g) : Cb S (I5 f g) := fun c hc => by
 obtain ⟨a, ha, hc⟩ := List.mem_flatMap.mp hc
 obtain ⟨b, hb, rfl⟩ := List.mem_map.mp hc
 exact B5m (h a ha) (h2 b hb)
theorem T0 {f g : List Cl} (h : Cb S f) (h2 : Cb S g) : Cb S (Jk f g).2 := Gh (Sz h h2)
theorem A7l {f : List Cl} (h : Cb S f) : Cb S (Dc f) := fun c hc => h c (List.mem_filter.mp hc).1
theorem A7j {c : Cl} (h : B5n S c) : Cb S (Wv c) := fun d hd => by
 unfold Wv at hd
 rcases List.mem_append.mp hd with hd | hd
 ·obtain ⟨i, hi, rfl⟩ := List.mem_map.mp hd
  have h1 := Df.mp hi
  intro j hj
  simp only [Nat.zero_or] at hj
  obtain ⟨_, e⟩ := Rm.mp hj
  have : j = i.toNat := by omega
  subst this
  exact h _ (by rw [Nat.testBit_or, h1.2.2]; rfl)
 ·obtain ⟨i, hi, rfl⟩ := List.mem_map.mp hd
  have h1 := Df.mp hi
  intro j hj
  simp only [Nat.or_zero] at hj
  obtain ⟨_, e⟩ := Rm.mp hj
  have : j = i.toNat := by omega
  subst this
  exact h _ (by rw [Nat.testBit_or, h1.2.2, Bool.or_true])
theorem Gc {x : EL} {k : List Cl → EL} (hx : Cb S x.2) (hk : ∀ g, Cb S g → Cb S (k g).2) : Cb S (Hc x k).2 := by
 unfold Hc
 split
 ·exact Ff
 ·exact hk _ hx
theorem Pp {g : List Cl → Cl → EL} : ∀ {l h : List Cl}, (∀ c, c ∈ l → ∀ h, Cb S h → Cb S (g h c).2) → Cb S h → Cb S (C8 g h l).2
 | [], h, _, hh => hh
 | c :: l, h, hg, hh => by
  rw [C8]
  exact Gc (hg c List.mem_cons_self h hh) fun h' hh' => Pp (fun d hd => hg d (List.mem_cons_of_mem _ hd)) hh'
theorem A7k {f : List Cl} (h : Cb S f) : Cb S (R1 f).2 := Pp (fun c hc g hg => Gc (Gh (A7j (h c hc))) fun o ho => T0 hg ho) Xz
theorem Y0 {f : List Cl} (h : Cb S f) : Cb S (Tp f).2 := by
 unfold Tp
 split
 ·exact Gh (A7l h)
 ·exact Ff
theorem Un {f : List Cl} (h : Cb S f) : Cb S (Jw f).2 := by
 unfold Jw
 split
 ·exact A7k h
 ·exact Ff
theorem Zw {f : List Cl} (h : Cb S f) : Cb S (Ej f).2 := Gc (Un h) fun g hg => Y0 hg
theorem O6 {f : List Cl} {d : Int} (h0 : 0 ≤ d) (hf : f.all B8 = true) : within f d = true ↔ Cb (fun j => (j : Int) < d) f := by
 rw [within_iff h0]
 constructor
 ·intro h c hc j hj
  refine Decidable.byContradiction fun hn => ?_
  have h24 : j < 24 := by
   obtain ⟨r1, r2⟩ := Im (List.all_eq_true.mp hf c hc)
   rw [Nat.testBit_or, Bool.or_eq_true] at hj
   rcases hj with hj | hj
   ·exact r1 j hj
   ·exact r2 j hj
  have h1 := h j A4
  rw [J0.mpr ⟨h24, c, hc, hj⟩] at h1
  cases h1
 ·intro h i hi
  cases hx : (F1 f).testBit i with
  | false => rfl
  | true =>
   obtain ⟨_, c, hc, hj⟩ := J0.mp hx
   have : (i : Int) < d := h c hc i hj
   omega
theorem A4m {l : List Cl} {f b d : Int} (hl : Ab l = true) (h0 : 0 ≤ f) (hb : 0 ≤ b) (hd : 0 ≤ d) (hw : within l d = true) (h : (Aa l f b).1 = 0) : within (Aa l f b).2 (d + b) = true := by
 have hr : B7 b l f = .ok (Aa l f b).2 := by rw [Qt hl h0 hb, if_pos h]
 rw [within_iff A4]
 intro i hi
 cases hx : (F1 (Aa l f b).2).testBit i with
 | false => rfl
 | true =>
  obtain ⟨j, _, h2, h3⟩ := Qs h0 hr hx
  have := (within_iff hd).mp hw j A4
  rw [h2] at this
  cases this
def mxP (l : List (Part × Nat)) : Nat := l.foldl (fun a p => max a (p.1.2.2.toNat + p.2)) 0
def Nz : T → Nat := pf fun _ l => mxP l
theorem C5a : ∀ {l : List (Part × Nat)} {a m : Nat}, l.foldl (fun a p => max a (p.1.2.2.toNat + p.2)) a ≤ m ↔ a ≤ m ∧ ∀ p, p ∈ l → p.1.2.2.toNat + p.2 ≤ m
 | [], a, m => ⟨fun h => ⟨h, fun p hp => by cases hp⟩, fun h => h.1⟩
 | q :: l, a, m => by
  rw [List.foldl_cons, C5a]
  constructor
  ·rintro ⟨h1, h2⟩
   refine ⟨by omega, fun p hp => ?_⟩
   rcases List.mem_cons.mp hp with rfl | hp
   ·omega
   ·exact h2 p hp
  ·rintro ⟨h1, h2⟩
   have := h2 q List.mem_cons_self
   exact ⟨by omega, fun p hp => h2 p (List.mem_cons_of_mem _ hp)⟩
theorem Tv {t : T} {m : Nat} : Nz t ≤ m ↔ ∀ p, p ∈ parts t → p.2.2.toNat + Nz p.1 ≤ m := by
 rw [Nz, A2x]
 show mxP _ ≤ m ↔ _
 unfold mxP
 rw [C5a]
 constructor
 ·rintro ⟨_, h⟩ p hp
  exact h (p, Nz p.1) (List.mem_map.mpr ⟨p, hp, rfl⟩)
 ·intro h
  refine ⟨Nat.zero_le _, fun q hq => ?_⟩
  obtain ⟨p, hp, rfl⟩ := List.mem_map.mp hq
  exact h p hp
theorem Sq {t : T} {p : Part} (hp : p ∈ parts t) : p.2.2.toNat + Nz p.1 ≤ Nz t := Tv.mp (Nat.le_refl _) p hp
theorem B5q {C : Type} {A : Tr C} (hno : ∀ c k n nm r u, A.own c k n nm r ≠ .ok (.inl u)) : ∀ (t u : T) (c : C), Ce A t c = .ok u → Nz u ≤ Nz t := T.ind fun t ih u c h => by
 rcases U8 h with h1 | ⟨p, _, _, h3, _⟩
 ·exact absurd h1 (hno _ _ _ _ _ _)
 ·refine Tv.mpr fun q hq => ?_
  obtain ⟨q', hq', e, c', _, h5⟩ := h3 q hq
  have := ih q' hq' q.1 c' h5
  have h6 := Sq hq'
  rw [e] at h6
  omega
theorem Yk {a b : Int} {t u : T} {c : Int × Int} (h : Ce (Bh a b) t c = .ok u) : Nz u ≤ Nz t := B5q (fun c k n nm r u => Ip) t u c h
theorem A8l {b : Int} (Yq : 0 ≤ b) : ∀ (t u : T) (c : Int × Int) (v d : Int), 0 ≤ c.2 → 0 ≤ d → Ce (Bh 0 b) t c = .ok u → Fb t v d → d + b + Nz t ≤ 24 → Fb u v (d + b) := T.ind fun t ih u c v d h0 hd hu hm hb => by
 obtain ⟨⟨m1, m2, m3⟩, m4, m5⟩ := Fp.mp hm
 have hw : ∀ {l g : List Cl}, B7 b l c.2 = .ok g → within l d = true → within g (d + b) = true := fun {l g} hg hl => by
  rw [within_iff A4]
  intro i hi
  cases hx : (F1 g).testBit i with
  | false => rfl
  | true =>
   obtain ⟨j, _, h2, h3⟩ := Qs h0 hg hx
   have := (within_iff hd).mp hl j A4
   rw [h2] at this
   cases this
 rcases U8 hu with h | ⟨p, h1, ⟨e1, e2, e3, e4⟩, h3, h4⟩
 ·exact absurd h Ip
 ·obtain ⟨o1, o2, o3⟩ := T5 h1
  refine Fp.mpr ⟨⟨by omega, fun hk => ?_, by rw [e4]; exact hw o1 m3⟩, fun b' hb' => ?_, fun q hq => ?_⟩
  ·rw [e2, o3, A8n]; exact m2 (e1 ▸ hk)
  ·obtain ⟨b9, hb2, h6⟩ := h4 b' hb'
   exact hw (A0s h6) (m4 b9 hb2)
  ·obtain ⟨q', hq', e, c', h6, h7⟩ := h3 q hq
   have h8 := A4o h6
   have h9 := Kv hq'
   have h10 := Sq hq'
   subst h8
   have := ih q' hq' q.1 _ _ _ (by dsimp only; omega) A4 h7 (m5 q' hq') A4
   rw [e] at this
   rwa [show d + b + q.2.2 = d + q.2.2 + b by omega]
theorem B8y {n v d : Int} (hd : d ≤ 24) (hn : n < v) : Fb (.mk 1 n ⟨#[]⟩ [] [] []) v d := by
 simp only [Fb, V2, V3]
 exact ⟨⟨hd, fun _ => hn, Lf d⟩, trivial, trivial⟩
mutual
def E0 : T → Int
 | .mk k n nm r ks ss => Dg k 0 ks + Dw ss
def Dg (k : Int) : Nat → List T → Int
 | _, [] => 0
 | i, t :: ts => (binds k i).2 + E0 t + Dg k (i + 1) ts
def Eb : List T → Int
 | [] => 0
 | t :: ts => 1 + E0 t + Eb ts
def Dw : List Br → Int
 | [] => 0
 | .mk f ks :: bs => Eb ks + Dw bs
end
theorem L9 (t : T) : E0 t = Dg t.kind 0 t.kids + Dw t.sys := by obtain ⟨k, n, nm, r, ks, ss⟩ := t; rfl
theorem Jq : ∀ t : T, 0 ≤ E0 t := T.ind' fun t ihk ihs => by
 have hL : ∀ (ts : List T) (i : Nat), (∀ u, u ∈ ts → 0 ≤ E0 u) → 0 ≤ Dg t.kind i ts := by
  intro ts
  induction ts with
  | nil => intro i _; rw [Dg]; exact Int.le_refl 0
  | cons a ts ih =>
   intro i h
   have h1 := h a List.mem_cons_self
   have h2 := ih (i + 1) fun u hu => h u (List.mem_cons_of_mem _ hu)
   have h3 := (I8 t.kind (i : Int)).2.2.1
   rw [Dg]; omega
 have hS : ∀ (ts : List T), (∀ u, u ∈ ts → 0 ≤ E0 u) → 0 ≤ Eb ts := by
  intro ts
  induction ts with
  | nil => intro _; rw [Eb]; exact Int.le_refl 0
  | cons a ts ih =>
   intro h
   have h1 := h a List.mem_cons_self
   have h2 := ih fun u hu => h u (List.mem_cons_of_mem _ hu)
   rw [Eb]; omega
 have hB : ∀ (bs : List Br), (∀ b, b ∈ bs → ∀ u, u ∈ b.kids → 0 ≤ E0 u) → 0 ≤ Dw bs := by
  intro bs
  induction bs with
  | nil => intro _; rw [Dw]; exact Int.le_refl 0
  | cons b bs ih =>
   intro h
   obtain ⟨f, ks⟩ := b
   have h1 := hS ks (h _ List.mem_cons_self)
   have h2 := ih fun u hu => h u (List.mem_cons_of_mem _ hu)
   rw [Dw]; omega
 have h1 := hL t.kids 0 fun u hu => ihk u hu
 have h2 := hB t.sys fun b hb u hu => ihs b hb u hu
 rw [L9]; omega
theorem J2 {k : Int} : ∀ {ts : List T} {i : Nat}, 0 ≤ Dg k i ts
 | [], i => by rw [Dg]; exact Int.le_refl 0
 | a :: ts, i => by
  have h1 := Jq a
  have h2 := J2 (k := k) (ts := ts) (i := i + 1)
  have h3 := (I8 k (i : Int)).2.2.1
  rw [Dg]; omega
theorem J1 : ∀ {ts : List T}, 0 ≤ Eb ts
 | [] => by rw [Eb]; exact Int.le_refl 0
 | a :: ts => by
  have h1 := Jq a
  have h2 := J1 (ts := ts)
  rw [Eb]; omega
theorem J3 : ∀ {bs : List Br}, 0 ≤ Dw bs
 | [] => by rw [Dw]; exact Int.le_refl 0
 | .mk f ks :: bs => by
  have h1 := J1 (ts := ks)
  have h2 := J3 (bs := bs)
  rw [Dw]; omega
theorem Vz {k : Int} : ∀ {ts : List T} {i j : Nat}, j < ts.length → (binds k ((i + j : Nat) : Int)).2 + E0 (ts.getD j t0) ≤ Dg k i ts
 | [], i, j, h => absurd h Cq
 | a :: ts, i, 0, h => by
  have h2 := J2 (k := k) (ts := ts) (i := i + 1)
  rw [List.getD_cons_zero, Dg, Nat.add_zero]; omega
 | a :: ts, i, j + 1, h => by
  have h1 := Jq a
  have h3 := (I8 k (i : Int)).2.2.1
  have := Vz (k := k) (ts := ts) (i := i + 1) (j := j) (by simpa using h)
  rw [List.getD_cons_succ, Dg, show i + (j + 1) = i + 1 + j by omega]; omega
theorem A5t : ∀ {ts : List T} {j : Nat}, j < ts.length → 1 + E0 (ts.getD j t0) ≤ Eb ts
 | [], j, h => absurd h Cq
 | a :: ts, 0, h => by
  have h2 := J1 (ts := ts)
  rw [List.getD_cons_zero, Eb]; omega
 | a :: ts, j + 1, h => by
  have h1 := Jq a
  have := A5t (ts := ts) (j := j) (by simpa using h)
  rw [List.getD_cons_succ, Eb]; omega
theorem A5w : ∀ {bs : List Br} {s : Nat}, s < bs.length → Eb (bs.getD s Bd).kids ≤ Dw bs
 | [], s, h => absurd h Cq
 | .mk f ks :: bs, 0, h => by
  have h2 := J3 (bs := bs)
  rw [List.getD_cons_zero, Dw]
  show Eb ks ≤ _
  omega
 | .mk f ks :: bs, s + 1, h => by
  have h1 := J1 (ts := ks)
  have := A5w (bs := bs) (s := s) (by simpa using h)
  rw [List.getD_cons_succ, Dw]; omega
theorem Z6 : ∀ t : T, (Nz t : Int) ≤ E0 t := T.ind fun t ih => by
 have h0 := Jq t
 have key : Nz t ≤ (E0 t).toNat := Tv.mpr fun p hp => by
  have h1 := ih p hp
  have h2 : p.2.2 + E0 p.1 ≤ E0 t := by
   rw [L9 t]
   rcases Hn hp with ⟨i, hi, rfl⟩ | ⟨s, k, hs, hk, rfl⟩
   ·have := Vz (k := t.kind) (i := 0) hi
    have h3 := J3 (bs := t.sys)
    rw [Nat.zero_add] at this
    show (binds t.kind (i : Int)).2 + E0 (t.kids.getD i t0) ≤ Dg t.kind 0 t.kids + Dw t.sys
    omega
   ·have h3 := J2 (k := t.kind) (ts := t.kids) (i := 0)
    have h4 := A5w hs
    have h5 := A5t hk
    have h6 := (R3 t.kind).2
    show more t.kind + E0 ((t.sys.getD s Bd).kids.getD k t0) ≤ Dg t.kind 0 t.kids + Dw t.sys
    omega
  have h3 := Kv hp
  omega
 omega
variable {S : Nat → Prop}
theorem B6y {p neg : Bool} {f : List Cl} (h : Cb S f) : Cb S (Wz p neg f).2 := by
 unfold Wz
 cases p <;> cases neg <;> simp only [Bool.false_eq_true, if_false, if_true]
 ·exact h
 ·exact Un h
 ·exact Y0 h
 ·exact Zw h
theorem B3a {p : Bool} {g k : List Cl} (h : Cb S g) (h2 : Cb S k) : Cb S (I4 p g k).2 := by
 unfold I4
 cases p <;> simp only [Bool.false_eq_true, if_false, if_true]
 ·unfold L1
  split
  ·exact Ff
  ·exact T0 h h2
 ·unfold E6
  split
  ·exact Ff
  ·refine Gh fun c hc => ?_
   unfold A0b at hc
   exact Sz h h2 c (List.mem_filter.mp hc).1
theorem B3b {p : Bool} {g k : List Cl} (h : Cb S g) (h2 : Cb S k) : Cb S (Pv p g k).2 := by
 unfold Pv
 cases p <;> simp only [Bool.false_eq_true, if_false, if_true]
 ·unfold L5
  split
  ·exact Ff
  ·exact Gh (Y1 h h2)
 ·unfold Ha
  split
  ·exact Ff
  ·exact Gh (Y1 h h2)
theorem S3 {p neg : Bool} {D : List (List Cl)} : ∀ {l : List Int} {g : List Cl}, (∀ i, i ∈ l → Cb S (D.getD i.toNat [])) → Cb S g → Cb S (Ck p neg D l g).2
 | [], g, _, hg => hg
 | i :: l, g, hD, hg => by
  rw [Ck]
  exact Gc (B6y (hD i List.mem_cons_self)) fun h hh => Gc (B3a hg hh) fun g hg => S3 (fun j hj => hD j (List.mem_cons_of_mem _ hj)) hg
theorem A7i {p : Bool} {D : List (List Cl)} {f : List Cl} (h : ∀ j, Cb S (D.getD j [])) : Cb S (F9 p D f).2 := by
 unfold F9
 refine Pp (fun c hc g hg => ?_) Ff
 unfold Ec
 refine Gc ?_ fun k hk => B3b hg hk
 unfold Q0
 exact Gc (S3 (fun i _ => h _) Xz) fun g hg => S3 (fun i _ => h _) hg
theorem Gk {α β : Type} {g : α → Int × β} : ∀ {l : List α}, (G7 g l).1 = 0 → (∀ a, a ∈ l → (g a).1 = 0) ∧ (G7 g l).2 = l.map fun a => (g a).2
 | [], _ => ⟨fun t ht => (by cases ht), rfl⟩
 | t :: ts, h => by
  rw [G7] at h ⊢
  by_cases h1 : (g t).1 ≠ 0
  ·rw [if_pos h1] at h; exact absurd h h1
  ·rw [if_neg h1] at h ⊢
   by_cases h2 : (G7 g ts).1 ≠ 0
   ·rw [if_pos h2] at h; exact absurd h h2
   ·rw [if_neg h2]
    obtain ⟨a1, a2⟩ := Gk (Decidable.not_not.mp h2)
    refine ⟨fun u hu => ?_, by rw [a2]; rfl⟩
    rcases List.mem_cons.mp hu with rfl | hu
    ·exact Decidable.not_not.mp h1
    ·exact a1 u hu
theorem Vj {t : T} {ns : List Int} {r : Ai T} (h : (Bi t ns r).1 = 0) : As t = 0 ∧ (r = .ok (Bi t ns r).2 ∨ r = .bad 0) := by
 unfold Bi at h ⊢
 split at h
 ·rename_i h1; exact absurd h h1
 ·rename_i h1
  split at h
  ·cases h
  ·rename_i h2
   rw [if_neg h1, if_neg h2]
   refine ⟨Decidable.not_not.mp h1, ?_⟩
   cases r with
   | ok u => exact .inl rfl
   | bad e => right; simp only at h; subst h; rfl
theorem Xg {x : T} (h : (Be x 0 1).1 = 0) : Ce (Bh 1 0) x (0, 0) = .ok (Be x 0 1).2 := by
 obtain ⟨h1, h2 | h2⟩ := Vj h
 ·exact h2
 ·have := R7 x h2; omega
theorem Z0 {x : T} (h : (Bf x 0 1).1 = 0) : Ce (Bh 0 1) x (0, 0) = .ok (Bf x 0 1).2 := by
 obtain ⟨h1, h2 | h2⟩ := Vj h
 ·exact h2
 ·have := R7 x h2; omega
theorem Is {α : Type} {x : Int × α} {a : α} (h : Wu x = .ok a) : x.1 = 0 ∧ x.2 = a := by
 unfold Wu at h
 split at h
 ·rename_i h1; injection h with h; exact ⟨h1, h⟩
 ·cases h
structure A1y (e : Ev) (v d : Int) (m : Nat) : Prop where
 v0 : 0 ≤ v
 d0 : 0 ≤ d
 vars : ∀ x, x ∈ e.1 → Fb x v d ∧ Nz x ≤ m
 dims : ∀ f, f ∈ e.2 → Ab f = true ∧ within f d = true
theorem B4e (n : Int) : Nz (vE n) = 0 := by
 have : Nz (vE n) ≤ 0 := Tv.mpr fun p hp => by cases hp
 omega
theorem C5w {e e' : Ev} {v d : Int} {m : Nat} (h : A1y e v d m) (hd : d ≤ 24) (h2 : Tn e = .ok e') : A1y e' (v + 1) d m ∧ e'.1.length = e.1.length + 1 ∧ e'.2.length = e.2.length := by
 unfold Tn at h2
 obtain ⟨l, h3, h4⟩ := Ai.A3 h2
 injection h4 with h4
 subst h4
 obtain ⟨h5, h6⟩ := Is h3
 obtain ⟨h7, h8⟩ := Gk h5
 rw [h8] at h6
 subst h6
 refine ⟨⟨by have := h.v0; omega, h.d0, fun x hx => ?_, h.dims⟩, by simp, rfl⟩
 rcases List.mem_cons.mp hx with rfl | hx
 ·exact ⟨B8y hd (by have := h.v0; omega), by rw [show T.mk 1 0 ⟨#[]⟩ [] [] [] = vE 0 from rfl, B4e]; omega⟩
 ·obtain ⟨y, hy, rfl⟩ := List.mem_map.mp hx
  obtain ⟨q1, q2⟩ := h.vars y hy
  have ht := Xg (h7 y hy)
  exact ⟨Sd A4 ht q1, Nat.le_trans (Yk ht) q2⟩
theorem D0c {e e' : Ev} {v d : Int} {m : Nat} (h : A1y e v d m) (hd : d + 1 + m ≤ 24) (h2 : Rj e = .ok e') : A1y e' v (d + 1) m ∧ e'.1.length = e.1.length ∧ e'.2.length = e.2.length + 1 := by
 have hd0 := h.d0
 unfold Rj at h2
 obtain ⟨D, h3, h4⟩ := Ai.A3 h2
 obtain ⟨l, h5, h6⟩ := Ai.A3 h4
 injection h6 with h6
 subst h6
 obtain ⟨a1, a2⟩ := Is h3
 obtain ⟨a3, a4⟩ := Gk a1
 rw [a4] at a2
 subst a2
 obtain ⟨b1, b2⟩ := Is h5
 obtain ⟨b3, b4⟩ := Gk b1
 rw [b4] at b2
 subst b2
 refine ⟨⟨h.v0, by omega, fun x hx => ?_, fun f hf => ?_⟩, by simp, by simp⟩
 ·obtain ⟨y, hy, rfl⟩ := List.mem_map.mp hx
  obtain ⟨q1, q2⟩ := h.vars y hy
  have ht := Z0 (b3 y hy)
  exact ⟨A8l A4 y _ (0, 0) v d (Int.le_refl 0) hd0 ht q1 A4, Nat.le_trans (Yk ht) q2⟩
 ·rcases List.mem_cons.mp hf with rfl | hf
  ·refine ⟨by decide, (O6 A4 (Hu Ii)).mpr ?_⟩
   intro c hc j hj
   rw [List.mem_singleton] at hc
   subst hc
   simp only [Nat.or_zero] at hj
   have : j = 0 := by
    refine Decidable.byContradiction fun hn => ?_
    rw [Nat.testBit_lt_two_pow (show 1 < 2 ^ j from Nat.one_lt_two_pow hn)] at hj
    cases hj
   show (j : Int) < d + 1
   omega
  ·obtain ⟨g, hg, rfl⟩ := List.mem_map.mp hf
   obtain ⟨q1, q2⟩ := h.dims g hg
   exact ⟨A5f (a3 g hg), A4m q1 A4 A4 hd0 q2 (a3 g hg)⟩
theorem D0e {e e' : Ev} {v d : Int} {m : Nat} {b : Int × Int} (h : A1y e v d m) (hb : (b.1 = 0 ∨ b.1 = 1) ∧ (b.2 = 0 ∨ b.2 = 1) ∧ ¬ (b.1 = 1 ∧ b.2 = 1)) (hd : d + b.2 + m ≤ 24) (h2 : Jx e b = .ok e') : A1y e' (v + b.1) (d + b.2) m ∧ (e'.1.length : Int) = e.1.length + b.1 ∧ (e'.2.length : Int) = e.2.length + b.2 := by
 obtain ⟨b1, b2⟩ := b
 simp only at hb hd ⊢
 unfold Jx at h2
 by_cases h1 : b1 = 1
 ·have hb2 : b2 = 0 := by omega
  subst h1 hb2
  rw [if_pos rfl] at h2
  obtain ⟨q1, q2, q3⟩ := C5w h A4 h2
  rw [Int.add_zero]
  exact ⟨q1, by omega, by omega⟩
 ·have hb1 : b1 = 0 := by omega
  subst hb1
  rw [if_neg (show ¬ ((0 : Int) = 1) by decide)] at h2
  by_cases h3 : b2 = 1
  ·subst h3
   rw [if_pos rfl] at h2
   obtain ⟨q1, q2, q3⟩ := D0c h hd h2
   rw [Int.add_zero]
   exact ⟨q1, by omega, by omega⟩
  ·have hb2 : b2 = 0 := by omega
   subst hb2
   rw [if_neg (show ¬ ((0 : Int) = 1) by decide)] at h2
   injection h2 with h2
   subst h2
   rw [Int.add_zero, Int.add_zero]
   exact ⟨h, by omega, by omega⟩
theorem A7x {t : T} {p : Part} (hp : p ∈ parts t) : (p.2.1 = 0 ∨ p.2.1 = 1) ∧ (p.2.2 = 0 ∨ p.2.2 = 1) ∧ ¬ (p.2.1 = 1 ∧ p.2.2 = 1) := by
 rcases Hn hp with ⟨i, hi, rfl⟩ | ⟨s, k, hs, hk, rfl⟩
 ·exact Sp _ _
 ·have := R3 t.kind
  exact ⟨.inl rfl, by show more t.kind = 0 ∨ more t.kind = 1; omega, fun h => by cases h.1⟩
theorem Nu {p : Bool} {e : Ev} {v d : Int} {m : Nat} {f : List Cl} (h : A1y e v d m) (hf : Cj p f) (hfw : within f e.2.length = true) (h0 : (F9 p e.2 f).1 = 0) : within (F9 p e.2 f).2 d = true := by
 have hr := S5 hf
 have hin := (O6 A4 (Hu hr)).mp hfw
 have hg : Ab (F9 p e.2 f).2 = true := S5 (B6x (Hu hr) (fun c hc j hj => by
  have := hin c hc j hj
  exact (h.dims _ (Ad (show j < e.2.length by omega))).1) h0).1
 refine (O6 h.d0 (Hu hg)).mpr (A7i fun j => ?_)
 by_cases hj : j < e.2.length
 ·obtain ⟨q1, q2⟩ := h.dims _ (Ad (d := []) hj)
  exact (O6 h.d0 (Hu q1)).mp q2
 ·rw [List.getD_eq_getElem?_getD, List.getElem?_eq_none A4]
  exact Ff
theorem C3p : ∀ (t u : T) (e : Ev) (v d : Int) (m : Nat), A1y e v d m → F0 t → Ce Bu t e = .ok u → Fb t e.1.length e.2.length → d + Nz t + m ≤ 24 → Fb u v d := T.ind fun t ih u e v d m he hf hu hm hb => by
 obtain ⟨⟨m1, m2, m3⟩, m4, m5⟩ := Fp.mp hm
 have hfi := L6.mp hf
 rcases U8 hu with h | ⟨p, h1, ⟨e1, e2, e3, e4⟩, h3, h4⟩
 ·simp only [Bu] at h
  by_cases hk : t.kind = 1
  ·rw [if_pos hk] at h
   injection h with h
   injection h with h
   have hn := m2 hk
   have hn0 := (Vn hf hk).2
   rw [← h]
   exact (he.vars _ (Ad (show t.n.toNat < e.1.length by omega))).1
  ·rw [if_neg hk] at h
   obtain ⟨g, _, h⟩ := Ai.A3 h
   injection h with h
   cases h
 ·simp only [Bu] at h1
  by_cases hk : t.kind = 1
  ·rw [if_pos hk] at h1
   injection h1 with h1
   cases h1
  ·rw [if_neg hk] at h1
   obtain ⟨g, hg, h1⟩ := Ai.A3 h1
   injection h1 with h1
   injection h1 with h1
   subst h1
   have hg := Vu.mp hg
   have hr : Cj (decide (t.kind = 14)) t.r := by
    unfold Cj
    by_cases h14 : t.kind = 14
    ·rw [if_pos (by simp [h14])]; exact (M1 hfi.1).1 h14
    ·rw [if_neg (by simp [h14])]; exact (M1 hfi.1).2
   have hw := Nu he hr m3 (by rw [hg])
   rw [hg] at hw
   refine Fp.mpr ⟨⟨by omega, fun hh => absurd (e1 ▸ hh) hk, by rw [e4]; exact hw⟩, fun b' hb' => ?_, fun q hq => ?_⟩
   ·obtain ⟨b, hb2, h6⟩ := h4 b' hb'
    obtain ⟨k, hk2, h7⟩ := Ai.A3 (x := elR (F9 true e.2 b.Ay)) h6
    have hk2 := Vu.mp hk2
    injection h7 with h7
    split at h7
    ·cases h7
    ·injection h7 with h7
     have := Nu (p := true) he (show Cj true b.Ay from (On.mp hfi.2.2.2.2 b hb2).2.1) (m4 b hb2) (by rw [hk2])
     rw [hk2] at this
     rw [← h7]
     exact this
   ·obtain ⟨q', hq', eq, c', h6, h7⟩ := h3 q hq
    have hpb := A7x hq'
    have hbd := Sq hq'
    obtain ⟨k1, k2, k3⟩ := D0e he hpb A4 h6
    have := ih q' hq' q.1 c' _ _ m k1 (Sh hf hq') h7 (by rw [k2, k3]; exact m5 q' hq') A4
    rw [eq] at this
    exact this
def C1a (v w : Int) : Prop := (v ≤ 9223372036854775807 ∧ w = v) ∨ (9223372036854775807 < v ∧ w < 0 ∧ Ap w)
theorem B2c {v : Int} (h : v ≤ 9223372036854775807) : C1a v v := .inl ⟨h, rfl⟩
theorem C0z {v w p : Int} (h0 : 0 ≤ v) (h : C1a v w) (hp : 0 ≤ p ∧ p ≤ 1) : C1a (v + p) (IntKind.i64.wrap (w + if w < 0 then 0 else p)) := by
 rcases h with ⟨h1, rfl⟩ | ⟨h1, h2, h3⟩
 ·rw [if_neg A4]
  by_cases hq : w + p ≤ 9223372036854775807
  ·rw [Zg (by unfold Ap; omega)]
   exact .inl ⟨hq, rfl⟩
  ·have e : w + p = 9223372036854775808 := by omega
   have e2 : IntKind.i64.wrap 9223372036854775808 = -9223372036854775808 := by rw [IntKind.wrap_i64]; decide
   rw [e, e2]
   exact .inr ⟨by omega, by omega, by unfold Ap; omega⟩
 ·rw [if_pos h2, Int.add_zero, Zg h3]
  exact .inr ⟨by omega, h2, h3⟩
theorem C2e {t : T} {v w d : Int} (h : C1a v w) (h0 : 0 ≤ v) (hn : Ap t.n) : Gx t w d = Gx t v d := by
 rcases h with ⟨_, rfl⟩ | ⟨h1, h2, _⟩
 ·rfl
 ·unfold Ap at hn
  unfold Gx
  rw [decide_eq_true h2, decide_eq_true (show t.n < v by omega), Bool.true_or, Bool.or_true]
theorem C2n {t : T} {p : Part} (h : Lr t) (hp : p ∈ parts t) : Lr p.1 := by
 obtain ⟨k, n, nm, r, ks, ss⟩ := t
 simp only [Lr] at h
 obtain ⟨_, _, _, _, _, _, hL, hB⟩ := h
 have l1 : ∀ {ts : List T}, To ts → ∀ u, u ∈ ts → Lr u := fun {ts} => by
  induction ts with
  | nil => intro _ u hu; cases hu
  | cons a ts ih =>
   intro h u hu
   simp only [To] at h
   rcases List.mem_cons.mp hu with rfl | hu
   ·exact h.1
   ·exact ih h.2 u hu
 have l2 : ∀ {bs : List Br}, okB bs → ∀ b, b ∈ bs → To b.kids := fun {bs} => by
  induction bs with
  | nil => intro _ u hu; cases hu
  | cons a bs ih =>
   intro h b hb
   obtain ⟨f, ks2⟩ := a
   simp only [okB] at h
   rcases List.mem_cons.mp hb with rfl | hb
   ·exact h.2.2.1
   ·exact ih h.2.2.2 b hb
 rcases Hn hp with ⟨i, hi, rfl⟩ | ⟨s, j, hs, hj, rfl⟩
 ·exact l1 hL _ (Ad hi)
 ·exact l1 (l2 hB _ (Ad hs)) _ (Ad hj)
theorem D1g {t : T} (h : Lr t) : Ap t.n := by
 obtain ⟨k, n, nm, r, ks, ss⟩ := t
 simp only [Lr] at h
 exact h.2.1
theorem B1i : ∀ (t : T) (v w d : Int), Lr t → 0 ≤ v → C1a v w → (Mx t w d true = true ↔ F0 t ∧ Fb t v d) := T.ind fun t ih v w d hok h0 hw => by
 rw [A1q, C2e hw h0 (D1g hok), A3g h0, Fp, M4]
 have hown : Gx t (-1) 24 = true ↔ ∀ d' : Int, 24 ≤ d' → Gx t (-1) d' = true := by
  constructor
  ·intro h d' hd'
   obtain ⟨k, n, nm, r, ks, ss⟩ := t
   exact (Ho hd').mpr ((Ho A4).mp h)
  ·intro h; exact h 24 A4
 have key : ∀ p, p ∈ parts t → (Mx p.1 (IntKind.i64.wrap (w + if w < 0 then 0 else p.2.1)) (d + p.2.2) true = true ↔ F0 p.1 ∧ Fb p.1 (v + p.2.1) (d + p.2.2)) := fun p hp => by
  have h1 := Kv hp
  exact ih p hp _ _ _ (C2n hok hp) A4 (C0z h0 hw ⟨h1.1, h1.2.1⟩)
 rw [hown]
 unfold A4y
 constructor
 ·rintro ⟨h1, ⟨h2, h3, h4, h5⟩, h6⟩
  exact ⟨⟨h2, fun p hp => ((key p hp).mp (h6 p hp)).1⟩, ⟨by simp at h1; omega, h3, h4⟩, h5, fun p hp => ((key p hp).mp (h6 p hp)).2⟩
 ·rintro ⟨⟨h2, h6⟩, ⟨h1, h3, h4⟩, h5, h7⟩
  exact ⟨by simp; omega, ⟨h2, h3, h4, h5⟩, fun p hp => (key p hp).mpr ⟨h6 p hp, h7 p hp⟩⟩
theorem Y4 {t : T} {v d : Int} (hv : 0 ≤ v ∧ v ≤ 9223372036854775807) (hok : Lr t) : Bk t v d = 0 ↔ 0 ≤ d ∧ d ≤ 24 ∧ sized t = 0 ∧ F0 t ∧ Fb t v d := by
 rw [Uo]
 constructor
 ·rintro ⟨_, h2, h3, h4, h5⟩
  exact ⟨h2, h3, h4, (B1i t v v d hok hv.1 (B2c hv.2)).mp h5⟩
 ·rintro ⟨h2, h3, h4, h5⟩
  exact ⟨hv.1, h2, h3, h4, (B1i t v v d hok hv.1 (B2c hv.2)).mpr h5⟩
theorem Xa {e : Ev} {v d : Int} (h : Co e v d = 0) : (0 ≤ v ∧ 0 ≤ d ∧ d ≤ 24) ∧ Ez e = true ∧ Di e = true ∧ (∀ f, f ∈ e.2 → Mv f d.toNat = true) ∧ ∀ x, x ∈ e.1 → Bk x v d = 0 := by
 unfold Co at h
 split at h
 ·cases h
 ·rename_i h1
  simp only [Bool.or_eq_true, decide_eq_true_eq, Bool.not_eq_true', not_or, Bool.not_eq_false] at h1
  obtain ⟨⟨⟨⟨⟨a1, a2⟩, a3⟩, a4⟩, a5⟩, a6⟩ := h1
  exact ⟨⟨by omega, by omega, by omega⟩, a4, a5, fun f hf => List.all_eq_true.mp a6 f hf, fun x hx => (Gk h).1 x hx⟩
theorem A4j {f : List Cl} {d : Int} (h0 : 0 ≤ d ∧ d ≤ 24) (h : Mv f d.toNat = true) : within f d = true := by
 unfold Mv at h
 have h := of_decide_eq_true h
 unfold within
 rw [Bool.or_eq_true]
 right
 rw [show min d.toNat 32 = d.toNat by omega, h]
 rfl
theorem Nf {α : Type} {x : Int × α} {e : Int} (h : Wu x = .bad e) : e ≠ 0 := by
 unfold Wu at h
 split at h
 ·cases h
 ·rename_i h1; injection h with h; exact h ▸ h1
theorem We {e : Ev} {b : Int × Int} {x : Int} (h : Jx e b = .bad x) : x ≠ 0 := by
 unfold Jx at h
 split at h
 ·unfold Tn at h
  rcases B6 h with h | ⟨_, _, h⟩
  ·exact Nf h
  ·cases h
 ·split at h
  ·unfold Rj at h
   rcases B6 h with h | ⟨_, _, h⟩
   ·exact Nf h
   ·rcases B6 h with h | ⟨_, _, h⟩
    ·exact Nf h
    ·cases h
  ·cases h
theorem M5 : ∀ (t : T) {e : Ev} {x : Int}, Ce Bu t e = .bad x → x ≠ 0 := T.ind fun t ih e x h => by
 rcases A2l h with h1 | ⟨b, _, h1⟩ | ⟨p, hp, h1 | ⟨c', _, h2⟩⟩
 ·simp only [Bu] at h1
  split at h1
  ·cases h1
  ·rcases B6 h1 with h1 | ⟨_, _, h1⟩
   ·exact (Td.mp h1).2
   ·cases h1
 ·simp only [Bu] at h1
  rcases B6 h1 with h1 | ⟨_, _, h1⟩
  ·exact (Td.mp h1).2
  ·cases h1
 ·exact We h1
 ·exact ih p hp h2
theorem Pc {t : T} {e : Ev} (h : (Ae t e).1 = 0) : Ez e = true ∧ Bk t e.1.length e.2.length = 0 ∧ Di e = true ∧ (∀ x, x ∈ e.1 → As x = 0) ∧ Ce Bu t e = .ok (Ae t e).2 ∧ As (Ae t e).2 = 0 := by
 unfold Ae at h ⊢
 split at h
 ·cases h
 rename_i h1
 rw [if_neg h1]
 split at h
 ·rename_i h2; exact absurd h h2
 rename_i h2
 rw [if_neg h2]
 split at h
 ·cases h
 rename_i h3
 rw [if_neg h3]
 have h3 : Di e = true ∧ (e.1.all fun x => decide (As x = 0)) = true := by
  rw [← Bool.and_eq_true]
  cases hq : (Di e && e.1.all fun x => decide (As x = 0)) with
  | true => rfl
  | false => exact absurd hq h3
 have h1 : Ez e = true := by
  cases hq : Ez e with
  | true => rfl
  | false => exact absurd hq h1
 cases hq : Ce Bu t e with
 | bad x =>
  rw [hq] at h
  exact absurd h (M5 t hq)
 | ok u =>
  rw [hq] at h
  simp only at h ⊢
  split at h
  ·rename_i h4; exact absurd h h4
  ·rename_i h4
   rw [if_neg h4]
   exact ⟨h1, Decidable.not_not.mp h2, h3.1, fun x hx => of_decide_eq_true (List.all_eq_true.mp h3.2 x hx), rfl, Decidable.not_not.mp h4⟩
theorem A5o {t : T} {e : Ev} {v d : Int} (hr : Co e v d = 0) (hv : Ap v) (hd : d ≤ 8) (ht : E0 t ≤ 6) (hvs : Dg 0 0 e.1 ≤ 6) (hok : ∀ x, x ∈ e.1 → Lr x) (hoa : Lr (Ae t e).2) (h : (Ae t e).1 = 0) : Bk (Ae t e).2 v d = 0 := by
 obtain ⟨⟨v0, d0, d1⟩, q2, q3, q4, q5⟩ := Xa hr
 obtain ⟨p1, p2, p3, p4, p5, p6⟩ := Pc h
 have hv2 : 0 ≤ v ∧ v ≤ 9223372036854775807 := ⟨v0, by unfold Ap at hv; omega⟩
 have hlen : e.1.length ≤ 200 := by unfold Ez at p1; rw [Bool.and_eq_true] at p1; exact of_decide_eq_true p1.1
 obtain ⟨_, _, _, r4, r5⟩ := (S4 (t := t) (v := e.1.length) (d := e.2.length) A4 A4).mp p2
 have hev : A1y e v d 6 := ⟨v0, d0, fun x hx => ⟨((Y4 hv2 (hok x hx)).mp (q5 x hx)).2.2.2.2, by
   obtain ⟨j, hj, rfl⟩ := V0 (d := t0) hx
   have h1 := Vz (k := 0) (i := 0) hj
   have h2 := Z6 (e.1.getD j t0)
   have h3 := (I8 0 ((0 + j : Nat) : Int)).2.2.1
   omega⟩, fun f hf => ⟨List.all_eq_true.mp q3 f hf, A4j ⟨d0, d1⟩ (q4 f hf)⟩⟩
 have hb := Z6 t
 have hm := C3p t _ e v d 6 hev r4 p5 r5 A4
 obtain ⟨s1, s2⟩ := A5d.mp p6
 exact (Y4 hv2 hoa).mpr ⟨d0, d1, s1, s2, hm⟩
abbrev bnd (b : Int × Int) : Prop := (b.1 = 0 ∨ b.1 = 1) ∧ (b.2 = 0 ∨ b.2 = 1) ∧ ¬ (b.1 = 1 ∧ b.2 = 1)
theorem C0q (k : Int) : bnd (0, more k) := ⟨.inl rfl, by have := R3 k; show more k = 0 ∨ more k = 1; omega, fun h => by cases h.1⟩
section
variable {CA CB CC CD : Type} {A : Tr CA} {B : Tr CB} {C : Tr CC} {D : Tr CD} (nv mv : Bool) (R : CA → CB → CC → CD → Int → Int → Prop)
variable {nv mv R}
end
theorem B4o {α β : Type} (g : α → β) {l : List α} {i : Nat} (h : i < l.length) (d : α) (d' : β) : (l.map g).getD i d' = g (l.getD i d) := by
 rw [Cy (d := d') (by simpa using h), Cy (d := d) h, List.getElem_map]
theorem B2p {e e' : Ev} (h : Tn e = .ok e') : e' = (vE 0 :: e.1.map (fun t => (Be t 0 1).2), e.2) ∧ ∀ t, t ∈ e.1 → Ce (Bh 1 0) t (0, 0) = .ok (Be t 0 1).2 := by
 unfold Tn at h
 obtain ⟨l, h3, h4⟩ := Ai.A3 h
 injection h4 with h4
 obtain ⟨h5, h6⟩ := Is h3
 obtain ⟨h7, h8⟩ := Gk h5
 rw [h8] at h6
 subst h6
 exact ⟨h4.symm, fun t ht => Xg (h7 t ht)⟩
theorem B5d {e e' : Ev} (h : Rj e = .ok e') : e' = (e.1.map (fun t => (Bf t 0 1).2), [⟨1, 0⟩] :: e.2.map (fun f => (Aa f 0 1).2)) ∧ (∀ t, t ∈ e.1 → Ce (Bh 0 1) t (0, 0) = .ok (Bf t 0 1).2) ∧ ∀ f, f ∈ e.2 → B7 1 f 0 = .ok (Aa f 0 1).2 := by
 unfold Rj at h
 obtain ⟨D, h3, h4⟩ := Ai.A3 h
 obtain ⟨l, h5, h6⟩ := Ai.A3 h4
 injection h6 with h6
 obtain ⟨a1, a2⟩ := Is h3
 obtain ⟨a3, a4⟩ := Gk a1
 rw [a4] at a2
 subst a2
 obtain ⟨b1, b2⟩ := Is h5
 obtain ⟨b3, b4⟩ := Gk b1
 rw [b4] at b2
 subst b2
 refine ⟨h6.symm, fun t ht => Z0 (b3 t ht), fun f hf => ?_⟩
 have h9 := a3 f hf
 rw [Qt (Jo h9).1 A4 A4, if_pos h9]
theorem C3o {t : T} {e : Ev} (hk : t.kind = 1) : Ce Bu t e = .ok (e.1.getD t.n.toNat t0) := by
 rw [Fv]
 have : Bu.own e t.kind t.n t.name t.r = .ok (.inl (e.1.getD t.n.toNat t0)) := by
  simp only [Bu]
  rw [if_pos hk]
 rw [this]
 rfl
theorem B3p (f : List Cl) : Q5 (Jw f) := by
 unfold Jw
 split
 ·exact B1a f
 ·exact Ci
theorem Qz {p neg : Bool} {f : List Cl} (h : Ag f) : Q5 (Wz p neg f) := by
 unfold Wz
 split
 ·split
  ·exact A8b f
  ·exact B7y h
 ·split
  ·exact B3p f
  ·exact h
theorem A3l {p : Bool} {g k : List Cl} (hg : Ag g) (hk : Ag k) : Q5 (I4 p g k) := by
 unfold I4
 split
 ·by_cases h : (A8 g && A8 k) = false
  ·unfold E6; rw [if_pos h]; exact Ci
  ·have h2 : A8 g = true ∧ A8 k = true := by simpa using h
   rw [Ke h2.1 h2.2]
   exact B3q hg hk
 ·unfold L1
  split
  ·exact Ci
  ·exact A3m hg hk
theorem B7z {p : Bool} {g k : List Cl} (hg : Ag g) (hk : Ag k) : Q5 (Pv p g k) := by
 unfold Pv
 split
 ·unfold Ha
  split
  ·exact Ci
  ·exact A3n hg hk
 ·unfold L5
  split
  ·exact Ci
  ·exact A3n hg hk
theorem B8v (p : Bool) (g k : List Cl) : (I4 p g k).2.length ≤ 64 := by
 unfold I4
 split
 ·unfold E6
  split
  ·show ([] : List Cl).length ≤ 64; simp
  ·exact Iy _
 ·unfold L1
  split
  ·show ([] : List Cl).length ≤ 64; simp
  ·exact Iy _
theorem B8w (p : Bool) (g k : List Cl) : (Pv p g k).2.length ≤ 64 := by
 unfold Pv
 split
 ·unfold Ha
  split
  ·show ([] : List Cl).length ≤ 64; simp
  ·exact Iy _
 ·unfold L5
  split
  ·show ([] : List Cl).length ≤ 64; simp
  ·exact Iy _
theorem Yl {x : EL} {k : List Cl → EL} {n : Nat} (h : ∀ g, (k g).2.length ≤ n) : (Hc x k).2.length ≤ n := by
 by_cases h0 : x.1 = 0
 ·rw [Bz h0]; exact h _
 ·rw [Bb h0]; exact Nat.zero_le _
theorem Iw {x : EL} {k : List Cl → EL} (h : Q5 x) (hk : ∀ g, Ag g → Q5 (k g)) : Q5 (Hc x k) := by
 by_cases h0 : x.1 = 0
 ·rw [Bz h0]; exact hk _ h
 ·rw [Bb h0]; exact Ci
def De (p neg : Bool) (f g : List Cl) : EL := Hc (Wz p neg f) fun h => I4 p g h
theorem Gj {p neg : Bool} {f g : List Cl} (hf : Ag f) (hg : Ag g) : Q5 (De p neg f g) := Iw (Qz hf) fun _ h => A3l hg h
theorem Fy {l : List CP} {j : Nat} (h : j < l.length) : (l.map (·.1)).getD j [] = (l.getD j C6).1 := B4o _ h C6 []
theorem Lw {p neg : Bool} {D : List (List Cl)} {f : List Cl} {l : List Int} {z hv : List Cl} {k j : Nat} (hk : k < l.length) (h : Ck p neg D (l.take k) z = (0, hv)) (hj : l.getD k 0 = (j : Int)) (hD : D.getD j [] = f) (h0 : (De p neg f hv).1 = 0) : Ck p neg D (l.take (k + 1)) z = (0, (De p neg f hv).2) := by
 unfold De at h0 ⊢
 obtain ⟨h1, h2, e⟩ := F6 h0
 have e1 : D.getD (l.getD k 0).toNat [] = f := by rw [hj, Int.toNat_natCast]; exact hD
 rw [C2x hk h (by rw [e1]; exact h1) (by rw [e1]; exact h2), e1, e]
theorem K6 {p neg : Bool} {D : List (List Cl)} {f : List Cl} {l : List Int} {z hv : List Cl} {k j : Nat} (hk : k < l.length) (h : Ck p neg D (l.take k) z = (0, hv)) (hj : l.getD k 0 = (j : Int)) (hD : D.getD j [] = f) (h0 : (De p neg f hv).1 ≠ 0) : Ck p neg D l z = ((De p neg f hv).1, []) := by
 unfold De at h0 ⊢
 have e1 : D.getD (l.getD k 0).toNat [] = f := by rw [hj, Int.toNat_natCast]; exact hD
 by_cases h1 : (Wz p neg f).1 = 0
 ·rw [Bz h1] at h0 ⊢
  rw [B3z hk h (by rw [e1]; exact h1) (by rw [e1]; exact h0), e1]
 ·rw [Bb h1] at h0 ⊢
  rw [B4a hk h (by rw [e1]; exact h1), e1]
theorem Ji {p neg : Bool} {D : List (List Cl)} (hD : ∀ j, Ag (D.getD j [])) : ∀ {l : List Int} {g : List Cl}, Ag g → Q5 (Ck p neg D l g)
 | [], g, hg => hg
 | i :: l, g, hg => by
  rw [Ck]
  exact Iw (Qz (hD _)) fun h hh => Iw (A3l hg hh) fun g hg => Ji hD hg
theorem No {p neg : Bool} {D : List (List Cl)} : ∀ {l : List Int} {g : List Cl}, g.length ≤ 64 → (Ck p neg D l g).2.length ≤ 64
 | [], g, hg => hg
 | i :: l, g, hg => by
  rw [Ck]
  refine Yl fun h => ?_
  by_cases h0 : (I4 p g h).1 = 0
  ·rw [Bz h0]; exact No (B8v _ _ _)
  ·rw [Bb h0]; exact Nat.zero_le _
theorem B8a {p : Bool} {D : List (List Cl)} {c : Cl} (hD : ∀ j, Ag (D.getD j [])) : Q5 (Q0 p D c) := Iw (Ji hD Hh) fun _ hg => Ji hD hg
theorem Ux {p : Bool} {D : List (List Cl)} {c : Cl} {h : List Cl} (hD : ∀ j, Ag (D.getD j [])) (hh : Ag h) : Q5 (Ec p D h c) := Iw (B8a hD) fun _ hg => B7z hh hg
theorem A4q (p : Bool) (D : List (List Cl)) (h : List Cl) (c : Cl) : (Ec p D h c).2.length ≤ 64 := Yl fun _ => B8w _ _ _
theorem B4q {g : List Cl → Cl → EL} {m : List Cl} (hg : ∀ h c, Ag h → Q5 (g h c)) : ∀ {h : List Cl}, Ag h → Q5 (C8 g h m) := by
 induction m with
 | nil => intro h hh; exact hh
 | cons c m ih =>
  intro h hh
  rw [C8]
  exact Iw (hg h c hh) fun _ h2 => ih h2
theorem A3j {p : Bool} {D : List (List Cl)} {f : List Cl} (hD : ∀ j, Ag (D.getD j [])) : Q5 (F9 p D f) := B4q (fun h c hh => Ux hD hh) Ci
theorem Sm {l : List CP} (h : ∀ j, j < l.length → Ag (l.getD j C6).1) (j : Nat) : Ag ((l.map (·.1)).getD j []) := by
 by_cases hj : j < l.length
 ·rw [Fy hj]; exact h j hj
 ·rw [List.getD_eq_getElem?_getD, List.getElem?_eq_none (by simpa using hj)]
  exact Ci
theorem Spec.B1r {P : Program} {k : FuncId} {args : Array Value} {pre : List Fact} {Ms0 : List Aw} {r r' : EL} (he : r' = r) (h : Spec P k args pre Ms0 (fun x : SH => .tuple #[sl x r.2.length, .int .i64 r.1]) (fun x => [CL r.2 x]) (fun _ => [])) : Spec P k args pre Ms0 (fun x : SH => .tuple #[sl x r'.2.length, .int .i64 r'.1]) (fun x => [CL r'.2 x]) (fun _ => []) := by
 subst he
 exact h
def Cf {α β : Type} (g : α → Int × β) (z : List β) (l : List α) : Int × List β := if (G7 g l).1 ≠ 0 then ((G7 g l).1, []) else (0, z ++ (G7 g l).2)
theorem S8 {α β : Type} {g : α → Int × β} {z : List β} {l : List α} (h : ∀ a, a ∈ l → (g a).1 = 0) : Cf g z l = (0, z ++ l.map fun a => (g a).2) := by
 unfold Cf
 rw [A0o h, if_neg Cq]
theorem S7 {α β : Type} {g : α → Int × β} {z : List β} {d : α} {l : List α} {i : Nat} (hi : i < l.length) (h : ∀ j, j < i → (g (l.getD j d)).1 = 0) (h2 : (g (l.getD i d)).1 ≠ 0) : Cf g z l = ((g (l.getD i d)).1, []) := by
 unfold Cf
 rw [V6 hi h h2, if_pos h2]
theorem A1s {α β : Type} {g : α → Int × β} {d : α} {l : List α} {i : Nat} (hi : i = l.length) (h : ∀ j, j < i → (g (l.getD j d)).1 = 0) : ∀ a, a ∈ l → (g a).1 = 0 := fun a ha => by
 obtain ⟨j, hj, rfl⟩ := List.mem_iff_getElem.mp ha
 rw [← Cy (d := d) hj]
 exact h j A4
theorem Ud {α β : Type} {f : α → β} {d : α} {l : List α} {k : Nat} (h : k < l.length) : (l.take (k + 1)).map f = (l.take k).map f ++ [f (l.getD k d)] := by rw [Ac (d := d) h, List.map_append]; rfl
def Ky (r : Ai Ev) (c : Int) (e : Ev) : Prop := (c = 0 → r = .ok e) ∧ (c ≠ 0 → r = .bad c)
theorem B5z (ts : List T) (D : List (List Cl)) : Ky (Tn (ts, D)) (Cf (fun t => Be t 0 1) [vE 0] ts).1 ((Cf (fun t => Be t 0 1) [vE 0] ts).2, D) := by
 unfold Cf Tn Ky Wu
 by_cases h : (G7 (fun t => Be t 0 1) ts).1 ≠ 0
 ·rw [if_pos h]
  refine ⟨fun h0 => absurd h0 h, fun _ => ?_⟩
  rw [if_neg h]; rfl
 ·rw [if_neg h]
  refine ⟨fun _ => ?_, fun h0 => absurd rfl h0⟩
  rw [if_pos (Decidable.not_not.mp h)]; rfl
theorem B5c {ts : List T} {D : List (List Cl)} (h : (Cf (fun f => Aa f 0 1) [[⟨1, 0⟩]] D).1 ≠ 0) : Rj (ts, D) = .bad (Cf (fun f => Aa f 0 1) [[⟨1, 0⟩]] D).1 := by
 unfold Cf at h ⊢
 unfold Rj Wu
 by_cases h1 : (G7 (fun f => Aa f 0 1) D).1 ≠ 0
 ·rw [if_pos h1, if_neg h1]; rfl
 ·rw [if_neg h1] at h; exact absurd rfl h
theorem B5b {ts : List T} {D : List (List Cl)} (h : (Cf (fun f => Aa f 0 1) [[⟨1, 0⟩]] D).1 = 0) : Ky (Rj (ts, D)) (Cf (fun t => Bf t 0 1) [] ts).1 ((Cf (fun t => Bf t 0 1) [] ts).2, (Cf (fun f => Aa f 0 1) [[⟨1, 0⟩]] D).2) := by
 unfold Cf at h
 by_cases h1 : (G7 (fun f => Aa f 0 1) D).1 ≠ 0
 ·rw [if_pos h1] at h; exact absurd h h1
 ·unfold Cf Ky Rj Wu
  rw [if_neg h1, if_pos (Decidable.not_not.mp h1)]
  by_cases h2 : (G7 (fun t => Bf t 0 1) ts).1 ≠ 0
  ·rw [if_pos h2]
   refine ⟨fun h0 => absurd h0 h2, fun _ => ?_⟩
   rw [if_neg h2]; rfl
  ·rw [if_neg h2]
   refine ⟨fun _ => ?_, fun h0 => absurd rfl h0⟩
   rw [if_pos (Decidable.not_not.mp h2)]; rfl
theorem C5k {ok : Nat → Prop} {w : World} {l : List CP} {a : SH} (h : (J4 l a).f ok w) (j : Nat) (hj : j < l.length) : Ag (l.getD j C6).1 := Bq (h.2 _ (Ad hj))
def Ed (t : T) (e : Ev) : Int × T := Lb (Ce Bu t e)
def Fc (t : T) (e : Ev) (b : Int × Int) : Int × T := Lb ((Jx e b).bind fun e' => Ce Bu t e')
theorem B9f {t : T} {e : Ev} {b : Int × Int} {c : Int} (h : Jx e b = .bad c) : Fc t e b = (c, t0) := by unfold Fc; rw [h]; rfl
theorem C3d {t : T} {e e' : Ev} {b : Int × Int} (h : Jx e b = .ok e') : Fc t e b = Ed t e' := by unfold Fc; rw [h]; rfl
theorem Wc {e e' : Ev} {b : Int × Int} {n : Nat} (hn : 1 ≤ n) (h : ∀ x, x ∈ e.1 → size x ≤ n) (hk : Jx e b = .ok e') : (∀ x, x ∈ e'.1 → size x ≤ n) ∧ (bnd b → (e'.1.length : Int) = e.1.length + b.1 ∧ (e'.2.length : Int) = e.2.length + b.2) := by
 unfold Jx at hk
 split at hk
 ·rename_i h1
  obtain ⟨rfl, ht⟩ := B2p hk
  refine ⟨fun x hx => ?_, fun hb => ?_⟩
  ·rcases List.mem_cons.mp hx with rfl | hx
   ·have : size (vE 0) = 1 := by decide +kernel
    omega
   ·obtain ⟨y, hy, rfl⟩ := List.mem_map.mp hx
    rw [Oh (ht y hy)]; exact h y hy
  ·simp only [List.length_cons, List.length_map]; omega
 ·split at hk
  ·rename_i h1 h2
   obtain ⟨rfl, ht, _⟩ := B5d hk
   refine ⟨fun x hx => ?_, fun hb => ?_⟩
   ·obtain ⟨y, hy, rfl⟩ := List.mem_map.mp hx
    rw [Oh (ht y hy)]; exact h y hy
   ·simp only [List.length_cons, List.length_map]; omega
  ·injection hk with hk
   subst hk
   exact ⟨h, fun hb => by omega⟩
theorem St.B8j {B : Bx} {Γ : List Fact} {Ms : List Aw} {w : World} (c : Nat) (hs : St B Γ Ms w) : St B (J4 [] (Option.none, c) :: Γ) Ms w := hs.add ⟨⟨Nat.zero_le _, by simp, fun h => absurd h Cq⟩, fun x hx => by cases hx⟩
def A4u (t : T) (e : Ev) (b : Int × Int) : Ai T := (Jx e b).bind fun e' => Ce Bu t e'
theorem C3e {t : T} {e : Ev} {b : Int × Int} {x : Int} (h : A4u t e b = .bad x) : x ≠ 0 := by
 unfold A4u at h
 rcases B6 h with h | ⟨e', _, h⟩
 ·exact We h
 ·exact M5 _ h
theorem Q2 {r : Ai T} (hn : ∀ e, r = .bad e → e ≠ 0) (h : (Lb r).1 = 0) : r = .ok (Lb r).2 := by
 cases r with
 | ok u => rfl
 | bad e => exact absurd h (hn e rfl)
theorem C0t {r : Ai T} (h : (Lb r).1 ≠ 0) : r = .bad (Lb r).1 := by
 cases r with
 | ok u => exact absurd rfl h
 | bad e => rfl
theorem Yp {t : T} {e : Ev} {b : Int × Int} (h : (Fc t e b).1 = 0) : A4u t e b = .ok (Fc t e b).2 := Q2 (fun _ h => C3e h) h
theorem B1n {t : T} {e : Ev} {b : Int × Int} (h : (Fc t e b).1 ≠ 0) : A4u t e b = .bad (Fc t e b).1 := C0t h
theorem A9c {k : Int} {ts : List T} {i : Nat} {l : List T} {e : Ev} {u : T} (hi : i < ts.length) (hl : D3 Bu k 0 (ts.take i) e = .ok l) (h : A4u (ts.getD i t0) e (binds k i) = .ok u) : D3 Bu k 0 (ts.take (i + 1)) e = .ok (l ++ [u]) := by
 obtain ⟨e', h1, h2⟩ := Ai.A3 h
 exact Su hi hl h1 h2
theorem A5p {t : T} {e : Ev} {x : Int} {p : Int × List Cl} {i : Nat} {l : List T} (ho : Bu.own e t.kind t.n t.name t.r = .ok (.inr p)) (hi : i < t.kids.length) (hl : D3 Bu t.kind 0 (t.kids.take i) e = .ok l) (h : A4u (t.kids.getD i t0) e (binds t.kind i) = .bad x) : Ce Bu t e = .bad x := by
 rcases B6 h with h | ⟨e', h1, h2⟩
 ·have h1 : D3 Bu t.kind 0 (t.kids.take (i + 1)) e = .bad x := by
   rw [Ac (d := t0) hi, Lk, hl]
   simp only [Ai.bind, List.length_take, Nat.zero_add, Nat.min_eq_left (Nat.le_of_lt hi)]
   rw [show Bu.M0 e (binds t.kind i) = .bad x from h]
  have h2 := Rx (m := t.kids.drop (i + 1)) h1
  rw [List.take_append_drop] at h2
  exact Wr ho h2
 ·exact Qk ho hi hl h1 h2
theorem B9z {k : Int} {ts : List T} {i : Nat} {l : List T} {e : Ev} {u : T} (hi : i < ts.length) (hl : Cd Bu k (ts.take i) e = .ok l) (h : A4u (ts.getD i t0) e (0, more k) = .ok u) : Cd Bu k (ts.take (i + 1)) e = .ok (l ++ [u]) := by
 obtain ⟨e', h1, h2⟩ := Ai.A3 h
 exact Sv hi hl h1 h2
theorem B4x {k : Int} {ts : List T} {i : Nat} {l : List T} {e : Ev} {x : Int} (hi : i < ts.length) (hl : Cd Bu k (ts.take i) e = .ok l) (h : A4u (ts.getD i t0) e (0, more k) = .bad x) : Cd Bu k ts e = .bad x := by
 rcases B6 h with h | ⟨e', h1, h2⟩
 ·have h1 : Cd Bu k (ts.take (i + 1)) e = .bad x := by
   rw [Ac (d := t0) hi, Lj, hl]
   simp only [Ai.bind]
   rw [show Bu.M0 e (0, more k) = .bad x from h]
  have h2 := Rw (m := ts.drop (i + 1)) h1
  rwa [List.take_append_drop] at h2
 ·exact Ql hi hl h1 h2
theorem Qm {C : Type} {A : Tr C} {k : Int} {c : C} {ss : List Br} {s : Nat} {bs : List Br} {e : Int} (hs : s < ss.length) (hb : Cn A k (ss.take s) c = .ok bs) (hf : A.Ay c (ss.getD s Bd).Ay = .bad e ∨ ∃ f', A.Ay c (ss.getD s Bd).Ay = .ok (some f') ∧ Cd A k (ss.getD s Bd).kids c = .bad e) : Cn A k ss c = .bad e := by
 have h1 : Cn A k (ss.take (s + 1)) c = .bad e := by
  rw [Ac (d := Bd) hs, Jd, hb]
  simp only [Ai.bind]
  rcases hf with hf | ⟨f', hf, h2⟩
  ·rw [hf]
  ·rw [hf]; simp only; rw [h2]
 have h2 := Ob (m := ss.drop (s + 1)) h1
 rwa [List.take_append_drop] at h2
def Mw (t : T) (e : Ev) (g : List Cl) (ks : List T) : Int × T := Lb ((Cn Bu t.kind t.sys e).bind fun bs => .ok (.mk t.kind 0 t.name g ks bs))
theorem A6b {t : T} {e : Ev} {g : List Cl} {ks : List T} {x : Int} (h : Cn Bu t.kind t.sys e = .bad x) : Mw t e g ks = (x, t0) := by unfold Mw; rw [h]; rfl
theorem C4c {t : T} {e : Ev} {g : List Cl} {ks : List T} {bs : List Br} (h : Cn Bu t.kind t.sys e = .ok bs) : Mw t e g ks = (0, .mk t.kind 0 t.name g ks bs) := by unfold Mw; rw [h]; rfl
theorem A1e {e : Ev} {f : List Cl} (h : (F9 true e.2 f).1 ≠ 0) : Bu.Ay e f = .bad (F9 true e.2 f).1 := by show (elR _).bind _ = _; rw [B1t h]; rfl
theorem X9 {e : Ev} {f : List Cl} (h : (F9 true e.2 f).1 = 0) (h2 : (F9 true e.2 f).2.length = 0) : Bu.Ay e f = .ok none := by show (elR _).bind _ = _; rw [A9e h]; show Ai.ok (if _ then _ else _) = _; rw [if_pos h2]
theorem X8 {e : Ev} {f : List Cl} (h : (F9 true e.2 f).1 = 0) (h2 : (F9 true e.2 f).2.length ≠ 0) : Bu.Ay e f = .ok (some (F9 true e.2 f).2) := by show (elR _).bind _ = _; rw [A9e h]; show Ai.ok (if _ then _ else _) = _; rw [if_neg h2]
theorem A5n {e : Ev} {k n : Int} {nm : ByteArray} {r : List Cl} (hk : k ≠ 1) (h : (F9 (decide (k = 14)) e.2 r).1 ≠ 0) : Bu.own e k n nm r = .bad (F9 (decide (k = 14)) e.2 r).1 := by
 show (if k = 1 then _ else _) = _
 rw [if_neg hk, B1t h]; rfl
theorem A9b {e : Ev} {k n : Int} {nm : ByteArray} {r : List Cl} (hk : k ≠ 1) (h : (F9 (decide (k = 14)) e.2 r).1 = 0) : Bu.own e k n nm r = .ok (.inr (0, (F9 (decide (k = 14)) e.2 r).2)) := by
 show (if k = 1 then _ else _) = _
 rw [if_neg hk, A9e h]; rfl
theorem C3q {t : T} {e : Ev} {g : List Cl} {ks : List T} (ho : Bu.own e t.kind t.n t.name t.r = .ok (.inr (0, g))) (hl : D3 Bu t.kind 0 t.kids e = .ok ks) : Ed t e = Mw t e g ks := by
 show Lb _ = Lb _
 rw [Fv, ho]; simp only [Ai.bind]; rw [hl]
theorem C1v {t : T} {v : Int} {d : Nat} (hf : F0 t) (hm : Fb t v d) : ∀ c, c ∈ t.r → ∀ j, (c.pos ||| c.neg).testBit j = true → j < d := by
 obtain ⟨⟨m1, m2, m3⟩, m4, m5⟩ := Fp.mp hm
 have h1 := (L6.mp hf).1
 by_cases hk : t.kind = 1
 ·rw [(Vn hf hk).1]
  intro c hc
  cases hc
 ·have hr : Cj (decide (t.kind = 14)) t.r := by
   unfold Cj
   by_cases h14 : t.kind = 14
   ·rw [if_pos (by simp [h14])]; exact (M1 h1).1 h14
   ·rw [if_neg (by simp [h14])]; exact (M1 h1).2
  exact U3 A4 (Hu (S5 hr)) m3
theorem B9x {t : T} {v : Int} {d : Nat} {s : Nat} (hf : F0 t) (hm : Fb t v d) (hs : s < t.sys.length) : ∀ c, c ∈ (t.sys.getD s Bd).Ay → ∀ j, (c.pos ||| c.neg).testBit j = true → j < d := by
 obtain ⟨⟨m1, m2, m3⟩, m4, m5⟩ := Fp.mp hm
 have hb := Ad (d := Bd) hs
 exact U3 A4 (Hu (Ep (B4u hf hb)).1) (m4 _ hb)
def I9 (ts : List T) (D n : Nat) : Prop := ts.length + n ≤ 10000000 ∧ D + n ≤ 10000000 ∧ ∀ x, x ∈ ts → size x ≤ 1000000000
theorem I9.less {ts : List T} {D n m : Nat} (h : I9 ts D n) (hm : m ≤ n) : I9 ts D m := ⟨by have := h.1; omega, by have := h.2.1; omega, h.2.2⟩
theorem B9d {e e' : Ev} {b : Int × Int} {n : Nat} (hb : bnd b) (h : I9 e.1 e.2.length (n + 1)) (hk : Jx e b = .ok e') : I9 e'.1 e'.2.length n := by
 obtain ⟨h1, h2⟩ := Wc (n := 1000000000) A4 h.2.2 hk
 obtain ⟨h3, h4⟩ := h2 hb
 have h5 := h.1
 have h6 := h.2.1
 have h7 := hb.1
 have h8 := hb.2.1
 exact ⟨by omega, by omega, h1⟩
theorem C3c {e e' : Ev} {b : Int × Int} {t : T} (hb : bnd b) (hm : Fb t (e.1.length + b.1) (e.2.length + b.2)) {n : Nat} (h : I9 e.1 e.2.length n) (hk : Jx e b = .ok e') : Fb t e'.1.length e'.2.length := by
 obtain ⟨h1, h2⟩ := Wc (n := 1000000000) A4 h.2.2 hk
 obtain ⟨h3, h4⟩ := h2 hb
 rw [h3, h4]; exact hm
theorem B8o {t : T} {v d : Int} (hm : Fb t v d) {i : Nat} (hi : i < t.kids.length) : Fb (t.kids.getD i t0) (v + (binds t.kind i).1) (d + (binds t.kind i).2) := (Fp.mp hm).2.2 _ (List.mem_of_getElem? (Hm t i hi))
theorem B8n {t : T} {v d : Int} (hm : Fb t v d) {s k : Nat} (hs : s < t.sys.length) (hk : k < (t.sys.getD s Bd).kids.length) : Fb ((t.sys.getD s Bd).kids.getD k t0) (v + 0) (d + more t.kind) := (Fp.mp hm).2.2 _ (List.mem_of_getElem? (Hl t s k hs hk))
theorem A9o (k i : Int) : bnd ((binds k i).1, (binds k i).2) := Sp k i
theorem A2v {l : List CP} {ts : List T} {n : Nat} (h : I9 ts l.length n) : I9 (ts, l.map (·.1)).1 (ts, l.map (·.1)).2.length n := by
 show I9 ts (l.map (·.1)).length n
 rw [List.length_map]; exact h
theorem B8p {l : List CP} {ts : List T} {n : Nat} (h : I9 (ts, l.map (·.1)).1 (ts, l.map (·.1)).2.length n) : I9 ts l.length n := by
 have h : I9 ts (l.map (·.1)).length n := h
 rwa [List.length_map] at h
section
variable {P : Program} [Tab P] {f : FuncId} {fn : Func} {B : Bx} {n : Fz} {K : List Item} {σ : Nat → Value} {Γ : List Fact} {Ms : List Aw} {X : Type} {val : X → Value} {N : X → List Fact} {Ms1 : X → List Aw}
end
def kpT (e : Int) (t : T) : T := if e = 0 then t else t0
def kpS (e : Int) (s : SH) : SH := if e = 0 then s else (none, 0)
theorem C8h {e : Int} {t : T} (h : e = 0) : kpT e t = t := if_pos h
theorem C3b {e : Int} {t : T} (h : e ≠ 0) : kpT e t = t0 := if_neg h
theorem A8p {e : Int} {t : SH} (h : e = 0) : kpS e t = t := if_pos h
theorem A0v {e : Int} {t : SH} (h : e ≠ 0) : kpS e t = (none, 0) := if_neg h
theorem St.kp {B : Bx} {Γ : List Fact} {Ms : List Aw} {w : World} (e : Int) {t : T} {a b c : SH} (hs : St B Γ Ms w) (h : RT t a b c ∈ Γ) : St B (RT (kpT e t) (kpS e a) (kpS e b) (kpS e c) :: Γ) Ms w := by
 by_cases he : e = 0
 ·rw [C8h he, A8p he, A8p he, A8p he]
  exact hs.less (by
   intro F hF
   rcases List.mem_cons.mp hF with rfl | hF
   ·exact h
   ·exact hF)
 ·rw [C3b he, A0v he, A0v he, A0v he]
  exact hs.Ja
section
variable {tn : Bool} {pn : Nat} {P : Program} [Tab P] {f : FuncId} {R : Ending → World → Prop} {B : Bx} {n : Fz} {K : List Item} {ops : Array Oper} {fin l : List Nat} {σ : Nat → Value} {Γ : List Fact} {Ms : List Aw} {i : Nat} {dst : Option Tmp} {ty : TypeId} {x y z : Operand}
end
section
variable {M : Nat}
theorem B9e {e e' : Ev} {b : Int × Int} (hM : 1 ≤ M) (h : ∀ x, x ∈ e.1 → size x ≤ M) (hk : Bu.M0 e b = .ok e') : ∀ x, x ∈ e'.1 → size x ≤ M := (Wc hM h hk).1
mutual
theorem Vs : ∀ {t u : T} {e : Ev}, 1 ≤ M → (∀ x, x ∈ e.1 → size x ≤ M) → Ce Bu t e = .ok u → size u ≤ size t * M
 | .mk k n nm r ks ss, u, e, hM, he, hu => by
  rw [Fv] at hu
  simp only [T.kind, T.n, T.name, T.r, T.kids, T.sys] at hu
  obtain ⟨o, h9, hu⟩ := Ai.A3 hu
  cases o with
  | inl v =>
   injection hu with hu
   subst hu
   simp only [Bu] at h9
   split at h9
   ·injection h9 with h9
    injection h9 with h9
    subst h9
    have h1 : size (e.1.getD n.toNat t0) ≤ M := by
     by_cases hl : n.toNat < e.1.length
     ·exact he _ (Ad hl)
     ·rw [List.getD_eq_getElem?_getD, List.getElem?_eq_none A4]
      show size t0 ≤ M
      rw [Zq]; exact hM
    exact Nat.le_trans h1 (Nat.le_mul_of_pos_left M (size_pos' _))
   ·obtain ⟨g, _, h9⟩ := Ai.A3 h9
    injection h9 with h9
    cases h9
  | inr p =>
   obtain ⟨ks', h10, hu⟩ := Ai.A3 hu
   obtain ⟨ss', h11, hu⟩ := Ai.A3 hu
   injection hu with hu
   subst hu
   rw [Pn, Pn (.mk k n nm r ks ss)]
   simp only [T.kids, T.sys]
   have h1 := Yx hM he h10
   have h2 := Sj hM he h11
   rw [Nat.add_mul, Nat.add_mul]
   omega
theorem Yx {k : Int} : ∀ {ts us : List T} {i : Nat} {e : Ev}, 1 ≤ M → (∀ x, x ∈ e.1 → size x ≤ M) → D3 Bu k i ts e = .ok us → Fo us ≤ Fo ts * M
 | [], us, i, e, hM, he, hu => by rw [Eh] at hu; injection hu with hu; subst hu; exact Nat.zero_le _
 | t :: ts, us, i, e, hM, he, hu => by
  rw [Du] at hu
  obtain ⟨c', h1, hu⟩ := Ai.A3 hu
  obtain ⟨t', h2, hu⟩ := Ai.A3 hu
  obtain ⟨ts', h3, hu⟩ := Ai.A3 hu
  injection hu with hu
  subst hu
  have h4 := Vs hM (B9e hM he h1) h2
  have h5 := Yx hM he h3
  simp only [Fo]
  rw [Nat.add_mul]
  omega
theorem Yw {k : Int} : ∀ {ts us : List T} {e : Ev}, 1 ≤ M → (∀ x, x ∈ e.1 → size x ≤ M) → Cd Bu k ts e = .ok us → Fo us ≤ Fo ts * M
 | [], us, e, hM, he, hu => by rw [Eg] at hu; injection hu with hu; subst hu; exact Nat.zero_le _
 | t :: ts, us, e, hM, he, hu => by
  rw [Dt] at hu
  obtain ⟨c', h1, hu⟩ := Ai.A3 hu
  obtain ⟨t', h2, hu⟩ := Ai.A3 hu
  obtain ⟨ts', h3, hu⟩ := Ai.A3 hu
  injection hu with hu
  subst hu
  have h4 := Vs hM (B9e hM he h1) h2
  have h5 := Yw hM he h3
  simp only [Fo]
  rw [Nat.add_mul]
  omega
theorem Sj {k : Int} : ∀ {bs us : List Br} {e : Ev}, 1 ≤ M → (∀ x, x ∈ e.1 → size x ≤ M) → Cn Bu k bs e = .ok us → Ks us ≤ Ks bs * M
 | [], us, e, hM, he, hu => by rw [E2] at hu; injection hu with hu; subst hu; exact Nat.zero_le _
 | .mk f ks :: bs, us, e, hM, he, hu => by
  rw [Dh] at hu
  simp only [Br.Ay, Br.kids] at hu
  obtain ⟨o, h5, hu⟩ := Ai.A3 hu
  cases o with
  | none => have h6 := Sj hM he hu; simp only [Ks]; rw [Nat.add_mul]; omega
  | some g =>
   obtain ⟨ks', h7, hu⟩ := Ai.A3 hu
   obtain ⟨bs', h8, hu⟩ := Ai.A3 hu
   injection hu with hu
   subst hu
   have h1 := Yw hM he h7
   have h2 := Sj hM he h8
   simp only [Ks, Br.kids]
   rw [Nat.add_mul]
   omega
end
end
theorem B4z {t : T} {e : Ev} {M : Nat} (hM : 1 ≤ M) (he : ∀ x, x ∈ e.1 → size x ≤ M) : size (Ed t e).2 ≤ size t * M := by
 unfold Ed
 cases h : Ce Bu t e with
 | ok u => exact Vs hM he h
 | bad x => show size t0 ≤ _; rw [Zq]; exact Nat.le_trans hM (Nat.le_mul_of_pos_left M (size_pos' t))
theorem C0v {α : Type} {p : α → Bool} {l : List α} {d : α} {i : Nat} (hi : i < l.length) (h : p (l.getD i d) = true) : l.any p = true := List.any_eq_true.mpr ⟨_, Ad hi, h⟩
theorem any_none {α : Type} {p : α → Bool} {l : List α} {d : α} (h : ∀ j, j < l.length → p (l.getD j d) = false) : l.any p = false := by
 rw [List.any_eq_false]
 intro x hx
 obtain ⟨j, hj, rfl⟩ := List.mem_iff_getElem.mp hx
 have := h j hj
 rw [Cy (d := d) hj] at this
 rw [this]; decide
theorem B9l {α : Type} {p : α → Bool} {l : List α} {d : α} {i : Nat} (hi : i < l.length) (h : p (l.getD i d) = true) : decide (0 ≤ (i : Int)) = l.any p := by rw [C0v hi h]; exact decide_eq_true A4
theorem A4w {α : Type} {p : α → Bool} {l : List α} {d : α} (h : ∀ j, j < l.length → p (l.getD j d) = false) : decide (0 ≤ (-1 : Int)) = l.any p := by rw [any_none h]; decide
theorem B6o (ts : List T) (l : List CP) : (!(l.any fun x => !Ab x.1)) = Di (ts, l.map (·.1)) := by
 unfold Di
 show _ = (l.map (·.1)).all fun f => Ab f
 rw [List.all_map, Bool.eq_iff_iff]
 simp [List.any_eq_false]
theorem B1q (ts : List T) (l : List CP) : (decide ((ts.length : Int) ≤ 200) && decide ((l.length : Int) ≤ 24)) = Ez (ts, l.map (·.1)) := by
 unfold Ez
 show _ = (decide (ts.length ≤ 200) && decide ((l.map (·.1)).length ≤ 24))
 rw [List.length_map, Bool.eq_iff_iff]
 simp only [Bool.and_eq_true, decide_eq_true_eq]
 omega
theorem A5k {ts : List T} {l : List CP} (h : Ez (ts, l.map (·.1)) = true) : ts.length ≤ 200 ∧ l.length ≤ 24 := by
 rw [← B1q] at h
 simp only [Bool.and_eq_true, decide_eq_true_eq] at h
 omega
theorem B8q {f : List Cl} {n : Nat} (h : n ≤ 24) : Mv f n = decide (F1 f / 2 ^ (min n 32) = 0) := by unfold Mv; rw [Nat.min_eq_left A4]
theorem A9t {t : T} {e : Ev} (h : Ez e = false) : Ae t e = (2, t0) := by unfold Ae; rw [if_pos h]
theorem A6h {t : T} {e : Ev} (h : Ez e = true) (h2 : Bk t e.1.length e.2.length ≠ 0) : Ae t e = (Bk t e.1.length e.2.length, t0) := by unfold Ae; rw [if_neg (by rw [h]; decide), if_pos h2]
theorem A6g {t : T} {e : Ev} (h : Ez e = true) (h2 : Bk t e.1.length e.2.length = 0) (h3 : (Di e && e.1.all fun x => decide (As x = 0)) = false) : Ae t e = (2, t0) := by unfold Ae; rw [if_neg (by rw [h]; decide), if_neg (by rw [h2]; decide), if_pos h3]
theorem Tj {ts : List T} : (ts.all fun x => decide (As x = 0)) = !(ts.any fun t => decide (As t ≠ 0)) := by
 rw [Bool.eq_iff_iff]
 simp [List.any_eq_false]
theorem B5r {t : T} {e : Ev} (h : Ez e = true) (h2 : Bk t e.1.length e.2.length = 0) (h3 : (Di e && e.1.all fun x => decide (As x = 0)) = true) (h4 : (Ed t e).1 ≠ 0) : Ae t e = ((Ed t e).1, t0) := by
 unfold Ae
 rw [if_neg (by rw [h]; decide), if_neg (by rw [h2]; decide), if_neg (by rw [h3]; decide)]
 unfold Ed at h4 ⊢
 cases hq : Ce Bu t e with
 | ok u => rw [hq] at h4; exact absurd rfl h4
 | bad x => rfl
theorem A6i {t : T} {e : Ev} (h : Ez e = true) (h2 : Bk t e.1.length e.2.length = 0) (h3 : (Di e && e.1.all fun x => decide (As x = 0)) = true) (h4 : (Ed t e).1 = 0) (h5 : As (Ed t e).2 ≠ 0) : Ae t e = (As (Ed t e).2, t0) := by
 have hz := Q2 (r := Ce Bu t e) (fun x hx => M5 t hx) h4
 unfold Ae
 rw [if_neg (by rw [h]; decide), if_neg (by rw [h2]; decide), if_neg (by rw [h3]; decide), hz]
 exact if_pos h5
theorem C0u {t : T} {e : Ev} (h : Ez e = true) (h2 : Bk t e.1.length e.2.length = 0) (h3 : (Di e && e.1.all fun x => decide (As x = 0)) = true) (h4 : (Ed t e).1 = 0) (h5 : As (Ed t e).2 = 0) : Ae t e = (0, (Ed t e).2) := by
 have hz := Q2 (r := Ce Bu t e) (fun x hx => M5 t hx) h4
 unfold Ae
 rw [if_neg (by rw [h]; decide), if_neg (by rw [h2]; decide), if_neg (by rw [h3]; decide), hz]
 exact if_neg (by rw [show (Lb (Ce Bu t e)).2 = (Ed t e).2 from rfl, h5]; decide)
theorem A9s {t : T} {ts : List T} {l : List CP} (h : Ez (ts, l.map (·.1)) = true) (h2 : Bk t ts.length l.length = 0) (h3 : ∀ x, x ∈ ts → As x = 0) (hz : size t ≤ 20000) : I9 ts l.length (size t) ∧ F0 t ∧ Fb t ts.length l.length := by
 have hl := A5k h
 obtain ⟨_, _, _, hf, hm⟩ := (S4 (t := t) (v := ts.length) (d := l.length) A4 A4).mp h2
 exact ⟨⟨by omega, by omega, fun x hx => by have := I6 (h3 x hx); omega⟩, hf, hm⟩
theorem A7n {t : T} {v d : Int} (hv : 0 ≤ v) (hb : v ≤ 1000000000000) (h : Bk t v d = 0) : size t ≤ 20000 := (Pm.mp ((S4 hv hb).mp h).2.2.1).2
theorem Y3 {e : Ev} {v d : Int} (h : v < 0 ∨ d < 0 ∨ 24 < d ∨ Ez e = false ∨ Di e = false ∨ (e.2.all fun f => Mv f d.toNat) = false) : Co e v d = 2 := by
 unfold Co
 rw [if_pos]
 rcases h with h | h | h | h | h | h <;> simp [h]
theorem A7m {e : Ev} {v d : Int} (hv : ¬ v < 0) (hd : ¬ d < 0) (h24 : ¬ 24 < d) (hf : Ez e = true) (hs : Di e = true) (hl : (e.2.all fun f => Mv f d.toNat) = true) : Co e v d = (G7 (fun t => (Bk t v d, ())) e.1).1 := by
 unfold Co
 rw [if_neg]
 simp only [Bool.not_eq_true, Bool.or_eq_false_iff]
 refine ⟨⟨⟨⟨⟨decide_eq_false hv, decide_eq_false hd⟩, decide_eq_false h24⟩, ?_⟩, ?_⟩, ?_⟩
 ·rw [hf]; rfl
 ·rw [hs]; rfl
 ·rw [hl]; rfl
theorem B3c {e : Ev} {v d : Int} {k : Nat} (hq : Co e v d = (G7 (fun t => (Bk t v d, ())) e.1).1) (hk : k < e.1.length) (h : ∀ j, j < k → Bk (e.1.getD j t0) v d = 0) (h2 : Bk (e.1.getD k t0) v d ≠ 0) : Co e v d = Bk (e.1.getD k t0) v d := by
 rw [hq, V6 (d := t0) hk h h2]
theorem A7o {e : Ev} {v d : Int} {k : Nat} (hq : Co e v d = (G7 (fun t => (Bk t v d, ())) e.1).1) (hk : k = e.1.length) (h : ∀ j, j < k → Bk (e.1.getD j t0) v d = 0) : Co e v d = 0 := by
 rw [hq, A0o (A1s (g := fun t => (Bk t v d, ())) (d := t0) hk h)]
theorem A8z {ts : List T} {l : List CP} {i : Nat} {d : Nat} (hi : i < l.length) (h : Ab (l.getD i C6).1 = false ∨ Mv (l.getD i C6).1 d = false) : Di (ts, l.map (·.1)) = false ∨ ((l.map (·.1)).all fun f => Mv f d) = false := by
 have hm : (l.getD i C6).1 ∈ l.map (·.1) := List.mem_map.mpr ⟨_, Ad hi, rfl⟩
 rcases h with h | h
 ·left
  cases hq : Di (ts, l.map (·.1)) with
  | false => rfl
  | true => have := List.all_eq_true.mp hq _ hm; rw [h] at this; cases this
 ·right
  cases hq : ((l.map (·.1)).all fun f => Mv f d) with
  | false => rfl
  | true => have := List.all_eq_true.mp hq _ hm; rw [h] at this; cases this
theorem B4v {ts : List T} {l : List CP} {d : Nat} (h : ∀ j, j < l.length → Ab (l.getD j C6).1 = true ∧ Mv (l.getD j C6).1 d = true) : Di (ts, l.map (·.1)) = true ∧ ((l.map (·.1)).all fun f => Mv f d) = true := by
 have key : ∀ f, f ∈ l.map (·.1) → Ab f = true ∧ Mv f d = true := fun f hf => by
  obtain ⟨p, hp, rfl⟩ := List.mem_map.mp hf
  obtain ⟨j, hj, rfl⟩ := List.mem_iff_getElem.mp hp
  have := h j hj
  rwa [Cy (d := C6) hj] at this
 exact ⟨List.all_eq_true.mpr fun f hf => (key f hf).1, List.all_eq_true.mpr fun f hf => (key f hf).2⟩
def Ge (ts : List T) (l : List CP) : Bool := decide (30 < ts.length) || decide (30 < l.length) || (l.any fun x => decide (6 < x.1.length)) || decide (150 < Fm (.mk 0 0 ⟨#[]⟩ [] ts []))
theorem A4z {ts : List T} {l : List CP} (h : Ge ts l = false) : ts.length ≤ 30 ∧ l.length ≤ 30 ∧ (∀ x, x ∈ l → x.1.length ≤ 6) ∧ Fm (.mk 0 0 ⟨#[]⟩ [] ts []) ≤ 150 := by
 unfold Ge at h
 simp only [Bool.or_eq_false_iff, decide_eq_false_iff_not] at h
 obtain ⟨⟨⟨h1, h2⟩, h3⟩, h4⟩ := h
 refine ⟨by omega, by omega, fun x hx => ?_, by omega⟩
 have := List.any_eq_false.mp h3 x hx
 simp only [decide_eq_true_eq] at this
 omega
theorem B4m {ts : List T} {l : List CP} (h : 30 < ts.length ∨ 30 < l.length) : Ge ts l = true := by
 unfold Ge
 rcases h with h | h <;> simp [h]
theorem A8v {ts : List T} {l : List CP} {i : Nat} (hi : i < l.length) (h : 6 < (l.getD i C6).1.length) : Ge ts l = true := by
 unfold Ge
 rw [C0v (p := fun x : CP => decide (6 < x.1.length)) (d := C6) hi (decide_eq_true h)]
 simp
theorem A8w {ts : List T} {l : List CP} (h1 : ts.length ≤ 30) (h2 : l.length ≤ 30) (h3 : ∀ j, j < l.length → (l.getD j C6).1.length ≤ 6) : Ge ts l = decide (150 < Fm (.mk 0 0 ⟨#[]⟩ [] ts [])) := by
 unfold Ge
 rw [any_none (p := fun x : CP => decide (6 < x.1.length)) (d := C6) (fun j hj => decide_eq_false (by have := h3 j hj; omega)), decide_eq_false (show ¬ 30 < ts.length by omega), decide_eq_false (show ¬ 30 < l.length by omega)]
 simp
theorem Zx {f : List Cl} {n : Nat} (hn : n ≤ 24) (h : (!Ab f || decide (F1 f / 2 ^ (min n 32) ≠ 0)) = false) : Ab f = true ∧ Mv f n = true := by
 rw [B8q hn]
 simpa using h
theorem Zy {f : List Cl} {n : Nat} (hn : n ≤ 24) (h : (!Ab f || decide (F1 f / 2 ^ (min n 32) ≠ 0)) = true) : Ab f = false ∨ Mv f n = false := by
 rw [B8q hn]
 simpa using h
def sE : T := My 19 [] []
theorem C3n : Ae (aE (vE 0) (vE 1)) ([uE, sE], []) = (0, aE uE sE) := by decide +kernel
theorem C3m : Ae (lE (aE (vE 0) (vE 1))) ([vE 3], []) = (0, lE (aE (vE 0) (vE 4))) := by decide +kernel
theorem Rh : size (aE (vE 0) (vE 1)) ≤ 100 ∧ size (lE (aE (vE 0) (vE 1))) ≤ 100 ∧ (∀ t, t ∈ [uE, sE] → size t ≤ 100) ∧ ∀ t, t ∈ [vE 3] → size t ≤ 100 := by decide +kernel
end Go.Hy
