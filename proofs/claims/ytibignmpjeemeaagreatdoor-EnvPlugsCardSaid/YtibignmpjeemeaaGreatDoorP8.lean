/- Contracts of this program's functions and the laws that they need. -/
import Derived.Test.YtibignmpjeemeaaGreatDoorP7
set_option linter.unusedVariables false
set_option linter.unusedSimpArgs false
set_option linter.unusedSectionVars false
namespace Go.Hy
abbrev Wd : Type := Nat → Prop
def Gf (c : Cl) (P N : Wd) : Prop := (∀ i, c.pos.testBit i = true → P i) ∧ ∀ i, c.neg.testBit i = true → N i
def sat (l : List Cl) (P N : Wd) : Prop := ∃ c, c ∈ l ∧ Gf c P N
def Hq (s : Nat) : Wd := fun i => s.testBit i = true
def Oy (P N : Wd) : Prop := ∀ i, ¬ (P i ∧ N i)
theorem D0t {a b : Nat} : a ||| b = a ↔ ∀ i, b.testBit i = true → a.testBit i = true := by
 constructor
 ·intro h i hi
  rw [← h, Nat.testBit_or, hi, Bool.or_true]
 ·intro h
  refine Nat.eq_of_testBit_eq fun i => ?_
  rw [Nat.testBit_or]
  cases hb : b.testBit i with
  | false => simp
  | true => rw [h i hb]; rfl
theorem K1 {a b : Cl} : below a b = true ↔ Gf b (Hq a.pos) (Hq a.neg) := by
 unfold below Gf Hq
 rw [Bool.and_eq_true, decide_eq_true_eq, decide_eq_true_eq, D0t, D0t]
theorem Y1 (c : Cl) : Gf c (Hq c.pos) (Hq c.neg) := ⟨fun i h => h, fun i h => h⟩
theorem W0 {a b : Cl} {P N : Wd} (h : below a b = true) (hs : Gf a P N) : Gf b P N := by
 have h1 := K1.mp h
 exact ⟨fun i hi => hs.1 i (h1.1 i hi), fun i hi => hs.2 i (h1.2 i hi)⟩
theorem C1a (c : Cl) : below c c = true := K1.mpr (Y1 c)
theorem Zt {a b c : Cl} (h : below a b = true) (h2 : below b c = true) : below a c = true := K1.mpr (W0 h2 (K1.mp h))
theorem C1c {a b : Cl} (h : below a b = true) (h2 : below b a = true) : a = b := by
 have h1 := K1.mp h
 have h3 := K1.mp h2
 unfold Gf Hq at h1 h3
 have e1 : a.pos = b.pos := Nat.eq_of_testBit_eq fun i => by
  cases ha : a.pos.testBit i with
  | true => exact (h3.1 i ha).symm
  | false => cases hb : b.pos.testBit i with
   | false => rfl
   | true => rw [h1.1 i hb] at ha; cases ha
 have e2 : a.neg = b.neg := Nat.eq_of_testBit_eq fun i => by
  cases ha : a.neg.testBit i with
  | true => exact (h3.2 i ha).symm
  | false => cases hb : b.neg.testBit i with
   | false => rfl
   | true => rw [h1.2 i hb] at ha; cases ha
 cases a; cases b; simp_all
theorem A5g {l : List Cl} {c : Cl} (h : Cs l c = true) : ∃ d, d ∈ l ∧ c ≠ d ∧ below c d = true := by
 unfold Cs at h
 obtain ⟨d, hd, h2⟩ := List.any_eq_true.mp h
 rw [Bool.and_eq_true] at h2
 exact ⟨d, hd, by simpa using h2.1, h2.2⟩
theorem Zk {l : List Cl} : ∀ (n : Nat) (c : Cl), c.pos + c.neg ≤ n → c ∈ l → ∃ d, d ∈ E5 l ∧ below c d = true
 | n, c, hn, hc => by
  cases h : Cs l c with
  | false => exact ⟨c, Dy.mpr ⟨hc, h⟩, C1a c⟩
  | true =>
   obtain ⟨d, hd, hne, hb⟩ := A5g h
   have h1 : c.pos ||| d.pos = c.pos ∧ c.neg ||| d.neg = c.neg := by
    unfold below at hb
    rw [Bool.and_eq_true, decide_eq_true_eq, decide_eq_true_eq] at hb
    exact hb
   have h2 : d.pos ≤ c.pos := by have := Nat.right_le_or (n := c.pos) (m := d.pos); omega
   have h3 : d.neg ≤ c.neg := by have := Nat.right_le_or (n := c.neg) (m := d.neg); omega
   have h4 : d.pos + d.neg < c.pos + c.neg := by
    refine Nat.lt_of_le_of_ne A4 fun he => hne ?_
    have e1 : c.pos = d.pos := by omega
    have e2 : c.neg = d.neg := by omega
    cases c; cases d; simp_all
   obtain ⟨e, he, h5⟩ := Zk (d.pos + d.neg) d (Nat.le_refl _) hd
   exact ⟨e, he, Zt hb h5⟩
termination_by n c => c.pos + c.neg
theorem A9w {l : List Cl} {P N : Wd} : sat (E5 l) P N ↔ sat l P N := by
 constructor
 ·rintro ⟨c, hc, h⟩; exact ⟨c, (Dy.mp hc).1, h⟩
 ·rintro ⟨c, hc, h⟩
  obtain ⟨d, hd, hb⟩ := Zk _ c (Nat.le_refl _) hc
  exact ⟨d, hd, W0 hb h⟩
theorem Et {l : List Cl} {P N : Wd} (h : (Bb l).1 = 0) : sat (Bb l).2 P N ↔ sat l P N := by
 rcases Hj l with ⟨_, _, h2, _⟩ | h2 | h2
 ·rw [h2]; exact A9w
 ·rw [h2] at h; cases h
 ·rw [h2] at h; cases h
theorem B0c {l m : List Cl} (Q : Wd → Wd → Prop) (hl : ∀ c, c ∈ l → Q (Hq c.pos) (Hq c.neg)) (hm : ∀ c, c ∈ m → Q (Hq c.pos) (Hq c.neg)) (h : ∀ P N, Q P N → (sat l P N ↔ sat m P N)) : E5 l = E5 m := by
 have half : ∀ {l m : List Cl}, (∀ c, c ∈ l → Q (Hq c.pos) (Hq c.neg)) → (∀ c, c ∈ m → Q (Hq c.pos) (Hq c.neg)) → (∀ P N, Q P N → (sat l P N ↔ sat m P N)) → ∀ x, x ∈ E5 l → x ∈ E5 m := by
  intro l m hl hm h x hx
  obtain ⟨h1, h2⟩ := Dy.mp hx
  have key : ∀ d, d ∈ m → below x d = true → x = d := by
   intro d hd hb
   obtain ⟨e, he, hse⟩ := (h _ _ (hm d hd)).mpr ⟨d, hd, Y1 d⟩
   have hb2 : below d e = true := K1.mpr hse
   rcases Im.mp h2 e he with h3 | h3
   ·subst h3; exact C1c hb hb2
   ·rw [Zt hb hb2] at h3; cases h3
  obtain ⟨d, hd, hsd⟩ := (h _ _ (hl x h1)).mp ⟨x, h1, Y1 x⟩
  have hxd := key d hd (K1.mpr hsd)
  refine Dy.mpr ⟨hxd ▸ hd, Im.mpr fun e he => ?_⟩
  cases hb : below x e with
  | false => exact .inr rfl
  | true => exact .inl (key e he hb)
 exact Qd (Je l) (Je m) fun x => ⟨half hl hm h x, half hm hl (fun P N hq => (h P N hq).symm) x⟩
theorem B9w {l m : List Cl} (Q : Wd → Wd → Prop) (r1 : l.all Ar = true) (r2 : m.all Ar = true) (hl : ∀ c, c ∈ l → Q (Hq c.pos) (Hq c.neg)) (hm : ∀ c, c ∈ m → Q (Hq c.pos) (Hq c.neg)) (h : ∀ P N, Q P N → (sat l P N ↔ sat m P N)) : Bb l = Bb m := by
 unfold Bb
 rw [r1, r2, B0c Q hl hm h]
theorem Dn {l : List Cl} (h : A6 l = true) : l.all Ar = true := by
 unfold A6 at h
 simp only [Bool.and_eq_true] at h
 exact h.1.1.1
theorem D3m {l m : List Cl} (Q : Wd → Wd → Prop) (h1 : A6 l = true) (h2 : A6 m = true) (hl : ∀ c, c ∈ l → Q (Hq c.pos) (Hq c.neg)) (hm : ∀ c, c ∈ m → Q (Hq c.pos) (Hq c.neg)) (h : ∀ P N, Q P N → (sat l P N ↔ sat m P N)) : l = m := by
 have h3 := B9w Q (Dn h1) (Dn h2) hl hm h
 rw [Lt.mp h1, Lt.mp h2] at h3
 injection h3
theorem B6g {l m : List Cl} (h1 : A6 l = true) (h2 : A6 m = true) (h : ∀ P N, sat l P N ↔ sat m P N) : l = m := D3m (fun _ _ => True) h1 h2 (fun _ _ => trivial) (fun _ _ => trivial) fun P N _ => h P N
theorem Lo {c : Cl} : I0 c = false ↔ Oy (Hq c.pos) (Hq c.neg) := by
 unfold I0 Oy Hq
 rw [decide_eq_false_iff_not, Decidable.not_not]
 constructor
 ·rintro h i ⟨h1, h2⟩
  have h3 : (c.pos &&& c.neg).testBit i = true := by rw [Nat.testBit_and, h1, h2]; rfl
  rw [h, Nat.zero_testBit] at h3
  cases h3
 ·intro h
  refine Nat.eq_of_testBit_eq fun i => ?_
  rw [Nat.testBit_and, Nat.zero_testBit]
  cases h1 : c.pos.testBit i with
  | false => rfl
  | true => cases h2 : c.neg.testBit i with
   | false => rfl
   | true => exact absurd ⟨h1, h2⟩ (h i)
theorem Cy {l : List Cl} (h : A5 l = true) : A6 l = true ∧ ∀ c, c ∈ l → I0 c = false := by
 unfold A5 at h
 rw [Bool.and_eq_true, Bool.not_eq_true'] at h
 refine ⟨h.1, fun c hc => ?_⟩
 cases hq : I0 c with
 | false => rfl
 | true => rw [List.any_eq_true.mpr ⟨c, hc, hq⟩] at h; cases h.2
theorem Tt {l : List Cl} (h : A6 l = true) (h2 : ∀ c, c ∈ l → I0 c = false) : A5 l = true := by
 unfold A5
 rw [Bool.and_eq_true, Bool.not_eq_true', h]
 refine ⟨rfl, ?_⟩
 cases hq : l.any I0 with
 | false => rfl
 | true => obtain ⟨c, hc, h3⟩ := List.any_eq_true.mp hq; rw [h2 c hc] at h3; cases h3
theorem B6m {l m : List Cl} (h1 : A5 l = true) (h2 : A5 m = true) (h : ∀ P N, Oy P N → (sat l P N ↔ sat m P N)) : l = m :=
 D3m Oy (Cy h1).1 (Cy h2).1 (fun c hc => Lo.mp ((Cy h1).2 c hc)) (fun c hc => Lo.mp ((Cy h2).2 c hc)) h
section
variable {f g l : List Cl} {P N : Wd} {a b c : Cl}
theorem T7 : ¬ sat [] P N := by rintro ⟨c, hc, _⟩; cases hc
theorem L8 : sat (f ++ g) P N ↔ sat f P N ∨ sat g P N := by
 unfold sat
 simp only [List.mem_append]
 constructor
 ·rintro ⟨c, h | h, h2⟩
  ·exact .inl ⟨c, h, h2⟩
  ·exact .inr ⟨c, h, h2⟩
 ·rintro (⟨c, h, h2⟩ | ⟨c, h, h2⟩)
  ·exact ⟨c, .inl h, h2⟩
  ·exact ⟨c, .inr h, h2⟩
theorem Jh : sat [c] P N ↔ Gf c P N := by
 unfold sat
 constructor
 ·rintro ⟨d, hd, h⟩; rw [List.mem_singleton] at hd; subst hd; exact h
 ·intro h; exact ⟨c, List.mem_singleton.mpr rfl, h⟩
theorem C9m : Gf Bo P N := ⟨fun i hi => by simp [Bo] at hi, fun i hi => by simp [Bo] at hi⟩
theorem C1w : sat [Bo] P N := Jh.mpr C9m
theorem A6q : Gf (E0 a b) P N ↔ Gf a P N ∧ Gf b P N := by
 unfold Gf E0
 simp only [Nat.testBit_or, Bool.or_eq_true]
 constructor
 ·rintro ⟨h1, h2⟩; exact ⟨⟨fun i hi => h1 i (.inl hi), fun i hi => h2 i (.inl hi)⟩, fun i hi => h1 i (.inr hi), fun i hi => h2 i (.inr hi)⟩
 ·rintro ⟨h1, h2⟩; exact ⟨fun i hi => hi.elim (h1.1 i) (h2.1 i), fun i hi => hi.elim (h1.2 i) (h2.2 i)⟩
theorem N4 : sat (Jx f g) P N ↔ sat f P N ∧ sat g P N := by
 unfold sat Jx
 simp only [List.mem_flatMap, List.mem_map]
 constructor
 ·rintro ⟨c, ⟨a, ha, b, hb, rfl⟩, h⟩
  have h2 := A6q.mp h
  exact ⟨⟨a, ha, h2.1⟩, b, hb, h2.2⟩
 ·rintro ⟨⟨a, ha, h1⟩, b, hb, h2⟩
  exact ⟨_, ⟨a, ha, b, hb, rfl⟩, A6q.mpr ⟨h1, h2⟩⟩
theorem W5 (hw : Oy P N) : sat (Ef l) P N ↔ sat l P N := by
 unfold sat Ef
 constructor
 ·rintro ⟨c, hc, h⟩; exact ⟨c, (List.mem_filter.mp hc).1, h⟩
 ·rintro ⟨c, hc, h⟩
  refine ⟨c, List.mem_filter.mpr ⟨hc, ?_⟩, h⟩
  rw [Bool.not_eq_true', Lo]
  rintro i ⟨h1, h2⟩
  exact hw i ⟨h.1 i h1, h.2 i h2⟩
end
theorem Ku {i : Int} {j : Nat} : (El i).testBit j = true ↔ (0 ≤ i ∧ i < 24) ∧ (j : Int) = i := by
 unfold El
 split
 ·rename_i h
  rw [Nat.testBit_two_pow, decide_eq_true_eq]
  omega
 ·rename_i h
  rw [Nat.zero_testBit]
  constructor
  ·intro h2; cases h2
  ·rintro ⟨h2, _⟩; exact absurd h2 h
theorem K7 {s : Nat} {i : Int} {j : Nat} : (Eb s i).testBit j = true ↔ j < 24 ∧ s.testBit j = true ∧ (j : Int) ≠ i := by
 unfold Eb
 split
 ·rename_i h
  rw [Fk, E6, Nat.testBit_two_pow]
  simp only [Bool.and_eq_true, decide_eq_true_eq, Bool.not_eq_true', decide_eq_false_iff_not]
  constructor
  ·rintro ⟨⟨_, h2, h3⟩, h4⟩; exact ⟨h2, h3, by omega⟩
  ·rintro ⟨h1, h2, h3⟩; exact ⟨⟨by omega, h1, h2⟩, by omega⟩
 ·rename_i h
  rw [E6]
  simp only [Bool.and_eq_true, decide_eq_true_eq]
  constructor
  ·rintro ⟨h1, h2⟩; exact ⟨h1, h2, by omega⟩
  ·rintro ⟨h1, h2, _⟩; exact ⟨h1, h2⟩
theorem Dx {c : Cl} (h : Ar c = true) : (∀ i, c.pos.testBit i = true → i < 24) ∧ ∀ i, c.neg.testBit i = true → i < 24 := by
 obtain ⟨h1, h2⟩ := Gg.mp h
 have key : ∀ s i : Nat, s < 16777216 → s.testBit i = true → i < 24 := fun s i hs hi => by
  refine Decidable.byContradiction fun hn => ?_
  have h3 : s < 2 ^ i := Nat.lt_of_lt_of_le (show s < 2 ^ 24 by omega) (Nat.pow_le_pow_right A4 A4)
  rw [Nat.testBit_lt_two_pow h3] at hi
  cases hi
 exact ⟨fun i hi => key _ i h1 hi, fun i hi => key _ i h2 hi⟩
theorem C5c {c : Cl} {i : Int} {P N : Wd} (hc : Ar c = true) : Gf (Cn c i) P N ↔ (∀ j : Nat, c.pos.testBit j = true → (j : Int) ≠ i → P j) ∧ ∀ j : Nat, c.neg.testBit j = true → (j : Int) ≠ i → N j := by
 obtain ⟨h1, h2⟩ := Dx hc
 unfold Gf Cn
 simp only [K7]
 exact ⟨fun h => ⟨fun j hj hn => h.1 j ⟨h1 j hj, hj, hn⟩, fun j hj hn => h.2 j ⟨h2 j hj, hj, hn⟩⟩, fun h => ⟨fun j hj => h.1 j hj.2.1 hj.2.2, fun j hj => h.2 j hj.2.1 hj.2.2⟩⟩
theorem D9 {s : Nat} {x : Int} : x ∈ Ay s ↔ 0 ≤ x ∧ x < 24 ∧ s.testBit x.toNat = true := Fe
theorem D5j {c : Cl} {P N : Wd} (hc : Ar c = true) : sat (V3 c) P N ↔ (∃ i, c.pos.testBit i = true ∧ N i) ∨ ∃ i, c.neg.testBit i = true ∧ P i := by
 obtain ⟨b1, b2⟩ := Dx hc
 unfold V3
 rw [L8]
 have one : ∀ (s : Nat) (hs : ∀ i, s.testBit i = true → i < 24) (mk : Nat → Cl) (Q : Wd) (hq : ∀ x : Int, 0 ≤ x → x < 24 → (Gf (mk (El x)) P N ↔ Q x.toNat)), sat ((Ay s).map fun i => mk (El i)) P N ↔ ∃ i, s.testBit i = true ∧ Q i := by
  intro s hs mk Q hq
  unfold sat
  simp only [List.mem_map]
  constructor
  ·rintro ⟨_, ⟨x, hx, rfl⟩, h⟩
   obtain ⟨x0, x1, x2⟩ := D9.mp hx
   exact ⟨x.toNat, x2, (hq x x0 x1).mp h⟩
  ·rintro ⟨i, hi, h⟩
   have h3 := hs i hi
   exact ⟨_, ⟨(i : Int), D9.mpr ⟨by omega, by omega, by simpa using hi⟩, rfl⟩, (hq (i : Int) A4 A4).mpr (by simpa using h)⟩
 have e1 := one c.pos b1 (fun s => ⟨0, s⟩) N (fun x x0 x1 => by
  unfold Gf
  simp only [Nat.zero_testBit, Ku]
  constructor
  ·intro h; exact h.2 x.toNat ⟨⟨x0, x1⟩, by omega⟩
  ·intro h; exact ⟨fun i hi => (by cases hi), fun i hi => (show i = x.toNat by omega) ▸ h⟩)
 have e2 := one c.neg b2 (fun s => ⟨s, 0⟩) P (fun x x0 x1 => by
  unfold Gf
  simp only [Nat.zero_testBit, Ku]
  constructor
  ·intro h; exact h.1 x.toNat ⟨⟨x0, x1⟩, by omega⟩
  ·intro h; exact ⟨fun i hi => (show i = x.toNat by omega) ▸ h, fun i hi => (by cases hi)⟩)
 exact or_congr e1 e2
theorem Lk {g : List Cl → Cl → EL} {L : List Cl} {I : List Cl → List Cl → Prop} (hs : ∀ pre c h, c ∈ L → I pre h → (g h c).1 = 0 → I (pre ++ [c]) (g h c).2) : ∀ (m pre h : List Cl), I pre h → (∀ c, c ∈ m → c ∈ L) → (C0 g h m).1 = 0 → I (pre ++ m) (C0 g h m).2
 | [], pre, h, hi, _, _ => by rw [List.append_nil]; exact hi
 | c :: m, pre, h, hi, hm, h0 => by
  rw [C0] at h0 ⊢
  by_cases h1 : (g h c).1 = 0
  ·rw [Bc h1] at h0 ⊢
   have h2 := Lk hs m (pre ++ [c]) _ (hs pre c h (hm c List.mem_cons_self) hi h1) (fun d hd => hm d (List.mem_cons_of_mem _ hd)) h0
   rwa [List.append_assoc] at h2
  ·rw [Bi h1] at h0
   exact absurd h0 h1
theorem C4 {x : EL} {k : List Cl → EL} (h : (E2 x k).1 = 0) : x.1 = 0 ∧ (k x.2).1 = 0 ∧ E2 x k = k x.2 := by
 by_cases h1 : x.1 = 0
 ·rw [Bc h1] at h ⊢; exact ⟨h1, h, rfl⟩
 ·rw [Bi h1] at h; exact absurd h h1
def Rr (P : Wd) : Wd := fun i => ¬ P i
theorem A9x {f : List Cl} {P N : Wd} (hf : ∀ c, c ∈ f → Ar c = true) (h : (Mx f).1 = 0) : sat (Mx f).2 P N ↔ ¬ sat f (Rr N) (Rr P) := by
 have h2 := Lk (g := Dq) (L := f) (I := fun pre h => ∀ P N, sat h P N ↔ ∀ c, c ∈ pre → ¬ Gf c (Rr N) (Rr P)) (fun pre c h hc hi h0 P N => by
  unfold Dq at h0 ⊢
  obtain ⟨a1, a2, a3⟩ := C4 h0
  rw [a3]
  unfold H6 at a2 ⊢
  rw [Et a2, N4, hi]
  unfold B0i at a1 ⊢
  rw [Et a1, D5j (hf c hc)]
  simp only [List.mem_append, List.mem_singleton, or_imp, forall_and, forall_eq]
  refine and_congr Iff.rfl ?_
  unfold Gf Rr
  constructor
  ·rintro (⟨i, hi, hn⟩ | ⟨i, hi, hn⟩) ⟨h1, h2⟩
   ·exact h1 i hi hn
   ·exact h2 i hi hn
  ·intro h1
   refine Classical.byContradiction fun h2 => h1 ⟨fun i hi hn => h2 (.inl ⟨i, hi, hn⟩), fun i hi hn => h2 (.inr ⟨i, hi, hn⟩)⟩) f [] [Bo] (fun P N => ⟨fun _ c hc => (by cases hc), fun _ => C1w⟩) (fun c hc => hc) h P N
 rw [List.nil_append] at h2
 unfold Mx
 rw [h2]
 unfold sat
 constructor
 ·rintro h3 ⟨c, hc, h4⟩; exact h3 c hc h4
 ·intro h3 c hc h4; exact h3 ⟨c, hc, h4⟩
def ovr (P : Wd) (i : Int) (A : Prop) : Wd := fun j => if (j : Int) = i then A else P j
theorem W6 {c : Cl} {i : Int} {P N : Wd} {A A' : Prop} (hc : Ar c = true) : Gf c (ovr P i A) (ovr N i A') ↔ Gf (Cn c i) P N ∧ (Fv c.pos i = true → A) ∧ (Fv c.neg i = true → A') := by
 obtain ⟨b1, b2⟩ := Dx hc
 rw [C5c hc]
 unfold Gf ovr Fv
 simp only [Bool.and_eq_true, decide_eq_true_eq]
 constructor
 ·rintro ⟨h1, h2⟩
  refine ⟨⟨fun j hj hn => ?_, fun j hj hn => ?_⟩, ?_, ?_⟩
  ·have := h1 j hj; rwa [if_neg hn] at this
  ·have := h2 j hj; rwa [if_neg hn] at this
  ·rintro ⟨⟨h3, h4⟩, h5⟩; have := h1 _ h5; rwa [if_pos A4] at this
  ·rintro ⟨⟨h3, h4⟩, h5⟩; have := h2 _ h5; rwa [if_pos A4] at this
 ·rintro ⟨⟨h1, h2⟩, h3, h4⟩
  refine ⟨fun j hj => ?_, fun j hj => ?_⟩
  ·split
   ·rename_i h; have := b1 j hj; exact h3 ⟨⟨by omega, by omega⟩, by rw [← h]; simpa using hj⟩
   ·rename_i h; exact h1 j hj h
  ·split
   ·rename_i h; have := b2 j hj; exact h4 ⟨⟨by omega, by omega⟩, by rw [← h]; simpa using hj⟩
   ·rename_i h; exact h2 j hj h
theorem B3l {f r : List Cl} {i : Int} {P N : Wd} (h : (Bn f i r).1 = 0) : A6 f = true ∧ A6 r = true ∧ (0 ≤ i ∧ i < 24) ∧ (sat (Bn f i r).2 P N ↔ sat f (ovr P i (sat r P N)) (ovr N i (¬ sat r (Rr N) (Rr P)))) := by
 unfold Bn at h ⊢
 split at h
 ·cases h
 ·rename_i h1
  split at h
  ·cases h
  ·rename_i h2
   rw [if_neg h1, if_neg h2]
   simp only [Bool.not_eq_false, Bool.and_eq_true] at h1
   have h3 : 0 ≤ i ∧ i < 24 := by unfold Fu at h2; simpa using h2
   refine ⟨h1.1, h1.2, h3, ?_⟩
   have hr := Dn h1.2
   have hf := Dn h1.1
   have h4 := Lk (g := Cp i r) (L := f) (I := fun pre h => ∀ P N, sat h P N ↔ ∃ c, c ∈ pre ∧ Gf c (ovr P i (sat r P N)) (ovr N i (¬ sat r (Rr N) (Rr P)))) (fun pre c h hc hi h0 P N => by
    unfold Cp at h0 ⊢
    obtain ⟨a1, a2, a3⟩ := C4 h0
    rw [a3]
    obtain ⟨b1, b2, b3⟩ := C4 a2
    rw [b3]
    unfold E7 at b2 ⊢
    rw [Et b2, L8, hi]
    have hc24 := List.all_eq_true.mp hf c hc
    have e1 : ∀ P N, sat (Hv i r c).2 P N ↔ Gf (Cn c i) P N ∧ (Fv c.pos i = true → sat r P N) := by
     intro P N
     unfold Hv at a1 ⊢
     split
     ·rename_i h5
      rw [if_pos h5] at a1
      unfold H6 at a1 ⊢
      rw [Et a1, N4, Jh]
      exact ⟨fun h => ⟨h.1, fun _ => h.2⟩, fun h => ⟨h.1, h.2 h5⟩⟩
     ·rename_i h5
      rw [Jh]
      exact ⟨fun h => ⟨h, fun h6 => absurd h6 h5⟩, fun h => h.1⟩
    have e2 : sat (Kh i r c (Hv i r c).2).2 P N ↔ sat (Hv i r c).2 P N ∧ (Fv c.neg i = true → ¬ sat r (Rr N) (Rr P)) := by
     unfold Kh at b1 ⊢
     split
     ·rename_i h5
      rw [if_pos h5] at b1
      obtain ⟨d1, d2, d3⟩ := C4 b1
      rw [d3]
      unfold H6 at d2 ⊢
      rw [Et d2, N4, A9x (fun c hc => List.all_eq_true.mp hr c hc) d1]
      exact ⟨fun h => ⟨h.1, fun _ => h.2⟩, fun h => ⟨h.1, h.2 h5⟩⟩
     ·rename_i h5
      exact ⟨fun h => ⟨h, fun h6 => absurd h6 h5⟩, fun h => h.1⟩
    rw [e2, e1]
    simp only [List.mem_append, List.mem_singleton]
    constructor
    ·rintro (⟨d, hd, hs⟩ | hs)
     ·exact ⟨d, .inl hd, hs⟩
     ·exact ⟨c, .inr rfl, (W6 hc24).mpr ⟨hs.1.1, hs.1.2, hs.2⟩⟩
    ·rintro ⟨d, hd | hd, hs⟩
     ·exact .inl ⟨d, hd, hs⟩
     ·subst hd
      obtain ⟨q1, q2, q3⟩ := (W6 hc24).mp hs
      exact .inr ⟨⟨q1, q2⟩, q3⟩) f [] [] (fun P N => ⟨fun h => absurd h T7, fun ⟨c, hc, _⟩ => (by cases hc)⟩) (fun c hc => hc) h P N
   rw [List.nil_append] at h4
   exact h4
theorem B8k {r : List Cl} {P N : Wd} (hw : Oy P N) (h : (Tc r).1 = 0) : sat (Tc r).2 P N ↔ sat r P N := by
 unfold Tc at h ⊢
 split at h
 ·rename_i h1
  rw [if_pos h1, Et h, W5 hw]
 ·cases h
theorem A1e {r : List Cl} {P N : Wd} (hw : Oy P N) (h : (F4 r).1 = 0) : sat (F4 r).2 P N ↔ ¬ sat r (Rr N) (Rr P) := by
 unfold F4 at h ⊢
 obtain ⟨a1, a2, a3⟩ := C4 h
 rw [a3, B8k hw a2]
 unfold Mw at a1 ⊢
 split at a1
 ·rename_i h1
  rw [if_pos h1, A9x (fun c hc => List.all_eq_true.mp (Dn h1) c hc) a1]
 ·cases a1
theorem Yd {c : Cl} {x : List Cl} : Hz [c] x = Bb (Ef (x.map fun b => E0 c b)) := by
 unfold Hz
 simp
theorem W4 {c : Cl} {x : List Cl} {P N : Wd} : sat (x.map fun b => E0 c b) P N ↔ Gf c P N ∧ sat x P N := by
 have h := N4 (f := [c]) (g := x) (P := P) (N := N)
 rw [Jh] at h
 rw [← h]
 unfold Jx
 simp
theorem C0r {c : Cl} {i : Int} (h : I0 c = false) : I0 (Cn c i) = false := by
 rw [Lo] at h ⊢
 rintro j ⟨h1, h2⟩
 exact h j ⟨(K7.mp h1).2.1, (K7.mp h2).2.1⟩
theorem has_both {c : Cl} {i : Int} (h : I0 c = false) (h1 : Fv c.pos i = true) : Fv c.neg i = false := by
 cases h2 : Fv c.neg i with
 | false => rfl
 | true =>
  unfold Fv at h1 h2
  simp only [Bool.and_eq_true] at h1 h2
  exact absurd ⟨h1.2, h2.2⟩ (Lo.mp h _)
theorem C9k {c : Cl} {r : List Cl} {i : Int} {P N : Wd} (hw : Oy P N) (hcl : I0 c = false) (h : (Dm i r c).1 = 0) : sat (Dm i r c).2 P N ↔ Gf (Cn c i) P N ∧ (Fv c.pos i = true → sat r P N) ∧ (Fv c.neg i = true → ¬ sat r (Rr N) (Rr P)) := by
 unfold Dm at h ⊢
 split at h
 ·rename_i h1
  rw [if_pos h1]
  obtain ⟨a1, a2, a3⟩ := C4 h
  rw [a3]
  rw [Yd] at a2 ⊢
  rw [Et a2, W5 hw, W4, B8k hw a1]
  have h2 := has_both hcl h1
  exact ⟨fun h => ⟨h.1, fun _ => h.2, fun h3 => by rw [h2] at h3; cases h3⟩, fun h => ⟨h.1, h.2.1 h1⟩⟩
 ·rename_i h1
  rw [if_neg h1]
  split at h
  ·rename_i h2
   rw [if_pos h2]
   obtain ⟨a1, a2, a3⟩ := C4 h
   rw [a3]
   rw [Yd] at a2 ⊢
   rw [Et a2, W5 hw, W4, A1e hw a1]
   exact ⟨fun h => ⟨h.1, fun h3 => absurd h3 h1, fun _ => h.2⟩, fun h => ⟨h.1, h.2.2 h2⟩⟩
  ·rename_i h2
   rw [if_neg h2, Jh]
   exact ⟨fun h => ⟨h, fun h3 => absurd h3 h1, fun h3 => absurd h3 h2⟩, fun h => h.1⟩
theorem C5q {c : Cl} {r : List Cl} {i : Int} (hcl : I0 c = false) (h : (Dm i r c).1 = 0) : ∀ d, d ∈ (Dm i r c).2 → I0 d = false := by
 have key : ∀ x : List Cl, (Hz [Cn c i] x).1 = 0 → ∀ d, d ∈ (Hz [Cn c i] x).2 → I0 d = false := by
  intro x hx d hd
  rw [Yd] at hx hd
  have h2 := I9 hx hd
  unfold Ef at h2
  simpa using (List.mem_filter.mp h2).2
 unfold Dm at h ⊢
 split at h
 ·rename_i h1
  rw [if_pos h1]
  obtain ⟨a1, a2, a3⟩ := C4 h
  rw [a3]
  exact key _ a2
 ·rename_i h1
  rw [if_neg h1]
  split at h
  ·rename_i h2
   rw [if_pos h2]
   obtain ⟨a1, a2, a3⟩ := C4 h
   rw [a3]
   exact key _ a2
  ·rename_i h2
   rw [if_neg h2]
   intro d hd
   rw [List.mem_singleton] at hd
   subst hd
   exact C0r hcl
theorem Z5 {f r : List Cl} {i : Int} (h : (B6 f i r).1 = 0) : A5 f = true ∧ A6 r = true ∧ (0 ≤ i ∧ i < 24) ∧ A5 (B6 f i r).2 = true ∧ ∀ P N, Oy P N → (sat (B6 f i r).2 P N ↔ sat f (ovr P i (sat r P N)) (ovr N i (¬ sat r (Rr N) (Rr P)))) := by
 unfold B6 at h ⊢
 split at h
 ·cases h
 ·rename_i h1
  rw [if_neg h1]
  simp only [Bool.not_eq_false, Bool.and_eq_true] at h1
  obtain ⟨⟨hf, hi⟩, hr⟩ := h1
  have h3 : 0 ≤ i ∧ i < 24 := by unfold Fu at hi; simpa using hi
  obtain ⟨hff, hfc⟩ := Cy hf
  have hf24 := Dn hff
  refine ⟨hf, hr, h3, ?_⟩
  have h4 := Lk (g := Cx i r) (L := f) (I := fun pre h => A5 h = true ∧ ∀ P N, Oy P N → (sat h P N ↔ ∃ c, c ∈ pre ∧ Gf c (ovr P i (sat r P N)) (ovr N i (¬ sat r (Rr N) (Rr P))))) (fun pre c h hc hi h0 => by
   unfold Cx at h0 ⊢
   obtain ⟨a1, a2, a3⟩ := C4 h0
   rw [a3]
   unfold E7 at a2 ⊢
   have hcl := hfc c hc
   refine ⟨Tt (Gx a2) fun d hd => ?_, fun P N hw => ?_⟩
   ·rcases List.mem_append.mp (I9 a2 hd) with hd | hd
    ·exact (Cy hi.1).2 d hd
    ·exact C5q hcl a1 d hd
   ·rw [Et a2, L8, hi.2 P N hw, C9k hw hcl a1]
    have hc24 := List.all_eq_true.mp hf24 c hc
    simp only [List.mem_append, List.mem_singleton]
    constructor
    ·rintro (⟨d, hd, hs⟩ | hs)
     ·exact ⟨d, .inl hd, hs⟩
     ·exact ⟨c, .inr rfl, (W6 hc24).mpr hs⟩
    ·rintro ⟨d, hd | hd, hs⟩
     ·exact .inl ⟨d, hd, hs⟩
     ·subst hd
      exact .inr ((W6 hc24).mp hs)) f [] [] ⟨by decide, fun P N _ => ⟨fun h => absurd h T7, fun ⟨c, hc, _⟩ => (by cases hc)⟩⟩ (fun c hc => hc) h
  rw [List.nil_append] at h4
  exact h4
theorem C0c {f r : List Cl} {i : Int} (h : (Bn f i r).1 = 0) : A6 (Bn f i r).2 = true := by
 unfold Bn at h ⊢
 split at h
 ·cases h
 ·rename_i h1
  split at h
  ·cases h
  ·rename_i h2
   rw [if_neg h1, if_neg h2]
   exact Lk (g := Cp i r) (L := f) (I := fun pre h => A6 h = true) (fun pre c h hc hi h0 => by
    unfold Cp at h0 ⊢
    obtain ⟨a1, a2, a3⟩ := C4 h0
    rw [a3]
    obtain ⟨b1, b2, b3⟩ := C4 a2
    rw [b3]
    exact Gx b2) f [] [] Iy (fun c hc => hc) h
def S4 (P : Wd) (f b : Int) : Wd := fun j => if (j : Int) < f then P j else P (j + b.toNat)
theorem A6r {c : Cl} {f b : Int} {P N : Wd} (h : (B1 c f b).1 = 0) : Gf (B1 c f b).2 P N ↔ Gf c (S4 P f b) (S4 N f b) := by
 obtain ⟨hr, h1, h2, h3⟩ := Hu h
 obtain ⟨b1, b2⟩ := Dx hr
 obtain ⟨f0, b0, _⟩ := Hh h1 0
 rw [h3]
 have key : ∀ (s : Nat) (hs : ∀ i, s.testBit i = true → i < 24) (hm : (Ae s f b).1 = 0) (Q : Wd), (∀ i, (Ae s f b).2.testBit i = true → Q i) ↔ ∀ i, s.testBit i = true → S4 Q f b i := by
  intro s hs hm Q
  constructor
  ·intro h i hi
   unfold S4
   split
   ·rename_i h4; exact h i ((Cz hm i).mpr ⟨i, hs i hi, hi, .inl ⟨h4, rfl⟩⟩)
   ·rename_i h4; exact h _ ((Cz hm _).mpr ⟨i, hs i hi, hi, .inr ⟨by omega, by omega⟩⟩)
  ·intro h i hi
   obtain ⟨j, _, hj, h4⟩ := (Cz hm i).mp hi
   have h5 := h j hj
   unfold S4 at h5
   rcases h4 with ⟨h4, h6⟩ | ⟨h4, h6⟩
   ·rw [if_pos h4] at h5; rw [h6]; exact h5
   ·rw [if_neg A4] at h5; rw [show i = j + b.toNat by omega]; exact h5
 unfold Gf
 exact and_congr (key _ b1 h1 P) (key _ b2 h2 N)
theorem S5 {l : List Cl} {f b : Int} {P N : Wd} (h : (A3 l f b).1 = 0) : sat (A3 l f b).2 P N ↔ sat l (S4 P f b) (S4 N f b) := by
 obtain ⟨_, h2, h3⟩ := Fx h
 rw [h3] at h ⊢
 rw [Et h]
 unfold sat
 simp only [List.mem_map]
 constructor
 ·rintro ⟨_, ⟨c, hc, rfl⟩, hs⟩; exact ⟨c, hc, (A6r (h2 c hc)).mp hs⟩
 ·rintro ⟨c, hc, hs⟩; exact ⟨_, ⟨c, hc, rfl⟩, (A6r (h2 c hc)).mpr hs⟩
theorem Pv {s : Nat} {i : Int} (h0 : 0 ≤ i) {k : Nat} : (Fa s i).testBit k = true ↔ ∃ j, j < 24 ∧ s.testBit j = true ∧ (((j : Int) < i ∧ k = j) ∨ (i < (j : Int) ∧ k + 1 = j)) := by
 unfold Fa
 split
 ·rename_i h
  rw [Nat.testBit_or, Nat.testBit_and, Kl, Nat.testBit_mul_two_pow, Nat.testBit_div_two_pow, E6, E6]
  simp only [Bool.or_eq_true, Bool.and_eq_true, decide_eq_true_eq]
  constructor
  ·rintro (⟨⟨h1, h2⟩, h3⟩ | ⟨h1, h2, h3⟩)
   ·exact ⟨k, h1, h2, .inl ⟨by omega, rfl⟩⟩
   ·exact ⟨_, h2, h3, .inr ⟨by omega, by omega⟩⟩
  ·rintro ⟨j, h1, h2, ⟨h3, h4⟩ | ⟨h3, h4⟩⟩
   ·subst h4; exact .inl ⟨⟨h1, h2⟩, by omega⟩
   ·refine .inr ⟨by omega, ?_⟩
    rw [show k - i.toNat + (i.toNat + 1) = j by omega]
    exact ⟨h1, h2⟩
 ·rename_i h
  rw [E6]
  simp only [Bool.and_eq_true, decide_eq_true_eq]
  constructor
  ·rintro ⟨h1, h2⟩; exact ⟨k, h1, h2, .inl ⟨by omega, rfl⟩⟩
  ·rintro ⟨j, h1, h2, ⟨h3, h4⟩ | ⟨h3, h4⟩⟩
   ·subst h4; exact ⟨h1, h2⟩
   ·omega
def drW (P : Wd) (i : Int) : Wd := fun j => if (j : Int) < i then P j else if (j : Int) = i then True else P (j - 1)
theorem A6s {c : Cl} {i : Int} {P N : Wd} (hc : Ar c = true) (h0 : 0 ≤ i) : Gf ⟨Fa c.pos i, Fa c.neg i⟩ P N ↔ Gf c (drW P i) (drW N i) := by
 obtain ⟨b1, b2⟩ := Dx hc
 have key : ∀ (s : Nat) (hs : ∀ i, s.testBit i = true → i < 24) (Q : Wd), (∀ k, (Fa s i).testBit k = true → Q k) ↔ ∀ j, s.testBit j = true → drW Q i j := by
  intro s hs Q
  constructor
  ·intro h j hj
   unfold drW
   split
   ·rename_i h1; exact h j ((Pv h0).mpr ⟨j, hs j hj, hj, .inl ⟨h1, rfl⟩⟩)
   ·split
    ·trivial
    ·rename_i h1 h2; exact h _ ((Pv h0).mpr ⟨j, hs j hj, hj, .inr ⟨by omega, by omega⟩⟩)
  ·intro h k hk
   obtain ⟨j, _, hj, h4⟩ := (Pv h0).mp hk
   have h5 := h j hj
   unfold drW at h5
   rcases h4 with ⟨h4, h6⟩ | ⟨h4, h6⟩
   ·rw [if_pos h4] at h5; rw [h6]; exact h5
   ·rw [if_neg A4, if_neg A4] at h5; rw [show k = j - 1 by omega]; exact h5
 unfold Gf
 exact and_congr (key _ b1 P) (key _ b2 N)
theorem C9l {f : List Cl} {i d : Int} {P N : Wd} (hf : ∀ c, c ∈ f → Ar c = true) (h0 : 0 ≤ i + d) (h : (Dh i d f).1 = 0) : sat (Dh i d f).2 P N ↔ sat f (drW P (i + d)) (drW N (i + d)) := by
 unfold Dh at h ⊢
 rw [Et h]
 unfold sat
 simp only [List.mem_map]
 constructor
 ·rintro ⟨_, ⟨c, hc, rfl⟩, hs⟩; exact ⟨c, hc, (A6s (hf c hc) h0).mp hs⟩
 ·rintro ⟨c, hc, hs⟩; exact ⟨_, ⟨c, hc, rfl⟩, (A6s (hf c hc) h0).mpr hs⟩
theorem D8p (l : List Cl) : (E5 l).length ≤ l.length := by
 have := B3r l l.length
 rwa [C9s] at this
theorem Sp {l : List Cl} (h : l.all Ar = true) (h2 : l.length ≤ 64) : (Bb l).1 = 0 := by
 unfold Bb
 rw [if_neg (by simp [h]), if_neg (by have := D8p l; omega)]
theorem A4w {c : Cl} {i : Int} {P N : Wd} {A A' : Prop} (h : ∀ j : Nat, (c.pos ||| c.neg).testBit j = true → (j : Int) ≠ i) : Gf c (ovr P i A) (ovr N i A') ↔ Gf c P N := by
 unfold Gf ovr
 constructor
 ·rintro ⟨h1, h2⟩
  refine ⟨fun j hj => ?_, fun j hj => ?_⟩
  ·have := h1 j hj; rwa [if_neg (h j (by rw [Nat.testBit_or, hj]; rfl))] at this
  ·have := h2 j hj; rwa [if_neg (h j (by rw [Nat.testBit_or, hj, Bool.or_true]))] at this
 ·rintro ⟨h1, h2⟩
  refine ⟨fun j hj => ?_, fun j hj => ?_⟩
  ·rw [if_neg (h j (by rw [Nat.testBit_or, hj]; rfl))]; exact h1 j hj
  ·rw [if_neg (h j (by rw [Nat.testBit_or, hj, Bool.or_true]))]; exact h2 j hj
theorem B6d {f : List Cl} {i : Int} (hf : f.all Ar = true) (h : Fv (G3 f) i = false) {c : Cl} (hc : c ∈ f) (j : Nat) (hj : (c.pos ||| c.neg).testBit j = true) : (j : Int) ≠ i := by
 intro e
 subst e
 obtain ⟨b1, b2⟩ := Dx (List.all_eq_true.mp hf c hc)
 have hlt : j < 24 := by
  rw [Nat.testBit_or, Bool.or_eq_true] at hj
  exact hj.elim (b1 j) (b2 j)
 unfold Fv at h
 rw [decide_eq_true (show (0 : Int) ≤ (j : Int) by omega), decide_eq_true (show (j : Int) < 24 by omega)] at h
 simp only [Bool.true_and, Int.toNat_natCast] at h
 rw [Ey.mpr ⟨hlt, c, hc, hj⟩] at h
 cases h
theorem B3k {f : List Cl} {i : Int} {P N : Wd} {A A' : Prop} (hf : f.all Ar = true) (h : Fv (G3 f) i = false) : sat f (ovr P i A) (ovr N i A') ↔ sat f P N := by
 unfold sat
 exact exists_congr fun c => and_congr_right fun hc => A4w (fun j hj => B6d hf h hc j hj)
theorem C5b {f : List Cl} {P N P' N' : Wd} (hf : ∀ c, c ∈ f → Ar c = true) (h1 : ∀ j, j < 24 → (P j ↔ P' j)) (h2 : ∀ j, j < 24 → (N j ↔ N' j)) : sat f P N ↔ sat f P' N' := by
 unfold sat Gf
 refine exists_congr fun c => and_congr_right fun hc => ?_
 obtain ⟨b1, b2⟩ := Dx (hf c hc)
 exact and_congr (forall_congr' fun i => ⟨fun h hi => (h1 i (b1 i hi)).mp (h hi), fun h hi => (h1 i (b1 i hi)).mpr (h hi)⟩) (forall_congr' fun i => ⟨fun h hi => (h2 i (b2 i hi)).mp (h hi), fun h hi => (h2 i (b2 i hi)).mpr (h hi)⟩)
def uE : T := .mk 3 0 ⟨#[]⟩ [] [] []
def aE (t u : T) : T := .mk 6 0 ⟨#[]⟩ [] [t, u] []
def lE (t : T) : T := .mk 5 0 ⟨#[]⟩ [] [t] []
def hcF : T := .mk 15 0 ⟨#[]⟩ [] [uE, uE] []
theorem C4v {x : Int × T} {k : T → Int × T} (hx : Rp x.2) (h : ∀ u, Rp u → Rp (k u).2) : Rp (A6j x k).2 := by
 by_cases h1 : x.1 = 0
 ·rw [A0w h1]; exact h _ hx
 ·rw [Xx h1]; exact V4
theorem B1t {t : T} {i : Int} {r : List Cl} (h : Rp t) : Rp (Bv t i r).2 := by
 unfold Bv
 split
 ·exact V4
 ·split
  ·exact V4
  ·exact C4v (Ys (C2l _ _) h) fun u hu => Ys (D0x i) hu
mutual
def D8 : T → Bool
 | .mk _ _ _ _ ks ss => G5 ks || P5 ss
def G5 : List T → Bool
 | [] => false
 | t :: ts => D8 t || G5 ts
def P5 : List Br → Bool
 | [] => false
 | .mk f ks :: bs => (decide (f = []) || G5 ks) || P5 bs
end
theorem Qp : ∀ {ts : List T}, G5 ts = true ↔ ∃ t, t ∈ ts ∧ D8 t = true
 | [] => by simp [G5]
 | t :: ts => by simp [G5, Qp (ts := ts)]
theorem Qq : ∀ {bs : List Br}, P5 bs = true ↔ ∃ b, b ∈ bs ∧ (b.Al = [] ∨ G5 b.kids = true)
 | [] => by simp [P5]
 | .mk f ks :: bs => by simp [P5, Qq (bs := bs), Br.Al, Br.kids]
theorem Qo {t : T} : D8 t = true ↔ G5 t.kids = true ∨ P5 t.sys = true := by
 obtain ⟨k, n, nm, r, ks, ss⟩ := t
 simp only [D8, T.kids, T.sys, Bool.or_eq_true]
theorem C5y {t : T} {i : Nat} (hi : i < t.kids.length) (h : D8 (t.kids.getD i t0) = true) : D8 t = true := Qo.mpr (.inl (Qp.mpr ⟨_, Ac hi, h⟩))
theorem B9m {t : T} {s : Nat} (hs : s < t.sys.length) (h : (t.sys.getD s Bj).Al = []) : D8 t = true := Qo.mpr (.inr (Qq.mpr ⟨_, Ac hs, .inl h⟩))
theorem C5x {t : T} {s k : Nat} (hs : s < t.sys.length) (hk : k < (t.sys.getD s Bj).kids.length) (h : D8 ((t.sys.getD s Bj).kids.getD k t0) = true) : D8 t = true := Qo.mpr (.inr (Qq.mpr ⟨_, Ac hs, .inr (Qp.mpr ⟨_, Ac hk, h⟩)⟩))
theorem Zg {ts : List T} (h : ∀ k, k < ts.length → D8 (ts.getD k t0) = false) : G5 ts = false := by
 cases hn : G5 ts with
 | false => rfl
 | true =>
  obtain ⟨t, ht, h2⟩ := Qp.mp hn
  obtain ⟨i, hi, rfl⟩ := List.mem_iff_getElem.mp ht
  have := h i hi
  rw [Cw (d := t0) hi, h2] at this
  cases this
theorem B9l {t : T} (h1 : ∀ i, i < t.kids.length → D8 (t.kids.getD i t0) = false) (h2 : ∀ s, s < t.sys.length → (t.sys.getD s Bj).Al ≠ [] ∧ G5 (t.sys.getD s Bj).kids = false) : D8 t = false := by
 cases hn : D8 t with
 | false => rfl
 | true =>
  rcases Qo.mp hn with h | h
  ·rw [Zg h1] at h; cases h
  ·obtain ⟨b, hb, h3⟩ := Qq.mp h
   obtain ⟨i, hi, rfl⟩ := List.mem_iff_getElem.mp hb
   have h4 := h2 i hi
   rw [Cw (d := Bj) hi] at h4
   rcases h3 with h3 | h3
   ·exact absurd h3 h4.1
   ·rw [h4.2] at h3; cases h3
section
variable {CA CB CC : Type} {A : Tr CA} {B : Tr CB} {D : Tr CC} (R : CA → CB → CC → Prop)
variable {R}
end
def C4u (x : EL) : Prop := x.1 = 0 ∧ x.2.length ≤ 1 ∧ x.2.all Ar = true
theorem A7w {l : List Cl} (h : l.all Ar = true) (h0 : (Bb l).1 = 0) : (Bb l).2.all Ar = true ∧ (Bb l).2.length ≤ l.length := by
 rcases Hj l with ⟨_, _, h2, _⟩ | h2 | h2
 ·rw [h2]
  exact ⟨List.all_eq_true.mpr fun c hc => List.all_eq_true.mp h c (Dy.mp hc).1, D8p l⟩
 ·rw [h2] at h0; cases h0
 ·rw [h2] at h0; cases h0
theorem Qb {l : List Cl} (h : l.all Ar = true) (h2 : l.length ≤ 1) : C4u (Bb l) := by
 have h0 := Sp h A4
 obtain ⟨h3, h4⟩ := A7w h h0
 exact ⟨h0, by omega, h3⟩
theorem B0b {a b : Cl} (h : Ar a = true) (h2 : Ar b = true) : Ar (E0 a b) = true := by
 obtain ⟨a1, a2⟩ := Gg.mp h
 obtain ⟨b1, b2⟩ := Gg.mp h2
 exact Gg.mpr ⟨Nat.or_lt_two_pow (n := 24) a1 b1, Nat.or_lt_two_pow (n := 24) a2 b2⟩
theorem Q1 {f g : List Cl} (h : f.all Ar = true) (h2 : g.all Ar = true) : (Jx f g).all Ar = true := List.all_eq_true.mpr fun c hc => by
 obtain ⟨a, ha, hc⟩ := List.mem_flatMap.mp hc
 obtain ⟨b, hb, rfl⟩ := List.mem_map.mp hc
 exact B0b (List.all_eq_true.mp h a ha) (List.all_eq_true.mp h2 b hb)
theorem A6i {f g : List Cl} (h : f.all Ar = true) (h2 : g.all Ar = true) (l1 : f.length ≤ 1) (l2 : g.length ≤ 1) : C4u (H6 f g) :=
 Qb (Q1 h h2) (by rw [Yc]; exact Nat.le_trans (Nat.mul_le_mul l1 l2) A4)
theorem C4c {f g : List Cl} (h : f.all Ar = true) (h2 : g.all Ar = true) : (f ++ g).all Ar = true := by rw [List.all_append, h, h2]; rfl
theorem B7r {f : List Cl} (h : f.all Ar = true) : (Ef f).all Ar = true ∧ (Ef f).length ≤ f.length := ⟨List.all_eq_true.mpr fun c hc => List.all_eq_true.mp h c (List.mem_filter.mp hc).1, List.length_filter_le _ _⟩
theorem A2h {f : List Cl} (h : (Mx f).1 = 0) : A6 (Mx f).2 = true :=
 Lk (g := Dq) (L := f) (I := fun pre h => A6 h = true) (fun pre c h hc hi h0 => by
  unfold Dq at h0 ⊢
  obtain ⟨a1, a2, a3⟩ := C4 h0
  rw [a3]
  exact Gx a2) f [] [Bo] Iy (fun c hc => hc) h
theorem C0g {c : Cl} (h : Ar c = true) : A6 [c] = true := by
 unfold A6
 simp [h, Mo, apart]
theorem Ti {i : Int} (h : 0 ≤ i ∧ i < 24) : Ay (El i) = [i] := by
 refine Nn (P9 _ _) (List.pairwise_singleton _ _) fun x => ?_
 rw [D9, List.mem_singleton]
 constructor
 ·rintro ⟨h1, h2, h3⟩
  have := (Ku.mp h3).2
  omega
 ·rintro rfl
  exact ⟨h.1, h.2, Ku.mpr ⟨h, by omega⟩⟩
def I3 (i : Int) : Cl := ⟨El i, 0⟩
theorem Om (i : Int) : Ar (I3 i) = true := Gg.mpr ⟨Kt i, by show (0 : Nat) < _; omega⟩
theorem C8x {o : List Cl} (h : o.all Ar = true) (h2 : o.length ≤ 1) : C4u (E2 (Bb o) fun x => H6 [Bo] x) := by
 have h1 := Qb h h2
 rw [Bc h1.1]
 exact A6i Iy h1.2.2 D6 h1.2.1
theorem B2z {c : Cl} (h : (V3 c).length ≤ 1) (h2 : (V3 c).all Ar = true) : C4u (Mx [c]) := by
 have h3 := C8x h2 h
 have e : Mx [c] = E2 (Dq [Bo] c) fun h' => C0 Dq h' [] := rfl
 have e2 : Dq [Bo] c = E2 (Bb (V3 c)) fun x => H6 [Bo] x := rfl
 rw [e, e2, Bc h3.1]
 exact ⟨rfl, h3.2⟩
theorem A9j {i : Int} (h : 0 ≤ i ∧ i < 24) : C4u (Mx [I3 i]) := by
 refine B2z ?_ ?_
 ·unfold V3 I3
  rw [show Ay (⟨El i, 0⟩ : Cl).pos = [i] from Ti h, show Ay (⟨El i, 0⟩ : Cl).neg = [] from (by decide : Ay 0 = [])]
  simp
 ·unfold V3 I3
  rw [show Ay (⟨El i, 0⟩ : Cl).pos = [i] from Ti h, show Ay (⟨El i, 0⟩ : Cl).neg = [] from (by decide : Ay 0 = [])]
  simp only [List.map_cons, List.map_nil, List.append_nil, List.all_cons, List.all_nil, Bool.and_true]
  exact Gg.mpr ⟨by show (0 : Nat) < _; omega, Kt i⟩
theorem B5p {i d : Int} (hi : 0 ≤ i) (hd : 0 ≤ d) (h : i + d < 24) : A3 [I3 i] 0 d = (0, [I3 (i + d)]) := by
 have h1 : Ae (El i) 0 d = (0, El (i + d)) := by
  rw [Ye A4 hd (fun x hx => by rw [Ti ⟨hi, by omega⟩, List.mem_singleton] at hx; right; omega), Ti ⟨hi, by omega⟩]
  unfold El
  rw [if_pos ⟨by omega, h⟩]
  simp [A1d, shI, if_neg (show ¬ i < 0 by omega)]
 have h0 : Ae 0 0 d = (0, 0) := by
  rw [Ye A4 hd (fun x hx => by rw [show Ay 0 = [] from by decide] at hx; cases hx), show Ay 0 = [] by decide]
  rfl
 have h2 : B1 (I3 i) 0 d = (0, I3 (i + d)) := by
  unfold B1
  rw [if_neg (by rw [Om]; simp), show (I3 i).pos = El i from rfl, show (I3 i).neg = 0 from rfl, h1, h0]
  simp [I3]
 have h3 : Fh (fun c => B1 c 0 d) [I3 i] = (0, [I3 (i + d)]) := by
  rw [A3i (fun j hj => by have : j = 0 := (by simpa using hj); subst this; rw [show ([I3 i] : List Cl).getD 0 Bo = I3 i from rfl, h2]), List.map_cons, List.map_nil, h2]
 unfold A3
 rw [if_neg (by rw [C0g (Om i)]; simp), h3, if_neg D6]
 exact Lt.mp (C0g (Om _))
theorem A0c {i : Int} {P N : Wd} (h : 0 ≤ i ∧ i < 24) : sat [I3 i] P N ↔ P i.toNat := by
 rw [Jh]
 unfold Gf I3
 simp only [Ku, Nat.zero_testBit]
 constructor
 ·intro h1; exact h1.1 i.toNat ⟨h, by omega⟩
 ·intro h1; exact ⟨fun j hj => (show i.toNat = j by omega) ▸ h1, fun j hj => (by cases hj)⟩
theorem V7 {k n : Int} {nm : ByteArray} {r : List Cl} (h : O0 k n nm r) : (k = 14 → A5 r = true) ∧ A6 r = true := by
 obtain ⟨_, _, h3, h4, h5, h6, h7⟩ := h
 refine ⟨h6, ?_⟩
 by_cases e : k = 13 ∨ k = 21 ∨ k = 26
 ·exact h5 e
 ·by_cases e2 : k = 14
  ·exact (Cy (h6 e2)).1
  ·rw [h7 A4]; decide
theorem C2o (i : Int) : Ma (R2 i) := by
 unfold R2
 split
 ·exact Df ⟨by have := Kt i; show El i < _; omega, by show (0 : Nat) < _; omega⟩
 ·exact Cd
theorem Y0 (N : Wd) (f b : Int) : S4 (Rr N) f b = Rr (S4 N f b) := by
 funext j
 unfold S4 Rr
 by_cases h : (j : Int) < f
 ·simp only [if_pos h]
 ·simp only [if_neg h]
theorem B3j {f g : List Cl} {k b : Int} {P N : Wd} (hf : A6 f = true) (h : Aq b f k = .ok g) : sat g P N ↔ sat f (S4 P k b) (S4 N k b) := by
 unfold Aq at h
 split at h
 ·rename_i h1
  injection h with h
  subst h
  refine C5b (fun c hc => List.all_eq_true.mp (Dn hf) c hc) (fun j hj => ?_) (fun j hj => ?_)
  ·unfold S4
   rcases h1 with h1 | h1
   ·subst h1; split <;> exact Iff.rfl
   ·rw [if_pos A4]
  ·unfold S4
   rcases h1 with h1 | h1
   ·subst h1; split <;> exact Iff.rfl
   ·rw [if_pos A4]
 ·split at h
  ·rename_i h1 h2
   injection h with h
   subst h
   exact S5 h2
  ·cases h
def atP (r : List Cl) (d : Int) (P N : Wd) : Prop := sat r (S4 P 0 d) (S4 N 0 d)
def atN (r : List Cl) (d : Int) (P N : Wd) : Prop := ¬ sat r (Rr (S4 N 0 d)) (Rr (S4 P 0 d))
theorem B7j {r : List Cl} {d : Int} {P N : Wd} (h : (A3 r 0 d).1 = 0) : sat (A3 r 0 d).2 P N ↔ atP r d P N := S5 h
theorem B7k {r : List Cl} {d : Int} {P N : Wd} (h : (A3 r 0 d).1 = 0) : (¬ sat (A3 r 0 d).2 (Rr N) (Rr P)) ↔ atN r d P N := by
 unfold atN
 rw [S5 h, Y0, Y0]
theorem Z3 {f r x : List Cl} {i d : Int} {P N : Wd} (hf : A6 f = true) (h : C1 Bn i r d f = (0, x)) : A6 x = true ∧ (sat x P N ↔ sat f (ovr P (i + d) (atP r d P N)) (ovr N (i + d) (atN r d P N))) := by
 unfold C1 at h
 split at h
 ·rename_i h1
  injection h with _ h
  subst h
  exact ⟨hf, (B3k (Dn hf) h1).symm⟩
 ·obtain ⟨a1, a2, a3⟩ := C4 (by rw [h] : (E2 (A3 r 0 d) fun s => Bn f (i + d) s).1 = 0)
  rw [a3] at h
  have h0 : (Bn f (i + d) (A3 r 0 d).2).1 = 0 := by rw [h]
  have hx : x = (Bn f (i + d) (A3 r 0 d).2).2 := by rw [h]
  rw [hx]
  refine ⟨C0c h0, ?_⟩
  rw [(B3l h0).2.2.2]
  rw [propext (B7j (P := P) (N := N) a1), propext (B7k (P := P) (N := N) a1)]
theorem Z4 {f r x : List Cl} {i d : Int} (hf : A5 f = true) (h : C1 B6 i r d f = (0, x)) : A5 x = true ∧ ∀ P N, Oy P N → (sat x P N ↔ sat f (ovr P (i + d) (atP r d P N)) (ovr N (i + d) (atN r d P N))) := by
 unfold C1 at h
 split at h
 ·rename_i h1
  injection h with _ h
  subst h
  exact ⟨hf, fun P N _ => (B3k (Dn (Cy hf).1) h1).symm⟩
 ·obtain ⟨a1, a2, a3⟩ := C4 (by rw [h] : (E2 (A3 r 0 d) fun s => B6 f (i + d) s).1 = 0)
  rw [a3] at h
  have h0 : (B6 f (i + d) (A3 r 0 d).2).1 = 0 := by rw [h]
  have hx : x = (B6 f (i + d) (A3 r 0 d).2).2 := by rw [h]
  rw [hx]
  refine ⟨(Z5 h0).2.2.2.1, fun P N hw => ?_⟩
  rw [(Z5 h0).2.2.2.2 P N hw]
  rw [propext (B7j (P := P) (N := N) a1), propext (B7k (P := P) (N := N) a1)]
theorem A4y {W : Ej} {d : Int} {f : List Cl} {o : Option (List Cl)} (h : (Bx W).Al d f = .ok o) : ∃ g, W.Al d f = (0, g) ∧ o = if g = [] then none else some g := by
 cases o with
 | none => exact ⟨[], Jj.mp h, rfl⟩
 | some g =>
  obtain ⟨h1, h2⟩ := Ji.mp h
  exact ⟨g, h1, by rw [if_neg h2]⟩
theorem C6m {f g : List Cl} (h : (M6 f g).1 = 0) : (M6 f g).2.length ≤ 64 ∧ A5 (M6 f g).2 = true := by
 unfold M6 at h ⊢
 split at h
 ·cases h
 ·rename_i h1
  rw [if_neg h1]
  simp only [Bool.not_eq_false, Bool.and_eq_true] at h1
  unfold E7 at h ⊢
  have hr := Gx h
  refine ⟨Gw hr, Tt hr fun c hc => ?_⟩
  rcases List.mem_append.mp (I9 h hc) with hc | hc
  ·exact (Cy h1.1).2 c hc
  ·exact (Cy h1.2).2 c hc
section
variable {C : Type} {A : Tr C}
end
def B8w (l : List Cl) : List Cl := l.filter fun c => !B8v c
theorem Y5 {l : List Cl} (h : l.all Ar = true) : B8w l = Ef l := by
 unfold B8w Ef
 refine List.filter_congr fun c hc => ?_
 rw [C5f (List.all_eq_true.mp h c hc)]
def Pq (f g : List Cl) : EL := if (A6 f && A6 g) = false then (2, []) else H6 f g
def Ps (f g : List Cl) : EL := if (A6 f && A6 g) = false then (2, []) else E7 f g
def Gh (f g : List Cl) : EL := if (A5 f && A5 g) = false then (2, []) else Bb (B8w (Jx f g))
theorem B4t {r : List Cl} (h : (Tc r).1 = 0) : A5 (Tc r).2 = true := by
 unfold Tc at h ⊢
 split at h
 ·rename_i h1
  rw [if_pos h1]
  exact Tt (Gx h) fun c hc => by
   have := I9 h hc
   have := (List.mem_filter.mp this).2
   simpa using this
 ·cases h
theorem B4s {r : List Cl} (h : (F4 r).1 = 0) : A5 (F4 r).2 = true := by
 unfold F4 at h ⊢
 obtain ⟨a1, a2, a3⟩ := C4 h
 rw [a3]
 exact B4t a2
theorem C0u {f g : List Cl} : Ef (Jx f g) = f.flatMap fun a => Ef (g.map fun b => E0 a b) := by
 unfold Ef Jx
 rw [List.filter_flatMap]
theorem P7 {f g : List Cl} (h : A5 f = true) (h2 : A5 g = true) : Gh f g = Hz f g := by
 unfold Gh Hz
 rw [if_neg (by simp [h, h2]), Y5 (Q1 (Dn (Cy h).1) (Dn (Cy h2).1)), C0u]
theorem B9r {f g : List Cl} (h : (Hz f g).1 = 0) : A5 (Hz f g).2 = true := by
 unfold Hz at h ⊢
 exact Tt (Gx h) fun c hc => by
  obtain ⟨a, _, h2⟩ := List.mem_flatMap.mp (I9 h hc)
  have := (List.mem_filter.mp h2).2
  simpa using this
theorem A3c {f g : List Cl} (h : A5 f = true) (h2 : A5 g = true) : M6 f g = E7 f g := by unfold M6; rw [if_neg (by simp [h, h2])]
section
variable {i d k n : Int} {nm : ByteArray} {r f : List Cl} {x : EL}
end
theorem A5w {W : Ej} {t : T} {d : Int} : (∃ u, B8 (Bx W) t d = .ok u ∧ Db W t d = (0, u)) ∨ ∃ e, B8 (Bx W) t d = .bad e ∧ Db W t d = (e, t0) := by
 unfold Db
 cases h : B8 (Bx W) t d with
 | ok u => exact .inl ⟨u, rfl, rfl⟩
 | bad e => exact .inr ⟨e, rfl, rfl⟩
def Rt (k : Int) (r : List Cl) (ks : List T) : T := .mk k 0 ⟨#[]⟩ r ks []
abbrev kd (t : T) (i : Nat) : T := t.kids.getD i t0
abbrev Ev := List T × List (List Cl)
def ofE (p neg : Bool) (f : List Cl) : EL := if p = true then (if neg = true then F4 f else Tc f) else if neg = true then Mw f else (0, f)
def Kk (p : Bool) (g h : List Cl) : EL := if p = true then Gh g h else Pq g h
def Qx (p : Bool) (g h : List Cl) : EL := if p = true then M6 g h else Ps g h
def Dt (p neg : Bool) (D : List (List Cl)) : List Int → List Cl → EL
 | [], g => (0, g)
 | i :: l, g => E2 (ofE p neg (D.getD i.toNat [])) fun h => E2 (Kk p g h) fun g => Dt p neg D l g
def N0 (p : Bool) (D : List (List Cl)) (c : Cl) : EL := E2 (Dt p false D (Ay c.pos) [Bo]) fun g => Dt p true D (Ay c.neg) g
def Gd (p : Bool) (D : List (List Cl)) (h : List Cl) (c : Cl) : EL := E2 (N0 p D c) fun g => Qx p h g
def I2 (p : Bool) (D : List (List Cl)) (f : List Cl) : EL := C0 (Gd p D) [] f
theorem A0g {p neg : Bool} {D : List (List Cl)} : ∀ {l m : List Int} {g g' : List Cl}, Dt p neg D l g = (0, g') → Dt p neg D (l ++ m) g = Dt p neg D m g'
 | [], m, g, g', h => by
  rw [Dt, Prod.mk.injEq] at h
  rw [List.nil_append, h.2]
 | i :: l, m, g, g', h => by
  rw [Dt] at h
  rw [List.cons_append, Dt]
  by_cases h1 : (ofE p neg (D.getD i.toNat [])).1 = 0
  ·rw [Bc h1] at h ⊢
   by_cases h2 : (Kk p g (ofE p neg (D.getD i.toNat [])).2).1 = 0
   ·rw [Bc h2] at h ⊢
    exact A0g h
   ·rw [Bi h2, Prod.mk.injEq] at h
    exact absurd h.1 h2
  ·rw [Bi h1, Prod.mk.injEq] at h
   exact absurd h.1 h1
theorem D6k {p neg : Bool} {D : List (List Cl)} {l : List Int} {g g' : List Cl} {k : Nat} (hk : k < l.length) (h : Dt p neg D (l.take k) g = (0, g')) (h1 : (ofE p neg (D.getD (l.getD k 0).toNat [])).1 = 0) (h2 : (Kk p g' (ofE p neg (D.getD (l.getD k 0).toNat [])).2).1 = 0) :
  Dt p neg D (l.take (k + 1)) g = (0, (Kk p g' (ofE p neg (D.getD (l.getD k 0).toNat [])).2).2) := by
 rw [Ai (d := 0) hk, A0g h, Dt, Bc h1, Bc h2, Dt]
theorem C6d {p neg : Bool} {D : List (List Cl)} {l : List Int} {g g' : List Cl} {k : Nat} (hk : k < l.length) (h : Dt p neg D (l.take k) g = (0, g')) (h1 : (ofE p neg (D.getD (l.getD k 0).toNat [])).1 ≠ 0) : Dt p neg D l g = ((ofE p neg (D.getD (l.getD k 0).toNat [])).1, []) := by
 have e2 : l = l.take k ++ l.getD k 0 :: l.drop (k + 1) := by rw [Cw (d := 0) hk, List.getElem_cons_drop, List.take_append_drop]
 rw [e2, A0g h, ← e2, Dt, Bi h1]
theorem C6c {p neg : Bool} {D : List (List Cl)} {l : List Int} {g g' : List Cl} {k : Nat} (hk : k < l.length) (h : Dt p neg D (l.take k) g = (0, g')) (h1 : (ofE p neg (D.getD (l.getD k 0).toNat [])).1 = 0) (h2 : (Kk p g' (ofE p neg (D.getD (l.getD k 0).toNat [])).2).1 ≠ 0) : Dt p neg D l g = ((Kk p g' (ofE p neg (D.getD (l.getD k 0).toNat [])).2).1, []) := by
 have e2 : l = l.take k ++ l.getD k 0 :: l.drop (k + 1) := by rw [Cw (d := 0) hk, List.getElem_cons_drop, List.take_append_drop]
 rw [e2, A0g h, ← e2, Dt, Bc h1, Bi h2]
theorem Wn {p neg : Bool} {D : List (List Cl)} {l : List Int} {g g' : List Cl} {k : Nat} (hk : k = l.length) (h : Dt p neg D (l.take k) g = (0, g')) : Dt p neg D l g = (0, g') := by
 rw [hk, List.take_length] at h
 exact h
def Km {α β : Type} (g : α → Int × β) : List α → Int × List β
 | [] => (0, [])
 | a :: l => if (g a).1 ≠ 0 then ((g a).1, []) else if (Km g l).1 ≠ 0 then ((Km g l).1, []) else (0, (g a).2 :: (Km g l).2)
theorem C2y {α β : Type} {g : α → Int × β} : ∀ {l : List α}, (∀ a, a ∈ l → (g a).1 = 0) → Km g l = (0, l.map fun a => (g a).2)
 | [], _ => rfl
 | a :: l, h => by
  have h0 := h a List.mem_cons_self
  have ih := C2y (g := g) (l := l) fun b hb => h b (List.mem_cons_of_mem _ hb)
  rw [Km, if_neg (by simp [h0]), ih, if_neg D6]
  rfl
theorem B5k {α β : Type} {g : α → Int × β} {d : α} : ∀ {l : List α} {i : Nat}, i < l.length → (∀ j, j < i → (g (l.getD j d)).1 = 0) → (g (l.getD i d)).1 ≠ 0 → Km g l = ((g (l.getD i d)).1, [])
 | [], i, h, _, _ => absurd h D6
 | a :: l, 0, h, _, h2 => by
  rw [List.getD_cons_zero] at h2 ⊢
  rw [Km, if_pos h2]
 | a :: l, i + 1, h, h1, h2 => by
  have h0 := h1 0 A4
  rw [List.getD_cons_zero] at h0
  rw [List.getD_cons_succ] at h2 ⊢
  have ih := B5k (g := g) (d := d) (l := l) (i := i) (by simpa using h) (fun j hj => by have := h1 (j + 1) A4; rwa [List.getD_cons_succ] at this) h2
  rw [Km, if_neg (by simp [h0]), ih, if_pos h2]
def A5b {α : Type} (x : Int × α) : Ab α := if x.1 = 0 then .ok x.2 else .bad x.1
def A0r (e : Ev) : Ab Ev := (A5b (Km (fun t => C6 t 0 1) e.1)).bind fun l => .ok (.mk 1 0 ⟨#[]⟩ [] [] [] :: l, e.2)
def Xe (e : Ev) : Ab Ev := (A5b (Km (fun f => A3 f 0 1) e.2)).bind fun D => (A5b (Km (fun t => C7 t 0 1) e.1)).bind fun l => .ok (l, [⟨1, 0⟩] :: D)
def Oa (e : Ev) (b : Int × Int) : Ab Ev := if b.1 = 1 then A0r e else if b.2 = 1 then Xe e else .ok e
def Cg : Tr Ev where
 own e k n nm r := if k = 1 then .ok (.inl (e.1.getD n.toNat t0)) else (Vg (I2 (decide (k = 14)) e.2 r)).bind fun g => .ok (.inr (0, g))
 Al e f := (Vg (I2 true e.2 f)).bind fun g => .ok (if g.length = 0 then none else some g)
 Jf e b := Oa e b
def Kq (e : Ev) : Bool := decide (e.1.length ≤ 200) && decide (e.2.length ≤ 24)
def He (e : Ev) : Bool := e.2.all fun f => A6 f
def E7b (f : List Cl) (d : Nat) : Bool := decide (G3 f / 2 ^ d = 0)
def D3r (e : Ev) (v d : Int) : Int :=
 if (decide (v < 0) || decide (d < 0) || decide (24 < d) || !Kq e || !He e || !(e.2.all fun f => E7b f d.toNat)) = true then 2
 else (Km (fun t => (Eu t v d, ())) e.1).1
def idE (v d : Int) : Int × Ev := if v < 0 ∨ 200 < v ∨ d < 0 ∨ 24 < d then (2, [], []) else (0, (List.range v.toNat).map (fun (n : Nat) => (T.mk 1 (n : Int) ⟨#[]⟩ [] [] [])), (List.range d.toNat).map fun (i : Nat) => [⟨El (i : Int), 0⟩])
def A3o (f : List Cl) (e : Ev) : EL := if (A6 f && Kq e && E7b f e.2.length && He e) = true then I2 false e.2 f else (2, [])
def An (t : T) (e : Ev) : Int × T :=
 if Kq e = false then (2, t0)
 else if Eu t e.1.length e.2.length ≠ 0 then (Eu t e.1.length e.2.length, t0)
 else if (He e && e.1.all fun x => decide (Ah x = 0)) = false then (2, t0)
 else match B8 Cg t e with
  | .bad x => (x, t0)
  | .ok u => if Ah u ≠ 0 then (Ah u, t0) else (0, u)
def D8k (e f : Ev) : Int × Ev :=
 if (Km (fun g => A3o g f) e.2).1 ≠ 0 then ((Km (fun g => A3o g f) e.2).1, [], [])
 else if (Km (fun t => An t f) e.1).1 ≠ 0 then ((Km (fun t => An t f) e.1).1, [], [])
 else (0, (Km (fun t => An t f) e.1).2, (Km (fun g => A3o g f) e.2).2)
def C3 (p : Bool) (g : List Cl) : Prop := if p = true then A5 g = true else A6 g = true
def Ss (p : Bool) (P N : Wd) : Prop := p = true → Oy P N
theorem Ew {p : Bool} {g : List Cl} (h : C3 p g) : A6 g = true := by
 unfold C3 at h
 split at h
 ·exact (Cy h).1
 ·exact h
def evP (D : List (List Cl)) (P N : Wd) : Wd := fun j => sat (D.getD j []) P N
def evN (D : List (List Cl)) (P N : Wd) : Wd := fun j => ¬ sat (D.getD j []) (Rr N) (Rr P)
theorem C2p {p neg : Bool} {d : List Cl} (hd : A6 d = true) (h : (ofE p neg d).1 = 0) : C3 p (ofE p neg d).2 ∧ ∀ P N, Ss p P N → (sat (ofE p neg d).2 P N ↔ if neg = true then ¬ sat d (Rr N) (Rr P) else sat d P N) := by
 unfold ofE at h ⊢
 cases p with
 | false =>
  simp only [Bool.false_eq_true, if_false] at h ⊢
  cases neg with
  | false =>
   simp only [Bool.false_eq_true, if_false]
   exact ⟨by unfold C3; rw [if_neg Iy]; exact hd, fun P N _ => trivial⟩
  | true =>
   simp only [if_true] at h ⊢
   unfold Mw at h ⊢
   rw [if_pos hd] at h ⊢
   exact ⟨by unfold C3; rw [if_neg Iy]; exact A2h h, fun P N _ => A9x (fun c hc => List.all_eq_true.mp (Dn hd) c hc) h⟩
 | true =>
  simp only [if_true] at h ⊢
  cases neg with
  | false =>
   simp only [Bool.false_eq_true, if_false] at h ⊢
   exact ⟨by unfold C3; rw [if_pos rfl]; exact B4t h, fun P N hw => B8k (hw rfl) h⟩
  | true =>
   simp only [if_true] at h ⊢
   exact ⟨by unfold C3; rw [if_pos rfl]; exact B4s h, fun P N hw => A1e (hw rfl) h⟩
theorem B5a {p : Bool} {g k : List Cl} (hg : C3 p g) (hk : C3 p k) (h : (Kk p g k).1 = 0) : C3 p (Kk p g k).2 ∧ ∀ P N, Ss p P N → (sat (Kk p g k).2 P N ↔ sat g P N ∧ sat k P N) := by
 unfold Kk at h ⊢
 cases p with
 | false =>
  simp only [Bool.false_eq_true, if_false] at h ⊢
  unfold C3 at hg hk ⊢
  simp only [Bool.false_eq_true, if_false] at hg hk ⊢
  unfold Pq at h ⊢
  rw [if_neg (by simp [hg, hk])] at h ⊢
  unfold H6 at h ⊢
  exact ⟨Gx h, fun P N _ => (Et h).trans N4⟩
 | true =>
  simp only [if_true] at h ⊢
  unfold C3 at hg hk ⊢
  simp only [if_true] at hg hk ⊢
  have e := P7 hg hk
  refine ⟨by rw [e] at h ⊢; exact B9r h, fun P N hw => ?_⟩
  unfold Gh at h ⊢
  rw [if_neg (by simp [hg, hk]), Y5 (Q1 (Dn (Cy hg).1) (Dn (Cy hk).1))] at h ⊢
  exact (Et h).trans ((W5 (hw rfl)).trans N4)
theorem B5x {p : Bool} {g k : List Cl} (hg : C3 p g) (hk : C3 p k) (h : (Qx p g k).1 = 0) : C3 p (Qx p g k).2 ∧ ∀ P N, Ss p P N → (sat (Qx p g k).2 P N ↔ sat g P N ∨ sat k P N) := by
 unfold Qx at h ⊢
 cases p with
 | false =>
  simp only [Bool.false_eq_true, if_false] at h ⊢
  unfold C3 at hg hk ⊢
  simp only [Bool.false_eq_true, if_false] at hg hk ⊢
  unfold Ps at h ⊢
  rw [if_neg (by simp [hg, hk])] at h ⊢
  unfold E7 at h ⊢
  exact ⟨Gx h, fun P N _ => (Et h).trans L8⟩
 | true =>
  simp only [if_true] at h ⊢
  unfold C3 at hg hk ⊢
  simp only [if_true] at hg hk ⊢
  refine ⟨(C6m h).2, fun P N hw => ?_⟩
  rw [A3c hg hk] at h ⊢
  unfold E7 at h ⊢
  exact (Et h).trans L8
theorem A7k (p : Bool) : C3 p [Bo] := by cases p <;> (unfold C3; decide)
theorem A2i (p : Bool) : C3 p [] := by cases p <;> (unfold C3; decide)
theorem A2o {p neg : Bool} {D : List (List Cl)} : ∀ {l : List Int} {g : List Cl}, (∀ i, i ∈ l → A6 (D.getD i.toNat []) = true) → C3 p g → (Dt p neg D l g).1 = 0 →
  C3 p (Dt p neg D l g).2 ∧ ∀ P N, Ss p P N → (sat (Dt p neg D l g).2 P N ↔ sat g P N ∧ ∀ i, i ∈ l → if neg = true then evN D P N i.toNat else evP D P N i.toNat)
 | [], g, hD, hg, h => ⟨hg, fun P N _ => ⟨fun h => ⟨h, fun i hi => by cases hi⟩, fun h => h.1⟩⟩
 | i :: l, g, hD, hg, h => by
  rw [Dt] at h ⊢
  obtain ⟨h1, h, e⟩ := C4 h
  rw [e]
  obtain ⟨a1, a2⟩ := C2p (hD i List.mem_cons_self) h1
  obtain ⟨h2, h, e⟩ := C4 h
  rw [e]
  obtain ⟨b1, b2⟩ := B5a hg a1 h2
  obtain ⟨c1, c2⟩ := A2o (neg := neg) (fun j hj => hD j (List.mem_cons_of_mem _ hj)) b1 h
  refine ⟨c1, fun P N hw => ?_⟩
  rw [c2 P N hw, b2 P N hw, a2 P N hw]
  constructor
  ·rintro ⟨⟨q1, q2⟩, q3⟩
   refine ⟨q1, fun j hj => ?_⟩
   rcases List.mem_cons.mp hj with rfl | hj
   ·exact q2
   ·exact q3 j hj
  ·rintro ⟨q1, q2⟩
   exact ⟨⟨q1, q2 i List.mem_cons_self⟩, fun j hj => q2 j (List.mem_cons_of_mem _ hj)⟩
theorem D3w {p : Bool} {D : List (List Cl)} {c : Cl} (hc : Ar c = true) (hD : ∀ j, (c.pos ||| c.neg).testBit j = true → A6 (D.getD j []) = true) (h : (N0 p D c).1 = 0) :
  C3 p (N0 p D c).2 ∧ ∀ P N, Ss p P N → (sat (N0 p D c).2 P N ↔ Gf c (evP D P N) (evN D P N)) := by
 obtain ⟨r1, r2⟩ := Dx hc
 have dp : ∀ i, i ∈ Ay c.pos → A6 (D.getD i.toNat []) = true := fun i hi => hD _ (by rw [Nat.testBit_or, (D9.mp hi).2.2]; rfl)
 have dn : ∀ i, i ∈ Ay c.neg → A6 (D.getD i.toNat []) = true := fun i hi => hD _ (by rw [Nat.testBit_or, (D9.mp hi).2.2, Bool.or_true])
 unfold N0 at h ⊢
 obtain ⟨h1, h, e⟩ := C4 h
 rw [e]
 obtain ⟨a1, a2⟩ := A2o dp (A7k p) h1
 obtain ⟨b1, b2⟩ := A2o dn a1 h
 refine ⟨b1, fun P N hw => ?_⟩
 rw [b2 P N hw, a2 P N hw]
 simp only [Bool.false_eq_true, if_false, if_true]
 constructor
 ·rintro ⟨⟨_, q1⟩, q2⟩
  refine ⟨fun j hj => ?_, fun j hj => ?_⟩
  ·have := q1 (j : Int) (D9.mpr ⟨by omega, by have := r1 j hj; omega, by simpa using hj⟩)
   simpa using this
  ·have := q2 (j : Int) (D9.mpr ⟨by omega, by have := r2 j hj; omega, by simpa using hj⟩)
   simpa using this
 ·rintro ⟨q1, q2⟩
  exact ⟨⟨C1w, fun i hi => q1 _ (D9.mp hi).2.2⟩, fun i hi => q2 _ (D9.mp hi).2.2⟩
theorem A1f {p : Bool} {D : List (List Cl)} {f : List Cl} (hf : f.all Ar = true) (hD : ∀ c, c ∈ f → ∀ j, (c.pos ||| c.neg).testBit j = true → A6 (D.getD j []) = true) (h : (I2 p D f).1 = 0) :
  C3 p (I2 p D f).2 ∧ ∀ P N, Ss p P N → (sat (I2 p D f).2 P N ↔ sat f (evP D P N) (evN D P N)) := by
 have key := Lk (g := Gd p D) (L := f) (I := fun pre h => C3 p h ∧ ∀ P N, Ss p P N → (sat h P N ↔ sat pre (evP D P N) (evN D P N))) (fun pre c g hc hI h0 => by
  unfold Gd at h0 ⊢
  obtain ⟨h1, h0, e⟩ := C4 h0
  rw [e]
  obtain ⟨a1, a2⟩ := D3w (List.all_eq_true.mp hf c hc) (hD c hc) h1
  obtain ⟨b1, b2⟩ := B5x hI.1 a1 h0
  refine ⟨b1, fun P N hw => ?_⟩
  rw [b2 P N hw, hI.2 P N hw, a2 P N hw, L8, Jh]) f [] [] ⟨A2i p, fun P N _ => ⟨fun h => absurd h T7, fun h => absurd h T7⟩⟩ (fun c hc => hc) h
 exact key
def Rq (v : Nat) : List T := (List.range v).map fun (n : Nat) => T.mk 1 (n : Int) ⟨#[]⟩ [] [] []
def L3 (d : Nat) : List (List Cl) := (List.range d).map fun (i : Nat) => [I3 (i : Int)]
theorem Tm {d j : Nat} (h : j < d) : (L3 d).getD j [] = [I3 (j : Int)] := by
 unfold L3
 rw [Cw (d := []) (by simpa using h), List.getElem_map, List.getElem_range]
theorem Lm {i : Int} : A6 [I3 i] = true := C0g (Om i)
def D6e (p : Bool) (x : EL) : Prop := x.1 = 0 ∧ x.2.length ≤ 1 ∧ C3 p x.2
theorem E0x {p neg : Bool} {i : Int} (hi : 0 ≤ i ∧ i < 24) : D6e p (ofE p neg [I3 i]) := by
 have hd : A6 [I3 i] = true := Lm
 have hn : C4u (Mx [I3 i]) := A9j hi
 have ho : ∀ {f : List Cl}, A6 f = true → f.length ≤ 1 → (Tc f).1 = 0 ∧ (Tc f).2.length ≤ 1 := fun {f} h1 h2 => by
  unfold Tc
  rw [if_pos h1]
  obtain ⟨c1, c2⟩ := B7r (Dn h1)
  have := Qb c1 A4
  exact ⟨this.1, this.2.1⟩
 have key : (ofE p neg [I3 i]).1 = 0 ∧ (ofE p neg [I3 i]).2.length ≤ 1 := by
  unfold ofE
  cases p with
  | false =>
   cases neg with
   | false => exact ⟨rfl, Nat.le_refl 1⟩
   | true =>
    simp only [Bool.false_eq_true, if_false, if_true]
    unfold Mw
    rw [if_pos hd]
    exact ⟨hn.1, hn.2.1⟩
  | true =>
   cases neg with
   | false => exact ho hd (Nat.le_refl 1)
   | true =>
    simp only [if_true]
    unfold F4 Mw
    rw [if_pos hd, Bc hn.1]
    exact ho (A2h hn.1) hn.2.1
 exact ⟨key.1, key.2, (C2p hd key.1).1⟩
theorem D6i {p : Bool} {g k : List Cl} (hg : C3 p g) (hk : C3 p k) (l1 : g.length ≤ 1) (l2 : k.length ≤ 1) : D6e p (Kk p g k) := by
 have f1 := Dn (Ew hg)
 have f2 := Dn (Ew hk)
 have key : (Kk p g k).1 = 0 ∧ (Kk p g k).2.length ≤ 1 := by
  cases p with
  | false =>
   have := A6i f1 f2 l1 l2
   unfold Kk Pq
   simp only [Bool.false_eq_true, if_false]
   rw [if_neg (by simp [Ew hg, Ew hk])]
   exact ⟨this.1, this.2.1⟩
  | true =>
   have q1 : A5 g = true := hg
   have q2 : A5 k = true := hk
   unfold Kk Gh
   simp only [if_true]
   rw [if_neg (by simp [q1, q2]), Y5 (Q1 f1 f2)]
   obtain ⟨c1, c2⟩ := B7r (Q1 f1 f2)
   have hl : (Jx g k).length ≤ 1 := by
    unfold Jx
    match g, l1 with
    | [], _ => simp
    | [a], _ => simpa using l2
    | a :: b :: g, l1 => simp at l1
   have := Qb c1 A4
   exact ⟨this.1, this.2.1⟩
 exact ⟨key.1, key.2, (B5a hg hk key.1).1⟩
theorem B0x {p neg : Bool} {d : Nat} (hd : d ≤ 24) : ∀ {l : List Int} {g : List Cl}, (∀ i, i ∈ l → 0 ≤ i ∧ i < d) → C3 p g → g.length ≤ 1 → D6e p (Dt p neg (L3 d) l g)
 | [], g, hl, hg, h1 => ⟨rfl, h1, hg⟩
 | i :: l, g, hl, hg, h1 => by
  obtain ⟨a1, a2⟩ := hl i List.mem_cons_self
  rw [Dt, Tm (show i.toNat < d by omega), show ((i.toNat : Nat) : Int) = i by omega]
  obtain ⟨b1, b2, b3⟩ := E0x (p := p) (neg := neg) (i := i) ⟨a1, by omega⟩
  rw [Bc b1]
  obtain ⟨c1, c2, c3⟩ := D6i hg b3 h1 b2
  rw [Bc c1]
  exact B0x hd (fun j hj => hl j (List.mem_cons_of_mem _ hj)) c3 c2
theorem D7s {p : Bool} {d : Nat} {c : Cl} (hd : d ≤ 24) (hb : ∀ j, (c.pos ||| c.neg).testBit j = true → j < d) : D6e p (N0 p (L3 d) c) := by
 unfold N0
 have hp : ∀ i, i ∈ Ay c.pos → 0 ≤ i ∧ i < d := fun i hi => by
  have h1 := D9.mp hi
  have h2 := hb i.toNat (by rw [Nat.testBit_or, h1.2.2]; rfl)
  omega
 have hn : ∀ i, i ∈ Ay c.neg → 0 ≤ i ∧ i < d := fun i hi => by
  have h1 := D9.mp hi
  have h2 := hb i.toNat (by rw [Nat.testBit_or, h1.2.2, Bool.or_true])
  omega
 obtain ⟨a1, a2, a3⟩ := B0x (p := p) (neg := false) hd hp (A7k p) (Nat.le_refl 1)
 rw [Bc a1]
 exact B0x hd hn a3 a2
theorem C3e {p : Bool} {d : Nat} {f : List Cl} (hd : d ≤ 24) (hl : f.length ≤ 64) (hb : ∀ c, c ∈ f → ∀ j, (c.pos ||| c.neg).testBit j = true → j < d) : ∀ (m : List Cl) (h : List Cl), (∀ c, c ∈ m → c ∈ f) → h.length + m.length ≤ 64 → C3 p h → (C0 (Gd p (L3 d)) h m).1 = 0
 | [], h, _, _, _ => rfl
 | c :: m, h, hm, hlen, hr => by
  obtain ⟨a1, a2, a3⟩ := D7s (p := p) hd (hb c (hm c List.mem_cons_self))
  have hj : (Qx p h (N0 p (L3 d) c).2).1 = 0 ∧ (Qx p h (N0 p (L3 d) c).2).2.length ≤ h.length + 1 := by
   have r1 := Dn (Ew hr)
   have r2 := Dn (Ew a3)
   have hlen2 : (h ++ (N0 p (L3 d) c).2).length ≤ h.length + 1 := by rw [List.length_append]; omega
   have h64 : (h ++ (N0 p (L3 d) c).2).length ≤ 64 := by
    rw [List.length_cons] at hlen
    omega
   have t := Sp (C4c r1 r2) h64
   have e : Qx p h (N0 p (L3 d) c).2 = Bb (h ++ (N0 p (L3 d) c).2) := by
    cases p with
    | false =>
     unfold Qx Ps E7
     simp only [Bool.false_eq_true, if_false]
     rw [if_neg (by simp [Ew hr, Ew a3])]
    | true =>
     have q1 : A5 h = true := hr
     have q2 : A5 (N0 true (L3 d) c).2 = true := a3
     unfold Qx
     simp only [if_true]
     rw [A3c q1 q2]; rfl
   rw [e]
   exact ⟨t, Nat.le_trans (A7w (C4c r1 r2) t).2 hlen2⟩
  have hs : Gd p (L3 d) h c = Qx p h (N0 p (L3 d) c).2 := by unfold Gd; rw [Bc a1]
  rw [C0, hs, Bc hj.1]
  refine C3e hd hl hb m _ (fun e he => hm e (List.mem_cons_of_mem _ he)) ?_ (B5x hr a3 hj.1).1
  rw [List.length_cons] at hlen
  omega
theorem D2l {p : Bool} {d : Nat} {f : List Cl} (hd : d ≤ 24) (hf : C3 p f) (hb : ∀ c, c ∈ f → ∀ j, (c.pos ||| c.neg).testBit j = true → j < d) : I2 p (L3 d) f = (0, f) := by
 have hr := Ew hf
 have h0 : (I2 p (L3 d) f).1 = 0 := C3e hd (Gw hr) hb f [] (fun c hc => hc) (by have := Gw hr; simpa using this) (A2i p)
 obtain ⟨g1, g2⟩ := A1f (p := p) (D := L3 d) (Dn hr) (fun c hc j hj => by rw [Tm (hb c hc j hj)]; exact Lm) h0
 have hs : ∀ P N, sat f (evP (L3 d) P N) (evN (L3 d) P N) ↔ sat f P N := fun P N => by
  have hc : ∀ c, c ∈ f → (Gf c (evP (L3 d) P N) (evN (L3 d) P N) ↔ Gf c P N) := fun c hc => by
   have e1 : ∀ j, (c.pos ||| c.neg).testBit j = true → (evP (L3 d) P N j ↔ P j) ∧ (evN (L3 d) P N j ↔ N j) := fun j hj => by
    have hlt := hb c hc j hj
    unfold evP evN
    rw [Tm hlt, A0c ⟨by omega, by omega⟩, A0c ⟨by omega, by omega⟩, Int.toNat_natCast]
    exact ⟨Iff.rfl, by unfold Rr; exact Classical.not_not⟩
   constructor
   ·intro h
    exact ⟨fun j hj => (e1 j (by rw [Nat.testBit_or, hj]; rfl)).1.mp (h.1 j hj), fun j hj => (e1 j (by rw [Nat.testBit_or, hj, Bool.or_true])).2.mp (h.2 j hj)⟩
   ·intro h
    exact ⟨fun j hj => (e1 j (by rw [Nat.testBit_or, hj]; rfl)).1.mpr (h.1 j hj), fun j hj => (e1 j (by rw [Nat.testBit_or, hj, Bool.or_true])).2.mpr (h.2 j hj)⟩
  constructor
  ·rintro ⟨c, h1, h2⟩; exact ⟨c, h1, (hc c h1).mp h2⟩
  ·rintro ⟨c, h1, h2⟩; exact ⟨c, h1, (hc c h1).mpr h2⟩
 refine Prod.ext h0 ?_
 cases p with
 | false => exact B6g g1 hf fun P N => (g2 P N (fun h => by cases h)).trans (hs P N)
 | true => exact B6m g1 hf fun P N hw => (g2 P N (fun _ => hw)).trans (hs P N)
theorem T4 {n : Int} (h : 0 ≤ n) : D5 (vE n) := by
 unfold vE
 simp only [D5, Ib, Ou]
 refine ⟨?_, rfl, fun _ => trivial, trivial, trivial⟩
 refine ⟨fun h => absurd rfl h, fun _ => rfl, fun _ => ⟨rfl, h⟩, fun h => by omega, fun h => by omega, fun h => by omega, fun _ => rfl⟩
theorem C4q {C : Type} {A : Tr C} {n m : Int} {c : C} (h : A.own c 1 n ⟨#[]⟩ [] = .ok (.inr (m, []))) : B8 A (vE n) c = .ok (vE m) := by
 rw [Da]
 show ((A.own c 1 n ⟨#[]⟩ []).bind fun o => match o with
  | .inl u => .ok u
  | .inr p => (Cm A 1 0 [] c).bind fun ks' => (C9 A 1 [] c).bind fun ss' => .ok (.mk 1 p.1 ⟨#[]⟩ p.2 ks' ss')) = _
 rw [h]
 simp only [Ab.bind]
 rw [Ch]
 simp only
 rw [C8]
 rfl
theorem D6w {v : Nat} {t : T} (h : t ∈ Rq v) : ∃ n : Nat, n < v ∧ t = vE (n : Int) := by
 obtain ⟨n, hn, rfl⟩ := List.mem_map.mp h
 exact ⟨n, List.mem_range.mp hn, rfl⟩
theorem D6x {d : Nat} {f : List Cl} (h : f ∈ L3 d) : ∃ i : Nat, i < d ∧ f = [I3 (i : Int)] := by
 obtain ⟨n, hn, rfl⟩ := List.mem_map.mp h
 exact ⟨n, List.mem_range.mp hn, rfl⟩
theorem Q6 {f : List Cl} {d : Nat} (hd : d ≤ 24) (hf : f.all Ar = true) (h : within f d = true) : ∀ c, c ∈ f → ∀ j, (c.pos ||| c.neg).testBit j = true → j < d := fun c hc j hj => by
 refine Decidable.byContradiction fun hn => ?_
 have h24 : j < 24 := by
  obtain ⟨r1, r2⟩ := Dx (List.all_eq_true.mp hf c hc)
  rw [Nat.testBit_or, Bool.or_eq_true] at hj
  rcases hj with hj | hj
  ·exact r1 j hj
  ·exact r2 j hj
 have h1 := (within_iff (l := f) (d := d) A4).mp h j A4
 rw [Ey.mpr ⟨h24, c, hc, hj⟩] at h1
 cases h1
theorem A8t (k i : Int) : ((binds k i).1 = 0 ∨ (binds k i).1 = 1) ∧ ((binds k i).2 = 0 ∨ (binds k i).2 = 1) ∧ ¬ ((binds k i).1 = 1 ∧ (binds k i).2 = 1) := by
 unfold binds
 (repeat' split) <;> simp
theorem D2r {v d : Int} (hv : 0 ≤ v ∧ v ≤ 200) (hd : 0 ≤ d ∧ d ≤ 24) : idE v d = (0, Rq v.toNat, L3 d.toNat) := by
 unfold idE
 rw [if_neg A4]
 rfl
def Zz (S : Nat → Prop) (c : Cl) : Prop := ∀ j, (c.pos ||| c.neg).testBit j = true → S j
def Dj (S : Nat → Prop) (f : List Cl) : Prop := ∀ c, c ∈ f → Zz S c
variable {S : Nat → Prop}
theorem Il : Dj S [] := fun c hc => by cases hc
theorem D3x : Zz S Bo := fun j hj => by simp [Bo] at hj
theorem C5e : Dj S [Bo] := fun c hc => by rw [List.mem_singleton] at hc; subst hc; exact D3x
theorem Kf {c : Cl} (h : Zz S c) : Dj S [c] := fun d hd => by rw [List.mem_singleton] at hd; subst hd; exact h
theorem A6u {f g : List Cl} (h : Dj S f) (h2 : Dj S g) : Dj S (f ++ g) := fun c hc => by
 rcases List.mem_append.mp hc with hc | hc
 ·exact h c hc
 ·exact h2 c hc
theorem Jr {l : List Cl} (h : Dj S l) : Dj S (Bb l).2 := by
 by_cases h0 : (Bb l).1 = 0
 ·exact fun c hc => h c (I9 h0 hc)
 ·rw [V6 h0]; exact Il
theorem A8p {a b : Cl} (h : Zz S a) (h2 : Zz S b) : Zz S (E0 a b) := fun j hj => by
 unfold E0 at hj
 simp only [Nat.testBit_or, Bool.or_eq_true] at hj
 rcases hj with (hj | hj) | (hj | hj)
 ·exact h j (by rw [Nat.testBit_or, hj]; rfl)
 ·exact h2 j (by rw [Nat.testBit_or, hj]; rfl)
 ·exact h j (by rw [Nat.testBit_or, hj, Bool.or_true])
 ·exact h2 j (by rw [Nat.testBit_or, hj, Bool.or_true])
theorem B3p {f g : List Cl} (h : Dj S f) (h2 : Dj S g) : Dj S (Jx f g) := fun c hc => by
 obtain ⟨a, ha, hc⟩ := List.mem_flatMap.mp hc
 obtain ⟨b, hb, rfl⟩ := List.mem_map.mp hc
 exact A8p (h a ha) (h2 b hb)
theorem S9 {f g : List Cl} (h : Dj S f) (h2 : Dj S g) : Dj S (H6 f g).2 := Jr (B3p h h2)
theorem B8p {f : List Cl} (h : Dj S f) : Dj S (Ef f) := fun c hc => h c (List.mem_filter.mp hc).1
theorem B8n {c : Cl} (h : Zz S c) : Dj S (V3 c) := fun d hd => by
 unfold V3 at hd
 rcases List.mem_append.mp hd with hd | hd
 ·obtain ⟨i, hi, rfl⟩ := List.mem_map.mp hd
  have h1 := D9.mp hi
  intro j hj
  simp only [Nat.zero_or] at hj
  obtain ⟨_, e⟩ := Ku.mp hj
  have : j = i.toNat := by omega
  subst this
  exact h _ (by rw [Nat.testBit_or, h1.2.2]; rfl)
 ·obtain ⟨i, hi, rfl⟩ := List.mem_map.mp hd
  have h1 := D9.mp hi
  intro j hj
  simp only [Nat.or_zero] at hj
  obtain ⟨_, e⟩ := Ku.mp hj
  have : j = i.toNat := by omega
  subst this
  exact h _ (by rw [Nat.testBit_or, h1.2.2, Bool.or_true])
theorem Hg {x : EL} {k : List Cl → EL} (hx : Dj S x.2) (hk : ∀ g, Dj S g → Dj S (k g).2) : Dj S (E2 x k).2 := by
 unfold E2
 split
 ·exact Il
 ·exact hk _ hx
theorem Qg {g : List Cl → Cl → EL} : ∀ {l h : List Cl}, (∀ c, c ∈ l → ∀ h, Dj S h → Dj S (g h c).2) → Dj S h → Dj S (C0 g h l).2
 | [], h, _, hh => hh
 | c :: l, h, hg, hh => by
  rw [C0]
  exact Hg (hg c List.mem_cons_self h hh) fun h' hh' => Qg (fun d hd => hg d (List.mem_cons_of_mem _ hd)) hh'
theorem A1i {f : List Cl} (h : Dj S f) : Dj S (Mx f).2 := Qg (fun c hc g hg => Hg (Jr (B8n (h c hc))) fun o ho => S9 hg ho) C5e
theorem A6t {f : List Cl} (h : Dj S f) : Dj S (Tc f).2 := by
 unfold Tc
 split
 ·exact Jr (B8p h)
 ·exact Il
theorem B8o {f : List Cl} (h : Dj S f) : Dj S (Mw f).2 := by
 unfold Mw
 split
 ·exact A1i h
 ·exact Il
theorem B0a {f : List Cl} (h : Dj S f) : Dj S (F4 f).2 := Hg (B8o h) fun g hg => A6t hg
theorem Z9 {f g : List Cl} (h : Dj S f) (h2 : Dj S g) : Dj S (Hz f g).2 := Jr fun c hc => by
 obtain ⟨a, ha, hc⟩ := List.mem_flatMap.mp hc
 obtain ⟨b, hb, rfl⟩ := List.mem_map.mp (List.mem_filter.mp hc).1
 exact A8p (h a ha) (h2 b hb)
theorem A4z {f r : List Cl} {i : Int} (hf : ∀ c, c ∈ f → Zz S (Cn c i)) (hr : Dj S r) : Dj S (Bn f i r).2 := by
 unfold Bn
 split
 ·exact Il
 ·split
  ·exact Il
  ·refine Qg (fun c hc h hh => ?_) Il
   unfold Cp
   refine Hg ?_ fun g hg => Hg ?_ fun g2 hg2 => ?_
   ·unfold Hv
    split
    ·exact S9 (Kf (hf c hc)) hr
    ·exact Kf (hf c hc)
   ·unfold Kh
    split
    ·exact Hg (A1i hr) fun s hs => S9 hg hs
    ·exact hg
   ·exact Jr (A6u hh hg2)
theorem A5a {f r : List Cl} {i : Int} (hf : ∀ c, c ∈ f → Zz S (Cn c i)) (hr : Dj S r) : Dj S (B6 f i r).2 := by
 unfold B6
 split
 ·exact Il
 ·refine Qg (fun c hc h hh => ?_) Il
  unfold Cx
  refine Hg ?_ fun g hg => Jr (A6u hh hg)
  unfold Dm
  split
  ·exact Hg (A6t hr) fun x hx => Z9 (Kf (hf c hc)) hx
  ·split
   ·exact Hg (B0a hr) fun x hx => Z9 (Kf (hf c hc)) hx
   ·exact Kf (hf c hc)
theorem A5v {f : List Cl} {d : Int} (h0 : 0 ≤ d) (hf : f.all Ar = true) : within f d = true ↔ Dj (fun j => (j : Int) < d) f := by
 rw [within_iff h0]
 constructor
 ·intro h c hc j hj
  refine Decidable.byContradiction fun hn => ?_
  have h24 : j < 24 := by
   obtain ⟨r1, r2⟩ := Dx (List.all_eq_true.mp hf c hc)
   rw [Nat.testBit_or, Bool.or_eq_true] at hj
   rcases hj with hj | hj
   ·exact r1 j hj
   ·exact r2 j hj
  have h1 := h j A4
  rw [Ey.mpr ⟨h24, c, hc, hj⟩] at h1
  cases h1
 ·intro h i hi
  cases hx : (G3 f).testBit i with
  | false => rfl
  | true =>
   obtain ⟨_, c, hc, hj⟩ := Ey.mp hx
   have : (i : Int) < d := h c hc i hj
   omega
theorem C9b {c : Cl} {i : Int} {d : Int} (h : Zz (fun j => (j : Int) < d) c) : Zz (fun j => (j : Int) < d ∧ (j : Int) ≠ i) (Cn c i) := fun j hj => by
 unfold Cn at hj
 rw [Nat.testBit_or, Bool.or_eq_true] at hj
 rcases hj with hj | hj
 ·obtain ⟨_, h2, h3⟩ := K7.mp hj
  exact ⟨h j (by rw [Nat.testBit_or, h2]; rfl), h3⟩
 ·obtain ⟨_, h2, h3⟩ := K7.mp hj
  exact ⟨h j (by rw [Nat.testBit_or, h2, Bool.or_true]), h3⟩
variable {S : Nat → Prop}
theorem Th {α β : Type} {g : α → Int × β} : ∀ {l : List α}, (Km g l).1 = 0 → (∀ a, a ∈ l → (g a).1 = 0) ∧ (Km g l).2 = l.map fun a => (g a).2
 | [], _ => ⟨fun t ht => (by cases ht), rfl⟩
 | t :: ts, h => by
  rw [Km] at h ⊢
  by_cases h1 : (g t).1 ≠ 0
  ·rw [if_pos h1] at h; exact absurd h h1
  ·rw [if_neg h1] at h ⊢
   by_cases h2 : (Km g ts).1 ≠ 0
   ·rw [if_pos h2] at h; exact absurd h h2
   ·rw [if_neg h2]
    obtain ⟨a1, a2⟩ := Th (Decidable.not_not.mp h2)
    refine ⟨fun u hu => ?_, by rw [a2]; rfl⟩
    rcases List.mem_cons.mp hu with rfl | hu
    ·exact Decidable.not_not.mp h1
    ·exact a1 u hu
theorem A3e {t : T} {ns : List Int} {r : Ab T} (h : (Bz t ns r).1 = 0) : Ah t = 0 ∧ (r = .ok (Bz t ns r).2 ∨ r = .bad 0) := by
 unfold Bz at h ⊢
 split at h
 ·rename_i h1; exact absurd h h1
 ·rename_i h1
  split at h
  ·cases h
  ·rename_i h2
   rw [if_neg h1, if_neg h2]
   refine ⟨Decidable.not_not.mp h1, ?_⟩
   cases r with
   | ok u => exact .inl rfl
   | bad e => right; simp only at h; subst h; rfl
theorem C4m {x : T} (h : (C6 x 0 1).1 = 0) : B8 (As 1 0) x (0, 0) = .ok (C6 x 0 1).2 := by
 obtain ⟨h1, h2 | h2⟩ := A3e h
 ·exact h2
 ·have := Wq x h2; omega
theorem C7h {x : T} (h : (C7 x 0 1).1 = 0) : B8 (As 0 1) x (0, 0) = .ok (C7 x 0 1).2 := by
 obtain ⟨h1, h2 | h2⟩ := A3e h
 ·exact h2
 ·have := Wq x h2; omega
theorem Y3 {α : Type} {x : Int × α} {a : α} (h : A5b x = .ok a) : x.1 = 0 ∧ x.2 = a := by
 unfold A5b at h
 split at h
 ·rename_i h1; injection h with h; exact ⟨h1, h⟩
 ·cases h
theorem Sa {α : Type} {x : Int × α} {e : Int} (h : A5b x = .bad e) : e ≠ 0 := by
 unfold A5b at h
 split at h
 ·cases h
 ·rename_i h1; injection h with h; exact h ▸ h1
theorem A4d {e : Ev} {b : Int × Int} {x : Int} (h : Oa e b = .bad x) : x ≠ 0 := by
 unfold Oa at h
 split at h
 ·unfold A0r at h
  rcases Bt h with h | ⟨_, _, h⟩
  ·exact Sa h
  ·cases h
 ·split at h
  ·unfold Xe at h
   rcases Bt h with h | ⟨_, _, h⟩
   ·exact Sa h
   ·rcases Bt h with h | ⟨_, _, h⟩
    ·exact Sa h
    ·cases h
  ·cases h
theorem R1 : ∀ (t : T) {e : Ev} {x : Int}, B8 Cg t e = .bad x → x ≠ 0 := T.ind fun t ih e x h => by
 rcases Vt h with h1 | ⟨b, _, h1⟩ | ⟨p, hp, h1 | ⟨c', _, h2⟩⟩
 ·simp only [Cg] at h1
  split at h1
  ·cases h1
  ·rcases Bt h1 with h1 | ⟨_, _, h1⟩
   ·exact (Ov.mp h1).2
   ·cases h1
 ·simp only [Cg] at h1
  rcases Bt h1 with h1 | ⟨_, _, h1⟩
  ·exact (Ov.mp h1).2
  ·cases h1
 ·exact A4d h1
 ·exact ih p hp h2
theorem Uq {t : T} {e : Ev} (h : (An t e).1 = 0) : Kq e = true ∧ Eu t e.1.length e.2.length = 0 ∧ He e = true ∧ (∀ x, x ∈ e.1 → Ah x = 0) ∧ B8 Cg t e = .ok (An t e).2 ∧ Ah (An t e).2 = 0 := by
 unfold An at h ⊢
 split at h
 ·cases h
 rename_i h1
 rw [if_neg h1]
 split at h
 ·rename_i h2; exact absurd h h2
 rename_i h2
 rw [if_neg h2]
 split at h
 ·cases h
 rename_i h3
 rw [if_neg h3]
 have h3 : He e = true ∧ (e.1.all fun x => decide (Ah x = 0)) = true := by
  rw [← Bool.and_eq_true]
  cases hq : (He e && e.1.all fun x => decide (Ah x = 0)) with
  | true => rfl
  | false => exact absurd hq h3
 have h1 : Kq e = true := by
  cases hq : Kq e with
  | true => rfl
  | false => exact absurd hq h1
 cases hq : B8 Cg t e with
 | bad x =>
  rw [hq] at h
  exact absurd h (R1 t hq)
 | ok u =>
  rw [hq] at h
  simp only at h ⊢
  split at h
  ·rename_i h4; exact absurd h h4
  ·rename_i h4
   rw [if_neg h4]
   exact ⟨h1, Decidable.not_not.mp h2, h3.1, fun x hx => of_decide_eq_true (List.all_eq_true.mp h3.2 x hx), rfl, Decidable.not_not.mp h4⟩
abbrev bnd (b : Int × Int) : Prop := (b.1 = 0 ∨ b.1 = 1) ∧ (b.2 = 0 ∨ b.2 = 1) ∧ ¬ (b.1 = 1 ∧ b.2 = 1)
theorem B7e (k : Int) : bnd (0, more k) := ⟨.inl rfl, by have := Tf k; show more k = 0 ∨ more k = 1; omega, fun h => by cases h.1⟩
theorem A6c {CA CB : Type} {A : Tr CA} {B : Tr CB} {k : Int} {f : List Cl} {ks : List T} {bs : List Br} {a b : List Br} {ca : CA} {cb : CB} (ha : C9 A k (.mk f ks :: bs) ca = .ok a) (hb : C9 B k a cb = .ok b) :
  ∃ oa ob, A.Al ca f = .ok oa ∧ (oa = none → ob = none) ∧ (∀ fa, oa = some fa → B.Al cb fa = .ok ob) ∧ ∃ ba bb, C9 A k bs ca = .ok ba ∧ C9 B k ba cb = .ok bb ∧ ((ob = none ∧ b = bb) ∨ ∃ g ka kb, ob = some g ∧ C2 A k ks ca = .ok ka ∧ C2 B k ka cb = .ok kb ∧ b = .mk g kb :: bb) := by
 rw [Cc] at ha
 simp only [Br.Al, Br.kids] at ha
 obtain ⟨oa, a1, ha⟩ := Ab.A2 ha
 cases oa with
 | none => exact ⟨none, none, a1, fun _ => rfl, fun fa h => (by cases h), a, b, ha, hb, .inl ⟨rfl, rfl⟩⟩
 | some fa =>
  obtain ⟨ka, a2, ha⟩ := Ab.A2 ha
  obtain ⟨ba, a3, ha⟩ := Ab.A2 ha
  injection ha with ha
  subst ha
  rw [Cc] at hb
  simp only [Br.Al, Br.kids] at hb
  obtain ⟨ob, b1, hb⟩ := Ab.A2 hb
  cases ob with
  | none => exact ⟨some fa, none, a1, fun h => (by cases h), fun fa' h => (by injection h with h; subst h; exact b1), ba, b, a3, hb, .inl ⟨rfl, rfl⟩⟩
  | some g =>
   obtain ⟨kb, b2, hb⟩ := Ab.A2 hb
   obtain ⟨bb, b3, hb⟩ := Ab.A2 hb
   injection hb with hb
   exact ⟨some fa, some g, a1, fun h => (by cases h), fun fa' h => (by injection h with h; subst h; exact b1), ba, bb, a3, b3, .inr ⟨g, ka, kb, rfl, a2, b2, hb.symm⟩⟩
section
variable {CA CB CC CD : Type} {A : Tr CA} {B : Tr CB} {C : Tr CC} {D : Tr CD} (nv mv : Bool) (R : CA → CB → CC → CD → Int → Int → Prop)
structure Sq4 : Prop where
 leaf : ∀ t a b c x ca cb cc cd v d, R ca cb cc cd v d → D5 t → (mv = true → Iw t v d) → t.kind = 1 → B8 A t ca = .ok a → B8 B a cb = .ok b → B8 C t cc = .ok c → B8 D c cd = .ok x → b = x
 nA : ∀ ca k n nm r u, k ≠ 1 → A.own ca k n nm r ≠ .ok (.inl u)
 nB : ∀ ca k n nm r u, k ≠ 1 → B.own ca k n nm r ≠ .ok (.inl u)
 nC : ∀ ca k n nm r u, k ≠ 1 → C.own ca k n nm r ≠ .ok (.inl u)
 nD : ∀ ca k n nm r u, k ≠ 1 → D.own ca k n nm r ≠ .ok (.inl u)
 own : ∀ ca cb cc cd v d k n nm r pa pb pc pd, R ca cb cc cd v d → (mv = true → d ≤ 24) → O0 k n nm r → k ≠ 1 → (mv = true → within r d = true) → A.own ca k n nm r = .ok (.inr pa) → B.own cb k pa.1 nm pa.2 = .ok (.inr pb) → C.own cc k n nm r = .ok (.inr pc) → D.own cd k pc.1 nm pc.2 = .ok (.inr pd) → pb = pd
 Al : ∀ ca cb cc cd v d f oa ob oc od, R ca cb cc cd v d → (mv = true → d ≤ 24) → A5 f = true → (nv = true → f ≠ []) → (mv = true → within f d = true) → A.Al ca f = .ok oa → (oa = none → ob = none) → (∀ fa, oa = some fa → B.Al cb fa = .ok ob) → C.Al cc f = .ok oc → (oc = none → od = none) → (∀ fc, oc = some fc → D.Al cd fc = .ok od) → ob = od
 Jf : ∀ ca cb cc cd v d b ca' cb' cc' cd', R ca cb cc cd v d → bnd b → (mv = true → d + b.2 ≤ 24) → A.Jf ca b = .ok ca' → B.Jf cb b = .ok cb' → C.Jf cc b = .ok cc' → D.Jf cd b = .ok cd' → R ca' cb' cc' cd' (v + b.1) (d + b.2)
variable {nv mv R}
mutual
theorem sq4 (F : Sq4 (A := A) (B := B) (C := C) (D := D) nv mv R) : ∀ {t a b c x : T} {ca : CA} {cb : CB} {cc : CC} {cd : CD} {v d : Int}, D5 t → (mv = true → Iw t v d) → (nv = true → D8 t = false) → R ca cb cc cd v d → B8 A t ca = .ok a → B8 B a cb = .ok b → B8 C t cc = .ok c → B8 D c cd = .ok x → b = x
 | .mk k n nm r ks ss, a, b, c, x, ca, cb, cc, cd, v, d, hf, hm, hn, hr, ha, hb, hc, hx => by
  by_cases hk : k = 1
  ·exact F.leaf _ _ _ _ _ _ _ _ _ _ _ hr hf hm hk ha hb hc hx
  ·simp only [D5] at hf
   obtain ⟨h1, h2, h3, h4, h5⟩ := hf
   have m1 : mv = true → d ≤ 24 := fun hq => (by have := hm hq; simp only [Iw] at this; exact this.1.1)
   have m3 : mv = true → within r d = true := fun hq => (by have := hm hq; simp only [Iw] at this; exact this.1.2.2)
   have m4 : mv = true → A2m k 0 ks v d := fun hq => (by have := hm hq; simp only [Iw] at this; exact this.2.1)
   have m5 : mv = true → Zw k ss v d := fun hq => (by have := hm hq; simp only [Iw] at this; exact this.2.2)
   have n1 : nv = true → G5 ks = false := fun hq => by
    have := hn hq
    simp only [D8, Bool.or_eq_false_iff] at this
    exact this.1
   have n2 : nv = true → P5 ss = false := fun hq => by
    have := hn hq
    simp only [D8, Bool.or_eq_false_iff] at this
    exact this.2
   rw [Da] at ha hc
   simp only [T.kind, T.n, T.name, T.r, T.kids, T.sys] at ha hc
   obtain ⟨oa, a1, ha⟩ := Ab.A2 ha
   obtain ⟨oc, c1, hc⟩ := Ab.A2 hc
   cases oa with
   | inl v => exact absurd a1 (F.nA _ _ _ _ _ _ hk)
   | inr pa =>
    cases oc with
    | inl v => exact absurd c1 (F.nC _ _ _ _ _ _ hk)
    | inr pc =>
     obtain ⟨ka, a2, ha⟩ := Ab.A2 ha
     obtain ⟨sa, a3, ha⟩ := Ab.A2 ha
     obtain ⟨kc, c2, hc⟩ := Ab.A2 hc
     obtain ⟨sc, c3, hc⟩ := Ab.A2 hc
     injection ha with ha
     injection hc with hc
     subst ha hc
     rw [Da] at hb hx
     simp only [T.kind, T.n, T.name, T.r, T.kids, T.sys] at hb hx
     obtain ⟨ob, b1, hb⟩ := Ab.A2 hb
     obtain ⟨od, d1, hx⟩ := Ab.A2 hx
     cases ob with
     | inl v => exact absurd b1 (F.nB _ _ _ _ _ _ hk)
     | inr pb =>
      cases od with
      | inl v => exact absurd d1 (F.nD _ _ _ _ _ _ hk)
      | inr pd =>
       obtain ⟨kb, b2, hb⟩ := Ab.A2 hb
       obtain ⟨sb, b3, hb⟩ := Ab.A2 hb
       obtain ⟨kd, d2, hx⟩ := Ab.A2 hx
       obtain ⟨sd, d3, hx⟩ := Ab.A2 hx
       injection hb with hb
       injection hx with hx
       subst hb hx
       rw [F.own _ _ _ _ _ _ _ _ _ _ _ _ _ _ hr m1 h1 hk m3 a1 b1 c1 d1, E5z F h4 m4 n1 hr a2 b2 c2 d2, E6a F m1 h5 m5 n2 hr a3 b3 c3 d3]
termination_by structural t => t
theorem E5z (F : Sq4 (A := A) (B := B) (C := C) (D := D) nv mv R) {k : Int} : ∀ {ts a b c x : List T} {i : Nat} {ca : CA} {cb : CB} {cc : CC} {cd : CD} {v d : Int}, Ib ts → (mv = true → A2m k i ts v d) → (nv = true → G5 ts = false) → R ca cb cc cd v d → Cm A k i ts ca = .ok a → Cm B k i a cb = .ok b → Cm C k i ts cc = .ok c → Cm D k i c cd = .ok x → b = x
 | [], a, b, c, x, i, ca, cb, cc, cd, v, d, hf, hm, hn, hr, ha, hb, hc, hx => by
  rw [Ch] at ha hc
  injection ha with ha
  injection hc with hc
  subst ha hc
  rw [Ch] at hb hx
  injection hb with hb
  injection hx with hx
  rw [← hb, ← hx]
 | t :: ts, a, b, c, x, i, ca, cb, cc, cd, v, d, hf, hm, hn, hr, ha, hb, hc, hx => by
  simp only [Ib] at hf
  have hm1 : mv = true → Iw t (v + (binds k i).1) (d + (binds k i).2) := fun hq => (by have := hm hq; simp only [A2m] at this; exact this.1)
  have hm2 : mv = true → A2m k (i + 1) ts v d := fun hq => (by have := hm hq; simp only [A2m] at this; exact this.2)
  have n1 : nv = true → D8 t = false := fun hq => by
   have := hn hq
   simp only [G5, Bool.or_eq_false_iff] at this
   exact this.1
  have n2 : nv = true → G5 ts = false := fun hq => by
   have := hn hq
   simp only [G5, Bool.or_eq_false_iff] at this
   exact this.2
  rw [Cr] at ha hc
  obtain ⟨ca', a1, ha⟩ := Ab.A2 ha
  obtain ⟨ta, a2, ha⟩ := Ab.A2 ha
  obtain ⟨tsa, a3, ha⟩ := Ab.A2 ha
  obtain ⟨cc', c1, hc⟩ := Ab.A2 hc
  obtain ⟨tc, c2, hc⟩ := Ab.A2 hc
  obtain ⟨tsc, c3, hc⟩ := Ab.A2 hc
  injection ha with ha
  injection hc with hc
  subst ha hc
  rw [Cr] at hb hx
  obtain ⟨cb', b1, hb⟩ := Ab.A2 hb
  obtain ⟨tb, b2, hb⟩ := Ab.A2 hb
  obtain ⟨tsb, b3, hb⟩ := Ab.A2 hb
  obtain ⟨cd', d1, hx⟩ := Ab.A2 hx
  obtain ⟨td, d2, hx⟩ := Ab.A2 hx
  obtain ⟨tsd, d3, hx⟩ := Ab.A2 hx
  injection hb with hb
  injection hx with hx
  subst hb hx
  rw [sq4 F hf.1 hm1 n1 (F.Jf _ _ _ _ _ _ _ _ _ _ _ hr (A8t k i) (fun hq => (Ja.mp (hm1 hq)).1.1) a1 b1 c1 d1) a2 b2 c2 d2, E5z F hf.2 hm2 n2 hr a3 b3 c3 d3]
termination_by structural ts => ts
theorem E5y (F : Sq4 (A := A) (B := B) (C := C) (D := D) nv mv R) {k : Int} : ∀ {ts a b c x : List T} {ca : CA} {cb : CB} {cc : CC} {cd : CD} {v d : Int}, Ib ts → (mv = true → A2l k ts v d) → (nv = true → G5 ts = false) → R ca cb cc cd v d → C2 A k ts ca = .ok a → C2 B k a cb = .ok b → C2 C k ts cc = .ok c → C2 D k c cd = .ok x → b = x
 | [], a, b, c, x, ca, cb, cc, cd, v, d, hf, hm, hn, hr, ha, hb, hc, hx => by
  rw [D3] at ha hc
  injection ha with ha
  injection hc with hc
  subst ha hc
  rw [D3] at hb hx
  injection hb with hb
  injection hx with hx
  rw [← hb, ← hx]
 | t :: ts, a, b, c, x, ca, cb, cc, cd, v, d, hf, hm, hn, hr, ha, hb, hc, hx => by
  simp only [Ib] at hf
  have hm1 : mv = true → Iw t v (d + more k) := fun hq => (by have := hm hq; simp only [A2l] at this; exact this.1)
  have hm2 : mv = true → A2l k ts v d := fun hq => (by have := hm hq; simp only [A2l] at this; exact this.2)
  have n1 : nv = true → D8 t = false := fun hq => by
   have := hn hq
   simp only [G5, Bool.or_eq_false_iff] at this
   exact this.1
  have n2 : nv = true → G5 ts = false := fun hq => by
   have := hn hq
   simp only [G5, Bool.or_eq_false_iff] at this
   exact this.2
  rw [Cq] at ha hc
  obtain ⟨ca', a1, ha⟩ := Ab.A2 ha
  obtain ⟨ta, a2, ha⟩ := Ab.A2 ha
  obtain ⟨tsa, a3, ha⟩ := Ab.A2 ha
  obtain ⟨cc', c1, hc⟩ := Ab.A2 hc
  obtain ⟨tc, c2, hc⟩ := Ab.A2 hc
  obtain ⟨tsc, c3, hc⟩ := Ab.A2 hc
  injection ha with ha
  injection hc with hc
  subst ha hc
  rw [Cq] at hb hx
  obtain ⟨cb', b1, hb⟩ := Ab.A2 hb
  obtain ⟨tb, b2, hb⟩ := Ab.A2 hb
  obtain ⟨tsb, b3, hb⟩ := Ab.A2 hb
  obtain ⟨cd', d1, hx⟩ := Ab.A2 hx
  obtain ⟨td, d2, hx⟩ := Ab.A2 hx
  obtain ⟨tsd, d3, hx⟩ := Ab.A2 hx
  injection hb with hb
  injection hx with hx
  subst hb hx
  have hkk := F.Jf _ _ _ _ _ _ _ _ _ _ _ hr (B7e k) (fun hq => (Ja.mp (hm1 hq)).1.1) a1 b1 c1 d1
  rw [show v + ((0, more k) : Int × Int).1 = v from Int.add_zero v] at hkk
  rw [sq4 F hf.1 hm1 n1 hkk a2 b2 c2 d2, E5y F hf.2 hm2 n2 hr a3 b3 c3 d3]
termination_by structural ts => ts
theorem E6a (F : Sq4 (A := A) (B := B) (C := C) (D := D) nv mv R) {k : Int} : ∀ {bs a b c x : List Br} {ca : CA} {cb : CB} {cc : CC} {cd : CD} {v d : Int}, (mv = true → d ≤ 24) → Ou k bs → (mv = true → Zw k bs v d) → (nv = true → P5 bs = false) → R ca cb cc cd v d → C9 A k bs ca = .ok a → C9 B k a cb = .ok b → C9 C k bs cc = .ok c → C9 D k c cd = .ok x → b = x
 | [], a, b, c, x, ca, cb, cc, cd, v, d, hd, hf, hm, hn, hr, ha, hb, hc, hx => by
  rw [C8] at ha hc
  injection ha with ha
  injection hc with hc
  subst ha hc
  rw [C8] at hb hx
  injection hb with hb
  injection hx with hx
  rw [← hb, ← hx]
 | .mk f ks :: bs, a, b, c, x, ca, cb, cc, cd, v, d, hd, hf, hm, hn, hr, ha, hb, hc, hx => by
  simp only [Ou] at hf
  have hb1 : mv = true → within f d = true := fun hq => (by have := hm hq; simp only [Zw] at this; exact this.1)
  have hb2 : mv = true → A2l k ks v d := fun hq => (by have := hm hq; simp only [Zw] at this; exact this.2.1)
  have hb3 : mv = true → Zw k bs v d := fun hq => (by have := hm hq; simp only [Zw] at this; exact this.2.2)
  have nn : nv = true → f ≠ [] ∧ G5 ks = false ∧ P5 bs = false := fun hq => by
   have := hn hq
   simp only [P5, Bool.or_eq_false_iff] at this
   refine ⟨fun h9 => ?_, this.1.2, this.2⟩
   have h8 := this.1.1
   rw [h9] at h8
   cases h8
  obtain ⟨oa, ob, a1, a2, a3, ba, bb, a4, a5, a6⟩ := A6c ha hb
  obtain ⟨oc, od, c1, c2, c3, bc, bd, c4, c5, c6⟩ := A6c hc hx
  have e := F.Al _ _ _ _ _ _ f oa ob oc od hr hd hf.2.1 (fun hq => (nn hq).1) hb1 a1 a2 a3 c1 c2 c3
  have et := E6a F hd hf.2.2.2 hb3 (fun hq => (nn hq).2.2) hr a4 a5 c4 c5
  subst e
  rcases a6 with ⟨e1, e2⟩ | ⟨g, ka, kb, e1, e2, e3, e4⟩
  ·rcases c6 with ⟨e5, e6⟩ | ⟨g', kc, kd, e5, e6, e7, e8⟩
   ·rw [e2, e6, et]
   ·rw [e1] at e5; cases e5
  ·rcases c6 with ⟨e5, e6⟩ | ⟨g', kc, kd, e5, e6, e7, e8⟩
   ·rw [e1] at e5; cases e5
   ·rw [e1] at e5
    injection e5 with e5
    rw [e4, e8, e5, et, E5y F hf.2.2.1 hb2 (fun hq => (nn hq).2.1) hr e2 e3 e6 e7]
termination_by structural bs => bs
end
end
theorem C1x {l : List Cl} {f b : Int} (hl : A6 l = true) (h0 : 0 ≤ f) (hb : 0 ≤ b) (h : ∀ j : Nat, (G3 l).testBit j = true → f ≤ (j : Int) → (j : Int) + b < 24) : ∃ g, Aq b l f = .ok g := by
 have hr := Dn hl
 have hm : ∀ c, c ∈ l → (B1 c f b).1 = 0 := fun c hc => by
  have h24 := List.all_eq_true.mp hr c hc
  have key : ∀ {s : Nat}, (∀ j, s.testBit j = true → (c.pos ||| c.neg).testBit j = true) → (Ae s f b).1 = 0 := fun {s} hs => by
   rw [Ye h0 hb fun x hx => ?_]
   obtain ⟨x0, x1, x2⟩ := D9.mp hx
   by_cases hxf : x < f
   ·exact .inl hxf
   ·right
    have := h x.toNat (Ey.mpr ⟨by omega, c, hc, hs _ x2⟩) A4
    omega
  have p1 := key (s := c.pos) fun j hj => by rw [Nat.testBit_or, hj]; rfl
  have p2 := key (s := c.neg) fun j hj => by rw [Nat.testBit_or, hj, Bool.or_true]
  unfold B1
  rw [if_neg (by rw [h24]; decide), if_neg (by simp [p1]), if_neg (by simp [p2])]
 have h1 : (A3 l f b).1 = 0 := by
  have e := A8a (Yg.mpr hm)
  unfold A3
  rw [if_neg (by rw [hl]; decide), e, if_neg D6]
  refine Sp (List.all_eq_true.mpr fun d hd => ?_) (by rw [List.length_map]; exact Gw hl)
  obtain ⟨c, hc, rfl⟩ := List.mem_map.mp hd
  exact Xg (hm c hc)
 exact ⟨_, by rw [Ik hl h0 hb, if_pos h1]⟩
theorem Pj {l g : List Cl} {f b : Int} (hl : A6 l = true) (h0 : 0 ≤ f) (hb : 0 ≤ b) (h : Aq b l f = .ok g) (j : Nat) (hj : (G3 l).testBit j = true) (hf : f ≤ (j : Int)) : (j : Int) + b < 24 := by
 refine Decidable.byContradiction fun hn => ?_
 obtain ⟨h24, c, hc, hbit⟩ := Ey.mp hj
 have hcl := (W8 hl h0 hb h).1 c hc
 obtain ⟨_, m1, m2, _⟩ := Hu hcl
 rw [Nat.testBit_or, Bool.or_eq_true] at hbit
 rcases hbit with hbit | hbit
 ·rw [B5g h0 hb (D9.mpr ⟨by omega, by omega, by simpa using hbit⟩ : (j : Int) ∈ Ay c.pos) hf A4] at m1
  cases m1
 ·rw [B5g h0 hb (D9.mpr ⟨by omega, by omega, by simpa using hbit⟩ : (j : Int) ∈ Ay c.neg) hf A4] at m2
  cases m2
theorem E0e {l g : List Cl} {f b : Int} (hl : A6 l = true) (h0 : 0 ≤ f) (hb : 0 ≤ b) (h : Aq b l f = .ok g) {j : Nat} (hj : (G3 l).testBit j = true) (hf : f ≤ (j : Int)) : (G3 g).testBit (j + b.toNat) = true := by
 obtain ⟨h24, c, hc, hbit⟩ := Ey.mp hj
 have hlt := Pj hl h0 hb h j hj hf
 obtain ⟨q1, q2⟩ := W8 hl h0 hb h
 obtain ⟨_, m1, m2, m3⟩ := Hu (q1 c hc)
 refine Ey.mpr ⟨by omega, _, (q2 _).mpr ⟨c, hc, rfl⟩, ?_⟩
 rw [m3]
 rw [Nat.testBit_or, Bool.or_eq_true] at hbit ⊢
 rcases hbit with hbit | hbit
 ·exact .inl ((Cz m1 _).mpr ⟨j, h24, hbit, .inr ⟨hf, by omega⟩⟩)
 ·exact .inr ((Cz m2 _).mpr ⟨j, h24, hbit, .inr ⟨hf, by omega⟩⟩)
theorem row_one {r g : List Cl} {f b : Int} (hl : A6 r = true) (h0 : 0 ≤ f) (hb : 0 ≤ b) (h : Aq b r f = .ok g) : Aq 1 g f = Aq (b + 1) r f := by
 have hg := No h hl
 cases h1 : Aq 1 g f with
 | ok x =>
  obtain ⟨y, hy⟩ := C1x (b := b + 1) hl h0 A4 fun j hj hf => by
   have := Pj hg h0 A4 h1 _ (E0e hl h0 hb h hj hf) A4
   omega
  rw [hy, D5l hl h0 hb A4 (Int.le_refl f) A4 h h1 hy]
 | bad e =>
  cases h2 : Aq (b + 1) r f with
  | bad e' => rw [Z7 A4 h0 hg h1, Z7 A4 h0 hl h2]
  | ok y =>
   obtain ⟨x, hx⟩ := C1x (b := 1) hg h0 A4 fun i hi hf => by
    obtain ⟨j, _, hj, h3⟩ := Qf h0 h hi
    rcases h3 with ⟨h3, h4⟩ | ⟨h3, h4⟩
    ·omega
    ·have := Pj hl h0 A4 h2 j hj h3
     omega
   rw [hx] at h1
   cases h1
theorem D7d {a b : Int} (ha : 0 ≤ a) (hb : 0 ≤ b) : B7v (A := As a b) (B := As 0 1) (D := As a (b + 1)) (fun x y z => R3 x y z ∧ 0 ≤ x.2) where
 inl := fun ca cb cc k n nm r u _ _ h => absurd h My
 inr := by
  rintro ca cb cc k n nm r p ⟨⟨rfl, rfl⟩, e⟩ hh h
  obtain ⟨h1, h2, h3⟩ := Sj h
  rw [F5, F5, row_one (D2u hh) e hb h1, h3]
  congr 1
  funext g
  have h4 : Du 0 ca.1 k (Du a ca.1 k n) = Du a ca.1 k n := Qv
  rw [h4, if_neg h2, if_neg]
  unfold Du
  rintro ⟨h5, h6, h7⟩
  split at h6 <;> split at h7 <;> omega
 none := fun ca cb cc f _ _ h => absurd h Nz
 some := by
  rintro ca cb cc f f' ⟨⟨rfl, rfl⟩, e⟩ hf h
  have h1 := Qu h
  rw [Gm, Gm, row_one (B6l hf) e hb h1]
 Jf := by
  rintro ca cb cc b' ca' hb1 hb2 ⟨⟨rfl, rfl⟩, e⟩ h
  have h := B5o h
  subst h
  exact .inl ⟨_, _, rfl, rfl, ⟨rfl, rfl⟩, by dsimp only; omega⟩
def Lf (a b : Nat) (x y : T) : Prop := if a = 0 ∧ b = 0 then y = x else B8 (As a b) x (0, 0) = .ok y
theorem A0h {x y : T} : Lf 0 0 x y ↔ y = x := by unfold Lf; rw [if_pos ⟨rfl, rfl⟩]
theorem Wu {a b : Nat} {x y : T} (h : ¬ (a = 0 ∧ b = 0)) : Lf a b x y ↔ B8 (As a b) x (0, 0) = .ok y := by unfold Lf; rw [if_neg h]
theorem E1x {a b : Nat} {x y z : T} (hx : D5 x) (h : Lf a b x y) (hz : B8 (As 1 0) y (0, 0) = .ok z) : Lf (a + 1) b x z := by
 rw [Wu A4]
 by_cases h0 : a = 0 ∧ b = 0
 ·obtain ⟨rfl, rfl⟩ := h0
  rw [A0h] at h
  subst h
  exact hz
 ·rw [Wu h0] at h
  rw [C6t (D7c (c := 1) A4 A4) hx (show R3 (0, 0) (0, 0) (0, 0) from ⟨rfl, rfl⟩) h] at hz
  rw [← hz]
  congr 1
theorem E1y {a b : Nat} {x y z : T} (hx : D5 x) (h : Lf a b x y) (hz : B8 (As 0 1) y (0, 0) = .ok z) : Lf a (b + 1) x z := by
 rw [Wu A4]
 by_cases h0 : a = 0 ∧ b = 0
 ·obtain ⟨rfl, rfl⟩ := h0
  rw [A0h] at h
  subst h
  exact hz
 ·rw [Wu h0] at h
  rw [C6t (D7d (a := a) (b := b) A4 A4) hx (show R3 (0, 0) (0, 0) (0, 0) ∧ (0 : Int) ≤ 0 from ⟨⟨rfl, rfl⟩, by omega⟩) h] at hz
  rw [← hz]
  congr 1
structure AtE (e0 : Ev) (a b : Nat) (e : Ev) : Prop where
 lv : e.1.length = a + e0.1.length
 v0 : ∀ i, i < a → e.1.getD i t0 = vE i
 v1 : ∀ i, i < e0.1.length → Lf a b (e0.1.getD i t0) (e.1.getD (a + i) t0)
 ld : e.2.length = b + e0.2.length
 d0 : ∀ j, j < b → e.2.getD j [] = [I3 j]
 d1 : ∀ j, j < e0.2.length → Aq b (e0.2.getD j []) 0 = .ok (e.2.getD (b + j) [])
theorem C3z (e : Ev) : AtE e 0 0 e := ⟨by omega, fun i hi => by omega, fun i hi => by rw [A0h, Nat.zero_add], by omega, fun j hj => by omega, fun j hj => by rw [Nat.zero_add]; exact Hf _ _⟩
theorem Li {α β : Type} (g : α → β) {l : List α} {i : Nat} (h : i < l.length) (d : α) (d' : β) : (l.map g).getD i d' = g (l.getD i d) := by
 rw [Cw (d := d') (by simpa using h), Cw (d := d) h, List.getElem_map]
theorem E5t {n : Int} {z : T} (h0 : 0 ≤ n) (h : B8 (As 1 0) (vE n) (0, 0) = .ok z) : z = vE (n + 1) := by
 obtain ⟨rfl, _⟩ := A2q (T4 h0) rfl h
 show T.mk 1 (Du 1 0 1 n) _ _ _ _ = _
 rw [show Du 1 0 1 n = n + 1 from if_pos ⟨rfl, h0⟩]
 rfl
theorem D6s {n : Int} {z : T} (h0 : 0 ≤ n) (h : B8 (As 0 1) (vE n) (0, 0) = .ok z) : z = vE n := by
 obtain ⟨rfl, _⟩ := A2q (T4 h0) rfl h
 show T.mk 1 (Du 0 0 1 n) _ _ _ _ = _
 rw [show Du 0 0 1 n = n from Qv]
 rfl
theorem A5x {e e' : Ev} (h : A0r e = .ok e') : e' = (vE 0 :: e.1.map (fun t => (C6 t 0 1).2), e.2) ∧ ∀ t, t ∈ e.1 → B8 (As 1 0) t (0, 0) = .ok (C6 t 0 1).2 := by
 unfold A0r at h
 obtain ⟨l, h3, h4⟩ := Ab.A2 h
 injection h4 with h4
 obtain ⟨h5, h6⟩ := Y3 h3
 obtain ⟨h7, h8⟩ := Th h5
 rw [h8] at h6
 subst h6
 exact ⟨h4.symm, fun t ht => C4m (h7 t ht)⟩
theorem Yo {e e' : Ev} (h : Xe e = .ok e') : e' = (e.1.map (fun t => (C7 t 0 1).2), [⟨1, 0⟩] :: e.2.map (fun f => (A3 f 0 1).2)) ∧ (∀ t, t ∈ e.1 → B8 (As 0 1) t (0, 0) = .ok (C7 t 0 1).2) ∧ ∀ f, f ∈ e.2 → Aq 1 f 0 = .ok (A3 f 0 1).2 := by
 unfold Xe at h
 obtain ⟨D, h3, h4⟩ := Ab.A2 h
 obtain ⟨l, h5, h6⟩ := Ab.A2 h4
 injection h6 with h6
 obtain ⟨a1, a2⟩ := Y3 h3
 obtain ⟨a3, a4⟩ := Th a1
 rw [a4] at a2
 subst a2
 obtain ⟨b1, b2⟩ := Y3 h5
 obtain ⟨b3, b4⟩ := Th b1
 rw [b4] at b2
 subst b2
 refine ⟨h6.symm, fun t ht => C7h (b3 t ht), fun f hf => ?_⟩
 have h9 := a3 f hf
 rw [Ik (Fx h9).1 A4 A4, if_pos h9]
theorem E4w {e0 e e' : Ev} {a b : Nat} (hf : ∀ x, x ∈ e0.1 → D5 x) (h : AtE e0 a b e) (hk : A0r e = .ok e') : AtE e0 (a + 1) b e' := by
 obtain ⟨rfl, ht⟩ := A5x hk
 have hl := h.lv
 refine ⟨by simp only [List.length_cons, List.length_map]; omega, fun i hi => ?_, fun i hi => ?_, h.ld, h.d0, h.d1⟩
 ·cases i with
  | zero => rfl
  | succ i =>
   simp only [List.getD_cons_succ]
   rw [Li _ (show i < e.1.length by omega) t0]
   have hm := ht _ (Ac (d := t0) (show i < e.1.length by omega))
   rw [h.v0 i A4] at hm ⊢
   rw [E5t A4 hm]
   rfl
 ·simp only [show a + 1 + i = (a + i) + 1 by omega, List.getD_cons_succ]
  rw [Li _ (show a + i < e.1.length by omega) t0]
  exact E1x (hf _ (Ac hi)) (h.v1 i hi) (ht _ (Ac (show a + i < e.1.length by omega)))
theorem D9v {j : Nat} {z : List Cl} (hj : j < 24) (h : Aq 1 [I3 (j : Int)] 0 = .ok z) : z = [I3 ((j + 1 : Nat) : Int)] := by
 have hr : A6 [I3 (j : Int)] = true := Lm
 have h1 := Pj hr A4 A4 h j (Ey.mpr ⟨hj, _, List.mem_singleton.mpr rfl, by
  show (El (j : Int) ||| 0).testBit j = true
  rw [Nat.or_zero]
  exact Ku.mpr ⟨⟨by omega, by omega⟩, rfl⟩⟩) A4
 have h2 := B5p (i := j) (d := 1) A4 A4 A4
 rw [Ik hr A4 A4, if_pos (by rw [h2]), h2] at h
 injection h with h
 exact h.symm
theorem E4y {e0 e e' : Ev} {a b : Nat} (hb : b ≤ 24) (hf : ∀ x, x ∈ e0.1 → D5 x) (hr : ∀ f, f ∈ e0.2 → A6 f = true) (h : AtE e0 a b e) (hk : Xe e = .ok e') : AtE e0 a (b + 1) e' := by
 obtain ⟨rfl, ht, hd⟩ := Yo hk
 have hl := h.lv
 have hl2 := h.ld
 refine ⟨by simp only [List.length_map]; omega, fun i hi => ?_, fun i hi => ?_, by simp only [List.length_cons, List.length_map]; omega, fun j hj => ?_, fun j hj => ?_⟩
 ·show (e.1.map _).getD i t0 = _
  rw [Li _ (show i < e.1.length by omega) t0]
  have hm := ht _ (Ac (d := t0) (show i < e.1.length by omega))
  rw [h.v0 i A4] at hm ⊢
  exact D6s A4 hm
 ·show Lf a (b + 1) _ ((e.1.map _).getD (a + i) t0)
  rw [Li _ (show a + i < e.1.length by omega) t0]
  exact E1y (hf _ (Ac hi)) (h.v1 i hi) (ht _ (Ac (show a + i < e.1.length by omega)))
 ·cases j with
  | zero => rfl
  | succ j =>
   simp only [List.getD_cons_succ]
   rw [Li _ (show j < e.2.length by omega) []]
   have hm := hd _ (Ac (d := []) (show j < e.2.length by omega))
   rw [h.d0 j A4] at hm ⊢
   exact D9v A4 hm
 ·simp only [show b + 1 + j = (b + j) + 1 by omega, List.getD_cons_succ]
  rw [Li _ (show b + j < e.2.length by omega) []]
  have hm := hd _ (Ac (d := []) (show b + j < e.2.length by omega))
  have h1 := h.d1 j hj
  rw [row_one (hr _ (Ac hj)) A4 A4 h1] at hm
  exact hm
theorem D7p {e e' : Ev} {e0 : Ev} {a b : Nat} (h : AtE e0 a b e) (hk : Xe e = .ok e') : b < 24 ∨ 24 < b := by
 refine Decidable.byContradiction fun hn => ?_
 have hb : b = 24 := by omega
 obtain ⟨_, _, hd⟩ := Yo hk
 have hm := hd _ (Ac (d := []) (show 23 < e.2.length by have := h.ld; omega))
 rw [h.d0 23 A4] at hm
 have := Pj (Lm (i := ((23 : Nat) : Int))) A4 A4 hm 23 (Ey.mpr ⟨by decide, _, List.mem_singleton.mpr rfl, by decide⟩) A4
 omega
theorem C3y {e0 e e' : Ev} {a b : Nat} {p : Int × Int} (hb : b ≤ 24) (hf : ∀ x, x ∈ e0.1 → D5 x) (hr : ∀ f, f ∈ e0.2 → A6 f = true) (hp : bnd p) (h : AtE e0 a b e) (hk : Oa e p = .ok e') : b + p.2.toNat ≤ 24 ∧ AtE e0 (a + p.1.toNat) (b + p.2.toNat) e' := by
 obtain ⟨p1, p2⟩ := p
 simp only at hp ⊢
 unfold Oa at hk
 by_cases h1 : p1 = 1
 ·have h2 : p2 = 0 := by omega
  subst h1 h2
  rw [if_pos rfl] at hk
  exact ⟨hb, E4w hf h hk⟩
 ·have h1 : p1 = 0 := by omega
  subst h1
  rw [if_neg (show ¬ ((0 : Int) = 1) by decide)] at hk
  by_cases h3 : p2 = 1
  ·subst h3
   rw [if_pos rfl] at hk
   have := D7p h hk
   exact ⟨by show b + 1 ≤ 24; omega, E4y hb hf hr h hk⟩
  ·have h3 : p2 = 0 := by omega
   subst h3
   rw [if_neg (show ¬ ((0 : Int) = 1) by decide)] at hk
   injection hk with hk
   subst hk
   exact ⟨hb, h⟩
theorem D3n {D : List (List Cl)} {P N : Wd} {j : Nat} (h : D.length ≤ j) : (¬ evP D P N j) ∧ evN D P N j := by
 have e : D.getD j [] = [] := by rw [List.getD_eq_getElem?_getD, List.getElem?_eq_none h]; rfl
 unfold evP evN
 rw [e]
 exact ⟨T7, T7⟩
theorem E4x {e0 e : Ev} {a b : Nat} (hr : ∀ f, f ∈ e0.2 → A6 f = true) (hb : b ≤ 24) (h : AtE e0 a b e) (P N : Wd) (j : Nat) : evP e.2 P N j ↔ if j < b then P j else evP e0.2 (S4 P 0 b) (S4 N 0 b) (j - b) := by
 by_cases h1 : j < b
 ·rw [if_pos h1]
  unfold evP
  rw [h.d0 j h1, A0c ⟨by omega, by omega⟩, Int.toNat_natCast]
 ·rw [if_neg h1]
  by_cases h2 : j - b < e0.2.length
  ·unfold evP
   have h3 := h.d1 (j - b) h2
   rw [show b + (j - b) = j by omega] at h3
   exact B3j (hr _ (Ac h2)) h3
  ·have e1 := (D3n (D := e.2) (P := P) (N := N) (j := j) (by have := h.ld; omega)).1
   have e2 := (D3n (D := e0.2) (P := S4 P 0 b) (N := S4 N 0 b) (j := j - b) A4).1
   exact ⟨fun h => absurd h e1, fun h => absurd h e2⟩
theorem B7i {e0 e : Ev} {a b : Nat} (hr : ∀ f, f ∈ e0.2 → A6 f = true) (h : AtE e0 a b e) (j : Nat) : A6 (e.2.getD j []) = true := by
 by_cases h1 : j < b
 ·rw [h.d0 j h1]; exact Lm
 ·by_cases h2 : j - b < e0.2.length
  ·have h3 := h.d1 (j - b) h2
   rw [show b + (j - b) = j by omega] at h3
   exact No h3 (hr _ (Ac h2))
  ·rw [List.getD_eq_getElem?_getD, List.getElem?_eq_none (by have := h.ld; omega)]
   exact R0
theorem B1p {t : T} {e : Ev} (hk : t.kind = 1) : B8 Cg t e = .ok (e.1.getD t.n.toNat t0) := by
 rw [Da]
 have : Cg.own e t.kind t.n t.name t.r = .ok (.inl (e.1.getD t.n.toNat t0)) := by
  simp only [Cg]
  rw [if_pos hk]
 rw [this]
 rfl
theorem D3p {e : Ev} {k n : Int} {nm : ByteArray} {r : List Cl} {u : T} (hk : k ≠ 1) : Cg.own e k n nm r ≠ .ok (.inl u) := fun h => by
 simp only [Cg] at h
 rw [if_neg hk] at h
 obtain ⟨g, _, h⟩ := Ab.A2 h
 injection h with h
 cases h
theorem C3l {e : Ev} {k n : Int} {nm : ByteArray} {r : List Cl} {p : Int × List Cl} (hk : k ≠ 1) (h : Cg.own e k n nm r = .ok (.inr p)) : p.1 = 0 ∧ I2 (decide (k = 14)) e.2 r = (0, p.2) := by
 simp only [Cg] at h
 rw [if_neg hk] at h
 obtain ⟨g, hg, h⟩ := Ab.A2 h
 injection h with h
 injection h with h
 subst h
 exact ⟨rfl, O3.mp hg⟩
theorem B6r {e : Ev} {f : List Cl} {o : Option (List Cl)} (h : Cg.Al e f = .ok o) : ∃ g, I2 true e.2 f = (0, g) ∧ o = if g = [] then none else some g := by
 simp only [Cg] at h
 obtain ⟨g, hg, h⟩ := Ab.A2 h
 injection h with h
 refine ⟨g, O3.mp hg, ?_⟩
 rw [← h]
 by_cases h1 : g = []
 ·subst h1; rfl
 ·rw [if_neg h1, if_neg (fun h2 => h1 (List.eq_nil_of_length_eq_zero h2))]
theorem D2v {k n : Int} {nm : ByteArray} {r : List Cl} (h : O0 k n nm r) : C3 (decide (k = 14)) r := by
 obtain ⟨q1, q2⟩ := V7 h
 unfold C3
 by_cases h14 : k = 14
 ·rw [if_pos (by simp [h14])]; exact q1 h14
 ·rw [if_neg (by simp [h14])]; exact q2
theorem A6w {p : Bool} {l m : List Cl} (h1 : C3 p l) (h2 : C3 p m) (h : ∀ P N, Ss p P N → (sat l P N ↔ sat m P N)) : l = m := by
 cases p with
 | false => exact B6g h1 h2 fun P N => h P N fun h => by cases h
 | true => exact B6m h1 h2 fun P N hw => h P N fun _ => hw
theorem D6m {a b : Int} {c : Int × Int} {n : Int} {z : T} (h0 : 0 ≤ n) (h : B8 (As a b) (vE n) c = .ok z) : z = vE (if c.1 ≤ n then n + a else n) := by
 obtain ⟨rfl, _⟩ := A2q (T4 h0) rfl h
 unfold Du vE
 simp only [T.n]
 congr 1
 by_cases h1 : c.1 ≤ n
 ·rw [if_pos ⟨trivial, h1⟩, if_pos h1]
 ·rw [if_neg (fun h => h1 h.2), if_neg h1]
theorem D9a {a b : Nat} {n : Int} {z : T} (h0 : 0 ≤ n) (h : Lf a b (vE n) z) : z = vE (n + a) := by
 unfold Lf at h
 split at h
 ·rename_i h1
  rw [h, h1.1]
  congr 1
  omega
 ·rw [D6m h0 h, if_pos h0]
theorem A0i {k n : Int} {nm : ByteArray} {r : List Cl} {p : Int × List Cl} (h : X1.own () k n nm r = .ok (.inr p)) : p = (n, r) := by
 injection h with h
 injection h with h
 exact h.symm
theorem B3o {i : Nat} {b : Int} {z : List Cl} (hi : i < 24) (hb : 0 ≤ b) (h : Aq b [I3 (i : Int)] 0 = .ok z) : z = [I3 ((i : Int) + b)] := by
 have hr : A6 [I3 (i : Int)] = true := Lm
 have h1 := Pj hr A4 hb h i (Ey.mpr ⟨hi, _, List.mem_singleton.mpr rfl, by
  show (El (i : Int) ||| 0).testBit i = true
  rw [Nat.or_zero]
  exact Ku.mpr ⟨⟨by omega, by omega⟩, rfl⟩⟩) A4
 have h2 := B5p (i := i) (d := b) A4 hb A4
 rw [Ik hr A4 hb, if_pos (by rw [h2]), h2] at h
 injection h with h
 exact h.symm
theorem Tl (d : Nat) : (L3 d).length = d := by unfold L3; simp
theorem X0 (d : Nat) : (Rq d).length = d := by unfold Rq; simp
theorem C3f {v i : Nat} (h : i < v) : (Rq v).getD i t0 = vE (i : Int) := by
 unfold Rq
 rw [Cw (d := t0) (by simpa using h), List.getElem_map, List.getElem_range]
 rfl
theorem D4e {l : List T} {d a b : Nat} {e : Ev} (hb : b + d ≤ 24) (h : AtE (l, L3 d) a b e) : e.2 = L3 (b + d) := by
 have hl : e.2.length = b + d := by have := h.ld; rw [this]; show b + (L3 d).length = _; rw [Tl]
 refine List.ext_getElem (by rw [hl, Tl]) fun j h1 h2 => ?_
 rw [← Cw (d := []) h1, ← Cw (d := []) h2, Tm A4]
 by_cases hj : j < b
 ·exact h.d0 j hj
 ·have h3 := h.d1 (j - b) (by show j - b < (L3 d).length; rw [Tl]; omega)
  rw [show b + (j - b) = j by omega] at h3
  have h3 : Aq b ((L3 d).getD (j - b) []) 0 = _ := h3
  rw [Tm A4] at h3
  rw [B3o A4 A4 h3]
  congr 2
  omega
theorem B6c {v : Nat} : ∀ x, x ∈ Rq v → D5 x := fun x hx => by
 obtain ⟨n, _, rfl⟩ := D6w hx
 exact T4 A4
theorem Pt {d : Nat} : ∀ f, f ∈ L3 d → A6 f = true := fun f hf => by
 obtain ⟨i, _, rfl⟩ := D6x hf
 exact Lm
theorem B1a {t u : T} {c : Int × Int} (hf : D5 t) (h : B8 (As 0 0) t c = .ok u) : u = t := by
 rcases Yf (c := c) hf with h1 | ⟨h1, _⟩
 ·rw [h] at h1; injection h1
 ·rw [h] at h1; cases h1
theorem B3d {u : T} {v d : Nat} (hu : D5 u) : Sq4 (A := Cg) (B := X1) (C := X1) (D := Ck 0 u) true true (fun ca _ _ cd vv dd => ∃ a b : Nat, cd = ((a : Int), (b : Int)) ∧ AtE (u :: Rq v, L3 d) a b ca ∧ b ≤ 24 ∧ vv = a + v + 1 ∧ dd = b + d) where
 leaf := by
  rintro t a' b' c x ca cb cc cd vv dd ⟨a, b, rfl, k1, hb, rfl, rfl⟩ hft hm hk h1 h2 h3 h4
  rw [id_eq] at h2 h3
  injection h2 with h2
  injection h3 with h3
  subst h2 h3
  obtain ⟨e, hn0⟩ := Kr hft hk
  have hlt := (Ja.mp (hm rfl)).1.2.1 hk
  rw [B1p hk] at h1
  injection h1 with h1
  subst h1
  have hlen : (u :: Rq v : List T).length = v + 1 := by rw [List.length_cons, X0]
  rcases C9z hft hk h4 with ⟨q1, q2, rfl⟩ | ⟨q1, rfl⟩
  ·simp only [Int.zero_add] at q1 q2 ⊢
   have k3 := k1.v1 0 (by show 0 < (u :: Rq v : List T).length; omega)
   rw [Nat.add_zero] at k3
   have k3 : Lf a b u (ca.1.getD a t0) := k3
   rw [show t.n.toNat = a by omega]
   obtain ⟨w1, _, _, w4⟩ := D3z q2
   by_cases h0 : a = 0 ∧ b = 0
   ·obtain ⟨rfl, rfl⟩ := h0
    rw [A0h] at k3
    rw [k3]
    exact (B1a hu w4).symm
   ·rw [Wu h0] at k3
    rw [k3] at w4
    injection w4
  ·simp only [Int.zero_add] at q1 ⊢
   by_cases q2 : t.n.toNat < a
   ·rw [k1.v0 _ q2, if_neg A4, show ((t.n.toNat : Nat) : Int) = t.n by omega]
    rfl
   ·have q3 : t.n.toNat - a - 1 < v := by omega
    have k3 := k1.v1 (t.n.toNat - a) (by show _ < (u :: Rq v : List T).length; omega)
    rw [show a + (t.n.toNat - a) = t.n.toNat by omega] at k3
    have k3 : Lf a b ((u :: Rq v : List T).getD (t.n.toNat - a) t0) (ca.1.getD t.n.toNat t0) := k3
    rw [show t.n.toNat - a = (t.n.toNat - a - 1) + 1 by omega, List.getD_cons_succ, C3f q3] at k3
    rw [D9a A4 k3, if_pos A4]
    unfold vE
    congr 1
    omega
 nA := fun _ _ _ _ _ _ hk => D3p hk
 nB := fun _ _ _ _ _ _ _ h => (by injection h with h; cases h)
 nC := fun _ _ _ _ _ _ _ h => (by injection h with h; cases h)
 nD := fun _ _ _ _ _ _ hk => D5p hk
 own := by
  rintro ca cb cc cd vv dd k n nm r pa pb pc pd ⟨a, b, rfl, k1, hb, rfl, rfl⟩ hd hh hk hw h1 h2 h3 h4
  have hd := hd rfl
  have hw := hw rfl
  have h2 := A0i h2
  have h3 := A0i h3
  subst h2 h3
  rw [M1 hk] at h4
  injection h4 with h4
  injection h4 with h4
  subst h4
  obtain ⟨a1, a2⟩ := C3l hk h1
  have hp := D2v hh
  rw [D4e A4 k1, D2l A4 hp (Q6 A4 (Dn (Ew hp)) (by rw [show (((b + d : Nat)) : Int) = b + d by omega]; exact hw))] at a2
  injection a2 with _ a2
  exact Prod.ext (by show pa.1 = n; rw [a1]; exact (hh.1 hk).symm) a2.symm
 Al := by
  rintro ca cb cc cd vv dd f oa ob oc od ⟨a, b, rfl, k1, hb, rfl, rfl⟩ hd hf9 hnv hw h1 h1n h2 h3 h3n h4
  have hd := hd rfl
  have hw := hw rfl
  injection h3 with h3
  subst h3
  have h4 := h4 _ rfl
  rw [Pl] at h4
  injection h4 with h4
  subst h4
  obtain ⟨g, a1, rfl⟩ := B6r h1
  rw [D4e A4 k1, D2l A4 (show C3 true f from hf9) (Q6 A4 (Dn (Cy hf9).1) (by rw [show (((b + d : Nat)) : Int) = b + d by omega]; exact hw))] at a1
  injection a1 with _ a1
  subst a1
  have hne := hnv rfl
  have h2 := h2 f (if_neg hne)
  injection h2 with h2
  exact h2.symm
 Jf := by
  rintro ca cb cc cd vv dd b' ca' cb' cc' cd' ⟨a, b, rfl, k1, hb, rfl, rfl⟩ p1 p2 h1 h2 h3 h4
  have p2 := p2 rfl
  obtain ⟨m1, m2⟩ := C3y hb (fun x hx => by
   rcases List.mem_cons.mp hx with rfl | hx
   ·exact hu
   ·exact B6c x hx) Pt p1 k1 h1
  injection h4 with h4
  subst h4
  exact ⟨_, _, Prod.ext (by dsimp only; omega) (by dsimp only; omega), m2, m1, by omega, by omega⟩
theorem C7d {t u : T} {v d : Nat} (hv : v ≤ 200) (hd : d ≤ 24) (hn : D8 t = false) (h1 : (An t (u :: Rq v, L3 d)).1 = 0) (h2 : (Bp t 0 u).1 = 0) : (An t (u :: Rq v, L3 d)).2 = (Bp t 0 u).2 := by
 obtain ⟨p1, p2, p3, p4, p5, p6⟩ := Uq h1
 obtain ⟨q1, q2, _, _, q5⟩ := B0e h2
 have hl : ((u :: Rq v, L3 d) : Ev).1.length = v + 1 := by show (u :: Rq v : List T).length = _; rw [List.length_cons, X0]
 have hl2 : ((u :: Rq v, L3 d) : Ev).2.length = d := Tl d
 rw [hl, hl2] at p2
 obtain ⟨_, _, _, hf, hm⟩ := (T9 (t := t) A4 A4).mp p2
 have hlid : Zh 0 = 0 := by decide
 rw [hlid] at q5
 exact sq4 (B3d (v := v) (d := d) (M7.mp q2).2) hf (fun _ => hm) (fun _ => hn) (ca := (u :: Rq v, L3 d)) (cb := ()) (cc := ()) (cd := (0, 0)) ⟨0, 0, rfl, C3z _, by omega, by omega, by omega⟩ p5 (id_eq _) (id_eq t) q5
theorem B8l {S : Nat → Prop} {f : List Cl} {P N P' N' : Wd} (hf : Dj S f) (h1 : ∀ j, S j → (P j ↔ P' j)) (h2 : ∀ j, S j → (N j ↔ N' j)) : sat f P N ↔ sat f P' N' := by
 have key : ∀ c, c ∈ f → (Gf c P N ↔ Gf c P' N') := fun c hc => by
  have hs := hf c hc
  constructor
  ·rintro ⟨a1, a2⟩
   exact ⟨fun j hj => (h1 j (hs j (by rw [Nat.testBit_or, hj]; rfl))).mp (a1 j hj), fun j hj => (h2 j (hs j (by rw [Nat.testBit_or, hj, Bool.or_true]))).mp (a2 j hj)⟩
  ·rintro ⟨a1, a2⟩
   exact ⟨fun j hj => (h1 j (hs j (by rw [Nat.testBit_or, hj]; rfl))).mpr (a1 j hj), fun j hj => (h2 j (hs j (by rw [Nat.testBit_or, hj, Bool.or_true]))).mpr (a2 j hj)⟩
 constructor
 ·rintro ⟨c, hc, h⟩; exact ⟨c, hc, (key c hc).mp h⟩
 ·rintro ⟨c, hc, h⟩; exact ⟨c, hc, (key c hc).mpr h⟩
def Ui (i : Int) (s : List Cl) : Ej := ⟨fun d f => E2 (C1 Bn i s d f) (Dh i d), fun d f => E2 (C1 B6 i s d f) (Dh i d)⟩
theorem C6s (i : Int) (s : List Cl) : B7v (A := Bx (Sb i s)) (B := Bx (Ow i)) (D := Bx (Ui i s)) (fun a b c => b = a ∧ c = a) where
 inl := fun ca cb cc k n nm r u _ _ h => absurd h Mp
 inr := by
  rintro ca cb cc k n nm r p ⟨rfl, rfl⟩ _ h
  obtain ⟨h1, h2⟩ := Qe.mp h
  show (Vg _).bind _ = (Vg _).bind _
  have e : (Ow i).row k cc p.2 = (Ui i s).row k cc r := by
   unfold Ej.row at h1 ⊢
   split
   ·rename_i hk
    rw [if_pos hk] at h1
    show Dh i cc p.2 = E2 (C1 B6 i s cc r) (Dh i cc)
    rw [show C1 B6 i s cc r = (0, p.2) from h1]
    rfl
   ·rename_i hk
    rw [if_neg hk] at h1
    show Dh i cc p.2 = E2 (C1 Bn i s cc r) (Dh i cc)
    rw [show C1 Bn i s cc r = (0, p.2) from h1]
    rfl
  rw [e, h2]
 none := by
  rintro ca cb cc f ⟨rfl, rfl⟩ _ h
  have h1 := Jj.mp h
  refine Jj.mpr ?_
  show E2 (C1 B6 i s cc f) (Dh i cc) = _
  rw [show C1 B6 i s cc f = (0, []) from h1]
  rfl
 some := by
  rintro ca cb cc f f' ⟨rfl, rfl⟩ _ h
  obtain ⟨h1, _⟩ := Ji.mp h
  show (Vg _).bind _ = (Vg _).bind _
  have e : (Ow i).Al cc f' = (Ui i s).Al cc f := by
   show Dh i cc f' = E2 (C1 B6 i s cc f) (Dh i cc)
   rw [show C1 B6 i s cc f = (0, f') from h1]
   rfl
  rw [e]
 Jf := by
  rintro ca cb cc b ca' _ _ ⟨rfl, rfl⟩ h
  injection h with h
  subst h
  exact .inl ⟨_, _, rfl, rfl, rfl, rfl⟩
theorem A5q {t : T} {i : Int} {r : List Cl} (h : (Bv t i r).1 = 0) : Ah t = 0 ∧ (0 ≤ i ∧ i < 24) ∧ A6 r = true ∧ (A3 r i 1).1 = 0 ∧ B8 (Bx (Ui i (A3 r i 1).2)) t 0 = .ok (Bv t i r).2 := by
 unfold Bv at h ⊢
 split at h
 ·rename_i h1; exact absurd h h1
 rename_i h1
 rw [if_neg h1]
 split at h
 ·rename_i h2; exact absurd h h2
 rename_i h2
 rw [if_neg h2]
 obtain ⟨w1, w2, w3⟩ := A0o (Decidable.not_not.mp h1)
 have hf := (M7.mp w1).2
 refine ⟨w1, w2, w3, Decidable.not_not.mp h2, ?_⟩
 rcases A5w (W := Sb i (A3 r i 1).2) (t := t) (d := 0) with ⟨u, a1, a2⟩ | ⟨e, a1, a2⟩
 ·rw [a2, A0w rfl] at h ⊢
  rw [← C6t (C6s i _) hf (show (0 : Int) = 0 ∧ (0 : Int) = 0 from ⟨rfl, rfl⟩) a1]
  rcases A5w (W := Ow i) (t := u) (d := 0) with ⟨x, b1, b2⟩ | ⟨e, b1, b2⟩
  ·rw [b2]; exact b1
  ·rw [b2] at h; exact absurd h (M0 u b1)
 ·rw [a2] at h
  rw [Xx (M0 t a1)] at h
  exact absurd h (M0 t a1)
def tkP (r : List Cl) (d : Nat) (P N : Wd) : Wd := fun j => if j < d then P j else if j = d then sat r (S4 P 0 d) (S4 N 0 d) else P (j - 1)
def tkN (r : List Cl) (d : Nat) (P N : Wd) : Wd := fun j => if j < d then N j else if j = d then ¬ sat r (Rr (S4 N 0 d)) (Rr (S4 P 0 d)) else N (j - 1)
theorem A7t {r : List Cl} {d : Nat} (h1 : (A3 r 0 1).1 = 0) (h2 : (A3 (A3 r 0 1).2 0 d).1 = 0) : Dj (fun j => (j : Int) ≠ d) (A3 (A3 r 0 1).2 0 d).2 := fun c hc j hj => by
 have r1 : Aq 1 r 0 = .ok (A3 r 0 1).2 := by rw [Ik (Fx h1).1 A4 A4, if_pos h1]
 have r2 : Aq d (A3 r 0 1).2 0 = .ok (A3 (A3 r 0 1).2 0 d).2 := by rw [Ik (Fx h2).1 A4 A4, if_pos h2]
 have hr := List.all_eq_true.mp (Dn (Zn h2)) c hc
 obtain ⟨b1, b2⟩ := Dx hr
 have h24 : j < 24 := by
  rw [Nat.testBit_or, Bool.or_eq_true] at hj
  rcases hj with hj | hj
  ·exact b1 j hj
  ·exact b2 j hj
 obtain ⟨k, _, hk, q1⟩ := Qf A4 r2 (Ey.mpr ⟨h24, c, hc, hj⟩)
 obtain ⟨m, _, hm, q2⟩ := Qf A4 r1 hk
 omega
theorem C7f {l : List Cl} {i d : Int} (hl : A5 l = true) (h : (Dh i d l).1 = 0) : A5 (Dh i d l).2 = true := by
 have hf : A6 (Dh i d l).2 = true := Gx h
 obtain ⟨h1, h2⟩ := Cy hl
 unfold A5
 rw [Bool.and_eq_true, Bool.not_eq_true']
 refine ⟨hf, ?_⟩
 rw [List.any_eq_false]
 intro c hc
 obtain ⟨e, he, rfl⟩ := List.mem_map.mp (I9 h hc)
 rw [Bool.not_eq_true]
 refine Lo.mpr fun k hk => ?_
 have hcalm := Lo.mp (h2 e he)
 by_cases h0 : 0 ≤ i + d
 ·obtain ⟨j, _, j1, j2⟩ := (Pv h0).mp hk.1
  obtain ⟨m, _, m1, m2⟩ := (Pv h0).mp hk.2
  have : j = m := by omega
  subst this
  exact hcalm j ⟨j1, m1⟩
 ·have e1 : Fa e.pos (i + d) = e.pos &&& 16777215 := by unfold Fa; rw [if_neg A4]
  have e2 : Fa e.neg (i + d) = e.neg &&& 16777215 := by unfold Fa; rw [if_neg A4]
  have h3 : (e.pos &&& 16777215).testBit k = true := by rw [← e1]; exact hk.1
  have h4 : (e.neg &&& 16777215).testBit k = true := by rw [← e2]; exact hk.2
  rw [Nat.testBit_and, Bool.and_eq_true] at h3 h4
  exact hcalm k ⟨h3.1, h4.1⟩
theorem B3b {p : Bool} {r f x : List Cl} {d : Nat} (hr : (A3 r 0 1).1 = 0) (hp : C3 p f) (h : E2 (C1 (if p = true then B6 else Bn) 0 (A3 r 0 1).2 d f) (Dh 0 d) = (0, x)) :
  C3 p x ∧ ∀ P N, Ss p P N → (sat x P N ↔ sat f (tkP r d P N) (tkN r d P N)) := by
 have h0 : (E2 (C1 (if p = true then B6 else Bn) 0 (A3 r 0 1).2 d f) (Dh 0 d)).1 = 0 := by rw [h]
 obtain ⟨a1, a2, a3⟩ := C4 h0
 rw [a3] at h
 have hff := Ew hp
 generalize ha : (C1 (if p = true then B6 else Bn) 0 (A3 r 0 1).2 d f).2 = y at *
 have hy : C1 (if p = true then B6 else Bn) 0 (A3 r 0 1).2 d f = (0, y) := Prod.ext a1 ha
 have hry : C3 p y := by
  unfold C3 at hp ⊢
  cases p with
  | false => simp only [Bool.false_eq_true, if_false] at hp hy ⊢; exact (Z3 (P := fun _ => True) (N := fun _ => True) hp hy).1
  | true => simp only [if_true] at hp hy ⊢; exact (Z4 hp hy).1
 have hgone : Dj (fun j => (j : Int) ≠ d) y := by
  by_cases hh : Fv (G3 f) (0 + (d : Int)) = false
  ·unfold C1 at hy
   rw [if_pos hh] at hy
   injection hy with _ hy
   subst hy
   intro c hc j hj
   have := B6d (Dn hff) hh hc j hj
   omega
  ·unfold C1 at hy
   rw [if_neg hh] at hy
   obtain ⟨q1, q2, q3⟩ := C4 (show (E2 (A3 (A3 r 0 1).2 0 d) fun s => (if p = true then B6 else Bn) f (0 + (d : Int)) s).1 = 0 by rw [hy])
   rw [q3] at hy
   have hin : Dj (fun j => (j : Int) ≠ d) ((if p = true then B6 else Bn) f (0 + (d : Int)) (A3 (A3 r 0 1).2 0 d).2).2 := by
    have hc : ∀ c, c ∈ f → Zz (fun j => (j : Int) ≠ d) (Cn c (0 + (d : Int))) := fun c hc j hj => by
     obtain ⟨b1, b2⟩ := Dx (List.all_eq_true.mp (Dn hff) c hc)
     have := (C9b (c := c) (i := 0 + (d : Int)) (d := 24) (fun j hj => by
      rw [Nat.testBit_or, Bool.or_eq_true] at hj
      rcases hj with hj | hj
      ·have := b1 j hj; omega
      ·have := b2 j hj; omega) j hj).2
     omega
    cases p with
    | false => simp only [Bool.false_eq_true, if_false]; exact A4z hc (A7t hr q1)
    | true => simp only [if_true]; exact A5a hc (A7t hr q1)
   rw [hy] at hin
   exact hin
 have hx : x = (Dh 0 d y).2 := by rw [h]
 have hd : ∀ P N : Wd, _ := fun P N => C9l (P := P) (N := N) (f := y) (i := 0) (d := d) (fun c hc => List.all_eq_true.mp (Dn (Ew hry)) c hc) A4 a2
 simp only [← hx] at hd
 refine ⟨?_, fun P N hw => ?_⟩
 ·unfold C3 at hry ⊢
  cases p with
  | false => simp only [Bool.false_eq_true, if_false] at hry ⊢; rw [hx]; exact Gx a2
  | true => simp only [if_true] at hry ⊢; rw [hx]; exact C7f hry a2
 ·let Q : Wd := fun j => if j < d then P j else if j = d then False else P (j - 1)
  let M : Wd := fun j => if j < d then N j else if j = d then False else N (j - 1)
  have e1 : sat y (drW P (0 + (d : Int))) (drW N (0 + (d : Int))) ↔ sat y Q M := B8l hgone (fun j hj => by
   show drW P (0 + (d : Int)) j ↔ if j < d then P j else if j = d then False else P (j - 1)
   unfold drW
   by_cases h1 : j < d
   ·rw [if_pos A4, if_pos h1]
   ·rw [if_neg A4, if_neg h1, if_neg A4, if_neg A4]) (fun j hj => by
   show drW N (0 + (d : Int)) j ↔ if j < d then N j else if j = d then False else N (j - 1)
   unfold drW
   by_cases h1 : j < d
   ·rw [if_pos A4, if_pos h1]
   ·rw [if_neg A4, if_neg h1, if_neg A4, if_neg A4])
  have hcalm : Oy P N → Oy Q M := fun hc j hj => by
   have hj : (if j < d then P j else if j = d then False else P (j - 1)) ∧ (if j < d then N j else if j = d then False else N (j - 1)) := hj
   by_cases h1 : j < d
   ·rw [if_pos h1, if_pos h1] at hj; exact hc j hj
   ·rw [if_neg h1, if_neg h1] at hj
    by_cases h2 : j = d
    ·rw [if_pos h2] at hj; exact hj.1
    ·rw [if_neg h2, if_neg h2] at hj; exact hc _ hj
  have sQ : ∀ X : Wd, S4 (S4 (fun j => if j < d then X j else if j = d then False else X (j - 1)) 0 (d : Int)) 0 1 = S4 X 0 d := fun X => by
   funext j
   unfold S4
   rw [if_neg A4, if_neg A4]
   dsimp only
   rw [if_neg A4, if_neg A4]
   congr 1
   omega
  have eP : atP (A3 r 0 1).2 d Q M = sat r (S4 P 0 d) (S4 N 0 d) := propext (by
   unfold atP
   rw [S5 hr, sQ P, sQ N])
  have eN : atN (A3 r 0 1).2 d Q M = ¬ sat r (Rr (S4 N 0 d)) (Rr (S4 P 0 d)) := propext (by
   unfold atN
   rw [S5 hr, Y0, Y0, sQ P, sQ N])
  have oP : ovr Q (0 + (d : Int)) (atP (A3 r 0 1).2 d Q M) = tkP r d P N := by
   rw [eP]
   funext j
   unfold ovr tkP
   show (if (j : Int) = 0 + (d : Int) then _ else if j < d then P j else if j = d then False else P (j - 1)) = _
   by_cases h1 : j < d
   ·rw [if_neg A4, if_pos h1, if_pos h1]
   ·by_cases h2 : j = d
    ·rw [if_pos A4, if_neg h1, if_pos h2]
    ·rw [if_neg A4, if_neg h1, if_neg h2, if_neg h1, if_neg h2]
  have oN : ovr M (0 + (d : Int)) (atN (A3 r 0 1).2 d Q M) = tkN r d P N := by
   rw [eN]
   funext j
   unfold ovr tkN
   show (if (j : Int) = 0 + (d : Int) then _ else if j < d then N j else if j = d then False else N (j - 1)) = _
   by_cases h1 : j < d
   ·rw [if_neg A4, if_pos h1, if_pos h1]
   ·by_cases h2 : j = d
    ·rw [if_pos A4, if_neg h1, if_pos h2]
    ·rw [if_neg A4, if_neg h1, if_neg h2, if_neg h1, if_neg h2]
  rw [hd P N, e1]
  cases p with
  | false =>
   have hp : A6 f = true := hp
   have hy : C1 Bn 0 (A3 r 0 1).2 d f = (0, y) := hy
   rw [(Z3 (P := Q) (N := M) hp hy).2, oP, oN]
  | true =>
   have hp : A5 f = true := hp
   have hy : C1 B6 0 (A3 r 0 1).2 d f = (0, y) := hy
   rw [(Z4 hp hy).2 Q M (hcalm (hw rfl)), oP, oN]
theorem C4x {r f x : List Cl} {d : Nat} {k : Int} (hr : (A3 r 0 1).1 = 0) (hp : C3 (decide (k = 14)) f) (h : (Ui 0 (A3 r 0 1).2).row k d f = (0, x)) :
  C3 (decide (k = 14)) x ∧ ∀ P N, Ss (decide (k = 14)) P N → (sat x P N ↔ sat f (tkP r d P N) (tkN r d P N)) := by
 refine B3b hr hp ?_
 unfold Ej.row at h
 by_cases h14 : k = 14
 ·rw [if_pos h14] at h
  simp only [h14, decide_true, if_true]
  exact h
 ·rw [if_neg h14] at h
  simp only [h14, decide_false, Bool.false_eq_true, if_false]
  exact h
theorem B8g {r f x : List Cl} {d : Nat} (hr : (A3 r 0 1).1 = 0) (hp : A5 f = true) (h : (Ui 0 (A3 r 0 1).2).Al d f = (0, x)) : C3 true x ∧ ∀ P N, Ss true P N → (sat x P N ↔ sat f (tkP r d P N) (tkN r d P N)) :=
 B3b (p := true) hr hp h
theorem X9 {r : List Cl} {v d a b : Nat} {e : Ev} (hb : b ≤ 24) (hd : b + d + 1 ≤ 24) (hr : A6 r = true) (h : AtE (Rq v, r :: L3 d) a b e) (P N : Wd) (j : Nat) (hj : j < b + d + 1) : (evP e.2 P N j ↔ tkP r b P N j) ∧ (evN e.2 P N j ↔ tkN r b P N j) := by
 have hrr : ∀ f, f ∈ ((Rq v, r :: L3 d) : Ev).2 → A6 f = true := fun f hf => by
  rcases List.mem_cons.mp hf with rfl | hf
  ·exact hr
  ·exact Pt f hf
 have key : ∀ P N : Wd, evP e.2 P N j ↔ tkP r b P N j := fun P N => by
  rw [E4x hrr hb h]
  unfold tkP
  by_cases h1 : j < b
  ·rw [if_pos h1, if_pos h1]
  ·rw [if_neg h1, if_neg h1]
   by_cases h2 : j = b
   ·rw [if_pos h2]
    subst h2
    unfold evP
    rw [Nat.sub_self]
    exact Iff.rfl
   ·rw [if_neg h2]
    unfold evP
    show sat ((r :: L3 d).getD (j - b) []) _ _ ↔ _
    rw [show j - b = (j - b - 1) + 1 by omega, List.getD_cons_succ, Tm A4, A0c ⟨by omega, by omega⟩, Int.toNat_natCast]
    unfold S4
    rw [if_neg A4, show j - b - 1 + (b : Int).toNat = j - 1 by omega]
 refine ⟨key P N, ?_⟩
 have e : evN e.2 P N j ↔ ¬ evP e.2 (Rr N) (Rr P) j := Iff.rfl
 rw [e, key]
 unfold tkP tkN
 by_cases h1 : j < b
 ·rw [if_pos h1, if_pos h1]; exact Classical.not_not
 ·rw [if_neg h1, if_neg h1]
  by_cases h2 : j = b
  ·rw [if_pos h2, if_pos h2, Y0, Y0]
  ·rw [if_neg h2, if_neg h2]; exact Classical.not_not
theorem B3c {r : List Cl} {v d : Nat} (hr : A6 r = true) (hs : (A3 r 0 1).1 = 0) : Sq4 (A := Bx (Ui 0 (A3 r 0 1).2)) (B := X1) (C := X1) (D := Cg) false true (fun ca _ _ cd vv dd => ∃ a b : Nat, ca = (b : Int) ∧ AtE (Rq v, r :: L3 d) a b cd ∧ b ≤ 24 ∧ vv = a + v ∧ dd = b + d + 1) where
 leaf := by
  rintro t a' b' c x ca cb cc cd vv dd ⟨a, b, rfl, k1, hb, rfl, rfl⟩ hft hm hk h1 h2 h3 h4
  rw [id_eq] at h2 h3
  injection h2 with h2
  injection h3 with h3
  subst h2 h3
  obtain ⟨e, hn0⟩ := Kr hft hk
  have hlt := (Ja.mp (hm rfl)).1.2.1 hk
  rw [B1p hk] at h4
  injection h4 with h4
  subst h4
  have h1' : B8 (Bx (Ui 0 (A3 r 0 1).2)) t (b : Int) = .ok t := by
   have hrow : (Ui 0 (A3 r 0 1).2).row 1 b [] = (0, []) := by
    unfold Ej.row
    rw [if_neg Iy]
    show E2 (C1 Bn 0 (A3 r 0 1).2 b []) (Dh 0 b) = _
    unfold C1
    rw [if_pos (by unfold Fv; simp [G3])]
    rfl
   have hown := S6 (W := Ui 0 (A3 r 0 1).2) (d := (b : Int)) (k := 1) (n := t.n) (nm := ⟨#[]⟩) (r := []) (by rw [hrow])
   rw [hrow] at hown
   have h9 := C4q hown
   have e9 : t = vE t.n := e
   rw [← e9] at h9
   exact h9
  rw [h1'] at h1
  injection h1 with h1
  subst h1
  by_cases q1 : t.n.toNat < a
  ·rw [k1.v0 _ q1, show ((t.n.toNat : Nat) : Int) = t.n by omega]; exact e
  ·have k3 := k1.v1 (t.n.toNat - a) (by show _ < (Rq v).length; rw [X0]; omega)
   rw [show a + (t.n.toNat - a) = t.n.toNat by omega] at k3
   have k3 : Lf a b ((Rq v).getD (t.n.toNat - a) t0) (cd.1.getD t.n.toNat t0) := k3
   rw [C3f A4] at k3
   rw [D9a A4 k3, show ((t.n.toNat - a : Nat) : Int) + a = t.n by omega]
   exact e
 nA := fun _ _ _ _ _ _ _ => Mp
 nB := fun _ _ _ _ _ _ _ h => (by injection h with h; cases h)
 nC := fun _ _ _ _ _ _ _ h => (by injection h with h; cases h)
 nD := fun _ _ _ _ _ _ hk => D3p hk
 own := by
  rintro ca cb cc cd vv dd k n nm f pa pb pc pd ⟨a, b, rfl, k1, hb, rfl, rfl⟩ hd hh hk hw h1 h2 h3 h4
  have hd := hd rfl
  have hw := hw rfl
  have h2 := A0i h2
  have h3 := A0i h3
  subst h2 h3
  obtain ⟨a1, a2⟩ := Qe.mp h1
  obtain ⟨d1, d2⟩ := C3l hk h4
  have hp := D2v hh
  obtain ⟨x1, x2⟩ := C4x hs hp a1
  obtain ⟨z1, z2⟩ := A1f (p := decide (k = 14)) (D := cd.2) (Dn (Ew hp)) (fun c hc j hj => B7i (fun f hf => by
   rcases List.mem_cons.mp hf with rfl | hf
   ·exact hr
   ·exact Pt f hf) k1 j) (by rw [d2])
  rw [d2] at z1 z2
  refine Prod.ext (by show pa.1 = pd.1; rw [a2, d1]; exact hh.1 hk) (A6w x1 z1 fun P N hc => ?_)
  rw [x2 P N hc, z2 P N hc]
  exact B8l ((A5v A4 (Dn (Ew hp))).mp hw) (fun j hj => (X9 hb A4 hr k1 P N j A4).1.symm) (fun j hj => (X9 hb A4 hr k1 P N j A4).2.symm)
 Al := by
  rintro ca cb cc cd vv dd f oa ob oc od ⟨a, b, rfl, k1, hb, rfl, rfl⟩ hd hf9 hnv hw h1 h1n h2 h3 h3n h4
  have hd := hd rfl
  have hw := hw rfl
  injection h3 with h3
  subst h3
  obtain ⟨g, a1, rfl⟩ := A4y h1
  obtain ⟨z, d1, rfl⟩ := B6r (h4 _ rfl)
  obtain ⟨x1, x2⟩ := B8g hs hf9 a1
  obtain ⟨z1, z2⟩ := A1f (p := true) (D := cd.2) (Dn (Cy hf9).1) (fun c hc j hj => B7i (fun f hf => by
   rcases List.mem_cons.mp hf with rfl | hf
   ·exact hr
   ·exact Pt f hf) k1 j) (by rw [d1])
  rw [d1] at z1 z2
  have e : g = z := A6w x1 z1 fun P N hc => by
   rw [x2 P N hc, z2 P N hc]
   exact B8l ((A5v A4 (Dn (Cy hf9).1)).mp hw) (fun j hj => (X9 hb A4 hr k1 P N j A4).1.symm) (fun j hj => (X9 hb A4 hr k1 P N j A4).2.symm)
  subst e
  by_cases hg : g = []
  ·rw [if_pos hg] at h1n ⊢
   exact h1n rfl
  ·rw [if_neg hg] at h2 ⊢
   have h2 := h2 _ rfl
   injection h2 with h2
   exact h2.symm
 Jf := by
  rintro ca cb cc cd vv dd b' ca' cb' cc' cd' ⟨a, b, rfl, k1, hb, rfl, rfl⟩ p1 p2 h1 h2 h3 h4
  have p2 := p2 rfl
  obtain ⟨m1, m2⟩ := C3y hb B6c (fun f hf => by
   rcases List.mem_cons.mp hf with rfl | hf
   ·exact hr
   ·exact Pt f hf) p1 k1 h4
  injection h1 with h1
  subst h1
  exact ⟨_, _, by omega, m2, m1, by omega, by omega⟩
theorem C7c {t : T} {r : List Cl} {v d : Nat} (hv : v ≤ 200) (hd : d ≤ 24) (h1 : (An t (Rq v, r :: L3 d)).1 = 0) (h2 : (Bv t 0 r).1 = 0) : (An t (Rq v, r :: L3 d)).2 = (Bv t 0 r).2 := by
 obtain ⟨p1, p2, p3, p4, p5, p6⟩ := Uq h1
 obtain ⟨q1, _, q2, q3, q4⟩ := A5q h2
 have hl : ((Rq v, r :: L3 d) : Ev).1.length = v := X0 v
 have hl2 : ((Rq v, r :: L3 d) : Ev).2.length = d + 1 := by show (r :: L3 d).length = _; rw [List.length_cons, Tl]
 rw [hl, hl2] at p2
 obtain ⟨_, _, _, hf, hm⟩ := (T9 (t := t) A4 A4).mp p2
 exact (sq4 (B3c (v := v) (d := d) q2 q3) hf (fun _ => hm) (fun h => by cases h) (ca := 0) (cb := ()) (cc := ()) (cd := (Rq v, r :: L3 d)) ⟨0, 0, rfl, C3z _, by omega, by omega, by omega⟩ q4 (id_eq _) (id_eq t) p5).symm
theorem C5t (f : List Cl) : Ma (Mw f) := by
 unfold Mw
 split
 ·exact Qk f
 ·exact Cd
theorem Wi {p neg : Bool} {f : List Cl} (h : Af f) : Ma (ofE p neg f) := by
 unfold ofE
 split
 ·split
  ·exact Nu f
  ·exact Ya h
 ·split
  ·exact C5t f
  ·exact h
theorem B4o {p : Bool} {g k : List Cl} (hg : Af g) (hk : Af k) : Ma (Kk p g k) := by
 unfold Kk
 split
 ·by_cases h : (A5 g && A5 k) = false
  ·unfold Gh; rw [if_pos h]; exact Cd
  ·have h2 : A5 g = true ∧ A5 k = true := by simpa using h
   rw [P7 h2.1 h2.2]
   exact Ld hg hk
 ·unfold Pq
  split
  ·exact Cd
  ·exact M3 hg hk
theorem D0y {p : Bool} {g k : List Cl} (hg : Af g) (hk : Af k) : Ma (Qx p g k) := by
 unfold Qx
 split
 ·unfold M6
  split
  ·exact Cd
  ·exact Kj hg hk
 ·unfold Ps
  split
  ·exact Cd
  ·exact Kj hg hk
theorem D1u (p : Bool) (g k : List Cl) : (Kk p g k).2.length ≤ 64 := by
 unfold Kk
 split
 ·unfold Gh
  split
  ·show ([] : List Cl).length ≤ 64; simp
  ·exact Dr _
 ·unfold Pq
  split
  ·show ([] : List Cl).length ≤ 64; simp
  ·exact Dr _
theorem D1v (p : Bool) (g k : List Cl) : (Qx p g k).2.length ≤ 64 := by
 unfold Qx
 split
 ·unfold M6
  split
  ·show ([] : List Cl).length ≤ 64; simp
  ·exact Dr _
 ·unfold Ps
  split
  ·show ([] : List Cl).length ≤ 64; simp
  ·exact Dr _
theorem A7u {x : EL} {k : List Cl → EL} {n : Nat} (h : ∀ g, (k g).2.length ≤ n) : (E2 x k).2.length ≤ n := by
 by_cases h0 : x.1 = 0
 ·rw [Bc h0]; exact h _
 ·rw [Bi h0]; exact Nat.zero_le _
theorem N9 {x : EL} {k : List Cl → EL} (h : Ma x) (hk : ∀ g, Af g → Ma (k g)) : Ma (E2 x k) := by
 by_cases h0 : x.1 = 0
 ·rw [Bc h0]; exact hk _ h
 ·rw [Bi h0]; exact Cd
def F8 (p neg : Bool) (f g : List Cl) : EL := E2 (ofE p neg f) fun h => Kk p g h
theorem Jw {p neg : Bool} {f g : List Cl} (hf : Af f) (hg : Af g) : Ma (F8 p neg f g) := N9 (Wi hf) fun _ h => B4o hg h
theorem Ip {l : List CP} {j : Nat} (h : j < l.length) : (l.map (·.1)).getD j [] = (l.getD j E8).1 := Li _ h E8 []
theorem Qr {p neg : Bool} {D : List (List Cl)} {f : List Cl} {l : List Int} {z hv : List Cl} {k j : Nat} (hk : k < l.length) (h : Dt p neg D (l.take k) z = (0, hv)) (hj : l.getD k 0 = (j : Int)) (hD : D.getD j [] = f) (h0 : (F8 p neg f hv).1 = 0) : Dt p neg D (l.take (k + 1)) z = (0, (F8 p neg f hv).2) := by
 unfold F8 at h0 ⊢
 obtain ⟨h1, h2, e⟩ := C4 h0
 have e1 : D.getD (l.getD k 0).toNat [] = f := by rw [hj, Int.toNat_natCast]; exact hD
 rw [D6k hk h (by rw [e1]; exact h1) (by rw [e1]; exact h2), e1, e]
theorem Oq {p neg : Bool} {D : List (List Cl)} {f : List Cl} {l : List Int} {z hv : List Cl} {k j : Nat} (hk : k < l.length) (h : Dt p neg D (l.take k) z = (0, hv)) (hj : l.getD k 0 = (j : Int)) (hD : D.getD j [] = f) (h0 : (F8 p neg f hv).1 ≠ 0) : Dt p neg D l z = ((F8 p neg f hv).1, []) := by
 unfold F8 at h0 ⊢
 have e1 : D.getD (l.getD k 0).toNat [] = f := by rw [hj, Int.toNat_natCast]; exact hD
 by_cases h1 : (ofE p neg f).1 = 0
 ·rw [Bc h1] at h0 ⊢
  rw [C6c hk h (by rw [e1]; exact h1) (by rw [e1]; exact h0), e1]
 ·rw [Bi h1] at h0 ⊢
  rw [C6d hk h (by rw [e1]; exact h1), e1]
theorem Nv {p neg : Bool} {D : List (List Cl)} (hD : ∀ j, Af (D.getD j [])) : ∀ {l : List Int} {g : List Cl}, Af g → Ma (Dt p neg D l g)
 | [], g, hg => hg
 | i :: l, g, hg => by
  rw [Dt]
  exact N9 (Wi (hD _)) fun h hh => N9 (B4o hg hh) fun g hg => Nv hD hg
theorem Sl {p neg : Bool} {D : List (List Cl)} : ∀ {l : List Int} {g : List Cl}, g.length ≤ 64 → (Dt p neg D l g).2.length ≤ 64
 | [], g, hg => hg
 | i :: l, g, hg => by
  rw [Dt]
  refine A7u fun h => ?_
  by_cases h0 : (Kk p g h).1 = 0
  ·rw [Bc h0]; exact Sl (D1u _ _ _)
  ·rw [Bi h0]; exact Nat.zero_le _
theorem D0z {p : Bool} {D : List (List Cl)} {c : Cl} (hD : ∀ j, Af (D.getD j [])) : Ma (N0 p D c) := N9 (Nv hD L9) fun _ hg => Nv hD hg
theorem A2a {p : Bool} {D : List (List Cl)} {c : Cl} {h : List Cl} (hD : ∀ j, Af (D.getD j [])) (hh : Af h) : Ma (Gd p D h c) := N9 (D0z hD) fun _ hg => D0y hh hg
theorem B5q (p : Bool) (D : List (List Cl)) (h : List Cl) (c : Cl) : (Gd p D h c).2.length ≤ 64 := A7u fun _ => D1v _ _ _
theorem C6v {g : List Cl → Cl → EL} {m : List Cl} (hg : ∀ h c, Af h → Ma (g h c)) : ∀ {h : List Cl}, Af h → Ma (C0 g h m) := by
 induction m with
 | nil => intro h hh; exact hh
 | cons c m ih =>
  intro h hh
  rw [C0]
  exact N9 (hg h c hh) fun _ h2 => ih h2
theorem B4m {p : Bool} {D : List (List Cl)} {f : List Cl} (hD : ∀ j, Af (D.getD j [])) : Ma (I2 p D f) := C6v (fun h c hh => A2a hD hh) Cd
theorem Yq {l : List CP} (h : ∀ j, j < l.length → Af (l.getD j E8).1) (j : Nat) : Af ((l.map (·.1)).getD j []) := by
 by_cases hj : j < l.length
 ·rw [Ip hj]; exact h j hj
 ·rw [List.getD_eq_getElem?_getD, List.getElem?_eq_none (by simpa using hj)]
  exact Cd
theorem Spec.C3k {P : Program} {k : FuncId} {args : Array Value} {pre : List Fact} {Ms0 : List Be} {r r' : EL} (he : r' = r) (h : Spec P k args pre Ms0 (fun x : SH => .tuple #[sl x r.2.length, .int .i64 r.1]) (fun x => [CL r.2 x]) (fun _ => [])) : Spec P k args pre Ms0 (fun x : SH => .tuple #[sl x r'.2.length, .int .i64 r'.1]) (fun x => [CL r'.2 x]) (fun _ => []) := by
 subst he
 exact h
def Dk {α β : Type} (g : α → Int × β) (z : List β) (l : List α) : Int × List β := if (Km g l).1 ≠ 0 then ((Km g l).1, []) else (0, z ++ (Km g l).2)
theorem Y7 {α β : Type} {g : α → Int × β} {z : List β} {l : List α} (h : ∀ a, a ∈ l → (g a).1 = 0) : Dk g z l = (0, z ++ l.map fun a => (g a).2) := by
 unfold Dk
 rw [C2y h, if_neg D6]
theorem Y6 {α β : Type} {g : α → Int × β} {z : List β} {d : α} {l : List α} {i : Nat} (hi : i < l.length) (h : ∀ j, j < i → (g (l.getD j d)).1 = 0) (h2 : (g (l.getD i d)).1 ≠ 0) : Dk g z l = ((g (l.getD i d)).1, []) := by
 unfold Dk
 rw [B5k hi h h2, if_pos h2]
theorem C1g {α β : Type} {g : α → Int × β} {d : α} {l : List α} {i : Nat} (hi : i = l.length) (h : ∀ j, j < i → (g (l.getD j d)).1 = 0) : ∀ a, a ∈ l → (g a).1 = 0 := fun a ha => by
 obtain ⟨j, hj, rfl⟩ := List.mem_iff_getElem.mp ha
 rw [← Cw (d := d) hj]
 exact h j A4
theorem A0x {α β : Type} {f : α → β} {d : α} {l : List α} {k : Nat} (h : k < l.length) : (l.take (k + 1)).map f = (l.take k).map f ++ [f (l.getD k d)] := by rw [Ai (d := d) h, List.map_append]; rfl
def Pp (r : Ab Ev) (c : Int) (e : Ev) : Prop := (c = 0 → r = .ok e) ∧ (c ≠ 0 → r = .bad c)
theorem C8p (ts : List T) (D : List (List Cl)) : Pp (A0r (ts, D)) (Dk (fun t => C6 t 0 1) [vE 0] ts).1 ((Dk (fun t => C6 t 0 1) [vE 0] ts).2, D) := by
 unfold Dk A0r Pp A5b
 by_cases h : (Km (fun t => C6 t 0 1) ts).1 ≠ 0
 ·rw [if_pos h]
  refine ⟨fun h0 => absurd h0 h, fun _ => ?_⟩
  rw [if_neg h]; rfl
 ·rw [if_neg h]
  refine ⟨fun _ => ?_, fun h0 => absurd rfl h0⟩
  rw [if_pos (Decidable.not_not.mp h)]; rfl
theorem C7m {ts : List T} {D : List (List Cl)} (h : (Dk (fun f => A3 f 0 1) [[⟨1, 0⟩]] D).1 ≠ 0) : Xe (ts, D) = .bad (Dk (fun f => A3 f 0 1) [[⟨1, 0⟩]] D).1 := by
 unfold Dk at h ⊢
 unfold Xe A5b
 by_cases h1 : (Km (fun f => A3 f 0 1) D).1 ≠ 0
 ·rw [if_pos h1, if_neg h1]; rfl
 ·rw [if_neg h1] at h; exact absurd rfl h
theorem C7l {ts : List T} {D : List (List Cl)} (h : (Dk (fun f => A3 f 0 1) [[⟨1, 0⟩]] D).1 = 0) : Pp (Xe (ts, D)) (Dk (fun t => C7 t 0 1) [] ts).1 ((Dk (fun t => C7 t 0 1) [] ts).2, (Dk (fun f => A3 f 0 1) [[⟨1, 0⟩]] D).2) := by
 unfold Dk at h
 by_cases h1 : (Km (fun f => A3 f 0 1) D).1 ≠ 0
 ·rw [if_pos h1] at h; exact absurd h h1
 ·unfold Dk Pp Xe A5b
  rw [if_neg h1, if_pos (Decidable.not_not.mp h1)]
  by_cases h2 : (Km (fun t => C7 t 0 1) ts).1 ≠ 0
  ·rw [if_pos h2]
   refine ⟨fun h0 => absurd h0 h2, fun _ => ?_⟩
   rw [if_neg h2]; rfl
  ·rw [if_neg h2]
   refine ⟨fun _ => ?_, fun h0 => absurd rfl h0⟩
   rw [if_pos (Decidable.not_not.mp h2)]; rfl
theorem D9i {ok : Nat → Prop} {w : World} {l : List CP} {a : SH} (h : (Md l a).f ok w) (j : Nat) (hj : j < l.length) : Af (l.getD j E8).1 := Bm (h.2 _ (Ac hj))
def Gn (t : T) (e : Ev) : Int × T := I1 (B8 Cg t e)
def Hn (t : T) (e : Ev) (b : Int × Int) : Int × T := I1 ((Oa e b).bind fun e' => B8 Cg t e')
theorem D2d {t : T} {e : Ev} {b : Int × Int} {c : Int} (h : Oa e b = .bad c) : Hn t e b = (c, t0) := by unfold Hn; rw [h]; rfl
theorem D6q {t : T} {e e' : Ev} {b : Int × Int} (h : Oa e b = .ok e') : Hn t e b = Gn t e' := by unfold Hn; rw [h]; rfl
theorem A4c {e e' : Ev} {b : Int × Int} {n : Nat} (hn : 1 ≤ n) (h : ∀ x, x ∈ e.1 → size x ≤ n) (hk : Oa e b = .ok e') : (∀ x, x ∈ e'.1 → size x ≤ n) ∧ (bnd b → (e'.1.length : Int) = e.1.length + b.1 ∧ (e'.2.length : Int) = e.2.length + b.2) := by
 unfold Oa at hk
 split at hk
 ·rename_i h1
  obtain ⟨rfl, ht⟩ := A5x hk
  refine ⟨fun x hx => ?_, fun hb => ?_⟩
  ·rcases List.mem_cons.mp hx with rfl | hx
   ·have : size (vE 0) = 1 := by decide +kernel
    omega
   ·obtain ⟨y, hy, rfl⟩ := List.mem_map.mp hx
    rw [Lg (ht y hy)]; exact h y hy
  ·simp only [List.length_cons, List.length_map]; omega
 ·split at hk
  ·rename_i h1 h2
   obtain ⟨rfl, ht, _⟩ := Yo hk
   refine ⟨fun x hx => ?_, fun hb => ?_⟩
   ·obtain ⟨y, hy, rfl⟩ := List.mem_map.mp hx
    rw [Lg (ht y hy)]; exact h y hy
   ·simp only [List.length_cons, List.length_map]; omega
  ·injection hk with hk
   subst hk
   exact ⟨h, fun hb => by omega⟩
theorem St.C2w {B : Cj} {Γ : List Fact} {Ms : List Be} {w : World} (c : Nat) (hs : St B Γ Ms w) : St B (Md [] (Option.none, c) :: Γ) Ms w := hs.add ⟨⟨Nat.zero_le _, by simp, fun h => absurd h D6⟩, fun x hx => by cases hx⟩
end Go.Hy
