/- Contracts of this program's functions and the laws that they need: a separation logic over the machine's rules, one theorem each (partly printed by a program of this repository). -/
import Derived.LaidMore
import Derived.OpenShut
import Derived.Stop.Joined
import Derived.MakeChecks
import Derived.Shelf.Spec.TrailingZeros
import Derived.RangeFuncNested
import Derived.RangeFuncBound
import Derived.RangeFuncCalls
import Derived.RangeFuncLeaves
import Derived.RangeFuncBox
import Derived.Shelf.Abstract
import Derived.Shelf.RegionOpen
import Derived.WalkKit
import Derived.OwnWalkIn
import Derived.TacticsInMore
import Derived.LoopNIn
import Derived.LoopIn
import Derived.Maps.AppendAt
import Derived.Shelf.SlSortCmp.WholeK
import Derived.Shelf.SlGeneric
import Derived.Ground.SlsfProg
import Derived.Test.YtpfjlbopkhdebaaGreatDoorProg
import Derived.Test.YtpfjlbopkhdebaaGreatDoorP3
import Derived.Test.YtpfjlbopkhdebaaGreatDoorP4
import Derived.Test.YtpfjlbopkhdebaaGreatDoorP5
import Derived.Test.YtpfjlbopkhdebaaGreatDoorP6
set_option linter.unusedVariables false
set_option linter.unusedSimpArgs false
set_option linter.unusedSectionVars false
namespace Go.Hy
/-! ### A way through a term that changes rows alone -/
structure RowsW where
  form : Int → List Cl → EL
  face : Int → List Cl → EL
def elR (x : EL) : Res1 (List Cl) := if x.1 = 0 then .ok x.2 else .bad x.1
theorem elR_ok {x : EL} (h : x.1 = 0) : elR x = .ok x.2 := if_pos h
theorem elR_bad {x : EL} (h : x.1 ≠ 0) : elR x = .bad x.1 := if_neg h
theorem elR_ok_iff {x : EL} {g : List Cl} : elR x = .ok g ↔ x = (0, g) := by
  unfold elR
  split
  · rename_i h
    constructor
    · intro h2; injection h2 with h2; exact Prod.ext h h2
    · rintro rfl; rfl
  · rename_i h
    constructor
    · intro h2; cases h2
    · rintro rfl; exact absurd rfl h
theorem elR_bad_iff {x : EL} {e : Int} : elR x = .bad e ↔ x.1 = e ∧ e ≠ 0 := by
  unfold elR
  split
  · rename_i h
    constructor
    · intro h2; cases h2
    · rintro ⟨h2, h3⟩; exact absurd (h2.symm.trans h) h3
  · rename_i h
    constructor
    · intro h2; injection h2 with h2; exact ⟨h2, h2 ▸ h⟩
    · rintro ⟨h2, h3⟩; rw [h2]
def RowsW.row (W : RowsW) (k d : Int) (r : List Cl) : EL := if k = 14 then W.face d r else W.form d r
def rowsTr (W : RowsW) : Tr Int where
  own d k n _ r := (elR (W.row k d r)).bind fun g => .ok (.inr (n, g))
  face d f := (elR (W.face d f)).bind fun g => .ok (if g.length = 0 then none else some g)
  kid d b := .ok (d + b.2)
theorem rows_kid {W : RowsW} {d : Int} {b : Int × Int} : (rowsTr W).kid d b = .ok (d + b.2) := rfl
theorem rows_own_ok {W : RowsW} {d k n : Int} {nm : ByteArray} {r : List Cl} (h : (W.row k d r).1 = 0) : (rowsTr W).own d k n nm r = .ok (.inr (n, (W.row k d r).2)) := by
  show (elR _).bind _ = _; rw [elR_ok h]; rfl
theorem rows_own_bad {W : RowsW} {d k n : Int} {nm : ByteArray} {r : List Cl} (h : (W.row k d r).1 ≠ 0) : (rowsTr W).own d k n nm r = .bad (W.row k d r).1 := by
  show (elR _).bind _ = _; rw [elR_bad h]; rfl
theorem rows_own_inr {W : RowsW} {d k n : Int} {nm : ByteArray} {r : List Cl} {p : Int × List Cl} : (rowsTr W).own d k n nm r = .ok (.inr p) ↔ W.row k d r = (0, p.2) ∧ p.1 = n := by
  constructor
  · intro h
    obtain ⟨g, hg, h2⟩ := Res1.bind_ok (x := elR (W.row k d r)) h
    injection h2 with h2; injection h2 with h2; subst h2
    exact ⟨elR_ok_iff.mp hg, rfl⟩
  · rintro ⟨h1, h2⟩
    rw [rows_own_ok (by rw [h1]), h1, ← h2]
theorem rows_own_inl {W : RowsW} {d k n : Int} {nm : ByteArray} {r : List Cl} {u : T} : (rowsTr W).own d k n nm r ≠ .ok (.inl u) := by
  intro h
  obtain ⟨g, hg, h2⟩ := Res1.bind_ok (x := elR (W.row k d r)) h
  injection h2 with h2; cases h2
theorem rows_own_bad_iff {W : RowsW} {d k n e : Int} {nm : ByteArray} {r : List Cl} : (rowsTr W).own d k n nm r = .bad e ↔ (W.row k d r).1 = e ∧ e ≠ 0 := by
  rw [← elR_bad_iff]
  show (elR _).bind _ = _ ↔ _
  cases elR (W.row k d r) with
  | ok g => constructor <;> (intro h; cases h)
  | bad e' => exact Iff.intro (fun h => by injection h with h; rw [h]) (fun h => by injection h with h; rw [h]; rfl)
theorem rows_face_none {W : RowsW} {d : Int} {f : List Cl} (h : (W.face d f).1 = 0) (h2 : (W.face d f).2.length = 0) : (rowsTr W).face d f = .ok none := by
  show (elR _).bind _ = _; rw [elR_ok h]; show Res1.ok (if _ then _ else _) = _; rw [if_pos h2]
theorem rows_face_some {W : RowsW} {d : Int} {f : List Cl} (h : (W.face d f).1 = 0) (h2 : (W.face d f).2.length ≠ 0) : (rowsTr W).face d f = .ok (some (W.face d f).2) := by
  show (elR _).bind _ = _; rw [elR_ok h]; show Res1.ok (if _ then _ else _) = _; rw [if_neg h2]
theorem rows_face_bad {W : RowsW} {d : Int} {f : List Cl} (h : (W.face d f).1 ≠ 0) : (rowsTr W).face d f = .bad (W.face d f).1 := by
  show (elR _).bind _ = _; rw [elR_bad h]; rfl
theorem rows_face_none_iff {W : RowsW} {d : Int} {f : List Cl} : (rowsTr W).face d f = .ok none ↔ W.face d f = (0, []) := by
  constructor
  · intro h
    obtain ⟨g, hg, h2⟩ := Res1.bind_ok (x := elR (W.face d f)) h
    injection h2 with h2
    rw [elR_ok_iff.mp hg]
    split at h2
    · rename_i h3; rw [List.eq_nil_of_length_eq_zero h3]
    · cases h2
  · intro h; exact rows_face_none (by rw [h]) (by rw [h]; rfl)
theorem rows_face_some_iff {W : RowsW} {d : Int} {f g : List Cl} : (rowsTr W).face d f = .ok (some g) ↔ W.face d f = (0, g) ∧ g ≠ [] := by
  constructor
  · intro h
    obtain ⟨g', hg, h2⟩ := Res1.bind_ok (x := elR (W.face d f)) h
    injection h2 with h2
    split at h2
    · cases h2
    · rename_i h3
      injection h2 with h2; subst h2
      exact ⟨elR_ok_iff.mp hg, fun h => h3 (by rw [h]; rfl)⟩
  · rintro ⟨h, h2⟩
    have h3 := rows_face_some (W := W) (d := d) (f := f) (by rw [h]) (by rw [h]; intro h4; exact h2 (List.eq_nil_of_length_eq_zero h4))
    rw [h3, h]
theorem rows_face_bad_iff {W : RowsW} {d e : Int} {f : List Cl} : (rowsTr W).face d f = .bad e ↔ (W.face d f).1 = e ∧ e ≠ 0 := by
  rw [← elR_bad_iff]
  show (elR _).bind _ = _ ↔ _
  cases elR (W.face d f) with
  | ok g => constructor <;> (intro h; cases h)
  | bad e' => exact Iff.intro (fun h => by injection h with h; rw [h]) (fun h => by injection h with h; rw [h]; rfl)
/-! Terms of a list, one by one. -/
def eachT (g : Nat → T → Res1 T) : Nat → List T → Res1 (List T)
  | _, [] => .ok []
  | i, t :: ts => (g i t).bind fun t' => (eachT g (i + 1) ts).bind fun ts' => .ok (t' :: ts')
section
variable {g : Nat → T → Res1 T}
theorem eachT_snoc : ∀ (i : Nat) (l : List T) (t : T), eachT g i (l ++ [t]) = (eachT g i l).bind fun l' => (g (i + l.length) t).bind fun t' => .ok (l' ++ [t'])
  | i, [], t => by
    simp only [List.nil_append, eachT, Res1.bind, List.length_nil, Nat.add_zero]
  | i, a :: l, t => by
    simp only [List.cons_append, eachT, eachT_snoc (i + 1) l t, List.length_cons]
    rw [show i + 1 + l.length = i + (l.length + 1) by omega]
    cases g i a with
    | bad e => rfl
    | ok a' =>
      simp only [Res1.bind]
      cases eachT g (i + 1) l with
      | bad e => rfl
      | ok l' =>
        simp only
        cases g (i + (l.length + 1)) t with
        | bad e => rfl
        | ok c2 => rfl
theorem eachT_bad {e : Int} : ∀ {l m : List T} {i : Nat}, eachT g i l = .bad e → eachT g i (l ++ m) = .bad e
  | [], m, i, h => by rw [eachT] at h; cases h
  | a :: l, m, i, h => by
    rw [List.cons_append, eachT]
    rw [eachT] at h
    cases h1 : g i a with
    | bad e' => rw [h1] at h; exact h
    | ok a' =>
      rw [h1] at h
      simp only [Res1.bind] at h ⊢
      cases h3 : eachT g (i + 1) l with
      | bad e' => rw [h3] at h; rw [eachT_bad h3]; exact h
      | ok l' => rw [h3] at h; cases h
theorem eachT_at_ok {l us : List T} {i : Nat} {u : T} (hi : i < l.length) (h : eachT g 0 (l.take i) = .ok us) (hu : g i (l.getD i t0) = .ok u) : eachT g 0 (l.take (i + 1)) = .ok (us ++ [u]) := by
  rw [take_succ_getD (d := t0) hi, eachT_snoc, h]
  simp only [Res1.bind, List.length_take, Nat.zero_add, Nat.min_eq_left (Nat.le_of_lt hi)]
  rw [hu]
theorem eachT_at_bad {l us : List T} {i : Nat} {e : Int} (hi : i < l.length) (h : eachT g 0 (l.take i) = .ok us) (hu : g i (l.getD i t0) = .bad e) : eachT g 0 l = .bad e := by
  have h1 : eachT g 0 (l.take (i + 1)) = .bad e := by
    rw [take_succ_getD (d := t0) hi, eachT_snoc, h]
    simp only [Res1.bind, List.length_take, Nat.zero_add, Nat.min_eq_left (Nat.le_of_lt hi)]
    rw [hu]
  have h2 := eachT_bad (m := l.drop (i + 1)) h1
  rwa [List.take_append_drop] at h2
theorem eachT_len : ∀ {l us : List T} {i : Nat}, eachT g i l = .ok us → us.length = l.length
  | [], us, i, h => by rw [eachT] at h; injection h with h; subst h; rfl
  | a :: l, us, i, h => by
    rw [eachT] at h
    obtain ⟨a', _, h⟩ := Res1.bind_ok h
    obtain ⟨l', h2, h⟩ := Res1.bind_ok h
    injection h with h; subst h
    simp [eachT_len h2]
theorem eachT_why {e : Int} : ∀ {l : List T} {i : Nat}, eachT g i l = .bad e → ∃ j t, t ∈ l ∧ g j t = .bad e
  | [], i, h => by rw [eachT] at h; cases h
  | a :: l, i, h => by
    rw [eachT] at h
    cases h1 : g i a with
    | bad e' => rw [h1] at h; injection h with h; subst h; exact ⟨i, a, List.mem_cons_self, h1⟩
    | ok a' =>
      rw [h1] at h
      simp only [Res1.bind] at h
      cases h3 : eachT g (i + 1) l with
      | bad e' => rw [h3] at h; injection h with h; subst h; obtain ⟨j, t, ht, hj⟩ := eachT_why h3; exact ⟨j, t, List.mem_cons_of_mem _ ht, hj⟩
      | ok l' => rw [h3] at h; cases h
end
theorem travL_map {W : RowsW} {k d : Int} : ∀ {i : Nat} {ts : List T}, travL (rowsTr W) k i ts d = eachT (fun j t => trav (rowsTr W) t (d + (binds k j).2)) i ts
  | i, [] => by rw [travL_nil, eachT]
  | i, t :: ts => by rw [travL_cons, eachT, rows_kid, travL_map (i := i + 1) (ts := ts)]; rfl
theorem travS_map {W : RowsW} {k d : Int} : ∀ {i : Nat} {ts : List T}, travS (rowsTr W) k ts d = eachT (fun _ t => trav (rowsTr W) t (d + more k)) i ts
  | i, [] => by rw [travS_nil, eachT]
  | i, t :: ts => by rw [travS_cons, eachT, rows_kid, travS_map (i := i + 1) (ts := ts)]; rfl
theorem travB_at_none {C : Type} {A : Tr C} {k : Int} {c : C} {ss : List Br} {s : Nat} {bs : List Br} (hs : s < ss.length) (hb : travB A k (ss.take s) c = .ok bs) (hf : A.face c (ss.getD s br0).face = .ok none) : travB A k (ss.take (s + 1)) c = .ok bs := by
  rw [take_succ_getD (d := br0) hs, travB_snoc, hb]
  simp only [Res1.bind]
  rw [hf]
theorem trav_kids_bad {C : Type} {A : Tr C} {t : T} {c : C} {e : Int} {p : Int × List Cl} (h : A.own c t.kind t.n t.name t.r = .ok (.inr p)) (hl : travL A t.kind 0 t.kids c = .bad e) : trav A t c = .bad e := by
  rw [trav_eq, h]; simp only [Res1.bind]; rw [hl]
def asResL (r : Res1 (List T)) : Int × List T := match r with
  | .ok u => (0, u)
  | .bad e => (e, [])
theorem asRes_bad {r : Res1 T} (h : (asRes r).1 ≠ 0) : r = .bad (asRes r).1 := by
  cases r with
  | ok u => exact absurd rfl h
  | bad e => rfl
theorem asRes_ok {r : Res1 T} (hb : ∀ e, r = .bad e → e ≠ 0) (h : (asRes r).1 = 0) : r = .ok (asRes r).2 := by
  cases r with
  | ok u => rfl
  | bad e => exact absurd h (hb e rfl)
theorem asResL_bad {r : Res1 (List T)} (h : (asResL r).1 ≠ 0) : r = .bad (asResL r).1 := by
  cases r with
  | ok u => exact absurd rfl h
  | bad e => rfl
theorem asResL_ok {r : Res1 (List T)} (hb : ∀ e, r = .bad e → e ≠ 0) (h : (asResL r).1 = 0) : r = .ok (asResL r).2 := by
  cases r with
  | ok u => rfl
  | bad e => exact absurd h (hb e rfl)
theorem rows_bad_ne {W : RowsW} : ∀ (t : T) {d e : Int}, trav (rowsTr W) t d = .bad e → e ≠ 0 := T.ind fun t ih d e h => by
  rcases trav_why h with h1 | ⟨b, _, h1⟩ | ⟨p, hp, h1 | ⟨c', _, h2⟩⟩
  · exact (rows_own_bad_iff.mp h1).2
  · exact (rows_face_bad_iff.mp h1).2
  · cases h1
  · exact ih p hp h2
theorem eachT_bad_ne {W : RowsW} {b : Nat → Int} {l : List T} {i : Nat} {e d : Int} (h : eachT (fun j t => trav (rowsTr W) t (d + b j)) i l = .bad e) : e ≠ 0 := by
  obtain ⟨j, t, _, h1⟩ := eachT_why h
  exact rows_bad_ne t h1
abbrev walkR (W : RowsW) (t : T) (d : Int) : Int × T := asRes (trav (rowsTr W) t d)
abbrev walkL (W : RowsW) (b : Nat → Int) (l : List T) (d : Int) : Int × List T := asResL (eachT (fun j t => trav (rowsTr W) t (d + b j)) 0 l)
/-! Rows with a formula in a dimension's place; rows without a dimension. -/
def rowPut (P : List Cl → Int → List Cl → EL) (i : Int) (r : List Cl) (d : Int) (f : List Cl) : EL := if hasM (fDims f) (i + d) = false then (0, f) else bindE (formLift r 0 d) fun s => P f (i + d) s
def putW (i : Int) (r : List Cl) : RowsW := ⟨rowPut formPut i r, rowPut facePut i r⟩
def dropRow (i : Int) (d : Int) (f : List Cl) : EL := leastF (f.map fun c => ⟨dropM c.pos (i + d), dropM c.neg (i + d)⟩)
def dropW (i : Int) : RowsW := ⟨dropRow i, dropRow i⟩
theorem u32_drop {f : List Cl} {j : Int} {c : Cl} (hc : c ∈ f.map fun c => (⟨dropM c.pos j, dropM c.neg j⟩ : Cl)) : u32 c := by
  obtain ⟨e, _, rfl⟩ := List.mem_map.mp hc
  exact ⟨by have := dropM_lt e.pos j; show dropM _ _ < _; omega, by have := dropM_lt e.neg j; show dropM _ _ < _; omega⟩
theorem size_kid_mem {t k : T} (h : k ∈ t.kids) : size k < size t := by obtain ⟨p, hp, e⟩ := kid_mem_parts h; exact e ▸ size_part_lt hp
theorem size_sys_mem {t k : T} {b : Br} (h : b ∈ t.sys) (h2 : k ∈ b.kids) : size k < size t := by obtain ⟨p, hp, e⟩ := sys_mem_parts h h2; exact e ▸ size_part_lt hp
/-! What a call tells, under another name. -/
theorem Spec.treeH {P : Program} {k : FuncId} {args : Array Value} {pre : List Fact} {Ms0 : List Res} {y : Tys} {r r' : Int × T} (he : r' = r) (h : Spec P k args pre Ms0 (fun x : {h : HT // h.er = r.2} => .tuple #[.agg (tc r.2 x.1.vr x.1.vk x.1.vs).toArray, .int .i64 r.1]) (fun _ => []) (fun x => [bigR (treeR y x.1)])) :
    Spec P k args pre Ms0 (fun x : {h : HT // h.er = r'.2} => .tuple #[.agg (tc r'.2 x.1.vr x.1.vk x.1.vs).toArray, .int .i64 r'.1]) (fun _ => []) (fun x => [bigR (treeR y x.1)]) := by
  subst he
  exact h
theorem Spec.listH {P : Program} {k : FuncId} {args : Array Value} {pre : List Fact} {Ms0 : List Res} {y : Tys} {e : TypeId} {r r' : Int × List T} (he : r' = r) (h : Spec P k args pre Ms0 (fun x : {p : List HT × SH // p.1.map HT.er = r.2} => .tuple #[sl x.1.2 r.2.length, .int .i64 r.1]) (fun _ => []) (fun x => [rowS 6 e x.1.2 r.2.length (tpFlat (x.1.1.map HT.tp)), bigR (kidsR y x.1.1)])) :
    Spec P k args pre Ms0 (fun x : {p : List HT × SH // p.1.map HT.er = r'.2} => .tuple #[sl x.1.2 r'.2.length, .int .i64 r'.1]) (fun _ => []) (fun x => [rowS 6 e x.1.2 r'.2.length (tpFlat (x.1.1.map HT.tp)), bigR (kidsR y x.1.1)]) := by
  subst he
  exact h
end Go.Hy
namespace Go.Hy
/-! ### dims: what the program makes of a term -/
section
variable {W : RowsW}
mutual
theorem walk_size : ∀ {t u : T} {d : Int}, trav (rowsTr W) t d = .ok u → size u ≤ size t
  | .mk k n nm r ks ss, u, d, hu => by
    rw [trav_eq] at hu
    simp only [T.kind, T.n, T.name, T.r, T.kids, T.sys] at hu
    obtain ⟨o, h9, hu⟩ := Res1.bind_ok hu
    cases o with
    | inl v => exact absurd h9 rows_own_inl
    | inr p =>
      obtain ⟨ks', h10, hu⟩ := Res1.bind_ok hu
      obtain ⟨ss', h11, hu⟩ := Res1.bind_ok hu
      injection hu with hu
      subst hu
      rw [size_sumLB, size_sumLB]
      simp only [T.kids, T.sys]
      have h1 := walkL_size h10
      have h2 := walkB_size h11
      omega
theorem walkL_size {k : Int} : ∀ {ts us : List T} {i : Nat} {d : Int}, travL (rowsTr W) k i ts d = .ok us → sizeL us ≤ sizeL ts
  | [], us, i, d, hu => by rw [travL_nil] at hu; injection hu with hu; subst hu; exact Nat.le_refl _
  | t :: ts, us, i, d, hu => by
    rw [travL_cons] at hu
    obtain ⟨c', _, hu⟩ := Res1.bind_ok hu
    obtain ⟨t', h2, hu⟩ := Res1.bind_ok hu
    obtain ⟨ts', h3, hu⟩ := Res1.bind_ok hu
    injection hu with hu
    subst hu
    have h4 := walk_size h2
    have h5 := walkL_size h3
    simp only [sizeL]
    omega
theorem walkS_size {k : Int} : ∀ {ts us : List T} {d : Int}, travS (rowsTr W) k ts d = .ok us → sizeL us ≤ sizeL ts
  | [], us, d, hu => by rw [travS_nil] at hu; injection hu with hu; subst hu; exact Nat.le_refl _
  | t :: ts, us, d, hu => by
    rw [travS_cons] at hu
    obtain ⟨c', _, hu⟩ := Res1.bind_ok hu
    obtain ⟨t', h2, hu⟩ := Res1.bind_ok hu
    obtain ⟨ts', h3, hu⟩ := Res1.bind_ok hu
    injection hu with hu
    subst hu
    have h4 := walk_size h2
    have h5 := walkS_size h3
    simp only [sizeL]
    omega
theorem walkB_size {k : Int} : ∀ {bs us : List Br} {d : Int}, travB (rowsTr W) k bs d = .ok us → sizeB us ≤ sizeB bs
  | [], us, d, hu => by rw [travB_nil] at hu; injection hu with hu; subst hu; exact Nat.le_refl _
  | .mk f ks :: bs, us, d, hu => by
    rw [travB_cons] at hu
    simp only [Br.face, Br.kids] at hu
    obtain ⟨o, h5, hu⟩ := Res1.bind_ok hu
    cases o with
    | none => have h6 := walkB_size hu; simp only [sizeB]; omega
    | some g =>
      obtain ⟨ks', h7, hu⟩ := Res1.bind_ok hu
      obtain ⟨bs', h8, hu⟩ := Res1.bind_ok hu
      injection hu with hu
      subst hu
      have h1 := walkS_size h7
      have h2 := walkB_size h8
      simp only [sizeB, Br.kids]
      omega
end
theorem walk_okT (hW : ∀ d f, rowOk f → okE (W.form d f) ∧ okE (W.face d f)) {t u : T} {d : Int} (h : okT t) (hu : trav (rowsTr W) t d = .ok u) : okT u := by
  refine trav_okT (A := rowsTr W) ?_ ?_ ?_ t d u h hu
  · intro c k n nm r p _ hn hr ho
    obtain ⟨h1, h2⟩ := rows_own_inr.mp ho
    have h3 := hW c r hr
    have h4 : okE (W.row k c r) := by unfold RowsW.row; split; exact h3.2; exact h3.1
    unfold okE at h4
    rw [h1] at h4
    exact ⟨by rw [h2]; exact hn, h4⟩
  · intro c k n nm r u ho
    exact absurd ho rows_own_inl
  · intro c f f' hr ho
    obtain ⟨h1, _⟩ := rows_face_some_iff.mp ho
    have h3 := (hW c f hr).2
    unfold okE at h3
    rw [h1] at h3
    exact h3
theorem size_t0 : size t0 = 1 := by decide
theorem asRes_size {t : T} {d : Int} : size (walkR W t d).2 ≤ size t := by
  unfold walkR
  cases h : trav (rowsTr W) t d with
  | ok u => exact walk_size h
  | bad e => show size t0 ≤ size t; rw [size_t0]; exact size_pos' t
theorem asRes_okT (hW : ∀ d f, rowOk f → okE (W.form d f) ∧ okE (W.face d f)) {t : T} {d : Int} (h : okT t) : okT (walkR W t d).2 := by
  unfold walkR
  cases hu : trav (rowsTr W) t d with
  | ok u => exact walk_okT hW h hu
  | bad e => exact okT_t0
end
theorem okE_rowPut {P : List Cl → Int → List Cl → EL} (hP : ∀ f i r, rowOk f → rowOk r → okE (P f i r)) {i d : Int} {r f : List Cl} (hf : rowOk f) : okE (rowPut P i r d f) := by
  unfold rowPut
  split
  · exact hf
  · exact okE_bind fun _ => hP _ _ _ hf (formLift_ok r 0 d)
theorem okW_put (i : Int) (r : List Cl) : ∀ d f, rowOk f → okE ((putW i r).form d f) ∧ okE ((putW i r).face d f) := fun d f hf =>
  ⟨okE_rowPut (fun f i r _ hr => okE_formPut hr) hf, okE_rowPut (fun f i r _ hr => okE_facePut hr) hf⟩
theorem okE_drop {i d : Int} {f : List Cl} (hf : rowOk f) : okE (dropRow i d f) := okE_least fun c hc => u32_drop hc
theorem okW_drop (i : Int) : ∀ d f, rowOk f → okE ((dropW i).form d f) ∧ okE ((dropW i).face d f) := fun d f hf => ⟨okE_drop hf, okE_drop hf⟩
def thenT (x : Int × T) (k : T → Int × T) : Int × T := if x.1 ≠ 0 then (x.1, t0) else k x.2
theorem thenT_bad {x : Int × T} {k : T → Int × T} (h : x.1 ≠ 0) : thenT x k = (x.1, t0) := if_pos h
theorem thenT_ok {x : Int × T} {k : T → Int × T} (h : x.1 = 0) : thenT x k = k x.2 := if_neg (by simp [h])
def foldT {α : Type} (g : α → T → Int × T) : List α → T → Int × T
  | [], t => (0, t)
  | a :: l, t => thenT (g a t) fun u => foldT g l u
section
variable {α : Type} {g : α → T → Int × T}
theorem foldT_on : ∀ {l m : List α} {t u : T}, foldT g l t = (0, u) → foldT g (l ++ m) t = foldT g m u
  | [], m, t, u, e => by
    rw [foldT, Prod.mk.injEq] at e
    rw [List.nil_append, e.2]
  | a :: l, m, t, u, e => by
    rw [foldT] at e
    by_cases h0 : (g a t).1 = 0
    · rw [thenT_ok h0] at e
      rw [List.cons_append, foldT, thenT_ok h0]
      exact foldT_on e
    · rw [thenT_bad h0, Prod.mk.injEq] at e
      exact absurd e.1 h0
theorem foldT_ok {l : List α} {d : α} {t u : T} {i : Nat} (hi : i < l.length) (e : foldT g (l.take i) t = (0, u)) (h0 : (g (l.getD i d) u).1 = 0) : foldT g (l.take (i + 1)) t = (0, (g (l.getD i d) u).2) := by
  rw [take_succ_getD (d := d) hi, foldT_on e, foldT, thenT_ok h0, foldT]
theorem foldT_bad {l : List α} {d : α} {t u : T} {i : Nat} (hi : i < l.length) (e : foldT g (l.take i) t = (0, u)) (h0 : (g (l.getD i d) u).1 ≠ 0) : foldT g l t = ((g (l.getD i d) u).1, t0) := by
  have e2 : l = l.take i ++ l.getD i d :: l.drop (i + 1) := by rw [getD_get (d := d) hi, List.getElem_cons_drop, List.take_append_drop]
  rw [e2, foldT_on e, ← e2, foldT, thenT_bad h0]
theorem foldT_all {l : List α} {t u : T} {i : Nat} (hi : i = l.length) (e : foldT g (l.take i) t = (0, u)) : foldT g l t = (0, u) := by
  rw [hi, List.take_length] at e
  exact e
theorem foldT_t0 : ∀ {l : List α} {t : T}, (foldT g l t).1 ≠ 0 → (foldT g l t).2 = t0
  | [], t, h => absurd rfl h
  | a :: l, t, h => by
    rw [foldT] at h ⊢
    by_cases h1 : (g a t).1 = 0
    · rw [thenT_ok h1] at h ⊢; exact foldT_t0 h
    · rw [thenT_bad h1]
theorem foldT_keep {p : T → Prop} (h0 : p t0) (hg : ∀ a u, p u → p (g a u).2) : ∀ {l : List α} {t : T}, p t → p (foldT g l t).2
  | [], t, h => h
  | a :: l, t, h => by
    rw [foldT]
    by_cases h1 : (g a t).1 = 0
    · rw [thenT_ok h1]; exact foldT_keep h0 hg (hg a t h)
    · rw [thenT_bad h1]; exact h0
end
def dimsWrong (t : T) (i : Int) (r : List Cl) : Int := if formedP t ≠ 0 then formedP t else if (isDim i && fRight r) = false then 2 else 0
def dimsPut (t : T) (i : Int) (r : List Cl) : Int × T := if dimsWrong t i r ≠ 0 then (dimsWrong t i r, t0) else walkR (putW i r) t 0
def dimsTake (t : T) (i : Int) (r : List Cl) : Int × T := if dimsWrong t i r ≠ 0 then (dimsWrong t i r, t0) else if (formLift r i 1).1 ≠ 0 then ((formLift r i 1).1, t0) else thenT (walkR (putW i (formLift r i 1).2) t 0) fun x => walkR (dropW i) x 0
theorem wrong_zero {t : T} {i : Int} {r : List Cl} (h : dimsWrong t i r = 0) : formedP t = 0 ∧ (0 ≤ i ∧ i < 24) ∧ fRight r = true := by
  unfold dimsWrong at h
  split at h
  · rename_i h1; exact absurd h h1
  · rename_i h1
    split at h
    · cases h
    · rename_i h2
      simp only [Bool.not_eq_false, Bool.and_eq_true] at h2
      refine ⟨Decidable.not_not.mp h1, ?_, h2.2⟩
      have h3 := h2.1
      unfold isDim at h3
      simpa using h3
def putsT (r : List Cl) (l : List Int) (t : T) : Int × T := foldT (fun i u => walkR (putW i r) u 0) l t
abbrev EP : Type := Nat × List Cl × SH
def epCells (p : EP) : List Value := [.int .u32 (p.1 : Int), sl p.2.2 p.2.1.length]
abbrev epE (p : EP) : Fact := CL p.2.1 p.2.2
def ep0 : EP := (0, [], none, 0)
abbrev ENF (l : List EP) (a : SH) : Fact := RowF 2 32 epCells epE ep0 l a
def endsT (l : List EP) (t : T) : Int × T := foldT (fun (p : EP) u => putsT p.2.1 (listM p.1) u) l t
def dimsUnder (t : T) (c : Cl) : Int × T := if formedP t ≠ 0 then (formedP t, t0) else if single c = false then (2, t0) else thenT (putsT [cl0] (listM c.pos) t) fun u => putsT [] (listM c.neg) u
theorem endsT_two {c : Cl} {a : SH} {t : T} : endsT [(c.pos, [cl0], a), (c.neg, [], none, 0)] t = thenT (putsT [cl0] (listM c.pos) t) fun u => putsT [] (listM c.neg) u := by
  unfold endsT
  simp only [foldT]
  congr 1
  funext u
  by_cases h : (putsT [] (listM c.neg) u).1 = 0
  · rw [thenT_ok h]; exact Prod.ext h.symm rfl
  · rw [thenT_bad h]
    unfold putsT at h ⊢
    refine Prod.ext rfl ?_
    show t0 = _
    exact (foldT_t0 h).symm
theorem putsT_okT {r : List Cl} {l : List Int} {t : T} (h : okT t) : okT (putsT r l t).2 := foldT_keep okT_t0 (fun i u hu => asRes_okT (okW_put i r) hu) h
section
variable {P : Program} [Tab P] {f : FuncId} {R : Ending → World → Prop} {B : Base} {n : Fz} {K : List Item} {ops : Array Oper} {l : List Nat} {σ : Nat → Value} {Γ : List Fact} {Ms : List Res} {dst : Option Tmp} {ty : TypeId} {x : Operand}
theorem o_ldEN {t : TypeId} {l' : List (Nat × Nat)} {bt bk o i' : Nat} {a : SH} {zv : Value} {ls : List EP} (k_ : RgT P f R B n K ops l (putS σ dst (.agg (epCells (ls.getD i' ep0)).toArray)) Γ Ms) (hF : ENF ls a ∈ Γ := by repeat (first | exact List.mem_cons_self | apply List.mem_cons_of_mem))
    (hx : ev σ x = .pointer (some ⟨bk, o + i' * 2, none⟩) := by exact wn_) (ha : a.1 = some ⟨bk, o, none⟩ := by assumption) (hu : Tab.lay P t = some l' := by rfl) (hi : Tab.inf P t = some (2, bt, zv) := by rfl) (hlt : i' < ls.length := by first | omega | (simp; omega)) (hd : dstOk n dst = true := by rfl) : OpT P f R B n K ops l (opr dst (.load t x) ty) σ Γ Ms :=
  sq_load (le_rowE (F := epCells) (fun _ => rfl) hx hF ha hu hi hlt) hd k_
end
/-! From what holds to what is asked. -/
theorem Spec.conj2 {P : Program} {k : FuncId} {args : Array Value} {pre L : List Fact} {G : Fact} {Ms0 : List Res} {X : Type} {val : X → Value} {N : X → List Fact} {Ms1 : X → List Res} (hp : ∀ F, F ∈ pre → F ∈ G :: L) (h : Spec P k args pre Ms0 val N Ms1) : Spec P k args [AllFs L, G] Ms0 val N Ms1 := fun ok w hok hs =>
  h ok w hok ⟨hs.chg, fun F hF => by
    rcases List.mem_cons.mp (hp F hF) with e | e
    · subst e; exact hs.facts _ (List.mem_cons_of_mem _ List.mem_cons_self)
    · exact hs.facts (AllFs L) List.mem_cons_self F e, hs.res, hs.lt, hs.disj⟩
theorem Spec.unconj2 {P : Program} {k : FuncId} {args : Array Value} {pre L : List Fact} {G : Fact} {Ms0 : List Res} {X : Type} {val : X → Value} {N : X → List Fact} {Ms1 : X → List Res} (hL : ∀ F, F ∈ L → F ∈ pre) (hG : G ∈ pre) (h : Spec P k args [AllFs L, G] Ms0 val N Ms1) : Spec P k args pre Ms0 val N Ms1 := fun ok w hok hs =>
  h ok w hok ⟨hs.chg, fun F hF => by
    rcases List.mem_cons.mp hF with e | e
    · subst e; exact fun F' hF' => hs.facts F' (hL F' hF')
    · rw [List.mem_singleton] at e; subst e; exact hs.facts _ hG, hs.res, hs.lt, hs.disj⟩
theorem St.litEN {B : Base} {Γ : List Fact} {Ms : List Res} {w : World} {e : TypeId} {b : Nat} {p q : EP} (hs : St B Γ (boxR b (epCells p ++ epCells q) e :: Ms) w) {hBp : Prop} (hB : hBp) (hF : epE p ∈ Γ) (hG : epE q ∈ Γ) : St B (ENF [p, q] (some ⟨b, 0, Option.none⟩, 2) :: Γ) Ms w := by
  have h1 := ((hs.boxRow (sz := 2) (m := 2) rfl (by decide)).allNil epE).allAdd (x := p) List.mem_cons_self (List.mem_cons_of_mem _ hF)
  have h2 := h1.allAdd (x := q) List.mem_cons_self (List.mem_cons_of_mem _ (List.mem_cons_of_mem _ hG))
  exact (h2.settleRow (F := epCells) (E := epE) (d := ep0) (bt := 32) (l := [p, q]) (fun _ => rfl) hB List.mem_cons_self (by simp) rfl (by decide)).less (by simp +contextual)
end Go.Hy
namespace Go.Hy
open Go Go.ChangeShapes Go.WideShapes Go.RowKit Go.Shelf Go.Proofs
/-! ### A law whose row lists a package-level table -/
theorem law_lifted_laid {C : Checked} {os : Os} {f : FuncId} {fn : Func} {s : ChangeSpec} {conds : List PathCond} {ts : List TypeId} {tb : TypeId} {H : Type} {enc : TypeId × Value → H} {L : List (String × DataW Unit)}
    (own : ownKnob C.prog.godebug = none) (started : os.Started) (noInit : C.prog.inits.idxOf? f = none) (hfn : C.prog.funcs[f]? = some fn)
    (witness : ∃ (w : World) (tape : Tape) (i : Input), w.os = os ∧ (w.forCall tape i).Shaped C.prog ∧ i.vars = [] ∧ Input.okWide C.prog (w.forCall tape i) .any w.heap.size f i ∧
      ((s.pre enc C.prog fn conds false (w.forCall tape i).memory i.args ∧ laidMetH C.prog L (w.forCall tape i).memory) ∧ sizedMet enc C.prog fn (OpenSpec.ofChange s) false (w.forCall tape i).memory i.args) ∧ Assume.holds {} C.prog (lone (Frame.enter C.prog f i.args .normal) [] (w.forCall tape i)))
    (laid : laidOutB C.prog = true) (hps : fn.params.toList = ts) (hread : ts.all (fun t => C.prog.readableRec t && decide (t < C.prog.types.size)) = true) (hres : fn.resultTypes = #[tb]) (hbool : C.prog.underlying tb = some .bool) (hvars : s.vars = [])
    (hsays : ∀ ds : List (DataW H), ds.length = ts.length → s.fn H ds = { results := [.lit (.bool true)], args := ds })
    (hcall : ∀ (W : World) (base : Nat) (args : Array Value) (ds : List (DataW H)) (p : List MemPlace), (∀ (j : Nat) t v, ts[j]? = some t → args[j]? = some v → Value.okWide C.prog W .any base t v) →
      DataW.TrodAll enc C.prog W 0 (fun _ => true) true ts args.toList ds p → (∀ x, x ∈ DataW.weightsEach C.prog ts ds → x ≤ reach) → laidMetH C.prog L W →
      Calls C.prog f args W fun e W' => e = .returned (.bool true) ∧ Below W.heap.size W W') :
    ReturnsInHanded {} C os f .any (fun w args => (s.pre enc C.prog fn conds false w args ∧ laidMetH C.prog L w) ∧ sizedMet enc C.prog fn (OpenSpec.ofChange s) false w args) (s.post enc C.prog fn false true false false) := by
  refine returnsInHanded_of_change_and (X := fun w _ => laidMetH C.prog L w) (fun _ _ _ hh h => h.of_heap hh) own started noInit hfn witness ?_
  intro W base args ds gs before hval hW hcnd hwt hL _
  have hW' := hW
  obtain ⟨p, q, hA, hV, rfl, hfz, hnd⟩ := hW
  rw [hvars] at hV
  obtain ⟨rfl, rfl⟩ := trodVars_none hV
  rw [hps] at hA hwt
  have hlen : ∀ {ts : List TypeId} {vs : List Value} {ds : List (DataW H)} {ps : List MemPlace}, DataW.TrodAll enc C.prog W 0 (fun _ => true) true ts vs ds ps → ds.length = ts.length := by
    intro ts
    induction ts with
    | nil => intro vs ds ps h; obtain ⟨_, rfl, _⟩ := trodAll_nil h; rfl
    | cons t ts ih =>
      intro vs ds ps h
      obtain ⟨v, vs1, d, ds1, a, b, rfl, rfl, rfl, _, h2⟩ := trodAll_cons h
      simp [ih h2]
  have hvt : s.plain.varTypes C.prog = [] := by
    have : s.plain.vars = [] := hvars
    unfold DataSpec.varTypes; rw [this]; rfl
  have hw2 : ∀ x, x ∈ DataW.weightsEach C.prog ts ds → x ≤ reach := by
    intro x hx
    rw [List.append_nil, hvt, List.append_nil] at hwt
    have := List.all_eq_true.mp hwt x hx
    exact of_decide_eq_true this
  refine (hcall W base args ds p (fun j t v ht hv => hval j t v (by rw [← Array.getElem?_toList, hps]; exact ht) hv) hA hw2 hL).mono ?_
  intro e W' ⟨he, hb⟩
  have hlt : ∀ x ∈ p, x.block < W.heap.size := fun x hx => hW'.lt x (by simpa using hx)
  refine ⟨.bool true, he, ds, [], p ++ [], [], p, [], hW', ?_, ?_, ?_, hb.frame _, fun h => by cases h⟩
  · rw [List.append_nil, hsays ds (hlen hA), hres]
    exact ⟨[], [], ⟨1, by simp [DataW.trod, Value.cells, hbool]⟩, rfl, rfl⟩
  · rw [List.append_nil, hsays ds (hlen hA), hps]
    refine trodAll_stays laid hb (fun t ht => ?_) hA hlt
    have := List.all_eq_true.mp hread t ht
    simpa using this
  · rw [List.append_nil, hsays ds (hlen hA), hvars]
    rfl
/-- What the row's condition gives the walks: the table's cells. -/
theorem tab_laid {P : Program} {W : World} {nm : String} {t e : TypeId} {tab : List Nat} (hg : P.globalNamed nm = some 0) (ht : (P.globals[0]?).map (·.type) = some t) (hu : P.underlying t = some (.array tab.length e)) (he : P.underlying e = some (.int .u8)) (hc : P.cellsOf e = 1) (hc2 : P.cellsOf t = tab.length) (hpos : 0 < tab.length)
    (hp : ([(nm, (DataW.agg (tab.map fun (v : Nat) => .lit (.int .u8 (v : Int))) : DataW Unit))].all fun x => x.2.handleName?.isNone) = true) (h : laidMetH P [(nm, .agg (tab.map fun (v : Nat) => .lit (.int .u8 (v : Int))))] W) : TabAt 0 tab W ∧ 0 < W.heap.size := by
  rw [MakeChecks.laidMetH_plain _ _ _ hp] at h
  obtain ⟨ps, ⟨g0, t0, cs0, f0, p0, q0, hg0, ht0, hv0, hd0, _⟩, _⟩ := h
  obtain rfl := Option.some.inj (hg.symm.trans hg0)
  obtain rfl := Option.some.inj (ht.symm.trans ht0)
  obtain ⟨xs, m1, rfl, hx1, hlen, hn3, hel⟩ := DataW.trod_array hu hd0
  simp only [Prod.mk.injEq, DataW.agg.injEq] at hx1
  have hcell : ∀ j, j < tab.length → W.cell? ⟨0, j, none⟩ = some (.int .u8 (tab.getD j 0)) := by
    intro j hj
    have h1 := hel j hj
    rw [hc, Nat.mul_one, List.getElem?_eq_getElem (by omega)] at h1
    obtain ⟨n, e1, e2, _⟩ := DataW.trod_int he h1
    have h2 := World.var?_cell hg0 hv0 j
    have h3 : cs0[j]? = some (.int .u8 n) := by
      have h4 := congrArg (fun l => l[0]?) e1
      simp only [List.getElem?_take, List.getElem?_drop, List.getElem?_cons_zero] at h4
      simpa using h4
    rw [h2, h3]
    have h5 : (tab.map fun (v : Nat) => (DataW.lit (.int .u8 (v : Int)) : DataW Unit))[j]? = (xs.map (·.1))[j]? := by rw [hx1.1]
    rw [List.getElem?_map, List.getElem?_map, List.getElem?_eq_getElem hj, List.getElem?_eq_getElem (show j < xs.length by omega)] at h5
    simp only [Option.map_some, Option.some.injEq] at h5
    rw [e2] at h5
    simp only [DataW.lit.injEq, Lit.int.injEq, true_and] at h5
    rw [List.getD_eq_getElem?_getD, List.getElem?_eq_getElem hj]
    simp [← h5]
  refine ⟨hcell, ?_⟩
  have h6 := hcell 0 hpos
  refine Nat.lt_of_not_le fun hz => ?_
  unfold World.cell? at h6
  rw [Array.getElem?_eq_none (show W.heap.size ≤ 0 from hz)] at h6
  simp at h6
theorem tab_fact {W : World} {tab : List Nat} (h : TabAt 0 tab W ∧ 0 < W.heap.size) : (At 0 0 (tab.map fun (v : Nat) => Value.int .u8 (v : Int))).f (okw W) W := by
  refine ⟨h.2, fun j v hj => ?_⟩
  rw [List.getElem?_map] at hj
  cases hq : tab[j]? with
  | none => rw [hq] at hj; cases hj
  | some k =>
    rw [hq] at hj
    injection hj with hj
    subst hj
    have hlt : j < tab.length := by
      refine Nat.lt_of_not_le fun hn => ?_
      rw [List.getElem?_eq_none hn] at hq
      cases hq
    have h1 := h.1 j hlt
    rw [List.getD_eq_getElem?_getD, hq] at h1
    rw [Nat.zero_add]
    exact h1
end Go.Hy
namespace Go.Hy
/-! ### What a row says in a world: dimensions that are so, and dimensions whose opposites are so -/
abbrev Wd : Type := Nat → Prop
def satC (c : Cl) (P N : Wd) : Prop := (∀ i, c.pos.testBit i = true → P i) ∧ ∀ i, c.neg.testBit i = true → N i
def sat (l : List Cl) (P N : Wd) : Prop := ∃ c, c ∈ l ∧ satC c P N
def bitsW (s : Nat) : Wd := fun i => s.testBit i = true
def calmW (P N : Wd) : Prop := ∀ i, ¬ (P i ∧ N i)
theorem or_sub {a b : Nat} : a ||| b = a ↔ ∀ i, b.testBit i = true → a.testBit i = true := by
  constructor
  · intro h i hi
    rw [← h, Nat.testBit_or, hi, Bool.or_true]
  · intro h
    refine Nat.eq_of_testBit_eq fun i => ?_
    rw [Nat.testBit_or]
    cases hb : b.testBit i with
    | false => simp
    | true => rw [h i hb]; rfl
theorem below_sat {a b : Cl} : below a b = true ↔ satC b (bitsW a.pos) (bitsW a.neg) := by
  unfold below satC bitsW
  rw [Bool.and_eq_true, decide_eq_true_eq, decide_eq_true_eq, or_sub, or_sub]
theorem satC_self (c : Cl) : satC c (bitsW c.pos) (bitsW c.neg) := ⟨fun i h => h, fun i h => h⟩
theorem sat_of_below {a b : Cl} {P N : Wd} (h : below a b = true) (hs : satC a P N) : satC b P N := by
  have h1 := below_sat.mp h
  exact ⟨fun i hi => hs.1 i (h1.1 i hi), fun i hi => hs.2 i (h1.2 i hi)⟩
theorem below_refl (c : Cl) : below c c = true := below_sat.mpr (satC_self c)
theorem below_trans {a b c : Cl} (h : below a b = true) (h2 : below b c = true) : below a c = true := below_sat.mpr (sat_of_below h2 (below_sat.mp h))
theorem below_anti {a b : Cl} (h : below a b = true) (h2 : below b a = true) : a = b := by
  have h1 := below_sat.mp h
  have h3 := below_sat.mp h2
  unfold satC bitsW at h1 h3
  have e1 : a.pos = b.pos := Nat.eq_of_testBit_eq fun i => by
    cases ha : a.pos.testBit i with
    | true => exact (h3.1 i ha).symm
    | false => cases hb : b.pos.testBit i with
      | false => rfl
      | true => rw [h1.1 i hb] at ha; cases ha
  have e2 : a.neg = b.neg := Nat.eq_of_testBit_eq fun i => by
    cases ha : a.neg.testBit i with
    | true => exact (h3.2 i ha).symm
    | false => cases hb : b.neg.testBit i with
      | false => rfl
      | true => rw [h1.2 i hb] at ha; cases ha
  cases a; cases b; simp_all
theorem needless_true {l : List Cl} {c : Cl} (h : needless l c = true) : ∃ d, d ∈ l ∧ c ≠ d ∧ below c d = true := by
  unfold needless at h
  obtain ⟨d, hd, h2⟩ := List.any_eq_true.mp h
  rw [Bool.and_eq_true] at h2
  exact ⟨d, hd, by simpa using h2.1, h2.2⟩
theorem least_cover {l : List Cl} : ∀ (n : Nat) (c : Cl), c.pos + c.neg ≤ n → c ∈ l → ∃ d, d ∈ refLeast l ∧ below c d = true
  | n, c, hn, hc => by
    cases h : needless l c with
    | false => exact ⟨c, refLeast_mem.mpr ⟨hc, h⟩, below_refl c⟩
    | true =>
      obtain ⟨d, hd, hne, hb⟩ := needless_true h
      have h1 : c.pos ||| d.pos = c.pos ∧ c.neg ||| d.neg = c.neg := by
        unfold below at hb
        rw [Bool.and_eq_true, decide_eq_true_eq, decide_eq_true_eq] at hb
        exact hb
      have h2 : d.pos ≤ c.pos := by have := Nat.right_le_or (n := c.pos) (m := d.pos); omega
      have h3 : d.neg ≤ c.neg := by have := Nat.right_le_or (n := c.neg) (m := d.neg); omega
      have h4 : d.pos + d.neg < c.pos + c.neg := by
        refine Nat.lt_of_le_of_ne (by omega) fun he => hne ?_
        have e1 : c.pos = d.pos := by omega
        have e2 : c.neg = d.neg := by omega
        cases c; cases d; simp_all
      obtain ⟨e, he, h5⟩ := least_cover (d.pos + d.neg) d (Nat.le_refl _) hd
      exact ⟨e, he, below_trans hb h5⟩
termination_by n c => c.pos + c.neg
theorem sat_refLeast {l : List Cl} {P N : Wd} : sat (refLeast l) P N ↔ sat l P N := by
  constructor
  · rintro ⟨c, hc, h⟩; exact ⟨c, (refLeast_mem.mp hc).1, h⟩
  · rintro ⟨c, hc, h⟩
    obtain ⟨d, hd, hb⟩ := least_cover _ c (Nat.le_refl _) hc
    exact ⟨d, hd, sat_of_below hb h⟩
theorem sat_least {l : List Cl} {P N : Wd} (h : (leastF l).1 = 0) : sat (leastF l).2 P N ↔ sat l P N := by
  rcases leastF_cases l with ⟨_, _, h2, _⟩ | h2 | h2
  · rw [h2]; exact sat_refLeast
  · rw [h2] at h; cases h
  · rw [h2] at h; cases h
theorem refLeast_ext {l m : List Cl} (Q : Wd → Wd → Prop) (hl : ∀ c, c ∈ l → Q (bitsW c.pos) (bitsW c.neg)) (hm : ∀ c, c ∈ m → Q (bitsW c.pos) (bitsW c.neg)) (h : ∀ P N, Q P N → (sat l P N ↔ sat m P N)) : refLeast l = refLeast m := by
  have half : ∀ {l m : List Cl}, (∀ c, c ∈ l → Q (bitsW c.pos) (bitsW c.neg)) → (∀ c, c ∈ m → Q (bitsW c.pos) (bitsW c.neg)) → (∀ P N, Q P N → (sat l P N ↔ sat m P N)) → ∀ x, x ∈ refLeast l → x ∈ refLeast m := by
    intro l m hl hm h x hx
    obtain ⟨h1, h2⟩ := refLeast_mem.mp hx
    have key : ∀ d, d ∈ m → below x d = true → x = d := by
      intro d hd hb
      obtain ⟨e, he, hse⟩ := (h _ _ (hm d hd)).mpr ⟨d, hd, satC_self d⟩
      have hb2 : below d e = true := below_sat.mpr hse
      rcases needless_iff.mp h2 e he with h3 | h3
      · subst h3; exact below_anti hb hb2
      · rw [below_trans hb hb2] at h3; cases h3
    obtain ⟨d, hd, hsd⟩ := (h _ _ (hl x h1)).mp ⟨x, h1, satC_self x⟩
    have hxd := key d hd (below_sat.mpr hsd)
    refine refLeast_mem.mpr ⟨hxd ▸ hd, needless_iff.mpr fun e he => ?_⟩
    cases hb : below x e with
    | false => exact .inr rfl
    | true => exact .inl (key e he hb)
  exact strict_ext (refLeast_sorted l) (refLeast_sorted m) fun x => ⟨half hl hm h x, half hm hl (fun P N hq => (h P N hq).symm) x⟩
theorem leastF_ext {l m : List Cl} (Q : Wd → Wd → Prop) (r1 : l.all right24 = true) (r2 : m.all right24 = true) (hl : ∀ c, c ∈ l → Q (bitsW c.pos) (bitsW c.neg)) (hm : ∀ c, c ∈ m → Q (bitsW c.pos) (bitsW c.neg)) (h : ∀ P N, Q P N → (sat l P N ↔ sat m P N)) : leastF l = leastF m := by
  unfold leastF
  rw [r1, r2, refLeast_ext Q hl hm h]
theorem fR_all {l : List Cl} (h : fRight l = true) : l.all right24 = true := by
  unfold fRight at h
  simp only [Bool.and_eq_true] at h
  exact h.1.1.1
theorem fR_ext {l m : List Cl} (Q : Wd → Wd → Prop) (h1 : fRight l = true) (h2 : fRight m = true) (hl : ∀ c, c ∈ l → Q (bitsW c.pos) (bitsW c.neg)) (hm : ∀ c, c ∈ m → Q (bitsW c.pos) (bitsW c.neg)) (h : ∀ P N, Q P N → (sat l P N ↔ sat m P N)) : l = m := by
  have h3 := leastF_ext Q (fR_all h1) (fR_all h2) hl hm h
  rw [leastF_fRight.mp h1, leastF_fRight.mp h2] at h3
  injection h3
theorem form_ext {l m : List Cl} (h1 : fRight l = true) (h2 : fRight m = true) (h : ∀ P N, sat l P N ↔ sat m P N) : l = m := fR_ext (fun _ _ => True) h1 h2 (fun _ _ => trivial) (fun _ _ => trivial) fun P N _ => h P N
theorem clash_iff {c : Cl} : clash c = false ↔ calmW (bitsW c.pos) (bitsW c.neg) := by
  unfold clash calmW bitsW
  rw [decide_eq_false_iff_not, Decidable.not_not]
  constructor
  · rintro h i ⟨h1, h2⟩
    have h3 : (c.pos &&& c.neg).testBit i = true := by rw [Nat.testBit_and, h1, h2]; rfl
    rw [h, Nat.zero_testBit] at h3
    cases h3
  · intro h
    refine Nat.eq_of_testBit_eq fun i => ?_
    rw [Nat.testBit_and, Nat.zero_testBit]
    cases h1 : c.pos.testBit i with
    | false => rfl
    | true => cases h2 : c.neg.testBit i with
      | false => rfl
      | true => exact absurd ⟨h1, h2⟩ (h i)
theorem face_calm {l : List Cl} (h : faceRight l = true) : fRight l = true ∧ ∀ c, c ∈ l → clash c = false := by
  unfold faceRight at h
  rw [Bool.and_eq_true, Bool.not_eq_true'] at h
  refine ⟨h.1, fun c hc => ?_⟩
  cases hq : clash c with
  | false => rfl
  | true => rw [List.any_eq_true.mpr ⟨c, hc, hq⟩] at h; cases h.2
theorem calm_face {l : List Cl} (h : fRight l = true) (h2 : ∀ c, c ∈ l → clash c = false) : faceRight l = true := by
  unfold faceRight
  rw [Bool.and_eq_true, Bool.not_eq_true', h]
  refine ⟨rfl, ?_⟩
  cases hq : l.any clash with
  | false => rfl
  | true => obtain ⟨c, hc, h3⟩ := List.any_eq_true.mp hq; rw [h2 c hc] at h3; cases h3
theorem face_ext {l m : List Cl} (h1 : faceRight l = true) (h2 : faceRight m = true) (h : ∀ P N, calmW P N → (sat l P N ↔ sat m P N)) : l = m :=
  fR_ext calmW (face_calm h1).1 (face_calm h2).1 (fun c hc => clash_iff.mp ((face_calm h1).2 c hc)) (fun c hc => clash_iff.mp ((face_calm h2).2 c hc)) h
/-! Joins, meets, opposites. -/
section
variable {f g l : List Cl} {P N : Wd} {a b c : Cl}
theorem sat_nil : ¬ sat [] P N := by rintro ⟨c, hc, _⟩; cases hc
theorem sat_append : sat (f ++ g) P N ↔ sat f P N ∨ sat g P N := by
  unfold sat
  simp only [List.mem_append]
  constructor
  · rintro ⟨c, h | h, h2⟩
    · exact .inl ⟨c, h, h2⟩
    · exact .inr ⟨c, h, h2⟩
  · rintro (⟨c, h, h2⟩ | ⟨c, h, h2⟩)
    · exact ⟨c, .inl h, h2⟩
    · exact ⟨c, .inr h, h2⟩
theorem sat_single : sat [c] P N ↔ satC c P N := by
  unfold sat
  constructor
  · rintro ⟨d, hd, h⟩; rw [List.mem_singleton] at hd; subst hd; exact h
  · intro h; exact ⟨c, List.mem_singleton.mpr rfl, h⟩
theorem satC_cl0 : satC cl0 P N := ⟨fun i hi => by simp [cl0] at hi, fun i hi => by simp [cl0] at hi⟩
theorem sat_one : sat [cl0] P N := sat_single.mpr satC_cl0
theorem satC_meet : satC (meetC a b) P N ↔ satC a P N ∧ satC b P N := by
  unfold satC meetC
  simp only [Nat.testBit_or, Bool.or_eq_true]
  constructor
  · rintro ⟨h1, h2⟩; exact ⟨⟨fun i hi => h1 i (.inl hi), fun i hi => h2 i (.inl hi)⟩, fun i hi => h1 i (.inr hi), fun i hi => h2 i (.inr hi)⟩
  · rintro ⟨h1, h2⟩; exact ⟨fun i hi => hi.elim (h1.1 i) (h2.1 i), fun i hi => hi.elim (h1.2 i) (h2.2 i)⟩
theorem sat_meetL : sat (meetL f g) P N ↔ sat f P N ∧ sat g P N := by
  unfold sat meetL
  simp only [List.mem_flatMap, List.mem_map]
  constructor
  · rintro ⟨c, ⟨a, ha, b, hb, rfl⟩, h⟩
    have h2 := satC_meet.mp h
    exact ⟨⟨a, ha, h2.1⟩, b, hb, h2.2⟩
  · rintro ⟨⟨a, ha, h1⟩, b, hb, h2⟩
    exact ⟨_, ⟨a, ha, b, hb, rfl⟩, satC_meet.mpr ⟨h1, h2⟩⟩
theorem sat_calm (hw : calmW P N) : sat (calmL l) P N ↔ sat l P N := by
  unfold sat calmL
  constructor
  · rintro ⟨c, hc, h⟩; exact ⟨c, (List.mem_filter.mp hc).1, h⟩
  · rintro ⟨c, hc, h⟩
    refine ⟨c, List.mem_filter.mpr ⟨hc, ?_⟩, h⟩
    rw [Bool.not_eq_true', clash_iff]
    rintro i ⟨h1, h2⟩
    exact hw i ⟨h.1 i h1, h.2 i h2⟩
end
theorem bitM_bit {i : Int} {j : Nat} : (bitM i).testBit j = true ↔ (0 ≤ i ∧ i < 24) ∧ (j : Int) = i := by
  unfold bitM
  split
  · rename_i h
    rw [Nat.testBit_two_pow, decide_eq_true_eq]
    omega
  · rename_i h
    rw [Nat.zero_testBit]
    constructor
    · intro h2; cases h2
    · rintro ⟨h2, _⟩; exact absurd h2 h
theorem withoutM_bit {s : Nat} {i : Int} {j : Nat} : (withoutM s i).testBit j = true ↔ j < 24 ∧ s.testBit j = true ∧ (j : Int) ≠ i := by
  unfold withoutM
  split
  · rename_i h
    rw [andNot32_bit, and24_bit, Nat.testBit_two_pow]
    simp only [Bool.and_eq_true, decide_eq_true_eq, Bool.not_eq_true', decide_eq_false_iff_not]
    constructor
    · rintro ⟨⟨_, h2, h3⟩, h4⟩; exact ⟨h2, h3, by omega⟩
    · rintro ⟨h1, h2, h3⟩; exact ⟨⟨by omega, h1, h2⟩, by omega⟩
  · rename_i h
    rw [and24_bit]
    simp only [Bool.and_eq_true, decide_eq_true_eq]
    constructor
    · rintro ⟨h1, h2⟩; exact ⟨h1, h2, by omega⟩
    · rintro ⟨h1, h2, _⟩; exact ⟨h1, h2⟩
theorem right24_bits {c : Cl} (h : right24 c = true) : (∀ i, c.pos.testBit i = true → i < 24) ∧ ∀ i, c.neg.testBit i = true → i < 24 := by
  obtain ⟨h1, h2⟩ := right24_iff.mp h
  have key : ∀ s i : Nat, s < 16777216 → s.testBit i = true → i < 24 := fun s i hs hi => by
    refine Decidable.byContradiction fun hn => ?_
    have h3 : s < 2 ^ i := Nat.lt_of_lt_of_le (show s < 2 ^ 24 by omega) (Nat.pow_le_pow_right (by omega) (by omega))
    rw [Nat.testBit_lt_two_pow h3] at hi
    cases hi
  exact ⟨fun i hi => key _ i h1 hi, fun i hi => key _ i h2 hi⟩
theorem satC_take {c : Cl} {i : Int} {P N : Wd} (hc : right24 c = true) : satC (takeC c i) P N ↔ (∀ j : Nat, c.pos.testBit j = true → (j : Int) ≠ i → P j) ∧ ∀ j : Nat, c.neg.testBit j = true → (j : Int) ≠ i → N j := by
  obtain ⟨h1, h2⟩ := right24_bits hc
  unfold satC takeC
  simp only [withoutM_bit]
  exact ⟨fun h => ⟨fun j hj hn => h.1 j ⟨h1 j hj, hj, hn⟩, fun j hj hn => h.2 j ⟨h2 j hj, hj, hn⟩⟩, fun h => ⟨fun j hj => h.1 j hj.2.1 hj.2.2, fun j hj => h.2 j hj.2.1 hj.2.2⟩⟩
theorem mem_listM {s : Nat} {x : Int} : x ∈ listM s ↔ 0 ≤ x ∧ x < 24 ∧ s.testBit x.toNat = true := listTo_mem
theorem sat_opp {c : Cl} {P N : Wd} (hc : right24 c = true) : sat (oppL c) P N ↔ (∃ i, c.pos.testBit i = true ∧ N i) ∨ ∃ i, c.neg.testBit i = true ∧ P i := by
  obtain ⟨b1, b2⟩ := right24_bits hc
  unfold oppL
  rw [sat_append]
  have one : ∀ (s : Nat) (hs : ∀ i, s.testBit i = true → i < 24) (mk : Nat → Cl) (Q : Wd) (hq : ∀ x : Int, 0 ≤ x → x < 24 → (satC (mk (bitM x)) P N ↔ Q x.toNat)), sat ((listM s).map fun i => mk (bitM i)) P N ↔ ∃ i, s.testBit i = true ∧ Q i := by
    intro s hs mk Q hq
    unfold sat
    simp only [List.mem_map]
    constructor
    · rintro ⟨_, ⟨x, hx, rfl⟩, h⟩
      obtain ⟨x0, x1, x2⟩ := mem_listM.mp hx
      exact ⟨x.toNat, x2, (hq x x0 x1).mp h⟩
    · rintro ⟨i, hi, h⟩
      have h3 := hs i hi
      exact ⟨_, ⟨(i : Int), mem_listM.mpr ⟨by omega, by omega, by simpa using hi⟩, rfl⟩, (hq (i : Int) (by omega) (by omega)).mpr (by simpa using h)⟩
  have e1 := one c.pos b1 (fun s => ⟨0, s⟩) N (fun x x0 x1 => by
    unfold satC
    simp only [Nat.zero_testBit, bitM_bit]
    constructor
    · intro h; exact h.2 x.toNat ⟨⟨x0, x1⟩, by omega⟩
    · intro h; exact ⟨fun i hi => (by cases hi), fun i hi => (show i = x.toNat by omega) ▸ h⟩)
  have e2 := one c.neg b2 (fun s => ⟨s, 0⟩) P (fun x x0 x1 => by
    unfold satC
    simp only [Nat.zero_testBit, bitM_bit]
    constructor
    · intro h; exact h.1 x.toNat ⟨⟨x0, x1⟩, by omega⟩
    · intro h; exact ⟨fun i hi => (show i = x.toNat by omega) ▸ h, fun i hi => (by cases hi)⟩)
  exact or_congr e1 e2
/-! Folds that are told. -/
theorem foldF_inv {g : List Cl → Cl → EL} {L : List Cl} {I : List Cl → List Cl → Prop} (hs : ∀ pre c h, c ∈ L → I pre h → (g h c).1 = 0 → I (pre ++ [c]) (g h c).2) : ∀ (m pre h : List Cl), I pre h → (∀ c, c ∈ m → c ∈ L) → (foldF g h m).1 = 0 → I (pre ++ m) (foldF g h m).2
  | [], pre, h, hi, _, _ => by rw [List.append_nil]; exact hi
  | c :: m, pre, h, hi, hm, h0 => by
    rw [foldF] at h0 ⊢
    by_cases h1 : (g h c).1 = 0
    · rw [bindE_ok h1] at h0 ⊢
      have h2 := foldF_inv hs m (pre ++ [c]) _ (hs pre c h (hm c List.mem_cons_self) hi h1) (fun d hd => hm d (List.mem_cons_of_mem _ hd)) h0
      rwa [List.append_assoc] at h2
    · rw [bindE_bad h1] at h0
      exact absurd h0 h1
theorem bindE_zero {x : EL} {k : List Cl → EL} (h : (bindE x k).1 = 0) : x.1 = 0 ∧ (k x.2).1 = 0 ∧ bindE x k = k x.2 := by
  by_cases h1 : x.1 = 0
  · rw [bindE_ok h1] at h ⊢; exact ⟨h1, h, rfl⟩
  · rw [bindE_bad h1] at h; exact absurd h h1
def coW (P : Wd) : Wd := fun i => ¬ P i
theorem sat_not {f : List Cl} {P N : Wd} (hf : ∀ c, c ∈ f → right24 c = true) (h : (notF f).1 = 0) : sat (notF f).2 P N ↔ ¬ sat f (coW N) (coW P) := by
  have h2 := foldF_inv (g := notStep) (L := f) (I := fun pre h => ∀ P N, sat h P N ↔ ∀ c, c ∈ pre → ¬ satC c (coW N) (coW P)) (fun pre c h hc hi h0 P N => by
    unfold notStep at h0 ⊢
    obtain ⟨a1, a2, a3⟩ := bindE_zero h0
    rw [a3]
    unfold meetF at a2 ⊢
    rw [sat_least a2, sat_meetL, hi]
    unfold oppF at a1 ⊢
    rw [sat_least a1, sat_opp (hf c hc)]
    simp only [List.mem_append, List.mem_singleton, or_imp, forall_and, forall_eq]
    refine and_congr Iff.rfl ?_
    unfold satC coW
    constructor
    · rintro (⟨i, hi, hn⟩ | ⟨i, hi, hn⟩) ⟨h1, h2⟩
      · exact h1 i hi hn
      · exact h2 i hi hn
    · intro h1
      refine Classical.byContradiction fun h2 => h1 ⟨fun i hi hn => h2 (.inl ⟨i, hi, hn⟩), fun i hi hn => h2 (.inr ⟨i, hi, hn⟩)⟩) f [] [cl0] (fun P N => ⟨fun _ c hc => (by cases hc), fun _ => sat_one⟩) (fun c hc => hc) h P N
  rw [List.nil_append] at h2
  unfold notF
  rw [h2]
  unfold sat
  constructor
  · rintro h3 ⟨c, hc, h4⟩; exact h3 c hc h4
  · intro h3 c hc h4; exact h3 ⟨c, hc, h4⟩
/-! A formula in a dimension's place. -/
def ovr (P : Wd) (i : Int) (A : Prop) : Wd := fun j => if (j : Int) = i then A else P j
theorem satC_ovr {c : Cl} {i : Int} {P N : Wd} {A A' : Prop} (hc : right24 c = true) : satC c (ovr P i A) (ovr N i A') ↔ satC (takeC c i) P N ∧ (hasM c.pos i = true → A) ∧ (hasM c.neg i = true → A') := by
  obtain ⟨b1, b2⟩ := right24_bits hc
  rw [satC_take hc]
  unfold satC ovr hasM
  simp only [Bool.and_eq_true, decide_eq_true_eq]
  constructor
  · rintro ⟨h1, h2⟩
    refine ⟨⟨fun j hj hn => ?_, fun j hj hn => ?_⟩, ?_, ?_⟩
    · have := h1 j hj; rwa [if_neg hn] at this
    · have := h2 j hj; rwa [if_neg hn] at this
    · rintro ⟨⟨h3, h4⟩, h5⟩; have := h1 _ h5; rwa [if_pos (by omega)] at this
    · rintro ⟨⟨h3, h4⟩, h5⟩; have := h2 _ h5; rwa [if_pos (by omega)] at this
  · rintro ⟨⟨h1, h2⟩, h3, h4⟩
    refine ⟨fun j hj => ?_, fun j hj => ?_⟩
    · split
      · rename_i h; have := b1 j hj; exact h3 ⟨⟨by omega, by omega⟩, by rw [← h]; simpa using hj⟩
      · rename_i h; exact h1 j hj h
    · split
      · rename_i h; have := b2 j hj; exact h4 ⟨⟨by omega, by omega⟩, by rw [← h]; simpa using hj⟩
      · rename_i h; exact h2 j hj h
theorem sat_formPut {f r : List Cl} {i : Int} {P N : Wd} (h : (formPut f i r).1 = 0) : fRight f = true ∧ fRight r = true ∧ (0 ≤ i ∧ i < 24) ∧ (sat (formPut f i r).2 P N ↔ sat f (ovr P i (sat r P N)) (ovr N i (¬ sat r (coW N) (coW P)))) := by
  unfold formPut at h ⊢
  split at h
  · cases h
  · rename_i h1
    split at h
    · cases h
    · rename_i h2
      rw [if_neg h1, if_neg h2]
      simp only [Bool.not_eq_false, Bool.and_eq_true] at h1
      have h3 : 0 ≤ i ∧ i < 24 := by unfold isDim at h2; simpa using h2
      refine ⟨h1.1, h1.2, h3, ?_⟩
      have hr := fR_all h1.2
      have hf := fR_all h1.1
      have h4 := foldF_inv (g := putStep i r) (L := f) (I := fun pre h => ∀ P N, sat h P N ↔ ∃ c, c ∈ pre ∧ satC c (ovr P i (sat r P N)) (ovr N i (¬ sat r (coW N) (coW P)))) (fun pre c h hc hi h0 P N => by
        unfold putStep at h0 ⊢
        obtain ⟨a1, a2, a3⟩ := bindE_zero h0
        rw [a3]
        obtain ⟨b1, b2, b3⟩ := bindE_zero a2
        rw [b3]
        unfold joinF at b2 ⊢
        rw [sat_least b2, sat_append, hi]
        have hc24 := List.all_eq_true.mp hf c hc
        have e1 : ∀ P N, sat (putPos i r c).2 P N ↔ satC (takeC c i) P N ∧ (hasM c.pos i = true → sat r P N) := by
          intro P N
          unfold putPos at a1 ⊢
          split
          · rename_i h5
            rw [if_pos h5] at a1
            unfold meetF at a1 ⊢
            rw [sat_least a1, sat_meetL, sat_single]
            exact ⟨fun h => ⟨h.1, fun _ => h.2⟩, fun h => ⟨h.1, h.2 h5⟩⟩
          · rename_i h5
            rw [sat_single]
            exact ⟨fun h => ⟨h, fun h6 => absurd h6 h5⟩, fun h => h.1⟩
        have e2 : sat (putNeg i r c (putPos i r c).2).2 P N ↔ sat (putPos i r c).2 P N ∧ (hasM c.neg i = true → ¬ sat r (coW N) (coW P)) := by
          unfold putNeg at b1 ⊢
          split
          · rename_i h5
            rw [if_pos h5] at b1
            obtain ⟨d1, d2, d3⟩ := bindE_zero b1
            rw [d3]
            unfold meetF at d2 ⊢
            rw [sat_least d2, sat_meetL, sat_not (fun c hc => List.all_eq_true.mp hr c hc) d1]
            exact ⟨fun h => ⟨h.1, fun _ => h.2⟩, fun h => ⟨h.1, h.2 h5⟩⟩
          · rename_i h5
            exact ⟨fun h => ⟨h, fun h6 => absurd h6 h5⟩, fun h => h.1⟩
        rw [e2, e1]
        simp only [List.mem_append, List.mem_singleton]
        constructor
        · rintro (⟨d, hd, hs⟩ | hs)
          · exact ⟨d, .inl hd, hs⟩
          · exact ⟨c, .inr rfl, (satC_ovr hc24).mpr ⟨hs.1.1, hs.1.2, hs.2⟩⟩
        · rintro ⟨d, hd | hd, hs⟩
          · exact .inl ⟨d, hd, hs⟩
          · subst hd
            obtain ⟨q1, q2, q3⟩ := (satC_ovr hc24).mp hs
            exact .inr ⟨⟨q1, q2⟩, q3⟩) f [] [] (fun P N => ⟨fun h => absurd h sat_nil, fun ⟨c, hc, _⟩ => (by cases hc)⟩) (fun c hc => hc) h P N
      rw [List.nil_append] at h4
      exact h4
end Go.Hy
namespace Go.Hy
theorem sat_of {r : List Cl} {P N : Wd} (hw : calmW P N) (h : (ofF r).1 = 0) : sat (ofF r).2 P N ↔ sat r P N := by
  unfold ofF at h ⊢
  split at h
  · rename_i h1
    rw [if_pos h1, sat_least h, sat_calm hw]
  · cases h
theorem sat_ofZero {r : List Cl} {P N : Wd} (hw : calmW P N) (h : (ofZero r).1 = 0) : sat (ofZero r).2 P N ↔ ¬ sat r (coW N) (coW P) := by
  unfold ofZero at h ⊢
  obtain ⟨a1, a2, a3⟩ := bindE_zero h
  rw [a3, sat_of hw a2]
  unfold notR at a1 ⊢
  split at a1
  · rename_i h1
    rw [if_pos h1, sat_not (fun c hc => List.all_eq_true.mp (fR_all h1) c hc) a1]
  · cases a1
theorem meetA_one {c : Cl} {x : List Cl} : meetA [c] x = leastF (calmL (x.map fun b => meetC c b)) := by
  unfold meetA
  simp
theorem sat_map_meet {c : Cl} {x : List Cl} {P N : Wd} : sat (x.map fun b => meetC c b) P N ↔ satC c P N ∧ sat x P N := by
  have h := sat_meetL (f := [c]) (g := x) (P := P) (N := N)
  rw [sat_single] at h
  rw [← h]
  unfold meetL
  simp
theorem clash_take {c : Cl} {i : Int} (h : clash c = false) : clash (takeC c i) = false := by
  rw [clash_iff] at h ⊢
  rintro j ⟨h1, h2⟩
  exact h j ⟨(withoutM_bit.mp h1).2.1, (withoutM_bit.mp h2).2.1⟩
theorem has_both {c : Cl} {i : Int} (h : clash c = false) (h1 : hasM c.pos i = true) : hasM c.neg i = false := by
  cases h2 : hasM c.neg i with
  | false => rfl
  | true =>
    unfold hasM at h1 h2
    simp only [Bool.and_eq_true] at h1 h2
    exact absurd ⟨h1.2, h2.2⟩ (clash_iff.mp h _)
theorem sat_part {c : Cl} {r : List Cl} {i : Int} {P N : Wd} (hw : calmW P N) (hcl : clash c = false) (h : (facePart i r c).1 = 0) : sat (facePart i r c).2 P N ↔ satC (takeC c i) P N ∧ (hasM c.pos i = true → sat r P N) ∧ (hasM c.neg i = true → ¬ sat r (coW N) (coW P)) := by
  unfold facePart at h ⊢
  split at h
  · rename_i h1
    rw [if_pos h1]
    obtain ⟨a1, a2, a3⟩ := bindE_zero h
    rw [a3]
    rw [meetA_one] at a2 ⊢
    rw [sat_least a2, sat_calm hw, sat_map_meet, sat_of hw a1]
    have h2 := has_both hcl h1
    exact ⟨fun h => ⟨h.1, fun _ => h.2, fun h3 => by rw [h2] at h3; cases h3⟩, fun h => ⟨h.1, h.2.1 h1⟩⟩
  · rename_i h1
    rw [if_neg h1]
    split at h
    · rename_i h2
      rw [if_pos h2]
      obtain ⟨a1, a2, a3⟩ := bindE_zero h
      rw [a3]
      rw [meetA_one] at a2 ⊢
      rw [sat_least a2, sat_calm hw, sat_map_meet, sat_ofZero hw a1]
      exact ⟨fun h => ⟨h.1, fun h3 => absurd h3 h1, fun _ => h.2⟩, fun h => ⟨h.1, h.2.2 h2⟩⟩
    · rename_i h2
      rw [if_neg h2, sat_single]
      exact ⟨fun h => ⟨h, fun h3 => absurd h3 h1, fun h3 => absurd h3 h2⟩, fun h => h.1⟩
theorem part_calm {c : Cl} {r : List Cl} {i : Int} (hcl : clash c = false) (h : (facePart i r c).1 = 0) : ∀ d, d ∈ (facePart i r c).2 → clash d = false := by
  have key : ∀ x : List Cl, (meetA [takeC c i] x).1 = 0 → ∀ d, d ∈ (meetA [takeC c i] x).2 → clash d = false := by
    intro x hx d hd
    rw [meetA_one] at hx hd
    have h2 := leastF_sub hx hd
    unfold calmL at h2
    simpa using (List.mem_filter.mp h2).2
  unfold facePart at h ⊢
  split at h
  · rename_i h1
    rw [if_pos h1]
    obtain ⟨a1, a2, a3⟩ := bindE_zero h
    rw [a3]
    exact key _ a2
  · rename_i h1
    rw [if_neg h1]
    split at h
    · rename_i h2
      rw [if_pos h2]
      obtain ⟨a1, a2, a3⟩ := bindE_zero h
      rw [a3]
      exact key _ a2
    · rename_i h2
      rw [if_neg h2]
      intro d hd
      rw [List.mem_singleton] at hd
      subst hd
      exact clash_take hcl
theorem sat_facePut {f r : List Cl} {i : Int} (h : (facePut f i r).1 = 0) : faceRight f = true ∧ fRight r = true ∧ (0 ≤ i ∧ i < 24) ∧ faceRight (facePut f i r).2 = true ∧ ∀ P N, calmW P N → (sat (facePut f i r).2 P N ↔ sat f (ovr P i (sat r P N)) (ovr N i (¬ sat r (coW N) (coW P)))) := by
  unfold facePut at h ⊢
  split at h
  · cases h
  · rename_i h1
    rw [if_neg h1]
    simp only [Bool.not_eq_false, Bool.and_eq_true] at h1
    obtain ⟨⟨hf, hi⟩, hr⟩ := h1
    have h3 : 0 ≤ i ∧ i < 24 := by unfold isDim at hi; simpa using hi
    obtain ⟨hff, hfc⟩ := face_calm hf
    have hf24 := fR_all hff
    refine ⟨hf, hr, h3, ?_⟩
    have h4 := foldF_inv (g := faceStep i r) (L := f) (I := fun pre h => faceRight h = true ∧ ∀ P N, calmW P N → (sat h P N ↔ ∃ c, c ∈ pre ∧ satC c (ovr P i (sat r P N)) (ovr N i (¬ sat r (coW N) (coW P))))) (fun pre c h hc hi h0 => by
      unfold faceStep at h0 ⊢
      obtain ⟨a1, a2, a3⟩ := bindE_zero h0
      rw [a3]
      unfold joinF at a2 ⊢
      have hcl := hfc c hc
      refine ⟨calm_face (leastF_fR a2) fun d hd => ?_, fun P N hw => ?_⟩
      · rcases List.mem_append.mp (leastF_sub a2 hd) with hd | hd
        · exact (face_calm hi.1).2 d hd
        · exact part_calm hcl a1 d hd
      · rw [sat_least a2, sat_append, hi.2 P N hw, sat_part hw hcl a1]
        have hc24 := List.all_eq_true.mp hf24 c hc
        simp only [List.mem_append, List.mem_singleton]
        constructor
        · rintro (⟨d, hd, hs⟩ | hs)
          · exact ⟨d, .inl hd, hs⟩
          · exact ⟨c, .inr rfl, (satC_ovr hc24).mpr hs⟩
        · rintro ⟨d, hd | hd, hs⟩
          · exact .inl ⟨d, hd, hs⟩
          · subst hd
            exact .inr ((satC_ovr hc24).mp hs)) f [] [] ⟨by decide, fun P N _ => ⟨fun h => absurd h sat_nil, fun ⟨c, hc, _⟩ => (by cases hc)⟩⟩ (fun c hc => hc) h
    rw [List.nil_append] at h4
    exact h4
theorem formPut_fR {f r : List Cl} {i : Int} (h : (formPut f i r).1 = 0) : fRight (formPut f i r).2 = true := by
  unfold formPut at h ⊢
  split at h
  · cases h
  · rename_i h1
    split at h
    · cases h
    · rename_i h2
      rw [if_neg h1, if_neg h2]
      exact foldF_inv (g := putStep i r) (L := f) (I := fun pre h => fRight h = true) (fun pre c h hc hi h0 => by
        unfold putStep at h0 ⊢
        obtain ⟨a1, a2, a3⟩ := bindE_zero h0
        rw [a3]
        obtain ⟨b1, b2, b3⟩ := bindE_zero a2
        rw [b3]
        exact leastF_fR b2) f [] [] (by decide) (fun c hc => hc) h
/-! Lifts, a dimension taken out, where a clause is so. -/
def shW (P : Wd) (f b : Int) : Wd := fun j => if (j : Int) < f then P j else P (j + b.toNat)
theorem satC_lift {c : Cl} {f b : Int} {P N : Wd} (h : (clLift c f b).1 = 0) : satC (clLift c f b).2 P N ↔ satC c (shW P f b) (shW N f b) := by
  obtain ⟨hr, h1, h2, h3⟩ := clLift_ok h
  obtain ⟨b1, b2⟩ := right24_bits hr
  obtain ⟨f0, b0, _⟩ := maskLift_bit h1 0
  rw [h3]
  have key : ∀ (s : Nat) (hs : ∀ i, s.testBit i = true → i < 24) (hm : (maskLift s f b).1 = 0) (Q : Wd), (∀ i, (maskLift s f b).2.testBit i = true → Q i) ↔ ∀ i, s.testBit i = true → shW Q f b i := by
    intro s hs hm Q
    constructor
    · intro h i hi
      unfold shW
      split
      · rename_i h4; exact h i ((maskLift_iff hm i).mpr ⟨i, hs i hi, hi, .inl ⟨h4, rfl⟩⟩)
      · rename_i h4; exact h _ ((maskLift_iff hm _).mpr ⟨i, hs i hi, hi, .inr ⟨by omega, by omega⟩⟩)
    · intro h i hi
      obtain ⟨j, _, hj, h4⟩ := (maskLift_iff hm i).mp hi
      have h5 := h j hj
      unfold shW at h5
      rcases h4 with ⟨h4, h6⟩ | ⟨h4, h6⟩
      · rw [if_pos h4] at h5; rw [h6]; exact h5
      · rw [if_neg (by omega)] at h5; rw [show i = j + b.toNat by omega]; exact h5
  unfold satC
  exact and_congr (key _ b1 h1 P) (key _ b2 h2 N)
theorem sat_lift {l : List Cl} {f b : Int} {P N : Wd} (h : (formLift l f b).1 = 0) : sat (formLift l f b).2 P N ↔ sat l (shW P f b) (shW N f b) := by
  obtain ⟨_, h2, h3⟩ := formLift_cases h
  rw [h3] at h ⊢
  rw [sat_least h]
  unfold sat
  simp only [List.mem_map]
  constructor
  · rintro ⟨_, ⟨c, hc, rfl⟩, hs⟩; exact ⟨c, hc, (satC_lift (h2 c hc)).mp hs⟩
  · rintro ⟨c, hc, hs⟩; exact ⟨_, ⟨c, hc, rfl⟩, (satC_lift (h2 c hc)).mpr hs⟩
end Go.Hy
namespace Go.Hy
theorem satC_ovr_free {c : Cl} {i : Int} {P N : Wd} {A A' : Prop} (h : ∀ j : Nat, (c.pos ||| c.neg).testBit j = true → (j : Int) ≠ i) : satC c (ovr P i A) (ovr N i A') ↔ satC c P N := by
  unfold satC ovr
  constructor
  · rintro ⟨h1, h2⟩
    refine ⟨fun j hj => ?_, fun j hj => ?_⟩
    · have := h1 j hj; rwa [if_neg (h j (by rw [Nat.testBit_or, hj]; rfl))] at this
    · have := h2 j hj; rwa [if_neg (h j (by rw [Nat.testBit_or, hj, Bool.or_true]))] at this
  · rintro ⟨h1, h2⟩
    refine ⟨fun j hj => ?_, fun j hj => ?_⟩
    · rw [if_neg (h j (by rw [Nat.testBit_or, hj]; rfl))]; exact h1 j hj
    · rw [if_neg (h j (by rw [Nat.testBit_or, hj, Bool.or_true]))]; exact h2 j hj
theorem has_free {f : List Cl} {i : Int} (hf : f.all right24 = true) (h : hasM (fDims f) i = false) {c : Cl} (hc : c ∈ f) (j : Nat) (hj : (c.pos ||| c.neg).testBit j = true) : (j : Int) ≠ i := by
  intro e
  subst e
  obtain ⟨b1, b2⟩ := right24_bits (List.all_eq_true.mp hf c hc)
  have hlt : j < 24 := by
    rw [Nat.testBit_or, Bool.or_eq_true] at hj
    exact hj.elim (b1 j) (b2 j)
  unfold hasM at h
  rw [decide_eq_true (show (0 : Int) ≤ (j : Int) by omega), decide_eq_true (show (j : Int) < 24 by omega)] at h
  simp only [Bool.true_and, Int.toNat_natCast] at h
  rw [fDims_bit.mpr ⟨hlt, c, hc, hj⟩] at h
  cases h
theorem sat_free {f : List Cl} {i : Int} {P N : Wd} {A A' : Prop} (hf : f.all right24 = true) (h : hasM (fDims f) i = false) : sat f (ovr P i A) (ovr N i A') ↔ sat f P N := by
  unfold sat
  exact exists_congr fun c => and_congr_right fun hc => satC_ovr_free (fun j hj => has_free hf h hc j hj)
theorem sat_congr {f : List Cl} {P N P' N' : Wd} (hf : ∀ c, c ∈ f → right24 c = true) (h1 : ∀ j, j < 24 → (P j ↔ P' j)) (h2 : ∀ j, j < 24 → (N j ↔ N' j)) : sat f P N ↔ sat f P' N' := by
  unfold sat satC
  refine exists_congr fun c => and_congr_right fun hc => ?_
  obtain ⟨b1, b2⟩ := right24_bits (hf c hc)
  exact and_congr (forall_congr' fun i => ⟨fun h hi => (h1 i (b1 i hi)).mp (h hi), fun h hi => (h1 i (b1 i hi)).mpr (h hi)⟩) (forall_congr' fun i => ⟨fun h hi => (h2 i (b2 i hi)).mp (h hi), fun h hi => (h2 i (b2 i hi)).mpr (h hi)⟩)
end Go.Hy
namespace Go.Hy
def uE : T := .mk 3 0 ⟨#[]⟩ [] [] []
def aE (t u : T) : T := .mk 6 0 ⟨#[]⟩ [] [t, u] []
end Go.Hy
namespace Go.Hy
/-! ### The chapter's examples of dims -/
def lpE (r : List Cl) : T := .mk 21 0 ⟨#[]⟩ r [] []
def hcE : T := .mk 15 0 ⟨#[]⟩ [] [uE, uE] [.mk [⟨1, 0⟩] [uE]]
def hcF : T := .mk 15 0 ⟨#[]⟩ [] [uE, uE] []
theorem ex_dput : dimsPut (lpE [⟨1, 0⟩]) 0 [⟨2, 0⟩] = (0, lpE [⟨2, 0⟩]) := by decide +kernel
theorem ex_dtake : dimsTake (lpE [⟨1, 0⟩, ⟨2, 0⟩]) 0 [] = (0, lpE [⟨1, 0⟩]) := by decide +kernel
theorem ex_dunder : dimsUnder hcE ⟨0, 1⟩ = (0, hcF) := by decide +kernel
theorem ex_dsize : size (lpE [⟨1, 0⟩]) = 1 ∧ size (lpE [⟨1, 0⟩, ⟨2, 0⟩]) = 1 ∧ size hcE = 4 := by decide +kernel
theorem dimsPut_okT {t : T} {i : Int} {r : List Cl} (h : okT t) : okT (dimsPut t i r).2 := by
  unfold dimsPut
  split
  · exact okT_t0
  · exact asRes_okT (okW_put i r) h
theorem thenT_okT {x : Int × T} {k : T → Int × T} (hx : okT x.2) (h : ∀ u, okT u → okT (k u).2) : okT (thenT x k).2 := by
  by_cases h1 : x.1 = 0
  · rw [thenT_ok h1]; exact h _ hx
  · rw [thenT_bad h1]; exact okT_t0
theorem dimsTake_okT {t : T} {i : Int} {r : List Cl} (h : okT t) : okT (dimsTake t i r).2 := by
  unfold dimsTake
  split
  · exact okT_t0
  · split
    · exact okT_t0
    · exact thenT_okT (asRes_okT (okW_put _ _) h) fun u hu => asRes_okT (okW_drop i) hu
theorem dimsUnder_okT {t : T} {c : Cl} (h : okT t) : okT (dimsUnder t c).2 := by
  unfold dimsUnder
  split
  · exact okT_t0
  · split
    · exact okT_t0
    · exact thenT_okT (putsT_okT h) fun u hu => putsT_okT hu
theorem dimsPut_size {t : T} {i : Int} {r : List Cl} : size (dimsPut t i r).2 ≤ size t := by
  have hp := size_pos' t
  unfold dimsPut
  split
  · show size t0 ≤ _; rw [size_t0]; exact hp
  · exact asRes_size
end Go.Hy
namespace Go.Hy
/-! ### Terms in which a face is never -/
mutual
def neverT : T → Bool
  | .mk _ _ _ _ ks ss => neverL ks || neverB ss
def neverL : List T → Bool
  | [] => false
  | t :: ts => neverT t || neverL ts
def neverB : List Br → Bool
  | [] => false
  | .mk f ks :: bs => (decide (f = []) || neverL ks) || neverB bs
end
theorem neverL_mem : ∀ {ts : List T}, neverL ts = true ↔ ∃ t, t ∈ ts ∧ neverT t = true
  | [] => by simp [neverL]
  | t :: ts => by simp [neverL, neverL_mem (ts := ts)]
theorem neverB_mem : ∀ {bs : List Br}, neverB bs = true ↔ ∃ b, b ∈ bs ∧ (b.face = [] ∨ neverL b.kids = true)
  | [] => by simp [neverB]
  | .mk f ks :: bs => by simp [neverB, neverB_mem (bs := bs), Br.face, Br.kids]
theorem neverT_iff {t : T} : neverT t = true ↔ neverL t.kids = true ∨ neverB t.sys = true := by
  obtain ⟨k, n, nm, r, ks, ss⟩ := t
  simp only [neverT, T.kids, T.sys, Bool.or_eq_true]
theorem never_kid {t : T} {i : Nat} (hi : i < t.kids.length) (h : neverT (t.kids.getD i t0) = true) : neverT t = true := neverT_iff.mpr (.inl (neverL_mem.mpr ⟨_, getD_mem hi, h⟩))
theorem never_face {t : T} {s : Nat} (hs : s < t.sys.length) (h : (t.sys.getD s br0).face = []) : neverT t = true := neverT_iff.mpr (.inr (neverB_mem.mpr ⟨_, getD_mem hs, .inl h⟩))
theorem never_sys {t : T} {s k : Nat} (hs : s < t.sys.length) (hk : k < (t.sys.getD s br0).kids.length) (h : neverT ((t.sys.getD s br0).kids.getD k t0) = true) : neverT t = true := neverT_iff.mpr (.inr (neverB_mem.mpr ⟨_, getD_mem hs, .inr (neverL_mem.mpr ⟨_, getD_mem hk, h⟩)⟩))
/-! ### One way, and then another one, where no face is never -/
section
variable {CA CB CC : Type} {A : Tr CA} {B : Tr CB} {D : Tr CC} (R : CA → CB → CC → Prop)
variable {R}
end
end Go.Hy
namespace Go.Hy
/-- A row of a node that may be. -/
theorem head_cases {k n : Int} {nm : ByteArray} {r : List Cl} (h : headOK k n nm r) : (k = 14 → faceRight r = true) ∧ fRight r = true := by
  obtain ⟨_, _, h3, h4, h5, h6, h7⟩ := h
  refine ⟨h6, ?_⟩
  by_cases e : k = 13 ∨ k = 21 ∨ k = 26
  · exact h5 e
  · by_cases e2 : k = 14
    · exact (face_calm (h6 e2)).1
    · rw [h7 (by omega)]; decide
end Go.Hy
namespace Go.Hy
/-! ### What was lifted, and then taken out again -/
theorem least_ne {l : List Cl} (h : l ≠ []) (h0 : (leastF l).1 = 0) : (leastF l).2 ≠ [] := by
  rcases leastF_cases l with ⟨_, _, h2, _⟩ | h2 | h2
  · rw [h2]
    cases l with
    | nil => exact absurd rfl h
    | cons c l =>
      obtain ⟨d, hd, _⟩ := least_cover _ c (Nat.le_refl _) (List.mem_cons_self (a := c) (l := l))
      intro e
      rw [e] at hd
      cases hd
  · rw [h2] at h0; cases h0
  · rw [h2] at h0; cases h0
theorem rowLift_ne {b f : Int} {l g : List Cl} (h : rowLift b l f = .ok g) (hl : l ≠ []) : g ≠ [] := by
  unfold rowLift at h
  split at h
  · injection h with h; subst h; exact hl
  · split at h
    · rename_i h1
      injection h with h
      subst h
      obtain ⟨_, _, h3⟩ := formLift_cases h1
      rw [h3] at h1 ⊢
      exact least_ne (by simpa using hl) h1
    · cases h
theorem put_none {P : List Cl → Int → List Cl → EL} {i d : Int} {r f : List Cl} (h : hasM (fDims f) (i + d) = false) : rowPut P i r d f = (0, f) := by
  unfold rowPut
  rw [if_pos h]
end Go.Hy
namespace Go.Hy
/-! ### A way that changes nothing -/
section
variable {C : Type} {A : Tr C}
theorem travL_self {k : Int} {c : C} : ∀ {ts : List T} {i : Nat}, (∀ j, j < ts.length → ∃ c', A.kid c (binds k ((i + j : Nat) : Int)) = .ok c' ∧ trav A (ts.getD j t0) c' = .ok (ts.getD j t0)) → travL A k i ts c = .ok ts
  | [], i, h => travL_nil _ _ _
  | t :: ts, i, h => by
    obtain ⟨c', h1, h2⟩ := h 0 (by simp)
    have h3 := travL_self (ts := ts) (i := i + 1) (fun j hj => by
      have := h (j + 1) (by simpa using hj)
      rw [List.getD_cons_succ, show i + (j + 1) = i + 1 + j by omega] at this
      exact this)
    rw [Nat.add_zero] at h1
    rw [List.getD_cons_zero] at h2
    rw [travL_cons, h1]; simp only [Res1.bind]; rw [h2]; simp only; rw [h3]
theorem travS_self {k : Int} {c : C} : ∀ {ts : List T}, (∀ j, j < ts.length → ∃ c', A.kid c (0, more k) = .ok c' ∧ trav A (ts.getD j t0) c' = .ok (ts.getD j t0)) → travS A k ts c = .ok ts
  | [], h => travS_nil _ _
  | t :: ts, h => by
    obtain ⟨c', h1, h2⟩ := h 0 (by simp)
    have h3 := travS_self (ts := ts) (fun j hj => by
      have := h (j + 1) (by simpa using hj)
      rw [List.getD_cons_succ] at this
      exact this)
    rw [List.getD_cons_zero] at h2
    rw [travS_cons, h1]; simp only [Res1.bind]; rw [h2]; simp only; rw [h3]
theorem travB_self {k : Int} {c : C} : ∀ {bs : List Br}, (∀ b, b ∈ bs → A.face c b.face = .ok (some b.face) ∧ travS A k b.kids c = .ok b.kids) → travB A k bs c = .ok bs
  | [], h => travB_nil _ _
  | b :: bs, h => by
    obtain ⟨h1, h2⟩ := h b List.mem_cons_self
    rw [travB_cons, h1]; simp only [Res1.bind]; rw [h2]; simp only
    rw [travB_self fun b hb => h b (List.mem_cons_of_mem _ hb)]
    cases b; rfl
theorem trav_self {t : T} {c : C} (h1 : A.own c t.kind t.n t.name t.r = .ok (.inr (t.n, t.r))) (h2 : ∀ b, b ∈ t.sys → A.face c b.face = .ok (some b.face)) (h3 : ∀ p, p ∈ parts t → ∃ c', A.kid c p.2 = .ok c' ∧ trav A p.1 c' = .ok p.1) : trav A t c = .ok t := by
  rw [trav_eq, h1]
  simp only [Res1.bind]
  have hk := travL_self (A := A) (k := t.kind) (c := c) (ts := t.kids) (i := 0) (fun j hj => by
    obtain ⟨c', h4, h5⟩ := h3 _ (List.mem_of_getElem? (parts_kid t j hj))
    exact ⟨c', by rw [Nat.zero_add]; exact h4, h5⟩)
  have hs := travB_self (A := A) (k := t.kind) (c := c) (bs := t.sys) (fun b hb => by
    refine ⟨h2 b hb, travS_self fun j hj => ?_⟩
    obtain ⟨s, hs, e⟩ := mem_getD (d := br0) hb
    obtain ⟨c', h4, h5⟩ := h3 _ (List.mem_of_getElem? (parts_sys t s j hs (by rw [e]; exact hj)))
    rw [e] at h5
    exact ⟨c', h4, h5⟩)
  rw [hk]; simp only; rw [hs]
  obtain ⟨k, n, nm, r, ks, ss⟩ := t
  rfl
end
theorem hasM_off {s : Nat} {j : Int} (h : ∀ k : Nat, s.testBit k = true → (k : Int) ≠ j) : hasM s j = false := by
  cases hh : hasM s j with
  | false => rfl
  | true =>
    unfold hasM at hh
    simp only [Bool.and_eq_true, decide_eq_true_eq] at hh
    exact absurd (by omega) (h _ hh.2)
theorem neverT_parts {t : T} (h : neverT t = false) : (∀ b, b ∈ t.sys → b.face ≠ []) ∧ ∀ p, p ∈ parts t → neverT p.1 = false := by
  refine ⟨fun b hb he => ?_, fun p hp => ?_⟩
  · obtain ⟨s, hs, e⟩ := mem_getD (d := br0) hb
    rw [never_face hs (by rw [e]; exact he)] at h; cases h
  · cases hh : neverT p.1 with
    | false => rfl
    | true =>
      rcases part_cases hp with ⟨i, hi, e⟩ | ⟨s, k, hs, hk, e⟩
      · rw [never_kid hi (by rw [e] at hh; exact hh)] at h; cases h
      · rw [never_sys hs hk (by rw [e] at hh; exact hh)] at h; cases h
theorem walk_same {i : Int} {r : List Cl} (hi : 0 ≤ i) : ∀ (t : T) {c : Int}, 0 ≤ c → neverT t = false → (∀ j, (dimsT t).testBit j = true → (j : Int) ≠ i + c) → trav (rowsTr (putW i r)) t c = .ok t := T.ind fun t ih c hc hn hd => by
  obtain ⟨n1, n2⟩ := neverT_parts hn
  have hrow : ∀ P : List Cl → Int → List Cl → EL, ∀ f : List Cl, (∀ j, (fDims f).testBit j = true → (j : Int) ≠ i + c) → rowPut P i r c f = (0, f) := fun P f h => put_none (hasM_off h)
  refine trav_self ?_ (fun b hb => ?_) (fun p hp => ?_)
  · have : (putW i r).row t.kind c t.r = (0, t.r) := by
      unfold RowsW.row
      split
      · exact hrow _ _ fun j hj => hd j (dims_bit.mpr (.inl hj))
      · exact hrow _ _ fun j hj => hd j (dims_bit.mpr (.inl hj))
    rw [rows_own_ok (by rw [this]), this]
  · have : (putW i r).face c b.face = (0, b.face) := hrow _ _ fun j hj => hd j (dims_bit.mpr (.inr (.inl ⟨b, hb, hj⟩)))
    rw [rows_face_some (by rw [this]) (by rw [this]; exact fun h => n1 b hb (List.eq_nil_of_length_eq_zero h)), this]
  · have h01 := parts_01 hp
    refine ⟨_, rfl, ih p hp (by omega) (n2 p hp) fun j hj => ?_⟩
    intro e
    exact hd (j - p.2.2.toNat) (dims_bit.mpr (.inr (.inr ⟨p, hp, by rw [Nat.sub_add_cancel (by omega)]; exact hj⟩))) (by omega)
end Go.Hy
namespace Go.Hy
/-! ### One way and then another is a third and then a fourth, where branches may be dropped -/
section
variable {CA CB CC CD : Type} {A : Tr CA} {B : Tr CB} {C : Tr CC} {D : Tr CD} (R : CA → CB → CC → CD → Prop)
structure SqD : Prop where
  leaf : ∀ t a b c x ca cb cc cd, R ca cb cc cd → fineT t → t.kind = 1 → trav A t ca = .ok a → trav B a cb = .ok b → trav C t cc = .ok c → trav D c cd = .ok x → b = x
  nA : ∀ ca k n nm r u, k ≠ 1 → A.own ca k n nm r ≠ .ok (.inl u)
  nB : ∀ ca k n nm r u, k ≠ 1 → B.own ca k n nm r ≠ .ok (.inl u)
  nC : ∀ ca k n nm r u, k ≠ 1 → C.own ca k n nm r ≠ .ok (.inl u)
  nD : ∀ ca k n nm r u, k ≠ 1 → D.own ca k n nm r ≠ .ok (.inl u)
  own : ∀ ca cb cc cd k n nm r pa pb pc pd, R ca cb cc cd → headOK k n nm r → k ≠ 1 → A.own ca k n nm r = .ok (.inr pa) → B.own cb k pa.1 nm pa.2 = .ok (.inr pb) → C.own cc k n nm r = .ok (.inr pc) → D.own cd k pc.1 nm pc.2 = .ok (.inr pd) → pb = pd
  face : ∀ ca cb cc cd f oa oc, R ca cb cc cd → faceRight f = true → A.face ca f = .ok oa → C.face cc f = .ok oc → ∃ fa, oa = some fa ∧ ∀ ob, B.face cb fa = .ok ob → (oc = none → ob = none) ∧ ∀ fc od, oc = some fc → D.face cd fc = .ok od → ∃ g, od = some g ∧ ob = some g
  kid : ∀ ca cb cc cd b ca' cb' cc' cd', R ca cb cc cd → 0 ≤ b.1 → 0 ≤ b.2 → A.kid ca b = .ok ca' → B.kid cb b = .ok cb' → C.kid cc b = .ok cc' → D.kid cd b = .ok cd' → R ca' cb' cc' cd'
variable {R}
mutual
theorem sqD (F : SqD (A := A) (B := B) (C := C) (D := D) R) : ∀ {t a b c x : T} {ca : CA} {cb : CB} {cc : CC} {cd : CD}, fineT t → R ca cb cc cd → trav A t ca = .ok a → trav B a cb = .ok b → trav C t cc = .ok c → trav D c cd = .ok x → b = x
  | .mk k n nm r ks ss, a, b, c, x, ca, cb, cc, cd, hf, hr, ha, hb, hc, hx => by
    by_cases hk : k = 1
    · exact F.leaf _ _ _ _ _ _ _ _ _ hr hf hk ha hb hc hx
    · simp only [fineT] at hf
      obtain ⟨h1, h2, h3, h4, h5⟩ := hf
      rw [trav_eq] at ha hc
      simp only [T.kind, T.n, T.name, T.r, T.kids, T.sys] at ha hc
      obtain ⟨oa, a1, ha⟩ := Res1.bind_ok ha
      obtain ⟨oc, c1, hc⟩ := Res1.bind_ok hc
      cases oa with
      | inl v => exact absurd a1 (F.nA _ _ _ _ _ _ hk)
      | inr pa =>
        cases oc with
        | inl v => exact absurd c1 (F.nC _ _ _ _ _ _ hk)
        | inr pc =>
          obtain ⟨ka, a2, ha⟩ := Res1.bind_ok ha
          obtain ⟨sa, a3, ha⟩ := Res1.bind_ok ha
          obtain ⟨kc, c2, hc⟩ := Res1.bind_ok hc
          obtain ⟨sc, c3, hc⟩ := Res1.bind_ok hc
          injection ha with ha
          injection hc with hc
          subst ha hc
          rw [trav_eq] at hb hx
          simp only [T.kind, T.n, T.name, T.r, T.kids, T.sys] at hb hx
          obtain ⟨ob, b1, hb⟩ := Res1.bind_ok hb
          obtain ⟨od, d1, hx⟩ := Res1.bind_ok hx
          cases ob with
          | inl v => exact absurd b1 (F.nB _ _ _ _ _ _ hk)
          | inr pb =>
            cases od with
            | inl v => exact absurd d1 (F.nD _ _ _ _ _ _ hk)
            | inr pd =>
              obtain ⟨kb, b2, hb⟩ := Res1.bind_ok hb
              obtain ⟨sb, b3, hb⟩ := Res1.bind_ok hb
              obtain ⟨kd, d2, hx⟩ := Res1.bind_ok hx
              obtain ⟨sd, d3, hx⟩ := Res1.bind_ok hx
              injection hb with hb
              injection hx with hx
              subst hb hx
              rw [F.own _ _ _ _ _ _ _ _ _ _ _ _ hr h1 hk a1 b1 c1 d1, sqDL F h4 hr a2 b2 c2 d2, sqDB F h5 hr a3 b3 c3 d3]
termination_by structural t => t
theorem sqDL (F : SqD (A := A) (B := B) (C := C) (D := D) R) {k : Int} : ∀ {ts a b c x : List T} {i : Nat} {ca : CA} {cb : CB} {cc : CC} {cd : CD}, fineL ts → R ca cb cc cd → travL A k i ts ca = .ok a → travL B k i a cb = .ok b → travL C k i ts cc = .ok c → travL D k i c cd = .ok x → b = x
  | [], a, b, c, x, i, ca, cb, cc, cd, hf, hr, ha, hb, hc, hx => by
    rw [travL_nil] at ha hc
    injection ha with ha
    injection hc with hc
    subst ha hc
    rw [travL_nil] at hb hx
    injection hb with hb
    injection hx with hx
    rw [← hb, ← hx]
  | t :: ts, a, b, c, x, i, ca, cb, cc, cd, hf, hr, ha, hb, hc, hx => by
    rw [travL_cons] at ha hc
    obtain ⟨ca', a1, ha⟩ := Res1.bind_ok ha
    obtain ⟨ta, a2, ha⟩ := Res1.bind_ok ha
    obtain ⟨tsa, a3, ha⟩ := Res1.bind_ok ha
    obtain ⟨cc', c1, hc⟩ := Res1.bind_ok hc
    obtain ⟨tc, c2, hc⟩ := Res1.bind_ok hc
    obtain ⟨tsc, c3, hc⟩ := Res1.bind_ok hc
    injection ha with ha
    injection hc with hc
    subst ha hc
    rw [travL_cons] at hb hx
    obtain ⟨cb', b1, hb⟩ := Res1.bind_ok hb
    obtain ⟨tb, b2, hb⟩ := Res1.bind_ok hb
    obtain ⟨tsb, b3, hb⟩ := Res1.bind_ok hb
    obtain ⟨cd', d1, hx⟩ := Res1.bind_ok hx
    obtain ⟨td, d2, hx⟩ := Res1.bind_ok hx
    obtain ⟨tsd, d3, hx⟩ := Res1.bind_ok hx
    injection hb with hb
    injection hx with hx
    subst hb hx
    have hbi := binds_01 k i
    rw [sqD F hf.1 (F.kid _ _ _ _ _ _ _ _ _ hr (by omega) (by omega) a1 b1 c1 d1) a2 b2 c2 d2, sqDL F hf.2 hr a3 b3 c3 d3]
termination_by structural ts => ts
theorem sqDS (F : SqD (A := A) (B := B) (C := C) (D := D) R) {k : Int} : ∀ {ts a b c x : List T} {ca : CA} {cb : CB} {cc : CC} {cd : CD}, fineL ts → R ca cb cc cd → travS A k ts ca = .ok a → travS B k a cb = .ok b → travS C k ts cc = .ok c → travS D k c cd = .ok x → b = x
  | [], a, b, c, x, ca, cb, cc, cd, hf, hr, ha, hb, hc, hx => by
    rw [travS_nil] at ha hc
    injection ha with ha
    injection hc with hc
    subst ha hc
    rw [travS_nil] at hb hx
    injection hb with hb
    injection hx with hx
    rw [← hb, ← hx]
  | t :: ts, a, b, c, x, ca, cb, cc, cd, hf, hr, ha, hb, hc, hx => by
    rw [travS_cons] at ha hc
    obtain ⟨ca', a1, ha⟩ := Res1.bind_ok ha
    obtain ⟨ta, a2, ha⟩ := Res1.bind_ok ha
    obtain ⟨tsa, a3, ha⟩ := Res1.bind_ok ha
    obtain ⟨cc', c1, hc⟩ := Res1.bind_ok hc
    obtain ⟨tc, c2, hc⟩ := Res1.bind_ok hc
    obtain ⟨tsc, c3, hc⟩ := Res1.bind_ok hc
    injection ha with ha
    injection hc with hc
    subst ha hc
    rw [travS_cons] at hb hx
    obtain ⟨cb', b1, hb⟩ := Res1.bind_ok hb
    obtain ⟨tb, b2, hb⟩ := Res1.bind_ok hb
    obtain ⟨tsb, b3, hb⟩ := Res1.bind_ok hb
    obtain ⟨cd', d1, hx⟩ := Res1.bind_ok hx
    obtain ⟨td, d2, hx⟩ := Res1.bind_ok hx
    obtain ⟨tsd, d3, hx⟩ := Res1.bind_ok hx
    injection hb with hb
    injection hx with hx
    subst hb hx
    have hm := more_pos k
    rw [sqD F hf.1 (F.kid _ _ _ _ _ _ _ _ _ hr (by omega) hm a1 b1 c1 d1) a2 b2 c2 d2, sqDS F hf.2 hr a3 b3 c3 d3]
termination_by structural ts => ts
theorem sqDB (F : SqD (A := A) (B := B) (C := C) (D := D) R) {k : Int} : ∀ {bs a b c x : List Br} {ca : CA} {cb : CB} {cc : CC} {cd : CD}, fineB k bs → R ca cb cc cd → travB A k bs ca = .ok a → travB B k a cb = .ok b → travB C k bs cc = .ok c → travB D k c cd = .ok x → b = x
  | [], a, b, c, x, ca, cb, cc, cd, hf, hr, ha, hb, hc, hx => by
    rw [travB_nil] at ha hc
    injection ha with ha
    injection hc with hc
    subst ha hc
    rw [travB_nil] at hb hx
    injection hb with hb
    injection hx with hx
    rw [← hb, ← hx]
  | .mk f ks :: bs, a, b, c, x, ca, cb, cc, cd, hf, hr, ha, hb, hc, hx => by
    rw [travB_cons] at ha hc
    simp only [Br.face, Br.kids] at ha hc
    obtain ⟨oa, a1, ha⟩ := Res1.bind_ok ha
    obtain ⟨oc, c1, hc⟩ := Res1.bind_ok hc
    obtain ⟨fa, e1, hfc⟩ := F.face _ _ _ _ f oa oc hr hf.2.1 a1 c1
    subst e1
    obtain ⟨ka, a2, ha⟩ := Res1.bind_ok ha
    obtain ⟨ba, a3, ha⟩ := Res1.bind_ok ha
    injection ha with ha
    subst ha
    rw [travB_cons] at hb
    simp only [Br.face, Br.kids] at hb
    obtain ⟨ob, b1, hb⟩ := Res1.bind_ok hb
    obtain ⟨hn, hs⟩ := hfc ob b1
    cases oc with
    | none =>
      have := hn rfl
      subst this
      exact sqDB F hf.2.2.2 hr a3 hb hc hx
    | some fc =>
      obtain ⟨kc, c2, hc⟩ := Res1.bind_ok hc
      obtain ⟨bc, c3, hc⟩ := Res1.bind_ok hc
      injection hc with hc
      subst hc
      rw [travB_cons] at hx
      simp only [Br.face, Br.kids] at hx
      obtain ⟨od, d1, hx⟩ := Res1.bind_ok hx
      obtain ⟨g, g1, g2⟩ := hs fc od rfl d1
      subst g1 g2
      obtain ⟨kb, b2, hb⟩ := Res1.bind_ok hb
      obtain ⟨bb, b3, hb⟩ := Res1.bind_ok hb
      obtain ⟨kd, d2, hx⟩ := Res1.bind_ok hx
      obtain ⟨bd, d3, hx⟩ := Res1.bind_ok hx
      injection hb with hb
      injection hx with hx
      subst hb hx
      rw [sqDS F hf.2.2.1 hr a2 b2 c2 d2, sqDB F hf.2.2.2 hr a3 b3 c3 d3]
termination_by structural bs => bs
end
end
end Go.Hy
namespace Go.Hy
/-! ### Putting a formula in a dimension's place, and lifting -/
theorem shW_co (N : Wd) (f b : Int) : shW (coW N) f b = coW (shW N f b) := by
  funext j
  unfold shW coW
  by_cases h : (j : Int) < f
  · simp only [if_pos h]
  · simp only [if_neg h]
theorem calm_shW {P N : Wd} {f b : Int} (h : calmW P N) : calmW (shW P f b) (shW N f b) := fun j hj => by
  unfold shW at hj
  split at hj
  · exact h _ hj
  · exact h _ hj
theorem sat_rowLift {f g : List Cl} {k b : Int} {P N : Wd} (hf : fRight f = true) (h : rowLift b f k = .ok g) : sat g P N ↔ sat f (shW P k b) (shW N k b) := by
  unfold rowLift at h
  split at h
  · rename_i h1
    injection h with h
    subst h
    refine sat_congr (fun c hc => List.all_eq_true.mp (fR_all hf) c hc) (fun j hj => ?_) (fun j hj => ?_)
    · unfold shW
      rcases h1 with h1 | h1
      · subst h1; split <;> exact Iff.rfl
      · rw [if_pos (by omega)]
    · unfold shW
      rcases h1 with h1 | h1
      · subst h1; split <;> exact Iff.rfl
      · rw [if_pos (by omega)]
  · split at h
    · rename_i h1 h2
      injection h with h
      subst h
      exact sat_lift h2
    · cases h
/-- What is put at a depth. -/
def atP (r : List Cl) (d : Int) (P N : Wd) : Prop := sat r (shW P 0 d) (shW N 0 d)
def atN (r : List Cl) (d : Int) (P N : Wd) : Prop := ¬ sat r (coW (shW N 0 d)) (coW (shW P 0 d))
theorem atP_lift {r : List Cl} {d : Int} {P N : Wd} (h : (formLift r 0 d).1 = 0) : sat (formLift r 0 d).2 P N ↔ atP r d P N := sat_lift h
theorem atN_lift {r : List Cl} {d : Int} {P N : Wd} (h : (formLift r 0 d).1 = 0) : (¬ sat (formLift r 0 d).2 (coW N) (coW P)) ↔ atN r d P N := by
  unfold atN
  rw [sat_lift h, shW_co, shW_co]
theorem sat_rowForm {f r x : List Cl} {i d : Int} {P N : Wd} (hf : fRight f = true) (h : rowPut formPut i r d f = (0, x)) : fRight x = true ∧ (sat x P N ↔ sat f (ovr P (i + d) (atP r d P N)) (ovr N (i + d) (atN r d P N))) := by
  unfold rowPut at h
  split at h
  · rename_i h1
    injection h with _ h
    subst h
    exact ⟨hf, (sat_free (fR_all hf) h1).symm⟩
  · obtain ⟨a1, a2, a3⟩ := bindE_zero (by rw [h] : (bindE (formLift r 0 d) fun s => formPut f (i + d) s).1 = 0)
    rw [a3] at h
    have h0 : (formPut f (i + d) (formLift r 0 d).2).1 = 0 := by rw [h]
    have hx : x = (formPut f (i + d) (formLift r 0 d).2).2 := by rw [h]
    rw [hx]
    refine ⟨formPut_fR h0, ?_⟩
    rw [(sat_formPut h0).2.2.2]
    rw [propext (atP_lift (P := P) (N := N) a1), propext (atN_lift (P := P) (N := N) a1)]
theorem sat_rowFace {f r x : List Cl} {i d : Int} (hf : faceRight f = true) (h : rowPut facePut i r d f = (0, x)) : faceRight x = true ∧ ∀ P N, calmW P N → (sat x P N ↔ sat f (ovr P (i + d) (atP r d P N)) (ovr N (i + d) (atN r d P N))) := by
  unfold rowPut at h
  split at h
  · rename_i h1
    injection h with _ h
    subst h
    exact ⟨hf, fun P N _ => (sat_free (fR_all (face_calm hf).1) h1).symm⟩
  · obtain ⟨a1, a2, a3⟩ := bindE_zero (by rw [h] : (bindE (formLift r 0 d) fun s => facePut f (i + d) s).1 = 0)
    rw [a3] at h
    have h0 : (facePut f (i + d) (formLift r 0 d).2).1 = 0 := by rw [h]
    have hx : x = (facePut f (i + d) (formLift r 0 d).2).2 := by rw [h]
    rw [hx]
    refine ⟨(sat_facePut h0).2.2.2.1, fun P N hw => ?_⟩
    rw [(sat_facePut h0).2.2.2.2 P N hw]
    rw [propext (atP_lift (P := P) (N := N) a1), propext (atN_lift (P := P) (N := N) a1)]
theorem shW_two {P : Wd} {k b : Int} (hk : 0 ≤ k) (hb : 0 ≤ b) : shW (shW P k b) 0 k = shW P 0 (b + k) := by
  funext j
  unfold shW
  rw [if_neg (by omega), if_neg (by omega), if_neg (by omega)]
  congr 1
  omega
theorem at_two {r : List Cl} {P N : Wd} {k b : Int} (hk : 0 ≤ k) (hb : 0 ≤ b) : atP r k (shW P k b) (shW N k b) = atP r (b + k) P N ∧ atN r k (shW P k b) (shW N k b) = atN r (b + k) P N := by
  unfold atP atN
  rw [shW_two hk hb, shW_two hk hb]
  exact ⟨rfl, rfl⟩
theorem ovr_sh {P : Wd} {i k b : Int} {A : Prop} (hi : 0 ≤ i) (hk : 0 ≤ k) (hb : 0 ≤ b) : shW (ovr P (i + (b + k)) A) k b = ovr (shW P k b) (i + k) A := by
  funext j
  unfold shW ovr
  by_cases h1 : (j : Int) < k
  · simp only [if_pos h1]
    rw [if_neg (by omega), if_neg (by omega)]
  · simp only [if_neg h1]
    by_cases h2 : (j : Int) = i + k
    · rw [if_pos (by omega), if_pos h2]
    · rw [if_neg (by omega), if_neg h2]
theorem form_comm {f g x c y r : List Cl} {i k b : Int} (hf : fRight f = true) (hi : 0 ≤ i) (hk : 0 ≤ k) (hb : 0 ≤ b) (h1 : rowLift b f k = .ok g) (h2 : rowPut formPut i r (b + k) g = (0, x)) (h3 : rowPut formPut i r k f = (0, c)) (h4 : rowLift b c k = .ok y) : x = y := by
  have hg := rowLift_fR h1 hf
  have hc := (sat_rowForm (P := fun _ => True) (N := fun _ => True) hf h3).1
  refine form_ext (sat_rowForm (P := fun _ => True) (N := fun _ => True) hg h2).1 (rowLift_fR h4 hc) fun P N => ?_
  rw [(sat_rowForm hg h2).2, sat_rowLift hf h1, sat_rowLift hc h4, (sat_rowForm hf h3).2, ovr_sh hi hk hb, ovr_sh hi hk hb, (at_two hk hb).1, (at_two hk hb).2]
theorem face_comm {f g x c y r : List Cl} {i k b : Int} (hf : faceRight f = true) (hi : 0 ≤ i) (hk : 0 ≤ k) (hb : 0 ≤ b) (h1 : rowLift b f k = .ok g) (h2 : rowPut facePut i r (b + k) g = (0, x)) (h3 : rowPut facePut i r k f = (0, c)) (h4 : rowLift b c k = .ok y) : x = y := by
  have hg := rowLift_face h1 hf
  have hc := (sat_rowFace hf h3).1
  refine face_ext (sat_rowFace hg h2).1 (rowLift_face h4 hc) fun P N hw => ?_
  rw [(sat_rowFace hg h2).2 P N hw, sat_rowLift (face_calm hf).1 h1, sat_rowLift (face_calm hc).1 h4, (sat_rowFace hf h3).2 _ _ (calm_shW hw), ovr_sh hi hk hb, ovr_sh hi hk hb, (at_two hk hb).1, (at_two hk hb).2]
theorem put_var {i n d : Int} {r : List Cl} (hi : 0 ≤ i) (hd : 0 ≤ d) : trav (rowsTr (putW i r)) (.mk 1 n ⟨#[]⟩ [] [] []) d = .ok (.mk 1 n ⟨#[]⟩ [] [] []) :=
  walk_same hi _ hd rfl fun j hj => by
    exfalso
    rcases dims_bit.mp hj with h | ⟨b, hb, _⟩ | ⟨p, hp, _⟩
    · obtain ⟨_, c, hc, _⟩ := fDims_bit.mp h; cases hc
    · cases hb
    · cases hp
theorem lift_own_inr {v b k n : Int} {nm : ByteArray} {c : Int × Int} {r : List Cl} {p : Int × List Cl} (h : (liftTr v b).own c k n nm r = .ok (.inr p)) : p.1 = liftN v c.1 k n ∧ rowLift b r c.2 = .ok p.2 := by
  rw [lift_own_eq] at h
  obtain ⟨g, hg, h2⟩ := Res1.bind_ok (x := rowLift b r c.2) h
  split at h2
  · cases h2
  · injection h2 with h2
    injection h2 with h2
    subst h2
    exact ⟨rfl, hg⟩
theorem lift_face_some {v b : Int} {c : Int × Int} {f : List Cl} {o : Option (List Cl)} (h : (liftTr v b).face c f = .ok o) : ∃ g, o = some g ∧ rowLift b f c.2 = .ok g := by
  rw [lift_face_def] at h
  obtain ⟨g, hg, h2⟩ := Res1.bind_ok (x := rowLift b f c.2) h
  injection h2 with h2
  exact ⟨g, h2.symm, hg⟩
theorem rows_face_any {W : RowsW} {d : Int} {f : List Cl} {o : Option (List Cl)} (h : (rowsTr W).face d f = .ok o) : ∃ g, W.face d f = (0, g) ∧ o = if g = [] then none else some g := by
  cases o with
  | none => exact ⟨[], rows_face_none_iff.mp h, rfl⟩
  | some g =>
    obtain ⟨h1, h2⟩ := rows_face_some_iff.mp h
    exact ⟨g, h1, by rw [if_neg h2]⟩
theorem sq_lift_put {v b i : Int} {r : List Cl} (hv : 0 ≤ v) (hb : 0 ≤ b) (hi : 0 ≤ i) : SqD (A := liftTr v b) (B := rowsTr (putW i r)) (C := rowsTr (putW i r)) (D := liftTr v b) (fun x y z z' => z' = x ∧ z = x.2 ∧ y = b + x.2 ∧ 0 ≤ x.1 ∧ 0 ≤ x.2) where
  leaf := by
    rintro t a b' c x ca cb cc cd ⟨rfl, rfl, rfl, e1, e2⟩ hf hk h1 h2 h3 h4
    obtain ⟨e, hn0⟩ := fine_var hf hk
    obtain ⟨rfl, _⟩ := lift_var hf hk h1
    rw [put_var hi (by omega)] at h2
    injection h2 with h2
    rw [e, put_var hi e2] at h3
    injection h3 with h3
    rw [← h3, ← e, h1] at h4
    injection h4 with h4
    rw [← h2, ← h4]
  nA := fun _ _ _ _ _ _ _ => lift_own_inl
  nB := fun _ _ _ _ _ _ _ => rows_own_inl
  nC := fun _ _ _ _ _ _ _ => rows_own_inl
  nD := fun _ _ _ _ _ _ _ => lift_own_inl
  own := by
    rintro ca cb cc cd k n nm rr pa pb pc pd ⟨rfl, rfl, rfl, e1, e2⟩ hh hk h1 h2 h3 h4
    obtain ⟨a1, a2⟩ := lift_own_inr h1
    obtain ⟨b1, b2⟩ := rows_own_inr.mp h2
    obtain ⟨c1, c2⟩ := rows_own_inr.mp h3
    obtain ⟨d1, d2⟩ := lift_own_inr h4
    obtain ⟨q1, q2⟩ := head_cases hh
    refine Prod.ext (by rw [b2, a1, d1, c2]) ?_
    unfold RowsW.row at b1 c1
    by_cases h14 : k = 14
    · rw [if_pos h14] at b1 c1
      exact face_comm (q1 h14) hi e2 hb a2 b1 c1 d2
    · rw [if_neg h14] at b1 c1
      exact form_comm q2 hi e2 hb a2 b1 c1 d2
  face := by
    rintro ca cb cc cd f oa oc ⟨rfl, rfl, rfl, e1, e2⟩ hf h1 h3
    obtain ⟨fa, rfl, a2⟩ := lift_face_some h1
    obtain ⟨gc, c1, rfl⟩ := rows_face_any h3
    refine ⟨fa, rfl, fun ob h2 => ?_⟩
    obtain ⟨gb, b1, rfl⟩ := rows_face_any h2
    refine ⟨fun hn => ?_, fun fc od hs h4 => ?_⟩
    · have hgc : gc = [] := by
        by_cases h : gc = []
        · exact h
        · rw [if_neg h] at hn; cases hn
      subst hgc
      have := face_comm hf hi e2 hb a2 b1 c1 (rowLift_nil _ _)
      rw [if_pos this]
    · by_cases h : gc = []
      · rw [if_pos h] at hs; cases hs
      · rw [if_neg h] at hs
        injection hs with hs
        subst hs
        obtain ⟨g, rfl, d2⟩ := lift_face_some h4
        have := face_comm hf hi e2 hb a2 b1 c1 d2
        exact ⟨g, rfl, by rw [this, if_neg (rowLift_ne d2 h)]⟩
  kid := by
    rintro ca cb cc cd b' ca' cb' cc' cd' ⟨rfl, rfl, rfl, e1, e2⟩ p1 p2 h1 h2 h3 h4
    have h1 := lift_kid_eq h1
    have h4 := lift_kid_eq h4
    injection h2 with h2
    injection h3 with h3
    subst h1 h2 h3 h4
    exact ⟨rfl, rfl, by dsimp only; omega, by dsimp only; omega, by dsimp only; omega⟩
theorem lift_put {v b i : Int} {r : List Cl} {u a x c y : T} (hi : 0 ≤ i) (hv : 0 ≤ v) (hb : 0 ≤ b) (hf : fineT u) (h1 : trav (liftTr v b) u (0, 0) = .ok a) (h2 : trav (rowsTr (putW i r)) a b = .ok x) (h3 : trav (rowsTr (putW i r)) u 0 = .ok c) (h4 : trav (liftTr v b) c (0, 0) = .ok y) : x = y :=
  sqD (sq_lift_put hv hb hi) hf (ca := (0, 0)) (cb := b) (cc := 0) (cd := (0, 0)) ⟨rfl, rfl, by simp, by decide, by decide⟩ h1 h2 h3 h4
theorem sq_plug_put {n i : Int} {u w : T} {r : List Cl} (hi : 0 ≤ i) (hw : trav (rowsTr (putW i r)) u 0 = .ok w) : SqD (A := plugTr n u) (B := rowsTr (putW i r)) (C := rowsTr (putW i r)) (D := plugTr n w) (fun x y z z' => z' = x ∧ z = x.2 ∧ y = x.2 ∧ 0 ≤ x.1 ∧ 0 ≤ x.2) where
  leaf := by
    rintro t a b' c x ca cb cc cd ⟨rfl, rfl, rfl, e1, e2⟩ hf hk h1 h2 h3 h4
    obtain ⟨e, hn0⟩ := fine_var hf hk
    have ht : c = t := by
      rw [e, put_var hi e2] at h3
      injection h3 with h3
      rw [e]; exact h3.symm
    subst ht
    rcases plug_var hf hk h1 with ⟨a1, a2, rfl⟩ | ⟨a1, rfl⟩
    · rcases plug_var hf hk h4 with ⟨c1, c2, rfl⟩ | ⟨c1, rfl⟩
      · obtain ⟨fu, _, _, w1⟩ := both_way a2
        obtain ⟨_, _, _, w2⟩ := both_way c2
        exact lift_put hi e1 e2 fu w1 h2 hw w2
      · exact absurd a1 c1
    · rcases plug_var hf hk h4 with ⟨c1, c2, rfl⟩ | ⟨c1, rfl⟩
      · exact absurd c1 a1
      · rw [put_var hi e2] at h2
        injection h2 with h2
        exact h2.symm
  nA := fun _ _ _ _ _ _ hk => plug_nl hk
  nB := fun _ _ _ _ _ _ _ => rows_own_inl
  nC := fun _ _ _ _ _ _ _ => rows_own_inl
  nD := fun _ _ _ _ _ _ hk => plug_nl hk
  own := by
    rintro ca cb cc cd k m nm rr pa pb pc pd ⟨rfl, rfl, rfl, e1, e2⟩ hh hk h1 h2 h3 h4
    rw [plug_own_ne hk] at h1 h4
    injection h1 with h1
    injection h1 with h1
    injection h4 with h4
    injection h4 with h4
    subst h1 h4
    rw [h2] at h3
    injection h3 with h3
    injection h3
  face := by
    rintro ca cb cc cd f oa oc ⟨rfl, rfl, rfl, e1, e2⟩ hf h1 h3
    rw [plug_face] at h1
    injection h1 with h1
    subst h1
    refine ⟨f, rfl, fun ob h2 => ?_⟩
    rw [h2] at h3
    injection h3 with h3
    subst h3
    refine ⟨fun h => h, fun fc od h h4 => ?_⟩
    rw [plug_face] at h4
    injection h4 with h4
    exact ⟨fc, h4.symm, h⟩
  kid := by
    rintro ca cb cc cd b' ca' cb' cc' cd' ⟨rfl, rfl, rfl, e1, e2⟩ p1 p2 h1 h2 h3 h4
    injection h1 with h1
    injection h2 with h2
    injection h3 with h3
    injection h4 with h4
    subst h1 h2 h3 h4
    exact ⟨rfl, rfl, rfl, by dsimp only; omega, by dsimp only; omega⟩
theorem dimsPut_told {t : T} {i : Int} {r : List Cl} (h : (dimsPut t i r).1 = 0) : formedP t = 0 ∧ (0 ≤ i ∧ i < 24) ∧ fRight r = true ∧ trav (rowsTr (putW i r)) t 0 = .ok (dimsPut t i r).2 := by
  unfold dimsPut at h ⊢
  split at h
  · rename_i h1; exact absurd h h1
  · rename_i h1
    rw [if_neg h1]
    obtain ⟨w1, w2, w3⟩ := wrong_zero (Decidable.not_not.mp h1)
    refine ⟨w1, w2, w3, ?_⟩
    cases h5 : trav (rowsTr (putW i r)) t 0 with
    | bad e =>
      rw [show walkR (putW i r) t 0 = asRes (trav (rowsTr (putW i r)) t 0) from rfl, h5] at h
      exact absurd h (rows_bad_ne t h5)
    | ok x =>
      rw [show walkR (putW i r) t 0 = asRes (trav (rowsTr (putW i r)) t 0) from rfl, h5]
      rfl
theorem dims_plugs {t u : T} {n i : Int} {r : List Cl} (h1 : (plugRes t n u).1 = 0) (h2 : (dimsPut (plugRes t n u).2 i r).1 = 0) (h3 : (dimsPut t i r).1 = 0) (h4 : (dimsPut u i r).1 = 0) (h5 : (plugRes (dimsPut t i r).2 n (dimsPut u i r).2).1 = 0) : (dimsPut (plugRes t n u).2 i r).2 = (plugRes (dimsPut t i r).2 n (dimsPut u i r).2).2 := by
  obtain ⟨f1, _, hn, _, a1⟩ := plugRes_told h1
  obtain ⟨_, _, _, _, a5⟩ := plugRes_told h5
  obtain ⟨_, hi, _, a2⟩ := dimsPut_told h2
  obtain ⟨_, _, _, a3⟩ := dimsPut_told h3
  obtain ⟨_, _, _, a4⟩ := dimsPut_told h4
  exact sqD (sq_plug_put hi.1 a4) (formed_fine.mp f1).2 (ca := (0, 0)) (cb := 0) (cc := 0) (cd := (0, 0)) ⟨rfl, rfl, rfl, by decide, by decide⟩ a1 a2 a3 a5
end Go.Hy
namespace Go.Hy
/-! A call of a closure among operations of any order. -/
section
variable {tn : Bool} {pn : Nat} {P : Program} [Tab P] {f : FuncId} {R : Ending → World → Prop} {B : Base} {n : Fz} {K : List Item} {ops : Array Oper} {i : Nat} {l fin : List Nat} {σ : Nat → Value} {Γ : List Fact} {Ms Ms2 : List Res}
variable {dst : Option Tmp} {ty : TypeId}
theorem v_callC {c : FuncId} {args cap al : List Value} {av : Array Operand} {ts : Array TypeId} {g : Operand} {pre : List Fact} {X : Type} {val : X → Value} {N : X → List Fact} {Ms1 : X → List Res}
    (hc : ∀ (args : Array Value) (w : World), (callFunc c args).run P w = .ok (.enter c args) w) (hsp : Spec P c al.toArray pre [] val N Ms1) (kk : ∀ x, NV tn pn P f R B n K ops fin l (putS σ dst (val x)) (N x ++ Γ) (Ms1 x ++ Ms))
    (hg : ev σ g = .func (.func c) #[] cap.toArray := by rfl) (ha : av.toList.map (ev σ) = args := by rfl) (hal : args ++ cap = al := by rfl) (hpre : ∀ F, F ∈ pre → F ∈ Γ := by first | (simp; done) | (simp +contextual; done)) (hd : dstOk n dst = true := by rfl) : NvT tn pn P f R B n K ops fin i l dst (.call { callee := .value g, args := av, argTypes := ts }) ty σ Γ Ms :=
  nv_call (enterC hg ha hc) (hal ▸ hsp) hpre rfl rfl hd kk
end
end Go.Hy
namespace Go.Hy
open Go.RowKit Go.Shelf
/-! ### A range over a function whose body never leaves the loop, and whose iterator may write what it has captured -/
theorem range_all {F : Fence} {n : Nat} {P : Program} {α : Type} {g : Operand} {ps : Array Tmp} {assign body : Code} {Q : Exit → Act → World → Prop} {a : Act} {w : World}
    (hro : F.round = none) (h1 : 1 ≤ n) {gf : Nat} {lb : Array Value} (hg : a.eval g = .func (.func gf) #[] lb) (hFg : F.fn gf) (eg : ∀ args w, (callFunc gf args).run P w = .ok (.enter gf args) w)
    {encs : α → Array Value} (hps : ∀ x, (encs x).size = ps.size) (I : List α → World → Prop) (Px : List α → α → Prop) (Kp : World → World → Prop)
    (hIp : ∀ (pre : List α) (A : World) (l : Nat) (o o0 : Obj), I pre A → A.heap[l]? = some o0 → o0.isCells = false → w.heap.size ≤ l → I pre (A.putObj l o)) (hIa : ∀ (pre : List α) (A : World) (o : Obj), I pre A → w.heap.size ≤ A.heap.size → I pre (A.alloc o)) (h0 : I [] w)
    (hKt : ∀ {A B C : World}, Kp A B → Kp B C → Kp A C) (hKp : ∀ (A : World) (l : Nat) (o o0 : Obj), A.heap[l]? = some o0 → o0.isCells = false → w.heap.size ≤ l → Kp A (A.putObj l o))
    (xs : List α)
    (hit : ∀ (l : Nat) (J : List α → World → Prop) (W1 : World), (∀ pre W, J pre W → I pre W) →
      (∀ pre A B, J pre A → I pre B → (∀ (k : Nat) (o : Obj), A.heap[k]? = some o → o.isCells = false → B.heap[k]? = some o) → J pre B) →
      (∀ pre x W, J pre W → Px pre x → YieldAt F (n - 1 - 1) P l (encs x) W fun e W' => e = .returned (.bool true) ∧ J (pre ++ [x]) W' ∧ Kp W W') → J [] W1 → (∀ (k : Nat), k < w.heap.size → W1.heap[k]? = w.heap[k]?) →
      CallsIn F (n - 1) P gf (#[.func (.yield l) #[] #[]] ++ lb) W1 fun e W' => (∃ v, e = .returned v) ∧ J xs W')
    (a₁ : α → Act)
    (hassign : ∀ (l : Nat) (x : α) (W : World) (K : Act → World → Prop), K (a₁ x) W →
      assign.wpIn (F.inRound l) (n - 1 - 1) P (Exit.then K (fun _ _ _ => False)) { tmps := (ps.zip (encs x)).foldl (fun t (p, v) => t.setIfInBounds p v) a.tmps, defers := [] } W)
    (hbody : ∀ (l : Nat) (pre : List α) (x : α) (W : World), I pre W → Px pre x →
      body.wpIn (F.inRound l) (n - 1 - 1) P (fun e _ W' => e = .normal ∧ KeepsOthers W W' ∧ Kp W W' ∧ I (pre ++ [x]) W') (a₁ x) W)
    (hdone : ∀ (D : Nat) (W : World), w.heap.size ≤ D → I xs W → W.heap[D]? = some (.deferred (some [])) → Q .normal { a with defers := { target := .collected D, args := #[] } :: a.defers } W) :
    (Code.rangeFunc g ps assign body).wpIn F n P Q a w := by
  refine wpIn_rangeFunc ?_
  intro fn hfn
  rw [hro]
  obtain ⟨rec, hrec⟩ : ∃ rec : LoopState → Option Code → Loop, rec = fun st pe => { state := st, pending := pe, fn, tmps := a.tmps, params := ps, assign, body, defers := w.heap.size } := ⟨_, rfl⟩
  obtain ⟨W1, hW1⟩ : ∃ W1, (w.alloc (.deferred (some []))).alloc (.loop (rec .ready none)) = W1 := ⟨_, rfl⟩
  have hL1 : W1.heap[w.heap.size + 1]? = some (.loop (rec .ready none)) := by
    rw [← hW1]; have := World.alloc_heap_new (w.alloc (.deferred (some []))) (.loop (rec .ready none)); rwa [World.size_alloc] at this
  have hK1 : W1.heap[w.heap.size]? = some (.deferred (some [])) := by
    rw [← hW1]; exact (Below.heap_alloc _ _ _ (by simp)).trans (World.alloc_heap_new w _)
  have hI1 : I [] W1 := by rw [← hW1]; exact hIa _ _ _ (hIa _ _ _ h0 (Nat.le_refl _)) (by simp)
  refine ⟨w.heap.size + 1, [{ target := .collected w.heap.size, args := #[] }], W1, { target := .fn (.func gf) lb, args := #[.func (.yield (w.heap.size + 1)) #[] #[]] }, W1, gf,
    #[.func (.yield (w.heap.size + 1)) #[] #[]] ++ lb, W1, ?_, ?_, ?_, ?_, fun _ => h1, ?_⟩
  · rw [← hW1, hrec]; exact run_enterLoop_outer _ _ _ _ _
  · simp only [resolve, hg]
    simp [go_sem]
  · intro f' hf'; simp [Target.leads] at hf'; subst hf'; exact hFg
  · simp [invoke, go_sem, eg]
  · refine (hit (w.heap.size + 1) (fun pre W => I pre W ∧ W.heap[w.heap.size + 1]? = some (.loop (rec .ready none)) ∧ W.heap[w.heap.size]? = some (.deferred (some []))) W1
      (fun pre W h => h.1) (fun pre A B hA hB hk => ⟨hB, hk _ _ hA.2.1 rfl, hk _ _ hA.2.2 rfl⟩) ?_ ⟨hI1, hL1, hK1⟩ (fun k hk => by rw [← hW1]; exact (Below.heap_alloc _ _ _ (by simp; omega)).trans (Below.heap_alloc _ _ _ hk))).mono ?_
    · rintro pre x W ⟨hi, hl, hk⟩ hpx
      have hlt : w.heap.size + 1 < W.heap.size := (Array.getElem?_eq_some_iff.1 hl).1
      have hy := run_yield (P := P) (args := encs x) hl (by rw [hrec]; exact hps x)
      rw [hrec] at hy
      refine ⟨fn, _, assign, body, hy, roundIn_of_wpIn hfn (hassign _ x W _ ⟨_, run_beginRound hl (by rw [hrec]), ?_⟩)⟩
      have hl2 : (W.putObj (w.heap.size + 1) (.loop { rec .ready none with state := .busy })).heap[w.heap.size + 1]? = some (.loop { rec .ready none with state := .busy }) := World.putObj_heap_same hlt
      have hk2 : (W.putObj (w.heap.size + 1) (.loop { rec .ready none with state := .busy })).heap[w.heap.size]? = some (.deferred (some [])) := (World.putObj_heap_other (by omega)).trans hk
      refine wpIn_mono (hbody _ pre x _ (hIp _ _ _ _ _ hi hl rfl (by omega)) hpx) ?_
      rintro e a3 W3 ⟨rfl, hk3, hkp3, hi3⟩
      have hl3 := hk3.same _ _ hl2 rfl
      have hend := run_endRound (P := P) none hl3
      rw [hrec] at hl3 hend
      refine ⟨_, _, hend, rfl, ⟨hIp _ _ _ _ _ hi3 hl3 rfl (by omega), ?_, ?_⟩, hKt (hKt (hKp _ _ _ _ hl rfl (by omega)) hkp3) (hKp _ _ _ _ hl3 rfl (by omega))⟩
      · rw [hrec]; exact World.putObj_heap_same (Array.getElem?_eq_some_iff.1 hl3).1
      · exact (World.putObj_heap_other (by omega)).trans (hk3.same _ _ hk2 rfl)
    · rintro e W2 ⟨⟨v, rfl⟩, hi, hl, hk⟩
      exact ⟨none, _, by have := run_endLoop (P := P) hl (by rw [hrec]; simp); rw [hrec] at this; exact this, hdone _ _ (Nat.le_refl _) (hIp _ _ _ _ _ hi hl rfl (by omega)) ((World.putObj_heap_other (by omega)).trans hk)⟩
end Go.Hy
namespace Go.Hy
open Go.Proofs
set_option maxRecDepth 100000
theorem rsameC (l : List Cl) (a_l : SH) (m : List Cl) (a_m : SH)  : Spec Tryz.prog 21 #[sl a_l (l.length), sl a_m (m.length)] [CL l a_l, CL m a_m] [] (fun _ : Unit => .bool ((decide (l = m)))) (fun _ : Unit => []) (fun _ : Unit => []) := by
  refine spec_go (args := [sl a_l (l.length), sl a_m (m.length)]) Tryz.func21 Tryz.ntmps21 rfl (by exact Nat.le_of_ble_eq_true rfl) fun B hB => ?_
  refine go_openCL (l := l) (a := a_l) (fun hl1 hA1 hU1 => ?_); refine go_openCL (l := m) (a := a_m) (fun hl2 hA2 hU2 => ?_); refine go_seq ?_; refine go_region ⟨_, Tryz.func21⟩ rfl ?_; refine q0 rfl (o_assign ?_); refine rg_nil ?_; refine go_seq ?_; refine go_seq ?_; refine go_region ⟨_, Tryz.func21⟩ rfl ?_; refine q0 rfl (o_move ?_); refine q0 rfl (o_len ?_); refine q0 rfl (o_move ?_); refine q0 rfl (o_len ?_); refine q0 rfl (o_neI ?_); refine rg_nil ?_; refine go_condI (fun h10 => ?_) (fun h10 => ?_)
  · have c10 : (decide ((l.length : Int) ≠ (m.length : Int))) = true := h10
    try simp only [sC, bne_iff_ne, beq_iff_eq, ne_eq] at c10
    have hne : ¬ l = m := fun e => by subst e; simp at h10
    refine go_seq ?_; refine go_region ⟨_, Tryz.func21⟩ rfl ?_; refine q0 rfl (o_assign ?_); refine rg_nil ?_; refine ret1 Tryz.func21 Tryz.results21 wn_ () (by rw [decide_eq_false hne]) (fun w hs => hs.none)
  · have c10 : (decide ((l.length : Int) ≠ (m.length : Int))) = false := h10
    try simp only [sC, bne_iff_ne, beq_iff_eq, ne_eq] at c10
    have hlen : l.length = m.length := by simp at h10; omega
    refine go_skip ?_; refine go_seq ?_; refine go_seq ?_; refine go_region ⟨_, Tryz.func21⟩ rfl ?_; refine q0 rfl (o_assign ?_); refine rg_nil ?_; refine go_block ?_; refine go_loopE (X := Nat) (fun s_ => s_ ≤ l.length ∧ ∀ j, j < s_ → l.getD j cl0 = m.getD j cl0) (fun s_ => [(0, sl a_l (l.length)), (1, sl a_m (m.length)), (5, .int .i64 ((s_ : Int)))]) (fun s_ G_ => G_) (fun s_ => []) (fun s_ => l.length - s_) (0) (⟨by omega, fun j hj => by omega⟩) (by exact ⟨rfl, rfl, rfl, trivial⟩) ?_ ?_
    · exact fun w hs => hs
    · intro i base0 ⟨hi, hok⟩ next0; refine go_seq ?_; refine go_seq ?_; refine go_region ⟨_, Tryz.func21⟩ rfl ?_; refine q0 rfl (o_move ?_); refine q0 rfl (o_move ?_); refine q0 rfl (o_len ?_); refine q0 rfl (o_lss ?_); refine rg_nil ?_; refine go_condI (fun h14 => ?_) (fun h14 => ?_)
      · have c14 : (decide ((i : Int) < (l.length : Int))) = true := h14
        try simp only [sC, bne_iff_ne, beq_iff_eq, ne_eq] at c14
        refine go_skip ?_; refine go_seq ?_; refine go_block ?_; refine go_seq ?_; refine go_draw (pn := 1000000) (tn := false) (A := [0, 0, 3, 7, 0, 0, 48, 112, 255]) (l := [0, 1, 2, 3, 4, 5, 6, 7, 8]) (fin := []) Tab.mixed ⟨_, Tryz.func21⟩ (by rfl) ?_; refine n0 rfl (v_move ?_); refine n0 rfl (v_move ?_); obtain ⟨bk3, o3, hav3⟩ := hA1 (by omega); refine n0 rfl (v_ixN ?_ (j := i)); refine n0 rfl (v_ldC ?_); refine n0 rfl (v_move ?_); refine n0 rfl (v_move ?_); obtain ⟨bk4, o4, hav4⟩ := hA2 (by omega); refine n0 rfl (v_ixN ?_ (j := i)); refine n0 rfl (v_ldC ?_); refine n0 rfl (v_neC ?_ (c := (l.getD i cl0)) (c' := (m.getD i cl0))); refine NV.done ?_; refine rg_nil ?_; refine go_condI (fun h25 => ?_) (fun h25 => ?_)
        · have c25 : (!decide ((l.getD i cl0) = (m.getD i cl0))) = true := h25
          try simp only [sC, bne_iff_ne, beq_iff_eq, ne_eq] at c25
          refine go_seq ?_; refine go_region ⟨_, Tryz.func21⟩ rfl ?_; refine q0 rfl (o_assign ?_); refine rg_nil ?_; refine ret1 Tryz.func21 Tryz.results21 wn_ () (by rw [decide_eq_false (fun e => by subst e; simp at h25)]) (fun w hs => hs.none)
        · have c25 : (!decide ((l.getD i cl0) = (m.getD i cl0))) = false := h25
          try simp only [sC, bne_iff_ne, beq_iff_eq, ne_eq] at c25
          refine go_skip ?_; refine go_inBlock ?_; refine go_region ⟨_, Tryz.func21⟩ rfl ?_; refine q0 rfl (o_move ?_); refine q0 rfl (o_add ?_); refine q0 rfl (o_assign ?_); refine rg_nil ?_; have hb : l.getD i cl0 = m.getD i cl0 := by simpa using h25
          refine go_state (fun w hs => ?_) (next0 (i + 1) _ (⟨by omega, succ_inv hok hb⟩) (by omega) ⟨rfl, rfl, rfl, trivial⟩); exact (hs.less (by simp +contextual))
      · have c14 : (decide ((i : Int) < (l.length : Int))) = false := h14
        try simp only [sC, bne_iff_ne, beq_iff_eq, ne_eq] at c14
        refine go_exit rfl ?_; refine go_seq ?_; refine go_region ⟨_, Tryz.func21⟩ rfl ?_; refine q0 rfl (o_assign ?_); refine rg_nil ?_; refine ret1 Tryz.func21 Tryz.results21 wn_ () (by rw [decide_eq_true (list_eq_of hlen (fun j hj => hok j (by omega)))]) (fun w hs => hs.none)
end Go.Hy
namespace Go.Hy
open Go.Proofs
set_option maxRecDepth 100000
attribute [local go_sem] Oper.semAt_some
open Go.RowKit Go.Shelf
set_option maxHeartbeats 1000000
theorem tz32 (F : Fence) (n : Nat) (hF : F.fn 209) (hro : F.round = none) (r : Nat) (k idx : Nat) (hk : k < 24) (h0 : ((r : Int) == 0) = false)
    (key : bits BinOp.and IntKind.u32 (r : Int) (-(r : Int) % 4294967296) * 125613361 % 4294967296 / 134217728 = (idx : Int)) (hi : idx < 32) (W : World) (hc : W.cell? ⟨0, idx, none⟩ = some (.int .u8 (k : Int))) :
    CallsIn F n Tryz.prog 209 #[.int .u32 (r : Int)] W fun e w' => e = .returned (.int .i64 (k : Int)) ∧ w' = W := by
  refine callsIn_of_wp Tryz.func209 rfl hF ?_ hro; simp only [Tryz.ntmps209, List.size_toArray, List.length_cons, List.length_nil, Nat.reduceAdd, Nat.reduceSub, Array.replicate_succ, Array.replicate_zero, List.push_toArray, List.append_toArray, List.nil_append, List.cons_append]
  gi_wp2_with (simp only [key])
  go_ret
  exact ⟨rfl, rfl⟩
theorem tz32' (F : Fence) (n : Nat) (hF : F.fn 209) (hro : F.round = none) (r : Nat) (h0 : ¬ r = 0) (hr : r < 16777216) (W : World) (hT : TabAt 0 Lib.deBruijn32tab W) :
    CallsIn F n Tryz.prog 209 #[.int .u32 (r : Int)] W fun e w' => e = .returned (.int .i64 (Lib.ctz 32 r : Int)) ∧ w' = W := by
  obtain ⟨hlow, hk⟩ := Lib.lowest_bit 32 r h0 (by omega); obtain ⟨hi, htab⟩ := Lib.deBruijn32_at _ hk; have hcell := hT _ hi; rw [htab] at hcell; exact tz32 F n hF hro r _ _ (listM_low h0 hr).1 (by simp; omega) (tz32_key r _ (by omega) h0 hlow) hi W hcell
theorem in1 (F : Fence) (n : Nat) (h208 : F.fn 208) (h209 : F.fn 209) (hro : F.round = none) (hn : 1 ≤ n) (l g : Nat) (s : Nat) (J : List Int → World → Prop)
    (hY : ∀ pre x W, J pre W → pre.length < 24 → (0 ≤ x ∧ x < 24) → YieldAt F (n - 1) Tryz.prog l #[.int .i64 x] W fun e W' => e = .returned (.bool true) ∧ J (pre ++ [x]) W' ∧ W'.heap[g]? = W.heap[g]?)
    (hT : ∀ pre W, J pre W → TabAt 0 Lib.deBruijn32tab W)
    (hJ : ∀ pre W v, J pre W → J pre (W.setCell ⟨g, 0, none⟩ v))
    (hs : s < 4294967296) (W : World) (hg : Boxed W g 43 (.int .u32 (s : Int))) (h0 : J [] W) :
    CallsIn F n Tryz.prog 208 #[.func (.yield l) #[] #[], .pointer (some ⟨g, 0, none⟩)] W fun e W' => (∃ v, e = .returned v) ∧ J (listM s) W' := by
  refine callsIn_of_wp Tryz.func208 rfl h208 ?_ hro; simp only [Tryz.ntmps208, List.size_toArray, List.length_cons, List.length_nil, Nat.reduceAdd, Nat.reduceSub, Array.replicate_succ, Array.replicate_zero, List.push_toArray, List.append_toArray, List.nil_append, List.cons_append]; have hc := hg.cell; have hf := hg.frozen
  gi_wp2
  gi_loopw [] (fun wr => ∃ (pre : List Int) (r : Nat), listM s = pre ++ listM r ∧ r < 16777216 ∧ Boxed wr g 43 (.int .u32 (r : Int)) ∧ J pre wr)
    (fun wr => match wr.cell? ⟨g, 0, none⟩ with | some (.int _ v) => v.toNat | _ => 0)
  case atStart =>
    refine ⟨[], s &&& 16777215, by rw [List.nil_append, listM_and], by rw [and24]; exact Nat.mod_lt _ (by decide), ?_, hJ _ _ _ h0⟩; rw [← bits_and_u32_nat s 16777215 hs (by decide)]; exact hg.set _
  case round =>
    obtain ⟨pre, r, hx, hr, hb, hj⟩ := hrel; have hc2 := hb.cell; have hf2 := hb.frozen; by_cases hr0 : r = 0
    · subst hr0
      gi_wp2
      go_end0
      exact ⟨⟨_, rfl⟩, by rw [hx, show listM 0 = [] from by decide, List.append_nil]; exact hj⟩
    · obtain ⟨hk, hlist⟩ := listM_low hr0 hr
      have hlen : pre.length < 24 := by
        have h1 := congrArg List.length hx; have h2 : (listM s).length ≤ 24 := listTo_len s 24; rw [List.length_append, hlist, List.length_cons] at h1; omega
      obtain ⟨fn, tmps, assign, body, hy, hR⟩ := hY pre (Lib.ctz 32 r : Int) wr hj hlen (by omega); have hbe : ((r : Int) != 0) = true := by simp; omega
      gi_wp2_with (gi_at_call 209; refine (tz32' F (n - 1) h209 hro r hr0 hr wr (hT _ _ hj)).mono ?_; rintro e w' ⟨rfl, rfl⟩)
      refine hR.mono ?_; rintro e W3 ⟨rfl, hJ3, hg3⟩; have hb3 : Boxed W3 g 43 (.int .u32 (r : Int)) := hg3.trans hb; have hc3 := hb3.cell; have hf3 := hb3.frozen
      gi_wp2
      have e1 : bits BinOp.and IntKind.u32 (r : Int) ((r : Int) - 1) = ((r &&& (r - 1) : Nat) : Int) := by
        rw [show (r : Int) - 1 = ((r - 1 : Nat) : Int) by omega]; exact bits_and_u32_nat r (r - 1) (by omega) (by omega)
      rw [e1]; have hb4 := hb3.set (.int .u32 ((r &&& (r - 1) : Nat) : Int)); have hlt := low_lt hr0
      go_roundw
      case rel => exact ⟨pre ++ [(Lib.ctz 32 r : Int)], r &&& (r - 1), by rw [hx, hlist, List.append_assoc]; rfl, by omega, hb4, hJ _ _ _ hJ3⟩
      case measure =>
        rw [hb4.cell, hc2]; simp only [Int.toNat_natCast]; exact hlt
theorem mk_in (F : Fence) (n : Nat) (h : F.fn 156) (hro : F.round = none) (s : Nat) (w : World) :
    CallsIn F n Tryz.prog 156 #[.int .u32 (s : Int)] w fun e w' => e = .returned (.func (.func 208) #[] #[.pointer (some ⟨w.heap.size, 0, none⟩)]) ∧ w' = w.alloc (.cells #[.int .u32 (s : Int)] 43) := by
  refine callsIn_of_wp Tryz.func156 rfl h ?_ hro; simp only [Tryz.ntmps156, List.size_toArray, List.length_cons, List.length_nil, Nat.reduceAdd, Nat.reduceSub, Array.replicate_succ, Array.replicate_zero, List.push_toArray, List.append_toArray, List.nil_append, List.cons_append]
  gi_wp2
  go_ret
  exact ⟨rfl, rfl⟩
theorem infoInt : (Tryz.prog.info? 3).map (fun i => (i.zero, i.size, i.bytes)) = some (some (.int .i64 0), 1, 8) := by kernel_rfl
theorem list_in (F : Fence) (n : Nat) (h81 : F.fn 81) (h156 : F.fn 156) (h208 : F.fn 208) (h209 : F.fn 209) (hro : F.round = none) (hn : 3 ≤ n) (s : Nat) (hs : s < 4294967296) (w : World) (hw : 0 < w.heap.size) (hT : TabAt 0 Lib.deBruijn32tab w) :
    CallsIn F n Tryz.prog 81 #[.int .u32 (s : Int)] w fun e W' => ∃ v, e = .returned v ∧ W'.ownsRow w.heap.size 3 1 v (listM s).length ((listM s).map (Value.int .i64)) ∧ Below w.heap.size w W' := by
  have h1 : 1 ≤ n := by omega
  obtain ⟨i0, hi, hz0, hz1, hz2⟩ := info_parts infoInt; refine callsIn_of_wp_marks Tryz.func81 rfl h81 ?_ hro; simp only [Tryz.ntmps81, List.size_toArray, List.length_cons, List.length_nil, Nat.reduceAdd, Nat.reduceSub, Array.replicate_succ, Array.replicate_zero, List.push_toArray, List.append_toArray, List.nil_append, List.cons_append]
  gi_wp2_with (gi_at_call 156; refine (mk_in F (n - 1) h156 hro _ _).mono ?_; rintro e w' ⟨rfl, rfl⟩)
  obtain ⟨w2, hw2⟩ : ∃ w2, (w.alloc (.cells #[.slice none 0 0] 117)).alloc (.cells #[.int .u32 (s : Int)] 43) = w2 := ⟨_, rfl⟩; have bO : Boxed w2 w.heap.size 117 (.slice none 0 0) := by rw [← hw2]; exact (Boxed.new w 117 (.slice none 0 0)).alloc _
  have bS : Boxed w2 (w.heap.size + 1) 43 (.int .u32 (s : Int)) := by rw [← hw2]; have := Boxed.new (w.alloc (.cells #[.slice none 0 0] 117)) 43 (.int .u32 (s : Int)); rwa [World.size_alloc] at this
  have hsz2 : w2.heap.size = w.heap.size + 2 := by rw [← hw2]; simp
  have hB2 : Below w.heap.size w w2 := by rw [← hw2]; exact ((Below.refl _ w).alloc (Nat.le_refl _) _).alloc (by simp) _
  have hrw : ∀ {A B : World}, B.heap[w.heap.size + 1]? = A.heap[w.heap.size + 1]? → ∀ u, Boxed A (w.heap.size + 1) 43 u → Boxed B (w.heap.size + 1) 43 u := fun h u hu => h.trans hu
  simp only [World.size_alloc, hw2]
  refine range_all hro h1 (gf := 208) (lb := #[.pointer (some ⟨w.heap.size + 1, 0, none⟩)]) rfl h208 (enters_of Tryz.func208 (by kernel_rfl) rfl) (encs := fun x : Int => #[Value.int .i64 x]) (fun _ => rfl)
    (fun pre W => (∃ v, Boxed W w.heap.size 117 v ∧ W.ownsRow w.heap.size 3 1 v pre.length (pre.map (Value.int .i64))) ∧ (∃ u, Boxed W (w.heap.size + 1) 43 u) ∧ Below w.heap.size w W)
    (fun pre x => pre.length < 24 ∧ (0 ≤ x ∧ x < 24)) (fun W W' => W'.heap[w.heap.size + 1]? = W.heap[w.heap.size + 1]?)
    ?ip ?ia ⟨⟨_, bO, World.ownsRow_nil _ _ _ _⟩, ⟨_, bS⟩, hB2⟩ (fun h k => k.trans h) ?kp (listM s) ?it
    (fun x => { tmps := #[.int .u32 (s : Int), undef, .slice none 0 0, .pointer (some ⟨w.heap.size, 0, none⟩), .int .i64 x, .int .u32 (s : Int), .func (.func 208) #[] #[.pointer (some ⟨w.heap.size + 1, 0, none⟩)], .int .i64 x, undef, undef, undef, undef, undef], defers := [] }) ?assign ?body ?done
  case ip =>
    rintro pre A l o o0 ⟨⟨v, hv, hr⟩, ⟨u, hu⟩, hB⟩ hl hc hle; refine ⟨⟨v, (World.putObj_heap_other (by omega)).trans hv, ownsRow_putObj hr o hl hc⟩, ⟨u, (World.putObj_heap_other (by omega)).trans hu⟩, hB.trans ⟨rfl, rfl, rfl, by simp, fun k hk => World.putObj_heap_other (by omega)⟩⟩
  case ia =>
    rintro pre A o ⟨⟨v, hv, hr⟩, ⟨u, hu⟩, hB⟩ hle; exact ⟨⟨v, hv.alloc o, hr.kept (World.grownBy_alloc A o none) (by rcases hr.2 with ⟨rfl, _⟩ | ⟨g, cap, cur, rfl, _⟩; exact .inl rfl; exact .inr (by simp [Value.ownBlock]))⟩, ⟨u, hu.alloc o⟩, hB.alloc (by omega) o⟩
  case kp =>
    intro A l o o0 hl hc hle; exact World.putObj_heap_other (by omega)
  case it =>
    intro l J W1 hJI hJk hY h0 hk1; refine in1 F (n - 1) h208 h209 hro (by omega) l (w.heap.size + 1) s J (fun pre x W hj hl hx => hY pre x W hj ⟨hl, hx⟩) (fun pre W hj => ?_) (fun pre W v hj => ?_) hs W1 ?_ h0
    · intro i hi; exact ((hJI _ _ hj).2.2.cell (p := ⟨0, i, none⟩) hw).trans (hT i hi)
    · obtain ⟨⟨v0, hv0, hr⟩, ⟨u, hu⟩, hB⟩ := hJI _ _ hj; refine hJk pre W _ hj ⟨⟨v0, hv0.other (by omega) v, hr.kept (grownBy_setCell' W (w.heap.size + 1) v) (.inr (hu.not_row (by decide) hr).symm)⟩, ⟨_, hu.set v⟩, hB.setCell (p := ⟨w.heap.size + 1, 0, none⟩) (by simp) v⟩ (fun k o hk ho => (KeepsOthers.setCell W _ v).same k o hk ho)
    · exact (hk1 _ (by omega)).trans bS
  case assign =>
    intro l x W K hK
    gi_wp2
    exact hK
  case body =>
    rintro l pre x W ⟨⟨v, hv, hrow⟩, ⟨u, hu⟩, hB⟩ ⟨hlt, hx⟩; have hc := hv.cell
    gi_wp2_with (gi_at_builtin; refine wpListIn_append_own _ rfl _ _ 117 rfl w.heap.size 3 i0 (.int .i64 0) 1 8 Tryz.underlying117 hi hz0 hz1 hz2 rfl (by decide) _ _ _ rfl (hrow.alloc _) ⟨W.heap.size, 0, none⟩ 1 1 [.int .i64 x] rfl rfl (cell_one_new _ _ _) (by simp [Value.oneCell']) (by unfold maxLen; omega) (by omega) (by have := hB.size; simp; omega) ?_; intro v' w1 hown' hgrow _; obtain ⟨g', cap', rfl⟩ := ownsRow_succ hown'; obtain ⟨hv1, hv2, hr2, hk2, hb2⟩ := hv.appended (by decide) hrow hB.size (Nat.le_refl _) hown' hgrow; have hc1 := hv1.cell; have hf1 := hv1.frozen)
    have hu1 := ((hu.alloc (.cells #[.int .i64 x] 3)).kept hgrow (hu.not_row (by decide) hrow)).other (B' := w.heap.size) (by omega) (.slice (some ⟨g', 0, none⟩) (pre.length + 1) cap'); exact ⟨hu1.trans hu.symm, ⟨_, hv2, by simpa using hr2⟩, ⟨u, hu1⟩, hB.trans hb2⟩
  case done =>
    rintro D W hD ⟨⟨v, hv, hrow⟩, _, hB⟩ hK; have hc := hv.cell
    gi_wp2
    refine ⟨by simp, .inl ⟨_, _, rfl, run_takeDeferred hK, ?_⟩⟩; exact ⟨_, results_tmp rfl _ _ _, v, rfl, ownsRow_putObj hrow _ hK rfl, hB.trans ⟨rfl, rfl, rfl, by simp, fun k hk => World.putObj_heap_other (by omega)⟩⟩
abbrev DBF : Fact := At 0 0 (Lib.deBruijn32tab.map fun (v : Nat) => Value.int .u8 (v : Int))
theorem tab_of {ok : Nat → Prop} {w : World} (h : DBF.f ok w) (hk : ∀ b, ok b → b < w.heap.size) : TabAt 0 Lib.deBruijn32tab w ∧ 0 < w.heap.size := by
  refine ⟨fun j hj => ?_, hk _ h.1⟩; have h1 := h.2 j (.int .u8 (Lib.deBruijn32tab.getD j 0 : Nat)) (by rw [List.getElem?_map, List.getD_eq_getElem?_getD, List.getElem?_eq_getElem hj]; rfl)
  rwa [Nat.zero_add] at h1
theorem maskListO (s : Nat) (hs : s < 4294967296) : Spec Tryz.prog 81 #[.int .u32 (s : Int)] [DBF] [] (fun x : SH => sl x (listM s).length) (fun _ => []) (fun x => [rowS 1 3 x (listM s).length (intFlat (listM s))]) := fun ok w hok hst => by
  obtain ⟨hT, hw⟩ := tab_of (hst.facts DBF List.mem_cons_self) (fun b hb => hb.2.1); refine (callsIn_wide.mp (list_in Fence.wide 3 trivial trivial trivial trivial rfl (Nat.le_refl _) s hs w hw hT)).mono fun e w' hh => ?_
  obtain ⟨v, rfl, hrow, hB⟩ := hh; obtain ⟨a, rfl⟩ := owns_sh hrow
  have hrow0 : w'.ownsRow 0 3 1 (sl a (listM s).length) (listM s).length (intFlat (listM s)) := by
    have h1 : w'.ownsRow 0 3 1 (sl a (listM s).length) (listM s).length ((listM s).map (Value.int .i64)) := ⟨hrow.1, hrow.2.imp id (fun ⟨g, cap, cur, q1, q2, q3⟩ => ⟨g, cap, cur, q1, Nat.zero_le _, q3⟩)⟩
    rwa [show (listM s).map (Value.int .i64) = intFlat (listM s) from by induction (listM s) with | nil => rfl | cons y ys ih => (simp only [List.map_cons, intFlat, List.flatMap_cons, intCells, List.singleton_append] at ih ⊢; rw [ih])] at h1
  refine ⟨a, rfl, ⟨hB.os, hB.tape, hB.output, hB.size, fun b hb _ => hB.block b hb⟩, fun _ hF => (by cases hF), ?_, ?_, List.pairwise_singleton _ _⟩
  · intro m hm w2 hw2; rw [List.mem_singleton] at hm; subst hm; exact rowR_keeps hrow0 (fun b hb => hw2 b hb)
  · intro m hm b hb; rw [List.mem_singleton] at hm; subst hm; have := hrow.lt b hb; exact ⟨this.2, .inr this.1⟩
theorem maskListF (s : Nat) (hs : s < 4294967296) : Spec Tryz.prog 81 #[.int .u32 (s : Int)] [DBF] [] (fun x : SH => sl x (listM s).length) (fun x => [IL (listM s) x]) (fun _ => []) := fun ok w hok hst => (maskListO s hs ok w hok hst).mono fun e w' hh => by
  obtain ⟨x, he, h⟩ := hh; have hl : (listM s).length ≤ 24 := listTo_len s 24; exact ⟨x, he, h.settleIL trivial rfl rfl (by unfold reach; omega) (fun c hc => by have := listTo_in hc; unfold in64; omega)⟩
end Go.Hy
namespace Go.Hy
open Go.Proofs
set_option maxRecDepth 100000
theorem dimension_spec (i : Int) : Spec Tryz.prog 176 #[.int .i64 i] [] [] (fun _ : Unit => .bool (decide (0 ≤ i) && decide (i < 24))) (fun _ => []) (fun _ => []) := by
  refine spec_go (args := [.int .i64 i]) Tryz.func176 Tryz.ntmps176 rfl (by exact Nat.le_of_ble_eq_true rfl) fun B hB => ?_
  refine go_seq ?_; refine go_region ⟨_, Tryz.func176⟩ rfl ?_; refine q0 rfl (o_assign ?_); refine rg_nil ?_; refine go_seq ?_; refine go_region ⟨_, Tryz.func176⟩ rfl ?_; refine q0 rfl (o_move ?_); refine q0 rfl (o_geq ?_); refine q0 rfl (o_move ?_); refine qI rfl rfl rfl wl_ (fun hg5 => o_move ?_) (fun hg5 => ?_)
  · refine qT rfl rfl rfl (o_lss ?_); refine q0 rfl (o_pickT ?_); refine q0 rfl (o_assign ?_); refine rg_nil ?_; refine ret1 Tryz.func176 Tryz.results176 wn_ () (by first | (simp_all; done) | (simp_all; omega)) (fun w hs => hs.none)
  · refine qF rfl rfl rfl ?_; refine q0 rfl (o_pickF ?_); refine q0 rfl (o_assign ?_); refine rg_nil ?_; refine ret1 Tryz.func176 Tryz.results176 wn_ () (by first | (simp_all; done) | (simp_all; omega)) (fun w hs => hs.none)
theorem maskRight_spec (s : Nat) (hs : s < 4294967296) : Spec Tryz.prog 87 #[.int .u32 (s : Int)] [] [] (fun _ : Unit => .bool (decide (s < 16777216))) (fun _ => []) (fun _ => []) := by
  refine spec_go (args := [.int .u32 (s : Int)]) Tryz.func87 Tryz.ntmps87 rfl (by exact Nat.le_of_ble_eq_true rfl) fun B hB => ?_
  refine go_seq ?_; refine go_region ⟨_, Tryz.func87⟩ rfl ?_; refine q0 rfl (o_assign ?_); refine rg_nil ?_; refine go_seq ?_; refine go_region ⟨_, Tryz.func87⟩ rfl ?_; refine q0 rfl (o_move ?_); refine q0 rfl (o_andNotU32 ?_ (b := 16777215)); refine q0 rfl (o_eqI ?_ (b := 0)); refine q0 rfl (o_assign ?_); refine rg_nil ?_; refine ret1 Tryz.func87 Tryz.results87 wn_ () (by rw [andNot_zero hs]) (fun w hs => hs.none)
theorem withoutNone_spec (s : Nat) (hs : s < 4294967296) : Spec Tryz.prog 175 #[.int .u32 (s : Int), .int .i64 (-1)] [] [] (fun _ : Unit => .int .u32 ((s &&& 16777215 : Nat) : Int)) (fun _ => []) (fun _ => []) := by
  refine spec_go (args := [.int .u32 (s : Int), .int .i64 (-1)]) Tryz.func175 Tryz.ntmps175 rfl (by exact Nat.le_of_ble_eq_true rfl) fun B hB => ?_
  refine go_seq ?_; refine go_region ⟨_, Tryz.func175⟩ rfl ?_; refine q0 rfl (o_assign ?_); refine rg_nil ?_; refine go_seq ?_; refine go_region ⟨_, Tryz.func175⟩ rfl ?_; refine q0 rfl (o_move ?_); refine q0 rfl (o_andU32 ?_ (b := 16777215)); refine q0 rfl (o_assign ?_); refine rg_nil ?_; refine go_seq ?_; refine go_seq ?_; refine go_region ⟨_, Tryz.func175⟩ rfl ?_; refine q0 rfl (o_move ?_); refine q0 rfl (o_call Tryz.call176 (dimension_spec (-1)) (fun x8 => ?_)); refine q0 rfl (o_not ?_); refine rg_nil ?_; refine go_condI (fun h9 => ?_) (fun h9 => ?_)
  · refine go_seq ?_; refine go_region ⟨_, Tryz.func175⟩ rfl ?_; refine q0 rfl (o_move ?_); refine q0 rfl (o_assign ?_); refine rg_nil ?_; refine ret1 Tryz.func175 Tryz.results175 wn_ () rfl (fun w hs => hs.none)
  · exact absurd h9 (by decide)
theorem fDims_spec : FDims := by
  intro l a; refine spec_go (args := [sl a l.length]) Tryz.func97 Tryz.ntmps97 rfl (by exact Nat.le_of_ble_eq_true rfl) fun B hB => ?_
  refine go_openCL (l := l) (a := a) (fun hl1 hA1 hU1 => ?_); refine go_seq ?_; refine go_region ⟨_, Tryz.func97⟩ rfl ?_; refine q0 rfl (o_assign ?_); refine rg_nil ?_; refine go_seq ?_; refine go_region ⟨_, Tryz.func97⟩ rfl ?_; refine q0 rfl (o_assign ?_); refine rg_nil ?_; refine go_seq ?_; refine go_seq ?_; refine go_region ⟨_, Tryz.func97⟩ rfl ?_; refine q0 rfl (o_move ?_); refine q0 rfl (o_len ?_); refine q0 rfl (o_move ?_); refine rg_nil ?_; refine go_block ?_; refine go_loopI (X := Nat) (fun i => i ≤ l.length) (fun i => [(3, .int .u32 (orUpto l i : Int)), (6, sl a l.length), (7, .int .i64 (l.length : Int)), (8, .int .i64 (i : Int))]) (fun i => [CL l a]) (fun i => []) (fun i => l.length - i) (0) (Nat.zero_le _) (by exact ⟨rfl, rfl, rfl, rfl, trivial⟩) ?_ ?_
  · exact fun w hs => hs.less (by simp)
  · intro i base0 hi next0; refine go_seq ?_; refine go_region ⟨_, Tryz.func97⟩ rfl ?_; refine q0 rfl (o_lss ?_); refine rg_nil ?_; refine go_seq ?_; refine go_condI (fun h9 => ?_) (fun h9 => ?_)
    · have hlt : i < l.length := by have := of_decide_eq_true h9; omega
      obtain ⟨bk, o, hav⟩ := hA1 (by omega); have hu := hU1 _ (getD_mem (d := cl0) hlt); have hup := orUpto_lt hU1 i; have hor : (l.getD i cl0).pos ||| (l.getD i cl0).neg < 4294967296 := Nat.or_lt_two_pow (n := 32) hu.1 hu.2; refine go_skip ?_; refine go_seq ?_; refine go_block ?_; refine go_seq ?_; refine go_region ⟨_, Tryz.func97⟩ rfl ?_; refine q0 rfl (o_ixN ?_); refine q0 rfl (o_ldC ?_); refine q0 rfl (o_new fun b5 => ?_); refine q0 rfl (o_st ?_); refine rg_nil ?_; refine go_region ⟨_, Tryz.func97⟩ rfl ?_; refine q0 rfl (o_move ?_); refine q0 rfl (o_fa ?_); refine q0 rfl (o_ld ?_); refine q0 rfl (o_fa ?_); refine q0 rfl (o_ld ?_); refine q0 rfl (o_orU32 ?_ (a := (l.getD i cl0).pos) (b := (l.getD i cl0).neg) (ha := hu.1) (hb := hu.2)); refine q0 rfl (o_orU32 ?_ (a := orUpto l i) (b := (l.getD i cl0).pos ||| (l.getD i cl0).neg)); refine q0 rfl (o_assign ?_); refine rg_nil ?_; refine go_inBlock ?_; refine go_region ⟨_, Tryz.func97⟩ rfl ?_; refine q0 rfl (o_add ?_); refine q0 rfl (o_move ?_); refine rg_nil ?_; refine go_state (fun w hs => ?_) (next0 (i + 1) _ hlt (by omega) ⟨by rw [orUpto_succ hlt]; rfl, rfl, rfl, rfl, trivial⟩); exact (hs.less (by simp)).bare
    · have hge : i = l.length := by have := of_decide_eq_false h9; omega
      refine go_exit rfl ?_; refine go_seq ?_; refine go_region ⟨_, Tryz.func97⟩ rfl ?_; refine q0 rfl (o_move ?_); refine q0 rfl (o_call Tryz.call175 (withoutNone_spec (orUpto l i) (orUpto_lt hU1 i)) (fun x21 => ?_)); refine q0 rfl (o_assign ?_); refine rg_nil ?_; refine ret1 Tryz.func97 Tryz.results97 wn_ () (by rw [fDims_eq, ← hge]) (fun w hs => hs.none)
theorem clauseRight_spec (c : Cl) (hc : u32 c) : Spec Tryz.prog 33 #[.agg (clCells c).toArray] [] [] (fun _ : Unit => .bool (right24 c)) (fun _ => []) (fun _ => []) := by
  refine spec_go (args := [.agg (clCells c).toArray]) Tryz.func33 Tryz.ntmps33 rfl (by exact Nat.le_of_ble_eq_true rfl) fun B hB => ?_
  refine go_seq ?_; refine go_region ⟨_, Tryz.func33⟩ rfl ?_; refine q0 rfl (o_box fun b1 => ?_); refine q0 rfl (o_assign ?_); refine rg_nil ?_; refine go_seq ?_; refine go_region ⟨_, Tryz.func33⟩ rfl ?_; refine q0 rfl (o_fa ?_); refine q0 rfl (o_ld ?_); refine q0 rfl (o_call Tryz.call87 (maskRight_spec c.pos hc.1) (fun x5 => ?_)); refine q0 rfl (o_move ?_); refine qI rfl rfl rfl wl_ (fun hg6 => o_fa ?_) (fun hg6 => ?_)
  · refine qT rfl rfl rfl (o_ld ?_); refine qT rfl rfl rfl (o_call Tryz.call87 (maskRight_spec c.neg hc.2) (fun x9 => ?_)); refine q0 rfl (o_pickT ?_); refine q0 rfl (o_assign ?_); refine rg_nil ?_; refine ret1 Tryz.func33 Tryz.results33 wn_ () (by first | (simp_all [right24]; done) | (simp_all [right24]; intros; omega)) (fun w hs => hs.none)
  · refine qF rfl rfl rfl ?_; refine qF rfl rfl rfl ?_; refine q0 rfl (o_pickF ?_); refine q0 rfl (o_assign ?_); refine rg_nil ?_; refine ret1 Tryz.func33 Tryz.results33 wn_ () (by first | (simp_all [right24]; done) | (simp_all [right24]; intros; omega)) (fun w hs => hs.none)
theorem clash_spec (c : Cl) (hc : u32 c) : Spec Tryz.prog 34 #[.agg (clCells c).toArray] [] [] (fun _ : Unit => .bool (clash c)) (fun _ => []) (fun _ => []) := by
  refine spec_go (args := [.agg (clCells c).toArray]) Tryz.func34 Tryz.ntmps34 rfl (by exact Nat.le_of_ble_eq_true rfl) fun B hB => ?_
  refine go_seq ?_; refine go_region ⟨_, Tryz.func34⟩ rfl ?_; refine q0 rfl (o_box fun b1 => ?_); refine q0 rfl (o_assign ?_); refine rg_nil ?_; refine go_seq ?_; refine go_region ⟨_, Tryz.func34⟩ rfl ?_; refine q0 rfl (o_fa ?_); refine q0 rfl (o_ld ?_); refine q0 rfl (o_fa ?_); refine q0 rfl (o_ld ?_); refine q0 rfl (o_andU32 ?_ (a := c.pos) (b := c.neg) (ha := hc.1) (hb := hc.2)); refine q0 rfl (o_neI ?_ (b := 0)); refine q0 rfl (o_assign ?_); refine rg_nil ?_; refine ret1 Tryz.func34 Tryz.results34 wn_ () (by simp only [clash]; congr 1; apply decide_eq_decide.mpr; omega) (fun w hs => hs.none)
theorem meet_spec (c d : Cl) (hc : u32 c) (hd : u32 d) : Spec Tryz.prog 93 #[.agg (clCells c).toArray, .agg (clCells d).toArray] [] [] (fun _ : Unit => .agg (clCells (meetC c d)).toArray) (fun _ => []) (fun _ => []) := by
  refine spec_go (args := [.agg (clCells c).toArray, .agg (clCells d).toArray]) Tryz.func93 Tryz.ntmps93 rfl (by exact Nat.le_of_ble_eq_true rfl) fun B hB => ?_
  refine go_seq ?_; refine go_region ⟨_, Tryz.func93⟩ rfl ?_; refine q0 rfl (o_box fun b2 => ?_); refine q0 rfl (o_box fun b3 => ?_); refine q0 rfl (o_new fun b4 => ?_); refine rg_nil ?_; refine go_seq ?_; refine go_region ⟨_, Tryz.func93⟩ rfl ?_; refine q0 rfl (o_fa ?_); refine q0 rfl (o_ld ?_); refine q0 rfl (o_fa ?_); refine q0 rfl (o_ld ?_); refine q0 rfl (o_orU32 ?_ (a := c.pos) (b := d.pos) (ha := hc.1) (hb := hd.1)); refine q0 rfl (o_fa ?_); refine q0 rfl (o_ld ?_); refine q0 rfl (o_fa ?_); refine q0 rfl (o_ld ?_); refine q0 rfl (o_orU32 ?_ (a := c.neg) (b := d.neg) (ha := hc.2) (hb := hd.2)); refine q0 rfl (o_build (cs := clCells (meetC c d)) ?_); refine q0 rfl (o_st ?_); refine rg_nil ?_; refine retC Tryz.func93 Tryz.results93 () rfl mm_ rfl rfl rfl rfl (fun w hs => hs.none)
theorem below_spec (c d : Cl) (hc : u32 c) (hd : u32 d) : Spec Tryz.prog 169 #[.agg (clCells c).toArray, .agg (clCells d).toArray] [] [] (fun _ : Unit => .bool (below c d)) (fun _ => []) (fun _ => []) := by
  refine spec_go (args := [.agg (clCells c).toArray, .agg (clCells d).toArray]) Tryz.func169 Tryz.ntmps169 rfl (by exact Nat.le_of_ble_eq_true rfl) fun B hB => ?_
  refine go_seq ?_; refine go_region ⟨_, Tryz.func169⟩ rfl ?_; refine q0 rfl (o_box fun b2 => ?_); refine q0 rfl (o_box fun b3 => ?_); refine q0 rfl (o_assign ?_); refine rg_nil ?_; refine go_seq ?_; refine go_draw (pn := 1000000) (tn := false) (A := [0, 0, 3, 0, 15, 31]) (l := [0, 1, 3, 2, 4, 5]) (fin := []) Tab.mixed ⟨_, Tryz.func169⟩ (by rfl) ?_; refine n0 rfl (v_lds ?_); refine n0 rfl (v_lds ?_); refine n0 rfl (v_lds ?_); refine n0 rfl (v_call Tryz.call93 (meet_spec c d hc hd) (fun x7 => ?_)); refine n0 rfl (v_eqC ?_ (c := meetC c d) (c' := c)); refine n0 rfl (v_assign ?_); refine NV.done ?_; refine rg_nil ?_; refine ret1 Tryz.func169 Tryz.results169 wn_ () (by rw [below_meet]) (fun w hs => hs.none)
end Go.Hy
/-
  DERIVED: THE SHELF's CONTRACTS AT THIS DUMP, IN PLAIN WORDS (tools/lay-plain.mjs out of 'TryzSort.lean', which tools/lay-shelf.mjs wrote): THE SAME DECLARATIONS UNDER THE SAME NAMES: 'import', 'namespace', 'open', 'def', 'theorem' AND NOTHING ELSE: no command of the shelf's: FOR A HAND-IN. Each laying: the table of numbers ('.._ren') and one theorem, a field a fact of the dump's own or the kernel's comparison; each contract: ONE APPLICATION.
-/
namespace Go.Proofs
open Go.Shelf
def Tryz.sortL_ren : Go.Shelf.Ren := ⟨fun | 6 => 170 | 15 => 222 | 14 => 221 | 28 => 245 | 29 => 246 | 20 => 237 | 21 => 238 | 22 => 239 | 23 => 240 | 24 => 241 | 25 => 242 | 26 => 243 | 27 => 244 | 46 => 257 | 47 => 258 | 48 => 259 | 49 => 260 | 50 => 261 | 57 => 264 | n => n, fun | 22 => 25 | 24 => 45 | 25 => 177 | 3 => 3 | 39 => 146 | 0 => 0 | 53 => 43 | 55 => 195 | 4 => 4 | 46 => 205 | 45 => 204 | 50 => 209 | 5 => 5 | 9 => 9 | 66 => 213 | 70 => 217 | 76 => 220 | 77 => 163 | n => n, fun | n => n⟩
theorem Tryz.sortL : Go.Proofs.SlLaysF0.n6 Tryz.prog Tryz.sortL_ren := {
  mixed := by kernel_rfl
  f6 := ⟨Tryz.f170.name, by decide, Tryz.func170.trans (congrArg some (by kernel_rfl))⟩
  f14 := ⟨Tryz.f221.name, by decide, Tryz.func221.trans (congrArg some (by kernel_rfl))⟩
  f15 := Tryz.func222.trans (congrArg some (by kernel_rfl))
  f20 := ⟨Tryz.f237.name, by decide, Tryz.func237.trans (congrArg some (by kernel_rfl))⟩
  f21 := ⟨Tryz.f238.name, by decide, Tryz.func238.trans (congrArg some (by kernel_rfl))⟩
  f22 := ⟨Tryz.f239.name, by decide, Tryz.func239.trans (congrArg some (by kernel_rfl))⟩
  f23 := ⟨Tryz.f240.name, by decide, Tryz.func240.trans (congrArg some (by kernel_rfl))⟩
  f24 := ⟨Tryz.f241.name, by decide, Tryz.func241.trans (congrArg some (by kernel_rfl))⟩
  f25 := ⟨Tryz.f242.name, by decide, Tryz.func242.trans (congrArg some (by kernel_rfl))⟩
  f26 := ⟨Tryz.f243.name, by decide, Tryz.func243.trans (congrArg some (by kernel_rfl))⟩
  f27 := ⟨Tryz.f244.name, by decide, Tryz.func244.trans (congrArg some (by kernel_rfl))⟩
  f28 := Tryz.func245.trans (congrArg some (by kernel_rfl))
  f29 := Tryz.func246.trans (congrArg some (by kernel_rfl))
  f46 := ⟨Tryz.f257.name, by decide, Tryz.func257.trans (congrArg some (by kernel_rfl))⟩
  f47 := Tryz.func258.trans (congrArg some (by kernel_rfl))
  f48 := Tryz.func259.trans (congrArg some (by kernel_rfl))
  f49 := ⟨Tryz.f260.name, by decide, Tryz.func260.trans (congrArg some (by kernel_rfl))⟩
  f50 := ⟨Tryz.f261.name, by decide, Tryz.func261.trans (congrArg some (by kernel_rfl))⟩
  f57 := ⟨Tryz.f264.name, by decide, Tryz.func264.trans (congrArg some (by kernel_rfl))⟩
  t0 := Tryz.underlying0
  a0 := Tryz.isAgg0
  z0 := Tryz.sizeOf0
  v0 := Tryz.zeroValue0
  t3 := Tryz.underlying3
  a3 := Tryz.isAgg3
  z3 := Tryz.sizeOf3
  v3 := Tryz.zeroValue3
  t4 := Tryz.underlying4
  a4 := Tryz.isAgg4
  z4 := Tryz.sizeOf4
  v4 := Tryz.zeroValue4
  t5 := Tryz.underlying5
  a5 := Tryz.isAgg5
  z5 := Tryz.sizeOf5
  v5 := Tryz.zeroValue5
  t9 := Tryz.underlying9
  a9 := Tryz.isAgg9
  z9 := Tryz.sizeOf9
  v9 := Tryz.zeroValue9
  t22 := Tryz.underlying25
  a22 := Tryz.isAgg25
  z22 := Tryz.sizeOf25
  v22 := Tryz.zeroValue25
  t25 := Tryz.underlying177
  a25 := Tryz.isAgg177
  z25 := Tryz.sizeOf177
  v25 := Tryz.zeroValue177
  t39 := Tryz.underlying146
  a39 := Tryz.isAgg146
  z39 := Tryz.sizeOf146
  v39 := Tryz.zeroValue146
  t45 := Tryz.underlying204
  a45 := Tryz.isAgg204
  z45 := Tryz.sizeOf204
  v45 := Tryz.zeroValue204
  t46 := Tryz.underlying205
  a46 := Tryz.isAgg205
  z46 := Tryz.sizeOf205
  v46 := Tryz.zeroValue205
  t50 := Tryz.underlying209
  a50 := Tryz.isAgg209
  z50 := Tryz.sizeOf209
  v50 := Tryz.zeroValue209
  t53 := Tryz.underlying43
  a53 := Tryz.isAgg43
  z53 := Tryz.sizeOf43
  v53 := Tryz.zeroValue43
  t55 := Tryz.underlying195
  a55 := Tryz.isAgg195
  z55 := Tryz.sizeOf195
  v55 := Tryz.zeroValue195
  t66 := Tryz.underlying213
  a66 := Tryz.isAgg213
  z66 := Tryz.sizeOf213
  v66 := Tryz.zeroValue213
  t70 := Tryz.underlying217
  a70 := Tryz.isAgg217
  z70 := Tryz.sizeOf217
  v70 := Tryz.zeroValue217
  t76 := Tryz.underlying220
  a76 := Tryz.isAgg220
  z76 := Tryz.sizeOf220
  v76 := Tryz.zeroValue220
  t77 := Tryz.underlying163
  a77 := Tryz.isAgg163
  z77 := Tryz.sizeOf163
  v77 := Tryz.zeroValue163 }
end Go.Proofs
