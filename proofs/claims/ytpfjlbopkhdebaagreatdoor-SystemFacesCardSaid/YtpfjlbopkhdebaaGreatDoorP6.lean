/- Contracts of this program's functions and the laws that they need: a separation logic over the machine's rules, one theorem each (partly printed by a program of this repository). -/
import Derived.LaidMore
import Derived.OpenShut
import Derived.Stop.Joined
import Derived.MakeChecks
import Derived.Shelf.Spec.TrailingZeros
import Derived.RangeFuncNested
import Derived.RangeFuncBound
import Derived.RangeFuncCalls
import Derived.RangeFuncLeaves
import Derived.RangeFuncBox
import Derived.Shelf.Abstract
import Derived.Shelf.RegionOpen
import Derived.WalkKit
import Derived.OwnWalkIn
import Derived.TacticsInMore
import Derived.LoopNIn
import Derived.LoopIn
import Derived.Maps.AppendAt
import Derived.Shelf.SlSortCmp.WholeK
import Derived.Shelf.SlGeneric
import Derived.Ground.SlsfProg
import Derived.Test.YtpfjlbopkhdebaaGreatDoorProg
import Derived.Tactics2
import Derived.Test.YtpfjlbopkhdebaaGreatDoorP3
import Derived.Test.YtpfjlbopkhdebaaGreatDoorP4
import Derived.Test.YtpfjlbopkhdebaaGreatDoorP5
set_option linter.unusedVariables false
set_option linter.unusedSimpArgs false
set_option linter.unusedSectionVars false
namespace Go.Hy
/-! ### A way through a term that changes rows alone -/
structure RowsW where
  form : Int → List Cl → EL
  face : Int → List Cl → EL
def elR (x : EL) : Res1 (List Cl) := if x.1 = 0 then .ok x.2 else .bad x.1
theorem elR_ok {x : EL} (h : x.1 = 0) : elR x = .ok x.2 := if_pos h
theorem elR_bad {x : EL} (h : x.1 ≠ 0) : elR x = .bad x.1 := if_neg h
theorem elR_ok_iff {x : EL} {g : List Cl} : elR x = .ok g ↔ x = (0, g) := by
  unfold elR
  split
  · rename_i h
    constructor
    · intro h2; injection h2 with h2; exact Prod.ext h h2
    · rintro rfl; rfl
  · rename_i h
    constructor
    · intro h2; cases h2
    · rintro rfl; exact absurd rfl h
theorem elR_bad_iff {x : EL} {e : Int} : elR x = .bad e ↔ x.1 = e ∧ e ≠ 0 := by
  unfold elR
  split
  · rename_i h
    constructor
    · intro h2; cases h2
    · rintro ⟨h2, h3⟩; exact absurd (h2.symm.trans h) h3
  · rename_i h
    constructor
    · intro h2; injection h2 with h2; exact ⟨h2, h2 ▸ h⟩
    · rintro ⟨h2, h3⟩; rw [h2]
def RowsW.row (W : RowsW) (k d : Int) (r : List Cl) : EL := if k = 14 then W.face d r else W.form d r
def rowsTr (W : RowsW) : Tr Int where
  own d k n _ r := (elR (W.row k d r)).bind fun g => .ok (.inr (n, g))
  face d f := (elR (W.face d f)).bind fun g => .ok (if g.length = 0 then none else some g)
  kid d b := .ok (d + b.2)
theorem rows_kid {W : RowsW} {d : Int} {b : Int × Int} : (rowsTr W).kid d b = .ok (d + b.2) := rfl
theorem rows_own_ok {W : RowsW} {d k n : Int} {nm : ByteArray} {r : List Cl} (h : (W.row k d r).1 = 0) : (rowsTr W).own d k n nm r = .ok (.inr (n, (W.row k d r).2)) := by
  show (elR _).bind _ = _; rw [elR_ok h]; rfl
theorem rows_own_bad {W : RowsW} {d k n : Int} {nm : ByteArray} {r : List Cl} (h : (W.row k d r).1 ≠ 0) : (rowsTr W).own d k n nm r = .bad (W.row k d r).1 := by
  show (elR _).bind _ = _; rw [elR_bad h]; rfl
theorem rows_own_inr {W : RowsW} {d k n : Int} {nm : ByteArray} {r : List Cl} {p : Int × List Cl} : (rowsTr W).own d k n nm r = .ok (.inr p) ↔ W.row k d r = (0, p.2) ∧ p.1 = n := by
  constructor
  · intro h
    obtain ⟨g, hg, h2⟩ := Res1.bind_ok (x := elR (W.row k d r)) h
    injection h2 with h2; injection h2 with h2; subst h2
    exact ⟨elR_ok_iff.mp hg, rfl⟩
  · rintro ⟨h1, h2⟩
    rw [rows_own_ok (by rw [h1]), h1, ← h2]
theorem rows_own_inl {W : RowsW} {d k n : Int} {nm : ByteArray} {r : List Cl} {u : T} : (rowsTr W).own d k n nm r ≠ .ok (.inl u) := by
  intro h
  obtain ⟨g, hg, h2⟩ := Res1.bind_ok (x := elR (W.row k d r)) h
  injection h2 with h2; cases h2
theorem rows_own_bad_iff {W : RowsW} {d k n e : Int} {nm : ByteArray} {r : List Cl} : (rowsTr W).own d k n nm r = .bad e ↔ (W.row k d r).1 = e ∧ e ≠ 0 := by
  rw [← elR_bad_iff]
  show (elR _).bind _ = _ ↔ _
  cases elR (W.row k d r) with
  | ok g => constructor <;> (intro h; cases h)
  | bad e' => exact Iff.intro (fun h => by injection h with h; rw [h]) (fun h => by injection h with h; rw [h]; rfl)
theorem rows_face_none {W : RowsW} {d : Int} {f : List Cl} (h : (W.face d f).1 = 0) (h2 : (W.face d f).2.length = 0) : (rowsTr W).face d f = .ok none := by
  show (elR _).bind _ = _; rw [elR_ok h]; show Res1.ok (if _ then _ else _) = _; rw [if_pos h2]
theorem rows_face_some {W : RowsW} {d : Int} {f : List Cl} (h : (W.face d f).1 = 0) (h2 : (W.face d f).2.length ≠ 0) : (rowsTr W).face d f = .ok (some (W.face d f).2) := by
  show (elR _).bind _ = _; rw [elR_ok h]; show Res1.ok (if _ then _ else _) = _; rw [if_neg h2]
theorem rows_face_bad {W : RowsW} {d : Int} {f : List Cl} (h : (W.face d f).1 ≠ 0) : (rowsTr W).face d f = .bad (W.face d f).1 := by
  show (elR _).bind _ = _; rw [elR_bad h]; rfl
theorem rows_face_some_iff {W : RowsW} {d : Int} {f g : List Cl} : (rowsTr W).face d f = .ok (some g) ↔ W.face d f = (0, g) ∧ g ≠ [] := by
  constructor
  · intro h
    obtain ⟨g', hg, h2⟩ := Res1.bind_ok (x := elR (W.face d f)) h
    injection h2 with h2
    split at h2
    · cases h2
    · rename_i h3
      injection h2 with h2; subst h2
      exact ⟨elR_ok_iff.mp hg, fun h => h3 (by rw [h]; rfl)⟩
  · rintro ⟨h, h2⟩
    have h3 := rows_face_some (W := W) (d := d) (f := f) (by rw [h]) (by rw [h]; intro h4; exact h2 (List.eq_nil_of_length_eq_zero h4))
    rw [h3, h]
theorem rows_face_bad_iff {W : RowsW} {d e : Int} {f : List Cl} : (rowsTr W).face d f = .bad e ↔ (W.face d f).1 = e ∧ e ≠ 0 := by
  rw [← elR_bad_iff]
  show (elR _).bind _ = _ ↔ _
  cases elR (W.face d f) with
  | ok g => constructor <;> (intro h; cases h)
  | bad e' => exact Iff.intro (fun h => by injection h with h; rw [h]) (fun h => by injection h with h; rw [h]; rfl)
/-! Terms of a list, one by one. -/
def eachT (g : Nat → T → Res1 T) : Nat → List T → Res1 (List T)
  | _, [] => .ok []
  | i, t :: ts => (g i t).bind fun t' => (eachT g (i + 1) ts).bind fun ts' => .ok (t' :: ts')
section
variable {g : Nat → T → Res1 T}
theorem eachT_snoc : ∀ (i : Nat) (l : List T) (t : T), eachT g i (l ++ [t]) = (eachT g i l).bind fun l' => (g (i + l.length) t).bind fun t' => .ok (l' ++ [t'])
  | i, [], t => by
    simp only [List.nil_append, eachT, Res1.bind, List.length_nil, Nat.add_zero]
  | i, a :: l, t => by
    simp only [List.cons_append, eachT, eachT_snoc (i + 1) l t, List.length_cons]
    rw [show i + 1 + l.length = i + (l.length + 1) by omega]
    cases g i a with
    | bad e => rfl
    | ok a' =>
      simp only [Res1.bind]
      cases eachT g (i + 1) l with
      | bad e => rfl
      | ok l' =>
        simp only
        cases g (i + (l.length + 1)) t with
        | bad e => rfl
        | ok c2 => rfl
theorem eachT_bad {e : Int} : ∀ {l m : List T} {i : Nat}, eachT g i l = .bad e → eachT g i (l ++ m) = .bad e
  | [], m, i, h => by rw [eachT] at h; cases h
  | a :: l, m, i, h => by
    rw [List.cons_append, eachT]
    rw [eachT] at h
    cases h1 : g i a with
    | bad e' => rw [h1] at h; exact h
    | ok a' =>
      rw [h1] at h
      simp only [Res1.bind] at h ⊢
      cases h3 : eachT g (i + 1) l with
      | bad e' => rw [h3] at h; rw [eachT_bad h3]; exact h
      | ok l' => rw [h3] at h; cases h
theorem eachT_at_ok {l us : List T} {i : Nat} {u : T} (hi : i < l.length) (h : eachT g 0 (l.take i) = .ok us) (hu : g i (l.getD i t0) = .ok u) : eachT g 0 (l.take (i + 1)) = .ok (us ++ [u]) := by
  rw [take_succ_getD (d := t0) hi, eachT_snoc, h]
  simp only [Res1.bind, List.length_take, Nat.zero_add, Nat.min_eq_left (Nat.le_of_lt hi)]
  rw [hu]
theorem eachT_at_bad {l us : List T} {i : Nat} {e : Int} (hi : i < l.length) (h : eachT g 0 (l.take i) = .ok us) (hu : g i (l.getD i t0) = .bad e) : eachT g 0 l = .bad e := by
  have h1 : eachT g 0 (l.take (i + 1)) = .bad e := by
    rw [take_succ_getD (d := t0) hi, eachT_snoc, h]
    simp only [Res1.bind, List.length_take, Nat.zero_add, Nat.min_eq_left (Nat.le_of_lt hi)]
    rw [hu]
  have h2 := eachT_bad (m := l.drop (i + 1)) h1
  rwa [List.take_append_drop] at h2
theorem eachT_len : ∀ {l us : List T} {i : Nat}, eachT g i l = .ok us → us.length = l.length
  | [], us, i, h => by rw [eachT] at h; injection h with h; subst h; rfl
  | a :: l, us, i, h => by
    rw [eachT] at h
    obtain ⟨a', _, h⟩ := Res1.bind_ok h
    obtain ⟨l', h2, h⟩ := Res1.bind_ok h
    injection h with h; subst h
    simp [eachT_len h2]
theorem eachT_why {e : Int} : ∀ {l : List T} {i : Nat}, eachT g i l = .bad e → ∃ j t, t ∈ l ∧ g j t = .bad e
  | [], i, h => by rw [eachT] at h; cases h
  | a :: l, i, h => by
    rw [eachT] at h
    cases h1 : g i a with
    | bad e' => rw [h1] at h; injection h with h; subst h; exact ⟨i, a, List.mem_cons_self, h1⟩
    | ok a' =>
      rw [h1] at h
      simp only [Res1.bind] at h
      cases h3 : eachT g (i + 1) l with
      | bad e' => rw [h3] at h; injection h with h; subst h; obtain ⟨j, t, ht, hj⟩ := eachT_why h3; exact ⟨j, t, List.mem_cons_of_mem _ ht, hj⟩
      | ok l' => rw [h3] at h; cases h
end
theorem travL_map {W : RowsW} {k d : Int} : ∀ {i : Nat} {ts : List T}, travL (rowsTr W) k i ts d = eachT (fun j t => trav (rowsTr W) t (d + (binds k j).2)) i ts
  | i, [] => by rw [travL_nil, eachT]
  | i, t :: ts => by rw [travL_cons, eachT, rows_kid, travL_map (i := i + 1) (ts := ts)]; rfl
theorem travS_map {W : RowsW} {k d : Int} : ∀ {i : Nat} {ts : List T}, travS (rowsTr W) k ts d = eachT (fun _ t => trav (rowsTr W) t (d + more k)) i ts
  | i, [] => by rw [travS_nil, eachT]
  | i, t :: ts => by rw [travS_cons, eachT, rows_kid, travS_map (i := i + 1) (ts := ts)]; rfl
theorem travB_at_none {C : Type} {A : Tr C} {k : Int} {c : C} {ss : List Br} {s : Nat} {bs : List Br} (hs : s < ss.length) (hb : travB A k (ss.take s) c = .ok bs) (hf : A.face c (ss.getD s br0).face = .ok none) : travB A k (ss.take (s + 1)) c = .ok bs := by
  rw [take_succ_getD (d := br0) hs, travB_snoc, hb]
  simp only [Res1.bind]
  rw [hf]
theorem trav_kids_bad {C : Type} {A : Tr C} {t : T} {c : C} {e : Int} {p : Int × List Cl} (h : A.own c t.kind t.n t.name t.r = .ok (.inr p)) (hl : travL A t.kind 0 t.kids c = .bad e) : trav A t c = .bad e := by
  rw [trav_eq, h]; simp only [Res1.bind]; rw [hl]
def asResL (r : Res1 (List T)) : Int × List T := match r with
  | .ok u => (0, u)
  | .bad e => (e, [])
theorem asRes_bad {r : Res1 T} (h : (asRes r).1 ≠ 0) : r = .bad (asRes r).1 := by
  cases r with
  | ok u => exact absurd rfl h
  | bad e => rfl
theorem asRes_ok {r : Res1 T} (hb : ∀ e, r = .bad e → e ≠ 0) (h : (asRes r).1 = 0) : r = .ok (asRes r).2 := by
  cases r with
  | ok u => rfl
  | bad e => exact absurd h (hb e rfl)
theorem asResL_bad {r : Res1 (List T)} (h : (asResL r).1 ≠ 0) : r = .bad (asResL r).1 := by
  cases r with
  | ok u => exact absurd rfl h
  | bad e => rfl
theorem asResL_ok {r : Res1 (List T)} (hb : ∀ e, r = .bad e → e ≠ 0) (h : (asResL r).1 = 0) : r = .ok (asResL r).2 := by
  cases r with
  | ok u => rfl
  | bad e => exact absurd h (hb e rfl)
theorem rows_bad_ne {W : RowsW} : ∀ (t : T) {d e : Int}, trav (rowsTr W) t d = .bad e → e ≠ 0 := T.ind fun t ih d e h => by
  rcases trav_why h with h1 | ⟨b, _, h1⟩ | ⟨p, hp, h1 | ⟨c', _, h2⟩⟩
  · exact (rows_own_bad_iff.mp h1).2
  · exact (rows_face_bad_iff.mp h1).2
  · cases h1
  · exact ih p hp h2
theorem eachT_bad_ne {W : RowsW} {b : Nat → Int} {l : List T} {i : Nat} {e d : Int} (h : eachT (fun j t => trav (rowsTr W) t (d + b j)) i l = .bad e) : e ≠ 0 := by
  obtain ⟨j, t, _, h1⟩ := eachT_why h
  exact rows_bad_ne t h1
abbrev walkR (W : RowsW) (t : T) (d : Int) : Int × T := asRes (trav (rowsTr W) t d)
abbrev walkL (W : RowsW) (b : Nat → Int) (l : List T) (d : Int) : Int × List T := asResL (eachT (fun j t => trav (rowsTr W) t (d + b j)) 0 l)
/-! Rows with a formula in a dimension's place; rows without a dimension. -/
def rowPut (P : List Cl → Int → List Cl → EL) (i : Int) (r : List Cl) (d : Int) (f : List Cl) : EL := if hasM (fDims f) (i + d) = false then (0, f) else bindE (formLift r 0 d) fun s => P f (i + d) s
def putW (i : Int) (r : List Cl) : RowsW := ⟨rowPut formPut i r, rowPut facePut i r⟩
theorem size_kid_mem {t k : T} (h : k ∈ t.kids) : size k < size t := by obtain ⟨p, hp, e⟩ := kid_mem_parts h; exact e ▸ size_part_lt hp
theorem size_sys_mem {t k : T} {b : Br} (h : b ∈ t.sys) (h2 : k ∈ b.kids) : size k < size t := by obtain ⟨p, hp, e⟩ := sys_mem_parts h h2; exact e ▸ size_part_lt hp
/-! What a call tells, under another name. -/
theorem Spec.treeH {P : Program} {k : FuncId} {args : Array Value} {pre : List Fact} {Ms0 : List Res} {y : Tys} {r r' : Int × T} (he : r' = r) (h : Spec P k args pre Ms0 (fun x : {h : HT // h.er = r.2} => .tuple #[.agg (tc r.2 x.1.vr x.1.vk x.1.vs).toArray, .int .i64 r.1]) (fun _ => []) (fun x => [bigR (treeR y x.1)])) :
    Spec P k args pre Ms0 (fun x : {h : HT // h.er = r'.2} => .tuple #[.agg (tc r'.2 x.1.vr x.1.vk x.1.vs).toArray, .int .i64 r'.1]) (fun _ => []) (fun x => [bigR (treeR y x.1)]) := by
  subst he
  exact h
theorem Spec.listH {P : Program} {k : FuncId} {args : Array Value} {pre : List Fact} {Ms0 : List Res} {y : Tys} {e : TypeId} {r r' : Int × List T} (he : r' = r) (h : Spec P k args pre Ms0 (fun x : {p : List HT × SH // p.1.map HT.er = r.2} => .tuple #[sl x.1.2 r.2.length, .int .i64 r.1]) (fun _ => []) (fun x => [rowS 6 e x.1.2 r.2.length (tpFlat (x.1.1.map HT.tp)), bigR (kidsR y x.1.1)])) :
    Spec P k args pre Ms0 (fun x : {p : List HT × SH // p.1.map HT.er = r'.2} => .tuple #[sl x.1.2 r'.2.length, .int .i64 r'.1]) (fun _ => []) (fun x => [rowS 6 e x.1.2 r'.2.length (tpFlat (x.1.1.map HT.tp)), bigR (kidsR y x.1.1)]) := by
  subst he
  exact h
end Go.Hy
namespace Go.Hy
/-! ### dims: what the program makes of a term -/
section
variable {W : RowsW}
mutual
theorem walk_size : ∀ {t u : T} {d : Int}, trav (rowsTr W) t d = .ok u → size u ≤ size t
  | .mk k n nm r ks ss, u, d, hu => by
    rw [trav_eq] at hu
    simp only [T.kind, T.n, T.name, T.r, T.kids, T.sys] at hu
    obtain ⟨o, h9, hu⟩ := Res1.bind_ok hu
    cases o with
    | inl v => exact absurd h9 rows_own_inl
    | inr p =>
      obtain ⟨ks', h10, hu⟩ := Res1.bind_ok hu
      obtain ⟨ss', h11, hu⟩ := Res1.bind_ok hu
      injection hu with hu
      subst hu
      rw [size_sumLB, size_sumLB]
      simp only [T.kids, T.sys]
      have h1 := walkL_size h10
      have h2 := walkB_size h11
      omega
theorem walkL_size {k : Int} : ∀ {ts us : List T} {i : Nat} {d : Int}, travL (rowsTr W) k i ts d = .ok us → sizeL us ≤ sizeL ts
  | [], us, i, d, hu => by rw [travL_nil] at hu; injection hu with hu; subst hu; exact Nat.le_refl _
  | t :: ts, us, i, d, hu => by
    rw [travL_cons] at hu
    obtain ⟨c', _, hu⟩ := Res1.bind_ok hu
    obtain ⟨t', h2, hu⟩ := Res1.bind_ok hu
    obtain ⟨ts', h3, hu⟩ := Res1.bind_ok hu
    injection hu with hu
    subst hu
    have h4 := walk_size h2
    have h5 := walkL_size h3
    simp only [sizeL]
    omega
theorem walkS_size {k : Int} : ∀ {ts us : List T} {d : Int}, travS (rowsTr W) k ts d = .ok us → sizeL us ≤ sizeL ts
  | [], us, d, hu => by rw [travS_nil] at hu; injection hu with hu; subst hu; exact Nat.le_refl _
  | t :: ts, us, d, hu => by
    rw [travS_cons] at hu
    obtain ⟨c', _, hu⟩ := Res1.bind_ok hu
    obtain ⟨t', h2, hu⟩ := Res1.bind_ok hu
    obtain ⟨ts', h3, hu⟩ := Res1.bind_ok hu
    injection hu with hu
    subst hu
    have h4 := walk_size h2
    have h5 := walkS_size h3
    simp only [sizeL]
    omega
theorem walkB_size {k : Int} : ∀ {bs us : List Br} {d : Int}, travB (rowsTr W) k bs d = .ok us → sizeB us ≤ sizeB bs
  | [], us, d, hu => by rw [travB_nil] at hu; injection hu with hu; subst hu; exact Nat.le_refl _
  | .mk f ks :: bs, us, d, hu => by
    rw [travB_cons] at hu
    simp only [Br.face, Br.kids] at hu
    obtain ⟨o, h5, hu⟩ := Res1.bind_ok hu
    cases o with
    | none => have h6 := walkB_size hu; simp only [sizeB]; omega
    | some g =>
      obtain ⟨ks', h7, hu⟩ := Res1.bind_ok hu
      obtain ⟨bs', h8, hu⟩ := Res1.bind_ok hu
      injection hu with hu
      subst hu
      have h1 := walkS_size h7
      have h2 := walkB_size h8
      simp only [sizeB, Br.kids]
      omega
end
theorem walk_okT (hW : ∀ d f, rowOk f → okE (W.form d f) ∧ okE (W.face d f)) {t u : T} {d : Int} (h : okT t) (hu : trav (rowsTr W) t d = .ok u) : okT u := by
  refine trav_okT (A := rowsTr W) ?_ ?_ ?_ t d u h hu
  · intro c k n nm r p _ hn hr ho
    obtain ⟨h1, h2⟩ := rows_own_inr.mp ho
    have h3 := hW c r hr
    have h4 : okE (W.row k c r) := by unfold RowsW.row; split; exact h3.2; exact h3.1
    unfold okE at h4
    rw [h1] at h4
    exact ⟨by rw [h2]; exact hn, h4⟩
  · intro c k n nm r u ho
    exact absurd ho rows_own_inl
  · intro c f f' hr ho
    obtain ⟨h1, _⟩ := rows_face_some_iff.mp ho
    have h3 := (hW c f hr).2
    unfold okE at h3
    rw [h1] at h3
    exact h3
theorem size_t0 : size t0 = 1 := by decide
theorem asRes_size {t : T} {d : Int} : size (walkR W t d).2 ≤ size t := by
  unfold walkR
  cases h : trav (rowsTr W) t d with
  | ok u => exact walk_size h
  | bad e => show size t0 ≤ size t; rw [size_t0]; exact size_pos' t
theorem asRes_okT (hW : ∀ d f, rowOk f → okE (W.form d f) ∧ okE (W.face d f)) {t : T} {d : Int} (h : okT t) : okT (walkR W t d).2 := by
  unfold walkR
  cases hu : trav (rowsTr W) t d with
  | ok u => exact walk_okT hW h hu
  | bad e => exact okT_t0
end
theorem okE_rowPut {P : List Cl → Int → List Cl → EL} (hP : ∀ f i r, rowOk f → rowOk r → okE (P f i r)) {i d : Int} {r f : List Cl} (hf : rowOk f) : okE (rowPut P i r d f) := by
  unfold rowPut
  split
  · exact hf
  · exact okE_bind fun _ => hP _ _ _ hf (formLift_ok r 0 d)
theorem okW_put (i : Int) (r : List Cl) : ∀ d f, rowOk f → okE ((putW i r).form d f) ∧ okE ((putW i r).face d f) := fun d f hf =>
  ⟨okE_rowPut (fun f i r _ hr => okE_formPut hr) hf, okE_rowPut (fun f i r _ hr => okE_facePut hr) hf⟩
def thenT (x : Int × T) (k : T → Int × T) : Int × T := if x.1 ≠ 0 then (x.1, t0) else k x.2
theorem thenT_bad {x : Int × T} {k : T → Int × T} (h : x.1 ≠ 0) : thenT x k = (x.1, t0) := if_pos h
theorem thenT_ok {x : Int × T} {k : T → Int × T} (h : x.1 = 0) : thenT x k = k x.2 := if_neg (by simp [h])
def foldT {α : Type} (g : α → T → Int × T) : List α → T → Int × T
  | [], t => (0, t)
  | a :: l, t => thenT (g a t) fun u => foldT g l u
section
variable {α : Type} {g : α → T → Int × T}
theorem foldT_on : ∀ {l m : List α} {t u : T}, foldT g l t = (0, u) → foldT g (l ++ m) t = foldT g m u
  | [], m, t, u, e => by
    rw [foldT, Prod.mk.injEq] at e
    rw [List.nil_append, e.2]
  | a :: l, m, t, u, e => by
    rw [foldT] at e
    by_cases h0 : (g a t).1 = 0
    · rw [thenT_ok h0] at e
      rw [List.cons_append, foldT, thenT_ok h0]
      exact foldT_on e
    · rw [thenT_bad h0, Prod.mk.injEq] at e
      exact absurd e.1 h0
theorem foldT_ok {l : List α} {d : α} {t u : T} {i : Nat} (hi : i < l.length) (e : foldT g (l.take i) t = (0, u)) (h0 : (g (l.getD i d) u).1 = 0) : foldT g (l.take (i + 1)) t = (0, (g (l.getD i d) u).2) := by
  rw [take_succ_getD (d := d) hi, foldT_on e, foldT, thenT_ok h0, foldT]
theorem foldT_bad {l : List α} {d : α} {t u : T} {i : Nat} (hi : i < l.length) (e : foldT g (l.take i) t = (0, u)) (h0 : (g (l.getD i d) u).1 ≠ 0) : foldT g l t = ((g (l.getD i d) u).1, t0) := by
  have e2 : l = l.take i ++ l.getD i d :: l.drop (i + 1) := by rw [getD_get (d := d) hi, List.getElem_cons_drop, List.take_append_drop]
  rw [e2, foldT_on e, ← e2, foldT, thenT_bad h0]
theorem foldT_all {l : List α} {t u : T} {i : Nat} (hi : i = l.length) (e : foldT g (l.take i) t = (0, u)) : foldT g l t = (0, u) := by
  rw [hi, List.take_length] at e
  exact e
theorem foldT_t0 : ∀ {l : List α} {t : T}, (foldT g l t).1 ≠ 0 → (foldT g l t).2 = t0
  | [], t, h => absurd rfl h
  | a :: l, t, h => by
    rw [foldT] at h ⊢
    by_cases h1 : (g a t).1 = 0
    · rw [thenT_ok h1] at h ⊢; exact foldT_t0 h
    · rw [thenT_bad h1]
theorem foldT_keep {p : T → Prop} (h0 : p t0) (hg : ∀ a u, p u → p (g a u).2) : ∀ {l : List α} {t : T}, p t → p (foldT g l t).2
  | [], t, h => h
  | a :: l, t, h => by
    rw [foldT]
    by_cases h1 : (g a t).1 = 0
    · rw [thenT_ok h1]; exact foldT_keep h0 hg (hg a t h)
    · rw [thenT_bad h1]; exact h0
end
def putsT (r : List Cl) (l : List Int) (t : T) : Int × T := foldT (fun i u => walkR (putW i r) u 0) l t
abbrev EP : Type := Nat × List Cl × SH
def epCells (p : EP) : List Value := [.int .u32 (p.1 : Int), sl p.2.2 p.2.1.length]
abbrev epE (p : EP) : Fact := CL p.2.1 p.2.2
def ep0 : EP := (0, [], none, 0)
abbrev ENF (l : List EP) (a : SH) : Fact := RowF 2 32 epCells epE ep0 l a
def endsT (l : List EP) (t : T) : Int × T := foldT (fun (p : EP) u => putsT p.2.1 (listM p.1) u) l t
def dimsUnder (t : T) (c : Cl) : Int × T := if formedP t ≠ 0 then (formedP t, t0) else if single c = false then (2, t0) else thenT (putsT [cl0] (listM c.pos) t) fun u => putsT [] (listM c.neg) u
theorem endsT_two {c : Cl} {a : SH} {t : T} : endsT [(c.pos, [cl0], a), (c.neg, [], none, 0)] t = thenT (putsT [cl0] (listM c.pos) t) fun u => putsT [] (listM c.neg) u := by
  unfold endsT
  simp only [foldT]
  congr 1
  funext u
  by_cases h : (putsT [] (listM c.neg) u).1 = 0
  · rw [thenT_ok h]; exact Prod.ext h.symm rfl
  · rw [thenT_bad h]
    unfold putsT at h ⊢
    refine Prod.ext rfl ?_
    show t0 = _
    exact (foldT_t0 h).symm
theorem putsT_okT {r : List Cl} {l : List Int} {t : T} (h : okT t) : okT (putsT r l t).2 := foldT_keep okT_t0 (fun i u hu => asRes_okT (okW_put i r) hu) h
section
variable {P : Program} [Tab P] {f : FuncId} {R : Ending → World → Prop} {B : Base} {n : Fz} {K : List Item} {ops : Array Oper} {l : List Nat} {σ : Nat → Value} {Γ : List Fact} {Ms : List Res} {dst : Option Tmp} {ty : TypeId} {x : Operand}
theorem o_ldEN {t : TypeId} {l' : List (Nat × Nat)} {bt bk o i' : Nat} {a : SH} {zv : Value} {ls : List EP} (k_ : RgT P f R B n K ops l (putS σ dst (.agg (epCells (ls.getD i' ep0)).toArray)) Γ Ms) (hF : ENF ls a ∈ Γ := by repeat (first | exact List.mem_cons_self | apply List.mem_cons_of_mem))
    (hx : ev σ x = .pointer (some ⟨bk, o + i' * 2, none⟩) := by exact wn_) (ha : a.1 = some ⟨bk, o, none⟩ := by assumption) (hu : Tab.lay P t = some l' := by rfl) (hi : Tab.inf P t = some (2, bt, zv) := by rfl) (hlt : i' < ls.length := by first | omega | (simp; omega)) (hd : dstOk n dst = true := by rfl) : OpT P f R B n K ops l (opr dst (.load t x) ty) σ Γ Ms :=
  sq_load (le_rowE (F := epCells) (fun _ => rfl) hx hF ha hu hi hlt) hd k_
end
/-! From what holds to what is asked. -/
theorem Spec.conj2 {P : Program} {k : FuncId} {args : Array Value} {pre L : List Fact} {G : Fact} {Ms0 : List Res} {X : Type} {val : X → Value} {N : X → List Fact} {Ms1 : X → List Res} (hp : ∀ F, F ∈ pre → F ∈ G :: L) (h : Spec P k args pre Ms0 val N Ms1) : Spec P k args [AllFs L, G] Ms0 val N Ms1 := fun ok w hok hs =>
  h ok w hok ⟨hs.chg, fun F hF => by
    rcases List.mem_cons.mp (hp F hF) with e | e
    · subst e; exact hs.facts _ (List.mem_cons_of_mem _ List.mem_cons_self)
    · exact hs.facts (AllFs L) List.mem_cons_self F e, hs.res, hs.lt, hs.disj⟩
theorem Spec.unconj2 {P : Program} {k : FuncId} {args : Array Value} {pre L : List Fact} {G : Fact} {Ms0 : List Res} {X : Type} {val : X → Value} {N : X → List Fact} {Ms1 : X → List Res} (hL : ∀ F, F ∈ L → F ∈ pre) (hG : G ∈ pre) (h : Spec P k args [AllFs L, G] Ms0 val N Ms1) : Spec P k args pre Ms0 val N Ms1 := fun ok w hok hs =>
  h ok w hok ⟨hs.chg, fun F hF => by
    rcases List.mem_cons.mp hF with e | e
    · subst e; exact fun F' hF' => hs.facts F' (hL F' hF')
    · rw [List.mem_singleton] at e; subst e; exact hs.facts _ hG, hs.res, hs.lt, hs.disj⟩
theorem St.litEN {B : Base} {Γ : List Fact} {Ms : List Res} {w : World} {e : TypeId} {b : Nat} {p q : EP} (hs : St B Γ (boxR b (epCells p ++ epCells q) e :: Ms) w) {hBp : Prop} (hB : hBp) (hF : epE p ∈ Γ) (hG : epE q ∈ Γ) : St B (ENF [p, q] (some ⟨b, 0, Option.none⟩, 2) :: Γ) Ms w := by
  have h1 := ((hs.boxRow (sz := 2) (m := 2) rfl (by decide)).allNil epE).allAdd (x := p) List.mem_cons_self (List.mem_cons_of_mem _ hF)
  have h2 := h1.allAdd (x := q) List.mem_cons_self (List.mem_cons_of_mem _ (List.mem_cons_of_mem _ hG))
  exact (h2.settleRow (F := epCells) (E := epE) (d := ep0) (bt := 32) (l := [p, q]) (fun _ => rfl) hB List.mem_cons_self (by simp) rfl (by decide)).less (by simp +contextual)
end Go.Hy
namespace Go.Hy
open Go Go.ChangeShapes Go.WideShapes Go.RowKit Go.Shelf Go.Proofs
/-! ### A law whose row lists a package-level table -/
theorem law_lifted_laid {C : Checked} {os : Os} {f : FuncId} {fn : Func} {s : ChangeSpec} {conds : List PathCond} {ts : List TypeId} {tb : TypeId} {H : Type} {enc : TypeId × Value → H} {L : List (String × DataW Unit)}
    (own : ownKnob C.prog.godebug = none) (started : os.Started) (noInit : C.prog.inits.idxOf? f = none) (hfn : C.prog.funcs[f]? = some fn)
    (witness : ∃ (w : World) (tape : Tape) (i : Input), w.os = os ∧ (w.forCall tape i).Shaped C.prog ∧ i.vars = [] ∧ Input.okWide C.prog (w.forCall tape i) .any w.heap.size f i ∧
      ((s.pre enc C.prog fn conds false (w.forCall tape i).memory i.args ∧ laidMetH C.prog L (w.forCall tape i).memory) ∧ sizedMet enc C.prog fn (OpenSpec.ofChange s) false (w.forCall tape i).memory i.args) ∧ Assume.holds {} C.prog (lone (Frame.enter C.prog f i.args .normal) [] (w.forCall tape i)))
    (laid : laidOutB C.prog = true) (hps : fn.params.toList = ts) (hread : ts.all (fun t => C.prog.readableRec t && decide (t < C.prog.types.size)) = true) (hres : fn.resultTypes = #[tb]) (hbool : C.prog.underlying tb = some .bool) (hvars : s.vars = [])
    (hsays : ∀ ds : List (DataW H), ds.length = ts.length → s.fn H ds = { results := [.lit (.bool true)], args := ds })
    (hcall : ∀ (W : World) (base : Nat) (args : Array Value) (ds : List (DataW H)) (p : List MemPlace), (∀ (j : Nat) t v, ts[j]? = some t → args[j]? = some v → Value.okWide C.prog W .any base t v) →
      DataW.TrodAll enc C.prog W 0 (fun _ => true) true ts args.toList ds p → (∀ x, x ∈ DataW.weightsEach C.prog ts ds → x ≤ reach) → laidMetH C.prog L W →
      Calls C.prog f args W fun e W' => e = .returned (.bool true) ∧ Below W.heap.size W W') :
    ReturnsInHanded {} C os f .any (fun w args => (s.pre enc C.prog fn conds false w args ∧ laidMetH C.prog L w) ∧ sizedMet enc C.prog fn (OpenSpec.ofChange s) false w args) (s.post enc C.prog fn false true false false) := by
  refine returnsInHanded_of_change_and (X := fun w _ => laidMetH C.prog L w) (fun _ _ _ hh h => h.of_heap hh) own started noInit hfn witness ?_
  intro W base args ds gs before hval hW hcnd hwt hL _
  have hW' := hW
  obtain ⟨p, q, hA, hV, rfl, hfz, hnd⟩ := hW
  rw [hvars] at hV
  obtain ⟨rfl, rfl⟩ := trodVars_none hV
  rw [hps] at hA hwt
  have hlen : ∀ {ts : List TypeId} {vs : List Value} {ds : List (DataW H)} {ps : List MemPlace}, DataW.TrodAll enc C.prog W 0 (fun _ => true) true ts vs ds ps → ds.length = ts.length := by
    intro ts
    induction ts with
    | nil => intro vs ds ps h; obtain ⟨_, rfl, _⟩ := trodAll_nil h; rfl
    | cons t ts ih =>
      intro vs ds ps h
      obtain ⟨v, vs1, d, ds1, a, b, rfl, rfl, rfl, _, h2⟩ := trodAll_cons h
      simp [ih h2]
  have hvt : s.plain.varTypes C.prog = [] := by
    have : s.plain.vars = [] := hvars
    unfold DataSpec.varTypes; rw [this]; rfl
  have hw2 : ∀ x, x ∈ DataW.weightsEach C.prog ts ds → x ≤ reach := by
    intro x hx
    rw [List.append_nil, hvt, List.append_nil] at hwt
    have := List.all_eq_true.mp hwt x hx
    exact of_decide_eq_true this
  refine (hcall W base args ds p (fun j t v ht hv => hval j t v (by rw [← Array.getElem?_toList, hps]; exact ht) hv) hA hw2 hL).mono ?_
  intro e W' ⟨he, hb⟩
  have hlt : ∀ x ∈ p, x.block < W.heap.size := fun x hx => hW'.lt x (by simpa using hx)
  refine ⟨.bool true, he, ds, [], p ++ [], [], p, [], hW', ?_, ?_, ?_, hb.frame _, fun h => by cases h⟩
  · rw [List.append_nil, hsays ds (hlen hA), hres]
    exact ⟨[], [], ⟨1, by simp [DataW.trod, Value.cells, hbool]⟩, rfl, rfl⟩
  · rw [List.append_nil, hsays ds (hlen hA), hps]
    refine trodAll_stays laid hb (fun t ht => ?_) hA hlt
    have := List.all_eq_true.mp hread t ht
    simpa using this
  · rw [List.append_nil, hsays ds (hlen hA), hvars]
    rfl
/-- What the row's condition gives the walks: the table's cells. -/
theorem tab_laid {P : Program} {W : World} {nm : String} {t e : TypeId} {tab : List Nat} (hg : P.globalNamed nm = some 0) (ht : (P.globals[0]?).map (·.type) = some t) (hu : P.underlying t = some (.array tab.length e)) (he : P.underlying e = some (.int .u8)) (hc : P.cellsOf e = 1) (hc2 : P.cellsOf t = tab.length) (hpos : 0 < tab.length)
    (hp : ([(nm, (DataW.agg (tab.map fun (v : Nat) => .lit (.int .u8 (v : Int))) : DataW Unit))].all fun x => x.2.handleName?.isNone) = true) (h : laidMetH P [(nm, .agg (tab.map fun (v : Nat) => .lit (.int .u8 (v : Int))))] W) : TabAt 0 tab W ∧ 0 < W.heap.size := by
  rw [MakeChecks.laidMetH_plain _ _ _ hp] at h
  obtain ⟨ps, ⟨g0, t0, cs0, f0, p0, q0, hg0, ht0, hv0, hd0, _⟩, _⟩ := h
  obtain rfl := Option.some.inj (hg.symm.trans hg0)
  obtain rfl := Option.some.inj (ht.symm.trans ht0)
  obtain ⟨xs, m1, rfl, hx1, hlen, hn3, hel⟩ := DataW.trod_array hu hd0
  simp only [Prod.mk.injEq, DataW.agg.injEq] at hx1
  have hcell : ∀ j, j < tab.length → W.cell? ⟨0, j, none⟩ = some (.int .u8 (tab.getD j 0)) := by
    intro j hj
    have h1 := hel j hj
    rw [hc, Nat.mul_one, List.getElem?_eq_getElem (by omega)] at h1
    obtain ⟨n, e1, e2, _⟩ := DataW.trod_int he h1
    have h2 := World.var?_cell hg0 hv0 j
    have h3 : cs0[j]? = some (.int .u8 n) := by
      have h4 := congrArg (fun l => l[0]?) e1
      simp only [List.getElem?_take, List.getElem?_drop, List.getElem?_cons_zero] at h4
      simpa using h4
    rw [h2, h3]
    have h5 : (tab.map fun (v : Nat) => (DataW.lit (.int .u8 (v : Int)) : DataW Unit))[j]? = (xs.map (·.1))[j]? := by rw [hx1.1]
    rw [List.getElem?_map, List.getElem?_map, List.getElem?_eq_getElem hj, List.getElem?_eq_getElem (show j < xs.length by omega)] at h5
    simp only [Option.map_some, Option.some.injEq] at h5
    rw [e2] at h5
    simp only [DataW.lit.injEq, Lit.int.injEq, true_and] at h5
    rw [List.getD_eq_getElem?_getD, List.getElem?_eq_getElem hj]
    simp [← h5]
  refine ⟨hcell, ?_⟩
  have h6 := hcell 0 hpos
  refine Nat.lt_of_not_le fun hz => ?_
  unfold World.cell? at h6
  rw [Array.getElem?_eq_none (show W.heap.size ≤ 0 from hz)] at h6
  simp at h6
theorem tab_fact {W : World} {tab : List Nat} (h : TabAt 0 tab W ∧ 0 < W.heap.size) : (At 0 0 (tab.map fun (v : Nat) => Value.int .u8 (v : Int))).f (okw W) W := by
  refine ⟨h.2, fun j v hj => ?_⟩
  rw [List.getElem?_map] at hj
  cases hq : tab[j]? with
  | none => rw [hq] at hj; cases hj
  | some k =>
    rw [hq] at hj
    injection hj with hj
    subst hj
    have hlt : j < tab.length := by
      refine Nat.lt_of_not_le fun hn => ?_
      rw [List.getElem?_eq_none hn] at hq
      cases hq
    have h1 := h.1 j hlt
    rw [List.getD_eq_getElem?_getD, hq] at h1
    rw [Nat.zero_add]
    exact h1
end Go.Hy
namespace Go.Hy
/-! ### What a row says in a world: dimensions that are so, and dimensions whose opposites are so -/
abbrev Wd : Type := Nat → Prop
theorem fR_all {l : List Cl} (h : fRight l = true) : l.all right24 = true := by
  unfold fRight at h
  simp only [Bool.and_eq_true] at h
  exact h.1.1.1
theorem face_calm {l : List Cl} (h : faceRight l = true) : fRight l = true ∧ ∀ c, c ∈ l → clash c = false := by
  unfold faceRight at h
  rw [Bool.and_eq_true, Bool.not_eq_true'] at h
  refine ⟨h.1, fun c hc => ?_⟩
  cases hq : clash c with
  | false => rfl
  | true => rw [List.any_eq_true.mpr ⟨c, hc, hq⟩] at h; cases h.2
theorem calm_face {l : List Cl} (h : fRight l = true) (h2 : ∀ c, c ∈ l → clash c = false) : faceRight l = true := by
  unfold faceRight
  rw [Bool.and_eq_true, Bool.not_eq_true', h]
  refine ⟨rfl, ?_⟩
  cases hq : l.any clash with
  | false => rfl
  | true => obtain ⟨c, hc, h3⟩ := List.any_eq_true.mp hq; rw [h2 c hc] at h3; cases h3
/-! Joins, meets, opposites. -/
section
variable {f g l : List Cl} {P N : Wd} {a b c : Cl}
end
end Go.Hy
namespace Go.Hy
def uE : T := .mk 3 0 ⟨#[]⟩ [] [] []
def aE (t u : T) : T := .mk 6 0 ⟨#[]⟩ [] [t, u] []
end Go.Hy
namespace Go.Hy
def hcF : T := .mk 15 0 ⟨#[]⟩ [] [uE, uE] []
theorem thenT_okT {x : Int × T} {k : T → Int × T} (hx : okT x.2) (h : ∀ u, okT u → okT (k u).2) : okT (thenT x k).2 := by
  by_cases h1 : x.1 = 0
  · rw [thenT_ok h1]; exact h _ hx
  · rw [thenT_bad h1]; exact okT_t0
theorem dimsUnder_okT {t : T} {c : Cl} (h : okT t) : okT (dimsUnder t c).2 := by
  unfold dimsUnder
  split
  · exact okT_t0
  · split
    · exact okT_t0
    · exact thenT_okT (putsT_okT h) fun u hu => putsT_okT hu
theorem face_ok {f : List Cl} (h : faceRight f = true) : rowOk f := by
  have h1 := (face_calm h).1
  refine ⟨fun c hc => ?_, by have := len_right h1; unfold reach; omega⟩
  obtain ⟨h2, h3⟩ := right24_iff.mp (List.all_eq_true.mp (fR_all h1) c hc)
  exact ⟨by omega, by omega⟩
end Go.Hy
namespace Go.Hy
theorem all_app {f g : List Cl} (h : f.all right24 = true) (h2 : g.all right24 = true) : (f ++ g).all right24 = true := by rw [List.all_append, h, h2]; rfl
end Go.Hy
namespace Go.Hy
/-! ### Systems by themselves -/
def alwaysB (b : Br) : Bool := decide (b.face = [cl0])
def totalP : List Br → Int
  | [] => -1
  | b :: l => if alwaysB b then 0 else if totalP l = -1 then -1 else totalP l + 1
theorem total_none : ∀ {l : List Br}, (∀ j, j < l.length → alwaysB (l.getD j br0) = false) → totalP l = -1
  | [], _ => rfl
  | b :: l, h => by
    have h0 := h 0 (by simp)
    rw [List.getD_cons_zero] at h0
    rw [totalP, h0, total_none (l := l) fun j hj => by have := h (j + 1) (by simpa using hj); rwa [List.getD_cons_succ] at this]
    rfl
theorem total_at : ∀ {l : List Br} {i : Nat}, i < l.length → (∀ j, j < i → alwaysB (l.getD j br0) = false) → alwaysB (l.getD i br0) = true → totalP l = i
  | [], i, hi, _, _ => absurd hi (by simp)
  | b :: l, 0, hi, h, h1 => by
    rw [List.getD_cons_zero] at h1
    rw [totalP, h1]; rfl
  | b :: l, i + 1, hi, h, h1 => by
    have h0 := h 0 (by omega)
    rw [List.getD_cons_zero] at h0
    rw [List.getD_cons_succ] at h1
    have h2 := total_at (l := l) (i := i) (by simpa using hi) (fun j hj => by have := h (j + 1) (by omega); rwa [List.getD_cons_succ] at this) h1
    rw [totalP, h0, h2, if_neg (by simp), if_neg (by omega)]
    omega
/-- Where a system has a branch. -/
def faceS : List Cl → List Br → EL
  | h, [] => (0, h)
  | h, b :: l => bindE (joinA h b.face) fun x => faceS x l
theorem faceS_bad {h : List Cl} {b : Br} {l : List Br} (e : (joinA h b.face).1 ≠ 0) : faceS h (b :: l) = ((joinA h b.face).1, []) := by rw [faceS, bindE_bad e]
theorem faceS_ok {h : List Cl} {b : Br} {l : List Br} (e : (joinA h b.face).1 = 0) : faceS h (b :: l) = faceS (joinA h b.face).2 l := by rw [faceS, bindE_ok e]
theorem joinA_len {f g : List Cl} (h : (joinA f g).1 = 0) : (joinA f g).2.length ≤ 64 ∧ faceRight (joinA f g).2 = true := by
  unfold joinA at h ⊢
  split at h
  · cases h
  · rename_i h1
    rw [if_neg h1]
    simp only [Bool.not_eq_false, Bool.and_eq_true] at h1
    unfold joinF at h ⊢
    have hr := leastF_fR h
    refine ⟨len_right hr, calm_face hr fun c hc => ?_⟩
    rcases List.mem_append.mp (leastF_sub h hc) with hc | hc
    · exact (face_calm h1.1).2 c hc
    · exact (face_calm h1.2).2 c hc
theorem leastF_none {l : List Cl} (h : (leastF l).1 ≠ 0) : (leastF l).2 = [] := by
  unfold leastF at h ⊢
  (repeat' split) <;> simp_all
theorem joinA_bad {f g : List Cl} (h : (joinA f g).1 ≠ 0) : (joinA f g).2 = [] := by
  unfold joinA at h ⊢
  split
  · rfl
  · rename_i h1
    rw [if_neg h1] at h
    unfold joinF at h ⊢
    exact leastF_none h
/-! ### A system's term -/
def ofT (k : Int) (l : List Br) : T := .mk k 0 ⟨#[]⟩ [] (List.replicate (kidsN k).toNat uE) l
def byR (k : Int) (l : List Br) (D : T → Int × T) : Int × List Br := if partsN k = 0 then (2, []) else ((D (ofT k l)).1, (D (ofT k l)).2.sys)
def sysT (l : List Br) : T := .mk 0 0 ⟨#[]⟩ [] [] l
theorem sum_mem : ∀ {l : List Nat} {n : Nat}, n ∈ l → n ≤ l.sum
  | a :: l, n, h => by
    rw [List.sum_cons]
    rcases List.mem_cons.mp h with rfl | h
    · omega
    · have := sum_mem h; omega
theorem sys_face {l : List Br} {m : Nat} (h : bulk (sysT l) ≤ m) {b : Br} (hb : b ∈ l) : b.face.length ≤ m := by
  rw [bulk_eq] at h
  have h1 : brBulk b ≤ (l.map brBulk).sum := sum_mem (List.mem_map_of_mem hb)
  have h2 : b.face.length ≤ brBulk b := by
    cases b
    simp only [brBulk, Br.face]
    omega
  have h3 : (sysT l).sys = l := rfl
  rw [h3] at h
  omega
theorem parts_kinds {k : Int} (h : partsN k ≠ 0) : (k = 15 ∨ k = 16 ∨ k = 17 ∨ k = 18) ∧ 0 ≤ kidsN k ∧ kidsN k ≤ 2 ∧ in64 k := by
  unfold partsN at h
  have hk : k = 15 ∨ k = 16 ∨ k = 17 ∨ k = 18 := by
    split at h
    · omega
    · split at h
      · omega
      · exact absurd rfl h
  refine ⟨hk, ?_⟩
  unfold in64
  rcases hk with rfl | rfl | rfl | rfl <;> decide
theorem size_rep {n : Nat} : sizeL (List.replicate n uE) = n := by
  induction n with
  | zero => rfl
  | succ n ih => rw [List.replicate_succ, sizeL, ih, show size uE = 1 by decide]; omega
theorem ofT_size {k : Int} {l : List Br} {m : Nat} (hp : partsN k ≠ 0) (h : bulk (sysT l) ≤ m) : size (ofT k l) ≤ m + 2 := by
  have h1 := size_le_bulk (sysT l)
  have h2 := (parts_kinds hp).2
  have e1 : size (ofT k l) = 1 + sizeL (List.replicate (kidsN k).toNat uE) + sizeB l := size_sumLB _
  have e2 : size (sysT l) = 1 + sizeL [] + sizeB l := size_sumLB _
  have e3 : sizeL [] = 0 := rfl
  rw [size_rep] at e1
  omega
theorem okJ {f g : List Cl} : okE (joinA f g) := by
  unfold joinA
  split
  · exact rowOk_nil
  · rename_i h
    simp only [Bool.not_eq_false, Bool.and_eq_true] at h
    exact okE_join (face_ok h.1) (face_ok h.2)
theorem always_two {b : Br} : (decide ((b.face.length : Int) = 1) && decide (b.face.getD 0 cl0 = cl0)) = alwaysB b := by
  unfold alwaysB
  rw [← Bool.decide_and]
  refine decide_eq_decide.mpr ⟨fun h => ?_, fun h => ?_⟩
  · match hf : b.face, h with
    | [], h => exact absurd h.1 (by simp)
    | [c], h => rw [show c = cl0 from h.2]
    | a :: c :: l, h => exact absurd h.1 (by simp; omega)
  · rw [h]; exact ⟨rfl, rfl⟩
end Go.Hy
namespace Go.Hy
/-! ### Systems without branches -/
section
variable {C : Type} {A : Tr C}
end
/-! ### The chapter's example -/
def endsL : List Br := [.mk [⟨0, 1⟩] [uE], .mk [⟨1, 0⟩] [uE]]
theorem ex_ends : faceS [] endsL = (0, [⟨0, 1⟩, ⟨1, 0⟩]) ∧ byR 15 endsL (fun t => dimsUnder t ⟨1, 0⟩) = (0, [.mk [cl0] [uE]]) ∧ totalP endsL = -1 ∧ totalP [.mk [cl0] [uE]] = 0 ∧ bulk (sysT endsL) ≤ 200 := by decide +kernel
/-! ### The document's answers -/
def rcalmL (l : List Cl) : List Cl := l.filter fun c => !rclash c
theorem calmL_yes {l : List Cl} {i : Nat} (h : i < l.length) (hc : rclash (l.getD i cl0) = false) : rcalmL (l.take (i + 1)) = rcalmL (l.take i) ++ [l.getD i cl0] := by
  unfold rcalmL
  rw [take_succ_getD (d := cl0) h, List.filter_append, List.filter_cons, if_pos (by rw [hc]; rfl), List.filter_nil]
theorem calmL_no {l : List Cl} {i : Nat} (h : i < l.length) (hc : rclash (l.getD i cl0) = true) : rcalmL (l.take (i + 1)) = rcalmL (l.take i) := by
  unfold rcalmL
  rw [take_succ_getD (d := cl0) h, List.filter_append, List.filter_cons, if_neg (by rw [hc]; decide), List.filter_nil, List.append_nil]
theorem calmL_len (l : List Cl) : (rcalmL l).length ≤ l.length := List.length_filter_le _ _
theorem rcalmL_eq {l : List Cl} (h : l.all right24 = true) : rcalmL l = calmL l := by
  unfold rcalmL calmL
  refine List.filter_congr fun c hc => ?_
  rw [rclash_eq (List.all_eq_true.mp h c hc)]
theorem calmL_self {l : List Cl} (h : ∀ c, c ∈ l → clash c = false) : calmL l = l := by
  unfold calmL
  exact List.filter_eq_self.mpr fun c hc => by rw [h c hc]; rfl
theorem joinA_calm {f g : List Cl} : joinA f g = if (faceRight f && faceRight g) = false then (2, []) else leastF (rcalmL (f ++ g)) := by
  unfold joinA
  split
  · rfl
  · rename_i h
    simp only [Bool.not_eq_false, Bool.and_eq_true] at h
    rw [rcalmL_eq (all_app (fR_all (face_calm h.1).1) (fR_all (face_calm h.2).1)), calmL_self fun c hc => (List.mem_append.mp hc).elim ((face_calm h.1).2 c) ((face_calm h.2).2 c)]
    rfl
theorem always_three {b : Br} : ((decide ((b.face.length : Int) = 1) && decide ((b.face.getD 0 cl0).pos = 0)) && decide ((b.face.getD 0 cl0).neg = 0)) = alwaysB b := by
  rw [← always_two, Bool.and_assoc]
  congr 1
  rw [← Bool.decide_and]
  refine decide_eq_decide.mpr ⟨fun h => ?_, fun h => by rw [h]; exact ⟨rfl, rfl⟩⟩
  generalize b.face.getD 0 cl0 = c at *
  obtain ⟨p, n⟩ := c
  obtain ⟨h1, h2⟩ := h
  simp only at h1 h2
  rw [h1, h2]
  rfl
end Go.Hy
namespace Go.Hy
/-! A call of a closure among operations of any order. -/
section
variable {tn : Bool} {pn : Nat} {P : Program} [Tab P] {f : FuncId} {R : Ending → World → Prop} {B : Base} {n : Fz} {K : List Item} {ops : Array Oper} {i : Nat} {l fin : List Nat} {σ : Nat → Value} {Γ : List Fact} {Ms Ms2 : List Res}
variable {dst : Option Tmp} {ty : TypeId}
theorem v_callC {c : FuncId} {args cap al : List Value} {av : Array Operand} {ts : Array TypeId} {g : Operand} {pre : List Fact} {X : Type} {val : X → Value} {N : X → List Fact} {Ms1 : X → List Res}
    (hc : ∀ (args : Array Value) (w : World), (callFunc c args).run P w = .ok (.enter c args) w) (hsp : Spec P c al.toArray pre [] val N Ms1) (kk : ∀ x, NV tn pn P f R B n K ops fin l (putS σ dst (val x)) (N x ++ Γ) (Ms1 x ++ Ms))
    (hg : ev σ g = .func (.func c) #[] cap.toArray := by rfl) (ha : av.toList.map (ev σ) = args := by rfl) (hal : args ++ cap = al := by rfl) (hpre : ∀ F, F ∈ pre → F ∈ Γ := by first | (simp; done) | (simp +contextual; done)) (hd : dstOk n dst = true := by rfl) : NvT tn pn P f R B n K ops fin i l dst (.call { callee := .value g, args := av, argTypes := ts }) ty σ Γ Ms :=
  nv_call (enterC hg ha hc) (hal ▸ hsp) hpre rfl rfl hd kk
end
end Go.Hy
namespace Go.Hy
open Go.RowKit Go.Shelf
/-! ### A range over a function whose body never leaves the loop, and whose iterator may write what it has captured -/
theorem range_all {F : Fence} {n : Nat} {P : Program} {α : Type} {g : Operand} {ps : Array Tmp} {assign body : Code} {Q : Exit → Act → World → Prop} {a : Act} {w : World}
    (hro : F.round = none) (h1 : 1 ≤ n) {gf : Nat} {lb : Array Value} (hg : a.eval g = .func (.func gf) #[] lb) (hFg : F.fn gf) (eg : ∀ args w, (callFunc gf args).run P w = .ok (.enter gf args) w)
    {encs : α → Array Value} (hps : ∀ x, (encs x).size = ps.size) (I : List α → World → Prop) (Px : List α → α → Prop) (Kp : World → World → Prop)
    (hIp : ∀ (pre : List α) (A : World) (l : Nat) (o o0 : Obj), I pre A → A.heap[l]? = some o0 → o0.isCells = false → w.heap.size ≤ l → I pre (A.putObj l o)) (hIa : ∀ (pre : List α) (A : World) (o : Obj), I pre A → w.heap.size ≤ A.heap.size → I pre (A.alloc o)) (h0 : I [] w)
    (hKt : ∀ {A B C : World}, Kp A B → Kp B C → Kp A C) (hKp : ∀ (A : World) (l : Nat) (o o0 : Obj), A.heap[l]? = some o0 → o0.isCells = false → w.heap.size ≤ l → Kp A (A.putObj l o))
    (xs : List α)
    (hit : ∀ (l : Nat) (J : List α → World → Prop) (W1 : World), (∀ pre W, J pre W → I pre W) →
      (∀ pre A B, J pre A → I pre B → (∀ (k : Nat) (o : Obj), A.heap[k]? = some o → o.isCells = false → B.heap[k]? = some o) → J pre B) →
      (∀ pre x W, J pre W → Px pre x → YieldAt F (n - 1 - 1) P l (encs x) W fun e W' => e = .returned (.bool true) ∧ J (pre ++ [x]) W' ∧ Kp W W') → J [] W1 → (∀ (k : Nat), k < w.heap.size → W1.heap[k]? = w.heap[k]?) →
      CallsIn F (n - 1) P gf (#[.func (.yield l) #[] #[]] ++ lb) W1 fun e W' => (∃ v, e = .returned v) ∧ J xs W')
    (a₁ : α → Act)
    (hassign : ∀ (l : Nat) (x : α) (W : World) (K : Act → World → Prop), K (a₁ x) W →
      assign.wpIn (F.inRound l) (n - 1 - 1) P (Exit.then K (fun _ _ _ => False)) { tmps := (ps.zip (encs x)).foldl (fun t (p, v) => t.setIfInBounds p v) a.tmps, defers := [] } W)
    (hbody : ∀ (l : Nat) (pre : List α) (x : α) (W : World), I pre W → Px pre x →
      body.wpIn (F.inRound l) (n - 1 - 1) P (fun e _ W' => e = .normal ∧ KeepsOthers W W' ∧ Kp W W' ∧ I (pre ++ [x]) W') (a₁ x) W)
    (hdone : ∀ (D : Nat) (W : World), w.heap.size ≤ D → I xs W → W.heap[D]? = some (.deferred (some [])) → Q .normal { a with defers := { target := .collected D, args := #[] } :: a.defers } W) :
    (Code.rangeFunc g ps assign body).wpIn F n P Q a w := by
  refine wpIn_rangeFunc ?_
  intro fn hfn
  rw [hro]
  obtain ⟨rec, hrec⟩ : ∃ rec : LoopState → Option Code → Loop, rec = fun st pe => { state := st, pending := pe, fn, tmps := a.tmps, params := ps, assign, body, defers := w.heap.size } := ⟨_, rfl⟩
  obtain ⟨W1, hW1⟩ : ∃ W1, (w.alloc (.deferred (some []))).alloc (.loop (rec .ready none)) = W1 := ⟨_, rfl⟩
  have hL1 : W1.heap[w.heap.size + 1]? = some (.loop (rec .ready none)) := by
    rw [← hW1]; have := World.alloc_heap_new (w.alloc (.deferred (some []))) (.loop (rec .ready none)); rwa [World.size_alloc] at this
  have hK1 : W1.heap[w.heap.size]? = some (.deferred (some [])) := by
    rw [← hW1]; exact (Below.heap_alloc _ _ _ (by simp)).trans (World.alloc_heap_new w _)
  have hI1 : I [] W1 := by rw [← hW1]; exact hIa _ _ _ (hIa _ _ _ h0 (Nat.le_refl _)) (by simp)
  refine ⟨w.heap.size + 1, [{ target := .collected w.heap.size, args := #[] }], W1, { target := .fn (.func gf) lb, args := #[.func (.yield (w.heap.size + 1)) #[] #[]] }, W1, gf,
    #[.func (.yield (w.heap.size + 1)) #[] #[]] ++ lb, W1, ?_, ?_, ?_, ?_, fun _ => h1, ?_⟩
  · rw [← hW1, hrec]; exact run_enterLoop_outer _ _ _ _ _
  · simp only [resolve, hg]
    simp [go_sem]
  · intro f' hf'; simp [Target.leads] at hf'; subst hf'; exact hFg
  · simp [invoke, go_sem, eg]
  · refine (hit (w.heap.size + 1) (fun pre W => I pre W ∧ W.heap[w.heap.size + 1]? = some (.loop (rec .ready none)) ∧ W.heap[w.heap.size]? = some (.deferred (some []))) W1
      (fun pre W h => h.1) (fun pre A B hA hB hk => ⟨hB, hk _ _ hA.2.1 rfl, hk _ _ hA.2.2 rfl⟩) ?_ ⟨hI1, hL1, hK1⟩ (fun k hk => by rw [← hW1]; exact (Below.heap_alloc _ _ _ (by simp; omega)).trans (Below.heap_alloc _ _ _ hk))).mono ?_
    · rintro pre x W ⟨hi, hl, hk⟩ hpx
      have hlt : w.heap.size + 1 < W.heap.size := (Array.getElem?_eq_some_iff.1 hl).1
      have hy := run_yield (P := P) (args := encs x) hl (by rw [hrec]; exact hps x)
      rw [hrec] at hy
      refine ⟨fn, _, assign, body, hy, roundIn_of_wpIn hfn (hassign _ x W _ ⟨_, run_beginRound hl (by rw [hrec]), ?_⟩)⟩
      have hl2 : (W.putObj (w.heap.size + 1) (.loop { rec .ready none with state := .busy })).heap[w.heap.size + 1]? = some (.loop { rec .ready none with state := .busy }) := World.putObj_heap_same hlt
      have hk2 : (W.putObj (w.heap.size + 1) (.loop { rec .ready none with state := .busy })).heap[w.heap.size]? = some (.deferred (some [])) := (World.putObj_heap_other (by omega)).trans hk
      refine wpIn_mono (hbody _ pre x _ (hIp _ _ _ _ _ hi hl rfl (by omega)) hpx) ?_
      rintro e a3 W3 ⟨rfl, hk3, hkp3, hi3⟩
      have hl3 := hk3.same _ _ hl2 rfl
      have hend := run_endRound (P := P) none hl3
      rw [hrec] at hl3 hend
      refine ⟨_, _, hend, rfl, ⟨hIp _ _ _ _ _ hi3 hl3 rfl (by omega), ?_, ?_⟩, hKt (hKt (hKp _ _ _ _ hl rfl (by omega)) hkp3) (hKp _ _ _ _ hl3 rfl (by omega))⟩
      · rw [hrec]; exact World.putObj_heap_same (Array.getElem?_eq_some_iff.1 hl3).1
      · exact (World.putObj_heap_other (by omega)).trans (hk3.same _ _ hk2 rfl)
    · rintro e W2 ⟨⟨v, rfl⟩, hi, hl, hk⟩
      exact ⟨none, _, by have := run_endLoop (P := P) hl (by rw [hrec]; simp); rw [hrec] at this; exact this, hdone _ _ (Nat.le_refl _) (hIp _ _ _ _ _ hi hl rfl (by omega)) ((World.putObj_heap_other (by omega)).trans hk)⟩
end Go.Hy
namespace Go.Hy
open Go.Proofs
set_option maxRecDepth 100000
theorem rpower (n : Int) (h0 : 0 ≤ n) (hn : n ≤ 40) : Spec Tryz.prog 187 #[.int .i64 (n)] [] [] (fun _ : Unit => .int .i64 (((2 ^ n.toNat : Nat) : Int))) (fun _ : Unit => []) (fun _ : Unit => []) := by
  refine spec_go (args := [.int .i64 (n)]) Tryz.func187 Tryz.ntmps187 rfl (by exact Nat.le_of_ble_eq_true rfl) fun B hB => ?_
  refine go_seq ?_; refine go_region ⟨_, Tryz.func187⟩ rfl ?_; refine q0 rfl (o_assign ?_); refine rg_nil ?_; refine go_seq ?_; refine go_region ⟨_, Tryz.func187⟩ rfl ?_; refine q0 rfl (o_assign ?_); refine rg_nil ?_; refine go_seq ?_; refine go_seq ?_; refine go_region ⟨_, Tryz.func187⟩ rfl ?_; refine q0 rfl (o_assign ?_); refine rg_nil ?_; refine go_block ?_; refine go_loopE (X := Nat) (fun s_ => (s_ : Int) ≤ n) (fun s_ => [(0, .int .i64 (n)), (3, .int .i64 (((2 ^ s_ : Nat) : Int))), (4, .int .i64 ((s_ : Int)))]) (fun s_ G_ => G_) (fun s_ => []) (fun s_ => n.toNat - s_) (0) (by simpa using h0) (by exact ⟨rfl, rfl, rfl, trivial⟩) ?_ ?_
  · exact fun w hs => hs
  · intro i base0 hi0 next0; have hpw : 2 ^ i ≤ 2 ^ 40 := Nat.pow_le_pow_right (by omega) (by omega); have hpz : (0 : Int) ≤ ((2 ^ i : Nat) : Int) := Int.natCast_nonneg _; refine go_seq ?_; refine go_seq ?_; refine go_region ⟨_, Tryz.func187⟩ rfl ?_; refine q0 rfl (o_move ?_); refine q0 rfl (o_move ?_); refine q0 rfl (o_lss ?_); refine rg_nil ?_; refine go_condI (fun h7 => ?_) (fun h7 => ?_)
    · have c7 : (decide ((i : Int) < n)) = true := h7
      try simp only [sC, bne_iff_ne, beq_iff_eq, ne_eq] at c7
      refine go_skip ?_; refine go_seq ?_; refine go_block ?_; refine go_region ⟨_, Tryz.func187⟩ rfl ?_; refine q0 rfl (o_move ?_); refine q0 rfl (o_mul ?_); refine q0 rfl (o_assign ?_); refine rg_nil ?_; refine go_inBlock ?_; refine go_region ⟨_, Tryz.func187⟩ rfl ?_; refine q0 rfl (o_move ?_); refine q0 rfl (o_add ?_); refine q0 rfl (o_assign ?_); refine rg_nil ?_; refine go_state (fun w hs => ?_) (next0 (i + 1) _ (by omega) (by omega) ⟨rfl, (by (conv => lhs; whnf); rw [Nat.pow_succ]; push_cast; rfl), rfl, trivial⟩); exact (hs.less (by simp +contextual))
    · have c7 : (decide ((i : Int) < n)) = false := h7
      try simp only [sC, bne_iff_ne, beq_iff_eq, ne_eq] at c7
      have he : n.toNat = i := by omega
      refine go_exit rfl ?_; refine go_seq ?_; refine go_region ⟨_, Tryz.func187⟩ rfl ?_; refine q0 rfl (o_move ?_); refine q0 rfl (o_assign ?_); refine rg_nil ?_; refine ret1 Tryz.func187 Tryz.results187 wn_ () (by rw [he]) (fun w hs => hs.none)
theorem rhas (s : Nat) (i : Int) (hs : s < 4294967296) : Spec Tryz.prog 116 #[.int .u32 ((s : Nat) : Int), .int .i64 (i)] [] [] (fun _ : Unit => .bool ((hasM s i))) (fun _ : Unit => []) (fun _ : Unit => []) := by
  refine spec_go (args := [.int .u32 ((s : Nat) : Int), .int .i64 (i)]) Tryz.func116 Tryz.ntmps116 rfl (by exact Nat.le_of_ble_eq_true rfl) fun B hB => ?_
  refine go_seq ?_; refine go_region ⟨_, Tryz.func116⟩ rfl ?_; refine q0 rfl (o_assign ?_); refine rg_nil ?_; refine go_seq ?_; refine go_cutS ([(4, .bool (((decide (0 ≤ i)) && (decide (i < 24))) && (decide (((s / 2 ^ i.toNat % 2 : Nat) : Int) = 1))))]) (fun hK => ?_) (fun base => ?_)
  · refine go_region ⟨_, Tryz.func116⟩ rfl ?_; refine q0 rfl (o_move ?_); refine q0 rfl (o_geq ?_); refine q0 rfl (o_move ?_); refine qI rfl rfl rfl wl_ (fun hg7 => ?_) (fun hg7 => ?_)
    · have g7 : (decide (0 ≤ i)) = true := hg7
      try simp only [sC, bne_iff_ne, beq_iff_eq, ne_eq] at g7
      refine o_move ?_; refine qT rfl rfl rfl (o_lss ?_); refine q0 rfl (o_pickT ?_); refine q0 rfl (o_move ?_); refine qI rfl rfl rfl wl_ (fun hg11 => ?_) (fun hg11 => ?_)
      · have g11 : (decide (i < 24)) = true := hg11
        try simp only [sC, bne_iff_ne, beq_iff_eq, ne_eq] at g11
        refine o_move ?_; refine qT rfl rfl rfl (o_convUI ?_); refine qT rfl rfl rfl (o_move ?_); refine qT rfl rfl rfl (o_call Tryz.call187 (rpower i om_ om_) (fun x15 => ?_)); refine qT rfl rfl rfl (o_quoN ?_ (a := s) (b := 2 ^ i.toNat)); refine qT rfl rfl rfl (o_remN ?_ (a := s / 2 ^ i.toNat) (b := 2)); refine qT rfl rfl rfl (o_eqI ?_ (a := ((s / 2 ^ i.toNat % 2 : Nat) : Int)) (b := 1)); refine q0 rfl (o_pickT ?_); refine q0 rfl (o_assign ?_); refine rg_nil ?_; exact hK _ ⟨(by first | rfl | ((conv => lhs; whnf); first | (simp_all [hasM_eq]; done) | (simp_all [hasM_eq]; omega))), trivial⟩
      · have g11 : (decide (i < 24)) = false := hg11
        try simp only [sC, bne_iff_ne, beq_iff_eq, ne_eq] at g11
        refine qF rfl rfl rfl ?_; refine qF rfl rfl rfl ?_; refine qF rfl rfl rfl ?_; refine qF rfl rfl rfl ?_; refine qF rfl rfl rfl ?_; refine qF rfl rfl rfl ?_; refine q0 rfl (o_pickF ?_); refine q0 rfl (o_assign ?_); refine rg_nil ?_; exact hK _ ⟨(by first | rfl | ((conv => lhs; whnf); first | (simp_all [hasM_eq]; done) | (simp_all [hasM_eq]; omega))), trivial⟩
    · have g7 : (decide (0 ≤ i)) = false := hg7
      try simp only [sC, bne_iff_ne, beq_iff_eq, ne_eq] at g7
      refine qF rfl rfl rfl ?_; refine q0 rfl (o_pickF ?_); refine q0 rfl (o_move ?_); refine qF rfl rfl rfl ?_; refine qF rfl rfl rfl ?_; refine qF rfl rfl rfl ?_; refine qF rfl rfl rfl ?_; refine qF rfl rfl rfl ?_; refine qF rfl rfl rfl ?_; refine qF rfl rfl rfl ?_; refine q0 rfl (o_pickF ?_); refine q0 rfl (o_assign ?_); refine rg_nil ?_; exact hK _ ⟨(by first | rfl | ((conv => lhs; whnf); first | (simp_all [hasM_eq]; done) | (simp_all [hasM_eq]; omega))), trivial⟩
  · refine ret1 Tryz.func116 Tryz.results116 wn_ () (congrArg Value.bool (by rw [hasM_eq, show decide (((s / 2 ^ i.toNat % 2 : Nat) : Int) = 1) = decide (s / 2 ^ i.toNat % 2 = 1) from decide_eq_decide.mpr (by omega)])) (fun w hs => hs.none)
theorem p24 : (2 ^ (24 : Int).toNat : Nat) = 16777216 := by decide +kernel
theorem rmright (s : Nat) (hs : s < 4294967296) : Spec Tryz.prog 214 #[.int .u32 ((s : Nat) : Int)] [] [] (fun _ : Unit => .bool ((decide (s < 16777216)))) (fun _ : Unit => []) (fun _ : Unit => []) := by
  refine spec_go (args := [.int .u32 ((s : Nat) : Int)]) Tryz.func214 Tryz.ntmps214 rfl (by exact Nat.le_of_ble_eq_true rfl) fun B hB => ?_
  refine go_seq ?_; refine go_region ⟨_, Tryz.func214⟩ rfl ?_; refine q0 rfl (o_assign ?_); refine rg_nil ?_; refine go_seq ?_; refine go_region ⟨_, Tryz.func214⟩ rfl ?_; refine q0 rfl (o_move ?_); refine q0 rfl (o_convUI ?_); refine q0 rfl (o_call Tryz.call187 (rpower 24 om_ om_) (fun x5 => ?_)); refine q0 rfl (o_lss ?_); refine q0 rfl (o_assign ?_); refine rg_nil ?_; refine ret1 Tryz.func214 Tryz.results214 wn_ () (congrArg Value.bool (decide_eq_decide.mpr (by rw [p24]; omega))) (fun w hs => hs.none)
end Go.Hy
namespace Go.Hy
open Go.Proofs
set_option maxRecDepth 100000
theorem rcright (c : Cl) (hc : u32 c) : Spec Tryz.prog 159 #[keyV c] [] [] (fun _ : Unit => .bool ((right24 c))) (fun _ : Unit => []) (fun _ : Unit => []) := by
  refine spec_go (args := [keyV c]) Tryz.func159 Tryz.ntmps159 rfl (by exact Nat.le_of_ble_eq_true rfl) fun B hB => ?_
  have hc1 := hc.1; have hc2 := hc.2; refine go_seq ?_; refine go_region ⟨_, Tryz.func159⟩ rfl ?_; refine q0 rfl (o_box fun b1 => ?_); refine q0 rfl (o_assign ?_); refine rg_nil ?_; refine go_seq ?_; refine go_cutS ([(2, .bool ((decide (((c).pos) < 16777216)) && (decide (((c).neg) < 16777216))))]) (fun hK => ?_) (fun base => ?_)
  · refine go_region ⟨_, Tryz.func159⟩ rfl ?_; refine q0 rfl (o_fa ?_); refine q0 rfl (o_ld ?_); refine q0 rfl (o_call Tryz.call214 (rmright ((c).pos) om_) (fun x5 => ?_)); refine q0 rfl (o_move ?_); refine qI rfl rfl rfl wl_ (fun hg6 => ?_) (fun hg6 => ?_)
    · have g6 : ((decide (((c).pos) < 16777216))) = true := hg6
      try simp only [sC, bne_iff_ne, beq_iff_eq, ne_eq] at g6
      refine o_fa ?_; refine qT rfl rfl rfl (o_ld ?_); refine qT rfl rfl rfl (o_call Tryz.call214 (rmright ((c).neg) om_) (fun x9 => ?_)); refine q0 rfl (o_pickT ?_); refine q0 rfl (o_assign ?_); refine rg_nil ?_; exact hK _ ⟨(by first | rfl | ((conv => lhs; whnf); first | (simp_all [right24]; done) | (simp_all [right24]; omega))), trivial⟩
    · have g6 : ((decide (((c).pos) < 16777216))) = false := hg6
      try simp only [sC, bne_iff_ne, beq_iff_eq, ne_eq] at g6
      refine qF rfl rfl rfl ?_; refine qF rfl rfl rfl ?_; refine q0 rfl (o_pickF ?_); refine q0 rfl (o_assign ?_); refine rg_nil ?_; exact hK _ ⟨(by first | rfl | ((conv => lhs; whnf); first | (simp_all [right24]; done) | (simp_all [right24]; omega))), trivial⟩
  · refine ret1 Tryz.func159 Tryz.results159 wn_ () (by first | rfl | (simp_all [right24]; done) | (simp_all [right24]; omega)) (fun w hs => hs.none)
theorem rbelow (c : Cl) (d : Cl) (hc : u32 c) (hd : u32 d) : Spec Tryz.prog 248 #[keyV c, keyV d] [] [] (fun _ : Unit => .bool ((below c d))) (fun _ : Unit => []) (fun _ : Unit => []) := by
  refine spec_go (args := [keyV c, keyV d]) Tryz.func248 Tryz.ntmps248 rfl (by exact Nat.le_of_ble_eq_true rfl) fun B hB => ?_
  have hc1 := hc.1; have hc2 := hc.2; have hd1 := hd.1; have hd2 := hd.2; refine go_seq ?_; refine go_region ⟨_, Tryz.func248⟩ rfl ?_; refine q0 rfl (o_box fun b2 => ?_); refine q0 rfl (o_box fun b3 => ?_); refine q0 rfl (o_assign ?_); refine rg_nil ?_; refine go_seq ?_; refine go_cutS ([(4, .bool ((decide ((((c).pos) ||| ((d).pos)) = ((c).pos))) && (decide ((((c).neg) ||| ((d).neg)) = ((c).neg)))))]) (fun hK => ?_) (fun base => ?_)
  · refine go_region ⟨_, Tryz.func248⟩ rfl ?_; refine q0 rfl (o_fa ?_); refine q0 rfl (o_ld ?_); refine q0 rfl (o_fa ?_); refine q0 rfl (o_ld ?_); refine q0 rfl (o_orU32 ?_ (a := ((c).pos)) (b := ((d).pos))); refine q0 rfl (o_fa ?_); refine q0 rfl (o_ld ?_); refine q0 rfl (o_eqU ?_ (a := (((c).pos) ||| ((d).pos))) (b := ((c).pos))); refine q0 rfl (o_move ?_); refine qI rfl rfl rfl wl_ (fun hg13 => ?_) (fun hg13 => ?_)
    · have g13 : (decide ((((c).pos) ||| ((d).pos)) = ((c).pos))) = true := hg13
      try simp only [sC, bne_iff_ne, beq_iff_eq, ne_eq] at g13
      refine o_fa ?_; refine qT rfl rfl rfl (o_ld ?_); refine qT rfl rfl rfl (o_fa ?_); refine qT rfl rfl rfl (o_ld ?_); refine qT rfl rfl rfl (o_orU32 ?_ (a := ((c).neg)) (b := ((d).neg))); refine qT rfl rfl rfl (o_fa ?_); refine qT rfl rfl rfl (o_ld ?_); refine qT rfl rfl rfl (o_eqU ?_ (a := (((c).neg) ||| ((d).neg))) (b := ((c).neg))); refine q0 rfl (o_pickT ?_); refine q0 rfl (o_assign ?_); refine rg_nil ?_; exact hK _ ⟨(by first | rfl | ((conv => lhs; whnf); first | (simp_all [below]; done) | (simp_all [below]; omega))), trivial⟩
    · have g13 : (decide ((((c).pos) ||| ((d).pos)) = ((c).pos))) = false := hg13
      try simp only [sC, bne_iff_ne, beq_iff_eq, ne_eq] at g13
      refine qF rfl rfl rfl ?_; refine qF rfl rfl rfl ?_; refine qF rfl rfl rfl ?_; refine qF rfl rfl rfl ?_; refine qF rfl rfl rfl ?_; refine qF rfl rfl rfl ?_; refine qF rfl rfl rfl ?_; refine q0 rfl (o_pickF ?_); refine q0 rfl (o_assign ?_); refine rg_nil ?_; exact hK _ ⟨(by first | rfl | ((conv => lhs; whnf); first | (simp_all [below]; done) | (simp_all [below]; omega))), trivial⟩
  · refine ret1 Tryz.func248 Tryz.results248 wn_ () (by first | rfl | (simp_all [below]; done) | (simp_all [below]; omega)) (fun w hs => hs.none)
theorem rless (c : Cl) (d : Cl) (hc : u32 c) (hd : u32 d) : Spec Tryz.prog 226 #[keyV c, keyV d] [] [] (fun _ : Unit => .bool ((lessC c d))) (fun _ : Unit => []) (fun _ : Unit => []) := by
  refine spec_go (args := [keyV c, keyV d]) Tryz.func226 Tryz.ntmps226 rfl (by exact Nat.le_of_ble_eq_true rfl) fun B hB => ?_
  have hc1 := hc.1; have hc2 := hc.2; have hd1 := hd.1; have hd2 := hd.2; refine go_seq ?_; refine go_region ⟨_, Tryz.func226⟩ rfl ?_; refine q0 rfl (o_box fun b2 => ?_); refine q0 rfl (o_box fun b3 => ?_); refine q0 rfl (o_assign ?_); refine rg_nil ?_; refine go_seq ?_; refine go_cutS ([(4, .bool ((decide (((c).pos) < ((d).pos))) || ((decide (((c).pos) = ((d).pos))) && (decide (((c).neg) < ((d).neg))))))]) (fun hK => ?_) (fun base => ?_)
  · refine go_region ⟨_, Tryz.func226⟩ rfl ?_; refine q0 rfl (o_fa ?_); refine q0 rfl (o_ld ?_); refine q0 rfl (o_fa ?_); refine q0 rfl (o_ld ?_); refine q0 rfl (o_lssU ?_ (a := ((c).pos)) (b := ((d).pos))); refine q0 rfl (o_move ?_); refine qI rfl rfl rfl wl_ (fun hg10 => ?_) (fun hg10 => ?_)
    · have g10 : (decide (((c).pos) < ((d).pos))) = false := hg10
      try simp only [sC, bne_iff_ne, beq_iff_eq, ne_eq] at g10
      refine o_fa ?_; refine qT rfl rfl rfl (o_ld ?_); refine qT rfl rfl rfl (o_fa ?_); refine qT rfl rfl rfl (o_ld ?_); refine qT rfl rfl rfl (o_eqU ?_ (a := ((c).pos)) (b := ((d).pos))); refine qT rfl rfl rfl (o_move ?_); refine qI rfl rfl rfl wl_ (fun hg16 => ?_) (fun hg16 => ?_)
      · have g16 : (decide (((c).pos) = ((d).pos))) = true := hg16
        try simp only [sC, bne_iff_ne, beq_iff_eq, ne_eq] at g16
        refine o_fa ?_; refine qT rfl rfl rfl (o_ld ?_); refine qT rfl rfl rfl (o_fa ?_); refine qT rfl rfl rfl (o_ld ?_); refine qT rfl rfl rfl (o_lssU ?_ (a := ((c).neg)) (b := ((d).neg))); refine qT rfl rfl rfl (o_pickT ?_); refine q0 rfl (o_pickF ?_); refine q0 rfl (o_assign ?_); refine rg_nil ?_; exact hK _ ⟨(by first | rfl | ((conv => lhs; whnf); first | (simp_all [lessC]; done) | (simp_all [lessC]; omega))), trivial⟩
      · have g16 : (decide (((c).pos) = ((d).pos))) = false := hg16
        try simp only [sC, bne_iff_ne, beq_iff_eq, ne_eq] at g16
        refine qF rfl rfl rfl ?_; refine qF rfl rfl rfl ?_; refine qF rfl rfl rfl ?_; refine qF rfl rfl rfl ?_; refine qT rfl rfl rfl (o_pickF ?_); refine q0 rfl (o_pickF ?_); refine q0 rfl (o_assign ?_); refine rg_nil ?_; exact hK _ ⟨(by first | rfl | ((conv => lhs; whnf); first | (simp_all [lessC]; done) | (simp_all [lessC]; omega))), trivial⟩
    · have g10 : (decide (((c).pos) < ((d).pos))) = true := hg10
      try simp only [sC, bne_iff_ne, beq_iff_eq, ne_eq] at g10
      refine qF rfl rfl rfl ?_; refine qF rfl rfl rfl ?_; refine qF rfl rfl rfl ?_; refine qF rfl rfl rfl ?_; refine qF rfl rfl rfl ?_; refine qU rfl rfl rfl ?_; refine qU rfl rfl rfl ?_; refine qU rfl rfl rfl ?_; refine qU rfl rfl rfl ?_; refine qU rfl rfl rfl ?_; refine qF rfl rfl rfl ?_; refine q0 rfl (o_pickT ?_); refine q0 rfl (o_assign ?_); refine rg_nil ?_; exact hK _ ⟨(by first | rfl | ((conv => lhs; whnf); first | (simp_all [lessC]; done) | (simp_all [lessC]; omega))), trivial⟩
  · refine ret1 Tryz.func226 Tryz.results226 wn_ () (by first | rfl | (simp_all [lessC]; done) | (simp_all [lessC]; omega)) (fun w hs => hs.none)
theorem rclash_spec (c : Cl) (hc : u32 c) : Spec Tryz.prog 160 #[keyV c] [] [] (fun _ : Unit => .bool ((rclash c))) (fun _ : Unit => []) (fun _ : Unit => []) := by
  refine spec_go (args := [keyV c]) Tryz.func160 Tryz.ntmps160 rfl (by exact Nat.le_of_ble_eq_true rfl) fun B hB => ?_
  have hc1 := hc.1; have hc2 := hc.2; refine go_seq ?_; refine go_region ⟨_, Tryz.func160⟩ rfl ?_; refine q0 rfl (o_box fun b1 => ?_); refine q0 rfl (o_assign ?_); refine rg_nil ?_; refine go_seq ?_; refine go_seq ?_; refine go_region ⟨_, Tryz.func160⟩ rfl ?_; refine q0 rfl (o_assign ?_); refine rg_nil ?_; refine go_block ?_; refine go_loopE (X := Nat) (fun s_ => s_ ≤ 24 ∧ ∀ j, j < s_ → (hasM c.pos (j : Int) && hasM c.neg (j : Int)) = false) (fun s_ => [(1, .pointer (some ⟨b1, 0, none⟩)), (3, .int .i64 ((s_ : Int)))]) (fun s_ G_ => G_) (fun s_ => [boxR b1 (clCells c) 45]) (fun s_ => 24 - s_) (0) (⟨by omega, fun j hj => by omega⟩) (by exact ⟨rfl, rfl, trivial⟩) ?_ ?_
  · exact fun w hs => hs
  · intro i base0 ⟨hi, hok⟩ next0; refine go_seq ?_; refine go_seq ?_; refine go_region ⟨_, Tryz.func160⟩ rfl ?_; refine q0 rfl (o_move ?_); refine q0 rfl (o_lss ?_); refine rg_nil ?_; refine go_condI (fun h5 => ?_) (fun h5 => ?_)
    · have c5 : (decide ((i : Int) < 24)) = true := h5
      try simp only [sC, bne_iff_ne, beq_iff_eq, ne_eq] at c5
      refine go_skip ?_; refine go_seq ?_; refine go_block ?_; refine go_seq ?_; refine go_cutS ([(1, .pointer (some ⟨b1, 0, none⟩)), (3, .int .i64 ((i : Int))), (17, .bool ((hasM ((c).pos) (i : Int)) && (hasM ((c).neg) (i : Int))))]) (fun hK => ?_) (fun base => ?_)
      · refine go_region ⟨_, Tryz.func160⟩ rfl ?_; refine q0 rfl (o_fa ?_); refine q0 rfl (o_ld ?_); refine q0 rfl (o_move ?_); refine q0 rfl (o_call Tryz.call116 (rhas ((c).pos) (i : Int) om_) (fun x11 => ?_)); refine q0 rfl (o_move ?_); refine qI rfl rfl rfl wl_ (fun hg12 => ?_) (fun hg12 => ?_)
        · have g12 : ((hasM ((c).pos) (i : Int))) = true := hg12
          try simp only [sC, bne_iff_ne, beq_iff_eq, ne_eq] at g12
          refine o_fa ?_; refine qT rfl rfl rfl (o_ld ?_); refine qT rfl rfl rfl (o_move ?_); refine qT rfl rfl rfl (o_call Tryz.call116 (rhas ((c).neg) (i : Int) om_) (fun x16 => ?_)); refine q0 rfl (o_pickT ?_); refine rg_nil ?_; exact hK _ ⟨rfl, rfl, dn_, trivial⟩
        · have g12 : ((hasM ((c).pos) (i : Int))) = false := hg12
          try simp only [sC, bne_iff_ne, beq_iff_eq, ne_eq] at g12
          refine qF rfl rfl rfl ?_; refine qF rfl rfl rfl ?_; refine qF rfl rfl rfl ?_; refine q0 rfl (o_pickF ?_); refine rg_nil ?_; exact hK _ ⟨rfl, rfl, dn_, trivial⟩
      · refine go_condI (fun h17 => ?_) (fun h17 => ?_)
        · have c17 : ((hasM ((c).pos) (i : Int)) && (hasM ((c).neg) (i : Int))) = true := h17
          try simp only [sC, bne_iff_ne, beq_iff_eq, ne_eq] at c17
          refine go_seq ?_; refine go_region ⟨_, Tryz.func160⟩ rfl ?_; refine q0 rfl (o_assign ?_); refine rg_nil ?_; have hb : (hasM c.pos (i : Int) && hasM c.neg (i : Int)) = true := by simpa using h17
          refine ret1 Tryz.func160 Tryz.results160 wn_ () (by rw [rclash, List.any_eq_true.mpr ⟨i, List.mem_range.mpr (by omega), hb⟩]) (fun w hs => hs.none)
        · have c17 : ((hasM ((c).pos) (i : Int)) && (hasM ((c).neg) (i : Int))) = false := h17
          try simp only [sC, bne_iff_ne, beq_iff_eq, ne_eq] at c17
          refine go_skip ?_; refine go_inBlock ?_; refine go_region ⟨_, Tryz.func160⟩ rfl ?_; refine q0 rfl (o_move ?_); refine q0 rfl (o_add ?_); refine q0 rfl (o_assign ?_); refine rg_nil ?_; have hb : (hasM c.pos (i : Int) && hasM c.neg (i : Int)) = false := by simpa using h17
          refine go_state (fun w hs => ?_) (next0 (i + 1) _ (⟨by omega, succ_inv hok hb⟩) (by omega) ⟨rfl, rfl, trivial⟩); exact (hs.less (by simp +contextual))
    · have c5 : (decide ((i : Int) < 24)) = false := h5
      try simp only [sC, bne_iff_ne, beq_iff_eq, ne_eq] at c5
      refine go_exit rfl ?_; refine go_seq ?_; refine go_region ⟨_, Tryz.func160⟩ rfl ?_; refine q0 rfl (o_assign ?_); refine rg_nil ?_; refine ret1 Tryz.func160 Tryz.results160 wn_ () (by rw [rclash, List.any_eq_false.mpr (fun j hj => by rw [hok j (by have := List.mem_range.mp hj; omega)]; decide)]) (fun w hs => hs.none)
theorem needless_eq (l : List Cl) (c : Cl) : needless l c = l.any fun d => !decide (d = c) && below c d := by
  unfold needless; congr 1; funext d; rw [show (decide (c = d)) = decide (d = c) from decide_eq_decide.mpr eq_comm]
theorem rneeded (l : List Cl) (a_l : SH) (c : Cl) (hc : u32 c) : Spec Tryz.prog 225 #[sl a_l (l.length), keyV c] [CL l a_l] [] (fun _ : Unit => .bool ((!needless l c))) (fun _ : Unit => []) (fun _ : Unit => []) := by
  refine spec_go (args := [sl a_l (l.length), keyV c]) Tryz.func225 Tryz.ntmps225 rfl (by exact Nat.le_of_ble_eq_true rfl) fun B hB => ?_
  refine go_openCL (l := l) (a := a_l) (fun hl1 hA1 hU1 => ?_); have hc1 := hc.1; have hc2 := hc.2; refine go_seq ?_; refine go_region ⟨_, Tryz.func225⟩ rfl ?_; refine q0 rfl (o_box fun b3 => ?_); refine q0 rfl (o_assign ?_); refine rg_nil ?_; refine go_seq ?_; refine go_seq ?_; refine go_region ⟨_, Tryz.func225⟩ rfl ?_; refine q0 rfl (o_assign ?_); refine rg_nil ?_; refine go_block ?_; refine go_loopE (X := Nat) (fun s_ => s_ ≤ l.length ∧ ∀ j, j < s_ → (!decide (l.getD j cl0 = c) && below c (l.getD j cl0)) = false) (fun s_ => [(0, sl a_l (l.length)), (3, .pointer (some ⟨b3, 0, none⟩)), (5, .int .i64 ((s_ : Int)))]) (fun s_ G_ => G_) (fun s_ => [boxR b3 (clCells c) 45]) (fun s_ => l.length - s_) (0) (⟨by omega, fun j hj => by omega⟩) (by exact ⟨rfl, rfl, rfl, trivial⟩) ?_ ?_
  · exact fun w hs => hs
  · intro i base0 ⟨hi, hok⟩ next0; refine go_seq ?_; refine go_seq ?_; refine go_region ⟨_, Tryz.func225⟩ rfl ?_; refine q0 rfl (o_move ?_); refine q0 rfl (o_move ?_); refine q0 rfl (o_len ?_); refine q0 rfl (o_lss ?_); refine rg_nil ?_; refine go_condI (fun h9 => ?_) (fun h9 => ?_)
    · have c9 : (decide ((i : Int) < (l.length : Int))) = true := h9
      try simp only [sC, bne_iff_ne, beq_iff_eq, ne_eq] at c9
      have hu := hU1 _ (getD_mem (d := cl0) (show i < l.length by omega)); have hu1 := hu.1; have hu2 := hu.2; refine go_skip ?_; refine go_seq ?_; refine go_block ?_; refine go_seq ?_; refine go_cutS ([(0, sl a_l (l.length)), (3, .pointer (some ⟨b3, 0, none⟩)), (5, .int .i64 ((i : Int))), (25, .bool ((!decide ((l.getD i cl0) = c)) && (below c (l.getD i cl0))))]) (fun hK => ?_) (fun base => ?_)
      · refine go_draw (pn := 1000000) (tn := false) (A := [0, 0, 3, 7, 0, 31, 63, 127, 127, 127, 895, 1919, 4095, 8191]) (l := [0, 1, 2, 3, 4, 5, 6, 7, 8, 9, 10, 11, 12, 13]) (fin := []) Tab.mixed ⟨_, Tryz.func225⟩ (by rfl) ?_; refine n0 rfl (v_move ?_); refine n0 rfl (v_move ?_); obtain ⟨bk2, o2, hav2⟩ := hA1 (by omega); refine n0 rfl (v_ixN ?_ (j := i)); refine n0 rfl (v_ldC ?_); refine n0 rfl (v_lds ?_); refine n0 rfl (v_neC ?_ (c := (l.getD i cl0)) (c' := c)); refine n0 rfl (v_move ?_); refine nI rfl rfl rfl wl_ (fun hg18 => ?_) (fun hg18 => ?_)
        · have g18 : (!decide ((l.getD i cl0) = c)) = true := hg18
          try simp only [sC, bne_iff_ne, beq_iff_eq, ne_eq] at g18
          refine v_lds ?_; refine nT rfl rfl rfl (v_move ?_); refine nT rfl rfl rfl (v_move ?_); refine nT rfl rfl rfl (v_ixN ?_ (j := i)); refine nT rfl rfl rfl (v_ldC ?_); refine nT rfl rfl rfl (v_call Tryz.call248 (rbelow c (l.getD i cl0) om_ om_) (fun x24 => ?_)); refine n0 rfl (v_pickT ?_); refine NV.done ?_; refine rg_nil ?_; exact hK _ ⟨rfl, rfl, rfl, dn_, trivial⟩
        · have g18 : (!decide ((l.getD i cl0) = c)) = false := hg18
          try simp only [sC, bne_iff_ne, beq_iff_eq, ne_eq] at g18
          refine nF rfl rfl rfl ?_; refine nF rfl rfl rfl ?_; refine nF rfl rfl rfl ?_; refine nF rfl rfl rfl ?_; refine nF rfl rfl rfl ?_; refine n0 rfl (v_pickF ?_); refine NV.done ?_; refine rg_nil ?_; exact hK _ ⟨rfl, rfl, rfl, dn_, trivial⟩
      · refine go_condI (fun h25 => ?_) (fun h25 => ?_)
        · have c25 : ((!decide ((l.getD i cl0) = c)) && (below c (l.getD i cl0))) = true := h25
          try simp only [sC, bne_iff_ne, beq_iff_eq, ne_eq] at c25
          refine go_seq ?_; refine go_region ⟨_, Tryz.func225⟩ rfl ?_; refine q0 rfl (o_assign ?_); refine rg_nil ?_; have hb : (!decide (l.getD i cl0 = c) && below c (l.getD i cl0)) = true := by simpa using h25
          refine ret1 Tryz.func225 Tryz.results225 wn_ () (by rw [needless_eq, any_true_at (d := cl0) (i := i) (by omega) hb]; rfl) (fun w hs => hs.none)
        · have c25 : ((!decide ((l.getD i cl0) = c)) && (below c (l.getD i cl0))) = false := h25
          try simp only [sC, bne_iff_ne, beq_iff_eq, ne_eq] at c25
          refine go_skip ?_; refine go_inBlock ?_; refine go_region ⟨_, Tryz.func225⟩ rfl ?_; refine q0 rfl (o_move ?_); refine q0 rfl (o_add ?_); refine q0 rfl (o_assign ?_); refine rg_nil ?_; have hb : (!decide (l.getD i cl0 = c) && below c (l.getD i cl0)) = false := by simpa using h25
          refine go_state (fun w hs => ?_) (next0 (i + 1) _ (⟨by omega, succ_inv hok hb⟩) (by omega) ⟨rfl, rfl, rfl, trivial⟩); exact (hs.less (by simp +contextual))
    · have c9 : (decide ((i : Int) < (l.length : Int))) = false := h9
      try simp only [sC, bne_iff_ne, beq_iff_eq, ne_eq] at c9
      refine go_exit rfl ?_; refine go_seq ?_; refine go_region ⟨_, Tryz.func225⟩ rfl ?_; refine q0 rfl (o_assign ?_); refine rg_nil ?_; refine ret1 Tryz.func225 Tryz.results225 wn_ () (by rw [needless_eq, any_false_of (d := cl0) (fun j hj => hok j (by omega))]; rfl) (fun w hs => hs.none)
theorem rsameC (l : List Cl) (a_l : SH) (m : List Cl) (a_m : SH)  : Spec Tryz.prog 21 #[sl a_l (l.length), sl a_m (m.length)] [CL l a_l, CL m a_m] [] (fun _ : Unit => .bool ((decide (l = m)))) (fun _ : Unit => []) (fun _ : Unit => []) := by
  refine spec_go (args := [sl a_l (l.length), sl a_m (m.length)]) Tryz.func21 Tryz.ntmps21 rfl (by exact Nat.le_of_ble_eq_true rfl) fun B hB => ?_
  refine go_openCL (l := l) (a := a_l) (fun hl1 hA1 hU1 => ?_); refine go_openCL (l := m) (a := a_m) (fun hl2 hA2 hU2 => ?_); refine go_seq ?_; refine go_region ⟨_, Tryz.func21⟩ rfl ?_; refine q0 rfl (o_assign ?_); refine rg_nil ?_; refine go_seq ?_; refine go_seq ?_; refine go_region ⟨_, Tryz.func21⟩ rfl ?_; refine q0 rfl (o_move ?_); refine q0 rfl (o_len ?_); refine q0 rfl (o_move ?_); refine q0 rfl (o_len ?_); refine q0 rfl (o_neI ?_); refine rg_nil ?_; refine go_condI (fun h10 => ?_) (fun h10 => ?_)
  · have c10 : (decide ((l.length : Int) ≠ (m.length : Int))) = true := h10
    try simp only [sC, bne_iff_ne, beq_iff_eq, ne_eq] at c10
    have hne : ¬ l = m := fun e => by subst e; simp at h10
    refine go_seq ?_; refine go_region ⟨_, Tryz.func21⟩ rfl ?_; refine q0 rfl (o_assign ?_); refine rg_nil ?_; refine ret1 Tryz.func21 Tryz.results21 wn_ () (by rw [decide_eq_false hne]) (fun w hs => hs.none)
  · have c10 : (decide ((l.length : Int) ≠ (m.length : Int))) = false := h10
    try simp only [sC, bne_iff_ne, beq_iff_eq, ne_eq] at c10
    have hlen : l.length = m.length := by simp at h10; omega
    refine go_skip ?_; refine go_seq ?_; refine go_seq ?_; refine go_region ⟨_, Tryz.func21⟩ rfl ?_; refine q0 rfl (o_assign ?_); refine rg_nil ?_; refine go_block ?_; refine go_loopE (X := Nat) (fun s_ => s_ ≤ l.length ∧ ∀ j, j < s_ → l.getD j cl0 = m.getD j cl0) (fun s_ => [(0, sl a_l (l.length)), (1, sl a_m (m.length)), (5, .int .i64 ((s_ : Int)))]) (fun s_ G_ => G_) (fun s_ => []) (fun s_ => l.length - s_) (0) (⟨by omega, fun j hj => by omega⟩) (by exact ⟨rfl, rfl, rfl, trivial⟩) ?_ ?_
    · exact fun w hs => hs
    · intro i base0 ⟨hi, hok⟩ next0; refine go_seq ?_; refine go_seq ?_; refine go_region ⟨_, Tryz.func21⟩ rfl ?_; refine q0 rfl (o_move ?_); refine q0 rfl (o_move ?_); refine q0 rfl (o_len ?_); refine q0 rfl (o_lss ?_); refine rg_nil ?_; refine go_condI (fun h14 => ?_) (fun h14 => ?_)
      · have c14 : (decide ((i : Int) < (l.length : Int))) = true := h14
        try simp only [sC, bne_iff_ne, beq_iff_eq, ne_eq] at c14
        refine go_skip ?_; refine go_seq ?_; refine go_block ?_; refine go_seq ?_; refine go_draw (pn := 1000000) (tn := false) (A := [0, 0, 3, 7, 0, 0, 48, 112, 255]) (l := [0, 1, 2, 3, 4, 5, 6, 7, 8]) (fin := []) Tab.mixed ⟨_, Tryz.func21⟩ (by rfl) ?_; refine n0 rfl (v_move ?_); refine n0 rfl (v_move ?_); obtain ⟨bk3, o3, hav3⟩ := hA1 (by omega); refine n0 rfl (v_ixN ?_ (j := i)); refine n0 rfl (v_ldC ?_); refine n0 rfl (v_move ?_); refine n0 rfl (v_move ?_); obtain ⟨bk4, o4, hav4⟩ := hA2 (by omega); refine n0 rfl (v_ixN ?_ (j := i)); refine n0 rfl (v_ldC ?_); refine n0 rfl (v_neC ?_ (c := (l.getD i cl0)) (c' := (m.getD i cl0))); refine NV.done ?_; refine rg_nil ?_; refine go_condI (fun h25 => ?_) (fun h25 => ?_)
        · have c25 : (!decide ((l.getD i cl0) = (m.getD i cl0))) = true := h25
          try simp only [sC, bne_iff_ne, beq_iff_eq, ne_eq] at c25
          refine go_seq ?_; refine go_region ⟨_, Tryz.func21⟩ rfl ?_; refine q0 rfl (o_assign ?_); refine rg_nil ?_; refine ret1 Tryz.func21 Tryz.results21 wn_ () (by rw [decide_eq_false (fun e => by subst e; simp at h25)]) (fun w hs => hs.none)
        · have c25 : (!decide ((l.getD i cl0) = (m.getD i cl0))) = false := h25
          try simp only [sC, bne_iff_ne, beq_iff_eq, ne_eq] at c25
          refine go_skip ?_; refine go_inBlock ?_; refine go_region ⟨_, Tryz.func21⟩ rfl ?_; refine q0 rfl (o_move ?_); refine q0 rfl (o_add ?_); refine q0 rfl (o_assign ?_); refine rg_nil ?_; have hb : l.getD i cl0 = m.getD i cl0 := by simpa using h25
          refine go_state (fun w hs => ?_) (next0 (i + 1) _ (⟨by omega, succ_inv hok hb⟩) (by omega) ⟨rfl, rfl, rfl, trivial⟩); exact (hs.less (by simp +contextual))
      · have c14 : (decide ((i : Int) < (l.length : Int))) = false := h14
        try simp only [sC, bne_iff_ne, beq_iff_eq, ne_eq] at c14
        refine go_exit rfl ?_; refine go_seq ?_; refine go_region ⟨_, Tryz.func21⟩ rfl ?_; refine q0 rfl (o_assign ?_); refine rg_nil ?_; refine ret1 Tryz.func21 Tryz.results21 wn_ () (by rw [decide_eq_true (list_eq_of hlen (fun j hj => hok j (by omega)))]) (fun w hs => hs.none)
theorem rleast (l : List Cl) (a_l : SH)  : Spec Tryz.prog 193 #[sl a_l (l.length)] [CL l a_l] [] (fun x : SH => .tuple #[sl x (leastF l).2.length, .int .i64 (leastF l).1]) (fun x : SH => [CL (leastF l).2 x]) (fun x : SH => []) := by
  refine spec_go (args := [sl a_l (l.length)]) Tryz.func193 Tryz.ntmps193 rfl (by exact Nat.le_of_ble_eq_true rfl) fun B hB => ?_
  refine go_openCL (l := l) (a := a_l) (fun hl1 hA1 hU1 => ?_); refine go_seq ?_; refine go_region ⟨_, Tryz.func193⟩ rfl ?_; refine q0 rfl (o_assign ?_); refine q0 rfl (o_assign ?_); refine rg_nil ?_; refine go_seq ?_; refine go_seq ?_; refine go_region ⟨_, Tryz.func193⟩ rfl ?_; refine q0 rfl (o_assign ?_); refine rg_nil ?_; refine go_block ?_; refine go_loopE (X := Nat) (fun s_ => s_ ≤ l.length ∧ ∀ j, j < s_ → right24 (l.getD j cl0) = true) (fun s_ => [(0, sl a_l (l.length)), (4, .int .i64 ((s_ : Int)))]) (fun s_ G_ => G_) (fun s_ => []) (fun s_ => l.length - s_) (0) (⟨by omega, fun j hj => by omega⟩) (by exact ⟨rfl, rfl, trivial⟩) ?_ ?_
  · exact fun w hs => hs
  · intro i base0 ⟨hi, hok⟩ next0; refine go_seq ?_; refine go_seq ?_; refine go_region ⟨_, Tryz.func193⟩ rfl ?_; refine q0 rfl (o_move ?_); refine q0 rfl (o_move ?_); refine q0 rfl (o_len ?_); refine q0 rfl (o_lss ?_); refine rg_nil ?_; refine go_condI (fun h11 => ?_) (fun h11 => ?_)
    · have c11 : (decide ((i : Int) < (l.length : Int))) = true := h11
      try simp only [sC, bne_iff_ne, beq_iff_eq, ne_eq] at c11
      have hu := hU1 _ (getD_mem (d := cl0) (show i < l.length by omega)); have hu1 := hu.1; have hu2 := hu.2; refine go_skip ?_; refine go_seq ?_; refine go_block ?_; refine go_seq ?_; refine go_region ⟨_, Tryz.func193⟩ rfl ?_; refine q0 rfl (o_move ?_); refine q0 rfl (o_move ?_); obtain ⟨bk2, o2, hav2⟩ := hA1 (by omega); refine q0 rfl (o_ixN ?_ (j := i)); refine q0 rfl (o_ldC ?_); refine q0 rfl (o_call Tryz.call159 (rcright (l.getD i cl0) om_) (fun x18 => ?_)); refine q0 rfl (o_not ?_); refine rg_nil ?_; refine go_condI (fun h19 => ?_) (fun h19 => ?_)
      · have c19 : (!(right24 (l.getD i cl0))) = true := h19
        try simp only [sC, bne_iff_ne, beq_iff_eq, ne_eq] at c19
        have hlf : leastF l = (2, []) := by rw [leastF, if_pos (all_false_at (d := cl0) (i := i) (by omega) (by simpa using h19))]
        refine go_seq ?_; refine go_region ⟨_, Tryz.func193⟩ rfl ?_; refine q0 rfl (o_assign ?_); refine q0 rfl (o_assign ?_); refine rg_nil ?_; refine ret2 Tryz.func193 Tryz.results193 wn_ wn_ (none, 0) (by rw [hlf]; rfl) (fun w hs => by rw [hlf]; exact (hs.nilCL 0).bare.less (by simp))
      · have c19 : (!(right24 (l.getD i cl0))) = false := h19
        try simp only [sC, bne_iff_ne, beq_iff_eq, ne_eq] at c19
        refine go_skip ?_; refine go_inBlock ?_; refine go_region ⟨_, Tryz.func193⟩ rfl ?_; refine q0 rfl (o_move ?_); refine q0 rfl (o_add ?_); refine q0 rfl (o_assign ?_); refine rg_nil ?_; have hb : right24 (l.getD i cl0) = true := by simpa using h19
        refine go_state (fun w hs => ?_) (next0 (i + 1) _ (⟨by omega, succ_inv hok hb⟩) (by omega) ⟨rfl, rfl, trivial⟩); exact (hs.less (by simp +contextual))
    · have c11 : (decide ((i : Int) < (l.length : Int))) = false := h11
      try simp only [sC, bne_iff_ne, beq_iff_eq, ne_eq] at c11
      have hall : l.all right24 = true := all_true_of (d := cl0) (fun j hj => hok j (by omega)); refine go_exit rfl ?_; refine go_seq ?_; refine go_region ⟨_, Tryz.func193⟩ rfl ?_; refine q0 rfl (o_assign ?_); refine rg_nil ?_; refine go_seq ?_; refine go_seq ?_; refine go_region ⟨_, Tryz.func193⟩ rfl ?_; refine q0 rfl (o_assign ?_); refine rg_nil ?_; refine go_block ?_; refine go_loopE (X := Nat × SH) (fun s_ => s_.1 ≤ l.length) (fun s_ => [(0, sl a_l (l.length)), (5, sl s_.2 (((rlTo l s_.1)).length)), (6, .int .i64 ((s_.1 : Int)))]) (fun s_ G_ => CL (rlTo l s_.1) s_.2 :: G_) (fun s_ => []) (fun s_ => l.length - s_.1) (0, (none, 0)) (by omega) (by exact ⟨rfl, (by rw [rlTo_zero]; rfl), rfl, trivial⟩) ?_ ?_
      · exact fun w hs => by rw [rlTo_zero]; exact hs.nilCL 0
      · intro ⟨i, a⟩ base1 hi1 next1; dsimp only at hi1 next1 ⊢; refine go_openCL (l := (rlTo l i)) (a := a) (fun hl3 hA3 hU3 => ?_); have hrl := rlTo_len l i; refine go_seq ?_; refine go_seq ?_; refine go_region ⟨_, Tryz.func193⟩ rfl ?_; refine q0 rfl (o_move ?_); refine q0 rfl (o_move ?_); refine q0 rfl (o_len ?_); refine q0 rfl (o_lss ?_); refine rg_nil ?_; refine go_condI (fun h23 => ?_) (fun h23 => ?_)
        · have c23 : (decide ((i : Int) < (l.length : Int))) = true := h23
          try simp only [sC, bne_iff_ne, beq_iff_eq, ne_eq] at c23
          have hu := hU1 _ (getD_mem (d := cl0) (show i < l.length by omega)); have hu1 := hu.1; have hu2 := hu.2; refine go_skip ?_; refine go_seq ?_; refine go_block ?_; refine go_seq ?_; refine go_seq ?_; refine go_region ⟨_, Tryz.func193⟩ rfl ?_; refine q0 rfl (o_move ?_); refine q0 rfl (o_move ?_); refine q0 rfl (o_move ?_); obtain ⟨bk4, o4, hav4⟩ := hA1 (by omega); refine q0 rfl (o_ixN ?_ (j := i)); refine q0 rfl (o_ldC ?_); refine q0 rfl (o_call Tryz.call225 (rneeded l a_l (l.getD i cl0) om_) (fun x31 => ?_)); refine q0 rfl (o_not ?_); refine rg_nil ?_; refine go_condI (fun h32 => ?_) (fun h32 => ?_)
          · have c32 : (!(!needless l (l.getD i cl0))) = true := h32
            try simp only [sC, bne_iff_ne, beq_iff_eq, ne_eq] at c32
            refine go_exit rfl ?_; refine go_region ⟨_, Tryz.func193⟩ rfl ?_; refine q0 rfl (o_move ?_); refine q0 rfl (o_add ?_); refine q0 rfl (o_assign ?_); refine rg_nil ?_; have hnx : rlTo l (i + 1) = rlTo l i := by rw [rlTo_succ (by omega), if_pos (by simpa using h32)]
            refine go_state (fun w hs => ?_) (next1 (i + 1, a) _ (by omega) (by (try simp only); omega) ⟨rfl, (by (conv => lhs; whnf); simp [sl, hnx]), rfl, trivial⟩); rw [hnx]; exact (hs.less (by simp +contextual))
          · have c32 : (!(!needless l (l.getD i cl0))) = false := h32
            try simp only [sC, bne_iff_ne, beq_iff_eq, ne_eq] at c32
            refine go_skip ?_; refine go_seq ?_; refine go_region ⟨_, Tryz.func193⟩ rfl ?_; refine q0 rfl (o_assign ?_); refine rg_nil ?_; refine go_seq ?_; refine go_block ?_; refine go_loopE (X := Nat) (fun s_ => s_ ≤ (rlTo l i).length ∧ ∀ j, j < s_ → lessC ((rlTo l i).getD j cl0) (l.getD i cl0) = true) (fun s_ => [(0, sl a_l (l.length)), (5, sl a (((rlTo l i)).length)), (6, .int .i64 ((i : Int))), (7, .int .i64 ((s_ : Int)))]) (fun s_ G_ => G_) (fun s_ => []) (fun s_ => (rlTo l i).length - s_) (0) (⟨by omega, fun j hj => by omega⟩) (by exact ⟨rfl, rfl, rfl, rfl, trivial⟩) ?_ ?_
            · exact fun w hs => hs
            · intro k base2 ⟨hk, hk2⟩ next2; have hvo : k < (rlTo l i).length → u32 ((rlTo l i).getD k cl0) := fun h => hU1 _ (rlTo_in (getD_mem h))
              refine go_seq ?_; refine go_seq ?_; refine go_cutS ([(0, sl a_l (l.length)), (5, sl a (((rlTo l i)).length)), (6, .int .i64 ((i : Int))), (7, .int .i64 ((k : Int))), (47, .bool ((decide ((k : Int) < (((rlTo l i)).length : Int))) && (lessC (((rlTo l i)).getD k cl0) (l.getD i cl0))))]) (fun hK => ?_) (fun base => ?_)
              · refine go_draw (pn := 1000000) (tn := false) (A := [0, 0, 2, 7, 15, 31, 31, 127, 255, 31, 31, 1567, 3615, 8191, 16383]) (l := [0, 1, 2, 3, 4, 5, 6, 7, 8, 9, 10, 11, 12, 13, 14]) (fin := []) Tab.mixed ⟨_, Tryz.func193⟩ (by rfl) ?_; refine n0 rfl (v_move ?_); refine n0 rfl (v_move ?_); refine n0 rfl (v_len ?_); refine n0 rfl (v_lss ?_); refine n0 rfl (v_move ?_); refine nI rfl rfl rfl wl_ (fun hg37 => ?_) (fun hg37 => ?_)
                · have g37 : (decide ((k : Int) < (((rlTo l i)).length : Int))) = true := hg37
                  try simp only [sC, bne_iff_ne, beq_iff_eq, ne_eq] at g37
                  refine v_move ?_; refine nT rfl rfl rfl (v_move ?_); obtain ⟨bk5, o5, hav5⟩ := hA3 (by omega); refine nT rfl rfl rfl (v_ixN ?_ (j := k)); refine nT rfl rfl rfl (v_ldC ?_); refine nT rfl rfl rfl (v_move ?_); refine nT rfl rfl rfl (v_move ?_); refine nT rfl rfl rfl (v_ixN ?_ (j := i)); refine nT rfl rfl rfl (v_ldC ?_); refine nT rfl rfl rfl (v_call Tryz.call226 (rless (((rlTo l i)).getD k cl0) (l.getD i cl0) om_ om_) (fun x46 => ?_)); refine n0 rfl (v_pickT ?_); refine NV.done ?_; refine rg_nil ?_; exact hK _ ⟨rfl, rfl, rfl, rfl, dn_, trivial⟩
                · have g37 : (decide ((k : Int) < (((rlTo l i)).length : Int))) = false := hg37
                  try simp only [sC, bne_iff_ne, beq_iff_eq, ne_eq] at g37
                  refine nF rfl rfl rfl ?_; refine nF rfl rfl rfl ?_; refine nF rfl rfl rfl ?_; refine nF rfl rfl rfl ?_; refine nF rfl rfl rfl ?_; refine nF rfl rfl rfl ?_; refine nF rfl rfl rfl ?_; refine nF rfl rfl rfl ?_; refine n0 rfl (v_pickF ?_); refine NV.done ?_; refine rg_nil ?_; exact hK _ ⟨rfl, rfl, rfl, rfl, dn_, trivial⟩
              · refine go_condI (fun h47 => ?_) (fun h47 => ?_)
                · have c47 : ((decide ((k : Int) < (((rlTo l i)).length : Int))) && (lessC (((rlTo l i)).getD k cl0) (l.getD i cl0))) = true := h47
                  try simp only [sC, bne_iff_ne, beq_iff_eq, ne_eq] at c47
                  refine go_skip ?_; refine go_block ?_; refine go_region ⟨_, Tryz.func193⟩ rfl ?_; refine q0 rfl (o_move ?_); refine q0 rfl (o_add ?_); refine q0 rfl (o_assign ?_); refine rg_nil ?_; refine go_inBlock ?_; refine go_state (fun w hs => ?_) (next2 (k + 1) _ (⟨by omega, succ_inv hk2 c47.2⟩) (by omega) ⟨rfl, rfl, rfl, rfl, trivial⟩); exact (hs.less (by simp +contextual))
                · have c47 : ((decide ((k : Int) < (((rlTo l i)).length : Int))) && (lessC (((rlTo l i)).getD k cl0) (l.getD i cl0))) = false := h47
                  try simp only [sC, bne_iff_ne, beq_iff_eq, ne_eq] at c47
                  have hlast : k < (rlTo l i).length → lessC ((rlTo l i).getD k cl0) (l.getD i cl0) = false := fun hlt => by simpa [hlt] using h47
                  refine go_exit rfl ?_; refine go_seq ?_; refine go_cutS ([(0, sl a_l (l.length)), (5, sl a (((rlTo l i)).length)), (6, .int .i64 ((i : Int))), (7, .int .i64 ((k : Int))), (64, .bool ((decide ((k : Int) = (((rlTo l i)).length : Int))) || (!decide ((((rlTo l i)).getD k cl0) = (l.getD i cl0)))))]) (fun hK => ?_) (fun base => ?_)
                  · refine go_draw (pn := 1000000) (tn := false) (A := [0, 0, 2, 7, 15, 31, 31, 127, 255, 31, 31, 1567, 3615, 8191, 16383]) (l := [0, 1, 2, 3, 4, 5, 6, 7, 8, 9, 10, 11, 12, 13, 14]) (fin := []) Tab.mixed ⟨_, Tryz.func193⟩ (by rfl) ?_; refine n0 rfl (v_move ?_); refine n0 rfl (v_move ?_); refine n0 rfl (v_len ?_); refine n0 rfl (v_eqI ?_); refine n0 rfl (v_move ?_); refine nI rfl rfl rfl wl_ (fun hg54 => ?_) (fun hg54 => ?_)
                    · have g54 : (decide ((k : Int) = (((rlTo l i)).length : Int))) = false := hg54
                      try simp only [sC, bne_iff_ne, beq_iff_eq, ne_eq] at g54
                      refine v_move ?_; refine nT rfl rfl rfl (v_move ?_); obtain ⟨bk6, o6, hav6⟩ := hA3 (by omega); refine nT rfl rfl rfl (v_ixN ?_ (j := k)); refine nT rfl rfl rfl (v_ldC ?_); refine nT rfl rfl rfl (v_move ?_); refine nT rfl rfl rfl (v_move ?_); refine nT rfl rfl rfl (v_ixN ?_ (j := i)); refine nT rfl rfl rfl (v_ldC ?_); refine nT rfl rfl rfl (v_neC ?_ (c := (((rlTo l i)).getD k cl0)) (c' := (l.getD i cl0))); refine n0 rfl (v_pickF ?_); refine NV.done ?_; refine rg_nil ?_; exact hK _ ⟨rfl, rfl, rfl, rfl, dn_, trivial⟩
                    · have g54 : (decide ((k : Int) = (((rlTo l i)).length : Int))) = true := hg54
                      try simp only [sC, bne_iff_ne, beq_iff_eq, ne_eq] at g54
                      refine nF rfl rfl rfl ?_; refine nF rfl rfl rfl ?_; refine nF rfl rfl rfl ?_; refine nF rfl rfl rfl ?_; refine nF rfl rfl rfl ?_; refine nF rfl rfl rfl ?_; refine nF rfl rfl rfl ?_; refine nF rfl rfl rfl ?_; refine n0 rfl (v_pickT ?_); refine NV.done ?_; refine rg_nil ?_; exact hK _ ⟨rfl, rfl, rfl, rfl, dn_, trivial⟩
                  · refine go_condI (fun h64 => ?_) (fun h64 => ?_)
                    · have c64 : ((decide ((k : Int) = (((rlTo l i)).length : Int))) || (!decide ((((rlTo l i)).getD k cl0) = (l.getD i cl0)))) = true := h64
                      try simp only [sC, bne_iff_ne, beq_iff_eq, ne_eq] at c64
                      have hcase : ¬ (k < (rlTo l i).length ∧ (rlTo l i).getD k cl0 = l.getD i cl0) := by rintro ⟨h1, h2⟩; rcases c64 with h3 | h3; omega; exact h3 h2
                      refine go_state (fun w hs => (hs.takeCL (l := rlTo l i) (a := a) k (by simp) (by omega))) ?_; refine go_state (fun w hs => (hs.dropCL (l := rlTo l i) (a := a) k (by simp) (by omega))) ?_; refine go_know (p := (rlTo l i).length ≤ a.2) (fun w hs => hs.capCL (by simp)) (fun hcap => ?_); have htl : ((rlTo l i).take k).length = k := by simp; omega
                      have hdl : ((rlTo l i).drop k).length = (rlTo l i).length - k := by simp
                      refine go_draw (pn := 1000000) (tn := true) (A := [0, 0, 0, 6, 15, 0, 0, 96, 224, 480, 1023, 0, 0, 6144, 16383, 32767]) (l := [1, 2, 3, 5, 6, 7, 8, 11, 12, 13, 0, 4, 9, 10, 14, 15]) (fin := []) Tab.mixed ⟨_, Tryz.func193⟩ (by rfl) ?_; refine n0 rfl (v_move ?_); refine n0 rfl (v_move ?_); refine n0 rfl (v_sliceHi ?_ (k := k)); refine n0 rfl (v_move ?_); refine n0 rfl (v_move ?_); refine n0 rfl (v_ixN ?_ (j := i)); refine n0 rfl (f_ldC ?_); refine n0 rfl (v_move ?_); refine n0 rfl (v_move ?_); refine n0 rfl (v_sliceLo ?_ (k := k) (a := a)); refine n0 rfl (v_lit0 fun b65 => ?_); refine nv_conv [_] [_] (fun _ _ _ hs => hs.boxRow (sz := 2) (m := 0) rfl (by decide)) ?_; refine n0 rfl (t_appCL (fun a69 => ?_) (by simp) (a := (some ⟨b65, 0, none⟩, 0)) (n' := 0) (b := a) (ls := ((rlTo l i).take k)) (hy := (by rw [List.length_take, Nat.min_eq_left (by omega)]; rfl))); refine nv_conv [_] [_] (fun _ _ _ hs => hs.appFlatC (l := []) (m := ((rlTo l i).take k))) ?_; refine n0 rfl (v_lit1 fun b74 => ?_); refine n0 rfl (t_appS (fun a75 => ?_) (a := a69) (n' := 0 + ((rlTo l i).take k).length)); refine nv_conv [_, _] [_] (fun _ _ _ hs => ((hs.perm perm1).drop).snocC (c := (l.getD i cl0))) ?_; refine n0 rfl (t_appCL (fun a79 => ?_) (by simp) (a := a75) (n' := 0 + ((rlTo l i).take k).length + 1) (b := (dropSH a 2 k)) (ls := ((rlTo l i).drop k)) (hy := (by rw [List.length_drop]; rfl))); refine nv_conv [_] [_] (fun _ _ _ hs => hs.appFlatC (l := (([] ++ ((rlTo l i).take k)) ++ [(l.getD i cl0)])) (m := ((rlTo l i).drop k))) ?_; refine n0 rfl (v_assign ?_); refine NV.done ?_; refine rg_nil ?_; refine go_inBlock ?_; refine go_region ⟨_, Tryz.func193⟩ rfl ?_; refine q0 rfl (o_move ?_); refine q0 rfl (o_add ?_); refine q0 rfl (o_assign ?_); refine rg_nil ?_; have hnx : rlTo l (i + 1) = (rlTo l i).take k ++ [l.getD i cl0] ++ (rlTo l i).drop k := by rw [rlTo_succ (by omega), if_neg (by simpa using h32), insC_at (k := k) (by omega) hk2 hlast, if_neg hcase]
                      have hnl := rlTo_len l (i + 1); have hll : (rlTo l (i + 1)).length = 0 + ((rlTo l i).take k).length + 1 + ((rlTo l i).drop k).length := by rw [hnx]; simp; omega
                      refine go_state (fun w hs => ?_) (next1 (i + 1, a79) _ (by omega) (by (try simp only); omega) ⟨rfl, (by (conv => lhs; whnf); rw [hll]; rfl), rfl, trivial⟩); refine ((hs.settleCL (l := rlTo l (i + 1)) hB (by rw [hnx]; simp) (by rw [hll]) (by unfold reach at *; omega) (fun c hc => hU1 c (rlTo_in hc))).less (by simp +contextual))
                    · have c64 : ((decide ((k : Int) = (((rlTo l i)).length : Int))) || (!decide ((((rlTo l i)).getD k cl0) = (l.getD i cl0)))) = false := h64
                      try simp only [sC, bne_iff_ne, beq_iff_eq, ne_eq] at c64
                      have hcase : k < (rlTo l i).length ∧ (rlTo l i).getD k cl0 = l.getD i cl0 := by have h9 := h64; simp at h9; exact ⟨by omega, h9.2⟩
                      refine go_skip ?_; refine go_inBlock ?_; refine go_region ⟨_, Tryz.func193⟩ rfl ?_; refine q0 rfl (o_move ?_); refine q0 rfl (o_add ?_); refine q0 rfl (o_assign ?_); refine rg_nil ?_; have hnx : rlTo l (i + 1) = rlTo l i := by rw [rlTo_succ (by omega), if_neg (by simpa using h32), insC_at (k := k) (by omega) hk2 hlast, if_pos hcase]
                      refine go_state (fun w hs => ?_) (next1 (i + 1, a) _ (by omega) (by (try simp only); omega) ⟨rfl, (by (conv => lhs; whnf); simp [sl, hnx]), rfl, trivial⟩); rw [hnx]; exact (hs.less (by simp +contextual))
        · have c23 : (decide ((i : Int) < (l.length : Int))) = false := h23
          try simp only [sC, bne_iff_ne, beq_iff_eq, ne_eq] at c23
          have he : i = l.length := by omega
          have hrw : rlTo l i = refLeast l := by rw [he, rlTo_all]
          refine go_exit rfl ?_; refine go_seq ?_; refine go_seq ?_; refine go_region ⟨_, Tryz.func193⟩ rfl ?_; refine q0 rfl (o_move ?_); refine q0 rfl (o_len ?_); refine q0 rfl (o_gtr ?_); refine rg_nil ?_; refine go_condI (fun h82 => ?_) (fun h82 => ?_)
          · have c82 : (decide (64 < (((rlTo l i)).length : Int))) = true := h82
            try simp only [sC, bne_iff_ne, beq_iff_eq, ne_eq] at c82
            have hlf : leastF l = (3, []) := by rw [leastF, if_neg (by rw [hall]; decide), if_pos (by rw [← hrw]; omega)]
            refine go_seq ?_; refine go_region ⟨_, Tryz.func193⟩ rfl ?_; refine q0 rfl (o_assign ?_); refine q0 rfl (o_assign ?_); refine rg_nil ?_; refine ret2 Tryz.func193 Tryz.results193 wn_ wn_ (none, 0) (by rw [hlf]; rfl) (fun w hs => by rw [hlf]; exact (hs.nilCL 0).bare.less (by simp))
          · have c82 : (decide (64 < (((rlTo l i)).length : Int))) = false := h82
            try simp only [sC, bne_iff_ne, beq_iff_eq, ne_eq] at c82
            have hlf : leastF l = (0, refLeast l) := by rw [leastF, if_neg (by rw [hall]; decide), if_neg (by rw [← hrw]; omega)]
            refine go_skip ?_; refine go_seq ?_; refine go_region ⟨_, Tryz.func193⟩ rfl ?_; refine q0 rfl (o_move ?_); refine q0 rfl (o_assign ?_); refine q0 rfl (o_assign ?_); refine rg_nil ?_; refine ret2 Tryz.func193 Tryz.results193 wn_ wn_ a (by rw [hlf, ← hrw]; rfl) (fun w hs => by rw [hlf, ← hrw]; exact hs.bare.less (by simp))
theorem rfright (l : List Cl) (a_l : SH)  : Spec Tryz.prog 149 #[sl a_l (l.length)] [CL l a_l] [] (fun _ : Unit => .bool ((fRight l))) (fun _ : Unit => []) (fun _ : Unit => []) := by
  refine spec_go (args := [sl a_l (l.length)]) Tryz.func149 Tryz.ntmps149 rfl (by exact Nat.le_of_ble_eq_true rfl) fun B hB => ?_
  refine go_openCL (l := l) (a := a_l) (fun hl1 hA1 hU1 => ?_); refine go_seq ?_; refine go_region ⟨_, Tryz.func149⟩ rfl ?_; refine q0 rfl (o_assign ?_); refine rg_nil ?_; refine go_seq ?_; refine go_region ⟨_, Tryz.func149⟩ rfl ?_; refine q0 rfl (o_move ?_); refine q0 rfl (o_call Tryz.call193 (rleast l a_l ) (fun x7 => ?_)); refine q0 rfl (o_move ?_); refine q0 rfl (o_extract ?_); refine q0 rfl (o_extract ?_); refine q0 rfl (o_assign ?_); refine q0 rfl (o_assign ?_); refine rg_nil ?_; refine go_seq ?_; refine go_cutS ([(2, .bool ((decide (((leastF l).1) = 0)) && (decide (((leastF l).2) = l))))]) (fun hK => ?_) (fun base => ?_)
  · refine go_region ⟨_, Tryz.func149⟩ rfl ?_; refine q0 rfl (o_move ?_); refine q0 rfl (o_eqI ?_); refine q0 rfl (o_move ?_); refine qI rfl rfl rfl wl_ (fun hg12 => ?_) (fun hg12 => ?_)
    · have g12 : (decide (((leastF l).1) = 0)) = true := hg12
      try simp only [sC, bne_iff_ne, beq_iff_eq, ne_eq] at g12
      refine o_move ?_; refine qT rfl rfl rfl (o_move ?_); refine qT rfl rfl rfl (o_call Tryz.call21 (rsameC ((leastF l).2) x7 l a_l ) (fun x15 => ?_)); refine q0 rfl (o_pickT ?_); refine q0 rfl (o_assign ?_); refine rg_nil ?_; exact hK _ ⟨dn_, trivial⟩
    · have g12 : (decide (((leastF l).1) = 0)) = false := hg12
      try simp only [sC, bne_iff_ne, beq_iff_eq, ne_eq] at g12
      refine qF rfl rfl rfl ?_; refine qF rfl rfl rfl ?_; refine q0 rfl (o_pickF ?_); refine q0 rfl (o_assign ?_); refine rg_nil ?_; exact hK _ ⟨dn_, trivial⟩
  · refine ret1 Tryz.func149 Tryz.results149 wn_ () (by rw [← leastF_right]) (fun w hs => hs.none)
theorem rfaceright (l : List Cl) (a_l : SH)  : Spec Tryz.prog 134 #[sl a_l (l.length)] [CL l a_l] [] (fun _ : Unit => .bool ((faceRight l))) (fun _ : Unit => []) (fun _ : Unit => []) := by
  refine spec_go (args := [sl a_l (l.length)]) Tryz.func134 Tryz.ntmps134 rfl (by exact Nat.le_of_ble_eq_true rfl) fun B hB => ?_
  refine go_openCL (l := l) (a := a_l) (fun hl1 hA1 hU1 => ?_); refine go_seq ?_; refine go_region ⟨_, Tryz.func134⟩ rfl ?_; refine q0 rfl (o_assign ?_); refine rg_nil ?_; refine go_seq ?_; refine go_seq ?_; refine go_region ⟨_, Tryz.func134⟩ rfl ?_; refine q0 rfl (o_move ?_); refine q0 rfl (o_call Tryz.call149 (rfright l a_l ) (fun x5 => ?_)); refine q0 rfl (o_not ?_); refine rg_nil ?_; refine go_condI (fun h6 => ?_) (fun h6 => ?_)
  · have c6 : (!(fRight l)) = true := h6
    try simp only [sC, bne_iff_ne, beq_iff_eq, ne_eq] at c6
    refine go_seq ?_; refine go_region ⟨_, Tryz.func134⟩ rfl ?_; refine q0 rfl (o_assign ?_); refine rg_nil ?_; refine ret1 Tryz.func134 Tryz.results134 wn_ () (by rw [faceRight, show fRight l = false by simpa using h6]; rfl) (fun w hs => hs.none)
  · have c6 : (!(fRight l)) = false := h6
    try simp only [sC, bne_iff_ne, beq_iff_eq, ne_eq] at c6
    have hfr : fRight l = true := by simpa using h6
    have hal : l.all right24 = true := by unfold fRight at hfr; simp only [Bool.and_eq_true] at hfr; exact hfr.1.1.1
    refine go_skip ?_; refine go_seq ?_; refine go_seq ?_; refine go_region ⟨_, Tryz.func134⟩ rfl ?_; refine q0 rfl (o_assign ?_); refine rg_nil ?_; refine go_block ?_; refine go_loopE (X := Nat) (fun s_ => s_ ≤ l.length ∧ ∀ j, j < s_ → clash (l.getD j cl0) = false) (fun s_ => [(0, sl a_l (l.length)), (3, .int .i64 ((s_ : Int)))]) (fun s_ G_ => G_) (fun s_ => []) (fun s_ => l.length - s_) (0) (⟨by omega, fun j hj => by omega⟩) (by exact ⟨rfl, rfl, trivial⟩) ?_ ?_
    · exact fun w hs => hs
    · intro i base0 ⟨hi, hok⟩ next0; refine go_seq ?_; refine go_seq ?_; refine go_region ⟨_, Tryz.func134⟩ rfl ?_; refine q0 rfl (o_move ?_); refine q0 rfl (o_move ?_); refine q0 rfl (o_len ?_); refine q0 rfl (o_lss ?_); refine rg_nil ?_; refine go_condI (fun h10 => ?_) (fun h10 => ?_)
      · have c10 : (decide ((i : Int) < (l.length : Int))) = true := h10
        try simp only [sC, bne_iff_ne, beq_iff_eq, ne_eq] at c10
        have hu := hU1 _ (getD_mem (d := cl0) (show i < l.length by omega)); have hu1 := hu.1; have hu2 := hu.2; have hr24 : right24 (l.getD i cl0) = true := List.all_eq_true.mp hal _ (getD_mem (by omega)); refine go_skip ?_; refine go_seq ?_; refine go_block ?_; refine go_seq ?_; refine go_region ⟨_, Tryz.func134⟩ rfl ?_; refine q0 rfl (o_move ?_); refine q0 rfl (o_move ?_); obtain ⟨bk2, o2, hav2⟩ := hA1 (by omega); refine q0 rfl (o_ixN ?_ (j := i)); refine q0 rfl (o_ldC ?_); refine q0 rfl (o_call Tryz.call160 (rclash_spec (l.getD i cl0) om_) (fun x17 => ?_)); refine rg_nil ?_; refine go_condI (fun h17 => ?_) (fun h17 => ?_)
        · have c17 : ((rclash (l.getD i cl0))) = true := h17
          try simp only [sC, bne_iff_ne, beq_iff_eq, ne_eq] at c17
          refine go_seq ?_; refine go_region ⟨_, Tryz.func134⟩ rfl ?_; refine q0 rfl (o_assign ?_); refine rg_nil ?_; have hb : clash (l.getD i cl0) = true := by rw [← rclash_eq hr24]; simpa using h17
          refine ret1 Tryz.func134 Tryz.results134 wn_ () (by rw [faceRight, any_true_at (d := cl0) (i := i) (by omega) hb]; simp) (fun w hs => hs.none)
        · have c17 : ((rclash (l.getD i cl0))) = false := h17
          try simp only [sC, bne_iff_ne, beq_iff_eq, ne_eq] at c17
          refine go_skip ?_; refine go_inBlock ?_; refine go_region ⟨_, Tryz.func134⟩ rfl ?_; refine q0 rfl (o_move ?_); refine q0 rfl (o_add ?_); refine q0 rfl (o_assign ?_); refine rg_nil ?_; have hb : clash (l.getD i cl0) = false := by rw [← rclash_eq hr24]; simpa using h17
          refine go_state (fun w hs => ?_) (next0 (i + 1) _ (⟨by omega, succ_inv hok hb⟩) (by omega) ⟨rfl, rfl, trivial⟩); exact (hs.less (by simp +contextual))
      · have c10 : (decide ((i : Int) < (l.length : Int))) = false := h10
        try simp only [sC, bne_iff_ne, beq_iff_eq, ne_eq] at c10
        refine go_exit rfl ?_; refine go_seq ?_; refine go_region ⟨_, Tryz.func134⟩ rfl ?_; refine q0 rfl (o_assign ?_); refine rg_nil ?_; refine ret1 Tryz.func134 Tryz.results134 wn_ () (by rw [faceRight, hfr, any_false_of (d := cl0) (fun j hj => hok j (by omega))]; rfl) (fun w hs => hs.none)
end Go.Hy
namespace Go.Hy
open Go.Proofs
set_option maxRecDepth 100000
attribute [local go_sem] Oper.semAt_some
open Go.RowKit Go.Shelf
set_option maxHeartbeats 1000000
theorem tz32 (F : Fence) (n : Nat) (hF : F.fn 209) (hro : F.round = none) (r : Nat) (k idx : Nat) (hk : k < 24) (h0 : ((r : Int) == 0) = false)
    (key : bits BinOp.and IntKind.u32 (r : Int) (-(r : Int) % 4294967296) * 125613361 % 4294967296 / 134217728 = (idx : Int)) (hi : idx < 32) (W : World) (hc : W.cell? ⟨0, idx, none⟩ = some (.int .u8 (k : Int))) :
    CallsIn F n Tryz.prog 209 #[.int .u32 (r : Int)] W fun e w' => e = .returned (.int .i64 (k : Int)) ∧ w' = W := by
  refine callsIn_of_wp Tryz.func209 rfl hF ?_ hro; simp only [Tryz.ntmps209, List.size_toArray, List.length_cons, List.length_nil, Nat.reduceAdd, Nat.reduceSub, Array.replicate_succ, Array.replicate_zero, List.push_toArray, List.append_toArray, List.nil_append, List.cons_append]
  gi_wp2_with (simp only [key])
  go_ret
  exact ⟨rfl, rfl⟩
theorem tz32' (F : Fence) (n : Nat) (hF : F.fn 209) (hro : F.round = none) (r : Nat) (h0 : ¬ r = 0) (hr : r < 16777216) (W : World) (hT : TabAt 0 Lib.deBruijn32tab W) :
    CallsIn F n Tryz.prog 209 #[.int .u32 (r : Int)] W fun e w' => e = .returned (.int .i64 (Lib.ctz 32 r : Int)) ∧ w' = W := by
  obtain ⟨hlow, hk⟩ := Lib.lowest_bit 32 r h0 (by omega); obtain ⟨hi, htab⟩ := Lib.deBruijn32_at _ hk; have hcell := hT _ hi; rw [htab] at hcell; exact tz32 F n hF hro r _ _ (listM_low h0 hr).1 (by simp; omega) (tz32_key r _ (by omega) h0 hlow) hi W hcell
theorem in1 (F : Fence) (n : Nat) (h208 : F.fn 208) (h209 : F.fn 209) (hro : F.round = none) (hn : 1 ≤ n) (l g : Nat) (s : Nat) (J : List Int → World → Prop)
    (hY : ∀ pre x W, J pre W → pre.length < 24 → (0 ≤ x ∧ x < 24) → YieldAt F (n - 1) Tryz.prog l #[.int .i64 x] W fun e W' => e = .returned (.bool true) ∧ J (pre ++ [x]) W' ∧ W'.heap[g]? = W.heap[g]?)
    (hT : ∀ pre W, J pre W → TabAt 0 Lib.deBruijn32tab W)
    (hJ : ∀ pre W v, J pre W → J pre (W.setCell ⟨g, 0, none⟩ v))
    (hs : s < 4294967296) (W : World) (hg : Boxed W g 43 (.int .u32 (s : Int))) (h0 : J [] W) :
    CallsIn F n Tryz.prog 208 #[.func (.yield l) #[] #[], .pointer (some ⟨g, 0, none⟩)] W fun e W' => (∃ v, e = .returned v) ∧ J (listM s) W' := by
  refine callsIn_of_wp Tryz.func208 rfl h208 ?_ hro; simp only [Tryz.ntmps208, List.size_toArray, List.length_cons, List.length_nil, Nat.reduceAdd, Nat.reduceSub, Array.replicate_succ, Array.replicate_zero, List.push_toArray, List.append_toArray, List.nil_append, List.cons_append]; have hc := hg.cell; have hf := hg.frozen
  gi_wp2
  gi_loopw [] (fun wr => ∃ (pre : List Int) (r : Nat), listM s = pre ++ listM r ∧ r < 16777216 ∧ Boxed wr g 43 (.int .u32 (r : Int)) ∧ J pre wr)
    (fun wr => match wr.cell? ⟨g, 0, none⟩ with | some (.int _ v) => v.toNat | _ => 0)
  case atStart =>
    refine ⟨[], s &&& 16777215, by rw [List.nil_append, listM_and], by rw [and24]; exact Nat.mod_lt _ (by decide), ?_, hJ _ _ _ h0⟩; rw [← bits_and_u32_nat s 16777215 hs (by decide)]; exact hg.set _
  case round =>
    obtain ⟨pre, r, hx, hr, hb, hj⟩ := hrel; have hc2 := hb.cell; have hf2 := hb.frozen; by_cases hr0 : r = 0
    · subst hr0
      gi_wp2
      go_end0
      exact ⟨⟨_, rfl⟩, by rw [hx, show listM 0 = [] from by decide, List.append_nil]; exact hj⟩
    · obtain ⟨hk, hlist⟩ := listM_low hr0 hr
      have hlen : pre.length < 24 := by
        have h1 := congrArg List.length hx; have h2 : (listM s).length ≤ 24 := listTo_len s 24; rw [List.length_append, hlist, List.length_cons] at h1; omega
      obtain ⟨fn, tmps, assign, body, hy, hR⟩ := hY pre (Lib.ctz 32 r : Int) wr hj hlen (by omega); have hbe : ((r : Int) != 0) = true := by simp; omega
      gi_wp2_with (gi_at_call 209; refine (tz32' F (n - 1) h209 hro r hr0 hr wr (hT _ _ hj)).mono ?_; rintro e w' ⟨rfl, rfl⟩)
      refine hR.mono ?_; rintro e W3 ⟨rfl, hJ3, hg3⟩; have hb3 : Boxed W3 g 43 (.int .u32 (r : Int)) := hg3.trans hb; have hc3 := hb3.cell; have hf3 := hb3.frozen
      gi_wp2
      have e1 : bits BinOp.and IntKind.u32 (r : Int) ((r : Int) - 1) = ((r &&& (r - 1) : Nat) : Int) := by
        rw [show (r : Int) - 1 = ((r - 1 : Nat) : Int) by omega]; exact bits_and_u32_nat r (r - 1) (by omega) (by omega)
      rw [e1]; have hb4 := hb3.set (.int .u32 ((r &&& (r - 1) : Nat) : Int)); have hlt := low_lt hr0
      go_roundw
      case rel => exact ⟨pre ++ [(Lib.ctz 32 r : Int)], r &&& (r - 1), by rw [hx, hlist, List.append_assoc]; rfl, by omega, hb4, hJ _ _ _ hJ3⟩
      case measure =>
        rw [hb4.cell, hc2]; simp only [Int.toNat_natCast]; exact hlt
theorem mk_in (F : Fence) (n : Nat) (h : F.fn 156) (hro : F.round = none) (s : Nat) (w : World) :
    CallsIn F n Tryz.prog 156 #[.int .u32 (s : Int)] w fun e w' => e = .returned (.func (.func 208) #[] #[.pointer (some ⟨w.heap.size, 0, none⟩)]) ∧ w' = w.alloc (.cells #[.int .u32 (s : Int)] 43) := by
  refine callsIn_of_wp Tryz.func156 rfl h ?_ hro; simp only [Tryz.ntmps156, List.size_toArray, List.length_cons, List.length_nil, Nat.reduceAdd, Nat.reduceSub, Array.replicate_succ, Array.replicate_zero, List.push_toArray, List.append_toArray, List.nil_append, List.cons_append]
  gi_wp2
  go_ret
  exact ⟨rfl, rfl⟩
theorem infoInt : (Tryz.prog.info? 3).map (fun i => (i.zero, i.size, i.bytes)) = some (some (.int .i64 0), 1, 8) := by kernel_rfl
theorem list_in (F : Fence) (n : Nat) (h81 : F.fn 81) (h156 : F.fn 156) (h208 : F.fn 208) (h209 : F.fn 209) (hro : F.round = none) (hn : 3 ≤ n) (s : Nat) (hs : s < 4294967296) (w : World) (hw : 0 < w.heap.size) (hT : TabAt 0 Lib.deBruijn32tab w) :
    CallsIn F n Tryz.prog 81 #[.int .u32 (s : Int)] w fun e W' => ∃ v, e = .returned v ∧ W'.ownsRow w.heap.size 3 1 v (listM s).length ((listM s).map (Value.int .i64)) ∧ Below w.heap.size w W' := by
  have h1 : 1 ≤ n := by omega
  obtain ⟨i0, hi, hz0, hz1, hz2⟩ := info_parts infoInt; refine callsIn_of_wp_marks Tryz.func81 rfl h81 ?_ hro; simp only [Tryz.ntmps81, List.size_toArray, List.length_cons, List.length_nil, Nat.reduceAdd, Nat.reduceSub, Array.replicate_succ, Array.replicate_zero, List.push_toArray, List.append_toArray, List.nil_append, List.cons_append]
  gi_wp2_with (gi_at_call 156; refine (mk_in F (n - 1) h156 hro _ _).mono ?_; rintro e w' ⟨rfl, rfl⟩)
  obtain ⟨w2, hw2⟩ : ∃ w2, (w.alloc (.cells #[.slice none 0 0] 117)).alloc (.cells #[.int .u32 (s : Int)] 43) = w2 := ⟨_, rfl⟩; have bO : Boxed w2 w.heap.size 117 (.slice none 0 0) := by rw [← hw2]; exact (Boxed.new w 117 (.slice none 0 0)).alloc _
  have bS : Boxed w2 (w.heap.size + 1) 43 (.int .u32 (s : Int)) := by rw [← hw2]; have := Boxed.new (w.alloc (.cells #[.slice none 0 0] 117)) 43 (.int .u32 (s : Int)); rwa [World.size_alloc] at this
  have hsz2 : w2.heap.size = w.heap.size + 2 := by rw [← hw2]; simp
  have hB2 : Below w.heap.size w w2 := by rw [← hw2]; exact ((Below.refl _ w).alloc (Nat.le_refl _) _).alloc (by simp) _
  have hrw : ∀ {A B : World}, B.heap[w.heap.size + 1]? = A.heap[w.heap.size + 1]? → ∀ u, Boxed A (w.heap.size + 1) 43 u → Boxed B (w.heap.size + 1) 43 u := fun h u hu => h.trans hu
  simp only [World.size_alloc, hw2]
  refine range_all hro h1 (gf := 208) (lb := #[.pointer (some ⟨w.heap.size + 1, 0, none⟩)]) rfl h208 (enters_of Tryz.func208 (by kernel_rfl) rfl) (encs := fun x : Int => #[Value.int .i64 x]) (fun _ => rfl)
    (fun pre W => (∃ v, Boxed W w.heap.size 117 v ∧ W.ownsRow w.heap.size 3 1 v pre.length (pre.map (Value.int .i64))) ∧ (∃ u, Boxed W (w.heap.size + 1) 43 u) ∧ Below w.heap.size w W)
    (fun pre x => pre.length < 24 ∧ (0 ≤ x ∧ x < 24)) (fun W W' => W'.heap[w.heap.size + 1]? = W.heap[w.heap.size + 1]?)
    ?ip ?ia ⟨⟨_, bO, World.ownsRow_nil _ _ _ _⟩, ⟨_, bS⟩, hB2⟩ (fun h k => k.trans h) ?kp (listM s) ?it
    (fun x => { tmps := #[.int .u32 (s : Int), undef, .slice none 0 0, .pointer (some ⟨w.heap.size, 0, none⟩), .int .i64 x, .int .u32 (s : Int), .func (.func 208) #[] #[.pointer (some ⟨w.heap.size + 1, 0, none⟩)], .int .i64 x, undef, undef, undef, undef, undef], defers := [] }) ?assign ?body ?done
  case ip =>
    rintro pre A l o o0 ⟨⟨v, hv, hr⟩, ⟨u, hu⟩, hB⟩ hl hc hle; refine ⟨⟨v, (World.putObj_heap_other (by omega)).trans hv, ownsRow_putObj hr o hl hc⟩, ⟨u, (World.putObj_heap_other (by omega)).trans hu⟩, hB.trans ⟨rfl, rfl, rfl, by simp, fun k hk => World.putObj_heap_other (by omega)⟩⟩
  case ia =>
    rintro pre A o ⟨⟨v, hv, hr⟩, ⟨u, hu⟩, hB⟩ hle; exact ⟨⟨v, hv.alloc o, hr.kept (World.grownBy_alloc A o none) (by rcases hr.2 with ⟨rfl, _⟩ | ⟨g, cap, cur, rfl, _⟩; exact .inl rfl; exact .inr (by simp [Value.ownBlock]))⟩, ⟨u, hu.alloc o⟩, hB.alloc (by omega) o⟩
  case kp =>
    intro A l o o0 hl hc hle; exact World.putObj_heap_other (by omega)
  case it =>
    intro l J W1 hJI hJk hY h0 hk1; refine in1 F (n - 1) h208 h209 hro (by omega) l (w.heap.size + 1) s J (fun pre x W hj hl hx => hY pre x W hj ⟨hl, hx⟩) (fun pre W hj => ?_) (fun pre W v hj => ?_) hs W1 ?_ h0
    · intro i hi; exact ((hJI _ _ hj).2.2.cell (p := ⟨0, i, none⟩) hw).trans (hT i hi)
    · obtain ⟨⟨v0, hv0, hr⟩, ⟨u, hu⟩, hB⟩ := hJI _ _ hj; refine hJk pre W _ hj ⟨⟨v0, hv0.other (by omega) v, hr.kept (grownBy_setCell' W (w.heap.size + 1) v) (.inr (hu.not_row (by decide) hr).symm)⟩, ⟨_, hu.set v⟩, hB.setCell (p := ⟨w.heap.size + 1, 0, none⟩) (by simp) v⟩ (fun k o hk ho => (KeepsOthers.setCell W _ v).same k o hk ho)
    · exact (hk1 _ (by omega)).trans bS
  case assign =>
    intro l x W K hK
    gi_wp2
    exact hK
  case body =>
    rintro l pre x W ⟨⟨v, hv, hrow⟩, ⟨u, hu⟩, hB⟩ ⟨hlt, hx⟩; have hc := hv.cell
    gi_wp2_with (gi_at_builtin; refine wpListIn_append_own _ rfl _ _ 117 rfl w.heap.size 3 i0 (.int .i64 0) 1 8 Tryz.underlying117 hi hz0 hz1 hz2 rfl (by decide) _ _ _ rfl (hrow.alloc _) ⟨W.heap.size, 0, none⟩ 1 1 [.int .i64 x] rfl rfl (cell_one_new _ _ _) (by simp [Value.oneCell']) (by unfold maxLen; omega) (by omega) (by have := hB.size; simp; omega) ?_; intro v' w1 hown' hgrow _; obtain ⟨g', cap', rfl⟩ := ownsRow_succ hown'; obtain ⟨hv1, hv2, hr2, hk2, hb2⟩ := hv.appended (by decide) hrow hB.size (Nat.le_refl _) hown' hgrow; have hc1 := hv1.cell; have hf1 := hv1.frozen)
    have hu1 := ((hu.alloc (.cells #[.int .i64 x] 3)).kept hgrow (hu.not_row (by decide) hrow)).other (B' := w.heap.size) (by omega) (.slice (some ⟨g', 0, none⟩) (pre.length + 1) cap'); exact ⟨hu1.trans hu.symm, ⟨_, hv2, by simpa using hr2⟩, ⟨u, hu1⟩, hB.trans hb2⟩
  case done =>
    rintro D W hD ⟨⟨v, hv, hrow⟩, _, hB⟩ hK; have hc := hv.cell
    gi_wp2
    refine ⟨by simp, .inl ⟨_, _, rfl, run_takeDeferred hK, ?_⟩⟩; exact ⟨_, results_tmp rfl _ _ _, v, rfl, ownsRow_putObj hrow _ hK rfl, hB.trans ⟨rfl, rfl, rfl, by simp, fun k hk => World.putObj_heap_other (by omega)⟩⟩
abbrev DBF : Fact := At 0 0 (Lib.deBruijn32tab.map fun (v : Nat) => Value.int .u8 (v : Int))
theorem tab_of {ok : Nat → Prop} {w : World} (h : DBF.f ok w) (hk : ∀ b, ok b → b < w.heap.size) : TabAt 0 Lib.deBruijn32tab w ∧ 0 < w.heap.size := by
  refine ⟨fun j hj => ?_, hk _ h.1⟩; have h1 := h.2 j (.int .u8 (Lib.deBruijn32tab.getD j 0 : Nat)) (by rw [List.getElem?_map, List.getD_eq_getElem?_getD, List.getElem?_eq_getElem hj]; rfl)
  rwa [Nat.zero_add] at h1
theorem maskListO (s : Nat) (hs : s < 4294967296) : Spec Tryz.prog 81 #[.int .u32 (s : Int)] [DBF] [] (fun x : SH => sl x (listM s).length) (fun _ => []) (fun x => [rowS 1 3 x (listM s).length (intFlat (listM s))]) := fun ok w hok hst => by
  obtain ⟨hT, hw⟩ := tab_of (hst.facts DBF List.mem_cons_self) (fun b hb => hb.2.1); refine (callsIn_wide.mp (list_in Fence.wide 3 trivial trivial trivial trivial rfl (Nat.le_refl _) s hs w hw hT)).mono fun e w' hh => ?_
  obtain ⟨v, rfl, hrow, hB⟩ := hh; obtain ⟨a, rfl⟩ := owns_sh hrow
  have hrow0 : w'.ownsRow 0 3 1 (sl a (listM s).length) (listM s).length (intFlat (listM s)) := by
    have h1 : w'.ownsRow 0 3 1 (sl a (listM s).length) (listM s).length ((listM s).map (Value.int .i64)) := ⟨hrow.1, hrow.2.imp id (fun ⟨g, cap, cur, q1, q2, q3⟩ => ⟨g, cap, cur, q1, Nat.zero_le _, q3⟩)⟩
    rwa [show (listM s).map (Value.int .i64) = intFlat (listM s) from by induction (listM s) with | nil => rfl | cons y ys ih => (simp only [List.map_cons, intFlat, List.flatMap_cons, intCells, List.singleton_append] at ih ⊢; rw [ih])] at h1
  refine ⟨a, rfl, ⟨hB.os, hB.tape, hB.output, hB.size, fun b hb _ => hB.block b hb⟩, fun _ hF => (by cases hF), ?_, ?_, List.pairwise_singleton _ _⟩
  · intro m hm w2 hw2; rw [List.mem_singleton] at hm; subst hm; exact rowR_keeps hrow0 (fun b hb => hw2 b hb)
  · intro m hm b hb; rw [List.mem_singleton] at hm; subst hm; have := hrow.lt b hb; exact ⟨this.2, .inr this.1⟩
theorem maskListF (s : Nat) (hs : s < 4294967296) : Spec Tryz.prog 81 #[.int .u32 (s : Int)] [DBF] [] (fun x : SH => sl x (listM s).length) (fun x => [IL (listM s) x]) (fun _ => []) := fun ok w hok hst => (maskListO s hs ok w hok hst).mono fun e w' hh => by
  obtain ⟨x, he, h⟩ := hh; have hl : (listM s).length ≤ 24 := listTo_len s 24; exact ⟨x, he, h.settleIL trivial rfl rfl (by unfold reach; omega) (fun c hc => by have := listTo_in hc; unfold in64; omega)⟩
end Go.Hy
namespace Go.Hy
open Go.Proofs
set_option maxRecDepth 100000
theorem dimension_spec (i : Int) : Spec Tryz.prog 176 #[.int .i64 i] [] [] (fun _ : Unit => .bool (decide (0 ≤ i) && decide (i < 24))) (fun _ => []) (fun _ => []) := by
  refine spec_go (args := [.int .i64 i]) Tryz.func176 Tryz.ntmps176 rfl (by exact Nat.le_of_ble_eq_true rfl) fun B hB => ?_
  refine go_seq ?_; refine go_region ⟨_, Tryz.func176⟩ rfl ?_; refine q0 rfl (o_assign ?_); refine rg_nil ?_; refine go_seq ?_; refine go_region ⟨_, Tryz.func176⟩ rfl ?_; refine q0 rfl (o_move ?_); refine q0 rfl (o_geq ?_); refine q0 rfl (o_move ?_); refine qI rfl rfl rfl wl_ (fun hg5 => o_move ?_) (fun hg5 => ?_)
  · refine qT rfl rfl rfl (o_lss ?_); refine q0 rfl (o_pickT ?_); refine q0 rfl (o_assign ?_); refine rg_nil ?_; refine ret1 Tryz.func176 Tryz.results176 wn_ () (by first | (simp_all; done) | (simp_all; omega)) (fun w hs => hs.none)
  · refine qF rfl rfl rfl ?_; refine q0 rfl (o_pickF ?_); refine q0 rfl (o_assign ?_); refine rg_nil ?_; refine ret1 Tryz.func176 Tryz.results176 wn_ () (by first | (simp_all; done) | (simp_all; omega)) (fun w hs => hs.none)
theorem maskRight_spec (s : Nat) (hs : s < 4294967296) : Spec Tryz.prog 87 #[.int .u32 (s : Int)] [] [] (fun _ : Unit => .bool (decide (s < 16777216))) (fun _ => []) (fun _ => []) := by
  refine spec_go (args := [.int .u32 (s : Int)]) Tryz.func87 Tryz.ntmps87 rfl (by exact Nat.le_of_ble_eq_true rfl) fun B hB => ?_
  refine go_seq ?_; refine go_region ⟨_, Tryz.func87⟩ rfl ?_; refine q0 rfl (o_assign ?_); refine rg_nil ?_; refine go_seq ?_; refine go_region ⟨_, Tryz.func87⟩ rfl ?_; refine q0 rfl (o_move ?_); refine q0 rfl (o_andNotU32 ?_ (b := 16777215)); refine q0 rfl (o_eqI ?_ (b := 0)); refine q0 rfl (o_assign ?_); refine rg_nil ?_; refine ret1 Tryz.func87 Tryz.results87 wn_ () (by rw [andNot_zero hs]) (fun w hs => hs.none)
theorem withoutNone_spec (s : Nat) (hs : s < 4294967296) : Spec Tryz.prog 175 #[.int .u32 (s : Int), .int .i64 (-1)] [] [] (fun _ : Unit => .int .u32 ((s &&& 16777215 : Nat) : Int)) (fun _ => []) (fun _ => []) := by
  refine spec_go (args := [.int .u32 (s : Int), .int .i64 (-1)]) Tryz.func175 Tryz.ntmps175 rfl (by exact Nat.le_of_ble_eq_true rfl) fun B hB => ?_
  refine go_seq ?_; refine go_region ⟨_, Tryz.func175⟩ rfl ?_; refine q0 rfl (o_assign ?_); refine rg_nil ?_; refine go_seq ?_; refine go_region ⟨_, Tryz.func175⟩ rfl ?_; refine q0 rfl (o_move ?_); refine q0 rfl (o_andU32 ?_ (b := 16777215)); refine q0 rfl (o_assign ?_); refine rg_nil ?_; refine go_seq ?_; refine go_seq ?_; refine go_region ⟨_, Tryz.func175⟩ rfl ?_; refine q0 rfl (o_move ?_); refine q0 rfl (o_call Tryz.call176 (dimension_spec (-1)) (fun x8 => ?_)); refine q0 rfl (o_not ?_); refine rg_nil ?_; refine go_condI (fun h9 => ?_) (fun h9 => ?_)
  · refine go_seq ?_; refine go_region ⟨_, Tryz.func175⟩ rfl ?_; refine q0 rfl (o_move ?_); refine q0 rfl (o_assign ?_); refine rg_nil ?_; refine ret1 Tryz.func175 Tryz.results175 wn_ () rfl (fun w hs => hs.none)
  · exact absurd h9 (by decide)
theorem fDims_spec : FDims := by
  intro l a; refine spec_go (args := [sl a l.length]) Tryz.func97 Tryz.ntmps97 rfl (by exact Nat.le_of_ble_eq_true rfl) fun B hB => ?_
  refine go_openCL (l := l) (a := a) (fun hl1 hA1 hU1 => ?_); refine go_seq ?_; refine go_region ⟨_, Tryz.func97⟩ rfl ?_; refine q0 rfl (o_assign ?_); refine rg_nil ?_; refine go_seq ?_; refine go_region ⟨_, Tryz.func97⟩ rfl ?_; refine q0 rfl (o_assign ?_); refine rg_nil ?_; refine go_seq ?_; refine go_seq ?_; refine go_region ⟨_, Tryz.func97⟩ rfl ?_; refine q0 rfl (o_move ?_); refine q0 rfl (o_len ?_); refine q0 rfl (o_move ?_); refine rg_nil ?_; refine go_block ?_; refine go_loopI (X := Nat) (fun i => i ≤ l.length) (fun i => [(3, .int .u32 (orUpto l i : Int)), (6, sl a l.length), (7, .int .i64 (l.length : Int)), (8, .int .i64 (i : Int))]) (fun i => [CL l a]) (fun i => []) (fun i => l.length - i) (0) (Nat.zero_le _) (by exact ⟨rfl, rfl, rfl, rfl, trivial⟩) ?_ ?_
  · exact fun w hs => hs.less (by simp)
  · intro i base0 hi next0; refine go_seq ?_; refine go_region ⟨_, Tryz.func97⟩ rfl ?_; refine q0 rfl (o_lss ?_); refine rg_nil ?_; refine go_seq ?_; refine go_condI (fun h9 => ?_) (fun h9 => ?_)
    · have hlt : i < l.length := by have := of_decide_eq_true h9; omega
      obtain ⟨bk, o, hav⟩ := hA1 (by omega); have hu := hU1 _ (getD_mem (d := cl0) hlt); have hup := orUpto_lt hU1 i; have hor : (l.getD i cl0).pos ||| (l.getD i cl0).neg < 4294967296 := Nat.or_lt_two_pow (n := 32) hu.1 hu.2; refine go_skip ?_; refine go_seq ?_; refine go_block ?_; refine go_seq ?_; refine go_region ⟨_, Tryz.func97⟩ rfl ?_; refine q0 rfl (o_ixN ?_); refine q0 rfl (o_ldC ?_); refine q0 rfl (o_new fun b5 => ?_); refine q0 rfl (o_st ?_); refine rg_nil ?_; refine go_region ⟨_, Tryz.func97⟩ rfl ?_; refine q0 rfl (o_move ?_); refine q0 rfl (o_fa ?_); refine q0 rfl (o_ld ?_); refine q0 rfl (o_fa ?_); refine q0 rfl (o_ld ?_); refine q0 rfl (o_orU32 ?_ (a := (l.getD i cl0).pos) (b := (l.getD i cl0).neg) (ha := hu.1) (hb := hu.2)); refine q0 rfl (o_orU32 ?_ (a := orUpto l i) (b := (l.getD i cl0).pos ||| (l.getD i cl0).neg)); refine q0 rfl (o_assign ?_); refine rg_nil ?_; refine go_inBlock ?_; refine go_region ⟨_, Tryz.func97⟩ rfl ?_; refine q0 rfl (o_add ?_); refine q0 rfl (o_move ?_); refine rg_nil ?_; refine go_state (fun w hs => ?_) (next0 (i + 1) _ hlt (by omega) ⟨by rw [orUpto_succ hlt]; rfl, rfl, rfl, rfl, trivial⟩); exact (hs.less (by simp)).bare
    · have hge : i = l.length := by have := of_decide_eq_false h9; omega
      refine go_exit rfl ?_; refine go_seq ?_; refine go_region ⟨_, Tryz.func97⟩ rfl ?_; refine q0 rfl (o_move ?_); refine q0 rfl (o_call Tryz.call175 (withoutNone_spec (orUpto l i) (orUpto_lt hU1 i)) (fun x21 => ?_)); refine q0 rfl (o_assign ?_); refine rg_nil ?_; refine ret1 Tryz.func97 Tryz.results97 wn_ () (by rw [fDims_eq, ← hge]) (fun w hs => hs.none)
theorem clauseRight_spec (c : Cl) (hc : u32 c) : Spec Tryz.prog 33 #[.agg (clCells c).toArray] [] [] (fun _ : Unit => .bool (right24 c)) (fun _ => []) (fun _ => []) := by
  refine spec_go (args := [.agg (clCells c).toArray]) Tryz.func33 Tryz.ntmps33 rfl (by exact Nat.le_of_ble_eq_true rfl) fun B hB => ?_
  refine go_seq ?_; refine go_region ⟨_, Tryz.func33⟩ rfl ?_; refine q0 rfl (o_box fun b1 => ?_); refine q0 rfl (o_assign ?_); refine rg_nil ?_; refine go_seq ?_; refine go_region ⟨_, Tryz.func33⟩ rfl ?_; refine q0 rfl (o_fa ?_); refine q0 rfl (o_ld ?_); refine q0 rfl (o_call Tryz.call87 (maskRight_spec c.pos hc.1) (fun x5 => ?_)); refine q0 rfl (o_move ?_); refine qI rfl rfl rfl wl_ (fun hg6 => o_fa ?_) (fun hg6 => ?_)
  · refine qT rfl rfl rfl (o_ld ?_); refine qT rfl rfl rfl (o_call Tryz.call87 (maskRight_spec c.neg hc.2) (fun x9 => ?_)); refine q0 rfl (o_pickT ?_); refine q0 rfl (o_assign ?_); refine rg_nil ?_; refine ret1 Tryz.func33 Tryz.results33 wn_ () (by first | (simp_all [right24]; done) | (simp_all [right24]; intros; omega)) (fun w hs => hs.none)
  · refine qF rfl rfl rfl ?_; refine qF rfl rfl rfl ?_; refine q0 rfl (o_pickF ?_); refine q0 rfl (o_assign ?_); refine rg_nil ?_; refine ret1 Tryz.func33 Tryz.results33 wn_ () (by first | (simp_all [right24]; done) | (simp_all [right24]; intros; omega)) (fun w hs => hs.none)
theorem clash_spec (c : Cl) (hc : u32 c) : Spec Tryz.prog 34 #[.agg (clCells c).toArray] [] [] (fun _ : Unit => .bool (clash c)) (fun _ => []) (fun _ => []) := by
  refine spec_go (args := [.agg (clCells c).toArray]) Tryz.func34 Tryz.ntmps34 rfl (by exact Nat.le_of_ble_eq_true rfl) fun B hB => ?_
  refine go_seq ?_; refine go_region ⟨_, Tryz.func34⟩ rfl ?_; refine q0 rfl (o_box fun b1 => ?_); refine q0 rfl (o_assign ?_); refine rg_nil ?_; refine go_seq ?_; refine go_region ⟨_, Tryz.func34⟩ rfl ?_; refine q0 rfl (o_fa ?_); refine q0 rfl (o_ld ?_); refine q0 rfl (o_fa ?_); refine q0 rfl (o_ld ?_); refine q0 rfl (o_andU32 ?_ (a := c.pos) (b := c.neg) (ha := hc.1) (hb := hc.2)); refine q0 rfl (o_neI ?_ (b := 0)); refine q0 rfl (o_assign ?_); refine rg_nil ?_; refine ret1 Tryz.func34 Tryz.results34 wn_ () (by simp only [clash]; congr 1; apply decide_eq_decide.mpr; omega) (fun w hs => hs.none)
theorem meet_spec (c d : Cl) (hc : u32 c) (hd : u32 d) : Spec Tryz.prog 93 #[.agg (clCells c).toArray, .agg (clCells d).toArray] [] [] (fun _ : Unit => .agg (clCells (meetC c d)).toArray) (fun _ => []) (fun _ => []) := by
  refine spec_go (args := [.agg (clCells c).toArray, .agg (clCells d).toArray]) Tryz.func93 Tryz.ntmps93 rfl (by exact Nat.le_of_ble_eq_true rfl) fun B hB => ?_
  refine go_seq ?_; refine go_region ⟨_, Tryz.func93⟩ rfl ?_; refine q0 rfl (o_box fun b2 => ?_); refine q0 rfl (o_box fun b3 => ?_); refine q0 rfl (o_new fun b4 => ?_); refine rg_nil ?_; refine go_seq ?_; refine go_region ⟨_, Tryz.func93⟩ rfl ?_; refine q0 rfl (o_fa ?_); refine q0 rfl (o_ld ?_); refine q0 rfl (o_fa ?_); refine q0 rfl (o_ld ?_); refine q0 rfl (o_orU32 ?_ (a := c.pos) (b := d.pos) (ha := hc.1) (hb := hd.1)); refine q0 rfl (o_fa ?_); refine q0 rfl (o_ld ?_); refine q0 rfl (o_fa ?_); refine q0 rfl (o_ld ?_); refine q0 rfl (o_orU32 ?_ (a := c.neg) (b := d.neg) (ha := hc.2) (hb := hd.2)); refine q0 rfl (o_build (cs := clCells (meetC c d)) ?_); refine q0 rfl (o_st ?_); refine rg_nil ?_; refine retC Tryz.func93 Tryz.results93 () rfl mm_ rfl rfl rfl rfl (fun w hs => hs.none)
theorem below_spec (c d : Cl) (hc : u32 c) (hd : u32 d) : Spec Tryz.prog 169 #[.agg (clCells c).toArray, .agg (clCells d).toArray] [] [] (fun _ : Unit => .bool (below c d)) (fun _ => []) (fun _ => []) := by
  refine spec_go (args := [.agg (clCells c).toArray, .agg (clCells d).toArray]) Tryz.func169 Tryz.ntmps169 rfl (by exact Nat.le_of_ble_eq_true rfl) fun B hB => ?_
  refine go_seq ?_; refine go_region ⟨_, Tryz.func169⟩ rfl ?_; refine q0 rfl (o_box fun b2 => ?_); refine q0 rfl (o_box fun b3 => ?_); refine q0 rfl (o_assign ?_); refine rg_nil ?_; refine go_seq ?_; refine go_draw (pn := 1000000) (tn := false) (A := [0, 0, 3, 0, 15, 31]) (l := [0, 1, 3, 2, 4, 5]) (fin := []) Tab.mixed ⟨_, Tryz.func169⟩ (by rfl) ?_; refine n0 rfl (v_lds ?_); refine n0 rfl (v_lds ?_); refine n0 rfl (v_lds ?_); refine n0 rfl (v_call Tryz.call93 (meet_spec c d hc hd) (fun x7 => ?_)); refine n0 rfl (v_eqC ?_ (c := meetC c d) (c' := c)); refine n0 rfl (v_assign ?_); refine NV.done ?_; refine rg_nil ?_; refine ret1 Tryz.func169 Tryz.results169 wn_ () (by rw [below_meet]) (fun w hs => hs.none)
end Go.Hy
/-
  DERIVED: THE SHELF's CONTRACTS AT THIS DUMP, IN PLAIN WORDS (tools/lay-plain.mjs out of 'TryzSort.lean', which tools/lay-shelf.mjs wrote): THE SAME DECLARATIONS UNDER THE SAME NAMES: 'import', 'namespace', 'open', 'def', 'theorem' AND NOTHING ELSE: no command of the shelf's: FOR A HAND-IN. Each laying: the table of numbers ('.._ren') and one theorem, a field a fact of the dump's own or the kernel's comparison; each contract: ONE APPLICATION.
-/
namespace Go.Proofs
open Go.Shelf
def Tryz.sortL_ren : Go.Shelf.Ren := ⟨fun | 6 => 170 | 15 => 222 | 14 => 221 | 28 => 245 | 29 => 246 | 20 => 237 | 21 => 238 | 22 => 239 | 23 => 240 | 24 => 241 | 25 => 242 | 26 => 243 | 27 => 244 | 46 => 257 | 47 => 258 | 48 => 259 | 49 => 260 | 50 => 261 | 57 => 264 | n => n, fun | 22 => 25 | 24 => 45 | 25 => 177 | 3 => 3 | 39 => 146 | 0 => 0 | 53 => 43 | 55 => 195 | 4 => 4 | 46 => 205 | 45 => 204 | 50 => 209 | 5 => 5 | 9 => 9 | 66 => 213 | 70 => 217 | 76 => 220 | 77 => 163 | n => n, fun | n => n⟩
theorem Tryz.sortL : Go.Proofs.SlLaysF0.n6 Tryz.prog Tryz.sortL_ren := {
  mixed := by kernel_rfl
  f6 := ⟨Tryz.f170.name, by decide, Tryz.func170.trans (congrArg some (by kernel_rfl))⟩
  f14 := ⟨Tryz.f221.name, by decide, Tryz.func221.trans (congrArg some (by kernel_rfl))⟩
  f15 := Tryz.func222.trans (congrArg some (by kernel_rfl))
  f20 := ⟨Tryz.f237.name, by decide, Tryz.func237.trans (congrArg some (by kernel_rfl))⟩
  f21 := ⟨Tryz.f238.name, by decide, Tryz.func238.trans (congrArg some (by kernel_rfl))⟩
  f22 := ⟨Tryz.f239.name, by decide, Tryz.func239.trans (congrArg some (by kernel_rfl))⟩
  f23 := ⟨Tryz.f240.name, by decide, Tryz.func240.trans (congrArg some (by kernel_rfl))⟩
  f24 := ⟨Tryz.f241.name, by decide, Tryz.func241.trans (congrArg some (by kernel_rfl))⟩
  f25 := ⟨Tryz.f242.name, by decide, Tryz.func242.trans (congrArg some (by kernel_rfl))⟩
  f26 := ⟨Tryz.f243.name, by decide, Tryz.func243.trans (congrArg some (by kernel_rfl))⟩
  f27 := ⟨Tryz.f244.name, by decide, Tryz.func244.trans (congrArg some (by kernel_rfl))⟩
  f28 := Tryz.func245.trans (congrArg some (by kernel_rfl))
  f29 := Tryz.func246.trans (congrArg some (by kernel_rfl))
  f46 := ⟨Tryz.f257.name, by decide, Tryz.func257.trans (congrArg some (by kernel_rfl))⟩
  f47 := Tryz.func258.trans (congrArg some (by kernel_rfl))
  f48 := Tryz.func259.trans (congrArg some (by kernel_rfl))
  f49 := ⟨Tryz.f260.name, by decide, Tryz.func260.trans (congrArg some (by kernel_rfl))⟩
  f50 := ⟨Tryz.f261.name, by decide, Tryz.func261.trans (congrArg some (by kernel_rfl))⟩
  f57 := ⟨Tryz.f264.name, by decide, Tryz.func264.trans (congrArg some (by kernel_rfl))⟩
  t0 := Tryz.underlying0
  a0 := Tryz.isAgg0
  z0 := Tryz.sizeOf0
  v0 := Tryz.zeroValue0
  t3 := Tryz.underlying3
  a3 := Tryz.isAgg3
  z3 := Tryz.sizeOf3
  v3 := Tryz.zeroValue3
  t4 := Tryz.underlying4
  a4 := Tryz.isAgg4
  z4 := Tryz.sizeOf4
  v4 := Tryz.zeroValue4
  t5 := Tryz.underlying5
  a5 := Tryz.isAgg5
  z5 := Tryz.sizeOf5
  v5 := Tryz.zeroValue5
  t9 := Tryz.underlying9
  a9 := Tryz.isAgg9
  z9 := Tryz.sizeOf9
  v9 := Tryz.zeroValue9
  t22 := Tryz.underlying25
  a22 := Tryz.isAgg25
  z22 := Tryz.sizeOf25
  v22 := Tryz.zeroValue25
  t25 := Tryz.underlying177
  a25 := Tryz.isAgg177
  z25 := Tryz.sizeOf177
  v25 := Tryz.zeroValue177
  t39 := Tryz.underlying146
  a39 := Tryz.isAgg146
  z39 := Tryz.sizeOf146
  v39 := Tryz.zeroValue146
  t45 := Tryz.underlying204
  a45 := Tryz.isAgg204
  z45 := Tryz.sizeOf204
  v45 := Tryz.zeroValue204
  t46 := Tryz.underlying205
  a46 := Tryz.isAgg205
  z46 := Tryz.sizeOf205
  v46 := Tryz.zeroValue205
  t50 := Tryz.underlying209
  a50 := Tryz.isAgg209
  z50 := Tryz.sizeOf209
  v50 := Tryz.zeroValue209
  t53 := Tryz.underlying43
  a53 := Tryz.isAgg43
  z53 := Tryz.sizeOf43
  v53 := Tryz.zeroValue43
  t55 := Tryz.underlying195
  a55 := Tryz.isAgg195
  z55 := Tryz.sizeOf195
  v55 := Tryz.zeroValue195
  t66 := Tryz.underlying213
  a66 := Tryz.isAgg213
  z66 := Tryz.sizeOf213
  v66 := Tryz.zeroValue213
  t70 := Tryz.underlying217
  a70 := Tryz.isAgg217
  z70 := Tryz.sizeOf217
  v70 := Tryz.zeroValue217
  t76 := Tryz.underlying220
  a76 := Tryz.isAgg220
  z76 := Tryz.sizeOf220
  v76 := Tryz.zeroValue220
  t77 := Tryz.underlying163
  a77 := Tryz.isAgg163
  z77 := Tryz.sizeOf163
  v77 := Tryz.zeroValue163 }
end Go.Proofs
namespace Go.Hy
open Go.Proofs
set_option maxRecDepth 100000
open Go.Shelf Go.RowKit Go.Lib Go.Sort
theorem isNaN_k (a : Int) (W : World) : Calls Tryz.prog 247 #[.int .u32 a] W fun e w' => e = .returned (.bool false) ∧ w' = W := by
  go_enter Tryz.func247, Tryz.ntmps247
  go_wp2
  go_ret
  exact ⟨by simp, rfl⟩
theorem compare_k (a b : Int) (W : World) : Calls Tryz.prog 223 #[.int .u32 a, .int .u32 b] W fun e w' => e = .returned (.int .i64 (compareInt a b)) ∧ w' = W := by
  go_enter Tryz.func223, Tryz.ntmps223
  go_wp2_with (go_at_call 247; refine (isNaN_k _ _).mono ?_; rintro e w' ⟨rfl, rfl⟩)
  all_goals (go_ret; refine ⟨?_, rfl⟩; unfold Lib.compareInt; (repeat' split) <;> first | rfl | (exfalso; omega))
def cmpC (c d : Cl) : Int := if c.pos = d.pos then compareInt c.neg d.neg else compareInt c.pos d.pos
set_option maxHeartbeats 1000000 in
theorem cmp_k (c d : Cl) (W : World) : Calls Tryz.prog 171 #[.agg #[.int .u32 c.pos, .int .u32 c.neg], .agg #[.int .u32 d.pos, .int .u32 d.neg]] W fun e w' => e = .returned (.int .i64 (cmpC c d)) ∧ ∃ q os', w' = grow (W.drewN q) os' := by
  have hcon := fun a b W' => compare_k a b W'
  have e1 : cmpC c d = if (c.pos : Int) = d.pos then compareInt c.neg d.neg else compareInt c.pos d.pos := by unfold cmpC; simp only [Int.ofNat_inj]
  generalize hr : cmpC c d = r at e1 ⊢
  go_enter Tryz.func171, Tryz.ntmps171
  go_wp2_with (go_at_call 223; refine (hcon _ _ _).mono ?_; rintro e w' ⟨rfl, rfl⟩)
  all_goals (go_ret; refine ⟨?_, 0, _, by rw [alloc_eq_grow, alloc_eq_grow, grow_grow]; rfl⟩)
  all_goals (rw [e1]; simp_all)
/-! ### The order of clauses -/
instance : Inhabited Cl := ⟨cl0⟩
theorem cmp_lt (c d : Cl) : ltOf cmpC c d = lessC c d := by
  unfold ltOf cmpC lessC compareInt; by_cases h : c.pos = d.pos
  · simp only [h, if_true]; by_cases h2 : c.neg < d.neg
    · rw [if_pos (by omega)]; simp [h2]
    · rw [if_neg (by omega)]; split <;> simp [h2]
  · simp only [h, if_false]; by_cases h2 : c.pos < d.pos
    · rw [if_pos (by omega)]; simp [h2]
    · rw [if_neg (by omega), if_pos (by omega)]; simp [h2]
theorem cmp_swo : SWO (ltOf cmpC) where
  irrefl x := by rw [cmp_lt]; simp [lessC]
  trans x y z h1 h2 := by
    rw [cmp_lt] at *; simp only [lessC, Bool.or_eq_true, Bool.and_eq_true, decide_eq_true_eq] at *; omega
  ntrans x y z h1 h2 := by
    rw [cmp_lt] at *; simp only [lessC, Bool.or_eq_false_iff, Bool.and_eq_false_iff, decide_eq_false_iff_not] at *; omega
theorem flatK_toList (d : Array Cl) : (flatK clCells 2 d).toList = clFlat d.toList := by
  apply List.ext_getElem?; intro t; have hl : (clFlat d.toList).length = d.size * 2 := by rw [flat_len clCells_len]; simp
  by_cases ht : t < d.size * 2
  · have h1 : (flatK clCells 2 d).toList[t]? = some (clCells d[t / 2]!)[t % 2]! := by
      have hs : t < (flatK clCells 2 d).size := by rw [size_flatK]; exact ht
      rw [Array.getElem?_toList, Array.getElem?_eq_getElem hs]; have := get_flatK clCells 2 d t ht; rw [getElem!_pos _ t hs] at this; rw [this]
    rw [h1]; have hd : t / 2 < d.toList.length := by simp; omega
    have e : d.toList.getD (t / 2) cl0 = d[t / 2]! := by
      have : t / 2 < d.size := by simpa using hd
      rw [getElem!_pos d (t / 2) this, List.getD_eq_getElem?_getD, List.getElem?_eq_getElem hd]; simp
    have h2 : (clCells (d.toList.getD (t / 2) cl0))[t % 2]? = some (clCells d[t / 2]!)[t % 2]! := by
      rw [e]; have : t % 2 < (clCells d[t / 2]!).length := by rw [clCells_len]; omega
      rw [List.getElem?_eq_getElem this, getElem!_pos (clCells d[t / 2]!) (t % 2) this]
    have := flat_at clCells_len cl0 d.toList (t / 2) (t % 2) _ hd h2; rw [show t / 2 * 2 + t % 2 = t by omega] at this; exact this.symm
  · rw [List.getElem?_eq_none (by simp; omega), List.getElem?_eq_none (by omega)]
theorem put_cells (d : Array Cl) (l : List Cl) (rest : List Value) (hs : d.size = l.length) : putCells id 0 (flatK clCells 2 d) (clFlat l ++ rest).toArray = (clFlat d.toList ++ rest).toArray := by
  apply Array.ext_getElem?; intro t; have hl : (clFlat l).length = d.size * 2 := by rw [flat_len clCells_len, hs]
  have hl2 : (clFlat d.toList).length = d.size * 2 := by rw [flat_len clCells_len]; simp
  simp only [putCells, Array.getElem?_mapIdx, List.getElem?_toArray, size_flatK, Nat.zero_add, Nat.zero_le, true_and, Nat.sub_zero, id]; by_cases ht : t < d.size * 2
  · rw [List.getElem?_append_left (by omega), List.getElem?_append_left (by omega)]
    have h1 : (clFlat d.toList)[t]? = some (flatK clCells 2 d)[t]! := by
      rw [← flatK_toList, Array.getElem?_toList]; have hsz : t < (flatK clCells 2 d).size := by rw [size_flatK]; exact ht
      rw [Array.getElem?_eq_getElem hsz, getElem!_pos _ t hsz]
    rw [h1]; obtain ⟨v, hv⟩ : ∃ v, (clFlat l)[t]? = some v := ⟨_, List.getElem?_eq_getElem (by omega)⟩; rw [hv, Option.map_some, if_pos ht]
  · rw [List.getElem?_append_right (by omega), List.getElem?_append_right (by omega), hl, hl2]; cases rest[t - d.size * 2]? with
    | none => rfl
    | some v => rw [Option.map_some, if_neg ht]
/-- slices.SortFunc at clauses, by clause.Cmp: a row of the caller's own. -/
theorem sort_spec (l : List Cl) (g cap : Nat) (rest : List Value) (hn : l.length < 4611686018427387904) :
    Spec Tryz.prog 170 #[.slice (some ⟨g, 0, none⟩) l.length cap, .func (.func 171) #[] #[]] [] [boxR g (clFlat l ++ rest) 45] (fun _ : {l' : List Cl // l'.Perm l ∧ l'.Pairwise fun a b => lessC b a = false} => .tuple #[]) (fun _ => []) (fun x => [boxR g (clFlat x.1 ++ rest) 45]) := by
  intro ok w hok hs; have hg : w.heap[g]? = some (.cells (clFlat l ++ rest).toArray 45 (0, 0)) := hs.res _ List.mem_cons_self w (fun _ _ => rfl); have hlt : g < w.heap.size := (Array.getElem?_eq_some_iff.mp hg).1; have hu : Tryz.prog.underlying 45 = some (.struct (TyF.fC Tryz.prog)) := TyF.uC
  have aE : ∀ w, (isAgg (Tryz.sortL_ren.t 24)).run Tryz.prog w = .ok true w := fun w => by
    show (isAgg 45).run Tryz.prog w = _; simp [isAgg, run_underlying hu]
  have zE : ∀ w, (Go.sizeOf (Tryz.sortL_ren.t 24)).run Tryz.prog w = .ok 2 w := fun w => run_size0 (P := Tryz.prog) (t := 45) rfl w
  have hH : HoldsK clCells 2 w g 0 l.toArray := by
    intro j hj; rw [size_flatK] at hj; have e : (flatK clCells 2 l.toArray).toList = clFlat l := by rw [flatK_toList]
    have hsz : j < (flatK clCells 2 l.toArray).size := by rw [size_flatK]; exact hj
    have h1 : (clFlat l)[j]? = some (flatK clCells 2 l.toArray)[j]! := by
      rw [← e, Array.getElem?_toList, Array.getElem?_eq_getElem hsz, getElem!_pos _ j hsz]
    refine ⟨?_, by simp [World.frozen?, hg]⟩; have hlen : j < (clFlat l).length := (List.getElem?_eq_some_iff.mp h1).1; simp only [World.cell?, hg, Nat.zero_add, Option.isSome_none, Bool.false_eq_true, if_false, List.getElem?_toArray, id]; rw [List.getElem?_append_left hlen]; exact h1
  have hc := AnyQ.slices_SortFunc (P := Tryz.prog) Tryz.sortL 2 aE zE clCells clCells_len (fun x v hv => by
      simp only [clCells, List.mem_cons, List.not_mem_nil, or_false] at hv; rcases hv with rfl | rfl <;> rfl) cmpC cmp_swo 171 #[] g 0 cap l.toArray w Tryz.call171
    (fun m os dk hsz x y => cmp_k x y _) hH hlt (by simpa using hn)
  have hc2 : Calls Tryz.prog 170 #[.slice (some ⟨g, 0, none⟩) l.length cap, .func (.func 171) #[] #[]] w _ := hc; refine hc2.mono ?_; rintro e w' ⟨he, d', n, os, hp, hsd, hw⟩; have hsize : d'.size = l.length := by simpa using hp.1
  have hperm : d'.toList.Perm l := by
    have := hp.2.2; have e1 : d'.extract 0 l.toArray.size = d' := by rw [show l.toArray.size = d'.size by simp [hsize]]; simp
    have e2 : l.toArray.extract 0 l.toArray.size = l.toArray := by simp
    rw [e1, e2] at this; exact this
  have hsorted : d'.toList.Pairwise fun a b => lessC b a = false := by
    rw [List.pairwise_iff_getElem]; intro i j hi hj hij; have hi' : i < d'.size := by simpa using hi
    have hj' : j < d'.size := by simpa using hj
    have := hsd i j (Nat.zero_le _) hij (by simp; omega); rw [cmp_lt, getElem!_pos d' j hj', getElem!_pos d' i hi'] at this; simpa using this
  have hg' : w'.heap[g]? = some (.cells (clFlat d'.toList ++ rest).toArray 45 (0, 0)) := by
    rw [hw]; show ((mapBlock (Go.Sort.ahead w n) g (putCells id 0 (flatK clCells 2 d'))).heap ++ os)[g]? = _; rw [Array.getElem?_append_left (by simp [mapBlock, Go.Sort.ahead]; exact hlt)]; simp only [mapBlock, Go.Sort.ahead, Array.getElem?_modify, if_true, hg, Option.map_some, onCells]; rw [put_cells d' l rest hsize]
  have hold : ∀ b, b < w.heap.size → b ≠ g → w'.heap[b]? = w.heap[b]? := by
    intro b hb hne; rw [hw]; show ((mapBlock (Go.Sort.ahead w n) g (putCells id 0 (flatK clCells 2 d'))).heap ++ os)[b]? = _; rw [Array.getElem?_append_left (by simp [mapBlock, Go.Sort.ahead]; exact hb)]; simp only [mapBlock, Go.Sort.ahead, Array.getElem?_modify, if_neg (Ne.symm hne)]
  have hsz' : w.heap.size ≤ w'.heap.size := by rw [hw]; simp [sortWorldK, putRowK, Go.Sort.ahead]
  refine ⟨⟨d'.toList, hperm, hsorted⟩, he, ?_⟩; have h0 : St ⟨ok, domAll [boxR g (clFlat l ++ rest) 45], w⟩ [] ([boxR g (clFlat l ++ rest) 45]) w := hs
  refine h0.turn (m' := boxR g (clFlat d'.toList ++ rest) 45) ⟨by rw [hw]; rfl, by rw [hw]; rfl, by rw [hw]; rfl, hsz', fun b hb hn => hold b hb hn⟩ (fun w2 hw2 => by
    show w2.heap[g]? = _; rw [hw2 g rfl]; exact hg') (fun b hb => ?_)
  have hb : b = g := hb; subst hb; exact ⟨by omega, .inl rfl⟩
end Go.Hy
