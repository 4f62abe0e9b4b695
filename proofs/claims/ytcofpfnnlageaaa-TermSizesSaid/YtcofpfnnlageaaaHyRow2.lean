/- Contracts of functions of this program, one theorem each (printed by a program of this repository). -/
import Derived.Test.YtcofpfnnlageaaaHyOwn
namespace Go.Hy
set_option linter.unusedVariables false
set_option linter.unusedSimpArgs false
set_option linter.unusedSectionVars false
set_option linter.unusedVariables false
set_option linter.unusedSimpArgs false
/-! ### Reading and writing in rows of the call's own -/
def setAt (cur : List Value) (o : Nat) (vs : List Value) : List Value := cur.take o ++ vs ++ cur.drop (o + vs.length)
theorem setAt_len {cur vs : List Value} {o : Nat} (h : o + vs.length ≤ cur.length) : (setAt cur o vs).length = cur.length := by
  simp [setAt]; omega
theorem setAt_cons {cur rest : List Value} {v : Value} {o : Nat} (h : o + rest.length + 1 ≤ cur.length) : setAt (cur.set o v) (o + 1) rest = setAt cur o (v :: rest) := by
  unfold setAt
  have h1 : (cur.set o v).take (o + 1) = cur.take o ++ [v] := by
    rw [List.take_add_one, List.take_set_of_le (Nat.le_refl o)]
    simp [show o < cur.length by omega]
  rw [h1, List.drop_set_of_lt (by omega)]
  simp only [List.length_cons, List.append_assoc, List.singleton_append]
  rw [show o + 1 + rest.length = o + (rest.length + 1) by omega]
theorem run_storeMid {P : Program} (g : Nat) (t : TypeId) (off : Nat) : ∀ (vs : List Value) (i : Nat) (cur : List Value) (w : World), w.heap[g]? = some (.cells cur.toArray t (0, 0)) → off + i + vs.length ≤ cur.length → (∀ v, v ∈ vs → v.oneCell' = true) →
    ∃ w', (storeCells ⟨g, off, none⟩ vs i).run P w = .ok () w' ∧ w'.heap[g]? = some (.cells (setAt cur (off + i) vs).toArray t (0, 0)) ∧ Chg (fun x => x = g) w w'
  | [], i, cur, w, hg, hl, _ => ⟨w, rfl, by simpa [setAt] using hg, Chg.refl _ _⟩
  | v :: rest, i, cur, w, hg, hl, h1 => by
    have hi : off + i < cur.length := by simp at hl; omega
    have hadd : (⟨g, off, none⟩ : Addr).add i = ⟨g, off + i, none⟩ := Addr.add_lit ..
    have hcell : w.cell? ⟨g, off + i, none⟩ = some cur[off + i] := by simp [World.cell?, hg, hi]
    have hfro : w.frozen? ⟨g, off + i, none⟩ = false := by simp [World.frozen?, hg]
    have hst : (store ((⟨g, off, none⟩ : Addr).add i) v).run P w = .ok () (w.setCell ⟨g, off + i, none⟩ v) := by
      rw [hadd, run_store P w _ v _ (h1 v (by simp)), hcell]
      simp [hfro]
    have hg2 : (w.setCell ⟨g, off + i, none⟩ v).heap[g]? = some (.cells (cur.set (off + i) v).toArray t (0, 0)) := by
      rw [setCell_row v hg]; simp
    obtain ⟨w', h2, h3, h4⟩ := run_storeMid g t off rest (i + 1) (cur.set (off + i) v) _ hg2 (by simp at hl ⊢; omega) (fun u hu => h1 u (List.mem_cons_of_mem _ hu))
    refine ⟨w', ?_, ?_, (Chg.setCell w g (off + i) v).trans h4 (fun b hb => .inl hb)⟩
    · simp only [storeCells]
      rw [bind_ok hst]; exact h2
    · rw [h3, show off + (i + 1) = off + i + 1 by omega, setAt_cons (by simp at hl; omega)]
theorem own_block {w : World} {e : TypeId} {sz n : Nat} {a : SH} {xs : List Value} (h : w.ownsRow 0 e sz (sl a n) n xs) (hn : 0 < n) : ∃ g cur, a.1 = some ⟨g, 0, none⟩ ∧ w.heap[g]? = some (.cells cur e (0, 0)) ∧ n ≤ a.2 ∧ a.2 ≤ maxLen ∧ cur.size = a.2 * sz ∧ cur.toList.take (n * sz) = xs ∧ xs.length = n * sz := by
  obtain ⟨ao, ac⟩ := a
  rcases h.2 with ⟨h1, h2⟩ | ⟨g, cap, cur, h1, h2, h3, h4, h5, h6, h7⟩
  · omega
  · have e1 : ao = some ⟨g, 0, none⟩ := by injection h1
    have e2 : ac = cap := by injection h1
    subst e1; subst e2
    exact ⟨g, cur, rfl, h3, h4, h5, h6, h7, h.1⟩
section
variable {B : Base} {Γ : List Fact} {Ms Ms2 : List Res} {w : World}
theorem St.rowAddr {sz n : Nat} {e : TypeId} {a : SH} {xs : List Value} (hs : St B Γ Ms w) (hm : rowS sz e a n xs ∈ Ms) (hn : 0 < n) : ∃ g, a.1 = some ⟨g, 0, Option.none⟩ := by
  obtain ⟨g, cur, h1, _⟩ := own_block (hs.res _ hm w (fun _ _ => rfl)) hn
  exact ⟨g, h1⟩
theorem St.rowCell {sz n g j : Nat} {e : TypeId} {a : SH} {xs : List Value} {v : Value} (hs : St B Γ Ms w) (hm : rowS sz e a n xs ∈ Ms) (ha : a.1 = some ⟨g, 0, Option.none⟩) (hj : xs[j]? = some v) : w.cell? ⟨g, j, Option.none⟩ = some v := by
  have hown : w.ownsRow 0 e sz (sl a n) n xs := hs.res _ hm w (fun _ _ => rfl)
  have hb : (sl a n).ownBlock = some g := by obtain ⟨ao, ac⟩ := a; simp only at ha; subst ha; rfl
  have := hown.cells hb j v hj
  rwa [Addr.add_lit, Nat.zero_add] at this
theorem flat_set {α : Type} {F : α → List Value} {sz : Nat} (hF : ∀ x, (F x).length = sz) : ∀ (l : List α) (i : Nat) (x : α), i < l.length → (l.set i x).flatMap F = setAt (l.flatMap F) (i * sz) (F x)
  | [], i, x, h => by simp at h
  | a :: l, 0, x, _ => by
    have ha := hF a
    have hx := hF x
    simp [setAt, hx, List.drop_append, ha]
  | a :: l, i + 1, x, h => by
    have ha := hF a
    have hx := hF x
    simp only [List.set_cons_succ, List.flatMap_cons, flat_set hF l i x (by simpa using h)]
    unfold setAt
    rw [Nat.add_mul, Nat.one_mul, hx]
    have t1 : (F a).take (i * sz + sz) = F a := List.take_of_length_le (by omega)
    have t2 : (F a).drop (i * sz + sz + sz) = [] := List.drop_of_length_le (by omega)
    rw [List.take_append, List.drop_append, ha, t1, t2, show i * sz + sz - sz = i * sz by omega, show i * sz + sz + sz - sz = i * sz + sz by omega]
    simp
theorem setAt_one {L : List Value} {j : Nat} {v : Value} (h : j < L.length) : setAt L j [v] = L.set j v := by
  rw [← setAt_cons (rest := []) (by simp only [List.length_nil]; omega)]
  simp [setAt]
theorem setAt_take {cur vs : List Value} {o m : Nat} (h : o + vs.length ≤ m) (hm : m ≤ cur.length) : (setAt cur o vs).take m = setAt (cur.take m) o vs := by
  unfold setAt
  have a1 : (cur.take m).take o = cur.take o := by rw [List.take_take, Nat.min_eq_left (by omega)]
  have a2 : (cur.take m).drop (o + vs.length) = (cur.drop (o + vs.length)).take (m - (o + vs.length)) := List.drop_take ..
  have len : (cur.take o ++ vs).length = o + vs.length := by simp; omega
  have a3 : (cur.take o ++ vs).take m = cur.take o ++ vs := List.take_of_length_le (by omega)
  rw [a1, a2, List.take_append, len, a3]
theorem flat_setf {α : Type} {F : α → List Value} {sz : Nat} (hF : ∀ x, (F x).length = sz) (d u : α) (v : Value) (k : Nat) (hk : k < sz) : ∀ (l : List α) (i : Nat), i < l.length → F u = (F (l.getD i d)).set k v → (l.set i u).flatMap F = (l.flatMap F).set (i * sz + k) v
  | [], i, h, _ => by simp at h
  | a :: l, 0, _, hu => by
    have ha := hF a
    simp only [List.getD_cons_zero] at hu
    simp only [List.set_cons_zero, List.flatMap_cons, hu, Nat.zero_mul, Nat.zero_add]
    rw [List.set_append_left _ _ (by omega)]
  | a :: l, i + 1, h, hu => by
    have ha := hF a
    simp only [List.getD_cons_succ] at hu
    simp only [List.set_cons_succ, List.flatMap_cons, flat_setf hF d u v k hk l i (by simpa using h) hu]
    rw [Nat.add_mul, Nat.one_mul, List.set_append_right _ _ (by omega), ha, show i * sz + sz + k - sz = i * sz + k by omega]
/-- Cells of an element of a row are written. -/
theorem St.rowStore {sz n g o : Nat} {e : TypeId} {a : SH} {xs vs : List Value} {P : Program} (hs : St B Γ (rowS sz e a n xs :: Ms2) w) (ha : a.1 = some ⟨g, 0, Option.none⟩) (hn : 0 < n) (ho : o + vs.length ≤ n * sz) (h1 : ∀ v, v ∈ vs → v.oneCell' = true) :
    ∃ w', (storeCells ⟨g, o, Option.none⟩ vs).run P w = .ok () w' ∧ St B Γ (rowS sz e a n (setAt xs o vs) :: Ms2) w' := by
  obtain ⟨g', cur, e1, e2, e3, e4, e5, e6, e7⟩ := own_block (hs.res _ List.mem_cons_self w (fun _ _ => rfl)) hn
  rw [ha] at e1
  injection e1 with e1; injection e1 with e1
  subst e1
  have hcl : cur.toList.length = cur.size := by simp
  have hle : n * sz ≤ cur.size := by rw [e5]; exact Nat.mul_le_mul_right sz e3
  obtain ⟨w', h2, h3, h4⟩ := run_storeMid (P := P) g e o vs 0 cur.toList w (by simpa using e2) (by rw [hcl]; omega) h1
  rw [Nat.add_zero] at h3
  refine ⟨w', h2, hs.turn ?_ (fun w2 hw2 => ?_) (fun b hb => ?_)⟩
  · refine h4.mono (fun b hb => ?_)
    subst hb
    show (sl a n).ownBlock = some b
    obtain ⟨ao, ac⟩ := a; simp only at ha; subst ha; rfl
  · have hb : (sl a n).ownBlock = some g := by obtain ⟨ao, ac⟩ := a; simp only at ha; subst ha; rfl
    refine ⟨by rw [setAt_len (by omega)]; exact e7, .inr ⟨g, a.2, (setAt cur.toList o vs).toArray, ?_, Nat.zero_le _, (hw2 g hb).trans h3, e3, e4, ?_, ?_⟩⟩
    · obtain ⟨ao, ac⟩ := a; simp only at ha; subst ha; rfl
    · rw [List.size_toArray, setAt_len (by rw [hcl]; omega), hcl, e5]
    · rw [← e6]
      exact setAt_take (by omega) (by rw [hcl]; omega)
  · have hb : (sl a n).ownBlock = some b := hb
    have hb2 : b = g := by
      obtain ⟨ao, ac⟩ := a; simp only at ha; subst ha
      have : some g = some b := hb
      injection this with this; exact this.symm
    subst hb2
    exact ⟨(Array.getElem?_eq_some_iff.mp h3).1, .inl hb⟩
end
section
variable {P : Program} [Tab P] {B : Base} {Γ : List Fact} {Ms Ms2 : List Res} {σ : Nat → Value} {ty : TypeId} {x y : Operand} {v : Value}
/-- An element of a row of the call's own. -/
theorem lr_elem {α : Type} {F : α → List Value} {sz : Nat} (hF : ∀ x, (F x).length = sz) (d : α) {t e : TypeId} {lay : List (Nat × Nat)} {bt g i n : Nat} {a : SH} {zv : Value} {l : List α} (hx : ev σ x = .pointer (some ⟨g, 0 + i * sz, none⟩)) (hm : rowS sz e a n (l.flatMap F) ∈ Ms) (ha : a.1 = some ⟨g, 0, none⟩) (hu : Tab.lay P t = some lay) (hi : Tab.inf P t = some (sz, bt, zv)) (hlt : i < l.length) :
    LoadE P B σ Γ Ms (.load t x) ty (.agg (F (l.getD i d)).toArray) := fun w hs => by
  have h4 := run_loadVar_agg (P := P) (bk := g) (off := 0 + i * sz) (w := w) hu hi (cs := F (l.getD i d)) (hF _) (fun j v hj => by
    have := flat_at hF d l i j v hlt hj
    rw [Nat.zero_add]
    exact hs.rowCell hm ha this)
  rw [Nat.zero_add] at h4 hx
  generalize F (l.getD i d) = u at h4 ⊢
  simp [opr, execOp, hx, Instr.loadAt, Instr.sureAddr, h4]
/-- One cell of it. -/
theorem lr_field {α : Type} {F : α → List Value} {sz : Nat} (hF : ∀ x, (F x).length = sz) (d0 : α) {t e : TypeId} {d : TypeDesc} {g i k n : Nat} {a : SH} {l : List α} (hx : ev σ x = .pointer (some ⟨g, 0 + i * sz + k, none⟩)) (hm : rowS sz e a n (l.flatMap F) ∈ Ms) (ha : a.1 = some ⟨g, 0, none⟩) (hu : Tab.und P t = some d) (hd : (match d with | .struct _ | .array _ _ => true | _ => false) = false) (hlt : i < l.length) (hk : (F (l.getD i d0))[k]? = some v) :
    LoadE P B σ Γ Ms (.load t x) ty v := fun w hs => by
  have h3 := hs.rowCell hm ha (flat_at hF d0 l i k v hlt hk)
  rw [Nat.zero_add] at hx
  simp [opr, execOp, hx, Instr.loadAt, Instr.sureAddr, run_loadVar_one hu hd h3]
theorem lr_one {α : Type} {F : α → List Value} (hF : ∀ x, (F x).length = 1) (d0 : α) {t e : TypeId} {d : TypeDesc} {g i n : Nat} {a : SH} {l : List α} (hx : ev σ x = .pointer (some ⟨g, 0 + i * 1, none⟩)) (hm : rowS 1 e a n (l.flatMap F) ∈ Ms) (ha : a.1 = some ⟨g, 0, none⟩) (hu : Tab.und P t = some d) (hd : (match d with | .struct _ | .array _ _ => true | _ => false) = false) (hlt : i < l.length) (hk : (F (l.getD i d0))[0]? = some v) :
    LoadE P B σ Γ Ms (.load t x) ty v := by
  have hx' : ev σ x = .pointer (some ⟨g, 0 + i * 1 + 0, none⟩) := hx
  exact lr_field hF d0 hx' hm ha hu hd hlt hk
/-- An element is written whole. -/
theorem sr_elem {α : Type} {F : α → List Value} {sz : Nat} (hF : ∀ x, (F x).length = sz) {t e : TypeId} {bt g i n : Nat} {a : SH} {zv : Value} {l : List α} (u : α) (hx : ev σ x = .pointer (some ⟨g, 0 + i * sz, none⟩)) (hm : Ms.Perm (rowS sz e a n (l.flatMap F) :: Ms2)) (ha : a.1 = some ⟨g, 0, none⟩) (hn : n = l.length) (hy : (ev σ y).cells = (F u).toArray) (hi : Tab.inf P t = some (sz, bt, zv)) (h1 : oneCells (F u) = true) (hlt : i < l.length) :
    StoreE P B σ Γ Ms (.store t x y) ty Γ (rowS sz e a n ((l.set i u).flatMap F) :: Ms2) := fun w hs => by
  have hs' := hs.perm hm
  have hmul : i * sz + sz ≤ n * sz := by
    have := Nat.mul_le_mul_right sz (show i + 1 ≤ n by omega)
    rwa [Nat.add_mul, Nat.one_mul] at this
  obtain ⟨w', hr, h2⟩ := hs'.rowStore (P := P) (vs := F u) (o := i * sz) ha (by omega) (by rw [hF]; exact hmul) (fun v hv => List.all_eq_true.mp h1 v hv)
  refine ⟨w', ?_, by rw [flat_set hF l i u hlt]; exact h2⟩
  have hr2 : (storeVar t ⟨g, 0 + i * sz, none⟩ (ev σ y)).run P w = .ok () w' := by
    unfold storeVar
    rw [bind_ok (run_size0 hi w)]
    simp only [hy, List.size_toArray, hF, ne_eq, not_true, if_false, Nat.zero_add]
    exact hr
  rw [Nat.zero_add] at hr2 hx
  simp [opr, execOp, hx, Instr.storeAt, Instr.sureAddr, hr2]
/-- One cell of an element is written. -/
theorem sr_field {α : Type} {F : α → List Value} {sz : Nat} (hF : ∀ x, (F x).length = sz) (d : α) {t e : TypeId} {bt g i k n : Nat} {a : SH} {zv : Value} {l : List α} (u : α) (hx : ev σ x = .pointer (some ⟨g, 0 + i * sz + k, none⟩)) (hm : Ms.Perm (rowS sz e a n (l.flatMap F) :: Ms2)) (ha : a.1 = some ⟨g, 0, none⟩) (hn : n = l.length) (hy : ev σ y = v) (hi : Tab.inf P t = some (1, bt, zv)) (h1 : v.oneCell' = true) (hlt : i < l.length) (hk : k < sz) (hu : F u = (F (l.getD i d)).set k v) :
    StoreE P B σ Γ Ms (.store t x y) ty Γ (rowS sz e a n ((l.set i u).flatMap F) :: Ms2) := fun w hs => by
  have hs' := hs.perm hm
  have hvc : v.cells = #[v] := by cases v <;> simp_all [Value.cells, Value.oneCell']
  have hmul : i * sz + sz ≤ n * sz := by
    have := Nat.mul_le_mul_right sz (show i + 1 ≤ n by omega)
    rwa [Nat.add_mul, Nat.one_mul] at this
  obtain ⟨w', hr, h2⟩ := hs'.rowStore (P := P) (vs := [v]) (o := i * sz + k) ha (by omega) (by simp; omega) (fun u hu => by rw [List.mem_singleton] at hu; exact hu ▸ h1)
  refine ⟨w', ?_, ?_⟩
  · rw [Nat.zero_add] at hx
    have hr2 : (storeVar t ⟨g, i * sz + k, none⟩ (ev σ y)).run P w = .ok () w' := by
      unfold storeVar
      rw [bind_ok (run_size0 hi w)]
      simp only [hy, hvc, List.size_toArray, List.length_cons, List.length_nil, ne_eq, not_true, if_false]
      exact hr
    simp [opr, execOp, hx, Instr.storeAt, Instr.sureAddr, hr2]
  · have hlen : (l.flatMap F).length = l.length * sz := flat_len hF l
    rw [flat_setf hF d u v k hk l i hlt hu, ← setAt_one (by rw [hlen, ← hn]; omega)]
    exact h2
end
end Go.Hy
