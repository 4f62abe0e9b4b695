/- What a reading of the arguments tells of terms. -/
import Derived.Test.YtcofpfnnlageaaaHyMake
import Derived.ProofKit
namespace Go.Hy
set_option linter.unusedVariables false
set_option linter.unusedSimpArgs false
set_option linter.unusedSectionVars false
open Go
set_option linter.unusedVariables false
set_option linter.unusedSectionVars false
/-! ### Arguments: what a reading of a term tells -/
/-- The types of terms, in a program. -/
class TyF (P : Program) where
  tI : TypeId
  tS : TypeId
  tU : TypeId
  tC : TypeId
  tT : TypeId
  tB : TypeId
  lC : TypeId
  lT : TypeId
  lB : TypeId
  fC : Array Field
  fT : Array Field
  fB : Array Field
  uI : P.underlying tI = some (.int .i64)
  uS : P.underlying tS = some .string
  uU : P.underlying tU = some (.int .u32)
  uC : P.underlying tC = some (.struct fC)
  uT : P.underlying tT = some (.struct fT)
  uB : P.underlying tB = some (.struct fB)
  ulC : P.underlying lC = some (.slice tC)
  ulT : P.underlying lT = some (.slice tT)
  ulB : P.underlying lB = some (.slice tB)
  pC : fC.toList.map (fun f => (f.offset, f.type)) = [(0, tU), (1, tU)]
  pT : fT.toList.map (fun f => (f.offset, f.type)) = [(0, tI), (1, tI), (2, tS), (3, lC), (4, lT), (5, lB)]
  pB : fB.toList.map (fun f => (f.offset, f.type)) = [(0, lC), (1, lT)]
  c1 : P.cellsOf tI = 1 ∧ P.cellsOf tS = 1 ∧ P.cellsOf tU = 1 ∧ P.cellsOf lC = 1 ∧ P.cellsOf lT = 1 ∧ P.cellsOf lB = 1
  c2 : P.cellsOf tC = 2 ∧ P.cellsOf tT = 6 ∧ P.cellsOf tB = 2
  b2 : P.bytesOf tC = 8 ∧ P.bytesOf tT = 104 ∧ P.bytesOf tB = 48
section
variable {P : Program} {H : Type} {enc : TypeId × Value → H} {w : World} {sp : Nat → Bool}
abbrev rd (enc : TypeId × Value → H) (P : Program) (w : World) (sp : Nat → Bool) := DataW.trod enc P w 0 sp true
def light (P : Program) (t : TypeId) (d : DataW H) : Prop := ∀ x, x ∈ d.weights P t → x ≤ reach
theorem choose_list {α : Type} (Q : Nat → α → Prop) : ∀ (n : Nat), (∀ i, i < n → ∃ x, Q i x) → ∃ xs : List α, xs.length = n ∧ ∀ i x, xs[i]? = some x → Q i x
  | 0, _ => ⟨[], rfl, fun i x h => by simp at h⟩
  | n + 1, h => by
    obtain ⟨xs, h1, h2⟩ := choose_list Q n (fun i hi => h i (by omega))
    obtain ⟨x, hx⟩ := h n (by omega)
    refine ⟨xs ++ [x], by simp [h1], fun i y hy => ?_⟩
    by_cases hi : i < n
    · rw [List.getElem?_append_left (by omega)] at hy; exact h2 i y hy
    · rw [List.getElem?_append_right (by omega)] at hy
      have : i - xs.length = 0 := by
        rcases Nat.eq_zero_or_pos (i - xs.length) with h0 | h0
        · exact h0
        · rw [List.getElem?_eq_none (by simp; omega)] at hy; cases hy
      rw [this] at hy
      simp at hy
      have e : i = n := by omega
      subst e; subst hy; exact hx
theorem mapM_at {α β : Type} {g : α → Option β} : ∀ {l : List α} {r : List β}, l.mapM g = some r → r.length = l.length ∧ ∀ (i : Nat) (x : α), l[i]? = some x → ∃ y, r[i]? = some y ∧ g x = some y
  | [], r, h => by simp at h; subst h; exact ⟨rfl, fun i x h => by simp at h⟩
  | a :: l, r, h => by
    simp only [List.mapM_cons, Option.bind_eq_bind, Option.pure_def] at h
    obtain ⟨y, hy, h⟩ := Option.bind_eq_some_iff.mp h
    obtain ⟨ys, hys, h⟩ := Option.bind_eq_some_iff.mp h
    injection h with h
    subst h
    obtain ⟨h1, h2⟩ := mapM_at hys
    refine ⟨by simp [h1], fun i x hx => ?_⟩
    cases i with
    | zero => simp at hx; subst hx; exact ⟨y, rfl, hy⟩
    | succ i => simpa using h2 i x (by simpa using hx)
theorem cells_at {a : Addr} {n : Nat} {cs : List Value} (h : w.cells? 0 a n = some cs) : cs.length = n ∧ ∀ j v, cs[j]? = some v → w.cell? (a.add j) = some v := by
  simp only [World.cells?, Nat.zero_le, if_true] at h
  obtain ⟨h1, h2⟩ := mapM_at h
  rw [List.length_range] at h1
  refine ⟨h1, fun j v hv => ?_⟩
  have hj : j < n := by rw [← h1]; exact (List.getElem?_eq_some_iff.mp hv).1
  obtain ⟨y, hy, hc⟩ := h2 j j (by simp [hj])
  rw [hv] at hy; injection hy with hy; subst hy; exact hc
theorem light_mem {P : Program} {e : TypeId} {d : DataW H} : ∀ {l : List (DataW H)}, d ∈ l → ∀ x, x ∈ d.weights P e → x ∈ DataW.weightsAll P e l
  | [], h, _, _ => by cases h
  | a :: l, h, x, hx => by
    rw [DataW.weightsAll]
    rcases List.mem_cons.mp h with h | h
    · subst h; exact List.mem_append_left _ hx
    · exact List.mem_append_right _ (light_mem h x hx)
theorem open_row {α : Type} {tS e : TypeId} {sz bt fuel : Nat} (F : α → List Value) (Q : α → Prop) (d0 : α) (hF : ∀ x, (F x).length = sz) (hsz : 0 < sz) (hu : P.underlying tS = some (.slice e)) (hc : P.cellsOf e = sz) (hb : P.bytesOf e = bt)
    (helem : ∀ cs d ps, rd enc P w sp fuel e cs = some (d, ps) → light P e d → ∃ x, cs = F x ∧ Q x)
    {cs : List Value} {d : DataW H} {ps : List MemPlace} (h : rd enc P w sp (fuel + 1) tS cs = some (d, ps)) (hl : light P tS d) :
    ∃ (xs : List α) (a : SH), cs = [sl a xs.length] ∧ rowAt (fun b => b < w.heap.size) sz bt xs.length a (fun i => F (xs.getD i d0)) w ∧ ∀ x, x ∈ xs → Q x := by
  simp only [rd, DataW.trod, hu] at h
  split at h <;> try (simp_all; done)
  · exact ⟨[], (Option.none, 0), rfl, ⟨Nat.zero_le _, by simp, fun h => absurd h (by simp)⟩, fun x hx => by cases hx⟩
  · rename_i e' a len cap heq
    have he : e' = e := by injection heq with heq; injection heq with heq; exact heq.symm
    subst he
    split at h
    · rename_i hcond
      obtain ⟨elems, hel, h⟩ := Option.bind_eq_some_iff.mp h
      obtain ⟨rest, hrest, h⟩ := Option.map_eq_some_iff.mp h
      obtain ⟨h1, h2⟩ := mapM_at hel
      rw [List.length_range] at h1
      have hd : d = .slice (elems.map (·.1)) (rest.map (·.1)) := (Prod.mk.inj h).1.symm
      have hw : ∀ x, x ∈ ((elems.map (·.1)).length + (rest.map (·.1)).length) * P.bytesOf e' :: (DataW.weightsAll P e' (elems.map (·.1)) ++ DataW.weightsAll P e' (rest.map (·.1))) → x ≤ reach := by
        intro x hx
        refine hl x ?_
        rw [hd, DataW.weights, hu]
        exact hx
      have hbytes : len * bt ≤ reach := by
        have := hw _ List.mem_cons_self
        rw [List.length_map, List.length_map, h1, hb] at this
        exact Nat.le_trans (Nat.mul_le_mul_right _ (Nat.le_add_right _ _)) this
      have hex : ∀ i, i < len → ∃ x, w.cells? 0 (a.add (i * sz)) sz = some (F x) ∧ Q x := by
        intro i hi
        obtain ⟨y, hy, hg⟩ := h2 i i (by simp [hi])
        rw [hc] at hg
        obtain ⟨cs, hcs, hg⟩ := Option.bind_eq_some_iff.mp hg
        have hly : light P e' y.1 := fun x hx => hw x (List.mem_cons_of_mem _ (List.mem_append_left _ (light_mem (List.mem_map_of_mem (List.mem_of_getElem? hy)) x hx)))
        obtain ⟨x, hx, hq⟩ := helem cs y.1 y.2 hg hly
        exact ⟨x, hx ▸ hcs, hq⟩
      obtain ⟨xs, hx1, hx2⟩ := choose_list (fun i x => w.cells? 0 (a.add (i * sz)) sz = some (F x) ∧ Q x) len hex
      have hcell : ∀ i, i < len → ∀ j v, (F (xs.getD i d0))[j]? = some v → w.cell? ((a.add (i * sz)).add j) = some v := by
        intro i hi j v hv
        have hxi : xs[i]? = some (xs.getD i d0) := by rw [List.getD_eq_getElem?_getD, List.getElem?_eq_getElem (by omega)]; rfl
        exact (cells_at (hx2 i _ hxi).1).2 j v hv
      refine ⟨xs, (some a, cap), by rw [hx1]; rfl, ?_, fun x hx => ?_⟩
      · rw [hx1]
        refine ⟨hcond.2.1, hbytes, fun hn => ?_⟩
        obtain ⟨v, hv⟩ : ∃ v, (F (xs.getD 0 d0))[0]? = some v := ⟨_, List.getElem?_eq_getElem (by rw [hF]; exact hsz)⟩
        have h0 := hcell 0 hn 0 v hv
        have hadd0 : (a.add (0 * sz)).add 0 = a := by simp [Addr.add]
        rw [hadd0] at h0
        have hspot : a.spot = Option.none := by
          unfold World.cell? at h0
          split at h0
          · split at h0
            · cases h0
            · rename_i hs; simpa using hs
          · cases h0
        have hblk : a.block < w.heap.size := by
          unfold World.cell? at h0
          split at h0
          · rename_i hg; exact (Array.getElem?_eq_some_iff.mp hg).1
          · cases h0
        obtain ⟨ab, ao, as⟩ := a
        simp only at hspot hblk
        subst hspot
        refine ⟨ab, ao, rfl, hblk, fun i hi j v hv => ?_⟩
        have := hcell i hi j v hv
        rwa [Addr.add_lit, Addr.add_lit] at this
      · obtain ⟨i, hi, e⟩ := List.mem_iff_getElem.mp hx
        exact (hx2 i x (by rw [List.getElem?_eq_getElem hi, e])).2
    · cases h
theorem open_intI {t : TypeId} {fuel : Nat} (hu : P.underlying t = some (.int .i64)) {cs : List Value} {d : DataW H} {ps : List MemPlace} (h : rd enc P w sp fuel t cs = some (d, ps)) : ∃ n : Int, cs = [.int .i64 n] ∧ in64 n := by
  cases fuel with
  | zero => cases h
  | succ fuel =>
    obtain ⟨n, h1, _, h2⟩ := DataW.trod_int hu h
    have h1 : cs = [.int .i64 n] := by simpa using h1
    refine ⟨n, h1, ?_⟩
    simp only [Lit.wf, Bool.and_eq_true, decide_eq_true_eq] at h2
    exact ⟨h2.1, h2.2⟩
theorem open_u32 {t : TypeId} {fuel : Nat} (hu : P.underlying t = some (.int .u32)) {cs : List Value} {d : DataW H} {ps : List MemPlace} (h : rd enc P w sp fuel t cs = some (d, ps)) : ∃ n : Nat, cs = [.int .u32 (n : Int)] ∧ n < 4294967296 := by
  cases fuel with
  | zero => cases h
  | succ fuel =>
    obtain ⟨n, h1, _, h2⟩ := DataW.trod_int hu h
    have h1 : cs = [.int .u32 n] := by simpa using h1
    simp only [Lit.wf, Bool.and_eq_true, decide_eq_true_eq] at h2
    have h3 : (0 : Int) ≤ n := h2.1
    have h4 : n ≤ 4294967295 := h2.2
    exact ⟨n.toNat, by rw [h1, Int.toNat_of_nonneg h3], by omega⟩
theorem open_str {t : TypeId} {fuel : Nat} (hu : P.underlying t = some .string) {cs : List Value} {d : DataW H} {ps : List MemPlace} (h : rd enc P w sp fuel t cs = some (d, ps)) (hl : light P t d) : ∃ s : ByteArray, cs = [.string s] ∧ s.size ≤ cap47 := by
  cases fuel with
  | zero => cases h
  | succ fuel =>
    simp only [rd, DataW.trod, hu] at h
    split at h <;> try (simp_all; done)
    rename_i s heq
    split at h
    · injection h with h
      have hd := (Prod.mk.inj h).1.symm
      refine ⟨s, rfl, ?_⟩
      have := hl s.data.toList.length (by rw [hd, DataW.weights]; exact List.mem_cons_self)
      rw [Array.length_toList] at this
      exact Nat.le_trans this (by decide)
    · cases h
theorem open_struct {t : TypeId} {fuel : Nat} {fs : Array Field} {l : List (Nat × TypeId)} (hu : P.underlying t = some (.struct fs)) (hp : fs.toList.map (fun f => (f.offset, f.type)) = l) {cs : List Value} {d : DataW H} {ps : List MemPlace} (h : rd enc P w sp (fuel + 1) t cs = some (d, ps)) (hl : light P t d) :
    cs.length = P.cellsOf t ∧ ∀ (i : Nat) (x : Nat × TypeId), l[i]? = some x → ∃ d' ps', rd enc P w sp fuel x.2 ((cs.drop x.1).take (P.cellsOf x.2)) = some (d', ps') ∧ light P x.2 d' := by
  simp only [rd, DataW.trod, hu] at h
  split at h
  · rename_i hlen
    obtain ⟨xs, hxs, h⟩ := Option.map_eq_some_iff.mp h
    have hd : d = .agg (xs.map (·.1)) := (Prod.mk.inj h).1.symm
    obtain ⟨h1, h2⟩ := mapM_at hxs
    have key : ∀ (ts : List TypeId) (ds : List (DataW H)) (i : Nat) (t : TypeId) (d' : DataW H), ts[i]? = some t → ds[i]? = some d' → ∀ x, x ∈ d'.weights P t → x ∈ DataW.weightsEach P ts ds := by
      intro ts
      induction ts with
      | nil => intro ds i t d' ht; simp at ht
      | cons t1 ts ih =>
        intro ds i t d' ht hdd x hx
        cases ds with
        | nil => simp at hdd
        | cons d1 ds =>
          rw [DataW.weightsEach]
          cases i with
          | zero => simp at ht hdd; subst ht; subst hdd; exact List.mem_append_left _ hx
          | succ i => exact List.mem_append_right _ (ih ds i t d' (by simpa using ht) (by simpa using hdd) x hx)
    refine ⟨hlen, fun i x hx => ?_⟩
    rw [← hp, List.getElem?_map] at hx
    obtain ⟨f, hf, e⟩ := Option.map_eq_some_iff.mp hx
    obtain ⟨y, hy, hg⟩ := h2 i f hf
    subst e
    refine ⟨y.1, y.2, hg, fun z hz => hl z ?_⟩
    rw [hd, DataW.weights, hu]
    exact key _ _ i f.type y.1 (by simp [hf]) (by simp [hy]) z hz
  · cases h
variable [TyF P]
abbrev okw (w : World) : Nat → Prop := fun b => b < w.heap.size
theorem one_of {cs : List Value} {n : Nat} {x : Value} (h : (cs.drop n).take 1 = [x]) : cs[n]? = some x := by
  have := congrArg (·[0]?) h
  simpa [List.getElem?_take, List.getElem?_drop] using this
theorem list_of_get {cs xs : List Value} (hl : cs.length = xs.length) (h : ∀ i, i < xs.length → cs[i]? = xs[i]?) : cs = xs := by
  apply List.ext_getElem? 
  intro i
  by_cases hi : i < xs.length
  · exact h i hi
  · rw [List.getElem?_eq_none (by omega), List.getElem?_eq_none (by omega)]
theorem open_cl {fuel : Nat} {cs : List Value} {d : DataW H} {ps : List MemPlace} (h : rd enc P w sp fuel (TyF.tC P) cs = some (d, ps)) (hl : light P (TyF.tC P) d) : ∃ c : Cl, cs = clCells c ∧ u32 c := by
  cases fuel with
  | zero => cases h
  | succ fuel =>
    obtain ⟨h1, h2⟩ := open_struct TyF.uC TyF.pC h hl
    rw [TyF.c2.1] at h1
    obtain ⟨d0, p0, r0, l0⟩ := h2 0 _ rfl
    obtain ⟨d1, p1, r1, l1⟩ := h2 1 _ rfl
    obtain ⟨a, ha, ha2⟩ := open_u32 TyF.uU r0
    obtain ⟨b, hb, hb2⟩ := open_u32 TyF.uU r1
    simp only [TyF.c1.2.2.1] at ha hb
    have e0 := one_of ha
    have e1 := one_of hb
    refine ⟨⟨a, b⟩, list_of_get (by rw [h1]; rfl) (fun i hi => ?_), ha2, hb2⟩
    match i with
    | 0 => exact e0
    | 1 => exact e1
    | i + 2 => simp [clCells] at hi; omega
theorem open_lC {fuel : Nat} {cs : List Value} {d : DataW H} {ps : List MemPlace} (h : rd enc P w sp fuel (TyF.lC P) cs = some (d, ps)) (hl : light P (TyF.lC P) d) : ∃ (l : List Cl) (a : SH), cs = [sl a l.length] ∧ clsAt (okw w) l a w := by
  cases fuel with
  | zero => cases h
  | succ fuel =>
    obtain ⟨xs, a, h1, h2, h3⟩ := open_row clCells u32 cl0 clCells_len (by omega) TyF.ulC TyF.c2.1 TyF.b2.1 (fun cs d ps h hl => open_cl h hl) h hl
    exact ⟨xs, a, h1, h2, h3⟩
def opT (ok : Nat → Prop) (w : World) (p : TP) : Prop := termAt ok p.1 p.2.1 p.2.2.1 p.2.2.2 w
def opB (ok : Nat → Prop) (w : World) (p : BP) : Prop := brAt ok p.1 p.2.1 p.2.2 w
theorem tl_of {ps : List TP} {a : SH} (h : rowAt (okw w) 6 104 ps.length a (fun i => tpCells (ps.getD i tp0)) w) (hq : ∀ p, p ∈ ps → opT (okw w) w p) : tlAt (okw w) (ps.map (·.1)) a w := by
  refine ⟨fun i => (ps.getD i tp0).2.1, fun i => (ps.getD i tp0).2.2.1, fun i => (ps.getD i tp0).2.2.2, ?_, ?_⟩
  · rw [List.length_map]
    have e2 : (fun i => tc ((ps.map (·.1)).getD i t0) (ps.getD i tp0).2.1 (ps.getD i tp0).2.2.1 (ps.getD i tp0).2.2.2) = fun i => tpCells (ps.getD i tp0) := by
      funext i
      rw [show t0 = (fun p : TP => p.1) tp0 from rfl, getD_map' (fun p : TP => p.1)]
      rfl
    rw [e2]; exact h
  · refine allAt_of fun i t hi => ?_
    rw [List.getElem?_map] at hi
    obtain ⟨p, hp, e⟩ := Option.map_eq_some_iff.mp hi
    have e3 : ps.getD i tp0 = p := by rw [List.getD_eq_getElem?_getD, hp]; rfl
    rw [e3, ← e]
    exact hq p (List.mem_of_getElem? hp)
theorem bl_of {ps : List BP} {a : SH} (h : rowAt (okw w) 2 48 ps.length a (fun i => bpCells (ps.getD i bp0)) w) (hq : ∀ p, p ∈ ps → opB (okw w) w p) : blAt (okw w) (ps.map (·.1)) a w := by
  refine ⟨fun i => (ps.getD i bp0).2.1, fun i => (ps.getD i bp0).2.2, ?_, ?_⟩
  · rw [List.length_map]
    have e2 : (fun i => bc ((ps.map (·.1)).getD i br0) (ps.getD i bp0).2.1 (ps.getD i bp0).2.2) = fun i => bpCells (ps.getD i bp0) := by
      funext i
      rw [show br0 = (fun p : BP => p.1) bp0 from rfl, getD_map' (fun p : BP => p.1)]
      rfl
    rw [e2]; exact h
  · refine brsAt_of fun i t hi => ?_
    rw [List.getElem?_map] at hi
    obtain ⟨p, hp, e⟩ := Option.map_eq_some_iff.mp hi
    have e3 : ps.getD i bp0 = p := by rw [List.getD_eq_getElem?_getD, hp]; rfl
    rw [e3, ← e]
    exact hq p (List.mem_of_getElem? hp)
theorem open_both : ∀ (fuel : Nat),
    (∀ cs (d : DataW H) ps, rd enc P w sp fuel (TyF.tT P) cs = some (d, ps) → light P (TyF.tT P) d → ∃ p : TP, cs = tpCells p ∧ opT (okw w) w p) ∧
    (∀ cs (d : DataW H) ps, rd enc P w sp fuel (TyF.lT P) cs = some (d, ps) → light P (TyF.lT P) d → ∃ (l : List T) (a : SH), cs = [sl a l.length] ∧ tlAt (okw w) l a w) ∧
    (∀ cs (d : DataW H) ps, rd enc P w sp fuel (TyF.tB P) cs = some (d, ps) → light P (TyF.tB P) d → ∃ p : BP, cs = bpCells p ∧ opB (okw w) w p) ∧
    (∀ cs (d : DataW H) ps, rd enc P w sp fuel (TyF.lB P) cs = some (d, ps) → light P (TyF.lB P) d → ∃ (l : List Br) (a : SH), cs = [sl a l.length] ∧ blAt (okw w) l a w)
  | 0 => ⟨fun _ _ _ h _ => (by cases h), fun _ _ _ h _ => (by cases h), fun _ _ _ h _ => (by cases h), fun _ _ _ h _ => (by cases h)⟩
  | fuel + 1 => by
    obtain ⟨iT, ilT, iB, ilB⟩ := open_both fuel
    refine ⟨fun cs d ps h hl => ?_, fun cs d ps h hl => ?_, fun cs d ps h hl => ?_, fun cs d ps h hl => ?_⟩
    · obtain ⟨h1, h2⟩ := open_struct TyF.uT TyF.pT h hl
      rw [TyF.c2.2.1] at h1
      obtain ⟨d0, p0, r0, l0⟩ := h2 0 _ rfl
      obtain ⟨d1, p1, r1, l1⟩ := h2 1 _ rfl
      obtain ⟨d2, p2, r2, l2⟩ := h2 2 _ rfl
      obtain ⟨d3, p3, r3, l3⟩ := h2 3 _ rfl
      obtain ⟨d4, p4, r4, l4⟩ := h2 4 _ rfl
      obtain ⟨d5, p5, r5, l5⟩ := h2 5 _ rfl
      obtain ⟨k, e0, hk⟩ := open_intI TyF.uI r0
      obtain ⟨n, e1, hn⟩ := open_intI TyF.uI r1
      obtain ⟨nm, e2, hnm⟩ := open_str TyF.uS r2 l2
      obtain ⟨r, vr, e3, hr⟩ := open_lC r3 l3
      obtain ⟨ks, vk, e4, hks⟩ := ilT _ _ _ r4 l4
      obtain ⟨ss, vs, e5, hss⟩ := ilB _ _ _ r5 l5
      obtain ⟨c1, c2, c3, c4, c5, c6⟩ := TyF.c1 (P := P)
      simp only [c1, c2, c4, c5, c6] at e0 e1 e2 e3 e4 e5
      have f0 := one_of e0
      have f1 := one_of e1
      have f2 := one_of e2
      have f3 := one_of e3
      have f4 := one_of e4
      have f5 := one_of e5
      refine ⟨(.mk k n nm r ks ss, vr, vk, vs), list_of_get (by rw [h1]; rfl) (fun i hi => ?_), termAt_mk hk hn hnm hr hks hss⟩
      match i with
      | 0 => exact f0
      | 1 => exact f1
      | 2 => exact f2
      | 3 => exact f3
      | 4 => exact f4
      | 5 => exact f5
      | i + 6 => simp [tpCells, tc] at hi; omega
    · obtain ⟨xs, a, h1, h2, h3⟩ := open_row tpCells (opT (okw w) w) tp0 (fun _ => rfl) (by omega) TyF.ulT TyF.c2.2.1 TyF.b2.2.1 (fun cs d ps h hl => iT cs d ps h hl) h hl
      exact ⟨xs.map (·.1), a, by rw [h1, List.length_map], tl_of h2 h3⟩
    · obtain ⟨h1, h2⟩ := open_struct TyF.uB TyF.pB h hl
      rw [TyF.c2.2.2] at h1
      obtain ⟨d0, p0, r0, l0⟩ := h2 0 _ rfl
      obtain ⟨d1, p1, r1, l1⟩ := h2 1 _ rfl
      obtain ⟨f, vf, e3, hr⟩ := open_lC r0 l0
      obtain ⟨ks, vk, e4, hks⟩ := ilT _ _ _ r1 l1
      obtain ⟨c1, c2, c3, c4, c5, c6⟩ := TyF.c1 (P := P)
      simp only [c4, c5] at e3 e4
      have f0 := one_of e3
      have f1 := one_of e4
      refine ⟨(.mk f ks, vf, vk), list_of_get (by rw [h1]; rfl) (fun i hi => ?_), brAt_mk hr hks⟩
      match i with
      | 0 => exact f0
      | 1 => exact f1
      | i + 2 => simp [bpCells, bc] at hi; omega
    · obtain ⟨xs, a, h1, h2, h3⟩ := open_row bpCells (opB (okw w) w) bp0 (fun _ => rfl) (by omega) TyF.ulB TyF.c2.2.2 TyF.b2.2.2 (fun cs d ps h hl => iB cs d ps h hl) h hl
      exact ⟨xs.map (·.1), a, by rw [h1, List.length_map], bl_of h2 h3⟩
end
end Go.Hy
