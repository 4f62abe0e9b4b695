/- Contracts of this program's functions and the laws that they need: a separation logic over the machine's rules, one theorem each (partly printed by a program of this repository). -/
import Derived.ProofKit
import Derived.HandedShaped
import Derived.DeepKeys4
import Derived.Carry
import Derived.WideLaws
import Derived.MapKept
import Derived.WideShapes
import Derived.ArgAppend
import Derived.Test.YtpfjlbopkhdebaaGreatDoorP2
set_option linter.unusedVariables false
set_option linter.unusedSimpArgs false
set_option linter.unusedSectionVars false
namespace Go.Hy
open Go
/-! ### Arguments: what a reading of a term tells -/
/-- The types of terms, in a program. -/
class TyF (P : Program) where
  tI : TypeId
  tS : TypeId
  tU : TypeId
  tC : TypeId
  tT : TypeId
  tB : TypeId
  lC : TypeId
  lT : TypeId
  lB : TypeId
  fC : Array Field
  fT : Array Field
  fB : Array Field
  uI : P.underlying tI = some (.int .i64)
  uS : P.underlying tS = some .string
  uU : P.underlying tU = some (.int .u32)
  uC : P.underlying tC = some (.struct fC)
  uT : P.underlying tT = some (.struct fT)
  uB : P.underlying tB = some (.struct fB)
  ulC : P.underlying lC = some (.slice tC)
  ulT : P.underlying lT = some (.slice tT)
  ulB : P.underlying lB = some (.slice tB)
  pC : fC.toList.map (fun f => (f.offset, f.type)) = [(0, tU), (1, tU)]
  pT : fT.toList.map (fun f => (f.offset, f.type)) = [(0, tI), (1, tI), (2, tS), (3, lC), (4, lT), (5, lB)]
  pB : fB.toList.map (fun f => (f.offset, f.type)) = [(0, lC), (1, lT)]
  c1 : P.cellsOf tI = 1 ∧ P.cellsOf tS = 1 ∧ P.cellsOf tU = 1 ∧ P.cellsOf lC = 1 ∧ P.cellsOf lT = 1 ∧ P.cellsOf lB = 1
  c2 : P.cellsOf tC = 2 ∧ P.cellsOf tT = 6 ∧ P.cellsOf tB = 2
  b2 : P.bytesOf tC = 8 ∧ P.bytesOf tT = 104 ∧ P.bytesOf tB = 48
section
variable {P : Program} {H : Type} {enc : TypeId × Value → H} {w : World} {sp : Nat → Bool}
abbrev rd (enc : TypeId × Value → H) (P : Program) (w : World) (sp : Nat → Bool) := DataW.trod enc P w 0 sp true
def light (P : Program) (t : TypeId) (d : DataW H) : Prop := ∀ x, x ∈ d.weights P t → x ≤ reach
theorem choose_list {α : Type} (Q : Nat → α → Prop) : ∀ (n : Nat), (∀ i, i < n → ∃ x, Q i x) → ∃ xs : List α, xs.length = n ∧ ∀ i x, xs[i]? = some x → Q i x
  | 0, _ => ⟨[], rfl, fun i x h => by simp at h⟩
  | n + 1, h => by
    obtain ⟨xs, h1, h2⟩ := choose_list Q n (fun i hi => h i (by omega))
    obtain ⟨x, hx⟩ := h n (by omega)
    refine ⟨xs ++ [x], by simp [h1], fun i y hy => ?_⟩
    by_cases hi : i < n
    · rw [List.getElem?_append_left (by omega)] at hy; exact h2 i y hy
    · rw [List.getElem?_append_right (by omega)] at hy
      have : i - xs.length = 0 := by
        rcases Nat.eq_zero_or_pos (i - xs.length) with h0 | h0
        · exact h0
        · rw [List.getElem?_eq_none (by simp; omega)] at hy; cases hy
      rw [this] at hy
      simp at hy
      have e : i = n := by omega
      subst e; subst hy; exact hx
theorem mapM_at {α β : Type} {g : α → Option β} : ∀ {l : List α} {r : List β}, l.mapM g = some r → r.length = l.length ∧ ∀ (i : Nat) (x : α), l[i]? = some x → ∃ y, r[i]? = some y ∧ g x = some y
  | [], r, h => by simp at h; subst h; exact ⟨rfl, fun i x h => by simp at h⟩
  | a :: l, r, h => by
    simp only [List.mapM_cons, Option.bind_eq_bind, Option.pure_def] at h
    obtain ⟨y, hy, h⟩ := Option.bind_eq_some_iff.mp h
    obtain ⟨ys, hys, h⟩ := Option.bind_eq_some_iff.mp h
    injection h with h
    subst h
    obtain ⟨h1, h2⟩ := mapM_at hys
    refine ⟨by simp [h1], fun i x hx => ?_⟩
    cases i with
    | zero => simp at hx; subst hx; exact ⟨y, rfl, hy⟩
    | succ i => simpa using h2 i x (by simpa using hx)
theorem cells_at {a : Addr} {n : Nat} {cs : List Value} (h : w.cells? 0 a n = some cs) : cs.length = n ∧ ∀ j v, cs[j]? = some v → w.cell? (a.add j) = some v := by
  simp only [World.cells?, Nat.zero_le, if_true] at h
  obtain ⟨h1, h2⟩ := mapM_at h
  rw [List.length_range] at h1
  refine ⟨h1, fun j v hv => ?_⟩
  have hj : j < n := by rw [← h1]; exact (List.getElem?_eq_some_iff.mp hv).1
  obtain ⟨y, hy, hc⟩ := h2 j j (by simp [hj])
  rw [hv] at hy; injection hy with hy; subst hy; exact hc
theorem light_mem {P : Program} {e : TypeId} {d : DataW H} : ∀ {l : List (DataW H)}, d ∈ l → ∀ x, x ∈ d.weights P e → x ∈ DataW.weightsAll P e l
  | [], h, _, _ => by cases h
  | a :: l, h, x, hx => by
    rw [DataW.weightsAll]
    rcases List.mem_cons.mp h with h | h
    · subst h; exact List.mem_append_left _ hx
    · exact List.mem_append_right _ (light_mem h x hx)
theorem open_row {α : Type} {tS e : TypeId} {sz bt fuel : Nat} (F : α → List Value) (Q : α → Prop) (d0 : α) (hF : ∀ x, (F x).length = sz) (hsz : 0 < sz) (hu : P.underlying tS = some (.slice e)) (hc : P.cellsOf e = sz) (hb : P.bytesOf e = bt)
    (helem : ∀ cs d ps, rd enc P w sp fuel e cs = some (d, ps) → light P e d → ∃ x, cs = F x ∧ Q x)
    {cs : List Value} {d : DataW H} {ps : List MemPlace} (h : rd enc P w sp (fuel + 1) tS cs = some (d, ps)) (hl : light P tS d) :
    ∃ (xs : List α) (a : SH), cs = [sl a xs.length] ∧ rowAt (fun b => b < w.heap.size) sz bt xs.length a (fun i => F (xs.getD i d0)) w ∧ ∀ x, x ∈ xs → Q x := by
  simp only [rd, DataW.trod, hu] at h
  split at h <;> try (simp_all; done)
  · exact ⟨[], (Option.none, 0), rfl, ⟨Nat.zero_le _, by simp, fun h => absurd h (by simp)⟩, fun x hx => by cases hx⟩
  · rename_i e' a len cap heq
    have he : e' = e := by injection heq with heq; injection heq with heq; exact heq.symm
    subst he
    split at h
    · rename_i hcond
      obtain ⟨elems, hel, h⟩ := Option.bind_eq_some_iff.mp h
      obtain ⟨rest, hrest, h⟩ := Option.map_eq_some_iff.mp h
      obtain ⟨h1, h2⟩ := mapM_at hel
      rw [List.length_range] at h1
      have hd : d = .slice (elems.map (·.1)) (rest.map (·.1)) := (Prod.mk.inj h).1.symm
      have hw : ∀ x, x ∈ ((elems.map (·.1)).length + (rest.map (·.1)).length) * P.bytesOf e' :: (DataW.weightsAll P e' (elems.map (·.1)) ++ DataW.weightsAll P e' (rest.map (·.1))) → x ≤ reach := by
        intro x hx
        refine hl x ?_
        rw [hd, DataW.weights, hu]
        exact hx
      have hbytes : len * bt ≤ reach := by
        have := hw _ List.mem_cons_self
        rw [List.length_map, List.length_map, h1, hb] at this
        exact Nat.le_trans (Nat.mul_le_mul_right _ (Nat.le_add_right _ _)) this
      have hex : ∀ i, i < len → ∃ x, w.cells? 0 (a.add (i * sz)) sz = some (F x) ∧ Q x := by
        intro i hi
        obtain ⟨y, hy, hg⟩ := h2 i i (by simp [hi])
        rw [hc] at hg
        obtain ⟨cs, hcs, hg⟩ := Option.bind_eq_some_iff.mp hg
        have hly : light P e' y.1 := fun x hx => hw x (List.mem_cons_of_mem _ (List.mem_append_left _ (light_mem (List.mem_map_of_mem (List.mem_of_getElem? hy)) x hx)))
        obtain ⟨x, hx, hq⟩ := helem cs y.1 y.2 hg hly
        exact ⟨x, hx ▸ hcs, hq⟩
      obtain ⟨xs, hx1, hx2⟩ := choose_list (fun i x => w.cells? 0 (a.add (i * sz)) sz = some (F x) ∧ Q x) len hex
      have hcell : ∀ i, i < len → ∀ j v, (F (xs.getD i d0))[j]? = some v → w.cell? ((a.add (i * sz)).add j) = some v := by
        intro i hi j v hv
        have hxi : xs[i]? = some (xs.getD i d0) := by rw [List.getD_eq_getElem?_getD, List.getElem?_eq_getElem (by omega)]; rfl
        exact (cells_at (hx2 i _ hxi).1).2 j v hv
      refine ⟨xs, (some a, cap), by rw [hx1]; rfl, ?_, fun x hx => ?_⟩
      · rw [hx1]
        refine ⟨hcond.2.1, hbytes, fun hn => ?_⟩
        obtain ⟨v, hv⟩ : ∃ v, (F (xs.getD 0 d0))[0]? = some v := ⟨_, List.getElem?_eq_getElem (by rw [hF]; exact hsz)⟩
        have h0 := hcell 0 hn 0 v hv
        have hadd0 : (a.add (0 * sz)).add 0 = a := by simp [Addr.add]
        rw [hadd0] at h0
        have hspot : a.spot = Option.none := by
          unfold World.cell? at h0
          split at h0
          · split at h0
            · cases h0
            · rename_i hs; simpa using hs
          · cases h0
        have hblk : a.block < w.heap.size := by
          unfold World.cell? at h0
          split at h0
          · rename_i hg; exact (Array.getElem?_eq_some_iff.mp hg).1
          · cases h0
        obtain ⟨ab, ao, as⟩ := a
        simp only at hspot hblk
        subst hspot
        refine ⟨ab, ao, rfl, hblk, fun i hi j v hv => ?_⟩
        have := hcell i hi j v hv
        rwa [Addr.add_lit, Addr.add_lit] at this
      · obtain ⟨i, hi, e⟩ := List.mem_iff_getElem.mp hx
        exact (hx2 i x (by rw [List.getElem?_eq_getElem hi, e])).2
    · cases h
theorem open_intI {t : TypeId} {fuel : Nat} (hu : P.underlying t = some (.int .i64)) {cs : List Value} {d : DataW H} {ps : List MemPlace} (h : rd enc P w sp fuel t cs = some (d, ps)) : ∃ n : Int, cs = [.int .i64 n] ∧ in64 n := by
  cases fuel with
  | zero => cases h
  | succ fuel =>
    obtain ⟨n, h1, _, h2⟩ := DataW.trod_int hu h
    have h1 : cs = [.int .i64 n] := by simpa using h1
    refine ⟨n, h1, ?_⟩
    simp only [Lit.wf, Bool.and_eq_true, decide_eq_true_eq] at h2
    exact ⟨h2.1, h2.2⟩
theorem open_u32 {t : TypeId} {fuel : Nat} (hu : P.underlying t = some (.int .u32)) {cs : List Value} {d : DataW H} {ps : List MemPlace} (h : rd enc P w sp fuel t cs = some (d, ps)) : ∃ n : Nat, cs = [.int .u32 (n : Int)] ∧ n < 4294967296 := by
  cases fuel with
  | zero => cases h
  | succ fuel =>
    obtain ⟨n, h1, _, h2⟩ := DataW.trod_int hu h
    have h1 : cs = [.int .u32 n] := by simpa using h1
    simp only [Lit.wf, Bool.and_eq_true, decide_eq_true_eq] at h2
    have h3 : (0 : Int) ≤ n := h2.1
    have h4 : n ≤ 4294967295 := h2.2
    exact ⟨n.toNat, by rw [h1, Int.toNat_of_nonneg h3], by omega⟩
theorem open_str {t : TypeId} {fuel : Nat} (hu : P.underlying t = some .string) {cs : List Value} {d : DataW H} {ps : List MemPlace} (h : rd enc P w sp fuel t cs = some (d, ps)) (hl : light P t d) : ∃ s : ByteArray, cs = [.string s] ∧ s.size ≤ cap47 := by
  cases fuel with
  | zero => cases h
  | succ fuel =>
    simp only [rd, DataW.trod, hu] at h
    split at h <;> try (simp_all; done)
    rename_i s heq
    split at h
    · injection h with h
      have hd := (Prod.mk.inj h).1.symm
      refine ⟨s, rfl, ?_⟩
      have := hl s.data.toList.length (by rw [hd, DataW.weights]; exact List.mem_cons_self)
      rw [Array.length_toList] at this
      exact Nat.le_trans this (by decide)
    · cases h
theorem open_struct {t : TypeId} {fuel : Nat} {fs : Array Field} {l : List (Nat × TypeId)} (hu : P.underlying t = some (.struct fs)) (hp : fs.toList.map (fun f => (f.offset, f.type)) = l) {cs : List Value} {d : DataW H} {ps : List MemPlace} (h : rd enc P w sp (fuel + 1) t cs = some (d, ps)) (hl : light P t d) :
    cs.length = P.cellsOf t ∧ ∀ (i : Nat) (x : Nat × TypeId), l[i]? = some x → ∃ d' ps', rd enc P w sp fuel x.2 ((cs.drop x.1).take (P.cellsOf x.2)) = some (d', ps') ∧ light P x.2 d' := by
  simp only [rd, DataW.trod, hu] at h
  split at h
  · rename_i hlen
    obtain ⟨xs, hxs, h⟩ := Option.map_eq_some_iff.mp h
    have hd : d = .agg (xs.map (·.1)) := (Prod.mk.inj h).1.symm
    obtain ⟨h1, h2⟩ := mapM_at hxs
    have key : ∀ (ts : List TypeId) (ds : List (DataW H)) (i : Nat) (t : TypeId) (d' : DataW H), ts[i]? = some t → ds[i]? = some d' → ∀ x, x ∈ d'.weights P t → x ∈ DataW.weightsEach P ts ds := by
      intro ts
      induction ts with
      | nil => intro ds i t d' ht; simp at ht
      | cons t1 ts ih =>
        intro ds i t d' ht hdd x hx
        cases ds with
        | nil => simp at hdd
        | cons d1 ds =>
          rw [DataW.weightsEach]
          cases i with
          | zero => simp at ht hdd; subst ht; subst hdd; exact List.mem_append_left _ hx
          | succ i => exact List.mem_append_right _ (ih ds i t d' (by simpa using ht) (by simpa using hdd) x hx)
    refine ⟨hlen, fun i x hx => ?_⟩
    rw [← hp, List.getElem?_map] at hx
    obtain ⟨f, hf, e⟩ := Option.map_eq_some_iff.mp hx
    obtain ⟨y, hy, hg⟩ := h2 i f hf
    subst e
    refine ⟨y.1, y.2, hg, fun z hz => hl z ?_⟩
    rw [hd, DataW.weights, hu]
    exact key _ _ i f.type y.1 (by simp [hf]) (by simp [hy]) z hz
  · cases h
variable [TyF P]
abbrev okw (w : World) : Nat → Prop := fun b => b < w.heap.size
theorem one_of {cs : List Value} {n : Nat} {x : Value} (h : (cs.drop n).take 1 = [x]) : cs[n]? = some x := by
  have := congrArg (·[0]?) h
  simpa [List.getElem?_take, List.getElem?_drop] using this
theorem list_of_get {cs xs : List Value} (hl : cs.length = xs.length) (h : ∀ i, i < xs.length → cs[i]? = xs[i]?) : cs = xs := by
  apply List.ext_getElem? 
  intro i
  by_cases hi : i < xs.length
  · exact h i hi
  · rw [List.getElem?_eq_none (by omega), List.getElem?_eq_none (by omega)]
theorem open_cl {fuel : Nat} {cs : List Value} {d : DataW H} {ps : List MemPlace} (h : rd enc P w sp fuel (TyF.tC P) cs = some (d, ps)) (hl : light P (TyF.tC P) d) : ∃ c : Cl, cs = clCells c ∧ u32 c := by
  cases fuel with
  | zero => cases h
  | succ fuel =>
    obtain ⟨h1, h2⟩ := open_struct TyF.uC TyF.pC h hl
    rw [TyF.c2.1] at h1
    obtain ⟨d0, p0, r0, l0⟩ := h2 0 _ rfl
    obtain ⟨d1, p1, r1, l1⟩ := h2 1 _ rfl
    obtain ⟨a, ha, ha2⟩ := open_u32 TyF.uU r0
    obtain ⟨b, hb, hb2⟩ := open_u32 TyF.uU r1
    simp only [TyF.c1.2.2.1] at ha hb
    have e0 := one_of ha
    have e1 := one_of hb
    refine ⟨⟨a, b⟩, list_of_get (by rw [h1]; rfl) (fun i hi => ?_), ha2, hb2⟩
    match i with
    | 0 => exact e0
    | 1 => exact e1
    | i + 2 => simp [clCells] at hi; omega
theorem open_lC {fuel : Nat} {cs : List Value} {d : DataW H} {ps : List MemPlace} (h : rd enc P w sp fuel (TyF.lC P) cs = some (d, ps)) (hl : light P (TyF.lC P) d) : ∃ (l : List Cl) (a : SH), cs = [sl a l.length] ∧ clsAt (okw w) l a w := by
  cases fuel with
  | zero => cases h
  | succ fuel =>
    obtain ⟨xs, a, h1, h2, h3⟩ := open_row clCells u32 cl0 clCells_len (by omega) TyF.ulC TyF.c2.1 TyF.b2.1 (fun cs d ps h hl => open_cl h hl) h hl
    exact ⟨xs, a, h1, h2, h3⟩
def opT (ok : Nat → Prop) (w : World) (p : TP) : Prop := termAt ok p.1 p.2.1 p.2.2.1 p.2.2.2 w
def opB (ok : Nat → Prop) (w : World) (p : BP) : Prop := brAt ok p.1 p.2.1 p.2.2 w
theorem tl_of {ps : List TP} {a : SH} (h : rowAt (okw w) 6 104 ps.length a (fun i => tpCells (ps.getD i tp0)) w) (hq : ∀ p, p ∈ ps → opT (okw w) w p) : tlAt (okw w) (ps.map (·.1)) a w := by
  refine ⟨fun i => (ps.getD i tp0).2.1, fun i => (ps.getD i tp0).2.2.1, fun i => (ps.getD i tp0).2.2.2, ?_, ?_⟩
  · rw [List.length_map]
    have e2 : (fun i => tc ((ps.map (·.1)).getD i t0) (ps.getD i tp0).2.1 (ps.getD i tp0).2.2.1 (ps.getD i tp0).2.2.2) = fun i => tpCells (ps.getD i tp0) := by
      funext i
      rw [show t0 = (fun p : TP => p.1) tp0 from rfl, getD_map' (fun p : TP => p.1)]
      rfl
    rw [e2]; exact h
  · refine allAt_of fun i t hi => ?_
    rw [List.getElem?_map] at hi
    obtain ⟨p, hp, e⟩ := Option.map_eq_some_iff.mp hi
    have e3 : ps.getD i tp0 = p := by rw [List.getD_eq_getElem?_getD, hp]; rfl
    rw [e3, ← e]
    exact hq p (List.mem_of_getElem? hp)
theorem bl_of {ps : List BP} {a : SH} (h : rowAt (okw w) 2 48 ps.length a (fun i => bpCells (ps.getD i bp0)) w) (hq : ∀ p, p ∈ ps → opB (okw w) w p) : blAt (okw w) (ps.map (·.1)) a w := by
  refine ⟨fun i => (ps.getD i bp0).2.1, fun i => (ps.getD i bp0).2.2, ?_, ?_⟩
  · rw [List.length_map]
    have e2 : (fun i => bc ((ps.map (·.1)).getD i br0) (ps.getD i bp0).2.1 (ps.getD i bp0).2.2) = fun i => bpCells (ps.getD i bp0) := by
      funext i
      rw [show br0 = (fun p : BP => p.1) bp0 from rfl, getD_map' (fun p : BP => p.1)]
      rfl
    rw [e2]; exact h
  · refine brsAt_of fun i t hi => ?_
    rw [List.getElem?_map] at hi
    obtain ⟨p, hp, e⟩ := Option.map_eq_some_iff.mp hi
    have e3 : ps.getD i bp0 = p := by rw [List.getD_eq_getElem?_getD, hp]; rfl
    rw [e3, ← e]
    exact hq p (List.mem_of_getElem? hp)
theorem open_both : ∀ (fuel : Nat),
    (∀ cs (d : DataW H) ps, rd enc P w sp fuel (TyF.tT P) cs = some (d, ps) → light P (TyF.tT P) d → ∃ p : TP, cs = tpCells p ∧ opT (okw w) w p) ∧
    (∀ cs (d : DataW H) ps, rd enc P w sp fuel (TyF.lT P) cs = some (d, ps) → light P (TyF.lT P) d → ∃ (l : List T) (a : SH), cs = [sl a l.length] ∧ tlAt (okw w) l a w) ∧
    (∀ cs (d : DataW H) ps, rd enc P w sp fuel (TyF.tB P) cs = some (d, ps) → light P (TyF.tB P) d → ∃ p : BP, cs = bpCells p ∧ opB (okw w) w p) ∧
    (∀ cs (d : DataW H) ps, rd enc P w sp fuel (TyF.lB P) cs = some (d, ps) → light P (TyF.lB P) d → ∃ (l : List Br) (a : SH), cs = [sl a l.length] ∧ blAt (okw w) l a w)
  | 0 => ⟨fun _ _ _ h _ => (by cases h), fun _ _ _ h _ => (by cases h), fun _ _ _ h _ => (by cases h), fun _ _ _ h _ => (by cases h)⟩
  | fuel + 1 => by
    obtain ⟨iT, ilT, iB, ilB⟩ := open_both fuel
    refine ⟨fun cs d ps h hl => ?_, fun cs d ps h hl => ?_, fun cs d ps h hl => ?_, fun cs d ps h hl => ?_⟩
    · obtain ⟨h1, h2⟩ := open_struct TyF.uT TyF.pT h hl
      rw [TyF.c2.2.1] at h1
      obtain ⟨d0, p0, r0, l0⟩ := h2 0 _ rfl
      obtain ⟨d1, p1, r1, l1⟩ := h2 1 _ rfl
      obtain ⟨d2, p2, r2, l2⟩ := h2 2 _ rfl
      obtain ⟨d3, p3, r3, l3⟩ := h2 3 _ rfl
      obtain ⟨d4, p4, r4, l4⟩ := h2 4 _ rfl
      obtain ⟨d5, p5, r5, l5⟩ := h2 5 _ rfl
      obtain ⟨k, e0, hk⟩ := open_intI TyF.uI r0
      obtain ⟨n, e1, hn⟩ := open_intI TyF.uI r1
      obtain ⟨nm, e2, hnm⟩ := open_str TyF.uS r2 l2
      obtain ⟨r, vr, e3, hr⟩ := open_lC r3 l3
      obtain ⟨ks, vk, e4, hks⟩ := ilT _ _ _ r4 l4
      obtain ⟨ss, vs, e5, hss⟩ := ilB _ _ _ r5 l5
      obtain ⟨c1, c2, c3, c4, c5, c6⟩ := TyF.c1 (P := P)
      simp only [c1, c2, c4, c5, c6] at e0 e1 e2 e3 e4 e5
      have f0 := one_of e0
      have f1 := one_of e1
      have f2 := one_of e2
      have f3 := one_of e3
      have f4 := one_of e4
      have f5 := one_of e5
      refine ⟨(.mk k n nm r ks ss, vr, vk, vs), list_of_get (by rw [h1]; rfl) (fun i hi => ?_), termAt_mk hk hn hnm hr hks hss⟩
      match i with
      | 0 => exact f0
      | 1 => exact f1
      | 2 => exact f2
      | 3 => exact f3
      | 4 => exact f4
      | 5 => exact f5
      | i + 6 => simp [tpCells, tc] at hi; omega
    · obtain ⟨xs, a, h1, h2, h3⟩ := open_row tpCells (opT (okw w) w) tp0 (fun _ => rfl) (by omega) TyF.ulT TyF.c2.2.1 TyF.b2.2.1 (fun cs d ps h hl => iT cs d ps h hl) h hl
      exact ⟨xs.map (·.1), a, by rw [h1, List.length_map], tl_of h2 h3⟩
    · obtain ⟨h1, h2⟩ := open_struct TyF.uB TyF.pB h hl
      rw [TyF.c2.2.2] at h1
      obtain ⟨d0, p0, r0, l0⟩ := h2 0 _ rfl
      obtain ⟨d1, p1, r1, l1⟩ := h2 1 _ rfl
      obtain ⟨f, vf, e3, hr⟩ := open_lC r0 l0
      obtain ⟨ks, vk, e4, hks⟩ := ilT _ _ _ r1 l1
      obtain ⟨c1, c2, c3, c4, c5, c6⟩ := TyF.c1 (P := P)
      simp only [c4, c5] at e3 e4
      have f0 := one_of e3
      have f1 := one_of e4
      refine ⟨(.mk f ks, vf, vk), list_of_get (by rw [h1]; rfl) (fun i hi => ?_), brAt_mk hr hks⟩
      match i with
      | 0 => exact f0
      | 1 => exact f1
      | i + 2 => simp [bpCells, bc] at hi; omega
    · obtain ⟨xs, a, h1, h2, h3⟩ := open_row bpCells (opB (okw w) w) bp0 (fun _ => rfl) (by omega) TyF.ulB TyF.c2.2.2 TyF.b2.2.2 (fun cs d ps h hl => iB cs d ps h hl) h hl
      exact ⟨xs.map (·.1), a, by rw [h1, List.length_map], bl_of h2 h3⟩
end
end Go.Hy
namespace Go.Hy
open Go Go.ChangeShapes Go.RowKit
/-! ### From a contract to a row -/
theorem Spec.calls {P : Program} {f : FuncId} {args : Array Value} {pre : List Fact} {X : Type} {val : X → Value} {N : X → List Fact} {Ms1 : X → List Res} (h : Spec P f args pre [] val N Ms1) (hv : ∀ x, val x = .bool true) {W : World} (hp : ∀ F, F ∈ pre → F.f (okw W) W) :
    Calls P f args W fun e W' => e = .returned (.bool true) ∧ Below W.heap.size W W' := by
  refine (h (okw W) W (fun b hb => ⟨hb, domAll_nil b⟩) ⟨Chg.refl _ _, fun F hF => F.mono _ _ W (fun b hb => ⟨.inl hb, hb, domAll_nil b⟩) (hp F hF), fun m hm => (by cases hm), fun m hm => (by cases hm), List.Pairwise.nil⟩).mono ?_
  intro e W' ⟨x, he, hs⟩
  exact ⟨by rw [he, hv x], ⟨hs.chg.os, hs.chg.tape, hs.chg.output, hs.chg.size, fun k hk => hs.chg.block k hk (domAll_nil k)⟩⟩
theorem trodAll_stays {P : Program} {H : Type} {enc : TypeId × Value → H} (hl : laidOutB P = true) {W W' : World} (hb : Below W.heap.size W W') : ∀ {ts : List TypeId} {vs : List Value} {ds : List (DataW H)} {ps : List MemPlace}, (∀ t, t ∈ ts → P.readableRec t = true ∧ t < P.types.size) →
    DataW.TrodAll enc P W 0 (fun _ => true) true ts vs ds ps → (∀ x ∈ ps, x.block < W.heap.size) → DataW.TrodAll enc P W' 0 (fun b => decide (b < W.heap.size)) true ts vs ds ps
  | [], _, _, _, _, h, _ => by
    obtain ⟨rfl, rfl, rfl⟩ := trodAll_nil h
    exact rfl
  | t :: ts, _, _, _, ht, h, hlt => by
    obtain ⟨v, vs1, d, ds1, a, b, rfl, rfl, rfl, h1, h2⟩ := trodAll_cons h
    have h3 := ht t List.mem_cons_self
    exact ⟨a, b, Below.trod hl h3.1 h3.2 h1 hb (fun x hx => hlt x (List.mem_append_left _ hx)), trodAll_stays hl hb (fun t' h' => ht t' (List.mem_cons_of_mem _ h')) h2 (fun x hx => hlt x (List.mem_append_right _ hx)), rfl⟩
end Go.Hy
namespace Go.Hy
open Go
/-! ### A map from clauses to bools that has 'true' alone -/
abbrev keyV (c : Cl) : Value := .agg (clCells c).toArray
class TabM (P : Program) [TyF P] where
  law : WideMaps.KeyLaw P (TyF.tC P)
  kt : P.keyType (TyF.tC P) = true
  names : (TyF.fC P).all (·.name != "_") = true
  npos : 0 < P.types.size
section
variable {P : Program} [Tab P] [TyF P] [TabM P] {B : Base} {σ : Nat → Value} {Γ : List Fact} {Ms : List Res} {ty : TypeId} {x y z : Operand}
theorem keyOf_cl {c : Cl} (hc : u32 c) : ∃ l, keyOf P (TyF.tC P) (keyV c) = some l := by
  have hpos : ∃ D, P.types.size + 1 = D + 1 + 1 := ⟨P.types.size - 1, by have := TabM.npos (P := P); omega⟩
  obtain ⟨D, hD⟩ := hpos
  obtain ⟨f0, f1, hf, e0, e1⟩ : ∃ f0 f1, (TyF.fC P).toList = [f0, f1] ∧ (f0.offset, f0.type) = (0, TyF.tU P) ∧ (f1.offset, f1.type) = (1, TyF.tU P) := by
    have := TyF.pC (P := P)
    match hl : (TyF.fC P).toList, this with
    | [f0, f1], h => simp only [List.map_cons, List.map_nil, List.cons.injEq, and_true] at h; exact ⟨f0, f1, rfl, h.1, h.2⟩
    | [], h => simp at h
    | [_], h => simp at h
    | _ :: _ :: _ :: _, h => simp at h
  have o0 := (Prod.mk.inj e0).1
  have t0' := (Prod.mk.inj e0).2
  have o1 := (Prod.mk.inj e1).1
  have t1' := (Prod.mk.inj e1).2
  have hw : ∀ n : Nat, n < 4294967296 → (Lit.int .u32 (n : Int)).wf = true := by
    intro n hn
    have h1 : IntKind.u32.min = 0 := rfl
    have h2 : IntKind.u32.max = 4294967295 := rfl
    simp only [Lit.wf, h1, h2, Bool.and_eq_true, decide_eq_true_eq]; omega
  refine ⟨.string (keyBytes [.int .u32 (c.pos : Int), .int .u32 (c.neg : Int)]), ?_⟩
  unfold keyOf
  rw [TyF.uC]
  simp only [TabM.kt, Value.formed, TyF.uC, TyF.c2.1, clCells, List.size_toArray, List.length_cons, List.length_nil, beq_self_eq_true, Bool.and_self, if_true, Value.cells]
  rw [hD]
  simp [Program.keyLits, TyF.uC, TyF.c2.1, TabM.names, hf, o0, o1, t0', t1', TyF.c1.2.2.1, TyF.uU, hw _ hc.1, hw _ hc.2]
def mapR (b : Nat) (keys : List Cl) : Res := ⟨fun x => x = b, fun w => (∀ c, c ∈ keys → u32 c) ∧ ∃ es clock, w.heap[b]? = some (.map es clock) ∧ es.toList.map (·.key) = keys.map keyV ∧ ∀ e, e ∈ es.toList → e.val = .bool true⟩
theorem te_makeMap {t : TypeId} : TurnE P B σ Γ Ms (.makeMap t none) ty (fun b : Nat => .map (some b)) (fun _ => Γ) (fun b => mapR b [] :: Ms) := fun w hs => by
  refine ⟨w.heap.size, w.alloc (.map #[] 0), ?_, ?_⟩
  · have hr : (Instr.makeMap t none).run P w = .ok (.map (some w.heap.size)) (w.alloc (.map #[] 0)) := rfl
    simp [opr, execOp, hr]
  · refine hs.born (m := mapR w.heap.size []) (Chg.push _ w _) (fun w2 hw2 => ⟨fun c hc => (by cases hc), #[], 0, ?_, rfl, fun e he => by simp at he⟩) (fun b hb => ?_)
    · rw [hw2 _ rfl]
      show (w.heap.push (.map #[] 0))[w.heap.size]? = _
      simp
    · have hb : b = w.heap.size := hb
      subst hb
      exact ⟨by simp, Nat.le_refl _⟩
theorem keyV_inj {c d : Cl} : keyV c = keyV d ↔ c = d := by
  obtain ⟨p, n⟩ := c; obtain ⟨p', n'⟩ := d
  simp [keyV, clCells, Int.ofNat_inj]
theorem map_find {c : Cl} {keys : List Cl} {es : Array MapEntry} (hc : u32 c) (hk : ∀ d, d ∈ keys → u32 d) (he : es.toList.map (·.key) = keys.map keyV) (hv : ∀ e, e ∈ es.toList → e.val = .bool true) (w : World) :
    ((Instr.findKey (TyF.tC P) (keyV c) es.toList).run P w = .ok none w ∧ c ∉ keys) ∨ (∃ j, (Instr.findKey (TyF.tC P) (keyV c) es.toList).run P w = .ok (some (j, .bool true)) w) ∧ c ∈ keys := by
  obtain ⟨l, hl⟩ := keyOf_cl (P := P) hc
  have hall : ∀ e ∈ es.toList, ∃ l, keyOf P (TyF.tC P) e.key = some l := by
    intro e hme
    have : e.key ∈ keys.map keyV := he ▸ List.mem_map_of_mem hme
    obtain ⟨d, hd, e2⟩ := List.mem_map.mp this
    obtain ⟨l2, hl2⟩ := keyOf_cl (P := P) (hk d hd)
    exact ⟨l2, by rw [← e2]; exact hl2⟩
  rcases (TabM.law (P := P)).find w hl es.toList hall with ⟨h1, h2⟩ | ⟨j, e, h1, h2, h3⟩
  · refine .inl ⟨h1, fun hm => ?_⟩
    have : keyV c ∈ es.toList.map (·.key) := he ▸ List.mem_map_of_mem hm
    obtain ⟨e, hme, e2⟩ := List.mem_map.mp this
    exact h2 e hme e2
  · refine .inr ⟨⟨j, ?_⟩, ?_⟩
    · rw [hv e (List.mem_of_getElem? h2)] at h1; exact h1
    · have : e.key ∈ keys.map keyV := he ▸ List.mem_map_of_mem (List.mem_of_getElem? h2)
      rw [h3] at this
      obtain ⟨d, hd, e2⟩ := List.mem_map.mp this
      exact keyV_inj.mp e2 ▸ hd
theorem le_lookup {t e : TypeId} {s bt b : Nat} {c : Cl} {keys : List Cl} (hx : ev σ x = .map (some b)) (hm : mapR b keys ∈ Ms) (hc : u32 c) (hy : ev σ y = keyV c) (hu : Tab.und P t = some (.map (TyF.tC P) e)) (hi : Tab.inf P e = some (s, bt, .bool false)) :
    LoadE P B σ Γ Ms (.lookup t x y false) ty (.bool (decide (c ∈ keys))) := fun w hs => by
  obtain ⟨hk, es, clock, hb, he, hv⟩ : (∀ c, c ∈ keys → u32 c) ∧ ∃ es clock, w.heap[b]? = some (.map es clock) ∧ es.toList.map (·.key) = keys.map keyV ∧ ∀ e, e ∈ es.toList → e.val = .bool true := hs.res _ hm w (fun _ _ => rfl)
  obtain ⟨l, hl⟩ := keyOf_cl (P := P) hc
  have hch := (TabM.law (P := P)).check w es.isEmpty hl
  have hr : (Instr.lookup t (.map (some b)) (keyV c) false).run P w = .ok (.bool (decide (c ∈ keys))) w := by
    rcases map_find (P := P) hc hk he hv w with ⟨h1, h2⟩ | ⟨⟨j, h1⟩, h2⟩
    · simp [Instr.lookup, run_und0 hu, run_getObj_map w b es clock hb, hch, h1, run_zero0 hi, h2]
    · simp [Instr.lookup, run_und0 hu, run_getObj_map w b es clock hb, hch, h1, run_zero0 hi, h2]
  simp [opr, execOp, hx, hy, hr]
theorem se_mapUpdate {t e : TypeId} {b : Nat} {c : Cl} {keys : List Cl} {Ms2 : List Res} (hx : ev σ x = .map (some b)) (hm : Ms.Perm (mapR b keys :: Ms2)) (hc : u32 c) (hn : c ∉ keys) (hy : ev σ y = keyV c) (hz : ev σ z = .bool true) (hu : Tab.und P t = some (.map (TyF.tC P) e)) :
    StoreE P B σ Γ Ms (.mapUpdate t x y z) ty Γ (mapR b (keys ++ [c]) :: Ms2) := fun w hs => by
  have hs' := hs.perm hm
  obtain ⟨hk, es, clock, hb, he, hv⟩ : (∀ c, c ∈ keys → u32 c) ∧ ∃ es clock, w.heap[b]? = some (.map es clock) ∧ es.toList.map (·.key) = keys.map keyV ∧ ∀ e, e ∈ es.toList → e.val = .bool true := hs'.res _ List.mem_cons_self w (fun _ _ => rfl)
  obtain ⟨l, hl⟩ := keyOf_cl (P := P) hc
  have hch := (TabM.law (P := P)).check w false hl
  have hlt : b < w.heap.size := (Array.getElem?_eq_some_iff.mp hb).1
  have hb2 : w.heap[b] = .map es clock := (Array.getElem?_eq_some_iff.mp hb).2
  have hr : (Instr.mapUpdate t (.map (some b)) (keyV c) (.bool true)).run P w = .ok () { w with heap := w.heap.setIfInBounds b (.map (es.push { key := keyV c, val := .bool true, born := clock }) (clock + 1)) } := by
    rcases map_find (P := P) hc hk he hv w with ⟨h1, h2⟩ | ⟨⟨j, h1⟩, h2⟩
    · simp [Instr.mapUpdate, run_und0 hu, run_getObj_map w b es clock hb, hch, h1, setObj, Sem.run, hlt, hb2]
    · exact absurd h2 hn
  refine ⟨{ w with heap := w.heap.setIfInBounds b (.map (es.push { key := keyV c, val := .bool true, born := clock }) (clock + 1)) }, by simp [opr, execOp, hx, hy, hz, hr], ?_⟩
  refine hs'.turn (m' := mapR b (keys ++ [c])) ⟨rfl, rfl, rfl, by simp, fun k hk hn => by
    have hn : k ≠ b := hn
    simp [Array.getElem?_setIfInBounds, hn.symm]⟩ (fun w2 hw2 => ⟨fun d hd => ?_, es.push { key := keyV c, val := .bool true, born := clock }, clock + 1, ?_, ?_, ?_⟩) (fun k hk => ?_)
  · rcases List.mem_append.mp hd with hd | hd
    · exact hk d hd
    · rw [List.mem_singleton] at hd; exact hd ▸ hc
  · rw [hw2 b rfl]; simp [hlt]
  · simp [he]
  · intro e he2
    rw [Array.toList_push, List.mem_append, List.mem_singleton] at he2
    rcases he2 with h | h
    · exact hv e h
    · rw [h]
  · have hk2 : k = b := hk
    subst hk2
    exact ⟨by simpa using hlt, .inl rfl⟩
end
end Go.Hy
namespace Go.Hy
/-! Wrappers: an operation and its side conditions, which are tried by themselves. 'o_..': in a region in its order; 'v_..': in one that draws. -/
section
variable {tn : Bool} {pn : Nat} {P : Program} [Tab P] {f : FuncId} {R : Ending → World → Prop} {B : Base} {n : Fz} {K : List Item} {ops : Array Oper} {i : Nat} {l fin : List Nat} {σ : Nat → Value} {Γ : List Fact} {Ms Ms2 : List Res}
variable {dst : Option Tmp} {op : Op} {ty : TypeId} {pos : String} {after : Array Edge} {v : Value} {x y z : Operand}
theorem o_move  (k_ : RgT P f R B n K ops l (putS σ dst v) Γ Ms) (h : ev σ x = v := by exact wn_) (hd : dstOk n dst = true := by rfl) : OpT P f R B n K ops l (opr dst (.move x) ty) σ Γ Ms := sq_pure (pe_move h) hd k_
theorem v_move  (k_ : NV tn pn P f R B n K ops fin l (putS σ dst v) Γ Ms) (h : ev σ x = v := by exact wn_) (hd : dstOk n dst = true := by rfl) : NvT tn pn P f R B n K ops fin i l dst (.move x) ty σ Γ Ms := nv_pure (pe_move h) hd k_
theorem o_assign  (k_ : RgT P f R B n K ops l (putS σ dst v) Γ Ms) (h : ev σ x = v := by exact wn_) (hd : dstOk n dst = true := by rfl) : OpT P f R B n K ops l (opr dst (.assign x) ty) σ Γ Ms := sq_pure (pe_assign h) hd k_
theorem v_assign  (k_ : NV tn pn P f R B n K ops fin l (putS σ dst v) Γ Ms) (h : ev σ x = v := by exact wn_) (hd : dstOk n dst = true := by rfl) : NvT tn pn P f R B n K ops fin i l dst (.assign x) ty σ Γ Ms := nv_pure (pe_assign h) hd k_
theorem o_pickT  (k_ : RgT P f R B n K ops l (putS σ dst v) Γ Ms) (hz : ev σ z = .bool true := by rfl) (h : ev σ x = v := by exact wn_) (hd : dstOk n dst = true := by rfl) : OpT P f R B n K ops l (opr dst (.pick z x y) ty) σ Γ Ms := sq_pure (pe_pickT hz h) hd k_
theorem v_pickT  (k_ : NV tn pn P f R B n K ops fin l (putS σ dst v) Γ Ms) (hz : ev σ z = .bool true := by rfl) (h : ev σ x = v := by exact wn_) (hd : dstOk n dst = true := by rfl) : NvT tn pn P f R B n K ops fin i l dst (.pick z x y) ty σ Γ Ms := nv_pure (pe_pickT hz h) hd k_
theorem o_pickF  (k_ : RgT P f R B n K ops l (putS σ dst v) Γ Ms) (hz : ev σ z = .bool false := by rfl) (h : ev σ y = v := by exact wn_) (hd : dstOk n dst = true := by rfl) : OpT P f R B n K ops l (opr dst (.pick z x y) ty) σ Γ Ms := sq_pure (pe_pickF hz h) hd k_
theorem v_pickF  (k_ : NV tn pn P f R B n K ops fin l (putS σ dst v) Γ Ms) (hz : ev σ z = .bool false := by rfl) (h : ev σ y = v := by exact wn_) (hd : dstOk n dst = true := by rfl) : NvT tn pn P f R B n K ops fin i l dst (.pick z x y) ty σ Γ Ms := nv_pure (pe_pickF hz h) hd k_
theorem o_add {t t' : TypeId} {a b : Int} (k_ : RgT P f R B n K ops l (putS σ dst (.int .i64 (a + b))) Γ Ms) (hx : ev σ x = .int .i64 a := by exact wn_) (hy : ev σ y = .int .i64 b := by exact wn_) (h : in64 (a + b) := by unfold in64; first | omega | (unfold in64 at *; omega) | (unfold reach at *; omega) | (unfold cap47 at *; omega) | (simp only [in64, reach, cap47] at *; omega)) (hd : dstOk n dst = true := by rfl) : OpT P f R B n K ops l (opr dst (.binOp .add t x y t') ty) σ Γ Ms := sq_pure (pe_add hx hy h) hd k_
theorem v_add {t t' : TypeId} {a b : Int} (k_ : NV tn pn P f R B n K ops fin l (putS σ dst (.int .i64 (a + b))) Γ Ms) (hx : ev σ x = .int .i64 a := by exact wn_) (hy : ev σ y = .int .i64 b := by exact wn_) (h : in64 (a + b) := by unfold in64; first | omega | (unfold in64 at *; omega) | (unfold reach at *; omega) | (unfold cap47 at *; omega) | (simp only [in64, reach, cap47] at *; omega)) (hd : dstOk n dst = true := by rfl) : NvT tn pn P f R B n K ops fin i l dst (.binOp .add t x y t') ty σ Γ Ms := nv_pure (pe_add hx hy h) hd k_
theorem o_sub {t t' : TypeId} {a b : Int} (k_ : RgT P f R B n K ops l (putS σ dst (.int .i64 (a - b))) Γ Ms) (hx : ev σ x = .int .i64 a := by exact wn_) (hy : ev σ y = .int .i64 b := by exact wn_) (h : in64 (a - b) := by unfold in64; first | omega | (unfold in64 at *; omega) | (unfold reach at *; omega) | (unfold cap47 at *; omega) | (simp only [in64, reach, cap47] at *; omega)) (hd : dstOk n dst = true := by rfl) : OpT P f R B n K ops l (opr dst (.binOp .sub t x y t') ty) σ Γ Ms := sq_pure (pe_sub hx hy h) hd k_
theorem o_mul {t t' : TypeId} {a b : Int} (k_ : RgT P f R B n K ops l (putS σ dst (.int .i64 (a * b))) Γ Ms) (hx : ev σ x = .int .i64 a := by exact wn_) (hy : ev σ y = .int .i64 b := by exact wn_) (h : in64 (a * b) := by unfold in64; first | omega | (unfold in64 at *; omega) | (unfold reach at *; omega) | (unfold cap47 at *; omega) | (simp only [in64, reach, cap47] at *; omega)) (hd : dstOk n dst = true := by rfl) : OpT P f R B n K ops l (opr dst (.binOp .mul t x y t') ty) σ Γ Ms := sq_pure (pe_mul hx hy h) hd k_
theorem o_lss {t t' : TypeId} {k : IntKind} {a b : Int} (k_ : RgT P f R B n K ops l (putS σ dst (.bool (decide (a < b)))) Γ Ms) (hx : ev σ x = .int k a := by exact wn_) (hy : ev σ y = .int k b := by exact wn_) (hd : dstOk n dst = true := by rfl) : OpT P f R B n K ops l (opr dst (.binOp .lss t x y t') ty) σ Γ Ms := sq_pure (pe_lss hx hy) hd k_
theorem v_lss {t t' : TypeId} {k : IntKind} {a b : Int} (k_ : NV tn pn P f R B n K ops fin l (putS σ dst (.bool (decide (a < b)))) Γ Ms) (hx : ev σ x = .int k a := by exact wn_) (hy : ev σ y = .int k b := by exact wn_) (hd : dstOk n dst = true := by rfl) : NvT tn pn P f R B n K ops fin i l dst (.binOp .lss t x y t') ty σ Γ Ms := nv_pure (pe_lss hx hy) hd k_
theorem o_leq {t t' : TypeId} {k : IntKind} {a b : Int} (k_ : RgT P f R B n K ops l (putS σ dst (.bool (decide (a ≤ b)))) Γ Ms) (hx : ev σ x = .int k a := by exact wn_) (hy : ev σ y = .int k b := by exact wn_) (hd : dstOk n dst = true := by rfl) : OpT P f R B n K ops l (opr dst (.binOp .leq t x y t') ty) σ Γ Ms := sq_pure (pe_leq hx hy) hd k_
theorem o_gtr {t t' : TypeId} {k : IntKind} {a b : Int} (k_ : RgT P f R B n K ops l (putS σ dst (.bool (decide (b < a)))) Γ Ms) (hx : ev σ x = .int k a := by exact wn_) (hy : ev σ y = .int k b := by exact wn_) (hd : dstOk n dst = true := by rfl) : OpT P f R B n K ops l (opr dst (.binOp .gtr t x y t') ty) σ Γ Ms := sq_pure (pe_gtr hx hy) hd k_
theorem v_gtr {t t' : TypeId} {k : IntKind} {a b : Int} (k_ : NV tn pn P f R B n K ops fin l (putS σ dst (.bool (decide (b < a)))) Γ Ms) (hx : ev σ x = .int k a := by exact wn_) (hy : ev σ y = .int k b := by exact wn_) (hd : dstOk n dst = true := by rfl) : NvT tn pn P f R B n K ops fin i l dst (.binOp .gtr t x y t') ty σ Γ Ms := nv_pure (pe_gtr hx hy) hd k_
theorem o_geq {t t' : TypeId} {k : IntKind} {a b : Int} (k_ : RgT P f R B n K ops l (putS σ dst (.bool (decide (b ≤ a)))) Γ Ms) (hx : ev σ x = .int k a := by exact wn_) (hy : ev σ y = .int k b := by exact wn_) (hd : dstOk n dst = true := by rfl) : OpT P f R B n K ops l (opr dst (.binOp .geq t x y t') ty) σ Γ Ms := sq_pure (pe_geq hx hy) hd k_
theorem o_eqI {t t' : TypeId} {k : IntKind} {a b : Int} (k_ : RgT P f R B n K ops l (putS σ dst (.bool (decide (a = b)))) Γ Ms) (hx : ev σ x = .int k a := by exact wn_) (hy : ev σ y = .int k b := by exact wn_) (hd : dstOk n dst = true := by rfl) : OpT P f R B n K ops l (opr dst (.binOp .eql t x y t') ty) σ Γ Ms := sq_pure (pe_eqI hx hy) hd k_
theorem v_eqI {t t' : TypeId} {k : IntKind} {a b : Int} (k_ : NV tn pn P f R B n K ops fin l (putS σ dst (.bool (decide (a = b)))) Γ Ms) (hx : ev σ x = .int k a := by exact wn_) (hy : ev σ y = .int k b := by exact wn_) (hd : dstOk n dst = true := by rfl) : NvT tn pn P f R B n K ops fin i l dst (.binOp .eql t x y t') ty σ Γ Ms := nv_pure (pe_eqI hx hy) hd k_
theorem o_neI {t t' : TypeId} {k : IntKind} {a b : Int} (k_ : RgT P f R B n K ops l (putS σ dst (.bool (decide (a ≠ b)))) Γ Ms) (hx : ev σ x = .int k a := by exact wn_) (hy : ev σ y = .int k b := by exact wn_) (hd : dstOk n dst = true := by rfl) : OpT P f R B n K ops l (opr dst (.binOp .neq t x y t') ty) σ Γ Ms := sq_pure (pe_neI hx hy) hd k_
theorem v_neI {t t' : TypeId} {k : IntKind} {a b : Int} (k_ : NV tn pn P f R B n K ops fin l (putS σ dst (.bool (decide (a ≠ b)))) Γ Ms) (hx : ev σ x = .int k a := by exact wn_) (hy : ev σ y = .int k b := by exact wn_) (hd : dstOk n dst = true := by rfl) : NvT tn pn P f R B n K ops fin i l dst (.binOp .neq t x y t') ty σ Γ Ms := nv_pure (pe_neI hx hy) hd k_
theorem o_neS {t t' : TypeId} {s s' : ByteArray} (k_ : RgT P f R B n K ops l (putS σ dst (.bool (!(s.toList == s'.toList)))) Γ Ms) (hx : ev σ x = .string s := by exact wn_) (hy : ev σ y = .string s' := by exact wn_) (hd : dstOk n dst = true := by rfl) : OpT P f R B n K ops l (opr dst (.binOp .neq t x y t') ty) σ Γ Ms := sq_pure (pe_neS hx hy) hd k_
theorem v_neS {t t' : TypeId} {s s' : ByteArray} (k_ : NV tn pn P f R B n K ops fin l (putS σ dst (.bool (!(s.toList == s'.toList)))) Γ Ms) (hx : ev σ x = .string s := by exact wn_) (hy : ev σ y = .string s' := by exact wn_) (hd : dstOk n dst = true := by rfl) : NvT tn pn P f R B n K ops fin i l dst (.binOp .neq t x y t') ty σ Γ Ms := nv_pure (pe_neS hx hy) hd k_
theorem o_not {t : TypeId} {c : Bool} (k_ : RgT P f R B n K ops l (putS σ dst (.bool (!c))) Γ Ms) (hx : ev σ x = .bool c := by exact wn_) (hd : dstOk n dst = true := by rfl) : OpT P f R B n K ops l (opr dst (.unOp .not t x) ty) σ Γ Ms := sq_pure (pe_not hx) hd k_
theorem v_not {t : TypeId} {c : Bool} (k_ : NV tn pn P f R B n K ops fin l (putS σ dst (.bool (!c))) Γ Ms) (hx : ev σ x = .bool c := by exact wn_) (hd : dstOk n dst = true := by rfl) : NvT tn pn P f R B n K ops fin i l dst (.unOp .not t x) ty σ Γ Ms := nv_pure (pe_not hx) hd k_
theorem o_extract {vs : Array Value} {j : Nat} (k_ : RgT P f R B n K ops l (putS σ dst v) Γ Ms) (hx : ev σ x = .tuple vs := by exact wn_) (hj : vs[j]? = some v := by exact wn_) (hd : dstOk n dst = true := by rfl) : OpT P f R B n K ops l (opr dst (.extract x j) ty) σ Γ Ms := sq_pure (pe_extract hx hj) hd k_
theorem v_extract {vs : Array Value} {j : Nat} (k_ : NV tn pn P f R B n K ops fin l (putS σ dst v) Γ Ms) (hx : ev σ x = .tuple vs := by exact wn_) (hj : vs[j]? = some v := by exact wn_) (hd : dstOk n dst = true := by rfl) : NvT tn pn P f R B n K ops fin i l dst (.extract x j) ty σ Γ Ms := nv_pure (pe_extract hx hj) hd k_
theorem o_func {fn : Fn} {cap : Array Operand} {vs : List Value} (k_ : RgT P f R B n K ops l (putS σ dst (.func fn #[] vs.toArray)) Γ Ms) (h : cap.toList.map (ev σ) = vs := by first | exact cap1 (by first | ((conv => lhs; whnf); done) | rfl) | exact cap2 (by first | ((conv => lhs; whnf); done) | rfl) (by first | ((conv => lhs; whnf); done) | rfl) | exact cap3 (by first | ((conv => lhs; whnf); done) | rfl) (by first | ((conv => lhs; whnf); done) | rfl) (by first | ((conv => lhs; whnf); done) | rfl) | exact cap4 (by first | ((conv => lhs; whnf); done) | rfl) (by first | ((conv => lhs; whnf); done) | rfl) (by first | ((conv => lhs; whnf); done) | rfl) (by first | ((conv => lhs; whnf); done) | rfl) | rfl) (hd : dstOk n dst = true := by rfl) : OpT P f R B n K ops l (opr dst (.makeFunc fn #[] cap) ty) σ Γ Ms := sq_pure (pe_makeFunc h) hd k_
theorem o_len {ts : Array TypeId} {t e : TypeId} {A : Option Addr} {m c : Nat} (k_ : RgT P f R B n K ops l (putS σ dst (.int .i64 (m : Int))) Γ Ms) (hx : ev σ x = .slice A m c := by exact wn_) (ht : ts[0]? = some t := by rfl) (hu : Tab.und P t = some (.slice e) := by rfl) (hd : dstOk n dst = true := by rfl) : OpT P f R B n K ops l (opr dst (.call { callee := .builtin .len, args := #[x], argTypes := ts }) ty) σ Γ Ms := sq_pure (pe_lenS ht hu hx) hd k_
theorem v_len {ts : Array TypeId} {t e : TypeId} {A : Option Addr} {m c : Nat} (k_ : NV tn pn P f R B n K ops fin l (putS σ dst (.int .i64 (m : Int))) Γ Ms) (hx : ev σ x = .slice A m c := by exact wn_) (ht : ts[0]? = some t := by rfl) (hu : Tab.und P t = some (.slice e) := by rfl) (hd : dstOk n dst = true := by rfl) : NvT tn pn P f R B n K ops fin i l dst (.call { callee := .builtin .len, args := #[x], argTypes := ts }) ty σ Γ Ms := nv_pure (pe_lenS ht hu hx) hd k_
theorem o_lenStr {ts : Array TypeId} {t : TypeId} {s : ByteArray} (k_ : RgT P f R B n K ops l (putS σ dst (.int .i64 (s.size : Int))) Γ Ms) (hx : ev σ x = .string s := by exact wn_) (ht : ts[0]? = some t := by rfl) (hu : Tab.und P t = some .string := by rfl) (hd : dstOk n dst = true := by rfl) : OpT P f R B n K ops l (opr dst (.call { callee := .builtin .len, args := #[x], argTypes := ts }) ty) σ Γ Ms := sq_pure (pe_lenStr ht hu hx) hd k_
theorem o_min {ts : Array TypeId} {a b : Int} (k_ : RgT P f R B n K ops l (putS σ dst (.int .i64 (if b < a then b else a))) Γ Ms) (hx : ev σ x = .int .i64 a := by exact wn_) (hy : ev σ y = .int .i64 b := by exact wn_) (hd : dstOk n dst = true := by rfl) : OpT P f R B n K ops l (opr dst (.call { callee := .builtin .min, args := #[x, y], argTypes := ts }) ty) σ Γ Ms := sq_pure (pe_min hx hy) hd k_
theorem o_fa {t : TypeId} {j bk off o : Nat} (k_ : RgT P f R B n K ops l (putS σ dst (.pointer (some ⟨bk, off + o, none⟩))) Γ Ms) (hx : ev σ x = .pointer (some ⟨bk, off, none⟩) := by exact wn_) (hf : Tab.foff P t j = some o := by rfl) (hd : dstOk n dst = true := by rfl) : OpT P f R B n K ops l (opr dst (.fieldAddr t x j) ty) σ Γ Ms := sq_pure (pe_fieldAddr hf hx) hd k_
theorem v_fa {t : TypeId} {j bk off o : Nat} (k_ : NV tn pn P f R B n K ops fin l (putS σ dst (.pointer (some ⟨bk, off + o, none⟩))) Γ Ms) (hx : ev σ x = .pointer (some ⟨bk, off, none⟩) := by exact wn_) (hf : Tab.foff P t j = some o := by rfl) (hd : dstOk n dst = true := by rfl) : NvT tn pn P f R B n K ops fin i l dst (.fieldAddr t x j) ty σ Γ Ms := nv_pure (pe_fieldAddr hf hx) hd k_
theorem o_build {t : TypeId} {s bt : Nat} {zv : Value} {parts : Array (Nat × Operand)} {pv : List (Nat × Value)} {l' : List (Nat × Nat)} {cs : List Value} (k_ : RgT P f R B n K ops l (putS σ dst (.agg cs.toArray)) Γ Ms) (hl : Tab.lay P t = some l' := by rfl) (hi : Tab.inf P t = some (s, bt, zv) := by rfl) (hp : parts.toList.map (fun (i, x) => (i, ev σ x)) = pv := by first | exact pv0  | exact pv1 (by first | ((conv => lhs; whnf); done) | rfl) | exact pv2 (by first | ((conv => lhs; whnf); done) | rfl) (by first | ((conv => lhs; whnf); done) | rfl) | exact pv3 (by first | ((conv => lhs; whnf); done) | rfl) (by first | ((conv => lhs; whnf); done) | rfl) (by first | ((conv => lhs; whnf); done) | rfl) | exact pv4 (by first | ((conv => lhs; whnf); done) | rfl) (by first | ((conv => lhs; whnf); done) | rfl) (by first | ((conv => lhs; whnf); done) | rfl) (by first | ((conv => lhs; whnf); done) | rfl) | exact pv5 (by first | ((conv => lhs; whnf); done) | rfl) (by first | ((conv => lhs; whnf); done) | rfl) (by first | ((conv => lhs; whnf); done) | rfl) (by first | ((conv => lhs; whnf); done) | rfl) (by first | ((conv => lhs; whnf); done) | rfl) | exact pv6 (by first | ((conv => lhs; whnf); done) | rfl) (by first | ((conv => lhs; whnf); done) | rfl) (by first | ((conv => lhs; whnf); done) | rfl) (by first | ((conv => lhs; whnf); done) | rfl) (by first | ((conv => lhs; whnf); done) | rfl) (by first | ((conv => lhs; whnf); done) | rfl) | rfl) (hb : Instr.fill (l'.toArray[·]?) zv.cells pv = some cs.toArray := by rfl) (hd : dstOk n dst = true := by rfl) : OpT P f R B n K ops l (opr dst (.build t parts) ty) σ Γ Ms := sq_pure (pe_build hl hi hp hb) hd k_
theorem v_build {t : TypeId} {s bt : Nat} {zv : Value} {parts : Array (Nat × Operand)} {pv : List (Nat × Value)} {l' : List (Nat × Nat)} {cs : List Value} (k_ : NV tn pn P f R B n K ops fin l (putS σ dst (.agg cs.toArray)) Γ Ms) (hl : Tab.lay P t = some l' := by rfl) (hi : Tab.inf P t = some (s, bt, zv) := by rfl) (hp : parts.toList.map (fun (i, x) => (i, ev σ x)) = pv := by first | exact pv0  | exact pv1 (by first | ((conv => lhs; whnf); done) | rfl) | exact pv2 (by first | ((conv => lhs; whnf); done) | rfl) (by first | ((conv => lhs; whnf); done) | rfl) | exact pv3 (by first | ((conv => lhs; whnf); done) | rfl) (by first | ((conv => lhs; whnf); done) | rfl) (by first | ((conv => lhs; whnf); done) | rfl) | exact pv4 (by first | ((conv => lhs; whnf); done) | rfl) (by first | ((conv => lhs; whnf); done) | rfl) (by first | ((conv => lhs; whnf); done) | rfl) (by first | ((conv => lhs; whnf); done) | rfl) | exact pv5 (by first | ((conv => lhs; whnf); done) | rfl) (by first | ((conv => lhs; whnf); done) | rfl) (by first | ((conv => lhs; whnf); done) | rfl) (by first | ((conv => lhs; whnf); done) | rfl) (by first | ((conv => lhs; whnf); done) | rfl) | exact pv6 (by first | ((conv => lhs; whnf); done) | rfl) (by first | ((conv => lhs; whnf); done) | rfl) (by first | ((conv => lhs; whnf); done) | rfl) (by first | ((conv => lhs; whnf); done) | rfl) (by first | ((conv => lhs; whnf); done) | rfl) (by first | ((conv => lhs; whnf); done) | rfl) | rfl) (hb : Instr.fill (l'.toArray[·]?) zv.cells pv = some cs.toArray := by rfl) (hd : dstOk n dst = true := by rfl) : NvT tn pn P f R B n K ops fin i l dst (.build t parts) ty σ Γ Ms := nv_pure (pe_build hl hi hp hb) hd k_
theorem o_ixN {t e : TypeId} {s bt bk o m c j : Nat} {zv : Value} {A : Option Addr} (k_ : RgT P f R B n K ops l (putS σ dst (.pointer (some ⟨bk, o + j * s, none⟩))) Γ Ms) (hx : ev σ x = .slice A m c := by exact wn_) (hA : A = some ⟨bk, o, none⟩ := by first | assumption | rfl) (hy : ev σ y = .int .i64 (j : Int) := by exact wn_) (hu : Tab.und P t = some (.slice e) := by rfl) (hi : Tab.inf P e = some (s, bt, zv) := by rfl) (h1 : j < m := by omega) (hd : dstOk n dst = true := by rfl) : OpT P f R B n K ops l (opr dst (.indexAddr t x y) ty) σ Γ Ms := sq_pure (pe_ixN hu hi hx hA hy h1) hd k_
theorem v_ixN {t e : TypeId} {s bt bk o m c j : Nat} {zv : Value} {A : Option Addr} (k_ : NV tn pn P f R B n K ops fin l (putS σ dst (.pointer (some ⟨bk, o + j * s, none⟩))) Γ Ms) (hx : ev σ x = .slice A m c := by exact wn_) (hA : A = some ⟨bk, o, none⟩ := by first | assumption | rfl) (hy : ev σ y = .int .i64 (j : Int) := by exact wn_) (hu : Tab.und P t = some (.slice e) := by rfl) (hi : Tab.inf P e = some (s, bt, zv) := by rfl) (h1 : j < m := by omega) (hd : dstOk n dst = true := by rfl) : NvT tn pn P f R B n K ops fin i l dst (.indexAddr t x y) ty σ Γ Ms := nv_pure (pe_ixN hu hi hx hA hy h1) hd k_
theorem o_eqNil {t t' e : TypeId} {A : Option Addr} {m c : Nat} (k_ : RgT P f R B n K ops l (putS σ dst (.bool A.isNone)) Γ Ms) (hx : ev σ x = .slice A m c := by exact wn_) (hy : ev σ y = .slice none 0 0 := by rfl) (hu : Tab.und P t = some (.slice e) := by rfl) (hd : dstOk n dst = true := by rfl) : OpT P f R B n K ops l (opr dst (.binOp .eql t x y t') ty) σ Γ Ms := sq_pure (pe_nilSlice hu hx hy) hd k_
theorem o_addW {t t' : TypeId} {a b : Int} (k_ : RgT P f R B n K ops l (putS σ dst (.int .i64 (IntKind.i64.wrap (a + b)))) Γ Ms) (hx : ev σ x = .int .i64 a := by exact wn_) (hy : ev σ y = .int .i64 b := by exact wn_) (hd : dstOk n dst = true := by rfl) : OpT P f R B n K ops l (opr dst (.binOp .add t x y t') ty) σ Γ Ms := sq_pure (pe_addW hx hy) hd k_
theorem o_andU32 {t t' : TypeId} {a b : Nat} (k_ : RgT P f R B n K ops l (putS σ dst (.int .u32 ((a &&& b : Nat) : Int))) Γ Ms) (hx : ev σ x = .int .u32 (a : Int) := by exact wn_) (hy : ev σ y = .int .u32 (b : Int) := by exact wn_) (ha : a < 4294967296 := by first | assumption | omega) (hb : b < 4294967296 := by first | assumption | omega) (hd : dstOk n dst = true := by rfl) : OpT P f R B n K ops l (opr dst (.binOp .and t x y t') ty) σ Γ Ms := sq_pure (pe_andU hx hy ha hb) hd k_
theorem v_andU32 {t t' : TypeId} {a b : Nat} (k_ : NV tn pn P f R B n K ops fin l (putS σ dst (.int .u32 ((a &&& b : Nat) : Int))) Γ Ms) (hx : ev σ x = .int .u32 (a : Int) := by exact wn_) (hy : ev σ y = .int .u32 (b : Int) := by exact wn_) (ha : a < 4294967296 := by first | assumption | omega) (hb : b < 4294967296 := by first | assumption | omega) (hd : dstOk n dst = true := by rfl) : NvT tn pn P f R B n K ops fin i l dst (.binOp .and t x y t') ty σ Γ Ms := nv_pure (pe_andU hx hy ha hb) hd k_
theorem o_orU32 {t t' : TypeId} {a b : Nat} (k_ : RgT P f R B n K ops l (putS σ dst (.int .u32 ((a ||| b : Nat) : Int))) Γ Ms) (hx : ev σ x = .int .u32 (a : Int) := by exact wn_) (hy : ev σ y = .int .u32 (b : Int) := by exact wn_) (ha : a < 4294967296 := by first | assumption | omega) (hb : b < 4294967296 := by first | assumption | omega) (hd : dstOk n dst = true := by rfl) : OpT P f R B n K ops l (opr dst (.binOp .or t x y t') ty) σ Γ Ms := sq_pure (pe_orU hx hy ha hb) hd k_
theorem o_andNotU32 {t t' : TypeId} {a b : Nat} (k_ : RgT P f R B n K ops l (putS σ dst (.int .u32 (andNot32 a b : Int))) Γ Ms) (hx : ev σ x = .int .u32 (a : Int) := by exact wn_) (hy : ev σ y = .int .u32 (b : Int) := by exact wn_) (hd : dstOk n dst = true := by rfl) : OpT P f R B n K ops l (opr dst (.binOp .andNot t x y t') ty) σ Γ Ms := sq_pure (pe_andNotU hx hy) hd k_
theorem o_shlU32 {t t' : TypeId} {k2 : IntKind} {a m : Nat} (k_ : RgT P f R B n K ops l (putS σ dst (.int .u32 ((a * 2 ^ (min m 32) % 4294967296 : Nat) : Int))) Γ Ms) (hx : ev σ x = .int .u32 (a : Int) := by exact wn_) (hy : ev σ y = .int k2 (m : Int) := by exact wn_) (hd : dstOk n dst = true := by rfl) : OpT P f R B n K ops l (opr dst (.binOp .shl t x y t') ty) σ Γ Ms := sq_pure (pe_shlU hx hy) hd k_
theorem o_shrU32 {t t' : TypeId} {k2 : IntKind} {a m : Nat} (k_ : RgT P f R B n K ops l (putS σ dst (.int .u32 ((a / 2 ^ (min m 32) : Nat) : Int))) Γ Ms) (hx : ev σ x = .int .u32 (a : Int) := by exact wn_) (hy : ev σ y = .int k2 (m : Int) := by exact wn_) (hd : dstOk n dst = true := by rfl) : OpT P f R B n K ops l (opr dst (.binOp .shr t x y t') ty) σ Γ Ms := sq_pure (pe_shrU hx hy) hd k_
theorem v_shrU32 {t t' : TypeId} {k2 : IntKind} {a m : Nat} (k_ : NV tn pn P f R B n K ops fin l (putS σ dst (.int .u32 ((a / 2 ^ (min m 32) : Nat) : Int))) Γ Ms) (hx : ev σ x = .int .u32 (a : Int) := by exact wn_) (hy : ev σ y = .int k2 (m : Int) := by exact wn_) (hd : dstOk n dst = true := by rfl) : NvT tn pn P f R B n K ops fin i l dst (.binOp .shr t x y t') ty σ Γ Ms := nv_pure (pe_shrU hx hy) hd k_
theorem o_eqC {t t' : TypeId} {c c' : Cl} (k_ : RgT P f R B n K ops l (putS σ dst (.bool (decide (c = c')))) Γ Ms) (hx : ev σ x = .agg (clCells c).toArray := by exact wn_) (hy : ev σ y = .agg (clCells c').toArray := by exact wn_) (ht : t = Tab.ceq P := by rfl) (hd : dstOk n dst = true := by rfl) : OpT P f R B n K ops l (opr dst (.binOp .eql t x y t') ty) σ Γ Ms := sq_pure (pe_eqC ht hx hy) hd k_
theorem v_eqC {t t' : TypeId} {c c' : Cl} (k_ : NV tn pn P f R B n K ops fin l (putS σ dst (.bool (decide (c = c')))) Γ Ms) (hx : ev σ x = .agg (clCells c).toArray := by exact wn_) (hy : ev σ y = .agg (clCells c').toArray := by exact wn_) (ht : t = Tab.ceq P := by rfl) (hd : dstOk n dst = true := by rfl) : NvT tn pn P f R B n K ops fin i l dst (.binOp .eql t x y t') ty σ Γ Ms := nv_pure (pe_eqC ht hx hy) hd k_
theorem o_neC {t t' : TypeId} {c c' : Cl} (k_ : RgT P f R B n K ops l (putS σ dst (.bool (!decide (c = c')))) Γ Ms) (hx : ev σ x = .agg (clCells c).toArray := by exact wn_) (hy : ev σ y = .agg (clCells c').toArray := by exact wn_) (ht : t = Tab.ceq P := by rfl) (hd : dstOk n dst = true := by rfl) : OpT P f R B n K ops l (opr dst (.binOp .neq t x y t') ty) σ Γ Ms := sq_pure (pe_neC ht hx hy) hd k_
theorem v_neC {t t' : TypeId} {c c' : Cl} (k_ : NV tn pn P f R B n K ops fin l (putS σ dst (.bool (!decide (c = c')))) Γ Ms) (hx : ev σ x = .agg (clCells c).toArray := by exact wn_) (hy : ev σ y = .agg (clCells c').toArray := by exact wn_) (ht : t = Tab.ceq P := by rfl) (hd : dstOk n dst = true := by rfl) : NvT tn pn P f R B n K ops fin i l dst (.binOp .neq t x y t') ty σ Γ Ms := nv_pure (pe_neC ht hx hy) hd k_
theorem o_quoN {t t' : TypeId} {a b : Nat} (k_ : RgT P f R B n K ops l (putS σ dst (.int .i64 ((a / b : Nat) : Int))) Γ Ms) (hx : ev σ x = .int .i64 (a : Int) := by exact wn_) (hy : ev σ y = .int .i64 (b : Int) := by exact wn_) (ha : a < 9223372036854775808 := by omega) (hb : 0 < b := by first | omega | exact Nat.pow_pos (by omega)) (hd : dstOk n dst = true := by rfl) : OpT P f R B n K ops l (opr dst (.binOp .quo t x y t') ty) σ Γ Ms := sq_pure (pe_quoN hx hy ha hb) hd k_
theorem o_remN {t t' : TypeId} {a b : Nat} (k_ : RgT P f R B n K ops l (putS σ dst (.int .i64 ((a % b : Nat) : Int))) Γ Ms) (hx : ev σ x = .int .i64 (a : Int) := by exact wn_) (hy : ev σ y = .int .i64 (b : Int) := by exact wn_) (hb : 0 < b := by omega) (hd : dstOk n dst = true := by rfl) : OpT P f R B n K ops l (opr dst (.binOp .rem t x y t') ty) σ Γ Ms := sq_pure (pe_remN hx hy hb) hd k_
theorem o_ixStr {t : TypeId} {s : ByteArray} {j : Int} {c : UInt8} (k_ : RgT P f R B n K ops l (putS σ dst (.int .u8 c.toNat)) Γ Ms) (hx : ev σ x = .string s := by exact wn_) (hy : ev σ y = .int .i64 j := by exact wn_) (hu : Tab.und P t = some .string := by rfl) (h0 : 0 ≤ j := by omega) (hc : s[j.toNat]? = some c := by assumption) (hd : dstOk n dst = true := by rfl) : OpT P f R B n K ops l (opr dst (.index t x y) ty) σ Γ Ms := sq_pure (pe_indexStr hu hx hy h0 hc) hd k_
theorem o_conv {s d : TypeId} {k k' : IntKind} {ds : TypeDesc} {a : Int} (k_ : RgT P f R B n K ops l (putS σ dst (.int k' (k'.wrap a))) Γ Ms) (hx : ev σ x = .int k a := by exact wn_) (hs : Tab.und P s = some ds := by rfl) (hd' : Tab.und P d = some (.int k') := by rfl) (hd : dstOk n dst = true := by rfl) : OpT P f R B n K ops l (opr dst (.convert s d x) ty) σ Γ Ms := sq_pure (pe_convert hs hd' hx) hd k_
theorem o_ld {t T' : TypeId} {bk k : Nat} {cs : List Value} {d : TypeDesc} (k_ : RgT P f R B n K ops l (putS σ dst v) Γ Ms) (hx : ev σ x = .pointer (some ⟨bk, k, none⟩) := by exact wn_) (hF : boxR bk cs T' ∈ Ms := by repeat (first | exact List.mem_cons_self | apply List.mem_cons_of_mem)) (hu : Tab.und P t = some d := by rfl) (hd' : (match d with | .struct _ | .array _ _ => true | _ => false) = false := by rfl) (hk : cs[k]? = some v := by exact wn_) (hd : dstOk n dst = true := by rfl) : OpT P f R B n K ops l (opr dst (.load t x) ty) σ Γ Ms := sq_load (lb_one hx hF hu hd' hk) hd k_
theorem v_ld {t T' : TypeId} {bk k : Nat} {cs : List Value} {d : TypeDesc} (k_ : NV false pn P f R B n K ops fin l (putS σ dst v) Γ Ms) (hx : ev σ x = .pointer (some ⟨bk, k, none⟩) := by exact wn_) (hF : boxR bk cs T' ∈ Ms := by repeat (first | exact List.mem_cons_self | apply List.mem_cons_of_mem)) (hu : Tab.und P t = some d := by rfl) (hd' : (match d with | .struct _ | .array _ _ => true | _ => false) = false := by rfl) (hk : cs[k]? = some v := by exact wn_) (hd : dstOk n dst = true := by rfl) : NvT false pn P f R B n K ops fin i l dst (.load t x) ty σ Γ Ms := nv_load (lb_one hx hF hu hd' hk) rfl hd k_
theorem o_lds {t T' : TypeId} {bk k : Nat} {cs : List Value} {l' : List (Nat × Nat)} {s bt : Nat} {zv : Value} {cs' : List Value} (k_ : RgT P f R B n K ops l (putS σ dst (.agg cs'.toArray)) Γ Ms) (hx : ev σ x = .pointer (some ⟨bk, k, none⟩) := by exact wn_) (hF : boxR bk cs T' ∈ Ms := by repeat (first | exact List.mem_cons_self | apply List.mem_cons_of_mem)) (hu : Tab.lay P t = some l' := by rfl) (hi : Tab.inf P t = some (s, bt, zv) := by rfl) (hk : (cs.drop k).take s = cs' := by rfl) (hl : cs'.length = s := by rfl) (hd : dstOk n dst = true := by rfl) : OpT P f R B n K ops l (opr dst (.load t x) ty) σ Γ Ms := sq_load (lb_agg hx hF hu hi hk hl) hd k_
theorem v_lds {t T' : TypeId} {bk k : Nat} {cs : List Value} {l' : List (Nat × Nat)} {s bt : Nat} {zv : Value} {cs' : List Value} (k_ : NV false pn P f R B n K ops fin l (putS σ dst (.agg cs'.toArray)) Γ Ms) (hx : ev σ x = .pointer (some ⟨bk, k, none⟩) := by exact wn_) (hF : boxR bk cs T' ∈ Ms := by repeat (first | exact List.mem_cons_self | apply List.mem_cons_of_mem)) (hu : Tab.lay P t = some l' := by rfl) (hi : Tab.inf P t = some (s, bt, zv) := by rfl) (hk : (cs.drop k).take s = cs' := by rfl) (hl : cs'.length = s := by rfl) (hd : dstOk n dst = true := by rfl) : NvT false pn P f R B n K ops fin i l dst (.load t x) ty σ Γ Ms := nv_load (lb_agg hx hF hu hi hk hl) rfl hd k_
theorem o_ldC {t : TypeId} {l' : List (Nat × Nat)} {bt bk o i' : Nat} {a : SH} {zv : Value} {ls : List Cl} (k_ : RgT P f R B n K ops l (putS σ dst (.agg (clCells (ls.getD i' cl0)).toArray)) Γ Ms) (hx : ev σ x = .pointer (some ⟨bk, o + i' * 2, none⟩) := by exact wn_) (hFa : CL ls a ∈ Γ ∧ a.1 = some ⟨bk, o, none⟩ := by exact ma0_) (hu : Tab.lay P t = some l' := by rfl) (hi : Tab.inf P t = some (2, bt, zv) := by rfl) (hlt : i' < ls.length := by omega) (hd : dstOk n dst = true := by rfl) : OpT P f R B n K ops l (opr dst (.load t x) ty) σ Γ Ms := sq_load (le_cl hx hFa.1 hFa.2 hu hi hlt) hd k_
theorem v_ldC {t : TypeId} {l' : List (Nat × Nat)} {bt bk o i' : Nat} {a : SH} {zv : Value} {ls : List Cl} (k_ : NV false pn P f R B n K ops fin l (putS σ dst (.agg (clCells (ls.getD i' cl0)).toArray)) Γ Ms) (hx : ev σ x = .pointer (some ⟨bk, o + i' * 2, none⟩) := by exact wn_) (hFa : CL ls a ∈ Γ ∧ a.1 = some ⟨bk, o, none⟩ := by exact ma0_) (hu : Tab.lay P t = some l' := by rfl) (hi : Tab.inf P t = some (2, bt, zv) := by rfl) (hlt : i' < ls.length := by omega) (hd : dstOk n dst = true := by rfl) : NvT false pn P f R B n K ops fin i l dst (.load t x) ty σ Γ Ms := nv_load (le_cl hx hFa.1 hFa.2 hu hi hlt) rfl hd k_
theorem f_ldC {t : TypeId} {l' : List (Nat × Nat)} {bt bk o i' : Nat} {a : SH} {zv : Value} {ls : List Cl} (k_ : NV tn pn P f R B n K ops fin l (putS σ dst (.agg (clCells (ls.getD i' cl0)).toArray)) Γ Ms) (hx : ev σ x = .pointer (some ⟨bk, o + i' * 2, none⟩) := by exact wn_) (hFa : CL ls a ∈ Γ ∧ a.1 = some ⟨bk, o, none⟩ := by exact ma0_) (hu : Tab.lay P t = some l' := by rfl) (hi : Tab.inf P t = some (2, bt, zv) := by rfl) (hlt : i' < ls.length := by omega) (hd : dstOk n dst = true := by rfl) : NvT tn pn P f R B n K ops fin i l dst (.load t x) ty σ Γ Ms := nv_loadF (le_cl hx hFa.1 hFa.2 hu hi hlt) rfl hd k_
theorem o_ldCf {t : TypeId} {d : TypeDesc} {bk o i' k : Nat} {a : SH} {ls : List Cl} (k_ : RgT P f R B n K ops l (putS σ dst v) Γ Ms) (hx : ev σ x = .pointer (some ⟨bk, o + i' * 2 + k, none⟩) := by exact wn_) (hFa : CL ls a ∈ Γ ∧ a.1 = some ⟨bk, o, none⟩ := by exact ma0_) (hu : Tab.und P t = some d := by rfl) (hd' : (match d with | .struct _ | .array _ _ => true | _ => false) = false := by rfl) (hk : (clCells (ls.getD i' cl0))[k]? = some v := by exact wn_) (hlt : i' < ls.length := by omega) (hd : dstOk n dst = true := by rfl) : OpT P f R B n K ops l (opr dst (.load t x) ty) σ Γ Ms := sq_load (le_clf hx hFa.1 hFa.2 hu hd' hk hlt) hd k_
theorem o_ldT {t : TypeId} {l' : List (Nat × Nat)} {bt bk o i' : Nat} {a : SH} {zv : Value} {ts : List T} {VR VK VS : Nat → SH} (k_ : RgT P f R B n K ops l (putS σ dst (.agg (tc (ts.getD i' t0) (VR i') (VK i') (VS i')).toArray)) Γ Ms) (hx : ev σ x = .pointer (some ⟨bk, o + i' * 6, none⟩) := by exact wn_) (hFa : TLx ts a VR VK VS ∈ Γ ∧ a.1 = some ⟨bk, o, none⟩ := by exact ma0_) (hu : Tab.lay P t = some l' := by rfl) (hi : Tab.inf P t = some (6, bt, zv) := by rfl) (hlt : i' < ts.length := by omega) (hd : dstOk n dst = true := by rfl) : OpT P f R B n K ops l (opr dst (.load t x) ty) σ Γ Ms := sq_load (le_term hx hFa.1 hFa.2 hu hi hlt) hd k_
theorem o_ldB {t : TypeId} {l' : List (Nat × Nat)} {bt bk o i' : Nat} {a : SH} {zv : Value} {bs : List Br} {VF VK : Nat → SH} (k_ : RgT P f R B n K ops l (putS σ dst (.agg (bc (bs.getD i' br0) (VF i') (VK i')).toArray)) Γ Ms) (hx : ev σ x = .pointer (some ⟨bk, o + i' * 2, none⟩) := by exact wn_) (hFa : BLx bs a VF VK ∈ Γ ∧ a.1 = some ⟨bk, o, none⟩ := by exact ma0_) (hu : Tab.lay P t = some l' := by rfl) (hi : Tab.inf P t = some (2, bt, zv) := by rfl) (hlt : i' < bs.length := by omega) (hd : dstOk n dst = true := by rfl) : OpT P f R B n K ops l (opr dst (.load t x) ty) σ Γ Ms := sq_load (le_br hx hFa.1 hFa.2 hu hi hlt) hd k_
theorem o_ldBf {t : TypeId} {d : TypeDesc} {bk o i' k : Nat} {a : SH} {bs : List Br} {VF VK : Nat → SH} (k_ : RgT P f R B n K ops l (putS σ dst v) Γ Ms) (hx : ev σ x = .pointer (some ⟨bk, o + i' * 2 + k, none⟩) := by exact wn_) (hFa : BLx bs a VF VK ∈ Γ ∧ a.1 = some ⟨bk, o, none⟩ := by exact ma0_) (hu : Tab.und P t = some d := by rfl) (hd' : (match d with | .struct _ | .array _ _ => true | _ => false) = false := by rfl) (hk : (bc (bs.getD i' br0) (VF i') (VK i'))[k]? = some v := by exact wn_) (hlt : i' < bs.length := by omega) (hd : dstOk n dst = true := by rfl) : OpT P f R B n K ops l (opr dst (.load t x) ty) σ Γ Ms := sq_load (le_brf hx hFa.1 hFa.2 hu hd' hk hlt) hd k_
theorem o_box {t : TypeId} {cs : List Value} (k_ : ∀ b, RgT P f R B n K ops l (putS σ dst ((fun b => .pointer (some ⟨b, 0, none⟩)) b)) Γ (boxR b cs t :: Ms)) (hx : (ev σ x).cells = cs.toArray := by rfl) (hd : dstOk n dst = true := by rfl) : OpT P f R B n K ops l (opr dst (.box t x) ty) σ Γ Ms := sq_alloc (ae_box hx) hd k_
theorem o_new {t : TypeId} {s bt : Nat} {zv : Value} {cs : List Value} (k_ : ∀ b, RgT P f R B n K ops l (putS σ dst ((fun b => .pointer (some ⟨b, 0, none⟩)) b)) Γ (boxR b cs t :: Ms)) (hi : Tab.inf P t = some (s, bt, zv) := by rfl) (hz : zv.cells = cs.toArray := by rfl) (hd : dstOk n dst = true := by rfl) : OpT P f R B n K ops l (opr dst (.alloc t) ty) σ Γ Ms := sq_alloc (ae_alloc hi hz) hd k_
theorem v_new {t : TypeId} {s bt : Nat} {zv : Value} {cs : List Value} (k_ : ∀ b, NV tn pn P f R B n K ops fin l (putS σ dst ((fun b => .pointer (some ⟨b, 0, none⟩)) b)) Γ (boxR b cs t :: Ms)) (hi : Tab.inf P t = some (s, bt, zv) := by rfl) (hz : zv.cells = cs.toArray := by rfl) (hd : dstOk n dst = true := by rfl) : NvT tn pn P f R B n K ops fin i l dst (.alloc t) ty σ Γ Ms := nv_alloc (ae_alloc hi hz) rfl hd k_
theorem o_lit1 {t e : TypeId} {sz bt : Nat} {zv : Value} {cs : List Value} (k_ : ∀ b, RgT P f R B n K ops l (putS σ dst ((fun b => .slice (some ⟨b, 0, none⟩) 1 1) b)) Γ (boxR b cs e :: Ms)) (hu : Tab.und P t = some (.slice e) := by rfl) (hi : Tab.inf P e = some (sz, bt, zv) := by rfl) (hle : sz ≤ 16777216 := by decide) (hx : (ev σ x).cells = cs.toArray := by rfl) (hl : cs.length = sz := by rfl) (hd : dstOk n dst = true := by rfl) : OpT P f R B n K ops l (opr dst (.buildSlice t 1 #[(0, x)]) ty) σ Γ Ms := sq_alloc (ae_lit1 hu hi hle hx hl) hd k_
theorem v_lit1 {t e : TypeId} {sz bt : Nat} {zv : Value} {cs : List Value} (k_ : ∀ b, NV tn pn P f R B n K ops fin l (putS σ dst ((fun b => .slice (some ⟨b, 0, none⟩) 1 1) b)) Γ (boxR b cs e :: Ms)) (hu : Tab.und P t = some (.slice e) := by rfl) (hi : Tab.inf P e = some (sz, bt, zv) := by rfl) (hle : sz ≤ 16777216 := by decide) (hx : (ev σ x).cells = cs.toArray := by rfl) (hl : cs.length = sz := by rfl) (hd : dstOk n dst = true := by rfl) : NvT tn pn P f R B n K ops fin i l dst (.buildSlice t 1 #[(0, x)]) ty σ Γ Ms := nv_alloc (ae_lit1 hu hi hle hx hl) rfl hd k_
theorem o_lit2 {t e : TypeId} {sz bt : Nat} {zv : Value} {cs cs2 : List Value} (k_ : ∀ b, RgT P f R B n K ops l (putS σ dst ((fun b => .slice (some ⟨b, 0, none⟩) 2 2) b)) Γ (boxR b (cs ++ cs2) e :: Ms)) (hu : Tab.und P t = some (.slice e) := by rfl) (hi : Tab.inf P e = some (sz, bt, zv) := by rfl) (hle : 2 * sz ≤ 16777216 := by decide) (hx : (ev σ x).cells = cs.toArray := by rfl) (hy : (ev σ y).cells = cs2.toArray := by rfl) (hl : cs.length = sz := by rfl) (hl2 : cs2.length = sz := by rfl) (hd : dstOk n dst = true := by rfl) : OpT P f R B n K ops l (opr dst (.buildSlice t 2 #[(0, x), (1, y)]) ty) σ Γ Ms := sq_alloc (ae_lit2 hu hi hle hx hy hl hl2) hd k_
theorem v_lit2 {t e : TypeId} {sz bt : Nat} {zv : Value} {cs cs2 : List Value} (k_ : ∀ b, NV tn pn P f R B n K ops fin l (putS σ dst ((fun b => .slice (some ⟨b, 0, none⟩) 2 2) b)) Γ (boxR b (cs ++ cs2) e :: Ms)) (hu : Tab.und P t = some (.slice e) := by rfl) (hi : Tab.inf P e = some (sz, bt, zv) := by rfl) (hle : 2 * sz ≤ 16777216 := by decide) (hx : (ev σ x).cells = cs.toArray := by rfl) (hy : (ev σ y).cells = cs2.toArray := by rfl) (hl : cs.length = sz := by rfl) (hl2 : cs2.length = sz := by rfl) (hd : dstOk n dst = true := by rfl) : NvT tn pn P f R B n K ops fin i l dst (.buildSlice t 2 #[(0, x), (1, y)]) ty σ Γ Ms := nv_alloc (ae_lit2 hu hi hle hx hy hl hl2) rfl hd k_
theorem o_lit0 {t e : TypeId} {sz bt : Nat} {zv : Value} (k_ : ∀ b, RgT P f R B n K ops l (putS σ dst ((fun b => .slice (some ⟨b, 0, none⟩) 0 0) b)) Γ (boxR b [] e :: Ms)) (hu : Tab.und P t = some (.slice e) := by rfl) (hi : Tab.inf P e = some (sz, bt, zv) := by rfl) (hd : dstOk n dst = true := by rfl) : OpT P f R B n K ops l (opr dst (.buildSlice t 0 #[]) ty) σ Γ Ms := sq_alloc (ae_lit0 hu hi) hd k_
theorem v_lit0 {t e : TypeId} {sz bt : Nat} {zv : Value} (k_ : ∀ b, NV tn pn P f R B n K ops fin l (putS σ dst ((fun b => .slice (some ⟨b, 0, none⟩) 0 0) b)) Γ (boxR b [] e :: Ms)) (hu : Tab.und P t = some (.slice e) := by rfl) (hi : Tab.inf P e = some (sz, bt, zv) := by rfl) (hd : dstOk n dst = true := by rfl) : NvT tn pn P f R B n K ops fin i l dst (.buildSlice t 0 #[]) ty σ Γ Ms := nv_alloc (ae_lit0 hu hi) rfl hd k_
theorem o_st {t T' : TypeId} {b s bt : Nat} {zv : Value} {cs cs' : List Value} (k_ : RgT P f R B n K ops l σ Γ (boxR b cs' T' :: Ms2)) (hx : ev σ x = .pointer (some ⟨b, 0, none⟩) := by exact wn_) (hm : Ms.Perm (boxR b cs T' :: Ms2) := by first | exact perm0 | exact perm1 | exact perm2 | exact perm3 | exact perm4 | exact perm5 | exact perm6) (hy : (ev σ y).cells = cs'.toArray := by rfl) (hi : Tab.inf P t = some (s, bt, zv) := by rfl) (hl : cs'.length = s := by rfl) (hl2 : cs.length = s := by rfl) (h1 : oneCells cs' = true := by rfl) : OpT P f R B n K ops l (opr none (.store t x y) ty) σ Γ Ms := sq_store (se_box hx hy hm hi hl hl2 h1) k_
theorem o_stc {t T' : TypeId} {b k bt : Nat} {zv : Value} {cs cs' : List Value} (k_ : RgT P f R B n K ops l σ Γ (boxR b cs' T' :: Ms2)) (hx : ev σ x = .pointer (some ⟨b, k, none⟩) := by exact wn_) (hm : Ms.Perm (boxR b cs T' :: Ms2) := by first | exact perm0 | exact perm1 | exact perm2 | exact perm3 | exact perm4 | exact perm5 | exact perm6) (hy : ev σ y = v := by exact wn_) (hi : Tab.inf P t = some (1, bt, zv) := by rfl) (h1 : v.oneCell' = true := by rfl) (hk : k < cs.length := by exact Nat.le_of_ble_eq_true rfl) (hc : cs.set k v = cs' := by rfl) : OpT P f R B n K ops l (opr none (.store t x y) ty) σ Γ Ms := by
  subst hc
  exact sq_store (se_cell hx hy hm hi h1 hk) k_
theorem o_appS {t e T' : TypeId} {ts : Array TypeId} {sz bt n' m c b : Nat} {zv : Value} {a : SH} {xs cs : List Value} (k_ : ∀ a' : SH, RgT P f R B n K ops l (putS σ dst (sl a' (n' + m))) Γ (rowS sz e a' (n' + m) (xs ++ cs) :: boxR b cs T' :: Ms2)) (hm : Ms.Perm (rowS sz e a n' xs :: boxR b cs T' :: Ms2) := by first | exact perm0 | exact perm1 | exact perm2 | exact perm3 | exact perm4 | exact perm5 | exact perm6) (hx : ev σ x = sl a n' := by rfl) (hy : ev σ y = .slice (some ⟨b, 0, none⟩) m c := by exact wn_) (hts : ts = #[t, t] := by rfl) (hu : Tab.und P t = some (.slice e) := by rfl) (hi : Tab.inf P e = some (sz, bt, zv) := by rfl) (hzs : zv.cells.size = sz := by rfl) (hsz : 0 < sz := by exact Nat.le_of_ble_eq_true rfl) (hl : cs.length = m * sz := by rfl) (h1 : oneCells cs = true := by rfl) (hb : (n' + m) * bt ≤ 140737488355328 := by first | omega | (unfold reach at *; omega) | (unfold reach cap47 at *; omega)) (hnm : n' + m ≤ 9223372036854775807 := by first | omega | (unfold reach at *; omega) | (unfold reach cap47 at *; omega)) (hd : dstOk n dst = true := by rfl) : OpT P f R B n K ops l (opr dst (.call { callee := .builtin .append, args := #[x, y], argTypes := ts }) ty) σ Γ Ms := sq_turn (te_appS hm hx hy hts hu hi hzs hsz hl h1 hb hnm) hd k_
theorem o_appCL {t e : TypeId} {ts : Array TypeId} {bt n' : Nat} {zv : Value} {a b : SH} {xs : List Value} {ls : List Cl} (k_ : ∀ a' : SH, RgT P f R B n K ops l (putS σ dst (sl a' (n' + ls.length))) Γ (rowS 2 e a' (n' + ls.length) (xs ++ clFlat ls) :: Ms2)) (hF : CL ls b ∈ Γ) (hm : Ms.Perm (rowS 2 e a n' xs :: Ms2) := by first | exact perm0 | exact perm1 | exact perm2 | exact perm3 | exact perm4 | exact perm5 | exact perm6) (hx : ev σ x = sl a n' := by rfl) (hy : ev σ y = sl b ls.length := by rfl) (hts : ts = #[t, t] := by rfl) (hu : Tab.und P t = some (.slice e) := by rfl) (hi : Tab.inf P e = some (2, bt, zv) := by rfl) (hzs : zv.cells.size = 2 := by rfl) (hb : (n' + ls.length) * bt ≤ 140737488355328 := by first | omega | (unfold reach at *; omega) | (unfold reach cap47 at *; omega)) (hnm : n' + ls.length ≤ 9223372036854775807 := by first | omega | (unfold reach at *; omega) | (unfold reach cap47 at *; omega)) (hd : dstOk n dst = true := by rfl) : OpT P f R B n K ops l (opr dst (.call { callee := .builtin .append, args := #[x, y], argTypes := ts }) ty) σ Γ Ms := sq_turn (te_appCL hm hF hx hy hts hu hi hzs hb hnm) hd k_
theorem o_makeMap [TyF P] [TabM P] {t : TypeId} (k_ : ∀ b, RgT P f R B n K ops l (putS σ dst (.map (some b))) Γ (mapR b [] :: Ms)) (hd : dstOk n dst = true := by rfl) : OpT P f R B n K ops l (opr dst (.makeMap t none) ty) σ Γ Ms := sq_turn te_makeMap hd k_
theorem o_lookupM [TyF P] [TabM P] {t e : TypeId} {s bt b : Nat} {c : Cl} {keys : List Cl} (k_ : RgT P f R B n K ops l (putS σ dst (.bool (decide (c ∈ keys)))) Γ Ms) (hx : ev σ x = .map (some b) := by exact wn_) (hm : mapR b keys ∈ Ms := by repeat (first | exact List.mem_cons_self | apply List.mem_cons_of_mem)) (hy : ev σ y = keyV c := by rfl) (hc : u32 c := by assumption) (hu : Tab.und P t = some (.map (TyF.tC P) e) := by rfl) (hi : Tab.inf P e = some (s, bt, .bool false) := by rfl) (hd : dstOk n dst = true := by rfl) : OpT P f R B n K ops l (opr dst (.lookup t x y false) ty) σ Γ Ms := sq_load (le_lookup hx hm hc hy hu hi) hd k_
theorem o_mapUpd [TyF P] [TabM P] {t e : TypeId} {b : Nat} {c : Cl} {keys : List Cl} (k_ : RgT P f R B n K ops l σ Γ (mapR b (keys ++ [c]) :: Ms2)) (hx : ev σ x = .map (some b) := by exact wn_) (hm : Ms.Perm (mapR b keys :: Ms2) := by first | exact perm0 | exact perm1 | exact perm2 | exact perm3 | exact perm4 | exact perm5 | exact perm6) (hy : ev σ y = keyV c := by rfl) (hc : u32 c := by assumption) (hn : c ∉ keys := by assumption) (hz : ev σ z = .bool true := by rfl) (hu : Tab.und P t = some (.map (TyF.tC P) e) := by rfl) : OpT P f R B n K ops l (opr none (.mapUpdate t x y z) ty) σ Γ Ms := sq_store (se_mapUpdate hx hm hc hn hy hz hu) k_
/-- A call by its contract. -/
theorem enterE {c : FuncId} {args : Array Value} {as : Array Operand} {ts : Array TypeId} {g : Operand} (hg : ev σ g = .func (.func c) #[] #[]) (ha : as.toList.map (ev σ) = args.toList) (hc : ∀ (args : Array Value) (w : World), (callFunc c args).run P w = .ok (.enter c args) w) : EnterE P σ (.call { callee := .value g, args := as, argTypes := ts }) ty c args := fun w => by
  have ha : as.map (ev σ) = args := Array.ext' (by simpa using ha)
  subst ha
  simp [opr, execOp, resolve, hg, Deferred.ofValue, invoke, hc]
/-- A call of a closure: what it holds comes behind the arguments. -/
theorem enterC {c : FuncId} {args cap : List Value} {as : Array Operand} {ts : Array TypeId} {g : Operand} (hg : ev σ g = .func (.func c) #[] cap.toArray) (ha : as.toList.map (ev σ) = args) (hc : ∀ (args : Array Value) (w : World), (callFunc c args).run P w = .ok (.enter c args) w) : EnterE P σ (.call { callee := .value g, args := as, argTypes := ts }) ty c (args ++ cap).toArray := fun w => by
  have ha : as.map (ev σ) = args.toArray := Array.ext' (by simpa using ha)
  simp [ha, opr, execOp, resolve, hg, Deferred.ofValue, invoke, hc]
theorem o_call {c : FuncId} {args : Array Value} {as : Array Operand} {ts : Array TypeId} {g : Operand} {pre : List Fact} {Ms0 : List Res} {X : Type} {val : X → Value} {N : X → List Fact} {Ms1 : X → List Res}
    (hc : ∀ (args : Array Value) (w : World), (callFunc c args).run P w = .ok (.enter c args) w) (hsp : Spec P c args pre Ms0 val N Ms1) (kk : ∀ x, RgT P f R B n K ops l (putS σ dst (val x)) (N x ++ Γ) (Ms1 x ++ Ms2))
    (hg : ev σ g = .func (.func c) #[] #[] := by rfl) (ha : as.toList.map (ev σ) = args.toList := by rfl) (hpre : ∀ F, F ∈ pre → F ∈ Γ := by first | (simp; done) | (simp +contextual; done)) (hm : Ms.Perm (Ms0 ++ Ms2) := by first | exact List.Perm.refl _ | exact permA1 | exact permA2 | exact permA3 | exact permA4 | exact perm1 | exact perm2 | exact perm3 | exact perm4 | exact permR3) (hd : dstOk n dst = true := by rfl) : OpT P f R B n K ops l (opr dst (.call { callee := .value g, args := as, argTypes := ts }) ty) σ Γ Ms :=
  sq_call (enterE hg ha hc) hsp hpre hm hd kk
theorem o_callC {c : FuncId} {args cap al : List Value} {as : Array Operand} {ts : Array TypeId} {g : Operand} {pre : List Fact} {Ms0 : List Res} {X : Type} {val : X → Value} {N : X → List Fact} {Ms1 : X → List Res}
    (hc : ∀ (args : Array Value) (w : World), (callFunc c args).run P w = .ok (.enter c args) w) (hsp : Spec P c al.toArray pre Ms0 val N Ms1) (kk : ∀ x, RgT P f R B n K ops l (putS σ dst (val x)) (N x ++ Γ) (Ms1 x ++ Ms2))
    (hg : ev σ g = .func (.func c) #[] cap.toArray := by rfl) (ha : as.toList.map (ev σ) = args := by rfl) (hal : args ++ cap = al := by rfl) (hpre : ∀ F, F ∈ pre → F ∈ Γ := by first | (simp; done) | (simp +contextual; done)) (hm : Ms.Perm (Ms0 ++ Ms2) := by first | exact List.Perm.refl _ | exact permA1 | exact permA2 | exact permA3 | exact permA4 | exact perm1 | exact perm2 | exact perm3 | exact perm4 | exact permR3) (hd : dstOk n dst = true := by rfl) : OpT P f R B n K ops l (opr dst (.call { callee := .value g, args := as, argTypes := ts }) ty) σ Γ Ms :=
  sq_call (enterC hg ha hc) (hal ▸ hsp) hpre hm hd kk
theorem v_call {c : FuncId} {args : Array Value} {as : Array Operand} {ts : Array TypeId} {g : Operand} {pre : List Fact} {X : Type} {val : X → Value} {N : X → List Fact} {Ms1 : X → List Res}
    (hc : ∀ (args : Array Value) (w : World), (callFunc c args).run P w = .ok (.enter c args) w) (hsp : Spec P c args pre [] val N Ms1) (kk : ∀ x, NV tn pn P f R B n K ops fin l (putS σ dst (val x)) (N x ++ Γ) (Ms1 x ++ Ms))
    (hg : ev σ g = .func (.func c) #[] #[] := by rfl) (ha : as.toList.map (ev σ) = args.toList := by rfl) (hpre : ∀ F, F ∈ pre → F ∈ Γ := by first | (simp; done) | (simp +contextual; done)) (hd : dstOk n dst = true := by rfl) : NvT tn pn P f R B n K ops fin i l dst (.call { callee := .value g, args := as, argTypes := ts }) ty σ Γ Ms :=
  nv_call (enterE hg ha hc) hsp hpre rfl rfl hd kk
/-- Guards. -/
theorem q0 (ho : ops[i]? = some ⟨dst, op, ty, pos, after, none⟩) (h : OpT P f R B n K ops l (opr dst op ty) σ Γ Ms) : RgT P f R B n K ops (i :: l) σ Γ Ms := rg_at ho h
theorem qT {g d : Nat} {want : Bool} {og : Oper} (ho : ops[i]? = some ⟨dst, op, ty, pos, after, some (g, want)⟩) (hog : ops[g]? = some og) (hgd : og.dst = some d) (h : OpT P f R B n K ops l (opr dst op ty) σ Γ Ms) (ht : σ d = .bool want := by rfl) : RgT P f R B n K ops (i :: l) σ Γ Ms := rg_ifT ho hog hgd ht h
theorem qF {g d : Nat} {want t : Bool} {og : Oper} (ho : ops[i]? = some ⟨dst, op, ty, pos, after, some (g, want)⟩) (hog : ops[g]? = some og) (hgd : og.dst = some d) (h : RgT P f R B n K ops l (putS σ dst undef) Γ Ms) (ht : σ d = .bool t := by conv => lhs; whnf) (hne : (t == want) = false := by rfl) (hd : dstOk n dst = true := by rfl) : RgT P f R B n K ops (i :: l) σ Γ Ms := rg_ifF ho hog hgd ht hne hd h
theorem qU {g d : Nat} {want : Bool} {og : Oper} (ho : ops[i]? = some ⟨dst, op, ty, pos, after, some (g, want)⟩) (hog : ops[g]? = some og) (hgd : og.dst = some d) (h : RgT P f R B n K ops l (putS σ dst undef) Γ Ms) (ht : σ d = undef := by rfl) (hd : dstOk n dst = true := by rfl) : RgT P f R B n K ops (i :: l) σ Γ Ms := rg_ifU ho hog hgd ht hd h
theorem nU {g d : Nat} {want : Bool} {og : Oper} (ho : ops[i]? = some ⟨dst, op, ty, pos, after, some (g, want)⟩) (hog : ops[g]? = some og) (hgd : og.dst = some d) (h : NV tn pn P f R B n K ops fin l (putS σ dst undef) Γ Ms) (ht : σ d = undef := by rfl) (hd : dstOk n dst = true := by rfl) (hn : Nat.beq pn i = false := by rfl) : NV tn pn P f R B n K ops fin (i :: l) σ Γ Ms := nv_ifU ho hog hgd ht hd h hn
theorem qI {g d : Nat} {want t : Bool} {og : Oper} (ho : ops[i]? = some ⟨dst, op, ty, pos, after, some (g, want)⟩) (hog : ops[g]? = some og) (hgd : og.dst = some d) (ht : σ d = .bool t) (hon : t = want → OpT P f R B n K ops l (opr dst op ty) (upd σ d (.bool want)) Γ Ms) (hoff : t = !want → RgT P f R B n K ops l (putS (upd σ d (.bool !want)) dst undef) Γ Ms) (hd : dstOk n dst = true := by rfl) : RgT P f R B n K ops (i :: l) σ Γ Ms := rg_if ho hog hgd ht hd hon hoff
theorem n0 (ho : ops[i]? = some ⟨dst, op, ty, pos, after, none⟩) (h : NvT tn pn P f R B n K ops fin i l dst op ty σ Γ Ms) (hn : Nat.beq pn i = false := by rfl) : NV tn pn P f R B n K ops fin (i :: l) σ Γ Ms := nv_at ho h hn
theorem nT {g d : Nat} {want : Bool} {og : Oper} (ho : ops[i]? = some ⟨dst, op, ty, pos, after, some (g, want)⟩) (hog : ops[g]? = some og) (hgd : og.dst = some d) (h : NvT tn pn P f R B n K ops fin i l dst op ty σ Γ Ms) (ht : σ d = .bool want := by rfl) (hn : Nat.beq pn i = false := by rfl) : NV tn pn P f R B n K ops fin (i :: l) σ Γ Ms := nv_ifT ho hog hgd ht h hn
theorem nF {g d : Nat} {want t : Bool} {og : Oper} (ho : ops[i]? = some ⟨dst, op, ty, pos, after, some (g, want)⟩) (hog : ops[g]? = some og) (hgd : og.dst = some d) (h : NV tn pn P f R B n K ops fin l (putS σ dst undef) Γ Ms) (ht : σ d = .bool t := by conv => lhs; whnf) (hne : (t == want) = false := by rfl) (hd : dstOk n dst = true := by rfl) (hn : Nat.beq pn i = false := by rfl) : NV tn pn P f R B n K ops fin (i :: l) σ Γ Ms := nv_ifF ho hog hgd ht hne hd h hn
theorem nI {g d : Nat} {want t : Bool} {og : Oper} (ho : ops[i]? = some ⟨dst, op, ty, pos, after, some (g, want)⟩) (hog : ops[g]? = some og) (hgd : og.dst = some d) (ht : σ d = .bool t) (hon : t = want → NvT tn pn P f R B n K ops fin i l dst op ty (upd σ d (.bool want)) Γ Ms) (hoff : t = !want → NV tn pn P f R B n K ops fin l (putS (upd σ d (.bool !want)) dst undef) Γ Ms) (hd : dstOk n dst = true := by rfl) (hn : Nat.beq pn i = false := by rfl) : NV tn pn P f R B n K ops fin (i :: l) σ Γ Ms := nv_if ho hog hgd ht hd hon hoff hn
end
end Go.Hy
namespace Go.Hy
/-! ### More places of what is owned -/
theorem perm7 {a b c d e f g m : Res} {L : List Res} : (a :: b :: c :: d :: e :: f :: g :: m :: L).Perm (m :: a :: b :: c :: d :: e :: f :: g :: L) := (perm6.cons a).trans perm1
theorem perm8 {a b c d e f g h m : Res} {L : List Res} : (a :: b :: c :: d :: e :: f :: g :: h :: m :: L).Perm (m :: a :: b :: c :: d :: e :: f :: g :: h :: L) := (perm7.cons a).trans perm1
theorem perm9 {a b c d e f g h i m : Res} {L : List Res} : (a :: b :: c :: d :: e :: f :: g :: h :: i :: m :: L).Perm (m :: a :: b :: c :: d :: e :: f :: g :: h :: i :: L) := (perm8.cons a).trans perm1
theorem perm10 {a b c d e f g h i j m : Res} {L : List Res} : (a :: b :: c :: d :: e :: f :: g :: h :: i :: j :: m :: L).Perm (m :: a :: b :: c :: d :: e :: f :: g :: h :: i :: j :: L) := (perm9.cons a).trans perm1
theorem perm11 {a b c d e f g h i j k m : Res} {L : List Res} : (a :: b :: c :: d :: e :: f :: g :: h :: i :: j :: k :: m :: L).Perm (m :: a :: b :: c :: d :: e :: f :: g :: h :: i :: j :: k :: L) := (perm10.cons a).trans perm1
/-! ### Lists of whole numbers -/
def intCells (x : Int) : List Value := [.int .i64 x]
abbrev intFlat (l : List Int) : List Value := l.flatMap intCells
theorem intCells_len (x : Int) : (intCells x).length = 1 := rfl
def intsAt (ok : Nat → Prop) (l : List Int) (a : SH) (w : World) : Prop := rowAt ok 1 8 l.length a (fun i => intCells (l.getD i 0)) w ∧ ∀ x, x ∈ l → in64 x
def IL (l : List Int) (a : SH) : Fact := ⟨fun ok w => intsAt ok l a w, fun _ _ _ hs h => ⟨h.1.mono hs, h.2⟩, fun _ _ _ h hs => ⟨h.1.loc hs, h.2⟩⟩
section
variable {B : Base} {Γ : List Fact} {Ms : List Res} {w : World}
theorem St.settleIL {e : TypeId} {a : SH} {n : Nat} {xs : List Value} {l : List Int} (hs : St B Γ (rowS 1 e a n xs :: Ms) w) {hBp : Prop} (hB : hBp) (hx : xs = intFlat l) (hn : n = l.length) (hb : n * 8 ≤ reach) (hu : ∀ c, c ∈ l → in64 c) : St B (IL l a :: Γ) Ms w := by
  subst hx
  subst hn
  refine hs.settle0 hB (fun ok hok hh => ⟨?_, hu⟩)
  exact own_rowAt (F := intCells) intCells_len 0 (hh : World.ownsRow _ _ _ _ _ _ _) rfl hb hok
theorem St.snocC {e : TypeId} {a : SH} {n : Nat} {l : List Cl} {c : Cl} (hs : St B Γ (rowS 2 e a n (clFlat l ++ clCells c) :: Ms) w) : St B Γ (rowS 2 e a n (clFlat (l ++ [c])) :: Ms) w := by
  have h : clFlat (l ++ [c]) = clFlat l ++ clCells c := by simp [clFlat]
  rw [h]; exact hs
theorem St.snocT {e : TypeId} {a : SH} {n : Nat} {l : List TP} {t : T} {vr vk vs : SH} (hs : St B Γ (rowS 6 e a n (tpFlat l ++ tc t vr vk vs) :: Ms) w) : St B Γ (rowS 6 e a n (tpFlat (l ++ [(t, vr, vk, vs)])) :: Ms) w := by
  have h : tpFlat (l ++ [(t, vr, vk, vs)]) = tpFlat l ++ tc t vr vk vs := by simp [tpFlat, tpCells]
  rw [h]; exact hs
theorem St.snocB {e : TypeId} {a : SH} {n : Nat} {l : List BP} {b : Br} {vf vk : SH} (hs : St B Γ (rowS 2 e a n (bpFlat l ++ bc b vf vk) :: Ms) w) : St B Γ (rowS 2 e a n (bpFlat (l ++ [(b, vf, vk)])) :: Ms) w := by
  have h : bpFlat (l ++ [(b, vf, vk)]) = bpFlat l ++ bc b vf vk := by simp [bpFlat, bpCells]
  rw [h]; exact hs
theorem St.appFlatC {e : TypeId} {a : SH} {n : Nat} {l m : List Cl} (hs : St B Γ (rowS 2 e a n (clFlat l ++ clFlat m) :: Ms) w) : St B Γ (rowS 2 e a n (clFlat (l ++ m)) :: Ms) w := by
  have h : clFlat (l ++ m) = clFlat l ++ clFlat m := by simp [clFlat]
  rw [h]; exact hs
/-- What a list of whole numbers is, laid open. -/
theorem St.openIL {l : List Int} {a : SH} (hs : St B Γ Ms w) (hF : IL l a ∈ Γ) : l.length * 8 ≤ reach ∧ (0 < l.length → ∃ b o, a.1 = some ⟨b, o, Option.none⟩) ∧ ∀ c, c ∈ l → in64 c := by
  obtain ⟨h2, h4⟩ := hs.facts _ hF
  exact ⟨h2.2.1, fun hn => by obtain ⟨b, o, h3, _⟩ := h2.2.2 hn; exact ⟨b, o, h3⟩, h4⟩
end
section
variable {P : Program} {f : FuncId} {R : Ending → World → Prop} {B : Base} {n : Fz} {todo : List Item} {σ : Nat → Value} {Γ : List Fact} {Ms : List Res}
theorem go_openIL {l : List Int} {a : SH} (k : l.length * 8 ≤ reach → (0 < l.length → ∃ b o, a.1 = some ⟨b, o, none⟩) → (∀ c, c ∈ l → in64 c) → GoT P f R B n todo σ Γ Ms) (hF : IL l a ∈ Γ := by repeat (first | exact List.mem_cons_self | apply List.mem_cons_of_mem)) : GoT P f R B n todo σ Γ Ms :=
  go_know (p := l.length * 8 ≤ reach ∧ (0 < l.length → ∃ b o, a.1 = some ⟨b, o, none⟩) ∧ ∀ c, c ∈ l → in64 c) (fun w hs => hs.openIL hF) (fun h => k h.1 h.2.1 h.2.2)
/-- A loop that keeps what is known: 'E x' adds what is known of the state x. -/
theorem go_loopE {K : List Item} {c : Code} {X : Type} (Inv : X → Prop) (live : X → List (Nat × Value)) (E : X → List Fact → List Fact) (Mf : X → List Res) (μ : X → Nat) (x0 : X) (h0 : Inv x0)
    (hl : LiveL σ (live x0)) (hΓ : ∀ w, St B Γ Ms w → St B (E x0 Γ) (Mf x0) w)
    (round : ∀ x base, Inv x → (∀ x' σ', Inv x' → μ x' < μ x → LiveL σ' (live x') → GoT P f R B n (.inLoop c :: K) σ' (E x' Γ) (Mf x')) →
      GoT P f R B n (.code c :: .inLoop c :: K) (stL base (live x)) (E x Γ) (Mf x)) :
    GoT P f R B n (.code (.loop c) :: K) σ Γ Ms := go_loopI Inv live (fun x => E x Γ) Mf μ x0 h0 hl hΓ round
end
/-- What is owned, otherwise said, in a region that draws. -/
theorem NV.conv {tn : Bool} {pn : Nat} {P : Program} {f : FuncId} {R : Ending → World → Prop} {B : Base} {n : Fz} {K : List Item} {ops : Array Oper} {l fin : List Nat} {σ : Nat → Value} {Γ : List Fact} {Ms' : List Res} (h : NV tn pn P f R B n K ops fin l σ Γ Ms') :
    ∀ {Ms : List Res}, (∀ Γ M w, St B Γ (M ++ Ms) w → St B Γ (M ++ Ms') w) → NV tn pn P f R B n K ops fin l σ Γ Ms := by
  induction h with
  | done h => exact fun hc => .done (fun a w hr hs => h a w hr (hc _ [] w hs))
  | no h => exact fun hc => .no (fun ⟨w, hw⟩ => h ⟨w, hc _ [] w hw⟩)
  | pure ho hw hd h k ih => exact fun hc => .pure ho hw hd h (ih hc)
  | load ht ho hm hw hd h k ih => exact fun hc => .load ht ho hm hw hd (fun w hs => h w (hc _ [] w hs)) (ih hc)
  | off ho hw hd k ih => exact fun hc => .off ho hw hd (ih hc)
  | alloc ho hg hw hd h k ih => exact fun hc => .alloc ho hg hw hd h (fun b => ih b (fun Γ M w hs => by
      have := hc Γ (M ++ [boxR b _ _]) w (by simpa using hs)
      simpa using this))
  | allocF hz ho hg hgm hw hd h hF k ih => exact fun hc => .allocF hz ho hg hgm hw hd h hF (fun b => ih b hc)
  | call ht ho hg hm hw hd he hsp hpre k ih => exact fun hc => .call ht ho hg hm hw hd he hsp hpre (fun x => ih x (fun Γ M w hs => by
      have := hc Γ (M ++ _) w (by simpa using hs)
      simpa using this))
  | loadF ho hm hw hd h k ih => exact fun hc => .loadF ho hm hw hd h (ih hc)
  | pan ht ho hq hg hm hw he hsp hpre hR => exact fun hc => .pan ht ho hq hg hm hw he hsp hpre hR
  | @turn i l o X val F r r' σ Γ Ms0 Ms2 ht ho hb hw hd hp h k hz ih =>
    intro Ms hc
    refine NV.turn (F := F) (r := Ms) (r' := fun x => r' x ++ Ms2) (Ms2 := []) ht ho hb hw hd (by rw [List.append_nil]) (fun M w hs => ?_) (fun x => by rw [List.append_nil]; exact k x) hz
    have h0 : St B Γ (M ++ Ms0) w := hc _ M w (hs.perm List.perm_append_comm)
    have h1 : St B Γ (r ++ (Ms2 ++ M)) w := by
      rw [← List.append_assoc]
      exact h0.perm (List.perm_append_comm.trans (hp.append_right M))
    obtain ⟨x, w', h2, h3⟩ := h (Ms2 ++ M) w h1
    exact ⟨x, w', h2, by rw [List.append_assoc]; exact h3⟩
  | @sto i l o r r' σ Γ Ms0 Ms2 ho hb hw hd hp h k ih =>
    intro Ms hc
    refine NV.sto (r := Ms) (r' := r' ++ Ms2) (Ms2 := []) ho hb hw hd (by rw [List.append_nil]) (fun M w hs => ?_) (by rw [List.append_nil]; exact k)
    have h0 : St B Γ (M ++ Ms0) w := hc _ M w (hs.perm List.perm_append_comm)
    have h1 : St B Γ (r ++ (Ms2 ++ M)) w := by
      rw [← List.append_assoc]
      exact h0.perm (List.perm_append_comm.trans (hp.append_right M))
    obtain ⟨w', h2, h3⟩ := h (Ms2 ++ M) w h1
    exact ⟨w', h2, by rw [List.append_assoc]; exact h3⟩
theorem nv_conv {tn : Bool} {pn : Nat} {P : Program} {f : FuncId} {R : Ending → World → Prop} {B : Base} {n : Fz} {K : List Item} {ops : Array Oper} {l fin : List Nat} {σ : Nat → Value} {Γ : List Fact} {Ms : List Res} (A A' : List Res) (hc : ∀ Γ L w, St B Γ (A ++ L) w → St B Γ (A' ++ L) w) (h : NV tn pn P f R B n K ops fin l σ Γ (A' ++ Ms)) : NV tn pn P f R B n K ops fin l σ Γ (A ++ Ms) :=
  h.conv (fun Γ M w hs => by
    have h1 := hc Γ (Ms ++ M) w (by simpa using hs.perm List.perm_append_comm)
    have h2 : St B Γ ((A' ++ Ms) ++ M) w := by simpa using h1
    exact h2.perm List.perm_append_comm)
section
variable {P : Program} [Tab P] {B : Base} {σ : Nat → Value} {Γ : List Fact} {Ms : List Res} {ty : TypeId} {x y : Operand} {k : IntKind} {a : Int} {v : Value}
theorem le_int {t : TypeId} {d : TypeDesc} {bk o i : Nat} {a : SH} {l : List Int} (hx : ev σ x = .pointer (some ⟨bk, o + i * 1, none⟩)) (hF : IL l a ∈ Γ) (ha : a.1 = some ⟨bk, o, none⟩) (hu : Tab.und P t = some d) (hd : (match d with | .struct _ | .array _ _ => true | _ => false) = false) (hlt : i < l.length) :
    LoadE P B σ Γ Ms (.load t x) ty (.int .i64 (l.getD i 0)) := fun w hs => by
  have h3 := (row_cells (hs.facts _ hF).1 ha hlt).2 0 (.int .i64 (l.getD i 0)) rfl
  rw [Nat.add_zero] at h3
  have h4 := run_loadVar_one (P := P) hu hd h3
  generalize hv : l.getD i 0 = u at h4 ⊢
  simp only [opr, execOp, hx, Instr.loadAt, Instr.sureAddr]
  rw [Nat.mul_one] at h4 ⊢
  simp [h4]
theorem pe_convUI {s d : TypeId} {a : Nat} (hs : Tab.und P s = some (.int .u32)) (hd : Tab.und P d = some (.int .i64)) (hx : ev σ x = .int .u32 (a : Int)) (ha : a < 4294967296) : PureE P σ (.convert s d x) ty (.int .i64 (a : Int)) := by
  have e : IntKind.i64.wrap (a : Int) = (a : Int) := by rw [IntKind.wrap_i64]; omega
  have := pe_convert (P := P) (ty := ty) hs hd hx
  rwa [e] at this
/-- To a number without a sign, as a number of places. -/
theorem pe_convI6 {s d : TypeId} {a : Int} {m : Nat} (hs : Tab.und P s = some (.int .i64)) (hd : Tab.und P d = some (.int .u64)) (hx : ev σ x = .int .i64 a) (ha : a = (m : Int)) (hm : m < 18446744073709551616) : PureE P σ (.convert s d x) ty (.int .u64 (m : Int)) := by
  have e : IntKind.u64.wrap a = (m : Int) := by
    have : IntKind.u64.wrap a = a % 18446744073709551616 := by simp [IntKind.wrap, IntKind.bits, IntKind.signed]
    rw [this]; omega
  have := pe_convert (P := P) (ty := ty) hs hd hx
  rwa [e] at this
end
end Go.Hy
namespace Go.Hy
/-! ### Parts of slices -/
def dropSH (a : SH) (sz k : Nat) : SH := (if a.2 = k then a.1 else a.1.map (·.add (k * sz)), a.2 - k)
section
variable {P : Program} [Tab P] {B : Base} {σ : Nat → Value} {Γ : List Fact} {Ms : List Res} {ty : TypeId} {x y : Operand}
theorem pe_sliceHi {t e : TypeId} {s bt m c k : Nat} {zv : Value} {A : Option Addr} (hu : Tab.und P t = some (.slice e)) (hi : Tab.inf P e = some (s, bt, zv)) (hx : ev σ x = .slice A m c) (hy : ev σ y = .int .i64 (k : Int)) (hk : k ≤ c) : PureE P σ (.slice t x none (some y) none) ty (.slice A k c) := fun w => by
  have h0 : ∀ a : Option Addr, (a.map fun b : Addr => b.add 0) = a := fun a => by cases a <;> simp [Addr.add_zero']
  simp [opr, execOp, hx, hy, Instr.sliceAt, Instr.slice, Instr.sliceBounds, Instr.sliceBound, asIntOf, run_und0 hu, hk, run_size0 hi, h0]
theorem pe_sliceLo {t e : TypeId} {s bt m k : Nat} {zv : Value} {a : SH} (hu : Tab.und P t = some (.slice e)) (hi : Tab.inf P e = some (s, bt, zv)) (hx : ev σ x = sl a m) (hy : ev σ y = .int .i64 (k : Int)) (hk : k ≤ m) : PureE P σ (.slice t x (some y) none none) ty (sl (dropSH a s k) (m - k)) := fun w => by
  have hx' : ev σ x = .slice a.1 m a.2 := hx
  simp [opr, execOp, hx', hy, Instr.sliceAt, Instr.slice, Instr.sliceBounds, Instr.sliceBound, asIntOf, run_und0 hu, hk, run_size0 hi, sl, dropSH]
end
theorem rowAt_take {ok : Nat → Prop} {sz bt n k : Nat} {a : SH} {E : Nat → List Value} {w : World} (h : rowAt ok sz bt n a E w) (hk : k ≤ n) : rowAt ok sz bt k a E w :=
  ⟨Nat.le_trans hk h.1, Nat.le_trans (Nat.mul_le_mul_right bt hk) h.2.1, fun h0 => by
    obtain ⟨b, o, h1, h2, h3⟩ := h.2.2 (by omega)
    exact ⟨b, o, h1, h2, fun i hi => h3 i (by omega)⟩⟩
theorem rowAt_drop {ok : Nat → Prop} {sz bt n k : Nat} {a : SH} {E : Nat → List Value} {w : World} (h : rowAt ok sz bt n a E w) (hk : k ≤ n) : rowAt ok sz bt (n - k) (dropSH a sz k) (fun i => E (i + k)) w := by
  refine ⟨Nat.sub_le_sub_right h.1 k, Nat.le_trans (Nat.mul_le_mul_right bt (Nat.sub_le n k)) h.2.1, fun h0 => ?_⟩
  obtain ⟨b, o, h1, h2, h3⟩ := h.2.2 (by omega)
  have hne : a.2 ≠ k := by have := h.1; omega
  refine ⟨b, o + k * sz, by simp [dropSH, hne, h1, Addr.add_lit], h2, fun i hi j v hv => ?_⟩
  have := h3 (i + k) (by omega) j v hv
  rwa [show o + k * sz + i * sz + j = o + (i + k) * sz + j by rw [Nat.add_mul]; omega]
theorem rowAt_congr {ok : Nat → Prop} {sz bt n : Nat} {a : SH} {E E' : Nat → List Value} {w : World} (h : rowAt ok sz bt n a E w) (he : ∀ i, i < n → E i = E' i) : rowAt ok sz bt n a E' w :=
  ⟨h.1, h.2.1, fun h0 => by
    obtain ⟨b, o, h1, h2, h3⟩ := h.2.2 h0
    exact ⟨b, o, h1, h2, fun i hi => by rw [← he i hi]; exact h3 i hi⟩⟩
theorem getD_take' {α : Type} {d : α} {l : List α} {k i : Nat} (h : i < k) : (l.take k).getD i d = l.getD i d := by
  simp [List.getD_eq_getElem?_getD, h]
theorem getD_drop' {α : Type} {d : α} {l : List α} {k i : Nat} : (l.drop k).getD i d = l.getD (i + k) d := by
  simp [List.getD_eq_getElem?_getD, Nat.add_comm]
section
variable {B : Base} {Γ : List Fact} {Ms : List Res} {w : World}
theorem St.takeCL {l : List Cl} {a : SH} (k : Nat) (hs : St B Γ Ms w) (hF : CL l a ∈ Γ) (hk : k ≤ l.length) : St B (CL (l.take k) a :: Γ) Ms w := by
  obtain ⟨h2, h4⟩ := hs.facts _ hF
  refine hs.add ⟨?_, fun c hc => h4 c (List.mem_of_mem_take hc)⟩
  have e : (l.take k).length = k := by simp; omega
  rw [e]
  exact rowAt_congr (rowAt_take h2 hk) (fun i hi => by rw [getD_take' hi])
theorem St.dropCL {l : List Cl} {a : SH} (k : Nat) (hs : St B Γ Ms w) (hF : CL l a ∈ Γ) (hk : k ≤ l.length) : St B (CL (l.drop k) (dropSH a 2 k) :: Γ) Ms w := by
  obtain ⟨h2, h4⟩ := hs.facts _ hF
  refine hs.add ⟨?_, fun c hc => h4 c (List.mem_of_mem_drop hc)⟩
  rw [List.length_drop]
  exact rowAt_congr (rowAt_drop h2 hk) (fun i hi => by rw [getD_drop'])
theorem St.capCL {l : List Cl} {a : SH} (hs : St B Γ Ms w) (hF : CL l a ∈ Γ) : l.length ≤ a.2 := (hs.facts _ hF).1.1
end
end Go.Hy
namespace Go.Hy
/-! ### Numbers of 64 bits without a sign -/
section
variable {P : Program} [Tab P] {σ : Nat → Value} {ty : TypeId} {x y : Operand}
theorem wrap64u (n : Int) : IntKind.u64.wrap n = n % 18446744073709551616 := by simp [IntKind.wrap, IntKind.bits, IntKind.signed]
theorem pe_shl6 {t t' : TypeId} {k2 : IntKind} {a m : Nat} (hx : ev σ x = .int .u64 (a : Int)) (hy : ev σ y = .int k2 (m : Int)) (hm : m ≤ 64) (hb : a * 2 ^ m < 18446744073709551616) : PureE P σ (.binOp .shl t x y t') ty (.int .u64 ((a * 2 ^ m : Nat) : Int)) :=
  run_bin hx hy (fun w => eqGuard_int w) (fun w => by
    have e : IntKind.u64.wrap ((a : Int) * 2 ^ min (m : Int).toNat 64) = ((a * 2 ^ m : Nat) : Int) := by
      rw [wrap64u, Int.toNat_natCast, Nat.min_eq_left hm]
      have : ((a : Int) * 2 ^ m) = ((a * 2 ^ m : Nat) : Int) := by rw [Int.natCast_mul, Int.natCast_pow]; rfl
      rw [this]; omega
    have h0 : ¬ ((m : Int) < 0) := by omega
    simp only [binOp, Op.shift, if_neg h0]
    show Result.ok (Value.int .u64 (IntKind.u64.wrap ((a : Int) * 2 ^ min (m : Int).toNat 64))) w = _
    rw [e])
theorem pe_sub6 {t t' : TypeId} {a b : Nat} (hx : ev σ x = .int .u64 (a : Int)) (hy : ev σ y = .int .u64 (b : Int)) (h : b ≤ a) (ha : a < 18446744073709551616) : PureE P σ (.binOp .sub t x y t') ty (.int .u64 ((a - b : Nat) : Int)) :=
  run_bin hx hy (fun w => eqGuard_int w) (fun w => by
    have e : IntKind.u64.wrap ((a : Int) - (b : Int)) = ((a - b : Nat) : Int) := by rw [wrap64u]; omega
    simp only [binOp, Op.intArith, ne_eq, not_true, if_false]
    show Result.ok (Value.int .u64 (IntKind.u64.wrap ((a : Int) - (b : Int)))) w = _
    rw [e])
theorem pe_conv6U {s d : TypeId} {a : Nat} (hs : Tab.und P s = some (.int .u64)) (hd : Tab.und P d = some (.int .u32)) (hx : ev σ x = .int .u64 (a : Int)) (ha : a < 4294967296) : PureE P σ (.convert s d x) ty (.int .u32 (a : Int)) := by
  have e : IntKind.u32.wrap (a : Int) = (a : Int) := by rw [wrapu]; omega
  have := pe_convert (P := P) (ty := ty) hs hd hx
  rwa [e] at this
end
end Go.Hy
namespace Go.Hy
section
variable {P : Program} [Tab P] {σ : Nat → Value} {ty : TypeId} {x y : Operand}
end
end Go.Hy
namespace Go.Hy
open Go Go.ChangeShapes Go.WideShapes Go.RowKit
/-! ### A law's arguments, one by one -/
variable {P : Program} {H : Type} {enc : TypeId × Value → H} {W : World} {base : Nat} {v : Value} {d : DataW H} {ps : List MemPlace}
theorem weights_split {t : TypeId} {ts : List TypeId} {ds : List (DataW H)} (h : ∀ x, x ∈ DataW.weightsEach P (t :: ts) (d :: ds) → x ≤ reach) : light P t d ∧ ∀ x, x ∈ DataW.weightsEach P ts ds → x ≤ reach :=
  ⟨fun x hx => h x (by simp only [DataW.weightsEach, List.mem_append]; exact .inl hx), fun x hx => h x (by simp only [DataW.weightsEach, List.mem_append]; exact .inr hx)⟩
theorem trods_cons {t : TypeId} {ts : List TypeId} {vs : List Value} {ds : List (DataW H)} (h : DataW.TrodAll enc P W 0 (fun _ => true) true (t :: ts) vs ds ps) :
    ∃ v vs' d ds' p q, vs = v :: vs' ∧ ds = d :: ds' ∧ DataW.Trod enc P W 0 (fun _ => true) true t v d p ∧ DataW.TrodAll enc P W 0 (fun _ => true) true ts vs' ds' q := by
  obtain ⟨v, vs1, d, ds1, a, b, h1, h2, h3, h4, h5⟩ := trodAll_cons h
  exact ⟨v, vs1, d, ds1, a, b, h1, h2, h4, h5⟩
theorem trods_nil {vs : List Value} {ds : List (DataW H)} (h : DataW.TrodAll enc P W 0 (fun _ => true) true [] vs ds ps) : vs = [] := by
  obtain ⟨h1, _, _⟩ := trodAll_nil h
  exact h1
variable [TyF P]
theorem arg_BL {t : TypeId} (ht : t = TyF.lB P) (hval : Value.okWide P W .any base t v) (h : DataW.Trod enc P W 0 (fun _ => true) true t v d ps) (hl : light P t d) : ∃ (l : List Br) (a : SH), v = sl a l.length ∧ blAt (okw W) l a W := by
  subst ht
  obtain ⟨x, y, z, rfl⟩ := okWide_slice TyF.ulB hval
  obtain ⟨fuel, hf⟩ := h
  obtain ⟨l, a, h1, h2⟩ := (open_both fuel).2.2.2 _ _ _ hf hl
  exact ⟨l, a, by simpa [Value.cells] using h1, h2⟩
end Go.Hy
namespace Go.Hy
/-! ### Several things that are owned, as one -/
def bigR (L : List Res) : Res := ⟨domAll L, fun w => (∀ m, m ∈ L → ∀ w', (∀ b, m.dom b → w'.heap[b]? = w.heap[b]?) → m.holds w') ∧ (L.Pairwise fun m m' => ∀ b, m.dom b → m'.dom b → False)⟩
section
variable {B : Base} {Γ : List Fact} {Ms L L' : List Res} {w : World}
theorem St.pack (hs : St B Γ (L ++ Ms) w) : St B Γ (bigR L :: Ms) w := by
  have hd : ∀ b, domAll (bigR L :: Ms) b ↔ domAll (L ++ Ms) b := fun b => by rw [domAll_cons, domAll_append]; exact Iff.rfl
  refine ⟨hs.chg, fun F hF => F.mono _ _ _ (fun b hb => ⟨hb.1, hb.2.1, fun hc => hb.2.2 ((hd b).mp hc)⟩) (hs.facts F hF), ?_, ?_, ?_⟩
  · intro m hm w' hw
    rcases List.mem_cons.mp hm with e | hm
    · subst e
      exact ⟨fun m hm w2 hw2 => hs.res m (List.mem_append_left _ hm) w2 (fun b hb => (hw2 b hb).trans (hw b ⟨m, hm, hb⟩)), (List.pairwise_append.mp hs.disj).1⟩
    · exact hs.res m (List.mem_append_right _ hm) w' hw
  · intro m hm b hb
    rcases List.mem_cons.mp hm with e | hm
    · subst e
      obtain ⟨m', hm', hb'⟩ := hb
      exact hs.lt m' (List.mem_append_left _ hm') b hb'
    · exact hs.lt m (List.mem_append_right _ hm) b hb
  · refine List.pairwise_cons.mpr ⟨fun m hm b hb hb2 => ?_, (List.pairwise_append.mp hs.disj).2.1⟩
    obtain ⟨m', hm', hb'⟩ := hb
    exact (List.pairwise_append.mp hs.disj).2.2 m' hm' m hm b hb' hb2
theorem St.unpack (hs : St B Γ (bigR L :: Ms) w) : St B Γ (L ++ Ms) w := by
  have hd : ∀ b, domAll (bigR L :: Ms) b ↔ domAll (L ++ Ms) b := fun b => by rw [domAll_cons, domAll_append]; exact Iff.rfl
  have hb0 := hs.res (bigR L) List.mem_cons_self w (fun _ _ => rfl)
  refine ⟨hs.chg, fun F hF => F.mono _ _ _ (fun b hb => ⟨hb.1, hb.2.1, fun hc => hb.2.2 ((hd b).mpr hc)⟩) (hs.facts F hF), ?_, ?_, ?_⟩
  · intro m hm w' hw
    rcases List.mem_append.mp hm with hm | hm
    · exact hb0.1 m hm w' hw
    · exact hs.res m (List.mem_cons_of_mem _ hm) w' hw
  · intro m hm b hb
    rcases List.mem_append.mp hm with hm | hm
    · exact hs.lt (bigR L) List.mem_cons_self b ⟨m, hm, hb⟩
    · exact hs.lt m (List.mem_cons_of_mem _ hm) b hb
  · exact List.pairwise_append.mpr ⟨hb0.2, (List.pairwise_cons.mp hs.disj).2, fun m hm m' hm' b hb hb' => (List.pairwise_cons.mp hs.disj).1 m' hm' b ⟨m, hm, hb⟩ hb'⟩
theorem St.bigNil (hs : St B Γ Ms w) : St B Γ (bigR [] :: Ms) w := St.pack (L := []) hs
theorem St.bigJoin (hs : St B Γ (bigR L :: bigR L' :: Ms) w) : St B Γ (bigR (L' ++ L) :: Ms) w := by
  have h1 := (hs.unpack.perm List.perm_middle).unpack
  exact St.pack (by rw [List.append_assoc]; exact h1)
end
/-! ### A term of the call's own: where all its rows lie -/
mutual
inductive HT where
  | mk (kind n : Int) (name : ByteArray) (r : List Cl) (vr : SH) (kids : List HT) (vk : SH) (sys : List HB) (vs : SH)
inductive HB where
  | mk (face : List Cl) (vf : SH) (kids : List HT) (vk : SH)
end
mutual
def HT.er : HT → T
  | .mk k n nm r _ ks _ ss _ => .mk k n nm r (HT.erL ks) (HT.erB ss)
def HT.erL : List HT → List T
  | [] => []
  | h :: hs => h.er :: HT.erL hs
def HT.erB : List HB → List Br
  | [] => []
  | .mk f _ ks _ :: bs => .mk f (HT.erL ks) :: HT.erB bs
end
def HB.er : HB → Br
  | .mk f _ ks _ => .mk f (HT.erL ks)
theorem HT.erL_eq : ∀ l : List HT, HT.erL l = l.map HT.er
  | [] => by simp [HT.erL]
  | h :: hs => by simp [HT.erL, HT.erL_eq hs]
theorem HT.erB_eq : ∀ l : List HB, HT.erB l = l.map HB.er
  | [] => by simp [HT.erB]
  | .mk f v ks u :: bs => by simp [HT.erB, HB.er, HT.erB_eq bs]
namespace HT
def vr : HT → SH | .mk _ _ _ _ v _ _ _ _ => v
def vk : HT → SH | .mk _ _ _ _ _ _ v _ _ => v
def vs : HT → SH | .mk _ _ _ _ _ _ _ _ v => v
def kids : HT → List HT | .mk _ _ _ _ _ ks _ _ _ => ks
def sys : HT → List HB | .mk _ _ _ _ _ _ _ ss _ => ss
def tp (h : HT) : TP := (h.er, h.vr, h.vk, h.vs)
end HT
namespace HB
def face : HB → List Cl | .mk f _ _ _ => f
def vf : HB → SH | .mk _ v _ _ => v
def kids : HB → List HT | .mk _ _ ks _ => ks
def vk : HB → SH | .mk _ _ _ v => v
def bp (b : HB) : BP := (b.er, b.vf, b.vk)
end HB
/-- The types of the rows' elements. -/
structure Tys where
  c : TypeId
  t : TypeId
  b : TypeId
mutual
def treeR (y : Tys) : HT → List Res
  | .mk _ _ _ r v ks u ss x => rowS 2 y.c v r.length (clFlat r) :: rowS 6 y.t u ks.length (tpFlat (ks.map HT.tp)) :: rowS 2 y.b x ss.length (bpFlat (ss.map HB.bp)) :: (kidsR y ks ++ brsR y ss)
def kidsR (y : Tys) : List HT → List Res
  | [] => []
  | h :: hs => treeR y h ++ kidsR y hs
def brsR (y : Tys) : List HB → List Res
  | [] => []
  | .mk f v ks u :: bs => (rowS 2 y.c v f.length (clFlat f) :: rowS 6 y.t u ks.length (tpFlat (ks.map HT.tp)) :: kidsR y ks) ++ brsR y bs
end
def brR (y : Tys) : HB → List Res
  | .mk f v ks u => rowS 2 y.c v f.length (clFlat f) :: rowS 6 y.t u ks.length (tpFlat (ks.map HT.tp)) :: kidsR y ks
theorem kidsR_eq (y : Tys) : ∀ l, kidsR y l = l.flatMap (treeR y)
  | [] => by simp [kidsR]
  | h :: hs => by simp [kidsR, kidsR_eq y hs]
theorem brsR_eq (y : Tys) : ∀ l, brsR y l = l.flatMap (brR y)
  | [] => by simp [brsR]
  | .mk f v ks u :: bs => by simp [brsR, brR, brsR_eq y bs]
/-! What must be so of a term that lies in memory, of itself. -/
mutual
def okT : T → Prop
  | .mk k n nm r ks ss => in64 k ∧ in64 n ∧ nm.size ≤ cap47 ∧ ((∀ c, c ∈ r → u32 c) ∧ r.length * 8 ≤ reach) ∧ ks.length * 104 ≤ reach ∧ ss.length * 48 ≤ reach ∧ okL ks ∧ okB ss
def okL : List T → Prop
  | [] => True
  | t :: ts => okT t ∧ okL ts
def okB : List Br → Prop
  | [] => True
  | .mk f ks :: bs => ((∀ c, c ∈ f → u32 c) ∧ f.length * 8 ≤ reach) ∧ ks.length * 104 ≤ reach ∧ okL ks ∧ okB bs
end
mutual
theorem ok_of {ok : Nat → Prop} {w : World} : ∀ {t : T} {vr vk vs : SH}, termAt ok t vr vk vs w → okT t
  | .mk k n nm r ks ss, vr, vk, vs, h => by
    simp only [termAt] at h
    simp only [okT]
    obtain ⟨h1, h2, h3, h4, ⟨VR, VK, VS, h6, h7⟩, ⟨VF, VK', h9, h10⟩⟩ := h
    exact ⟨h1, h2, h3, ⟨h4.2, h4.1.2.1⟩, h6.2.1, h9.2.1, okL_of h7, okB_of h10⟩
theorem okL_of {ok : Nat → Prop} {w : World} : ∀ {ts : List T} {VR VK VS : Nat → SH}, allAt ok ts VR VK VS w → okL ts
  | [], _, _, _, _ => by simp only [okL]
  | t :: ts, _, _, _, h => by
    simp only [allAt] at h
    simp only [okL]
    exact ⟨ok_of h.1, okL_of h.2⟩
theorem okB_of {ok : Nat → Prop} {w : World} : ∀ {bs : List Br} {VF VK : Nat → SH}, brsAt ok bs VF VK w → okB bs
  | [], _, _, _ => by simp only [okB]
  | .mk f ks :: bs, _, _, h => by
    simp only [brsAt, brAt] at h
    simp only [okB]
    obtain ⟨⟨h1, ⟨VR, VK, VS, h2, h3⟩⟩, h4⟩ := h
    exact ⟨⟨h1.2, h1.1.2.1⟩, h2.2.1, okL_of h3, okB_of h4⟩
end
theorem permOut {K S M : List Res} {a : Res} : (K ++ (S ++ a :: M)).Perm (a :: (K ++ (S ++ M))) := (List.perm_middle.append_left K).trans List.perm_middle
/-! A term of the call's own becomes known for good. -/
section
variable {B : Base} {Γ : List Fact} {Ms : List Res} {w : World}
mutual
theorem St.settleT (y : Tys) {hBp : Prop} (hB : hBp) : ∀ (h : HT) {Γ : List Fact} {Ms : List Res}, okT h.er → St B Γ (treeR y h ++ Ms) w → St B (RT h.er h.vr h.vk h.vs :: Γ) Ms w
  | .mk k n nm r v ks u ss x, Γ, Ms, hok, hs => by
    simp only [HT.er, okT] at hok
    obtain ⟨o1, o2, o3, o4, o5, o6, o7, o8⟩ := hok
    simp only [treeR, List.cons_append, List.append_assoc] at hs
    have h1 := hs.settleCL (l := r) hB rfl rfl o4.2 o4.1
    -- the rows of kids and branches wait behind the parts
    have h2 : St B (CL r v :: Γ) (kidsR y ks ++ (brsR y ss ++ (rowS 6 y.t u ks.length (tpFlat (ks.map HT.tp)) :: rowS 2 y.b x ss.length (bpFlat (ss.map HB.bp)) :: Ms))) w := by
      exact h1.perm (((permOut.trans (permOut.cons _))).symm)
    have h3 := St.settleKs y hB ks [] (by rw [HT.erL_eq] at o7; exact o7) (by simpa using h2.apNil)
    have h4 := St.settleBs y hB ss [] (by rw [HT.erB_eq] at o8; exact o8) (h3.bpNil)
    have h5 := h4.settleTL (ps := ks.map HT.tp) (ts := ks.map HT.er) hB (by simp) rfl (by simp [HT.tp, Function.comp_def]) (by simp) (by rw [HT.erL_eq, List.length_map] at o5; exact o5)
    have h6 := h5.settleBL (ps := ss.map HB.bp) (bs := ss.map HB.er) hB (by simp) rfl (by simp [HB.bp, Function.comp_def]) (by simp) (by rw [HT.erB_eq, List.length_map] at o6; exact o6)
    have h7 := h6.mkRT (k := k) (n := n) (nm := nm) (r := r) (vr := v) (ks := ks.map HT.er) (vk := u) (ss := ss.map HB.er) (vs := x) o1 o2 o3 (by simp) (by simp) (by simp)
    simp only [HT.er, HT.erL_eq, HT.erB_eq, HT.vr, HT.vk, HT.vs]
    exact h7.less (by simp +contextual)
theorem St.settleKs (y : Tys) {hBp : Prop} (hB : hBp) : ∀ (ks : List HT) (ps : List TP) {Γ : List Fact} {Ms : List Res}, okL (ks.map HT.er) → St B (AP ps :: Γ) (kidsR y ks ++ Ms) w → St B (AP (ps ++ ks.map HT.tp) :: Γ) Ms w
  | [], ps, Γ, Ms, hok, hs => by simpa [kidsR] using hs
  | h :: hs', ps, Γ, Ms, hok, hs => by
    simp only [List.map_cons, okL] at hok
    simp only [kidsR, List.append_assoc] at hs
    have h1 := St.settleT y hB h hok.1 hs
    have h2 := h1.apAdd (ps := ps) (t := h.er) (vr := h.vr) (vk := h.vk) (vs := h.vs) (by simp) (by simp)
    have h3 := St.settleKs y hB hs' (ps ++ [h.tp]) (Γ := Γ) hok.2 (h2.less (by simp +contextual [HT.tp]))
    simpa using h3
theorem St.settleBs (y : Tys) {hBp : Prop} (hB : hBp) : ∀ (bs : List HB) (ps : List BP) {Γ : List Fact} {Ms : List Res}, okB (bs.map HB.er) → St B (BPs ps :: Γ) (brsR y bs ++ Ms) w → St B (BPs (ps ++ bs.map HB.bp) :: Γ) Ms w
  | [], ps, Γ, Ms, hok, hs => by simpa [brsR] using hs
  | .mk f v ks u :: bs, ps, Γ, Ms, hok, hs => by
    simp only [List.map_cons, HB.er, okB] at hok
    obtain ⟨o1, o2, o3, o4⟩ := hok
    simp only [brsR, List.cons_append, List.append_assoc] at hs
    have h1 := hs.settleCL (l := f) hB rfl rfl o1.2 o1.1
    have h2 : St B (CL f v :: BPs ps :: Γ) (kidsR y ks ++ (rowS 6 y.t u ks.length (tpFlat (ks.map HT.tp)) :: (brsR y bs ++ Ms))) w := h1.perm (by exact List.perm_middle.symm)
    have h3 := St.settleKs y hB ks [] (by rw [HT.erL_eq] at o3; exact o3) (by simpa using h2.apNil)
    have h4 := h3.settleTL (ps := ks.map HT.tp) (ts := ks.map HT.er) hB (by simp) rfl (by simp [HT.tp, Function.comp_def]) (by simp) (by rw [HT.erL_eq, List.length_map] at o2; exact o2)
    have h5 := h4.bpAdd (ps := ps) (f := f) (ks := ks.map HT.er) (vf := v) (vk := u) (by simp) (by simp) (by simp)
    have h6 := St.settleBs y hB bs (ps ++ [(.mk f (ks.map HT.er), v, u)]) (Γ := Γ) o4 (h5.less (by simp +contextual))
    simpa [HB.bp, HB.er, HB.vf, HB.vk, HT.erL_eq] using h6
end
end
end Go.Hy
namespace Go.Hy
section
variable {B : Base} {Γ : List Fact} {Ms K S : List Res} {w : World} {a b c : Res}
theorem St.packT (hs : St B Γ (a :: b :: c :: bigR K :: bigR S :: Ms) w) : St B Γ (bigR (a :: b :: c :: (K ++ S)) :: Ms) w := by
  have h1 : St B Γ (bigR K :: bigR S :: a :: b :: c :: Ms) w := hs.perm (perm3.trans (perm3.cons _))
  have h2 : St B Γ (bigR S :: (K ++ a :: b :: c :: Ms)) w := h1.unpack.perm List.perm_middle
  have h3 : St B Γ (K ++ (S ++ a :: b :: c :: Ms)) w := h2.unpack.perm (by rw [← List.append_assoc, ← List.append_assoc]; exact List.perm_append_comm.append_right _)
  exact St.pack (L := a :: b :: c :: (K ++ S)) (by
    simp only [List.cons_append, List.append_assoc]
    exact h3.perm (permOut.trans ((permOut.trans (permOut.cons _)).cons _)))
theorem St.packB (hs : St B Γ (a :: b :: bigR K :: bigR S :: Ms) w) : St B Γ (bigR (S ++ (a :: b :: K)) :: Ms) w := by
  have h1 : St B Γ (bigR K :: bigR S :: a :: b :: Ms) w := hs.perm (perm2.trans (perm2.cons _))
  have h2 : St B Γ (bigR S :: (K ++ a :: b :: Ms)) w := h1.unpack.perm List.perm_middle
  have h3 : St B Γ (S ++ (K ++ a :: b :: Ms)) w := h2.unpack
  exact St.pack (L := S ++ (a :: b :: K)) (by
    have : (S ++ a :: b :: K) ++ Ms = S ++ (a :: b :: (K ++ Ms)) := by simp
    rw [this]
    exact h3.perm ((List.perm_middle.trans (List.perm_middle.cons _)).append_left S))
theorem St.joinK {y : Tys} {hs : List HT} {h : HT} (h0 : St B Γ (bigR (treeR y h) :: bigR (kidsR y hs) :: Ms) w) : St B Γ (bigR (kidsR y (hs ++ [h])) :: Ms) w := by
  have := h0.bigJoin
  rwa [show kidsR y hs ++ treeR y h = kidsR y (hs ++ [h]) by simp [kidsR_eq]] at this
theorem St.joinB {y : Tys} {bs : List HB} {f : List Cl} {v u : SH} {ks : List HT} {n m : Nat} {fl tl : List Value} (hn : n = f.length) (hm : m = ks.length) (hf : fl = clFlat f) (ht : tl = tpFlat (ks.map HT.tp)) (h0 : St B Γ (rowS 2 y.c v n fl :: rowS 6 y.t u m tl :: bigR (kidsR y ks) :: bigR (brsR y bs) :: Ms) w) : St B Γ (bigR (brsR y (bs ++ [.mk f v ks u])) :: Ms) w := by
  subst hn; subst hm; subst hf; subst ht
  have := h0.packB
  rwa [show brsR y bs ++ (rowS 2 y.c v f.length (clFlat f) :: rowS 6 y.t u ks.length (tpFlat (ks.map HT.tp)) :: kidsR y ks) = brsR y (bs ++ [.mk f v ks u]) by simp [brsR_eq, brR]] at this
theorem St.joinT {y : Tys} {k n : Int} {nm : ByteArray} {r : List Cl} {v u x : SH} {ks : List HT} {ss : List HB} {n1 n2 n3 : Nat} {l1 l2 l3 : List Value} (e1 : n1 = r.length) (e2 : n2 = ks.length) (e3 : n3 = ss.length) (f1 : l1 = clFlat r) (f2 : l2 = tpFlat (ks.map HT.tp)) (f3 : l3 = bpFlat (ss.map HB.bp))
    (h0 : St B Γ (rowS 2 y.c v n1 l1 :: rowS 6 y.t u n2 l2 :: rowS 2 y.b x n3 l3 :: bigR (kidsR y ks) :: bigR (brsR y ss) :: Ms) w) : St B Γ (bigR (treeR y (.mk k n nm r v ks u ss x)) :: Ms) w := by
  subst e1; subst e2; subst e3; subst f1; subst f2; subst f3
  simpa only [treeR] using h0.packT
end
end Go.Hy
namespace Go.Hy
section
variable {P : Program} {f : FuncId} {R : Ending → World → Prop} {B : Base} {n : Fz} {K : List Item} {σ : Nat → Value} {Γ LF : List Fact} {Ms Ms2 Ms' : List Res} {todo : List Item} {w : World}
/-- What is owned, said in other words. -/
theorem go_ms (h : Ms = Ms') (k : GoT P f R B n todo σ Γ Ms') : GoT P f R B n todo σ Γ Ms := h ▸ k
/-- A variable that is written no more. -/
theorem St.settleBox {b : Nat} {cs : List Value} {T : TypeId} {hBp : Prop} (hB : hBp) (hs : St B Γ (boxR b cs T :: Ms) w) : St B (At b 0 cs :: Γ) Ms w := by
  refine hs.settle0 hB (fun ok hok hh => ⟨hok b rfl, fun j v hj => ?_⟩)
  have hh : w.heap[b]? = some (.cells cs.toArray T (0, 0)) := hh
  simp [World.cell?, hh, hj]
end
end Go.Hy
namespace Go.Hy
section
variable {B : Base} {Γ : List Fact} {Ms K S : List Res} {w : World} {a b c : Res}
def h0 : HT := .mk 0 0 (ByteArray.mk #[]) [] (none, 0) [] (none, 0) [] (none, 0)
def hb0 : HB := .mk [] (none, 0) [] (none, 0)
theorem drop_getD {α : Type} (d : α) {l : List α} {i : Nat} (h : i < l.length) : l.drop i = l.getD i d :: l.drop (i + 1) := by
  rw [List.drop_eq_getElem_cons h, List.getD_eq_getElem?_getD, List.getElem?_eq_getElem h]; rfl
theorem Spec.conv {P : Program} {k : FuncId} {args args' : Array Value} {pre : List Fact} {Ms0 Ms0' : List Res} {X : Type} {val : X → Value} {N : X → List Fact} {Ms1 : X → List Res} (h : Spec P k args pre Ms0 val N Ms1) (ha : args = args') (hd : ∀ b, domAll Ms0' b ↔ domAll Ms0 b) (hs : ∀ B w, St B pre Ms0' w → St B pre Ms0 w) : Spec P k args' pre Ms0' val N Ms1 := by
  subst ha
  have e : domAll Ms0' = domAll Ms0 := funext fun b => propext (hd b)
  intro ok w hok hst
  rw [e] at hst ⊢
  exact h ok w (fun b hb => ⟨(hok b hb).1, fun hc => (hok b hb).2 ((hd b).2 hc)⟩) (hs _ _ hst)
mutual
theorem HT.indK {P : HT → Prop} (h : ∀ k n nm r v ks u ss x, (∀ c, c ∈ ks → P c) → P (.mk k n nm r v ks u ss x)) : ∀ t, P t
  | .mk k n nm r v ks u ss x => h k n nm r v ks u ss x (HT.indL h ks)
theorem HT.indL {P : HT → Prop} (h : ∀ k n nm r v ks u ss x, (∀ c, c ∈ ks → P c) → P (.mk k n nm r v ks u ss x)) : ∀ ts : List HT, ∀ c, c ∈ ts → P c
  | [], _, hc => by cases hc
  | t :: ts, c, hc => by
    rcases List.mem_cons.mp hc with e | hc
    · rw [e]; exact HT.indK h t
    · exact HT.indL h ts c hc
end
end
end Go.Hy
namespace Go.Hy
theorem nat_dec {P : Program} {σ : Nat → Value} {op : Op} {ty : TypeId} {p q : Prop} [Decidable p] [Decidable q] (h : p ↔ q) (hp : PureE P σ op ty (.bool (decide p))) : PureE P σ op ty (.bool (decide q)) := by
  rwa [decide_eq_decide.mpr h] at hp
/-! Wrappers of further rules (printed by a program of this repository). -/
section
variable {tn : Bool} {pn : Nat} {P : Program} [Tab P] {f : FuncId} {R : Ending → World → Prop} {B : Base} {n : Fz} {K : List Item} {ops : Array Oper} {i : Nat} {l fin : List Nat} {σ : Nat → Value} {Γ : List Fact} {Ms Ms2 : List Res}
variable {dst : Option Tmp} {op : Op} {ty : TypeId} {pos : String} {after : Array Edge} {v : Value} {x y z : Operand}
theorem o_shl6 {t t' : TypeId} {k2 : IntKind} {a m : Nat} (k_ : RgT P f R B n K ops l (putS σ dst (.int .u64 ((a * 2 ^ m : Nat) : Int))) Γ Ms) (hx : ev σ x = .int .u64 (a : Int) := by exact wn_) (hy : ev σ y = .int k2 (m : Int) := by exact wn_) (hm : m ≤ 64 := by first | assumption | omega) (hb : a * 2 ^ m < 18446744073709551616 := by first | assumption | omega) (hd : dstOk n dst = true := by rfl) : OpT P f R B n K ops l (opr dst (.binOp .shl t x y t') ty) σ Γ Ms := sq_pure (pe_shl6 hx hy hm hb) hd k_
theorem o_sub6 {t t' : TypeId} {a b : Nat} (k_ : RgT P f R B n K ops l (putS σ dst (.int .u64 ((a - b : Nat) : Int))) Γ Ms) (hx : ev σ x = .int .u64 (a : Int) := by exact wn_) (hy : ev σ y = .int .u64 (b : Int) := by exact wn_) (h : b ≤ a := by first | assumption | omega) (ha : a < 18446744073709551616 := by first | assumption | omega) (hd : dstOk n dst = true := by rfl) : OpT P f R B n K ops l (opr dst (.binOp .sub t x y t') ty) σ Γ Ms := sq_pure (pe_sub6 hx hy h ha) hd k_
theorem o_conv6U {s d : TypeId} {a : Nat} (k_ : RgT P f R B n K ops l (putS σ dst (.int .u32 (a : Int))) Γ Ms) (hx : ev σ x = .int .u64 (a : Int) := by exact wn_) (ha : a < 4294967296 := by first | assumption | omega) (hs : Tab.und P s = some (.int .u64) := by rfl) (hd' : Tab.und P d = some (.int .u32) := by rfl) (hd : dstOk n dst = true := by rfl) : OpT P f R B n K ops l (opr dst (.convert s d x) ty) σ Γ Ms := sq_pure (pe_conv6U hs hd' hx ha) hd k_
theorem o_convUI {s d : TypeId} {a : Nat} (k_ : RgT P f R B n K ops l (putS σ dst (.int .i64 (a : Int))) Γ Ms) (hx : ev σ x = .int .u32 (a : Int) := by exact wn_) (ha : a < 4294967296 := by first | assumption | omega) (hs : Tab.und P s = some (.int .u32) := by rfl) (hd' : Tab.und P d = some (.int .i64) := by rfl) (hd : dstOk n dst = true := by rfl) : OpT P f R B n K ops l (opr dst (.convert s d x) ty) σ Γ Ms := sq_pure (pe_convUI hs hd' hx ha) hd k_
theorem o_convI6 {s d : TypeId} {a : Int} {m : Nat} (k_ : RgT P f R B n K ops l (putS σ dst (.int .u64 (m : Int))) Γ Ms) (hx : ev σ x = .int .i64 a := by exact wn_) (ha : a = (m : Int) := by first | assumption | omega) (hm : m < 18446744073709551616 := by omega) (hs : Tab.und P s = some (.int .i64) := by rfl) (hd' : Tab.und P d = some (.int .u64) := by rfl) (hd : dstOk n dst = true := by rfl) : OpT P f R B n K ops l (opr dst (.convert s d x) ty) σ Γ Ms := sq_pure (pe_convI6 hs hd' hx ha hm) hd k_
theorem o_ldI {t : TypeId} {d : TypeDesc} {bk o i' : Nat} {a : SH} {ls : List Int} (k_ : RgT P f R B n K ops l (putS σ dst (.int .i64 (ls.getD i' 0))) Γ Ms) (hx : ev σ x = .pointer (some ⟨bk, o + i' * 1, none⟩) := by exact wn_) (hFa : IL ls a ∈ Γ ∧ a.1 = some ⟨bk, o, none⟩ := by exact ma0_) (hu : Tab.und P t = some d := by rfl) (hd' : (match d with | .struct _ | .array _ _ => true | _ => false) = false := by rfl) (hlt : i' < ls.length := by omega) (hd : dstOk n dst = true := by rfl) : OpT P f R B n K ops l (opr dst (.load t x) ty) σ Γ Ms := sq_load (le_int hx hFa.1 hFa.2 hu hd' hlt) hd k_
theorem v_sliceHi {t e : TypeId} {s bt m c k : Nat} {zv : Value} {A : Option Addr} (k_ : NV tn pn P f R B n K ops fin l (putS σ dst (.slice A k c)) Γ Ms) (hx : ev σ x = .slice A m c := by exact wn_) (hy : ev σ y = .int .i64 (k : Int) := by exact wn_) (hk : k ≤ c := by omega) (hu : Tab.und P t = some (.slice e) := by rfl) (hi : Tab.inf P e = some (s, bt, zv) := by rfl) (hd : dstOk n dst = true := by rfl) : NvT tn pn P f R B n K ops fin i l dst (.slice t x none (some y) none) ty σ Γ Ms := nv_pure (pe_sliceHi hu hi hx hy hk) hd k_
theorem v_sliceLo {t e : TypeId} {s bt m k : Nat} {zv : Value} {a : SH} (k_ : NV tn pn P f R B n K ops fin l (putS σ dst (sl (dropSH a s k) (m - k))) Γ Ms) (hx : ev σ x = sl a m := by rfl) (hy : ev σ y = .int .i64 (k : Int) := by exact wn_) (hk : k ≤ m := by omega) (hu : Tab.und P t = some (.slice e) := by rfl) (hi : Tab.inf P e = some (s, bt, zv) := by rfl) (hd : dstOk n dst = true := by rfl) : NvT tn pn P f R B n K ops fin i l dst (.slice t x (some y) none none) ty σ Γ Ms := nv_pure (pe_sliceLo hu hi hx hy hk) hd k_
theorem o_lssU {t t' : TypeId} {a b : Nat} (k_ : RgT P f R B n K ops l (putS σ dst (.bool (decide (a < b)))) Γ Ms) (hx : ev σ x = .int .u32 (a : Int) := by exact wn_) (hy : ev σ y = .int .u32 (b : Int) := by exact wn_) (hd : dstOk n dst = true := by rfl) : OpT P f R B n K ops l (opr dst (.binOp .lss t x y t') ty) σ Γ Ms := sq_pure (nat_dec (by omega) (pe_lss hx hy)) hd k_
theorem o_eqU {t t' : TypeId} {a b : Nat} (k_ : RgT P f R B n K ops l (putS σ dst (.bool (decide (a = b)))) Γ Ms) (hx : ev σ x = .int .u32 (a : Int) := by exact wn_) (hy : ev σ y = .int .u32 (b : Int) := by exact wn_) (hd : dstOk n dst = true := by rfl) : OpT P f R B n K ops l (opr dst (.binOp .eql t x y t') ty) σ Γ Ms := sq_pure (nat_dec (by omega) (pe_eqI hx hy)) hd k_
theorem t_appS {t e T' : TypeId} {ts : Array TypeId} {sz bt n' m c b : Nat} {zv : Value} {a : SH} {xs cs : List Value} (k_ : ∀ a' : SH, NV tn pn P f R B n K ops fin l (putS σ dst (sl a' (n' + m))) Γ (rowS sz e a' (n' + m) (xs ++ cs) :: boxR b cs T' :: Ms2)) (hm : Ms.Perm (rowS sz e a n' xs :: boxR b cs T' :: Ms2) := by first | exact perm0 | exact perm1 | exact perm2 | exact perm3 | exact perm4 | exact perm5 | exact perm6) (hx : ev σ x = sl a n' := by rfl) (hy : ev σ y = .slice (some ⟨b, 0, none⟩) m c := by exact wn_) (hts : ts = #[t, t] := by rfl) (hu : Tab.und P t = some (.slice e) := by rfl) (hi : Tab.inf P e = some (sz, bt, zv) := by rfl) (hzs : zv.cells.size = sz := by rfl) (hsz : 0 < sz := by exact Nat.le_of_ble_eq_true rfl) (hl : cs.length = m * sz := by rfl) (h1 : oneCells cs = true := by rfl) (hb : (n' + m) * bt ≤ 140737488355328 := by first | omega | (unfold reach at *; omega) | (unfold reach cap47 at *; omega)) (hnm : n' + m ≤ 9223372036854775807 := by first | omega | (unfold reach at *; omega) | (unfold reach cap47 at *; omega)) (hd : dstOk n dst = true := by rfl) : NvT tn pn P f R B n K ops fin i l dst (.call { callee := .builtin .append, args := #[x, y], argTypes := ts }) ty σ Γ Ms := nv_turn (r := [rowS sz e a n' xs, boxR b cs T']) (r' := fun a' => [rowS sz e a' (n' + m) (xs ++ cs), boxR b cs T']) (fun M => te_appS (List.Perm.refl _) hx hy hts hu hi hzs hsz hl h1 hb hnm) rfl hd hm k_
theorem t_appCL {t e : TypeId} {ts : Array TypeId} {bt n' : Nat} {zv : Value} {a b : SH} {xs : List Value} {ls : List Cl} (k_ : ∀ a' : SH, NV tn pn P f R B n K ops fin l (putS σ dst (sl a' (n' + ls.length))) Γ (rowS 2 e a' (n' + ls.length) (xs ++ clFlat ls) :: Ms2)) (hF : CL ls b ∈ Γ) (hm : Ms.Perm (rowS 2 e a n' xs :: Ms2) := by first | exact perm0 | exact perm1 | exact perm2 | exact perm3 | exact perm4 | exact perm5 | exact perm6) (hx : ev σ x = sl a n' := by rfl) (hy : ev σ y = sl b ls.length := by rfl) (hts : ts = #[t, t] := by rfl) (hu : Tab.und P t = some (.slice e) := by rfl) (hi : Tab.inf P e = some (2, bt, zv) := by rfl) (hzs : zv.cells.size = 2 := by rfl) (hb : (n' + ls.length) * bt ≤ 140737488355328 := by first | omega | (unfold reach at *; omega) | (unfold reach cap47 at *; omega)) (hnm : n' + ls.length ≤ 9223372036854775807 := by first | omega | (unfold reach at *; omega) | (unfold reach cap47 at *; omega)) (hd : dstOk n dst = true := by rfl) : NvT tn pn P f R B n K ops fin i l dst (.call { callee := .builtin .append, args := #[x, y], argTypes := ts }) ty σ Γ Ms := nv_turn (r := [rowS 2 e a n' xs]) (r' := fun a' => [rowS 2 e a' (n' + ls.length) (xs ++ clFlat ls)]) (fun M => te_appCL (List.Perm.refl _) hF hx hy hts hu hi hzs hb hnm) rfl hd hm k_
end
end Go.Hy
namespace Go.Hy
/-! Wrappers of rules for rows of the call's own (printed by a program of this repository). -/
section
variable {tn : Bool} {pn : Nat} {P : Program} [Tab P] {f : FuncId} {R : Ending → World → Prop} {B : Base} {n : Fz} {K : List Item} {ops : Array Oper} {i : Nat} {l fin : List Nat} {σ : Nat → Value} {Γ : List Fact} {Ms Ms2 : List Res}
variable {dst : Option Tmp} {op : Op} {ty : TypeId} {pos : String} {after : Array Edge} {v : Value} {x y z : Operand}
theorem o_ldg {t : TypeId} {d : TypeDesc} {bk k : Nat} {cs : List Value} (k_ : RgT P f R B n K ops l (putS σ dst v) Γ Ms) (hx : ev σ x = .pointer (some ⟨bk, k, none⟩) := by exact wn_) (hF : At bk 0 cs ∈ Γ := by repeat (first | exact List.mem_cons_self | apply List.mem_cons_of_mem)) (hu : Tab.und P t = some d := by rfl) (hd' : (match d with | .struct _ | .array _ _ => true | _ => false) = false := by rfl) (hk : cs[k]? = some v := by exact wn_) (hd : dstOk n dst = true := by rfl) : OpT P f R B n K ops l (opr dst (.load t x) ty) σ Γ Ms := sq_load (le_one (o := 0) (by rw [Nat.zero_add]; exact hx) hF hu hd' hk) hd k_
theorem f_ldg {t : TypeId} {d : TypeDesc} {bk k : Nat} {cs : List Value} (k_ : NV tn pn P f R B n K ops fin l (putS σ dst v) Γ Ms) (hx : ev σ x = .pointer (some ⟨bk, k, none⟩) := by exact wn_) (hF : At bk 0 cs ∈ Γ := by repeat (first | exact List.mem_cons_self | apply List.mem_cons_of_mem)) (hu : Tab.und P t = some d := by rfl) (hd' : (match d with | .struct _ | .array _ _ => true | _ => false) = false := by rfl) (hk : cs[k]? = some v := by exact wn_) (hd : dstOk n dst = true := by rfl) : NvT tn pn P f R B n K ops fin i l dst (.load t x) ty σ Γ Ms := nv_loadF (le_one (o := 0) (by rw [Nat.zero_add]; exact hx) hF hu hd' hk) rfl hd k_
theorem o_ldgs {t : TypeId} {l' : List (Nat × Nat)} {s bt bk k : Nat} {zv : Value} {cs cs' : List Value} (k_ : RgT P f R B n K ops l (putS σ dst (.agg cs'.toArray)) Γ Ms) (hx : ev σ x = .pointer (some ⟨bk, k, none⟩) := by exact wn_) (hF : At bk 0 cs ∈ Γ := by repeat (first | exact List.mem_cons_self | apply List.mem_cons_of_mem)) (hu : Tab.lay P t = some l' := by rfl) (hi : Tab.inf P t = some (s, bt, zv) := by rfl) (hk : (cs.drop k).take s = cs' := by rfl) (hl : cs'.length = s := by rfl) (hd : dstOk n dst = true := by rfl) : OpT P f R B n K ops l (opr dst (.load t x) ty) σ Γ Ms := sq_load (le_agg (o := 0) (by rw [Nat.zero_add]; exact hx) hF hu hi hk hl) hd k_
end
end Go.Hy
namespace Go.Hy
/-! ### Rows of any kind of element, known for good -/
section
variable {α : Type}
def AllF (E : α → Fact) (l : List α) : Fact := ⟨fun ok w => ∀ x, x ∈ l → (E x).f ok w, fun _ _ _ hs h x hx => (E x).mono _ _ _ hs (h x hx), fun _ _ _ h hs x hx => (E x).loc _ _ _ (h x hx) hs⟩
def RowF (sz bt : Nat) (F : α → List Value) (E : α → Fact) (d : α) (l : List α) (a : SH) : Fact := ⟨fun ok w => rowAt ok sz bt l.length a (fun i => F (l.getD i d)) w ∧ ∀ x, x ∈ l → (E x).f ok w,
  fun _ _ _ hs h => ⟨h.1.mono hs, fun x hx => (E x).mono _ _ _ hs (h.2 x hx)⟩, fun _ _ _ h hs => ⟨h.1.loc hs, fun x hx => (E x).loc _ _ _ (h.2 x hx) hs⟩⟩
variable {B : Base} {Γ : List Fact} {Ms : List Res} {w : World} {E : α → Fact} {F : α → List Value} {sz bt n : Nat} {d : α} {l : List α} {a : SH}
theorem St.allNil (E : α → Fact) (hs : St B Γ Ms w) : St B (AllF E [] :: Γ) Ms w := hs.add (fun x hx => by cases hx)
theorem St.allAdd {x : α} (hs : St B Γ Ms w) (h1 : AllF E l ∈ Γ) (h2 : E x ∈ Γ) : St B (AllF E (l ++ [x]) :: Γ) Ms w := by
  refine hs.add (fun y hy => ?_)
  rcases List.mem_append.mp hy with hy | hy
  · exact hs.facts _ h1 y hy
  · rw [List.mem_singleton] at hy; subst hy; exact hs.facts _ h2
theorem St.settleRow {e : TypeId} {xs : List Value} (hF : ∀ x, (F x).length = sz) (hs : St B Γ (rowS sz e a n xs :: Ms) w) {hBp : Prop} (hB : hBp) (hA : AllF E l ∈ Γ) (hx : xs = l.flatMap F) (hn : n = l.length) (hb : n * bt ≤ reach) : St B (RowF sz bt F E d l a :: Γ) Ms w := by
  subst hx
  have hrow := hs.settle0 (F := ⟨fun ok w => rowAt ok sz bt n a (fun i => F (l.getD i d)) w, fun _ _ _ hs h => h.mono hs, fun _ _ _ h hs => h.loc hs⟩) hB (fun ok hok hh => own_rowAt (F := F) hF d (hh : World.ownsRow _ _ _ _ _ _ _) hn hb hok)
  have hr2 := hrow.facts _ List.mem_cons_self
  have h3 := hrow.facts _ (List.mem_cons_of_mem _ hA)
  exact hs.drop.add ⟨hn ▸ hr2, h3⟩
theorem St.openRow (hs : St B Γ Ms w) (hF : RowF sz bt F E d l a ∈ Γ) : l.length * bt ≤ reach ∧ (0 < l.length → ∃ b o, a.1 = some ⟨b, o, Option.none⟩) := by
  obtain ⟨h2, _⟩ := hs.facts _ hF
  exact ⟨h2.2.1, fun hn => by obtain ⟨b, o, h3, _⟩ := h2.2.2 hn; exact ⟨b, o, h3⟩⟩
theorem St.rowElem {i : Nat} (hs : St B Γ Ms w) (hF : RowF sz bt F E d l a ∈ Γ) (hi : i < l.length) : St B (E (l.getD i d) :: Γ) Ms w := hs.add ((hs.facts _ hF).2 _ (getD_mem hi))
end
section
variable {α : Type} {P : Program} {f : FuncId} {R : Ending → World → Prop} {B : Base} {n : Fz} {todo : List Item} {σ : Nat → Value} {Γ : List Fact} {Ms : List Res} {E : α → Fact} {F : α → List Value} {sz bt : Nat} {d : α} {l : List α} {a : SH}
theorem go_openRow (hF : RowF sz bt F E d l a ∈ Γ) (k : l.length * bt ≤ reach → (0 < l.length → ∃ b o, a.1 = some ⟨b, o, none⟩) → GoT P f R B n todo σ Γ Ms) : GoT P f R B n todo σ Γ Ms := go_know (p := l.length * bt ≤ reach ∧ (0 < l.length → ∃ b o, a.1 = some ⟨b, o, none⟩)) (fun w hs => hs.openRow hF) (fun h => k h.1 h.2)
theorem go_elem (hF : RowF sz bt F E d l a ∈ Γ) (i : Nat) (hi : i < l.length) (k : GoT P f R B n todo σ (E (l.getD i d) :: Γ) Ms) : GoT P f R B n todo σ Γ Ms := go_state (fun w hs => hs.rowElem hF hi) k
variable [Tab P] {x y : Operand} {v : Value} {ty : TypeId}
theorem le_rowE {t : TypeId} {lay : List (Nat × Nat)} {bt' bk o i : Nat} {zv : Value} (hFs : ∀ x, (F x).length = sz) (hx : ev σ x = .pointer (some ⟨bk, o + i * sz, none⟩)) (hF : RowF sz bt F E d l a ∈ Γ) (ha : a.1 = some ⟨bk, o, none⟩) (hu : Tab.lay P t = some lay) (hi : Tab.inf P t = some (sz, bt', zv)) (hlt : i < l.length) :
    LoadE P B σ Γ Ms (.load t x) ty (.agg (F (l.getD i d)).toArray) := fun w hs => by
  have h3 := (row_cells (hs.facts _ hF).1 ha hlt).2
  have h4 := run_loadVar_agg (P := P) (bk := bk) (off := o + i * sz) (w := w) hu hi (cs := F (l.getD i d)) (hFs _) h3
  simp [opr, execOp, hx, Instr.loadAt, Instr.sureAddr, h4]
theorem le_rowC {t : TypeId} {d' : TypeDesc} {bk o i k : Nat} (hx : ev σ x = .pointer (some ⟨bk, o + i * sz + k, none⟩)) (hF : RowF sz bt F E d l a ∈ Γ) (ha : a.1 = some ⟨bk, o, none⟩) (hu : Tab.und P t = some d') (hd : (match d' with | .struct _ | .array _ _ => true | _ => false) = false) (hk : (F (l.getD i d))[k]? = some v) (hlt : i < l.length) :
    LoadE P B σ Γ Ms (.load t x) ty v := fun w hs => by
  have h3 := (row_cells (hs.facts _ hF).1 ha hlt).2 k v hk
  simp [opr, execOp, hx, Instr.loadAt, Instr.sureAddr, run_loadVar_one hu hd h3]
theorem le_row1 {t : TypeId} {d' : TypeDesc} {bk o i : Nat} (hx : ev σ x = .pointer (some ⟨bk, o + i * 1, none⟩)) (hF : RowF 1 bt F E d l a ∈ Γ) (ha : a.1 = some ⟨bk, o, none⟩) (hu : Tab.und P t = some d') (hd : (match d' with | .struct _ | .array _ _ => true | _ => false) = false) (hk : (F (l.getD i d))[0]? = some v) (hlt : i < l.length) :
    LoadE P B σ Γ Ms (.load t x) ty v := le_rowC (k := 0) hx hF ha hu hd hk hlt
end
/-! ### Spots and paths -/
abbrev QP := TP × Int × Int
def qE (q : QP) : Fact := RT q.1.1 q.1.2.1 q.1.2.2.1 q.1.2.2.2
abbrev IP := List Int × SH
def ipE (p : IP) : Fact := IL p.1 p.2
abbrev CP := List Cl × SH
def cpCells (p : CP) : List Value := [sl p.2 p.1.length]
def cp0 : CP := ([], (none, 0))
abbrev cpE (p : CP) : Fact := CL p.1 p.2
abbrev CCF (l : List CP) (a : SH) : Fact := RowF 1 24 cpCells cpE cp0 l a
section
variable {B : Base} {Γ : List Fact} {Ms : List Res} {w : World}
/-- A list of one list of clauses, just written down. -/
theorem St.litCC {e : TypeId} {b : Nat} {l : List Cl} {a : SH} (hs : St B Γ (boxR b [sl a l.length] e :: Ms) w) {hBp : Prop} (hB : hBp) (hF : CL l a ∈ Γ) : St B (CCF [(l, a)] (some ⟨b, 0, Option.none⟩, 1) :: Γ) Ms w :=
  ((((hs.boxRow (sz := 1) (m := 1) rfl (by decide)).allNil cpE).allAdd (x := (l, a)) List.mem_cons_self (List.mem_cons_of_mem _ hF)).settleRow (F := cpCells) (E := cpE) (d := cp0) (bt := 24) (l := [(l, a)]) (fun _ => rfl) hB List.mem_cons_self rfl rfl (by decide)).less (by simp +contextual)
end
end Go.Hy
namespace Go.Hy
section
variable {P : Program} [Tab P] {B : Base} {σ : Nat → Value} {Γ : List Fact} {Ms Ms2 : List Res} {ty : TypeId} {x y z : Operand} {v : Value}
end
section
variable {P : Program} [Tab P] {f : FuncId} {fn : Func} {B : Base} {n : Fz} {K : List Item} {σ : Nat → Value} {Γ : List Fact} {Ms : List Res} {X : Type} {val : X → Value} {N : X → List Fact} {Ms1 : X → List Res}
/-- Two results, of which the first lies in a variable. -/
theorem retCT {r t T : Nat} {r2 : Tmp} {b s bt : Nat} {zv v2 : Value} {lay : List (Nat × Nat)} {cs : List Value} (hf : P.funcs[f]? = some fn) (hr : fn.results = #[.cell r t, .tmp r2]) (x : X) (hb : σ r = .pointer (some ⟨b, 0, none⟩)) (hm : boxR b cs T ∈ Ms) (hl : Tab.lay P t = some lay) (hi : Tab.inf P t = some (s, bt, zv)) (hcs : cs.length = s) (h2 : σ r2 = v2) (hv : Value.tuple #[.agg cs.toArray, v2] = val x) (hs : ∀ w, St B Γ Ms w → St B (N x) (Ms1 x) w) (hD : n.defs = [] := by rfl) (hK : okK n.kind := by first | exact .inl rfl | exact .inr rfl) : GoT P f (Ends B val N Ms1) B n (.code .ret :: K) σ Γ Ms :=
  go_ret hf (fun a w ha h => by
    have h1 := ha.get r
    rw [hb] at h1
    have h3 := ha.get r2
    rw [h2] at h3
    have h4 := run_loadVar_agg (P := P) (bk := b) (off := 0) (w := w) hl hi hcs (fun j v hj => by rw [Nat.zero_add]; exact box_cell h hm j v hj)
    have h1' : (a.tmps[r]?.getD undef) = .pointer (some ⟨b, 0, none⟩) := by simpa [Array.getD_eq_getD_getElem?] using h1
    have h3' : (a.tmps[r2]?.getD undef) = v2 := by simpa [Array.getD_eq_getD_getElem?] using h3
    simp [results, hr, asAddr, h1', h4, h3', ← hv]) (fun w h => ⟨x, rfl, hs w h⟩) hD hK
end
end Go.Hy
namespace Go.Hy
/-! Wrappers of rules for spots and paths (printed by a program of this repository). -/
section
variable {tn : Bool} {pn : Nat} {P : Program} [Tab P] {f : FuncId} {R : Ending → World → Prop} {B : Base} {n : Fz} {K : List Item} {ops : Array Oper} {i : Nat} {l fin : List Nat} {σ : Nat → Value} {Γ : List Fact} {Ms Ms2 : List Res}
variable {dst : Option Tmp} {op : Op} {ty : TypeId} {pos : String} {after : Array Edge} {v : Value} {x y z : Operand}
theorem o_ldCC {t : TypeId} {d : TypeDesc} {bk o i' : Nat} {a : SH} {ls : List CP} (k_ : RgT P f R B n K ops l (putS σ dst v) Γ Ms) (hx : ev σ x = .pointer (some ⟨bk, o + i' * 1, none⟩) := by exact wn_) (hFa : CCF ls a ∈ Γ ∧ a.1 = some ⟨bk, o, none⟩ := by exact ma0_) (hu : Tab.und P t = some d := by rfl) (hd' : (match d with | .struct _ | .array _ _ => true | _ => false) = false := by rfl) (hk : (cpCells (ls.getD i' cp0))[0]? = some v := by exact wn_) (hlt : i' < ls.length := by first | omega | (simp only [List.length_map, List.length_set]; omega) | (simp; omega)) (hd : dstOk n dst = true := by rfl) : OpT P f R B n K ops l (opr dst (.load t x) ty) σ Γ Ms := sq_load (le_row1 hx hFa.1 hFa.2 hu hd' hk hlt) hd k_
end
end Go.Hy
namespace Go.Hy
/-! Wrappers: comparisons whose answer is known (printed by a program of this repository). -/
section
variable {tn : Bool} {pn : Nat} {P : Program} [Tab P] {f : FuncId} {R : Ending → World → Prop} {B : Base} {n : Fz} {K : List Item} {ops : Array Oper} {i : Nat} {l fin : List Nat} {σ : Nat → Value} {Γ : List Fact} {Ms Ms2 : List Res}
variable {dst : Option Tmp} {op : Op} {ty : TypeId} {pos : String} {after : Array Edge} {v : Value} {x y z : Operand}
theorem o_eqIY {t t' : TypeId} {k : IntKind} {a b : Int} (k_ : RgT P f R B n K ops l (putS σ dst (.bool true)) Γ Ms) (hx : ev σ x = .int k a := by exact wn_) (hy : ev σ y = .int k b := by exact wn_) (hp : a = b := by first | omega | (simp; done)) (hd : dstOk n dst = true := by rfl) : OpT P f R B n K ops l (opr dst (.binOp .eql t x y t') ty) σ Γ Ms := sq_pure (show PureE P σ (.binOp .eql t x y t') ty (.bool true) from (decide_eq_true hp : decide (a = b) = true) ▸ pe_eqI hx hy) hd k_
theorem v_st {t T' : TypeId} {b s bt : Nat} {zv : Value} {cs cs' : List Value} (k_ : NV tn pn P f R B n K ops fin l σ Γ (boxR b cs' T' :: Ms2)) (hx : ev σ x = .pointer (some ⟨b, 0, none⟩) := by exact wn_) (hm : Ms.Perm (boxR b cs T' :: Ms2) := by first | exact perm0 | exact perm1 | exact perm2 | exact perm3 | exact perm4 | exact perm5 | exact perm6 | exact perm7 | exact perm8) (hy : (ev σ y).cells = cs'.toArray := by rfl) (hi : Tab.inf P t = some (s, bt, zv) := by rfl) (hl : cs'.length = s := by rfl) (hl2 : cs.length = s := by rfl) (h1 : oneCells cs' = true := by rfl) : NvT tn pn P f R B n K ops fin i l none (.store t x y) ty σ Γ Ms := nv_store (r := [boxR b cs T']) (r' := [boxR b cs' T']) (fun M => se_box hx hy (List.Perm.refl _) hi hl hl2 h1) rfl hm k_
end
end Go.Hy
