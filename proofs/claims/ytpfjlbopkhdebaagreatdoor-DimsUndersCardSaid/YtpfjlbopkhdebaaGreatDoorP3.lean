/- Contracts of this program's functions and the laws that they need: a separation logic over the machine's rules, one theorem each (partly printed by a program of this repository). -/
import Derived.ProofKit
import Derived.HandedShaped
import Derived.DeepKeys4
import Derived.Carry
import Derived.WideLaws
import Derived.MapKept
import Derived.WideShapes
import Derived.Test.YtpfjlbopkhdebaaGreatDoorP2
set_option linter.unusedVariables false
set_option linter.unusedSimpArgs false
set_option linter.unusedSectionVars false
namespace Go.Hy
open Go
/-! ### Arguments: what a reading of a term tells -/
/-- The types of terms, in a program. -/
class TyF (P : Program) where
 tI : TypeId
 tS : TypeId
 tU : TypeId
 tC : TypeId
 tT : TypeId
 tB : TypeId
 lC : TypeId
 lT : TypeId
 lB : TypeId
 fC : Array Field
 fT : Array Field
 fB : Array Field
 uI : P.underlying tI = some (.int .i64)
 uS : P.underlying tS = some .string
 uU : P.underlying tU = some (.int .u32)
 uC : P.underlying tC = some (.struct fC)
 uT : P.underlying tT = some (.struct fT)
 uB : P.underlying tB = some (.struct fB)
 ulC : P.underlying lC = some (.slice tC)
 ulT : P.underlying lT = some (.slice tT)
 ulB : P.underlying lB = some (.slice tB)
 pC : fC.toList.map (fun f => (f.offset, f.type)) = [(0, tU), (1, tU)]
 pT : fT.toList.map (fun f => (f.offset, f.type)) = [(0, tI), (1, tI), (2, tS), (3, lC), (4, lT), (5, lB)]
 pB : fB.toList.map (fun f => (f.offset, f.type)) = [(0, lC), (1, lT)]
 c1 : P.cellsOf tI = 1 ∧ P.cellsOf tS = 1 ∧ P.cellsOf tU = 1 ∧ P.cellsOf lC = 1 ∧ P.cellsOf lT = 1 ∧ P.cellsOf lB = 1
 c2 : P.cellsOf tC = 2 ∧ P.cellsOf tT = 6 ∧ P.cellsOf tB = 2
 b2 : P.bytesOf tC = 8 ∧ P.bytesOf tT = 104 ∧ P.bytesOf tB = 48
section
variable {P : Program} {H : Type} {enc : TypeId × Value → H} {w : World} {sp : Nat → Bool}
abbrev rd (enc : TypeId × Value → H) (P : Program) (w : World) (sp : Nat → Bool) := DataW.trod enc P w 0 sp true
def B5o (P : Program) (t : TypeId) (d : DataW H) : Prop := ∀ x, x ∈ d.weights P t → x ≤ reach
theorem C2o {α : Type} (Q : Nat → α → Prop) : ∀ (n : Nat), (∀ i, i < n → ∃ x, Q i x) → ∃ xs : List α, xs.length = n ∧ ∀ i x, xs[i]? = some x → Q i x
 | 0, _ => ⟨[], rfl, fun i x h => by simp at h⟩
 | n + 1, h => by
  obtain ⟨xs, h1, h2⟩ := C2o Q n (fun i hi => h i (by omega))
  obtain ⟨x, hx⟩ := h n (by omega)
  refine ⟨xs ++ [x], by simp [h1], fun i y hy => ?_⟩
  by_cases hi : i < n
  ·rw [List.getElem?_append_left (by omega)] at hy; exact h2 i y hy
  ·rw [List.getElem?_append_right (by omega)] at hy
   have : i - xs.length = 0 := by
    rcases Nat.eq_zero_or_pos (i - xs.length) with h0 | h0
    ·exact h0
    ·rw [List.getElem?_eq_none (by simp; omega)] at hy; cases hy
   rw [this] at hy
   simp at hy
   have e : i = n := by omega
   subst e; subst hy; exact hx
theorem C6q {α β : Type} {g : α → Option β} : ∀ {l : List α} {r : List β}, l.mapM g = some r → r.length = l.length ∧ ∀ (i : Nat) (x : α), l[i]? = some x → ∃ y, r[i]? = some y ∧ g x = some y
 | [], r, h => by simp at h; subst h; exact ⟨rfl, fun i x h => by simp at h⟩
 | a :: l, r, h => by
  simp only [List.mapM_cons, Option.bind_eq_bind, Option.pure_def] at h
  obtain ⟨y, hy, h⟩ := Option.bind_eq_some_iff.mp h
  obtain ⟨ys, hys, h⟩ := Option.bind_eq_some_iff.mp h
  injection h with h
  subst h
  obtain ⟨h1, h2⟩ := C6q hys
  refine ⟨by simp [h1], fun i x hx => ?_⟩
  cases i with
  | zero => simp at hx; subst hx; exact ⟨y, rfl, hy⟩
  | succ i => simpa using h2 i x (by simpa using hx)
theorem E9y {a : Addr} {n : Nat} {cs : List Value} (h : w.cells? 0 a n = some cs) : cs.length = n ∧ ∀ j v, cs[j]? = some v → w.cell? (a.add j) = some v := by
 simp only [World.cells?, Nat.zero_le, if_true] at h
 obtain ⟨h1, h2⟩ := C6q h
 rw [List.length_range] at h1
 refine ⟨h1, fun j v hv => ?_⟩
 have hj : j < n := by rw [← h1]; exact (List.getElem?_eq_some_iff.mp hv).1
 obtain ⟨y, hy, hc⟩ := h2 j j (by simp [hj])
 rw [hv] at hy; injection hy with hy; subst hy; exact hc
theorem D0a {P : Program} {e : TypeId} {d : DataW H} : ∀ {l : List (DataW H)}, d ∈ l → ∀ x, x ∈ d.weights P e → x ∈ DataW.weightsAll P e l
 | [], h, _, _ => by cases h
 | a :: l, h, x, hx => by
  rw [DataW.weightsAll]
  rcases List.mem_cons.mp h with h | h
  ·subst h; exact List.mem_append_left _ hx
  ·exact List.mem_append_right _ (D0a h x hx)
theorem open_row {α : Type} {tS e : TypeId} {sz bt fuel : Nat} (F : α → List Value) (Q : α → Prop) (d0 : α) (hF : ∀ x, (F x).length = sz) (hsz : 0 < sz) (hu : P.underlying tS = some (.slice e)) (hc : P.cellsOf e = sz) (hb : P.bytesOf e = bt)
  (helem : ∀ cs d ps, rd enc P w sp fuel e cs = some (d, ps) → B5o P e d → ∃ x, cs = F x ∧ Q x)
  {cs : List Value} {d : DataW H} {ps : List MemPlace} (h : rd enc P w sp (fuel + 1) tS cs = some (d, ps)) (hl : B5o P tS d) :
  ∃ (xs : List α) (a : SH), cs = [sl a xs.length] ∧ rowAt (fun b => b < w.heap.size) sz bt xs.length a (fun i => F (xs.getD i d0)) w ∧ ∀ x, x ∈ xs → Q x := by
 simp only [rd, DataW.trod, hu] at h
 split at h <;> try (simp_all; done)
 ·exact ⟨[], (Option.none, 0), rfl, ⟨Nat.zero_le _, by simp, fun h => absurd h (by simp)⟩, fun x hx => by cases hx⟩
 ·rename_i e' a len cap heq
  have he : e' = e := by injection heq with heq; injection heq with heq; exact heq.symm
  subst he
  split at h
  ·rename_i hcond
   obtain ⟨elems, hel, h⟩ := Option.bind_eq_some_iff.mp h
   obtain ⟨rest, hrest, h⟩ := Option.map_eq_some_iff.mp h
   obtain ⟨h1, h2⟩ := C6q hel
   rw [List.length_range] at h1
   have hd : d = .slice (elems.map (·.1)) (rest.map (·.1)) := (Prod.mk.inj h).1.symm
   have hw : ∀ x, x ∈ ((elems.map (·.1)).length + (rest.map (·.1)).length) * P.bytesOf e' :: (DataW.weightsAll P e' (elems.map (·.1)) ++ DataW.weightsAll P e' (rest.map (·.1))) → x ≤ reach := by
    intro x hx
    refine hl x ?_
    rw [hd, DataW.weights, hu]
    exact hx
   have hbytes : len * bt ≤ reach := by
    have := hw _ List.mem_cons_self
    rw [List.length_map, List.length_map, h1, hb] at this
    exact Nat.le_trans (Nat.mul_le_mul_right _ (Nat.le_add_right _ _)) this
   have hex : ∀ i, i < len → ∃ x, w.cells? 0 (a.add (i * sz)) sz = some (F x) ∧ Q x := by
    intro i hi
    obtain ⟨y, hy, hg⟩ := h2 i i (by simp [hi])
    rw [hc] at hg
    obtain ⟨cs, hcs, hg⟩ := Option.bind_eq_some_iff.mp hg
    have hly : B5o P e' y.1 := fun x hx => hw x (List.mem_cons_of_mem _ (List.mem_append_left _ (D0a (List.mem_map_of_mem (List.mem_of_getElem? hy)) x hx)))
    obtain ⟨x, hx, hq⟩ := helem cs y.1 y.2 hg hly
    exact ⟨x, hx ▸ hcs, hq⟩
   obtain ⟨xs, hx1, hx2⟩ := C2o (fun i x => w.cells? 0 (a.add (i * sz)) sz = some (F x) ∧ Q x) len hex
   have hcell : ∀ i, i < len → ∀ j v, (F (xs.getD i d0))[j]? = some v → w.cell? ((a.add (i * sz)).add j) = some v := by
    intro i hi j v hv
    have hxi : xs[i]? = some (xs.getD i d0) := by rw [List.getD_eq_getElem?_getD, List.getElem?_eq_getElem (by omega)]; rfl
    exact (E9y (hx2 i _ hxi).1).2 j v hv
   refine ⟨xs, (some a, cap), by rw [hx1]; rfl, ?_, fun x hx => ?_⟩
   ·rw [hx1]
    refine ⟨hcond.2.1, hbytes, fun hn => ?_⟩
    obtain ⟨v, hv⟩ : ∃ v, (F (xs.getD 0 d0))[0]? = some v := ⟨_, List.getElem?_eq_getElem (by rw [hF]; exact hsz)⟩
    have h0 := hcell 0 hn 0 v hv
    have hadd0 : (a.add (0 * sz)).add 0 = a := by simp [Addr.add]
    rw [hadd0] at h0
    have hspot : a.spot = Option.none := by
     unfold World.cell? at h0
     split at h0
     ·split at h0
      ·cases h0
      ·rename_i hs; simpa using hs
     ·cases h0
    have hblk : a.block < w.heap.size := by
     unfold World.cell? at h0
     split at h0
     ·rename_i hg; exact (Array.getElem?_eq_some_iff.mp hg).1
     ·cases h0
    obtain ⟨ab, ao, as⟩ := a
    simp only at hspot hblk
    subst hspot
    refine ⟨ab, ao, rfl, hblk, fun i hi j v hv => ?_⟩
    have := hcell i hi j v hv
    rwa [Addr.add_lit, Addr.add_lit] at this
   ·obtain ⟨i, hi, e⟩ := List.mem_iff_getElem.mp hx
    exact (hx2 i x (by rw [List.getElem?_eq_getElem hi, e])).2
  ·cases h
theorem C9r {t : TypeId} {fuel : Nat} (hu : P.underlying t = some (.int .i64)) {cs : List Value} {d : DataW H} {ps : List MemPlace} (h : rd enc P w sp fuel t cs = some (d, ps)) : ∃ n : Int, cs = [.int .i64 n] ∧ A2j n := by
 cases fuel with
 | zero => cases h
 | succ fuel =>
  obtain ⟨n, h1, _, h2⟩ := DataW.trod_int hu h
  have h1 : cs = [.int .i64 n] := by simpa using h1
  refine ⟨n, h1, ?_⟩
  simp only [Lit.wf, Bool.and_eq_true, decide_eq_true_eq] at h2
  exact ⟨h2.1, h2.2⟩
theorem D5o {t : TypeId} {fuel : Nat} (hu : P.underlying t = some (.int .u32)) {cs : List Value} {d : DataW H} {ps : List MemPlace} (h : rd enc P w sp fuel t cs = some (d, ps)) : ∃ n : Nat, cs = [.int .u32 (n : Int)] ∧ n < 4294967296 := by
 cases fuel with
 | zero => cases h
 | succ fuel =>
  obtain ⟨n, h1, _, h2⟩ := DataW.trod_int hu h
  have h1 : cs = [.int .u32 n] := by simpa using h1
  simp only [Lit.wf, Bool.and_eq_true, decide_eq_true_eq] at h2
  have h3 : (0 : Int) ≤ n := h2.1
  have h4 : n ≤ 4294967295 := h2.2
  exact ⟨n.toNat, by rw [h1, Int.toNat_of_nonneg h3], by omega⟩
theorem E8b {t : TypeId} {fuel : Nat} (hu : P.underlying t = some .string) {cs : List Value} {d : DataW H} {ps : List MemPlace} (h : rd enc P w sp fuel t cs = some (d, ps)) (hl : B5o P t d) : ∃ s : ByteArray, cs = [.string s] ∧ s.size ≤ A8p := by
 cases fuel with
 | zero => cases h
 | succ fuel =>
  simp only [rd, DataW.trod, hu] at h
  split at h <;> try (simp_all; done)
  rename_i s heq
  split at h
  ·injection h with h
   have hd := (Prod.mk.inj h).1.symm
   refine ⟨s, rfl, ?_⟩
   have := hl s.data.toList.length (by rw [hd, DataW.weights]; exact List.mem_cons_self)
   rw [Array.length_toList] at this
   exact Nat.le_trans this (by decide)
  ·cases h
theorem B5l {t : TypeId} {fuel : Nat} {fs : Array Field} {l : List (Nat × TypeId)} (hu : P.underlying t = some (.struct fs)) (hp : fs.toList.map (fun f => (f.offset, f.type)) = l) {cs : List Value} {d : DataW H} {ps : List MemPlace} (h : rd enc P w sp (fuel + 1) t cs = some (d, ps)) (hl : B5o P t d) :
  cs.length = P.cellsOf t ∧ ∀ (i : Nat) (x : Nat × TypeId), l[i]? = some x → ∃ d' ps', rd enc P w sp fuel x.2 ((cs.drop x.1).take (P.cellsOf x.2)) = some (d', ps') ∧ B5o P x.2 d' := by
 simp only [rd, DataW.trod, hu] at h
 split at h
 ·rename_i hlen
  obtain ⟨xs, hxs, h⟩ := Option.map_eq_some_iff.mp h
  have hd : d = .agg (xs.map (·.1)) := (Prod.mk.inj h).1.symm
  obtain ⟨h1, h2⟩ := C6q hxs
  have key : ∀ (ts : List TypeId) (ds : List (DataW H)) (i : Nat) (t : TypeId) (d' : DataW H), ts[i]? = some t → ds[i]? = some d' → ∀ x, x ∈ d'.weights P t → x ∈ DataW.weightsEach P ts ds := by
   intro ts
   induction ts with
   | nil => intro ds i t d' ht; simp at ht
   | cons t1 ts ih =>
    intro ds i t d' ht hdd x hx
    cases ds with
    | nil => simp at hdd
    | cons d1 ds =>
     rw [DataW.weightsEach]
     cases i with
     | zero => simp at ht hdd; subst ht; subst hdd; exact List.mem_append_left _ hx
     | succ i => exact List.mem_append_right _ (ih ds i t d' (by simpa using ht) (by simpa using hdd) x hx)
  refine ⟨hlen, fun i x hx => ?_⟩
  rw [← hp, List.getElem?_map] at hx
  obtain ⟨f, hf, e⟩ := Option.map_eq_some_iff.mp hx
  obtain ⟨y, hy, hg⟩ := h2 i f hf
  subst e
  refine ⟨y.1, y.2, hg, fun z hz => hl z ?_⟩
  rw [hd, DataW.weights, hu]
  exact key _ _ i f.type y.1 (by simp [hf]) (by simp [hy]) z hz
 ·cases h
variable [TyF P]
abbrev okw (w : World) : Nat → Prop := fun b => b < w.heap.size
theorem B4w {cs : List Value} {n : Nat} {x : Value} (h : (cs.drop n).take 1 = [x]) : cs[n]? = some x := by
 have := congrArg (·[0]?) h
 simpa [List.getElem?_take, List.getElem?_drop] using this
theorem B5n {cs xs : List Value} (hl : cs.length = xs.length) (h : ∀ i, i < xs.length → cs[i]? = xs[i]?) : cs = xs := by
 apply List.ext_getElem? 
 intro i
 by_cases hi : i < xs.length
 ·exact h i hi
 ·rw [List.getElem?_eq_none (by omega), List.getElem?_eq_none (by omega)]
theorem E3k {fuel : Nat} {cs : List Value} {d : DataW H} {ps : List MemPlace} (h : rd enc P w sp fuel (TyF.tC P) cs = some (d, ps)) (hl : B5o P (TyF.tC P) d) : ∃ c : Cl, cs = A0r c ∧ u32 c := by
 cases fuel with
 | zero => cases h
 | succ fuel =>
  obtain ⟨h1, h2⟩ := B5l TyF.uC TyF.pC h hl
  rw [TyF.c2.1] at h1
  obtain ⟨d0, p0, r0, l0⟩ := h2 0 _ rfl
  obtain ⟨d1, p1, r1, l1⟩ := h2 1 _ rfl
  obtain ⟨a, ha, ha2⟩ := D5o TyF.uU r0
  obtain ⟨b, hb, hb2⟩ := D5o TyF.uU r1
  simp only [TyF.c1.2.2.1] at ha hb
  have e0 := B4w ha
  have e1 := B4w hb
  refine ⟨⟨a, b⟩, B5n (by rw [h1]; rfl) (fun i hi => ?_), ha2, hb2⟩
  match i with
  | 0 => exact e0
  | 1 => exact e1
  | i + 2 => simp [A0r] at hi; omega
theorem E3j {fuel : Nat} {cs : List Value} {d : DataW H} {ps : List MemPlace} (h : rd enc P w sp fuel (TyF.lC P) cs = some (d, ps)) (hl : B5o P (TyF.lC P) d) : ∃ (l : List Cl) (a : SH), cs = [sl a l.length] ∧ B3q (okw w) l a w := by
 cases fuel with
 | zero => cases h
 | succ fuel =>
  obtain ⟨xs, a, h1, h2, h3⟩ := open_row A0r u32 cl0 A4q (by omega) TyF.ulC TyF.c2.1 TyF.b2.1 (fun cs d ps h hl => E3k h hl) h hl
  exact ⟨xs, a, h1, h2, h3⟩
def opT (ok : Nat → Prop) (w : World) (p : TP) : Prop := A6w ok p.1 p.2.1 p.2.2.1 p.2.2.2 w
def opB (ok : Nat → Prop) (w : World) (p : BP) : Prop := C3d ok p.1 p.2.1 p.2.2 w
theorem G0w {ps : List TP} {a : SH} (h : rowAt (okw w) 6 104 ps.length a (fun i => A9t (ps.getD i tp0)) w) (hq : ∀ p, p ∈ ps → opT (okw w) w p) : F2j (okw w) (ps.map (·.1)) a w := by
 refine ⟨fun i => (ps.getD i tp0).2.1, fun i => (ps.getD i tp0).2.2.1, fun i => (ps.getD i tp0).2.2.2, ?_, ?_⟩
 ·rw [List.length_map]
  have e2 : (fun i => tc ((ps.map (·.1)).getD i t0) (ps.getD i tp0).2.1 (ps.getD i tp0).2.2.1 (ps.getD i tp0).2.2.2) = fun i => A9t (ps.getD i tp0) := by
   funext i
   rw [show t0 = (fun p : TP => p.1) tp0 from rfl, getD_map' (fun p : TP => p.1)]
   rfl
  rw [e2]; exact h
 ·refine C7k fun i t hi => ?_
  rw [List.getElem?_map] at hi
  obtain ⟨p, hp, e⟩ := Option.map_eq_some_iff.mp hi
  have e3 : ps.getD i tp0 = p := by rw [List.getD_eq_getElem?_getD, hp]; rfl
  rw [e3, ← e]
  exact hq p (List.mem_of_getElem? hp)
theorem G4a {ps : List BP} {a : SH} (h : rowAt (okw w) 2 48 ps.length a (fun i => B1j (ps.getD i bp0)) w) (hq : ∀ p, p ∈ ps → opB (okw w) w p) : G0d (okw w) (ps.map (·.1)) a w := by
 refine ⟨fun i => (ps.getD i bp0).2.1, fun i => (ps.getD i bp0).2.2, ?_, ?_⟩
 ·rw [List.length_map]
  have e2 : (fun i => bc ((ps.map (·.1)).getD i br0) (ps.getD i bp0).2.1 (ps.getD i bp0).2.2) = fun i => B1j (ps.getD i bp0) := by
   funext i
   rw [show br0 = (fun p : BP => p.1) bp0 from rfl, getD_map' (fun p : BP => p.1)]
   rfl
  rw [e2]; exact h
 ·refine C7h fun i t hi => ?_
  rw [List.getElem?_map] at hi
  obtain ⟨p, hp, e⟩ := Option.map_eq_some_iff.mp hi
  have e3 : ps.getD i bp0 = p := by rw [List.getD_eq_getElem?_getD, hp]; rfl
  rw [e3, ← e]
  exact hq p (List.mem_of_getElem? hp)
theorem C9s : ∀ (fuel : Nat),
  (∀ cs (d : DataW H) ps, rd enc P w sp fuel (TyF.tT P) cs = some (d, ps) → B5o P (TyF.tT P) d → ∃ p : TP, cs = A9t p ∧ opT (okw w) w p) ∧
  (∀ cs (d : DataW H) ps, rd enc P w sp fuel (TyF.lT P) cs = some (d, ps) → B5o P (TyF.lT P) d → ∃ (l : List T) (a : SH), cs = [sl a l.length] ∧ F2j (okw w) l a w) ∧
  (∀ cs (d : DataW H) ps, rd enc P w sp fuel (TyF.tB P) cs = some (d, ps) → B5o P (TyF.tB P) d → ∃ p : BP, cs = B1j p ∧ opB (okw w) w p) ∧
  (∀ cs (d : DataW H) ps, rd enc P w sp fuel (TyF.lB P) cs = some (d, ps) → B5o P (TyF.lB P) d → ∃ (l : List Br) (a : SH), cs = [sl a l.length] ∧ G0d (okw w) l a w)
 | 0 => ⟨fun _ _ _ h _ => (by cases h), fun _ _ _ h _ => (by cases h), fun _ _ _ h _ => (by cases h), fun _ _ _ h _ => (by cases h)⟩
 | fuel + 1 => by
  obtain ⟨iT, ilT, iB, ilB⟩ := C9s fuel
  refine ⟨fun cs d ps h hl => ?_, fun cs d ps h hl => ?_, fun cs d ps h hl => ?_, fun cs d ps h hl => ?_⟩
  ·obtain ⟨h1, h2⟩ := B5l TyF.uT TyF.pT h hl
   rw [TyF.c2.2.1] at h1
   obtain ⟨d0, p0, r0, l0⟩ := h2 0 _ rfl
   obtain ⟨d1, p1, r1, l1⟩ := h2 1 _ rfl
   obtain ⟨d2, p2, r2, l2⟩ := h2 2 _ rfl
   obtain ⟨d3, p3, r3, l3⟩ := h2 3 _ rfl
   obtain ⟨d4, p4, r4, l4⟩ := h2 4 _ rfl
   obtain ⟨d5, p5, r5, l5⟩ := h2 5 _ rfl
   obtain ⟨k, e0, hk⟩ := C9r TyF.uI r0
   obtain ⟨n, e1, hn⟩ := C9r TyF.uI r1
   obtain ⟨nm, e2, hnm⟩ := E8b TyF.uS r2 l2
   obtain ⟨r, vr, e3, hr⟩ := E3j r3 l3
   obtain ⟨ks, vk, e4, hks⟩ := ilT _ _ _ r4 l4
   obtain ⟨ss, vs, e5, hss⟩ := ilB _ _ _ r5 l5
   obtain ⟨c1, c2, c3, c4, c5, c6⟩ := TyF.c1 (P := P)
   simp only [c1, c2, c4, c5, c6] at e0 e1 e2 e3 e4 e5
   have f0 := B4w e0
   have f1 := B4w e1
   have f2 := B4w e2
   have f3 := B4w e3
   have f4 := B4w e4
   have f5 := B4w e5
   refine ⟨(.mk k n nm r ks ss, vr, vk, vs), B5n (by rw [h1]; rfl) (fun i hi => ?_), C8d hk hn hnm hr hks hss⟩
   match i with
   | 0 => exact f0
   | 1 => exact f1
   | 2 => exact f2
   | 3 => exact f3
   | 4 => exact f4
   | 5 => exact f5
   | i + 6 => simp [A9t, tc] at hi; omega
  ·obtain ⟨xs, a, h1, h2, h3⟩ := open_row A9t (opT (okw w) w) tp0 (fun _ => rfl) (by omega) TyF.ulT TyF.c2.2.1 TyF.b2.2.1 (fun cs d ps h hl => iT cs d ps h hl) h hl
   exact ⟨xs.map (·.1), a, by rw [h1, List.length_map], G0w h2 h3⟩
  ·obtain ⟨h1, h2⟩ := B5l TyF.uB TyF.pB h hl
   rw [TyF.c2.2.2] at h1
   obtain ⟨d0, p0, r0, l0⟩ := h2 0 _ rfl
   obtain ⟨d1, p1, r1, l1⟩ := h2 1 _ rfl
   obtain ⟨f, vf, e3, hr⟩ := E3j r0 l0
   obtain ⟨ks, vk, e4, hks⟩ := ilT _ _ _ r1 l1
   obtain ⟨c1, c2, c3, c4, c5, c6⟩ := TyF.c1 (P := P)
   simp only [c4, c5] at e3 e4
   have f0 := B4w e3
   have f1 := B4w e4
   refine ⟨(.mk f ks, vf, vk), B5n (by rw [h1]; rfl) (fun i hi => ?_), E5v hr hks⟩
   match i with
   | 0 => exact f0
   | 1 => exact f1
   | i + 2 => simp [B1j, bc] at hi; omega
  ·obtain ⟨xs, a, h1, h2, h3⟩ := open_row B1j (opB (okw w) w) bp0 (fun _ => rfl) (by omega) TyF.ulB TyF.c2.2.2 TyF.b2.2.2 (fun cs d ps h hl => iB cs d ps h hl) h hl
   exact ⟨xs.map (·.1), a, by rw [h1, List.length_map], G4a h2 h3⟩
end
end Go.Hy
namespace Go.Hy
open Go Go.ChangeShapes Go.RowKit
/-! ### From a contract to a row -/
theorem Spec.calls {P : Program} {f : FuncId} {args : Array Value} {pre : List Fact} {X : Type} {val : X → Value} {N : X → List Fact} {Ms1 : X → List Res} (h : Spec P f args pre [] val N Ms1) (hv : ∀ x, val x = .bool true) {W : World} (hp : ∀ F, F ∈ pre → F.f (okw W) W) :
  Calls P f args W fun e W' => e = .returned (.bool true) ∧ Below W.heap.size W W' := by
 refine (h (okw W) W (fun b hb => ⟨hb, B0k b⟩) ⟨Chg.refl _ _, fun F hF => F.mono _ _ W (fun b hb => ⟨.inl hb, hb, B0k b⟩) (hp F hF), fun m hm => (by cases hm), fun m hm => (by cases hm), List.Pairwise.nil⟩).mono ?_
 intro e W' ⟨x, he, hs⟩
 exact ⟨by rw [he, hv x], ⟨hs.chg.os, hs.chg.tape, hs.chg.output, hs.chg.size, fun k hk => hs.chg.block k hk (B0k k)⟩⟩
theorem B6e {P : Program} {H : Type} {enc : TypeId × Value → H} (hl : laidOutB P = true) {W W' : World} (hb : Below W.heap.size W W') : ∀ {ts : List TypeId} {vs : List Value} {ds : List (DataW H)} {ps : List MemPlace}, (∀ t, t ∈ ts → P.readableRec t = true ∧ t < P.types.size) →
  DataW.TrodAll enc P W 0 (fun _ => true) true ts vs ds ps → (∀ x ∈ ps, x.block < W.heap.size) → DataW.TrodAll enc P W' 0 (fun b => decide (b < W.heap.size)) true ts vs ds ps
 | [], _, _, _, _, h, _ => by
  obtain ⟨rfl, rfl, rfl⟩ := trodAll_nil h
  exact rfl
 | t :: ts, _, _, _, ht, h, hlt => by
  obtain ⟨v, vs1, d, ds1, a, b, rfl, rfl, rfl, h1, h2⟩ := trodAll_cons h
  have h3 := ht t List.mem_cons_self
  exact ⟨a, b, Below.trod hl h3.1 h3.2 h1 hb (fun x hx => hlt x (List.mem_append_left _ hx)), B6e hl hb (fun t' h' => ht t' (List.mem_cons_of_mem _ h')) h2 (fun x hx => hlt x (List.mem_append_right _ hx)), rfl⟩
end Go.Hy
namespace Go.Hy
open Go
/-! ### A map from clauses to bools that has 'true' alone -/
abbrev A5k (c : Cl) : Value := .agg (A0r c).toArray
class TabM (P : Program) [TyF P] where
 law : WideMaps.KeyLaw P (TyF.tC P)
 kt : P.keyType (TyF.tC P) = true
 names : (TyF.fC P).all (·.name != "_") = true
 npos : 0 < P.types.size
section
variable {P : Program} [Tab P] [TyF P] [TabM P] {B : A6n} {σ : Nat → Value} {Γ : List Fact} {Ms : List Res} {ty : TypeId} {x y z : Operand}
theorem C0a {c : Cl} (hc : u32 c) : ∃ l, keyOf P (TyF.tC P) (A5k c) = some l := by
 have hpos : ∃ D, P.types.size + 1 = D + 1 + 1 := ⟨P.types.size - 1, by have := TabM.npos (P := P); omega⟩
 obtain ⟨D, hD⟩ := hpos
 obtain ⟨f0, f1, hf, e0, e1⟩ : ∃ f0 f1, (TyF.fC P).toList = [f0, f1] ∧ (f0.offset, f0.type) = (0, TyF.tU P) ∧ (f1.offset, f1.type) = (1, TyF.tU P) := by
  have := TyF.pC (P := P)
  match hl : (TyF.fC P).toList, this with
  | [f0, f1], h => simp only [List.map_cons, List.map_nil, List.cons.injEq, and_true] at h; exact ⟨f0, f1, rfl, h.1, h.2⟩
  | [], h => simp at h
  | [_], h => simp at h
  | _ :: _ :: _ :: _, h => simp at h
 have o0 := (Prod.mk.inj e0).1
 have t0' := (Prod.mk.inj e0).2
 have o1 := (Prod.mk.inj e1).1
 have t1' := (Prod.mk.inj e1).2
 have hw : ∀ n : Nat, n < 4294967296 → (Lit.int .u32 (n : Int)).wf = true := by
  intro n hn
  have h1 : IntKind.u32.min = 0 := rfl
  have h2 : IntKind.u32.max = 4294967295 := rfl
  simp only [Lit.wf, h1, h2, Bool.and_eq_true, decide_eq_true_eq]; omega
 refine ⟨.string (keyBytes [.int .u32 (c.pos : Int), .int .u32 (c.neg : Int)]), ?_⟩
 unfold keyOf
 rw [TyF.uC]
 simp only [TabM.kt, Value.formed, TyF.uC, TyF.c2.1, A0r, List.size_toArray, List.length_cons, List.length_nil, beq_self_eq_true, Bool.and_self, if_true, Value.cells]
 rw [hD]
 simp [Program.keyLits, TyF.uC, TyF.c2.1, TabM.names, hf, o0, o1, t0', t1', TyF.c1.2.2.1, TyF.uU, hw _ hc.1, hw _ hc.2]
def E4j (b : Nat) (keys : List Cl) : Res := ⟨fun x => x = b, fun w => (∀ c, c ∈ keys → u32 c) ∧ ∃ es clock, w.heap[b]? = some (.map es clock) ∧ es.toList.map (·.key) = keys.map A5k ∧ ∀ e, e ∈ es.toList → e.val = .bool true⟩
theorem D7l {t : TypeId} : D9y P B σ Γ Ms (.makeMap t none) ty (fun b : Nat => .map (some b)) (fun _ => Γ) (fun b => E4j b [] :: Ms) := fun w hs => by
 refine ⟨w.heap.size, w.alloc (.map #[] 0), ?_, ?_⟩
 ·have hr : (Instr.makeMap t none).run P w = .ok (.map (some w.heap.size)) (w.alloc (.map #[] 0)) := rfl
  simp [opr, execOp, hr]
 ·refine hs.born (m := E4j w.heap.size []) (Chg.push _ w _) (fun w2 hw2 => ⟨fun c hc => (by cases hc), #[], 0, ?_, rfl, fun e he => by simp at he⟩) (fun b hb => ?_)
  ·rw [hw2 _ rfl]
   show (w.heap.push (.map #[] 0))[w.heap.size]? = _
   simp
  ·have hb : b = w.heap.size := hb
   subst hb
   exact ⟨by simp, Nat.le_refl _⟩
theorem E8w {c d : Cl} : A5k c = A5k d ↔ c = d := by
 obtain ⟨p, n⟩ := c; obtain ⟨p', n'⟩ := d
 simp [A5k, A0r, Int.ofNat_inj]
theorem D6d {c : Cl} {keys : List Cl} {es : Array MapEntry} (hc : u32 c) (hk : ∀ d, d ∈ keys → u32 d) (he : es.toList.map (·.key) = keys.map A5k) (hv : ∀ e, e ∈ es.toList → e.val = .bool true) (w : World) :
  ((Instr.findKey (TyF.tC P) (A5k c) es.toList).run P w = .ok none w ∧ c ∉ keys) ∨ (∃ j, (Instr.findKey (TyF.tC P) (A5k c) es.toList).run P w = .ok (some (j, .bool true)) w) ∧ c ∈ keys := by
 obtain ⟨l, hl⟩ := C0a (P := P) hc
 have hall : ∀ e ∈ es.toList, ∃ l, keyOf P (TyF.tC P) e.key = some l := by
  intro e hme
  have : e.key ∈ keys.map A5k := he ▸ List.mem_map_of_mem hme
  obtain ⟨d, hd, e2⟩ := List.mem_map.mp this
  obtain ⟨l2, hl2⟩ := C0a (P := P) (hk d hd)
  exact ⟨l2, by rw [← e2]; exact hl2⟩
 rcases (TabM.law (P := P)).find w hl es.toList hall with ⟨h1, h2⟩ | ⟨j, e, h1, h2, h3⟩
 ·refine .inl ⟨h1, fun hm => ?_⟩
  have : A5k c ∈ es.toList.map (·.key) := he ▸ List.mem_map_of_mem hm
  obtain ⟨e, hme, e2⟩ := List.mem_map.mp this
  exact h2 e hme e2
 ·refine .inr ⟨⟨j, ?_⟩, ?_⟩
  ·rw [hv e (List.mem_of_getElem? h2)] at h1; exact h1
  ·have : e.key ∈ keys.map A5k := he ▸ List.mem_map_of_mem (List.mem_of_getElem? h2)
   rw [h3] at this
   obtain ⟨d, hd, e2⟩ := List.mem_map.mp this
   exact E8w.mp e2 ▸ hd
theorem E4o {t e : TypeId} {s bt b : Nat} {c : Cl} {keys : List Cl} (hx : ev σ x = .map (some b)) (hm : E4j b keys ∈ Ms) (hc : u32 c) (hy : ev σ y = A5k c) (hu : Tab.und P t = some (.map (TyF.tC P) e)) (hi : Tab.inf P e = some (s, bt, .bool false)) :
  B2u P B σ Γ Ms (.lookup t x y false) ty (.bool (decide (c ∈ keys))) := fun w hs => by
 obtain ⟨hk, es, clock, hb, he, hv⟩ : (∀ c, c ∈ keys → u32 c) ∧ ∃ es clock, w.heap[b]? = some (.map es clock) ∧ es.toList.map (·.key) = keys.map A5k ∧ ∀ e, e ∈ es.toList → e.val = .bool true := hs.res _ hm w (fun _ _ => rfl)
 obtain ⟨l, hl⟩ := C0a (P := P) hc
 have hch := (TabM.law (P := P)).check w es.isEmpty hl
 have hr : (Instr.lookup t (.map (some b)) (A5k c) false).run P w = .ok (.bool (decide (c ∈ keys))) w := by
  rcases D6d (P := P) hc hk he hv w with ⟨h1, h2⟩ | ⟨⟨j, h1⟩, h2⟩
  ·simp [Instr.lookup, A4r hu, run_getObj_map w b es clock hb, hch, h1, B6m hi, h2]
  ·simp [Instr.lookup, A4r hu, run_getObj_map w b es clock hb, hch, h1, B6m hi, h2]
 simp [opr, execOp, hx, hy, hr]
theorem C8u {t e : TypeId} {b : Nat} {c : Cl} {keys : List Cl} {Ms2 : List Res} (hx : ev σ x = .map (some b)) (hm : Ms.Perm (E4j b keys :: Ms2)) (hc : u32 c) (hn : c ∉ keys) (hy : ev σ y = A5k c) (hz : ev σ z = .bool true) (hu : Tab.und P t = some (.map (TyF.tC P) e)) :
  C5i P B σ Γ Ms (.mapUpdate t x y z) ty Γ (E4j b (keys ++ [c]) :: Ms2) := fun w hs => by
 have hs' := hs.perm hm
 obtain ⟨hk, es, clock, hb, he, hv⟩ : (∀ c, c ∈ keys → u32 c) ∧ ∃ es clock, w.heap[b]? = some (.map es clock) ∧ es.toList.map (·.key) = keys.map A5k ∧ ∀ e, e ∈ es.toList → e.val = .bool true := hs'.res _ List.mem_cons_self w (fun _ _ => rfl)
 obtain ⟨l, hl⟩ := C0a (P := P) hc
 have hch := (TabM.law (P := P)).check w false hl
 have hlt : b < w.heap.size := (Array.getElem?_eq_some_iff.mp hb).1
 have hb2 : w.heap[b] = .map es clock := (Array.getElem?_eq_some_iff.mp hb).2
 have hr : (Instr.mapUpdate t (.map (some b)) (A5k c) (.bool true)).run P w = .ok () { w with heap := w.heap.setIfInBounds b (.map (es.push { key := A5k c, val := .bool true, born := clock }) (clock + 1)) } := by
  rcases D6d (P := P) hc hk he hv w with ⟨h1, h2⟩ | ⟨⟨j, h1⟩, h2⟩
  ·simp [Instr.mapUpdate, A4r hu, run_getObj_map w b es clock hb, hch, h1, setObj, Sem.run, hlt, hb2]
  ·exact absurd h2 hn
 refine ⟨{ w with heap := w.heap.setIfInBounds b (.map (es.push { key := A5k c, val := .bool true, born := clock }) (clock + 1)) }, by simp [opr, execOp, hx, hy, hz, hr], ?_⟩
 refine hs'.A9b (m' := E4j b (keys ++ [c])) ⟨rfl, rfl, rfl, by simp, fun k hk hn => by
  have hn : k ≠ b := hn
  simp [Array.getElem?_setIfInBounds, hn.symm]⟩ (fun w2 hw2 => ⟨fun d hd => ?_, es.push { key := A5k c, val := .bool true, born := clock }, clock + 1, ?_, ?_, ?_⟩) (fun k hk => ?_)
 ·rcases List.mem_append.mp hd with hd | hd
  ·exact hk d hd
  ·rw [List.mem_singleton] at hd; exact hd ▸ hc
 ·rw [hw2 b rfl]; simp [hlt]
 ·simp [he]
 ·intro e he2
  rw [Array.toList_push, List.mem_append, List.mem_singleton] at he2
  rcases he2 with h | h
  ·exact hv e h
  ·rw [h]
 ·have hk2 : k = b := hk
  subst hk2
  exact ⟨by simpa using hlt, .inl rfl⟩
end
end Go.Hy
namespace Go.Hy
/-! Wrappers: an operation and its side conditions, which are tried by themselves. 'o_..': in a region in its order; 'v_..': in one that draws. -/
section
variable {tn : Bool} {pn : Nat} {P : Program} [Tab P] {f : FuncId} {R : Ending → World → Prop} {B : A6n} {n : Fz} {K : List Item} {ops : Array Oper} {i : Nat} {l fin : List Nat} {σ : Nat → Value} {Γ : List Fact} {Ms Ms2 : List Res}
variable {dst : Option Tmp} {op : Op} {ty : TypeId} {pos : String} {after : Array Edge} {v : Value} {x y z : Operand}
theorem A2u  (k_ : RgT P f R B n K ops l (A1u σ dst v) Γ Ms) (h : ev σ x = v := by exact wn_) (hd : A0s n dst = true := by rfl) : OpT P f R B n K ops l (opr dst (.move x) ty) σ Γ Ms := A1o (E2p h) hd k_
theorem C7r  (k_ : NV tn pn P f R B n K ops fin l (A1u σ dst v) Γ Ms) (h : ev σ x = v := by exact wn_) (hd : A0s n dst = true := by rfl) : NvT tn pn P f R B n K ops fin i l dst (.move x) ty σ Γ Ms := A3r (E2p h) hd k_
theorem E8k  (k_ : RgT P f R B n K ops l (A1u σ dst v) Γ Ms) (h : ev σ x = v := by exact wn_) (hd : A0s n dst = true := by rfl) : OpT P f R B n K ops l (opr dst (.assign x) ty) σ Γ Ms := A1o (C9n h) hd k_
theorem E6s  (k_ : NV tn pn P f R B n K ops fin l (A1u σ dst v) Γ Ms) (h : ev σ x = v := by exact wn_) (hd : A0s n dst = true := by rfl) : NvT tn pn P f R B n K ops fin i l dst (.assign x) ty σ Γ Ms := A3r (C9n h) hd k_
theorem E3r  (k_ : RgT P f R B n K ops l (A1u σ dst v) Γ Ms) (hz : ev σ z = .bool true := by rfl) (h : ev σ x = v := by exact wn_) (hd : A0s n dst = true := by rfl) : OpT P f R B n K ops l (opr dst (.pick z x y) ty) σ Γ Ms := A1o (D5i hz h) hd k_
theorem E0n  (k_ : NV tn pn P f R B n K ops fin l (A1u σ dst v) Γ Ms) (hz : ev σ z = .bool true := by rfl) (h : ev σ x = v := by exact wn_) (hd : A0s n dst = true := by rfl) : NvT tn pn P f R B n K ops fin i l dst (.pick z x y) ty σ Γ Ms := A3r (D5i hz h) hd k_
theorem E3s  (k_ : RgT P f R B n K ops l (A1u σ dst v) Γ Ms) (hz : ev σ z = .bool false := by rfl) (h : ev σ y = v := by exact wn_) (hd : A0s n dst = true := by rfl) : OpT P f R B n K ops l (opr dst (.pick z x y) ty) σ Γ Ms := A1o (D5j hz h) hd k_
theorem E0o  (k_ : NV tn pn P f R B n K ops fin l (A1u σ dst v) Γ Ms) (hz : ev σ z = .bool false := by rfl) (h : ev σ y = v := by exact wn_) (hd : A0s n dst = true := by rfl) : NvT tn pn P f R B n K ops fin i l dst (.pick z x y) ty σ Γ Ms := A3r (D5j hz h) hd k_
theorem G1x {t t' : TypeId} {a b : Int} (k_ : RgT P f R B n K ops l (A1u σ dst (.int .i64 (a + b))) Γ Ms) (hx : ev σ x = .int .i64 a := by exact wn_) (hy : ev σ y = .int .i64 b := by exact wn_) (h : A2j (a + b) := by unfold A2j; first | omega | (unfold A2j at *; omega) | (unfold reach at *; omega) | (unfold A8p at *; omega) | (simp only [A2j, reach, A8p] at *; omega)) (hd : A0s n dst = true := by rfl) : OpT P f R B n K ops l (opr dst (.binOp .add t x y t') ty) σ Γ Ms := A1o (F1j hx hy h) hd k_
theorem G0u {t t' : TypeId} {a b : Int} (k_ : NV tn pn P f R B n K ops fin l (A1u σ dst (.int .i64 (a + b))) Γ Ms) (hx : ev σ x = .int .i64 a := by exact wn_) (hy : ev σ y = .int .i64 b := by exact wn_) (h : A2j (a + b) := by unfold A2j; first | omega | (unfold A2j at *; omega) | (unfold reach at *; omega) | (unfold A8p at *; omega) | (simp only [A2j, reach, A8p] at *; omega)) (hd : A0s n dst = true := by rfl) : NvT tn pn P f R B n K ops fin i l dst (.binOp .add t x y t') ty σ Γ Ms := A3r (F1j hx hy h) hd k_
theorem D8m {t t' : TypeId} {a b : Int} (k_ : RgT P f R B n K ops l (A1u σ dst (.int .i64 (a - b))) Γ Ms) (hx : ev σ x = .int .i64 a := by exact wn_) (hy : ev σ y = .int .i64 b := by exact wn_) (h : A2j (a - b) := by unfold A2j; first | omega | (unfold A2j at *; omega) | (unfold reach at *; omega) | (unfold A8p at *; omega) | (simp only [A2j, reach, A8p] at *; omega)) (hd : A0s n dst = true := by rfl) : OpT P f R B n K ops l (opr dst (.binOp .sub t x y t') ty) σ Γ Ms := A1o (F6w hx hy h) hd k_
theorem G1q {t t' : TypeId} {a b : Int} (k_ : RgT P f R B n K ops l (A1u σ dst (.int .i64 (a * b))) Γ Ms) (hx : ev σ x = .int .i64 a := by exact wn_) (hy : ev σ y = .int .i64 b := by exact wn_) (h : A2j (a * b) := by unfold A2j; first | omega | (unfold A2j at *; omega) | (unfold reach at *; omega) | (unfold A8p at *; omega) | (simp only [A2j, reach, A8p] at *; omega)) (hd : A0s n dst = true := by rfl) : OpT P f R B n K ops l (opr dst (.binOp .mul t x y t') ty) σ Γ Ms := A1o (F6y hx hy h) hd k_
theorem F7n {t t' : TypeId} {k : IntKind} {a b : Int} (k_ : RgT P f R B n K ops l (A1u σ dst (.bool (decide (a < b)))) Γ Ms) (hx : ev σ x = .int k a := by exact wn_) (hy : ev σ y = .int k b := by exact wn_) (hd : A0s n dst = true := by rfl) : OpT P f R B n K ops l (opr dst (.binOp .lss t x y t') ty) σ Γ Ms := A1o (E2q hx hy) hd k_
theorem G0q {t t' : TypeId} {k : IntKind} {a b : Int} (k_ : NV tn pn P f R B n K ops fin l (A1u σ dst (.bool (decide (a < b)))) Γ Ms) (hx : ev σ x = .int k a := by exact wn_) (hy : ev σ y = .int k b := by exact wn_) (hd : A0s n dst = true := by rfl) : NvT tn pn P f R B n K ops fin i l dst (.binOp .lss t x y t') ty σ Γ Ms := A3r (E2q hx hy) hd k_
theorem G1s {t t' : TypeId} {k : IntKind} {a b : Int} (k_ : RgT P f R B n K ops l (A1u σ dst (.bool (decide (a ≤ b)))) Γ Ms) (hx : ev σ x = .int k a := by exact wn_) (hy : ev σ y = .int k b := by exact wn_) (hd : A0s n dst = true := by rfl) : OpT P f R B n K ops l (opr dst (.binOp .leq t x y t') ty) σ Γ Ms := A1o (F7a hx hy) hd k_
theorem F3t {t t' : TypeId} {k : IntKind} {a b : Int} (k_ : RgT P f R B n K ops l (A1u σ dst (.bool (decide (b < a)))) Γ Ms) (hx : ev σ x = .int k a := by exact wn_) (hy : ev σ y = .int k b := by exact wn_) (hd : A0s n dst = true := by rfl) : OpT P f R B n K ops l (opr dst (.binOp .gtr t x y t') ty) σ Γ Ms := A1o (F1i hx hy) hd k_
theorem G0s {t t' : TypeId} {k : IntKind} {a b : Int} (k_ : NV tn pn P f R B n K ops fin l (A1u σ dst (.bool (decide (b < a)))) Γ Ms) (hx : ev σ x = .int k a := by exact wn_) (hy : ev σ y = .int k b := by exact wn_) (hd : A0s n dst = true := by rfl) : NvT tn pn P f R B n K ops fin i l dst (.binOp .gtr t x y t') ty σ Γ Ms := A3r (F1i hx hy) hd k_
theorem F7s {t t' : TypeId} {k : IntKind} {a b : Int} (k_ : RgT P f R B n K ops l (A1u σ dst (.bool (decide (b ≤ a)))) Γ Ms) (hx : ev σ x = .int k a := by exact wn_) (hy : ev σ y = .int k b := by exact wn_) (hd : A0s n dst = true := by rfl) : OpT P f R B n K ops l (opr dst (.binOp .geq t x y t') ty) σ Γ Ms := A1o (F7c hx hy) hd k_
theorem C6l {t t' : TypeId} {k : IntKind} {a b : Int} (k_ : RgT P f R B n K ops l (A1u σ dst (.bool (decide (a = b)))) Γ Ms) (hx : ev σ x = .int k a := by exact wn_) (hy : ev σ y = .int k b := by exact wn_) (hd : A0s n dst = true := by rfl) : OpT P f R B n K ops l (opr dst (.binOp .eql t x y t') ty) σ Γ Ms := A1o (D5k hx hy) hd k_
theorem F5x {t t' : TypeId} {k : IntKind} {a b : Int} (k_ : NV tn pn P f R B n K ops fin l (A1u σ dst (.bool (decide (a = b)))) Γ Ms) (hx : ev σ x = .int k a := by exact wn_) (hy : ev σ y = .int k b := by exact wn_) (hd : A0s n dst = true := by rfl) : NvT tn pn P f R B n K ops fin i l dst (.binOp .eql t x y t') ty σ Γ Ms := A3r (D5k hx hy) hd k_
theorem D8n {t t' : TypeId} {k : IntKind} {a b : Int} (k_ : RgT P f R B n K ops l (A1u σ dst (.bool (decide (a ≠ b)))) Γ Ms) (hx : ev σ x = .int k a := by exact wn_) (hy : ev σ y = .int k b := by exact wn_) (hd : A0s n dst = true := by rfl) : OpT P f R B n K ops l (opr dst (.binOp .neq t x y t') ty) σ Γ Ms := A1o (F1f hx hy) hd k_
theorem E6p {t t' : TypeId} {k : IntKind} {a b : Int} (k_ : NV tn pn P f R B n K ops fin l (A1u σ dst (.bool (decide (a ≠ b)))) Γ Ms) (hx : ev σ x = .int k a := by exact wn_) (hy : ev σ y = .int k b := by exact wn_) (hd : A0s n dst = true := by rfl) : NvT tn pn P f R B n K ops fin i l dst (.binOp .neq t x y t') ty σ Γ Ms := A3r (F1f hx hy) hd k_
theorem E8f {t t' : TypeId} {s s' : ByteArray} (k_ : RgT P f R B n K ops l (A1u σ dst (.bool (!(s.toList == s'.toList)))) Γ Ms) (hx : ev σ x = .string s := by exact wn_) (hy : ev σ y = .string s' := by exact wn_) (hd : A0s n dst = true := by rfl) : OpT P f R B n K ops l (opr dst (.binOp .neq t x y t') ty) σ Γ Ms := A1o (F1e hx hy) hd k_
theorem F5t {t t' : TypeId} {s s' : ByteArray} (k_ : NV tn pn P f R B n K ops fin l (A1u σ dst (.bool (!(s.toList == s'.toList)))) Γ Ms) (hx : ev σ x = .string s := by exact wn_) (hy : ev σ y = .string s' := by exact wn_) (hd : A0s n dst = true := by rfl) : NvT tn pn P f R B n K ops fin i l dst (.binOp .neq t x y t') ty σ Γ Ms := A3r (F1e hx hy) hd k_
theorem F7m {t : TypeId} {c : Bool} (k_ : RgT P f R B n K ops l (A1u σ dst (.bool (!c))) Γ Ms) (hx : ev σ x = .bool c := by exact wn_) (hd : A0s n dst = true := by rfl) : OpT P f R B n K ops l (opr dst (.unOp .not t x) ty) σ Γ Ms := A1o (F1c hx) hd k_
theorem D7f {t : TypeId} {c : Bool} (k_ : NV tn pn P f R B n K ops fin l (A1u σ dst (.bool (!c))) Γ Ms) (hx : ev σ x = .bool c := by exact wn_) (hd : A0s n dst = true := by rfl) : NvT tn pn P f R B n K ops fin i l dst (.unOp .not t x) ty σ Γ Ms := A3r (F1c hx) hd k_
theorem E4a {vs : Array Value} {j : Nat} (k_ : RgT P f R B n K ops l (A1u σ dst v) Γ Ms) (hx : ev σ x = .tuple vs := by exact wn_) (hj : vs[j]? = some v := by exact wn_) (hd : A0s n dst = true := by rfl) : OpT P f R B n K ops l (opr dst (.extract x j) ty) σ Γ Ms := A1o (C3z hx hj) hd k_
theorem E0p {vs : Array Value} {j : Nat} (k_ : NV tn pn P f R B n K ops fin l (A1u σ dst v) Γ Ms) (hx : ev σ x = .tuple vs := by exact wn_) (hj : vs[j]? = some v := by exact wn_) (hd : A0s n dst = true := by rfl) : NvT tn pn P f R B n K ops fin i l dst (.extract x j) ty σ Γ Ms := A3r (C3z hx hj) hd k_
theorem E3z {fn : Fn} {cap : Array Operand} {vs : List Value} (k_ : RgT P f R B n K ops l (A1u σ dst (.func fn #[] vs.toArray)) Γ Ms) (h : cap.toList.map (ev σ) = vs := by first | exact G5g (by first | ((conv => lhs; whnf); done) | rfl) | exact G5f (by first | ((conv => lhs; whnf); done) | rfl) (by first | ((conv => lhs; whnf); done) | rfl) | exact G5e (by first | ((conv => lhs; whnf); done) | rfl) (by first | ((conv => lhs; whnf); done) | rfl) (by first | ((conv => lhs; whnf); done) | rfl) | exact G5d (by first | ((conv => lhs; whnf); done) | rfl) (by first | ((conv => lhs; whnf); done) | rfl) (by first | ((conv => lhs; whnf); done) | rfl) (by first | ((conv => lhs; whnf); done) | rfl) | rfl) (hd : A0s n dst = true := by rfl) : OpT P f R B n K ops l (opr dst (.makeFunc fn #[] cap) ty) σ Γ Ms := A1o (D2y h) hd k_
theorem D8o {ts : Array TypeId} {t e : TypeId} {A : Option Addr} {m c : Nat} (k_ : RgT P f R B n K ops l (A1u σ dst (.int .i64 (m : Int))) Γ Ms) (hx : ev σ x = .slice A m c := by exact wn_) (ht : ts[0]? = some t := by rfl) (hu : Tab.und P t = some (.slice e) := by rfl) (hd : A0s n dst = true := by rfl) : OpT P f R B n K ops l (opr dst (.call { callee := .builtin .len, args := #[x], argTypes := ts }) ty) σ Γ Ms := A1o (E2s ht hu hx) hd k_
theorem D7h {ts : Array TypeId} {t e : TypeId} {A : Option Addr} {m c : Nat} (k_ : NV tn pn P f R B n K ops fin l (A1u σ dst (.int .i64 (m : Int))) Γ Ms) (hx : ev σ x = .slice A m c := by exact wn_) (ht : ts[0]? = some t := by rfl) (hu : Tab.und P t = some (.slice e) := by rfl) (hd : A0s n dst = true := by rfl) : NvT tn pn P f R B n K ops fin i l dst (.call { callee := .builtin .len, args := #[x], argTypes := ts }) ty σ Γ Ms := A3r (E2s ht hu hx) hd k_
theorem B6q {ts : Array TypeId} {t : TypeId} {s : ByteArray} (k_ : RgT P f R B n K ops l (A1u σ dst (.int .i64 (s.size : Int))) Γ Ms) (hx : ev σ x = .string s := by exact wn_) (ht : ts[0]? = some t := by rfl) (hu : Tab.und P t = some .string := by rfl) (hd : A0s n dst = true := by rfl) : OpT P f R B n K ops l (opr dst (.call { callee := .builtin .len, args := #[x], argTypes := ts }) ty) σ Γ Ms := A1o (E2r ht hu hx) hd k_
theorem G1r {ts : Array TypeId} {a b : Int} (k_ : RgT P f R B n K ops l (A1u σ dst (.int .i64 (if b < a then b else a))) Γ Ms) (hx : ev σ x = .int .i64 a := by exact wn_) (hy : ev σ y = .int .i64 b := by exact wn_) (hd : A0s n dst = true := by rfl) : OpT P f R B n K ops l (opr dst (.call { callee := .builtin .min, args := #[x, y], argTypes := ts }) ty) σ Γ Ms := A1o (F6z hx hy) hd k_
theorem E0d {t : TypeId} {j bk off o : Nat} (k_ : RgT P f R B n K ops l (A1u σ dst (.pointer (some ⟨bk, off + o, none⟩))) Γ Ms) (hx : ev σ x = .pointer (some ⟨bk, off, none⟩) := by exact wn_) (hf : Tab.foff P t j = some o := by rfl) (hd : A0s n dst = true := by rfl) : OpT P f R B n K ops l (opr dst (.fieldAddr t x j) ty) σ Γ Ms := A1o (B9b hf hx) hd k_
theorem C0f {t : TypeId} {j bk off o : Nat} (k_ : NV tn pn P f R B n K ops fin l (A1u σ dst (.pointer (some ⟨bk, off + o, none⟩))) Γ Ms) (hx : ev σ x = .pointer (some ⟨bk, off, none⟩) := by exact wn_) (hf : Tab.foff P t j = some o := by rfl) (hd : A0s n dst = true := by rfl) : NvT tn pn P f R B n K ops fin i l dst (.fieldAddr t x j) ty σ Γ Ms := A3r (B9b hf hx) hd k_
theorem A1l {t : TypeId} {s bt : Nat} {zv : Value} {parts : Array (Nat × Operand)} {pv : List (Nat × Value)} {l' : List (Nat × Nat)} {cs : List Value} (k_ : RgT P f R B n K ops l (A1u σ dst (.agg cs.toArray)) Γ Ms) (hl : Tab.lay P t = some l' := by rfl) (hi : Tab.inf P t = some (s, bt, zv) := by rfl) (hp : parts.toList.map (fun (i, x) => (i, ev σ x)) = pv := by first | exact pv0  | exact pv1 (by first | ((conv => lhs; whnf); done) | rfl) | exact pv2 (by first | ((conv => lhs; whnf); done) | rfl) (by first | ((conv => lhs; whnf); done) | rfl) | exact pv3 (by first | ((conv => lhs; whnf); done) | rfl) (by first | ((conv => lhs; whnf); done) | rfl) (by first | ((conv => lhs; whnf); done) | rfl) | exact pv4 (by first | ((conv => lhs; whnf); done) | rfl) (by first | ((conv => lhs; whnf); done) | rfl) (by first | ((conv => lhs; whnf); done) | rfl) (by first | ((conv => lhs; whnf); done) | rfl) | exact pv5 (by first | ((conv => lhs; whnf); done) | rfl) (by first | ((conv => lhs; whnf); done) | rfl) (by first | ((conv => lhs; whnf); done) | rfl) (by first | ((conv => lhs; whnf); done) | rfl) (by first | ((conv => lhs; whnf); done) | rfl) | exact pv6 (by first | ((conv => lhs; whnf); done) | rfl) (by first | ((conv => lhs; whnf); done) | rfl) (by first | ((conv => lhs; whnf); done) | rfl) (by first | ((conv => lhs; whnf); done) | rfl) (by first | ((conv => lhs; whnf); done) | rfl) (by first | ((conv => lhs; whnf); done) | rfl) | rfl) (hb : Instr.fill (l'.toArray[·]?) zv.cells pv = some cs.toArray := by rfl) (hd : A0s n dst = true := by rfl) : OpT P f R B n K ops l (opr dst (.build t parts) ty) σ Γ Ms := A1o (D5l hl hi hp hb) hd k_
theorem A8s {t : TypeId} {s bt : Nat} {zv : Value} {parts : Array (Nat × Operand)} {pv : List (Nat × Value)} {l' : List (Nat × Nat)} {cs : List Value} (k_ : NV tn pn P f R B n K ops fin l (A1u σ dst (.agg cs.toArray)) Γ Ms) (hl : Tab.lay P t = some l' := by rfl) (hi : Tab.inf P t = some (s, bt, zv) := by rfl) (hp : parts.toList.map (fun (i, x) => (i, ev σ x)) = pv := by first | exact pv0  | exact pv1 (by first | ((conv => lhs; whnf); done) | rfl) | exact pv2 (by first | ((conv => lhs; whnf); done) | rfl) (by first | ((conv => lhs; whnf); done) | rfl) | exact pv3 (by first | ((conv => lhs; whnf); done) | rfl) (by first | ((conv => lhs; whnf); done) | rfl) (by first | ((conv => lhs; whnf); done) | rfl) | exact pv4 (by first | ((conv => lhs; whnf); done) | rfl) (by first | ((conv => lhs; whnf); done) | rfl) (by first | ((conv => lhs; whnf); done) | rfl) (by first | ((conv => lhs; whnf); done) | rfl) | exact pv5 (by first | ((conv => lhs; whnf); done) | rfl) (by first | ((conv => lhs; whnf); done) | rfl) (by first | ((conv => lhs; whnf); done) | rfl) (by first | ((conv => lhs; whnf); done) | rfl) (by first | ((conv => lhs; whnf); done) | rfl) | exact pv6 (by first | ((conv => lhs; whnf); done) | rfl) (by first | ((conv => lhs; whnf); done) | rfl) (by first | ((conv => lhs; whnf); done) | rfl) (by first | ((conv => lhs; whnf); done) | rfl) (by first | ((conv => lhs; whnf); done) | rfl) (by first | ((conv => lhs; whnf); done) | rfl) | rfl) (hb : Instr.fill (l'.toArray[·]?) zv.cells pv = some cs.toArray := by rfl) (hd : A0s n dst = true := by rfl) : NvT tn pn P f R B n K ops fin i l dst (.build t parts) ty σ Γ Ms := A3r (D5l hl hi hp hb) hd k_
theorem A4o {t e : TypeId} {s bt bk o m c j : Nat} {zv : Value} {A : Option Addr} (k_ : RgT P f R B n K ops l (A1u σ dst (.pointer (some ⟨bk, o + j * s, none⟩))) Γ Ms) (hx : ev σ x = .slice A m c := by exact wn_) (hA : A = some ⟨bk, o, none⟩ := by first | assumption | rfl) (hy : ev σ y = .int .i64 (j : Int) := by exact wn_) (hu : Tab.und P t = some (.slice e) := by rfl) (hi : Tab.inf P e = some (s, bt, zv) := by rfl) (h1 : j < m := by omega) (hd : A0s n dst = true := by rfl) : OpT P f R B n K ops l (opr dst (.indexAddr t x y) ty) σ Γ Ms := A1o (F1h hu hi hx hA hy h1) hd k_
theorem A7x {t e : TypeId} {s bt bk o m c j : Nat} {zv : Value} {A : Option Addr} (k_ : NV tn pn P f R B n K ops fin l (A1u σ dst (.pointer (some ⟨bk, o + j * s, none⟩))) Γ Ms) (hx : ev σ x = .slice A m c := by exact wn_) (hA : A = some ⟨bk, o, none⟩ := by first | assumption | rfl) (hy : ev σ y = .int .i64 (j : Int) := by exact wn_) (hu : Tab.und P t = some (.slice e) := by rfl) (hi : Tab.inf P e = some (s, bt, zv) := by rfl) (h1 : j < m := by omega) (hd : A0s n dst = true := by rfl) : NvT tn pn P f R B n K ops fin i l dst (.indexAddr t x y) ty σ Γ Ms := A3r (F1h hu hi hx hA hy h1) hd k_
theorem F3v {t t' e : TypeId} {A : Option Addr} {m c : Nat} (k_ : RgT P f R B n K ops l (A1u σ dst (.bool A.isNone)) Γ Ms) (hx : ev σ x = .slice A m c := by exact wn_) (hy : ev σ y = .slice none 0 0 := by rfl) (hu : Tab.und P t = some (.slice e) := by rfl) (hd : A0s n dst = true := by rfl) : OpT P f R B n K ops l (opr dst (.binOp .eql t x y t') ty) σ Γ Ms := A1o (D2x hu hx hy) hd k_
theorem E8j {t e : TypeId} {m s bt s' bt' : Nat} {zv zv' : Value} {parts : Array (Nat × Operand)} {pv : List (Nat × Value)} {cs : List Value} (k_ : RgT P f R B n K ops l (A1u σ dst (.agg cs.toArray)) Γ Ms) (hu : Tab.und P t = some (.array m e) := by rfl) (hi : Tab.inf P t = some (s, bt, zv) := by rfl) (he : Tab.inf P e = some (s', bt', zv') := by rfl) (hp : parts.toList.map (fun (i, x) => (i, ev σ x)) = pv := by first | exact pv0  | exact pv1 (by first | ((conv => lhs; whnf); done) | rfl) | exact pv2 (by first | ((conv => lhs; whnf); done) | rfl) (by first | ((conv => lhs; whnf); done) | rfl) | exact pv3 (by first | ((conv => lhs; whnf); done) | rfl) (by first | ((conv => lhs; whnf); done) | rfl) (by first | ((conv => lhs; whnf); done) | rfl) | exact pv4 (by first | ((conv => lhs; whnf); done) | rfl) (by first | ((conv => lhs; whnf); done) | rfl) (by first | ((conv => lhs; whnf); done) | rfl) (by first | ((conv => lhs; whnf); done) | rfl) | exact pv5 (by first | ((conv => lhs; whnf); done) | rfl) (by first | ((conv => lhs; whnf); done) | rfl) (by first | ((conv => lhs; whnf); done) | rfl) (by first | ((conv => lhs; whnf); done) | rfl) (by first | ((conv => lhs; whnf); done) | rfl) | exact pv6 (by first | ((conv => lhs; whnf); done) | rfl) (by first | ((conv => lhs; whnf); done) | rfl) (by first | ((conv => lhs; whnf); done) | rfl) (by first | ((conv => lhs; whnf); done) | rfl) (by first | ((conv => lhs; whnf); done) | rfl) (by first | ((conv => lhs; whnf); done) | rfl) | rfl) (hb : Instr.fill (fun i => some (i * s', s')) zv.cells pv = some cs.toArray := by rfl) (hd : A0s n dst = true := by rfl) : OpT P f R B n K ops l (opr dst (.build t parts) ty) σ Γ Ms := A1o (E2z hu hi he hp hb) hd k_
theorem G1w {t e : TypeId} {s bt b o m : Nat} {zv : Value} {j : Int} (k_ : RgT P f R B n K ops l (A1u σ dst (.pointer (some ⟨b, o + j.toNat * s, none⟩))) Γ Ms) (hx : ev σ x = .pointer (some ⟨b, o, none⟩) := by exact wn_) (hy : ev σ y = .int .i64 j := by exact wn_) (hu : Tab.und P t = some (.array m e) := by rfl) (hi : Tab.inf P e = some (s, bt, zv) := by rfl) (h0 : 0 ≤ j := by omega) (h1 : j < m := by omega) (hd : A0s n dst = true := by rfl) : OpT P f R B n K ops l (opr dst (.indexAddr t x y) ty) σ Γ Ms := A1o (F7b hu hi hx hy h0 h1) hd k_
theorem F1p {t t' : TypeId} {a b : Int} (k_ : RgT P f R B n K ops l (A1u σ dst (.int .i64 (IntKind.i64.wrap (a + b)))) Γ Ms) (hx : ev σ x = .int .i64 a := by exact wn_) (hy : ev σ y = .int .i64 b := by exact wn_) (hd : A0s n dst = true := by rfl) : OpT P f R B n K ops l (opr dst (.binOp .add t x y t') ty) σ Γ Ms := A1o (F3k hx hy) hd k_
theorem A9f {t t' : TypeId} {a b : Nat} (k_ : RgT P f R B n K ops l (A1u σ dst (.int .u32 ((a &&& b : Nat) : Int))) Γ Ms) (hx : ev σ x = .int .u32 (a : Int) := by exact wn_) (hy : ev σ y = .int .u32 (b : Int) := by exact wn_) (ha : a < 4294967296 := by first | assumption | omega) (hb : b < 4294967296 := by first | assumption | omega) (hd : A0s n dst = true := by rfl) : OpT P f R B n K ops l (opr dst (.binOp .and t x y t') ty) σ Γ Ms := A1o (E3a hx hy ha hb) hd k_
theorem C5o {t t' : TypeId} {a b : Nat} (k_ : NV tn pn P f R B n K ops fin l (A1u σ dst (.int .u32 ((a &&& b : Nat) : Int))) Γ Ms) (hx : ev σ x = .int .u32 (a : Int) := by exact wn_) (hy : ev σ y = .int .u32 (b : Int) := by exact wn_) (ha : a < 4294967296 := by first | assumption | omega) (hb : b < 4294967296 := by first | assumption | omega) (hd : A0s n dst = true := by rfl) : NvT tn pn P f R B n K ops fin i l dst (.binOp .and t x y t') ty σ Γ Ms := A3r (E3a hx hy ha hb) hd k_
theorem B2k {t t' : TypeId} {a b : Nat} (k_ : RgT P f R B n K ops l (A1u σ dst (.int .u32 ((a ||| b : Nat) : Int))) Γ Ms) (hx : ev σ x = .int .u32 (a : Int) := by exact wn_) (hy : ev σ y = .int .u32 (b : Int) := by exact wn_) (ha : a < 4294967296 := by first | assumption | omega) (hb : b < 4294967296 := by first | assumption | omega) (hd : A0s n dst = true := by rfl) : OpT P f R B n K ops l (opr dst (.binOp .or t x y t') ty) σ Γ Ms := A1o (F6x hx hy ha hb) hd k_
theorem B5m {t t' : TypeId} {a b : Nat} (k_ : RgT P f R B n K ops l (A1u σ dst (.int .u32 (A1f a b : Int))) Γ Ms) (hx : ev σ x = .int .u32 (a : Int) := by exact wn_) (hy : ev σ y = .int .u32 (b : Int) := by exact wn_) (hd : A0s n dst = true := by rfl) : OpT P f R B n K ops l (opr dst (.binOp .andNot t x y t') ty) σ Γ Ms := A1o (D8i hx hy) hd k_
theorem C6k {t t' : TypeId} {k2 : IntKind} {a m : Nat} (k_ : RgT P f R B n K ops l (A1u σ dst (.int .u32 ((a * 2 ^ (min m 32) % 4294967296 : Nat) : Int))) Γ Ms) (hx : ev σ x = .int .u32 (a : Int) := by exact wn_) (hy : ev σ y = .int k2 (m : Int) := by exact wn_) (hd : A0s n dst = true := by rfl) : OpT P f R B n K ops l (opr dst (.binOp .shl t x y t') ty) σ Γ Ms := A1o (F3g hx hy) hd k_
theorem C6j {t t' : TypeId} {k2 : IntKind} {a m : Nat} (k_ : RgT P f R B n K ops l (A1u σ dst (.int .u32 ((a / 2 ^ (min m 32) : Nat) : Int))) Γ Ms) (hx : ev σ x = .int .u32 (a : Int) := by exact wn_) (hy : ev σ y = .int k2 (m : Int) := by exact wn_) (hd : A0s n dst = true := by rfl) : OpT P f R B n K ops l (opr dst (.binOp .shr t x y t') ty) σ Γ Ms := A1o (E2o hx hy) hd k_
theorem C5m {t t' : TypeId} {k2 : IntKind} {a m : Nat} (k_ : NV tn pn P f R B n K ops fin l (A1u σ dst (.int .u32 ((a / 2 ^ (min m 32) : Nat) : Int))) Γ Ms) (hx : ev σ x = .int .u32 (a : Int) := by exact wn_) (hy : ev σ y = .int k2 (m : Int) := by exact wn_) (hd : A0s n dst = true := by rfl) : NvT tn pn P f R B n K ops fin i l dst (.binOp .shr t x y t') ty σ Γ Ms := A3r (E2o hx hy) hd k_
theorem G0t {t t' : TypeId} {c c' : Cl} (k_ : NV tn pn P f R B n K ops fin l (A1u σ dst (.bool (decide (c = c')))) Γ Ms) (hx : ev σ x = .agg (A0r c).toArray := by exact wn_) (hy : ev σ y = .agg (A0r c').toArray := by exact wn_) (ht : t = Tab.ceq P := by rfl) (hd : A0s n dst = true := by rfl) : NvT tn pn P f R B n K ops fin i l dst (.binOp .eql t x y t') ty σ Γ Ms := A3r (F7d ht hx hy) hd k_
theorem G1p {t t' : TypeId} {c c' : Cl} (k_ : RgT P f R B n K ops l (A1u σ dst (.bool (!decide (c = c')))) Γ Ms) (hx : ev σ x = .agg (A0r c).toArray := by exact wn_) (hy : ev σ y = .agg (A0r c').toArray := by exact wn_) (ht : t = Tab.ceq P := by rfl) (hd : A0s n dst = true := by rfl) : OpT P f R B n K ops l (opr dst (.binOp .neq t x y t') ty) σ Γ Ms := A1o (F1g ht hx hy) hd k_
theorem E6q {t t' : TypeId} {c c' : Cl} (k_ : NV tn pn P f R B n K ops fin l (A1u σ dst (.bool (!decide (c = c')))) Γ Ms) (hx : ev σ x = .agg (A0r c).toArray := by exact wn_) (hy : ev σ y = .agg (A0r c').toArray := by exact wn_) (ht : t = Tab.ceq P := by rfl) (hd : A0s n dst = true := by rfl) : NvT tn pn P f R B n K ops fin i l dst (.binOp .neq t x y t') ty σ Γ Ms := A3r (F1g ht hx hy) hd k_
theorem F7l {t t' : TypeId} {a b : Nat} (k_ : RgT P f R B n K ops l (A1u σ dst (.int .i64 ((a / b : Nat) : Int))) Γ Ms) (hx : ev σ x = .int .i64 (a : Int) := by exact wn_) (hy : ev σ y = .int .i64 (b : Int) := by exact wn_) (ha : a < 9223372036854775808 := by omega) (hb : 0 < b := by first | omega | exact Nat.pow_pos (by omega)) (hd : A0s n dst = true := by rfl) : OpT P f R B n K ops l (opr dst (.binOp .quo t x y t') ty) σ Γ Ms := A1o (F3j hx hy ha hb) hd k_
theorem F7k {t t' : TypeId} {a b : Nat} (k_ : RgT P f R B n K ops l (A1u σ dst (.int .i64 ((a % b : Nat) : Int))) Γ Ms) (hx : ev σ x = .int .i64 (a : Int) := by exact wn_) (hy : ev σ y = .int .i64 (b : Int) := by exact wn_) (hb : 0 < b := by omega) (hd : A0s n dst = true := by rfl) : OpT P f R B n K ops l (opr dst (.binOp .rem t x y t') ty) σ Γ Ms := A1o (F3i hx hy hb) hd k_
theorem E3y {t : TypeId} {s : ByteArray} {j : Int} {c : UInt8} (k_ : RgT P f R B n K ops l (A1u σ dst (.int .u8 c.toNat)) Γ Ms) (hx : ev σ x = .string s := by exact wn_) (hy : ev σ y = .int .i64 j := by exact wn_) (hu : Tab.und P t = some .string := by rfl) (h0 : 0 ≤ j := by omega) (hc : s[j.toNat]? = some c := by assumption) (hd : A0s n dst = true := by rfl) : OpT P f R B n K ops l (opr dst (.index t x y) ty) σ Γ Ms := A1o (D2z hu hx hy h0 hc) hd k_
theorem F7t {s d : TypeId} {k k' : IntKind} {ds : TypeDesc} {a : Int} (k_ : RgT P f R B n K ops l (A1u σ dst (.int k' (k'.wrap a))) Γ Ms) (hx : ev σ x = .int k a := by exact wn_) (hs : Tab.und P s = some ds := by rfl) (hd' : Tab.und P d = some (.int k') := by rfl) (hd : A0s n dst = true := by rfl) : OpT P f R B n K ops l (opr dst (.convert s d x) ty) σ Γ Ms := A1o (A8v hs hd' hx) hd k_
theorem G0k {t T' : TypeId} {bk k : Nat} {cs : List Value} {d : TypeDesc} (k_ : RgT P f R B n K ops l (A1u σ dst v) Γ Ms) (hx : ev σ x = .pointer (some ⟨bk, k, none⟩) := by exact wn_) (hF : A1t bk cs T' ∈ Ms := by repeat (first | exact List.mem_cons_self | apply List.mem_cons_of_mem)) (hu : Tab.und P t = some d := by rfl) (hd' : (match d with | .struct _ | .array _ _ => true | _ => false) = false := by rfl) (hk : cs[k]? = some v := by exact wn_) (hd : A0s n dst = true := by rfl) : OpT P f R B n K ops l (opr dst (.load t x) ty) σ Γ Ms := A8b (F1u hx hF hu hd' hk) hd k_
theorem G4g {t T' : TypeId} {bk k : Nat} {cs : List Value} {d : TypeDesc} (k_ : NV false pn P f R B n K ops fin l (A1u σ dst v) Γ Ms) (hx : ev σ x = .pointer (some ⟨bk, k, none⟩) := by exact wn_) (hF : A1t bk cs T' ∈ Ms := by repeat (first | exact List.mem_cons_self | apply List.mem_cons_of_mem)) (hu : Tab.und P t = some d := by rfl) (hd' : (match d with | .struct _ | .array _ _ => true | _ => false) = false := by rfl) (hk : cs[k]? = some v := by exact wn_) (hd : A0s n dst = true := by rfl) : NvT false pn P f R B n K ops fin i l dst (.load t x) ty σ Γ Ms := B8a (F1u hx hF hu hd' hk) rfl hd k_
theorem C2x {t T' : TypeId} {bk k : Nat} {cs : List Value} {l' : List (Nat × Nat)} {s bt : Nat} {zv : Value} {cs' : List Value} (k_ : RgT P f R B n K ops l (A1u σ dst (.agg cs'.toArray)) Γ Ms) (hx : ev σ x = .pointer (some ⟨bk, k, none⟩) := by exact wn_) (hF : A1t bk cs T' ∈ Ms := by repeat (first | exact List.mem_cons_self | apply List.mem_cons_of_mem)) (hu : Tab.lay P t = some l' := by rfl) (hi : Tab.inf P t = some (s, bt, zv) := by rfl) (hk : (cs.drop k).take s = cs' := by rfl) (hl : cs'.length = s := by rfl) (hd : A0s n dst = true := by rfl) : OpT P f R B n K ops l (opr dst (.load t x) ty) σ Γ Ms := A8b (F1v hx hF hu hi hk hl) hd k_
theorem F5v {t T' : TypeId} {bk k : Nat} {cs : List Value} {l' : List (Nat × Nat)} {s bt : Nat} {zv : Value} {cs' : List Value} (k_ : NV false pn P f R B n K ops fin l (A1u σ dst (.agg cs'.toArray)) Γ Ms) (hx : ev σ x = .pointer (some ⟨bk, k, none⟩) := by exact wn_) (hF : A1t bk cs T' ∈ Ms := by repeat (first | exact List.mem_cons_self | apply List.mem_cons_of_mem)) (hu : Tab.lay P t = some l' := by rfl) (hi : Tab.inf P t = some (s, bt, zv) := by rfl) (hk : (cs.drop k).take s = cs' := by rfl) (hl : cs'.length = s := by rfl) (hd : A0s n dst = true := by rfl) : NvT false pn P f R B n K ops fin i l dst (.load t x) ty σ Γ Ms := B8a (F1v hx hF hu hi hk hl) rfl hd k_
theorem G1v {t : TypeId} {l' : List (Nat × Nat)} {bt bk o i' : Nat} {a : SH} {zv : Value} {ls : List Cl} (k_ : RgT P f R B n K ops l (A1u σ dst (.agg (A0r (ls.getD i' cl0)).toArray)) Γ Ms) (hx : ev σ x = .pointer (some ⟨bk, o + i' * 2, none⟩) := by exact wn_) (hFa : CL ls a ∈ Γ ∧ a.1 = some ⟨bk, o, none⟩ := by exact ma0_) (hu : Tab.lay P t = some l' := by rfl) (hi : Tab.inf P t = some (2, bt, zv) := by rfl) (hlt : i' < ls.length := by omega) (hd : A0s n dst = true := by rfl) : OpT P f R B n K ops l (opr dst (.load t x) ty) σ Γ Ms := A8b (F4h hx hFa.1 hFa.2 hu hi hlt) hd k_
theorem D7i {t : TypeId} {l' : List (Nat × Nat)} {bt bk o i' : Nat} {a : SH} {zv : Value} {ls : List Cl} (k_ : NV false pn P f R B n K ops fin l (A1u σ dst (.agg (A0r (ls.getD i' cl0)).toArray)) Γ Ms) (hx : ev σ x = .pointer (some ⟨bk, o + i' * 2, none⟩) := by exact wn_) (hFa : CL ls a ∈ Γ ∧ a.1 = some ⟨bk, o, none⟩ := by exact ma0_) (hu : Tab.lay P t = some l' := by rfl) (hi : Tab.inf P t = some (2, bt, zv) := by rfl) (hlt : i' < ls.length := by omega) (hd : A0s n dst = true := by rfl) : NvT false pn P f R B n K ops fin i l dst (.load t x) ty σ Γ Ms := B8a (F4h hx hFa.1 hFa.2 hu hi hlt) rfl hd k_
theorem G3w {t : TypeId} {l' : List (Nat × Nat)} {bt bk o i' : Nat} {a : SH} {zv : Value} {ls : List Cl} (k_ : NV tn pn P f R B n K ops fin l (A1u σ dst (.agg (A0r (ls.getD i' cl0)).toArray)) Γ Ms) (hx : ev σ x = .pointer (some ⟨bk, o + i' * 2, none⟩) := by exact wn_) (hFa : CL ls a ∈ Γ ∧ a.1 = some ⟨bk, o, none⟩ := by exact ma0_) (hu : Tab.lay P t = some l' := by rfl) (hi : Tab.inf P t = some (2, bt, zv) := by rfl) (hlt : i' < ls.length := by omega) (hd : A0s n dst = true := by rfl) : NvT tn pn P f R B n K ops fin i l dst (.load t x) ty σ Γ Ms := D5x (F4h hx hFa.1 hFa.2 hu hi hlt) rfl hd k_
theorem F1o {t : TypeId} {d : TypeDesc} {bk o i' k : Nat} {a : SH} {ls : List Cl} (k_ : RgT P f R B n K ops l (A1u σ dst v) Γ Ms) (hx : ev σ x = .pointer (some ⟨bk, o + i' * 2 + k, none⟩) := by exact wn_) (hFa : CL ls a ∈ Γ ∧ a.1 = some ⟨bk, o, none⟩ := by exact ma0_) (hu : Tab.und P t = some d := by rfl) (hd' : (match d with | .struct _ | .array _ _ => true | _ => false) = false := by rfl) (hk : (A0r (ls.getD i' cl0))[k]? = some v := by exact wn_) (hlt : i' < ls.length := by omega) (hd : A0s n dst = true := by rfl) : OpT P f R B n K ops l (opr dst (.load t x) ty) σ Γ Ms := A8b (F8e hx hFa.1 hFa.2 hu hd' hk hlt) hd k_
theorem G1u {t : TypeId} {l' : List (Nat × Nat)} {bt bk o i' : Nat} {a : SH} {zv : Value} {ts : List T} {VR VK VS : Nat → SH} (k_ : RgT P f R B n K ops l (A1u σ dst (.agg (tc (ts.getD i' t0) (VR i') (VK i') (VS i')).toArray)) Γ Ms) (hx : ev σ x = .pointer (some ⟨bk, o + i' * 6, none⟩) := by exact wn_) (hFa : TLx ts a VR VK VS ∈ Γ ∧ a.1 = some ⟨bk, o, none⟩ := by exact ma0_) (hu : Tab.lay P t = some l' := by rfl) (hi : Tab.inf P t = some (6, bt, zv) := by rfl) (hlt : i' < ts.length := by omega) (hd : A0s n dst = true := by rfl) : OpT P f R B n K ops l (opr dst (.load t x) ty) σ Γ Ms := A8b (E4n hx hFa.1 hFa.2 hu hi hlt) hd k_
theorem G0r {t : TypeId} {l' : List (Nat × Nat)} {bt bk o i' : Nat} {a : SH} {zv : Value} {ts : List T} {VR VK VS : Nat → SH} (k_ : NV false pn P f R B n K ops fin l (A1u σ dst (.agg (tc (ts.getD i' t0) (VR i') (VK i') (VS i')).toArray)) Γ Ms) (hx : ev σ x = .pointer (some ⟨bk, o + i' * 6, none⟩) := by exact wn_) (hFa : TLx ts a VR VK VS ∈ Γ ∧ a.1 = some ⟨bk, o, none⟩ := by exact ma0_) (hu : Tab.lay P t = some l' := by rfl) (hi : Tab.inf P t = some (6, bt, zv) := by rfl) (hlt : i' < ts.length := by omega) (hd : A0s n dst = true := by rfl) : NvT false pn P f R B n K ops fin i l dst (.load t x) ty σ Γ Ms := B8a (E4n hx hFa.1 hFa.2 hu hi hlt) rfl hd k_
theorem E3x {t : TypeId} {l' : List (Nat × Nat)} {bt bk o i' : Nat} {a : SH} {zv : Value} {bs : List Br} {VF VK : Nat → SH} (k_ : RgT P f R B n K ops l (A1u σ dst (.agg (bc (bs.getD i' br0) (VF i') (VK i')).toArray)) Γ Ms) (hx : ev σ x = .pointer (some ⟨bk, o + i' * 2, none⟩) := by exact wn_) (hFa : BLx bs a VF VK ∈ Γ ∧ a.1 = some ⟨bk, o, none⟩ := by exact ma0_) (hu : Tab.lay P t = some l' := by rfl) (hi : Tab.inf P t = some (2, bt, zv) := by rfl) (hlt : i' < bs.length := by omega) (hd : A0s n dst = true := by rfl) : OpT P f R B n K ops l (opr dst (.load t x) ty) σ Γ Ms := A8b (G2i hx hFa.1 hFa.2 hu hi hlt) hd k_
theorem F7r {t : TypeId} {d : TypeDesc} {bk o i' k : Nat} {a : SH} {bs : List Br} {VF VK : Nat → SH} (k_ : RgT P f R B n K ops l (A1u σ dst v) Γ Ms) (hx : ev σ x = .pointer (some ⟨bk, o + i' * 2 + k, none⟩) := by exact wn_) (hFa : BLx bs a VF VK ∈ Γ ∧ a.1 = some ⟨bk, o, none⟩ := by exact ma0_) (hu : Tab.und P t = some d := by rfl) (hd' : (match d with | .struct _ | .array _ _ => true | _ => false) = false := by rfl) (hk : (bc (bs.getD i' br0) (VF i') (VK i'))[k]? = some v := by exact wn_) (hlt : i' < bs.length := by omega) (hd : A0s n dst = true := by rfl) : OpT P f R B n K ops l (opr dst (.load t x) ty) σ Γ Ms := A8b (F1t hx hFa.1 hFa.2 hu hd' hk hlt) hd k_
theorem C3h {t : TypeId} {d : TypeDesc} {bk o i' k : Nat} {a : SH} {bs : List Br} {VF VK : Nat → SH} (k_ : NV false pn P f R B n K ops fin l (A1u σ dst v) Γ Ms) (hx : ev σ x = .pointer (some ⟨bk, o + i' * 2 + k, none⟩) := by exact wn_) (hFa : BLx bs a VF VK ∈ Γ ∧ a.1 = some ⟨bk, o, none⟩ := by exact ma0_) (hu : Tab.und P t = some d := by rfl) (hd' : (match d with | .struct _ | .array _ _ => true | _ => false) = false := by rfl) (hk : (bc (bs.getD i' br0) (VF i') (VK i'))[k]? = some v := by exact wn_) (hlt : i' < bs.length := by omega) (hd : A0s n dst = true := by rfl) : NvT false pn P f R B n K ops fin i l dst (.load t x) ty σ Γ Ms := B8a (F1t hx hFa.1 hFa.2 hu hd' hk hlt) rfl hd k_
theorem A2c {t : TypeId} {cs : List Value} (k_ : ∀ b, RgT P f R B n K ops l (A1u σ dst ((fun b => .pointer (some ⟨b, 0, none⟩)) b)) Γ (A1t b cs t :: Ms)) (hx : (ev σ x).cells = cs.toArray := by rfl) (hd : A0s n dst = true := by rfl) : OpT P f R B n K ops l (opr dst (.box t x) ty) σ Γ Ms := B6i (G0i hx) hd k_
theorem A2s {t : TypeId} {s bt : Nat} {zv : Value} {cs : List Value} (k_ : ∀ b, RgT P f R B n K ops l (A1u σ dst ((fun b => .pointer (some ⟨b, 0, none⟩)) b)) Γ (A1t b cs t :: Ms)) (hi : Tab.inf P t = some (s, bt, zv) := by rfl) (hz : zv.cells = cs.toArray := by rfl) (hd : A0s n dst = true := by rfl) : OpT P f R B n K ops l (opr dst (.alloc t) ty) σ Γ Ms := B6i (D7b hi hz) hd k_
theorem D7g {t : TypeId} {s bt : Nat} {zv : Value} {cs : List Value} (k_ : ∀ b, NV tn pn P f R B n K ops fin l (A1u σ dst ((fun b => .pointer (some ⟨b, 0, none⟩)) b)) Γ (A1t b cs t :: Ms)) (hi : Tab.inf P t = some (s, bt, zv) := by rfl) (hz : zv.cells = cs.toArray := by rfl) (hd : A0s n dst = true := by rfl) : NvT tn pn P f R B n K ops fin i l dst (.alloc t) ty σ Γ Ms := B9y (D7b hi hz) rfl hd k_
theorem A3g {t e : TypeId} {sz bt : Nat} {zv : Value} {cs : List Value} (k_ : ∀ b, RgT P f R B n K ops l (A1u σ dst ((fun b => .slice (some ⟨b, 0, none⟩) 1 1) b)) Γ (A1t b cs e :: Ms)) (hu : Tab.und P t = some (.slice e) := by rfl) (hi : Tab.inf P e = some (sz, bt, zv) := by rfl) (hle : sz ≤ 16777216 := by decide) (hx : (ev σ x).cells = cs.toArray := by rfl) (hl : cs.length = sz := by rfl) (hd : A0s n dst = true := by rfl) : OpT P f R B n K ops l (opr dst (.buildSlice t 1 #[(0, x)]) ty) σ Γ Ms := B6i (D4j hu hi hle hx hl) hd k_
theorem B2x {t e : TypeId} {sz bt : Nat} {zv : Value} {cs : List Value} (k_ : ∀ b, NV tn pn P f R B n K ops fin l (A1u σ dst ((fun b => .slice (some ⟨b, 0, none⟩) 1 1) b)) Γ (A1t b cs e :: Ms)) (hu : Tab.und P t = some (.slice e) := by rfl) (hi : Tab.inf P e = some (sz, bt, zv) := by rfl) (hle : sz ≤ 16777216 := by decide) (hx : (ev σ x).cells = cs.toArray := by rfl) (hl : cs.length = sz := by rfl) (hd : A0s n dst = true := by rfl) : NvT tn pn P f R B n K ops fin i l dst (.buildSlice t 1 #[(0, x)]) ty σ Γ Ms := B9y (D4j hu hi hle hx hl) rfl hd k_
theorem F5r {t e : TypeId} {sz bt : Nat} {zv : Value} {cs : List Value} (F : Nat → List Fact) (hF : ∀ b M w, St B Γ (A1t b cs e :: M) w → St B (F b ++ Γ) M w) (k_ : ∀ b, NV tn pn P f R B n K ops fin l (A1u σ dst ((fun b => .slice (some ⟨b, 0, none⟩) 1 1) b)) (F b ++ Γ) Ms) (hu : Tab.und P t = some (.slice e) := by rfl) (hi : Tab.inf P e = some (sz, bt, zv) := by rfl) (hle : sz ≤ 16777216 := by decide) (hx : (ev σ x).cells = cs.toArray := by rfl) (hl : cs.length = sz := by rfl) (hd : A0s n dst = true := by rfl) (hz : Nat.beq pn 1000001 = true := by rfl) : NvT tn pn P f R B n K ops fin i l dst (.buildSlice t 1 #[(0, x)]) ty σ Γ Ms := E4d F (D4j hu hi hle hx hl) rfl rfl hF hd hz k_
theorem E3v {t e : TypeId} {sz bt : Nat} {zv : Value} {cs cs2 : List Value} (k_ : ∀ b, RgT P f R B n K ops l (A1u σ dst ((fun b => .slice (some ⟨b, 0, none⟩) 2 2) b)) Γ (A1t b (cs ++ cs2) e :: Ms)) (hu : Tab.und P t = some (.slice e) := by rfl) (hi : Tab.inf P e = some (sz, bt, zv) := by rfl) (hle : 2 * sz ≤ 16777216 := by decide) (hx : (ev σ x).cells = cs.toArray := by rfl) (hy : (ev σ y).cells = cs2.toArray := by rfl) (hl : cs.length = sz := by rfl) (hl2 : cs2.length = sz := by rfl) (hd : A0s n dst = true := by rfl) : OpT P f R B n K ops l (opr dst (.buildSlice t 2 #[(0, x), (1, y)]) ty) σ Γ Ms := B6i (E6e hu hi hle hx hy hl hl2) hd k_
theorem F5u {t e : TypeId} {sz bt : Nat} {zv : Value} {cs cs2 : List Value} (k_ : ∀ b, NV tn pn P f R B n K ops fin l (A1u σ dst ((fun b => .slice (some ⟨b, 0, none⟩) 2 2) b)) Γ (A1t b (cs ++ cs2) e :: Ms)) (hu : Tab.und P t = some (.slice e) := by rfl) (hi : Tab.inf P e = some (sz, bt, zv) := by rfl) (hle : 2 * sz ≤ 16777216 := by decide) (hx : (ev σ x).cells = cs.toArray := by rfl) (hy : (ev σ y).cells = cs2.toArray := by rfl) (hl : cs.length = sz := by rfl) (hl2 : cs2.length = sz := by rfl) (hd : A0s n dst = true := by rfl) : NvT tn pn P f R B n K ops fin i l dst (.buildSlice t 2 #[(0, x), (1, y)]) ty σ Γ Ms := B9y (E6e hu hi hle hx hy hl hl2) rfl hd k_
theorem C4g {t e : TypeId} {sz bt : Nat} {zv : Value} (k_ : ∀ b, RgT P f R B n K ops l (A1u σ dst ((fun b => .slice (some ⟨b, 0, none⟩) 0 0) b)) Γ (A1t b [] e :: Ms)) (hu : Tab.und P t = some (.slice e) := by rfl) (hi : Tab.inf P e = some (sz, bt, zv) := by rfl) (hd : A0s n dst = true := by rfl) : OpT P f R B n K ops l (opr dst (.buildSlice t 0 #[]) ty) σ Γ Ms := B6i (E6f hu hi) hd k_
theorem F0k {t e : TypeId} {sz bt : Nat} {zv : Value} (k_ : ∀ b, NV tn pn P f R B n K ops fin l (A1u σ dst ((fun b => .slice (some ⟨b, 0, none⟩) 0 0) b)) Γ (A1t b [] e :: Ms)) (hu : Tab.und P t = some (.slice e) := by rfl) (hi : Tab.inf P e = some (sz, bt, zv) := by rfl) (hd : A0s n dst = true := by rfl) : NvT tn pn P f R B n K ops fin i l dst (.buildSlice t 0 #[]) ty σ Γ Ms := B9y (E6f hu hi) rfl hd k_
theorem G4t {t T' : TypeId} {b s bt : Nat} {zv : Value} {cs cs' : List Value} (k_ : RgT P f R B n K ops l σ Γ (A1t b cs' T' :: Ms2)) (hx : ev σ x = .pointer (some ⟨b, 0, none⟩) := by exact wn_) (hm : Ms.Perm (A1t b cs T' :: Ms2) := by first | exact C6e | exact A0x | exact A4n | exact A6i | exact A5b | exact A5a | exact A3p) (hy : (ev σ y).cells = cs'.toArray := by rfl) (hi : Tab.inf P t = some (s, bt, zv) := by rfl) (hl : cs'.length = s := by rfl) (hl2 : cs.length = s := by rfl) (h1 : A9d cs' = true := by rfl) : OpT P f R B n K ops l (opr none (.store t x y) ty) σ Γ Ms := B9t (F0o hx hy hm hi hl hl2 h1) k_
theorem G1m {t T' : TypeId} {b k bt : Nat} {zv : Value} {cs cs' : List Value} (k_ : RgT P f R B n K ops l σ Γ (A1t b cs' T' :: Ms2)) (hx : ev σ x = .pointer (some ⟨b, k, none⟩) := by exact wn_) (hm : Ms.Perm (A1t b cs T' :: Ms2) := by first | exact C6e | exact A0x | exact A4n | exact A6i | exact A5b | exact A5a | exact A3p) (hy : ev σ y = v := by exact wn_) (hi : Tab.inf P t = some (1, bt, zv) := by rfl) (h1 : v.oneCell' = true := by rfl) (hk : k < cs.length := by exact Nat.le_of_ble_eq_true rfl) (hc : cs.set k v = cs' := by rfl) : OpT P f R B n K ops l (opr none (.store t x y) ty) σ Γ Ms := by
 subst hc
 exact B9t (F2r hx hy hm hi h1 hk) k_
theorem A4p {t e T' : TypeId} {ts : Array TypeId} {sz bt n' m c b : Nat} {zv : Value} {a : SH} {xs cs : List Value} (k_ : ∀ a' : SH, RgT P f R B n K ops l (A1u σ dst (sl a' (n' + m))) Γ (A1q sz e a' (n' + m) (xs ++ cs) :: A1t b cs T' :: Ms2)) (hm : Ms.Perm (A1q sz e a n' xs :: A1t b cs T' :: Ms2) := by first | exact C6e | exact A0x | exact A4n | exact A6i | exact A5b | exact A5a | exact A3p) (hx : ev σ x = sl a n' := by rfl) (hy : ev σ y = .slice (some ⟨b, 0, none⟩) m c := by exact wn_) (hts : ts = #[t, t] := by rfl) (hu : Tab.und P t = some (.slice e) := by rfl) (hi : Tab.inf P e = some (sz, bt, zv) := by rfl) (hzs : zv.cells.size = sz := by rfl) (hsz : 0 < sz := by exact Nat.le_of_ble_eq_true rfl) (hl : cs.length = m * sz := by rfl) (h1 : A9d cs = true := by rfl) (hb : (n' + m) * bt ≤ 140737488355328 := by first | omega | (unfold reach at *; omega) | (unfold reach A8p at *; omega)) (hnm : n' + m ≤ 9223372036854775807 := by first | omega | (unfold reach at *; omega) | (unfold reach A8p at *; omega)) (hd : A0s n dst = true := by rfl) : OpT P f R B n K ops l (opr dst (.call { callee := .builtin .append, args := #[x, y], argTypes := ts }) ty) σ Γ Ms := D2e (E0x hm hx hy hts hu hi hzs hsz hl h1 hb hnm) hd k_
theorem A9v {t e : TypeId} {ts : Array TypeId} {bt n' : Nat} {zv : Value} {a b : SH} {xs : List Value} {ls : List Cl} (k_ : ∀ a' : SH, RgT P f R B n K ops l (A1u σ dst (sl a' (n' + ls.length))) Γ (A1q 2 e a' (n' + ls.length) (xs ++ A0k ls) :: Ms2)) (hF : CL ls b ∈ Γ) (hm : Ms.Perm (A1q 2 e a n' xs :: Ms2) := by first | exact C6e | exact A0x | exact A4n | exact A6i | exact A5b | exact A5a | exact A3p) (hx : ev σ x = sl a n' := by rfl) (hy : ev σ y = sl b ls.length := by rfl) (hts : ts = #[t, t] := by rfl) (hu : Tab.und P t = some (.slice e) := by rfl) (hi : Tab.inf P e = some (2, bt, zv) := by rfl) (hzs : zv.cells.size = 2 := by rfl) (hb : (n' + ls.length) * bt ≤ 140737488355328 := by first | omega | (unfold reach at *; omega) | (unfold reach A8p at *; omega)) (hnm : n' + ls.length ≤ 9223372036854775807 := by first | omega | (unfold reach at *; omega) | (unfold reach A8p at *; omega)) (hd : A0s n dst = true := by rfl) : OpT P f R B n K ops l (opr dst (.call { callee := .builtin .append, args := #[x, y], argTypes := ts }) ty) σ Γ Ms := D2e (D4s hm hF hx hy hts hu hi hzs hb hnm) hd k_
theorem E3t [TyF P] [TabM P] {t : TypeId} (k_ : ∀ b, RgT P f R B n K ops l (A1u σ dst (.map (some b))) Γ (E4j b [] :: Ms)) (hd : A0s n dst = true := by rfl) : OpT P f R B n K ops l (opr dst (.makeMap t none) ty) σ Γ Ms := D2e D7l hd k_
theorem E3u [TyF P] [TabM P] {t e : TypeId} {s bt b : Nat} {c : Cl} {keys : List Cl} (k_ : RgT P f R B n K ops l (A1u σ dst (.bool (decide (c ∈ keys)))) Γ Ms) (hx : ev σ x = .map (some b) := by exact wn_) (hm : E4j b keys ∈ Ms := by repeat (first | exact List.mem_cons_self | apply List.mem_cons_of_mem)) (hy : ev σ y = A5k c := by rfl) (hc : u32 c := by assumption) (hu : Tab.und P t = some (.map (TyF.tC P) e) := by rfl) (hi : Tab.inf P e = some (s, bt, .bool false) := by rfl) (hd : A0s n dst = true := by rfl) : OpT P f R B n K ops l (opr dst (.lookup t x y false) ty) σ Γ Ms := A8b (E4o hx hm hc hy hu hi) hd k_
theorem E8g [TyF P] [TabM P] {t e : TypeId} {b : Nat} {c : Cl} {keys : List Cl} (k_ : RgT P f R B n K ops l σ Γ (E4j b (keys ++ [c]) :: Ms2)) (hx : ev σ x = .map (some b) := by exact wn_) (hm : Ms.Perm (E4j b keys :: Ms2) := by first | exact C6e | exact A0x | exact A4n | exact A6i | exact A5b | exact A5a | exact A3p) (hy : ev σ y = A5k c := by rfl) (hc : u32 c := by assumption) (hn : c ∉ keys := by assumption) (hz : ev σ z = .bool true := by rfl) (hu : Tab.und P t = some (.map (TyF.tC P) e) := by rfl) : OpT P f R B n K ops l (opr none (.mapUpdate t x y z) ty) σ Γ Ms := B9t (C8u hx hm hc hn hy hz hu) k_
/-- A call by its contract. -/
theorem F1x {c : FuncId} {args : Array Value} {as : Array Operand} {ts : Array TypeId} {g : Operand} (hg : ev σ g = .func (.func c) #[] #[]) (ha : as.toList.map (ev σ) = args.toList) (hc : ∀ (args : Array Value) (w : World), (callFunc c args).run P w = .ok (.enter c args) w) : D7d P σ (.call { callee := .value g, args := as, argTypes := ts }) ty c args := fun w => by
 have ha : as.map (ev σ) = args := Array.ext' (by simpa using ha)
 subst ha
 simp [opr, execOp, resolve, hg, Deferred.ofValue, invoke, hc]
/-- A call of a closure: what it holds comes behind the arguments. -/
theorem F1y {c : FuncId} {args cap : List Value} {as : Array Operand} {ts : Array TypeId} {g : Operand} (hg : ev σ g = .func (.func c) #[] cap.toArray) (ha : as.toList.map (ev σ) = args) (hc : ∀ (args : Array Value) (w : World), (callFunc c args).run P w = .ok (.enter c args) w) : D7d P σ (.call { callee := .value g, args := as, argTypes := ts }) ty c (args ++ cap).toArray := fun w => by
 have ha : as.map (ev σ) = args.toArray := Array.ext' (by simpa using ha)
 simp [ha, opr, execOp, resolve, hg, Deferred.ofValue, invoke, hc]
theorem A0c {c : FuncId} {args : Array Value} {as : Array Operand} {ts : Array TypeId} {g : Operand} {pre : List Fact} {Ms0 : List Res} {X : Type} {val : X → Value} {N : X → List Fact} {Ms1 : X → List Res}
  (hc : ∀ (args : Array Value) (w : World), (callFunc c args).run P w = .ok (.enter c args) w) (hsp : Spec P c args pre Ms0 val N Ms1) (kk : ∀ x, RgT P f R B n K ops l (A1u σ dst (val x)) (N x ++ Γ) (Ms1 x ++ Ms2))
  (hg : ev σ g = .func (.func c) #[] #[] := by rfl) (ha : as.toList.map (ev σ) = args.toList := by rfl) (hpre : ∀ F, F ∈ pre → F ∈ Γ := by first | (simp; done) | (simp +contextual; done)) (hm : Ms.Perm (Ms0 ++ Ms2) := by first | exact List.Perm.refl _ | exact F1b | exact F1a | exact F0z | exact F0y | exact A0x | exact A4n | exact A6i | exact A5b | exact F0x) (hd : A0s n dst = true := by rfl) : OpT P f R B n K ops l (opr dst (.call { callee := .value g, args := as, argTypes := ts }) ty) σ Γ Ms :=
 E1b (F1x hg ha hc) hsp hpre hm hd kk
theorem A6j {c : FuncId} {args cap al : List Value} {as : Array Operand} {ts : Array TypeId} {g : Operand} {pre : List Fact} {Ms0 : List Res} {X : Type} {val : X → Value} {N : X → List Fact} {Ms1 : X → List Res}
  (hc : ∀ (args : Array Value) (w : World), (callFunc c args).run P w = .ok (.enter c args) w) (hsp : Spec P c al.toArray pre Ms0 val N Ms1) (kk : ∀ x, RgT P f R B n K ops l (A1u σ dst (val x)) (N x ++ Γ) (Ms1 x ++ Ms2))
  (hg : ev σ g = .func (.func c) #[] cap.toArray := by rfl) (ha : as.toList.map (ev σ) = args := by rfl) (hal : args ++ cap = al := by rfl) (hpre : ∀ F, F ∈ pre → F ∈ Γ := by first | (simp; done) | (simp +contextual; done)) (hm : Ms.Perm (Ms0 ++ Ms2) := by first | exact List.Perm.refl _ | exact F1b | exact F1a | exact F0z | exact F0y | exact A0x | exact A4n | exact A6i | exact A5b | exact F0x) (hd : A0s n dst = true := by rfl) : OpT P f R B n K ops l (opr dst (.call { callee := .value g, args := as, argTypes := ts }) ty) σ Γ Ms :=
 E1b (F1y hg ha hc) (hal ▸ hsp) hpre hm hd kk
theorem A1p {c : FuncId} {args : Array Value} {as : Array Operand} {ts : Array TypeId} {g : Operand} {pre : List Fact} {X : Type} {val : X → Value} {N : X → List Fact} {Ms1 : X → List Res}
  (hc : ∀ (args : Array Value) (w : World), (callFunc c args).run P w = .ok (.enter c args) w) (hsp : Spec P c args pre [] val N Ms1) (kk : ∀ x, NV tn pn P f R B n K ops fin l (A1u σ dst (val x)) (N x ++ Γ) (Ms1 x ++ Ms))
  (hg : ev σ g = .func (.func c) #[] #[] := by rfl) (ha : as.toList.map (ev σ) = args.toList := by rfl) (hpre : ∀ F, F ∈ pre → F ∈ Γ := by first | (simp; done) | (simp +contextual; done)) (hd : A0s n dst = true := by rfl) : NvT tn pn P f R B n K ops fin i l dst (.call { callee := .value g, args := as, argTypes := ts }) ty σ Γ Ms :=
 E4c (F1x hg ha hc) hsp hpre rfl rfl hd kk
/-- Guards. -/
theorem q0 (ho : ops[i]? = some ⟨dst, op, ty, pos, after, none⟩) (h : OpT P f R B n K ops l (opr dst op ty) σ Γ Ms) : RgT P f R B n K ops (i :: l) σ Γ Ms := G1g ho h
theorem qT {g d : Nat} {want : Bool} {og : Oper} (ho : ops[i]? = some ⟨dst, op, ty, pos, after, some (g, want)⟩) (hog : ops[g]? = some og) (hgd : og.dst = some d) (h : OpT P f R B n K ops l (opr dst op ty) σ Γ Ms) (ht : σ d = .bool want := by rfl) : RgT P f R B n K ops (i :: l) σ Γ Ms := F6p ho hog hgd ht h
theorem qF {g d : Nat} {want t : Bool} {og : Oper} (ho : ops[i]? = some ⟨dst, op, ty, pos, after, some (g, want)⟩) (hog : ops[g]? = some og) (hgd : og.dst = some d) (h : RgT P f R B n K ops l (A1u σ dst undef) Γ Ms) (ht : σ d = .bool t := by conv => lhs; whnf) (hne : (t == want) = false := by rfl) (hd : A0s n dst = true := by rfl) : RgT P f R B n K ops (i :: l) σ Γ Ms := F6q ho hog hgd ht hne hd h
theorem qU {g d : Nat} {want : Bool} {og : Oper} (ho : ops[i]? = some ⟨dst, op, ty, pos, after, some (g, want)⟩) (hog : ops[g]? = some og) (hgd : og.dst = some d) (h : RgT P f R B n K ops l (A1u σ dst undef) Γ Ms) (ht : σ d = undef := by rfl) (hd : A0s n dst = true := by rfl) : RgT P f R B n K ops (i :: l) σ Γ Ms := F6o ho hog hgd ht hd h
theorem nU {g d : Nat} {want : Bool} {og : Oper} (ho : ops[i]? = some ⟨dst, op, ty, pos, after, some (g, want)⟩) (hog : ops[g]? = some og) (hgd : og.dst = some d) (h : NV tn pn P f R B n K ops fin l (A1u σ dst undef) Γ Ms) (ht : σ d = undef := by rfl) (hd : A0s n dst = true := by rfl) (hn : Nat.beq pn i = false := by rfl) : NV tn pn P f R B n K ops fin (i :: l) σ Γ Ms := F7u ho hog hgd ht hd h hn
theorem qI {g d : Nat} {want t : Bool} {og : Oper} (ho : ops[i]? = some ⟨dst, op, ty, pos, after, some (g, want)⟩) (hog : ops[g]? = some og) (hgd : og.dst = some d) (ht : σ d = .bool t) (hon : t = want → OpT P f R B n K ops l (opr dst op ty) (upd σ d (.bool want)) Γ Ms) (hoff : t = !want → RgT P f R B n K ops l (A1u (upd σ d (.bool !want)) dst undef) Γ Ms) (hd : A0s n dst = true := by rfl) : RgT P f R B n K ops (i :: l) σ Γ Ms := G1f ho hog hgd ht hd hon hoff
theorem n0 (ho : ops[i]? = some ⟨dst, op, ty, pos, after, none⟩) (h : NvT tn pn P f R B n K ops fin i l dst op ty σ Γ Ms) (hn : Nat.beq pn i = false := by rfl) : NV tn pn P f R B n K ops fin (i :: l) σ Γ Ms := G1z ho h hn
theorem nT {g d : Nat} {want : Bool} {og : Oper} (ho : ops[i]? = some ⟨dst, op, ty, pos, after, some (g, want)⟩) (hog : ops[g]? = some og) (hgd : og.dst = some d) (h : NvT tn pn P f R B n K ops fin i l dst op ty σ Γ Ms) (ht : σ d = .bool want := by rfl) (hn : Nat.beq pn i = false := by rfl) : NV tn pn P f R B n K ops fin (i :: l) σ Γ Ms := F7v ho hog hgd ht h hn
theorem nF {g d : Nat} {want t : Bool} {og : Oper} (ho : ops[i]? = some ⟨dst, op, ty, pos, after, some (g, want)⟩) (hog : ops[g]? = some og) (hgd : og.dst = some d) (h : NV tn pn P f R B n K ops fin l (A1u σ dst undef) Γ Ms) (ht : σ d = .bool t := by conv => lhs; whnf) (hne : (t == want) = false := by rfl) (hd : A0s n dst = true := by rfl) (hn : Nat.beq pn i = false := by rfl) : NV tn pn P f R B n K ops fin (i :: l) σ Γ Ms := F7w ho hog hgd ht hne hd h hn
theorem nI {g d : Nat} {want t : Bool} {og : Oper} (ho : ops[i]? = some ⟨dst, op, ty, pos, after, some (g, want)⟩) (hog : ops[g]? = some og) (hgd : og.dst = some d) (ht : σ d = .bool t) (hon : t = want → NvT tn pn P f R B n K ops fin i l dst op ty (upd σ d (.bool want)) Γ Ms) (hoff : t = !want → NV tn pn P f R B n K ops fin l (A1u (upd σ d (.bool !want)) dst undef) Γ Ms) (hd : A0s n dst = true := by rfl) (hn : Nat.beq pn i = false := by rfl) : NV tn pn P f R B n K ops fin (i :: l) σ Γ Ms := G1y ho hog hgd ht hd hon hoff hn
end
end Go.Hy
namespace Go.Hy
/-! ### More places of what is owned -/
theorem B2f {a b c d e f g m : Res} {L : List Res} : (a :: b :: c :: d :: e :: f :: g :: m :: L).Perm (m :: a :: b :: c :: d :: e :: f :: g :: L) := (A3p.cons a).trans A0x
theorem B3e {a b c d e f g h m : Res} {L : List Res} : (a :: b :: c :: d :: e :: f :: g :: h :: m :: L).Perm (m :: a :: b :: c :: d :: e :: f :: g :: h :: L) := (B2f.cons a).trans A0x
theorem B7w {a b c d e f g h i m : Res} {L : List Res} : (a :: b :: c :: d :: e :: f :: g :: h :: i :: m :: L).Perm (m :: a :: b :: c :: d :: e :: f :: g :: h :: i :: L) := (B3e.cons a).trans A0x
theorem A6l {a b c d e f g h i j m : Res} {L : List Res} : (a :: b :: c :: d :: e :: f :: g :: h :: i :: j :: m :: L).Perm (m :: a :: b :: c :: d :: e :: f :: g :: h :: i :: j :: L) := (B7w.cons a).trans A0x
theorem A6k {a b c d e f g h i j k m : Res} {L : List Res} : (a :: b :: c :: d :: e :: f :: g :: h :: i :: j :: k :: m :: L).Perm (m :: a :: b :: c :: d :: e :: f :: g :: h :: i :: j :: k :: L) := (A6l.cons a).trans A0x
/-! ### Lists of whole numbers -/
def B0f (x : Int) : List Value := [.int .i64 x]
abbrev A4a (l : List Int) : List Value := l.flatMap B0f
theorem B3k (x : Int) : (B0f x).length = 1 := rfl
def F8m (ok : Nat → Prop) (l : List Int) (a : SH) (w : World) : Prop := rowAt ok 1 8 l.length a (fun i => B0f (l.getD i 0)) w ∧ ∀ x, x ∈ l → A2j x
def IL (l : List Int) (a : SH) : Fact := ⟨fun ok w => F8m ok l a w, fun _ _ _ hs h => ⟨h.1.mono hs, h.2⟩, fun _ _ _ h hs => ⟨h.1.loc hs, h.2⟩⟩
section
variable {B : A6n} {Γ : List Fact} {Ms : List Res} {w : World}
theorem St.B2c {e : TypeId} {a : SH} {n : Nat} {xs : List Value} {l : List Int} (hs : St B Γ (A1q 1 e a n xs :: Ms) w) {hBp : Prop} (hB : hBp) (hx : xs = A4a l) (hn : n = l.length) (hb : n * 8 ≤ reach) (hu : ∀ c, c ∈ l → A2j c) : St B (IL l a :: Γ) Ms w := by
 subst hx
 subst hn
 refine hs.B7p hB (fun ok hok hh => ⟨?_, hu⟩)
 exact B3h (F := B0f) B3k 0 (hh : World.ownsRow _ _ _ _ _ _ _) rfl hb hok
theorem St.B5e {e : TypeId} {a : SH} {n : Nat} {l : List Cl} {c : Cl} (hs : St B Γ (A1q 2 e a n (A0k l ++ A0r c) :: Ms) w) : St B Γ (A1q 2 e a n (A0k (l ++ [c])) :: Ms) w := by
 have h : A0k (l ++ [c]) = A0k l ++ A0r c := by simp [A0k]
 rw [h]; exact hs
theorem St.E1d {e : TypeId} {a : SH} {n : Nat} {l : List Int} {c : Int} (hs : St B Γ (A1q 1 e a n (A4a l ++ [.int .i64 c]) :: Ms) w) : St B Γ (A1q 1 e a n (A4a (l ++ [c])) :: Ms) w := by
 have h : A4a (l ++ [c]) = A4a l ++ [.int .i64 c] := by simp [A4a, B0f]
 rw [h]; exact hs
theorem St.D7m {e : TypeId} {a : SH} {n : Nat} {l : List TP} {t : T} {vr vk vs : SH} (hs : St B Γ (A1q 6 e a n (A2t l ++ tc t vr vk vs) :: Ms) w) : St B Γ (A1q 6 e a n (A2t (l ++ [(t, vr, vk, vs)])) :: Ms) w := by
 have h : A2t (l ++ [(t, vr, vk, vs)]) = A2t l ++ tc t vr vk vs := by simp [A2t, A9t]
 rw [h]; exact hs
theorem St.E6z {e : TypeId} {a : SH} {n : Nat} {l : List BP} {b : Br} {vf vk : SH} (hs : St B Γ (A1q 2 e a n (A8r l ++ bc b vf vk) :: Ms) w) : St B Γ (A1q 2 e a n (A8r (l ++ [(b, vf, vk)])) :: Ms) w := by
 have h : A8r (l ++ [(b, vf, vk)]) = A8r l ++ bc b vf vk := by simp [A8r, B1j]
 rw [h]; exact hs
theorem St.A5u {e : TypeId} {a : SH} {n : Nat} {l m : List Cl} (hs : St B Γ (A1q 2 e a n (A0k l ++ A0k m) :: Ms) w) : St B Γ (A1q 2 e a n (A0k (l ++ m)) :: Ms) w := by
 have h : A0k (l ++ m) = A0k l ++ A0k m := by simp [A0k]
 rw [h]; exact hs
/-- What a list of whole numbers is, laid open. -/
theorem St.F7g {l : List Int} {a : SH} (hs : St B Γ Ms w) (hF : IL l a ∈ Γ) : l.length * 8 ≤ reach ∧ (0 < l.length → ∃ b o, a.1 = some ⟨b, o, Option.none⟩) ∧ ∀ c, c ∈ l → A2j c := by
 obtain ⟨h2, h4⟩ := hs.facts _ hF
 exact ⟨h2.2.1, fun hn => by obtain ⟨b, o, h3, _⟩ := h2.2.2 hn; exact ⟨b, o, h3⟩, h4⟩
end
section
variable {P : Program} {f : FuncId} {R : Ending → World → Prop} {B : A6n} {n : Fz} {todo : List Item} {σ : Nat → Value} {Γ : List Fact} {Ms : List Res}
theorem B0s {l : List Int} {a : SH} (k : l.length * 8 ≤ reach → (0 < l.length → ∃ b o, a.1 = some ⟨b, o, none⟩) → (∀ c, c ∈ l → A2j c) → GoT P f R B n todo σ Γ Ms) (hF : IL l a ∈ Γ := by repeat (first | exact List.mem_cons_self | apply List.mem_cons_of_mem)) : GoT P f R B n todo σ Γ Ms :=
 A1y (p := l.length * 8 ≤ reach ∧ (0 < l.length → ∃ b o, a.1 = some ⟨b, o, none⟩) ∧ ∀ c, c ∈ l → A2j c) (fun w hs => hs.F7g hF) (fun h => k h.1 h.2.1 h.2.2)
/-- Two ways that meet; what each of them shows stays known. -/
theorem E4z {K : List Item} {it : Item} (p : Prop) (live : List (Nat × Value)) (h1 : (p → ∀ σ', B8n σ' live → GoT P f R B n K σ' Γ Ms) → GoT P f R B n (it :: K) σ Γ Ms) (h2 : p → ∀ base, GoT P f R B n K (stL base live) Γ Ms) : GoT P f R B n (it :: K) σ Γ Ms :=
 h1 (fun hp σ' hl => go_slots live hl (h2 hp))
/-- A loop that keeps what is known: 'E x' adds what is known of the state x. -/
theorem A0u {K : List Item} {c : Code} {X : Type} (Inv : X → Prop) (live : X → List (Nat × Value)) (E : X → List Fact → List Fact) (Mf : X → List Res) (μ : X → Nat) (x0 : X) (h0 : Inv x0)
  (hl : B8n σ (live x0)) (hΓ : ∀ w, St B Γ Ms w → St B (E x0 Γ) (Mf x0) w)
  (round : ∀ x base, Inv x → (∀ x' σ', Inv x' → μ x' < μ x → B8n σ' (live x') → GoT P f R B n (.inLoop c :: K) σ' (E x' Γ) (Mf x')) →
   GoT P f R B n (.code c :: .inLoop c :: K) (stL base (live x)) (E x Γ) (Mf x)) :
  GoT P f R B n (.code (.loop c) :: K) σ Γ Ms := A3z Inv live (fun x => E x Γ) Mf μ x0 h0 hl hΓ round
end
/-- What is owned, otherwise said, in a region that draws. -/
theorem NV.conv {tn : Bool} {pn : Nat} {P : Program} {f : FuncId} {R : Ending → World → Prop} {B : A6n} {n : Fz} {K : List Item} {ops : Array Oper} {l fin : List Nat} {σ : Nat → Value} {Γ : List Fact} {Ms' : List Res} (h : NV tn pn P f R B n K ops fin l σ Γ Ms') :
  ∀ {Ms : List Res}, (∀ Γ M w, St B Γ (M ++ Ms) w → St B Γ (M ++ Ms') w) → NV tn pn P f R B n K ops fin l σ Γ Ms := by
 induction h with
 | done h => exact fun hc => .done (fun a w hr hs => h a w hr (hc _ [] w hs))
 | no h => exact fun hc => .no (fun ⟨w, hw⟩ => h ⟨w, hc _ [] w hw⟩)
 | pure ho hw hd h k ih => exact fun hc => .pure ho hw hd h (ih hc)
 | load ht ho hm hw hd h k ih => exact fun hc => .load ht ho hm hw hd (fun w hs => h w (hc _ [] w hs)) (ih hc)
 | off ho hw hd k ih => exact fun hc => .off ho hw hd (ih hc)
 | alloc ho hg hw hd h k ih => exact fun hc => .alloc ho hg hw hd h (fun b => ih b (fun Γ M w hs => by
   have := hc Γ (M ++ [A1t b _ _]) w (by simpa using hs)
   simpa using this))
 | allocF hz ho hg hgm hw hd h hF k ih => exact fun hc => .allocF hz ho hg hgm hw hd h hF (fun b => ih b hc)
 | call ht ho hg hm hw hd he hsp hpre k ih => exact fun hc => .call ht ho hg hm hw hd he hsp hpre (fun x => ih x (fun Γ M w hs => by
   have := hc Γ (M ++ _) w (by simpa using hs)
   simpa using this))
 | loadF ho hm hw hd h k ih => exact fun hc => .loadF ho hm hw hd h (ih hc)
 | pan ht ho hq hg hm hw he hsp hpre hR => exact fun hc => .pan ht ho hq hg hm hw he hsp hpre hR
 | @A9b i l o X val F r r' σ Γ Ms0 Ms2 ht ho hb hw hd hp h k hz ih =>
  intro Ms hc
  refine NV.A9b (F := F) (r := Ms) (r' := fun x => r' x ++ Ms2) (Ms2 := []) ht ho hb hw hd (by rw [List.append_nil]) (fun M w hs => ?_) (fun x => by rw [List.append_nil]; exact k x) hz
  have h0 : St B Γ (M ++ Ms0) w := hc _ M w (hs.perm List.perm_append_comm)
  have h1 : St B Γ (r ++ (Ms2 ++ M)) w := by
   rw [← List.append_assoc]
   exact h0.perm (List.perm_append_comm.trans (hp.append_right M))
  obtain ⟨x, w', h2, h3⟩ := h (Ms2 ++ M) w h1
  exact ⟨x, w', h2, by rw [List.append_assoc]; exact h3⟩
 | @sto i l o r r' σ Γ Ms0 Ms2 ho hb hw hd hp h k ih =>
  intro Ms hc
  refine NV.sto (r := Ms) (r' := r' ++ Ms2) (Ms2 := []) ho hb hw hd (by rw [List.append_nil]) (fun M w hs => ?_) (by rw [List.append_nil]; exact k)
  have h0 : St B Γ (M ++ Ms0) w := hc _ M w (hs.perm List.perm_append_comm)
  have h1 : St B Γ (r ++ (Ms2 ++ M)) w := by
   rw [← List.append_assoc]
   exact h0.perm (List.perm_append_comm.trans (hp.append_right M))
  obtain ⟨w', h2, h3⟩ := h (Ms2 ++ M) w h1
  exact ⟨w', h2, by rw [List.append_assoc]; exact h3⟩
theorem B8b {tn : Bool} {pn : Nat} {P : Program} {f : FuncId} {R : Ending → World → Prop} {B : A6n} {n : Fz} {K : List Item} {ops : Array Oper} {l fin : List Nat} {σ : Nat → Value} {Γ : List Fact} {Ms : List Res} (A A' : List Res) (hc : ∀ Γ L w, St B Γ (A ++ L) w → St B Γ (A' ++ L) w) (h : NV tn pn P f R B n K ops fin l σ Γ (A' ++ Ms)) : NV tn pn P f R B n K ops fin l σ Γ (A ++ Ms) :=
 h.conv (fun Γ M w hs => by
  have h1 := hc Γ (Ms ++ M) w (by simpa using hs.perm List.perm_append_comm)
  have h2 : St B Γ ((A' ++ Ms) ++ M) w := by simpa using h1
  exact h2.perm List.perm_append_comm)
section
variable {P : Program} [Tab P] {B : A6n} {σ : Nat → Value} {Γ : List Fact} {Ms : List Res} {ty : TypeId} {x y : Operand} {k : IntKind} {a : Int} {v : Value}
theorem F1s {t : TypeId} {d : TypeDesc} {bk o i : Nat} {a : SH} {l : List Int} (hx : ev σ x = .pointer (some ⟨bk, o + i * 1, none⟩)) (hF : IL l a ∈ Γ) (ha : a.1 = some ⟨bk, o, none⟩) (hu : Tab.und P t = some d) (hd : (match d with | .struct _ | .array _ _ => true | _ => false) = false) (hlt : i < l.length) :
  B2u P B σ Γ Ms (.load t x) ty (.int .i64 (l.getD i 0)) := fun w hs => by
 have h3 := (A9h (hs.facts _ hF).1 ha hlt).2 0 (.int .i64 (l.getD i 0)) rfl
 rw [Nat.add_zero] at h3
 have h4 := A4m (P := P) hu hd h3
 generalize hv : l.getD i 0 = u at h4 ⊢
 simp only [opr, execOp, hx, Instr.loadAt, Instr.sureAddr]
 rw [Nat.mul_one] at h4 ⊢
 simp [h4]
theorem E2t {s d : TypeId} {a : Nat} (hs : Tab.und P s = some (.int .u32)) (hd : Tab.und P d = some (.int .i64)) (hx : ev σ x = .int .u32 (a : Int)) (ha : a < 4294967296) : A3j P σ (.convert s d x) ty (.int .i64 (a : Int)) := by
 have e : IntKind.i64.wrap (a : Int) = (a : Int) := by rw [IntKind.wrap_i64]; omega
 have := A8v (P := P) (ty := ty) hs hd hx
 rwa [e] at this
theorem E2v {s d : TypeId} {a : Nat} (hs : Tab.und P s = some (.int .i64)) (hd : Tab.und P d = some (.int .u32)) (hx : ev σ x = .int .i64 (a : Int)) (ha : a < 4294967296) : A3j P σ (.convert s d x) ty (.int .u32 (a : Int)) := by
 have e : IntKind.u32.wrap (a : Int) = (a : Int) := by
  have : IntKind.u32.wrap (a : Int) = (a : Int) % 4294967296 := by simp [IntKind.wrap, IntKind.bits, IntKind.signed]
  rw [this]; omega
 have := A8v (P := P) (ty := ty) hs hd hx
 rwa [e] at this
/-- To a number without a sign, as a number of places. -/
theorem E2w {s d : TypeId} {a : Int} {m : Nat} (hs : Tab.und P s = some (.int .i64)) (hd : Tab.und P d = some (.int .u64)) (hx : ev σ x = .int .i64 a) (ha : a = (m : Int)) (hm : m < 18446744073709551616) : A3j P σ (.convert s d x) ty (.int .u64 (m : Int)) := by
 have e : IntKind.u64.wrap a = (m : Int) := by
  have : IntKind.u64.wrap a = a % 18446744073709551616 := by simp [IntKind.wrap, IntKind.bits, IntKind.signed]
  rw [this]; omega
 have := A8v (P := P) (ty := ty) hs hd hx
 rwa [e] at this
end
end Go.Hy
namespace Go.Hy
/-! ### Parts of slices -/
def C2h (a : SH) (sz k : Nat) : SH := (if a.2 = k then a.1 else a.1.map (·.add (k * sz)), a.2 - k)
section
variable {P : Program} [Tab P] {B : A6n} {σ : Nat → Value} {Γ : List Fact} {Ms : List Res} {ty : TypeId} {x y : Operand}
theorem D8h {t e : TypeId} {s bt m c k : Nat} {zv : Value} {A : Option Addr} (hu : Tab.und P t = some (.slice e)) (hi : Tab.inf P e = some (s, bt, zv)) (hx : ev σ x = .slice A m c) (hy : ev σ y = .int .i64 (k : Int)) (hk : k ≤ c) : A3j P σ (.slice t x none (some y) none) ty (.slice A k c) := fun w => by
 have h0 : ∀ a : Option Addr, (a.map fun b : Addr => b.add 0) = a := fun a => by cases a <;> simp [Addr.add_zero']
 simp [opr, execOp, hx, hy, Instr.sliceAt, Instr.slice, Instr.sliceBounds, Instr.sliceBound, asIntOf, A4r hu, hk, A5w hi, h0]
theorem D8g {t e : TypeId} {s bt m k : Nat} {zv : Value} {a : SH} (hu : Tab.und P t = some (.slice e)) (hi : Tab.inf P e = some (s, bt, zv)) (hx : ev σ x = sl a m) (hy : ev σ y = .int .i64 (k : Int)) (hk : k ≤ m) : A3j P σ (.slice t x (some y) none none) ty (sl (C2h a s k) (m - k)) := fun w => by
 have hx' : ev σ x = .slice a.1 m a.2 := hx
 simp [opr, execOp, hx', hy, Instr.sliceAt, Instr.slice, Instr.sliceBounds, Instr.sliceBound, asIntOf, A4r hu, hk, A5w hi, sl, C2h]
end
theorem D7x {ok : Nat → Prop} {sz bt n k : Nat} {a : SH} {E : Nat → List Value} {w : World} (h : rowAt ok sz bt n a E w) (hk : k ≤ n) : rowAt ok sz bt k a E w :=
 ⟨Nat.le_trans hk h.1, Nat.le_trans (Nat.mul_le_mul_right bt hk) h.2.1, fun h0 => by
  obtain ⟨b, o, h1, h2, h3⟩ := h.2.2 (by omega)
  exact ⟨b, o, h1, h2, fun i hi => h3 i (by omega)⟩⟩
theorem D7y {ok : Nat → Prop} {sz bt n k : Nat} {a : SH} {E : Nat → List Value} {w : World} (h : rowAt ok sz bt n a E w) (hk : k ≤ n) : rowAt ok sz bt (n - k) (C2h a sz k) (fun i => E (i + k)) w := by
 refine ⟨Nat.sub_le_sub_right h.1 k, Nat.le_trans (Nat.mul_le_mul_right bt (Nat.sub_le n k)) h.2.1, fun h0 => ?_⟩
 obtain ⟨b, o, h1, h2, h3⟩ := h.2.2 (by omega)
 have hne : a.2 ≠ k := by have := h.1; omega
 refine ⟨b, o + k * sz, by simp [C2h, hne, h1, Addr.add_lit], h2, fun i hi j v hv => ?_⟩
 have := h3 (i + k) (by omega) j v hv
 rwa [show o + k * sz + i * sz + j = o + (i + k) * sz + j by rw [Nat.add_mul]; omega]
theorem C0x {ok : Nat → Prop} {sz bt n : Nat} {a : SH} {E E' : Nat → List Value} {w : World} (h : rowAt ok sz bt n a E w) (he : ∀ i, i < n → E i = E' i) : rowAt ok sz bt n a E' w :=
 ⟨h.1, h.2.1, fun h0 => by
  obtain ⟨b, o, h1, h2, h3⟩ := h.2.2 h0
  exact ⟨b, o, h1, h2, fun i hi => by rw [← he i hi]; exact h3 i hi⟩⟩
theorem getD_take' {α : Type} {d : α} {l : List α} {k i : Nat} (h : i < k) : (l.take k).getD i d = l.getD i d := by
 simp [List.getD_eq_getElem?_getD, h]
theorem getD_drop' {α : Type} {d : α} {l : List α} {k i : Nat} : (l.drop k).getD i d = l.getD (i + k) d := by
 simp [List.getD_eq_getElem?_getD, Nat.add_comm]
section
variable {B : A6n} {Γ : List Fact} {Ms : List Res} {w : World}
theorem St.F6d {l : List Cl} {a : SH} (k : Nat) (hs : St B Γ Ms w) (hF : CL l a ∈ Γ) (hk : k ≤ l.length) : St B (CL (l.take k) a :: Γ) Ms w := by
 obtain ⟨h2, h4⟩ := hs.facts _ hF
 refine hs.add ⟨?_, fun c hc => h4 c (List.mem_of_mem_take hc)⟩
 have e : (l.take k).length = k := by simp; omega
 rw [e]
 exact C0x (D7x h2 hk) (fun i hi => by rw [getD_take' hi])
theorem St.F9z {l : List Cl} {a : SH} (k : Nat) (hs : St B Γ Ms w) (hF : CL l a ∈ Γ) (hk : k ≤ l.length) : St B (CL (l.drop k) (C2h a 2 k) :: Γ) Ms w := by
 obtain ⟨h2, h4⟩ := hs.facts _ hF
 refine hs.add ⟨?_, fun c hc => h4 c (List.mem_of_mem_drop hc)⟩
 rw [List.length_drop]
 exact C0x (D7y h2 hk) (fun i hi => by rw [getD_drop'])
theorem St.G3z {l : List Cl} {a : SH} (hs : St B Γ Ms w) (hF : CL l a ∈ Γ) : l.length ≤ a.2 := (hs.facts _ hF).1.1
end
end Go.Hy
namespace Go.Hy
/-! ### Numbers of 64 bits without a sign -/
section
variable {P : Program} [Tab P] {σ : Nat → Value} {ty : TypeId} {x y : Operand}
theorem E0i (n : Int) : IntKind.u64.wrap n = n % 18446744073709551616 := by simp [IntKind.wrap, IntKind.bits, IntKind.signed]
theorem F3h {t t' : TypeId} {k2 : IntKind} {a m : Nat} (hx : ev σ x = .int .u64 (a : Int)) (hy : ev σ y = .int k2 (m : Int)) (hm : m ≤ 64) (hb : a * 2 ^ m < 18446744073709551616) : A3j P σ (.binOp .shl t x y t') ty (.int .u64 ((a * 2 ^ m : Nat) : Int)) :=
 A4f hx hy (fun w => A2b w) (fun w => by
  have e : IntKind.u64.wrap ((a : Int) * 2 ^ min (m : Int).toNat 64) = ((a * 2 ^ m : Nat) : Int) := by
   rw [E0i, Int.toNat_natCast, Nat.min_eq_left hm]
   have : ((a : Int) * 2 ^ m) = ((a * 2 ^ m : Nat) : Int) := by rw [Int.natCast_mul, Int.natCast_pow]; rfl
   rw [this]; omega
  have h0 : ¬ ((m : Int) < 0) := by omega
  simp only [binOp, Op.shift, if_neg h0]
  show Result.ok (Value.int .u64 (IntKind.u64.wrap ((a : Int) * 2 ^ min (m : Int).toNat 64))) w = _
  rw [e])
theorem F3f {t t' : TypeId} {a b : Nat} (hx : ev σ x = .int .u64 (a : Int)) (hy : ev σ y = .int .u64 (b : Int)) (h : b ≤ a) (ha : a < 18446744073709551616) : A3j P σ (.binOp .sub t x y t') ty (.int .u64 ((a - b : Nat) : Int)) :=
 A4f hx hy (fun w => A2b w) (fun w => by
  have e : IntKind.u64.wrap ((a : Int) - (b : Int)) = ((a - b : Nat) : Int) := by rw [E0i]; omega
  simp only [binOp, Op.intArith, ne_eq, not_true, if_false]
  show Result.ok (Value.int .u64 (IntKind.u64.wrap ((a : Int) - (b : Int)))) w = _
  rw [e])
theorem E2y {s d : TypeId} {a : Nat} (hs : Tab.und P s = some (.int .u64)) (hd : Tab.und P d = some (.int .u32)) (hx : ev σ x = .int .u64 (a : Int)) (ha : a < 4294967296) : A3j P σ (.convert s d x) ty (.int .u32 (a : Int)) := by
 have e : IntKind.u32.wrap (a : Int) = (a : Int) := by rw [F2f]; omega
 have := A8v (P := P) (ty := ty) hs hd hx
 rwa [e] at this
end
end Go.Hy
namespace Go.Hy
section
variable {P : Program} [Tab P] {σ : Nat → Value} {ty : TypeId} {x y : Operand}
end
end Go.Hy
namespace Go.Hy
open Go Go.ChangeShapes Go.WideShapes Go.RowKit
/-! ### A law's arguments, one by one -/
variable {P : Program} {H : Type} {enc : TypeId × Value → H} {W : World} {base : Nat} {v : Value} {d : DataW H} {ps : List MemPlace}
theorem B5z {t : TypeId} {ts : List TypeId} {ds : List (DataW H)} (h : ∀ x, x ∈ DataW.weightsEach P (t :: ts) (d :: ds) → x ≤ reach) : B5o P t d ∧ ∀ x, x ∈ DataW.weightsEach P ts ds → x ≤ reach :=
 ⟨fun x hx => h x (by simp only [DataW.weightsEach, List.mem_append]; exact .inl hx), fun x hx => h x (by simp only [DataW.weightsEach, List.mem_append]; exact .inr hx)⟩
theorem C3j {t : TypeId} {ts : List TypeId} {vs : List Value} {ds : List (DataW H)} (h : DataW.TrodAll enc P W 0 (fun _ => true) true (t :: ts) vs ds ps) :
  ∃ v vs' d ds' p q, vs = v :: vs' ∧ ds = d :: ds' ∧ DataW.Trod enc P W 0 (fun _ => true) true t v d p ∧ DataW.TrodAll enc P W 0 (fun _ => true) true ts vs' ds' q := by
 obtain ⟨v, vs1, d, ds1, a, b, h1, h2, h3, h4, h5⟩ := trodAll_cons h
 exact ⟨v, vs1, d, ds1, a, b, h1, h2, h4, h5⟩
theorem E0u {vs : List Value} {ds : List (DataW H)} (h : DataW.TrodAll enc P W 0 (fun _ => true) true [] vs ds ps) : vs = [] := by
 obtain ⟨h1, _, _⟩ := trodAll_nil h
 exact h1
variable [TyF P]
theorem G4d {t : TypeId} (ht : t = TyF.tC P) (hval : Value.okWide P W .any base t v) (h : DataW.Trod enc P W 0 (fun _ => true) true t v d ps) (hl : B5o P t d) : ∃ c : Cl, v = .agg (A0r c).toArray ∧ u32 c := by
 subst ht
 obtain ⟨cs, rfl, _⟩ := okWide_struct TyF.uC hval
 obtain ⟨fuel, hf⟩ := h
 obtain ⟨c, h1, h2⟩ := E3k hf hl
 exact ⟨c, by rw [← h1]; simp [Value.cells], h2⟩
theorem G4c {t : TypeId} (ht : t = TyF.tT P) (hval : Value.okWide P W .any base t v) (h : DataW.Trod enc P W 0 (fun _ => true) true t v d ps) (hl : B5o P t d) : ∃ (u : T) (vr vk vs : SH), v = .agg (tc u vr vk vs).toArray ∧ A6w (okw W) u vr vk vs W := by
 subst ht
 obtain ⟨cs, rfl, _⟩ := okWide_struct TyF.uT hval
 obtain ⟨fuel, hf⟩ := h
 obtain ⟨⟨u, vr, vk, vs⟩, h1, h2⟩ := (C9s fuel).1 _ _ _ hf hl
 exact ⟨u, vr, vk, vs, by
  have h3 : (Value.agg cs).cells.toList = tc u vr vk vs := h1
  rw [← h3]; simp [Value.cells], h2⟩
end Go.Hy
namespace Go.Hy
/-! ### Several things that are owned, as one -/
def A6h (L : List Res) : Res := ⟨A2v L, fun w => (∀ m, m ∈ L → ∀ w', (∀ b, m.dom b → w'.heap[b]? = w.heap[b]?) → m.holds w') ∧ (L.Pairwise fun m m' => ∀ b, m.dom b → m'.dom b → False)⟩
section
variable {B : A6n} {Γ : List Fact} {Ms L L' : List Res} {w : World}
theorem St.pack (hs : St B Γ (L ++ Ms) w) : St B Γ (A6h L :: Ms) w := by
 have hd : ∀ b, A2v (A6h L :: Ms) b ↔ A2v (L ++ Ms) b := fun b => by rw [A5q, A4h]; exact Iff.rfl
 refine ⟨hs.chg, fun F hF => F.mono _ _ _ (fun b hb => ⟨hb.1, hb.2.1, fun hc => hb.2.2 ((hd b).mp hc)⟩) (hs.facts F hF), ?_, ?_, ?_⟩
 ·intro m hm w' hw
  rcases List.mem_cons.mp hm with e | hm
  ·subst e
   exact ⟨fun m hm w2 hw2 => hs.res m (List.mem_append_left _ hm) w2 (fun b hb => (hw2 b hb).trans (hw b ⟨m, hm, hb⟩)), (List.pairwise_append.mp hs.disj).1⟩
  ·exact hs.res m (List.mem_append_right _ hm) w' hw
 ·intro m hm b hb
  rcases List.mem_cons.mp hm with e | hm
  ·subst e
   obtain ⟨m', hm', hb'⟩ := hb
   exact hs.lt m' (List.mem_append_left _ hm') b hb'
  ·exact hs.lt m (List.mem_append_right _ hm) b hb
 ·refine List.pairwise_cons.mpr ⟨fun m hm b hb hb2 => ?_, (List.pairwise_append.mp hs.disj).2.1⟩
  obtain ⟨m', hm', hb'⟩ := hb
  exact (List.pairwise_append.mp hs.disj).2.2 m' hm' m hm b hb' hb2
theorem St.unpack (hs : St B Γ (A6h L :: Ms) w) : St B Γ (L ++ Ms) w := by
 have hd : ∀ b, A2v (A6h L :: Ms) b ↔ A2v (L ++ Ms) b := fun b => by rw [A5q, A4h]; exact Iff.rfl
 have hb0 := hs.res (A6h L) List.mem_cons_self w (fun _ _ => rfl)
 refine ⟨hs.chg, fun F hF => F.mono _ _ _ (fun b hb => ⟨hb.1, hb.2.1, fun hc => hb.2.2 ((hd b).mpr hc)⟩) (hs.facts F hF), ?_, ?_, ?_⟩
 ·intro m hm w' hw
  rcases List.mem_append.mp hm with hm | hm
  ·exact hb0.1 m hm w' hw
  ·exact hs.res m (List.mem_cons_of_mem _ hm) w' hw
 ·intro m hm b hb
  rcases List.mem_append.mp hm with hm | hm
  ·exact hs.lt (A6h L) List.mem_cons_self b ⟨m, hm, hb⟩
  ·exact hs.lt m (List.mem_cons_of_mem _ hm) b hb
 ·exact List.pairwise_append.mpr ⟨hb0.2, (List.pairwise_cons.mp hs.disj).2, fun m hm m' hm' b hb hb' => (List.pairwise_cons.mp hs.disj).1 m' hm' b ⟨m, hm, hb⟩ hb'⟩
theorem St.B5d (hs : St B Γ Ms w) : St B Γ (A6h [] :: Ms) w := St.pack (L := []) hs
theorem St.F5a (hs : St B Γ (A6h L :: A6h L' :: Ms) w) : St B Γ (A6h (L' ++ L) :: Ms) w := by
 have h1 := (hs.unpack.perm List.perm_middle).unpack
 exact St.pack (by rw [List.append_assoc]; exact h1)
end
/-! ### A term of the call's own: where all its rows lie -/
mutual
inductive HT where
 | mk (kind n : Int) (name : ByteArray) (r : List Cl) (vr : SH) (kids : List HT) (vk : SH) (sys : List HB) (vs : SH)
inductive HB where
 | mk (A1z : List Cl) (vf : SH) (kids : List HT) (vk : SH)
end
mutual
def HT.er : HT → T
 | .mk k n nm r _ ks _ ss _ => .mk k n nm r (HT.erL ks) (HT.erB ss)
def HT.erL : List HT → List T
 | [] => []
 | h :: hs => h.er :: HT.erL hs
def HT.erB : List HB → List Br
 | [] => []
 | .mk f _ ks _ :: bs => .mk f (HT.erL ks) :: HT.erB bs
end
def HB.er : HB → Br
 | .mk f _ ks _ => .mk f (HT.erL ks)
theorem HT.B0c : ∀ l : List HT, HT.erL l = l.map HT.er
 | [] => by simp [HT.erL]
 | h :: hs => by simp [HT.erL, HT.B0c hs]
theorem HT.C2f : ∀ l : List HB, HT.erB l = l.map HB.er
 | [] => by simp [HT.erB]
 | .mk f v ks u :: bs => by simp [HT.erB, HB.er, HT.C2f bs]
namespace HT
def vr : HT → SH | .mk _ _ _ _ v _ _ _ _ => v
def vk : HT → SH | .mk _ _ _ _ _ _ v _ _ => v
def vs : HT → SH | .mk _ _ _ _ _ _ _ _ v => v
def kids : HT → List HT | .mk _ _ _ _ _ ks _ _ _ => ks
def sys : HT → List HB | .mk _ _ _ _ _ _ _ ss _ => ss
def tp (h : HT) : TP := (h.er, h.vr, h.vk, h.vs)
end HT
namespace HB
def A1z : HB → List Cl | .mk f _ _ _ => f
def vf : HB → SH | .mk _ v _ _ => v
def kids : HB → List HT | .mk _ _ ks _ => ks
def vk : HB → SH | .mk _ _ _ v => v
def bp (b : HB) : BP := (b.er, b.vf, b.vk)
end HB
/-- The types of the rows' elements. -/
structure Tys where
 c : TypeId
 t : TypeId
 b : TypeId
mutual
def A7y (y : Tys) : HT → List Res
 | .mk _ _ _ r v ks u ss x => A1q 2 y.c v r.length (A0k r) :: A1q 6 y.t u ks.length (A2t (ks.map HT.tp)) :: A1q 2 y.b x ss.length (A8r (ss.map HB.bp)) :: (A5o y ks ++ C2v y ss)
def A5o (y : Tys) : List HT → List Res
 | [] => []
 | h :: hs => A7y y h ++ A5o y hs
def C2v (y : Tys) : List HB → List Res
 | [] => []
 | .mk f v ks u :: bs => (A1q 2 y.c v f.length (A0k f) :: A1q 6 y.t u ks.length (A2t (ks.map HT.tp)) :: A5o y ks) ++ C2v y bs
end
def brR (y : Tys) : HB → List Res
 | .mk f v ks u => A1q 2 y.c v f.length (A0k f) :: A1q 6 y.t u ks.length (A2t (ks.map HT.tp)) :: A5o y ks
theorem D6h (y : Tys) : ∀ l, A5o y l = l.flatMap (A7y y)
 | [] => by simp [A5o]
 | h :: hs => by simp [A5o, D6h y hs]
theorem E5u (y : Tys) : ∀ l, C2v y l = l.flatMap (brR y)
 | [] => by simp [C2v]
 | .mk f v ks u :: bs => by simp [C2v, brR, E5u y bs]
/-! What must be so of a term that lies in memory, of itself. -/
mutual
def okT : T → Prop
 | .mk k n nm r ks ss => A2j k ∧ A2j n ∧ nm.size ≤ A8p ∧ ((∀ c, c ∈ r → u32 c) ∧ r.length * 8 ≤ reach) ∧ ks.length * 104 ≤ reach ∧ ss.length * 48 ≤ reach ∧ okL ks ∧ okB ss
def okL : List T → Prop
 | [] => True
 | t :: ts => okT t ∧ okL ts
def okB : List Br → Prop
 | [] => True
 | .mk f ks :: bs => ((∀ c, c ∈ f → u32 c) ∧ f.length * 8 ≤ reach) ∧ ks.length * 104 ≤ reach ∧ okL ks ∧ okB bs
end
mutual
theorem D3e {ok : Nat → Prop} {w : World} : ∀ {t : T} {vr vk vs : SH}, A6w ok t vr vk vs w → okT t
 | .mk k n nm r ks ss, vr, vk, vs, h => by
  simp only [A6w] at h
  simp only [okT]
  obtain ⟨h1, h2, h3, h4, ⟨VR, VK, VS, h6, h7⟩, ⟨VF, VK', h9, h10⟩⟩ := h
  exact ⟨h1, h2, h3, ⟨h4.2, h4.1.2.1⟩, h6.2.1, h9.2.1, E3n h7, F1m h10⟩
theorem E3n {ok : Nat → Prop} {w : World} : ∀ {ts : List T} {VR VK VS : Nat → SH}, A8o ok ts VR VK VS w → okL ts
 | [], _, _, _, _ => by simp only [okL]
 | t :: ts, _, _, _, h => by
  simp only [A8o] at h
  simp only [okL]
  exact ⟨D3e h.1, E3n h.2⟩
theorem F1m {ok : Nat → Prop} {w : World} : ∀ {bs : List Br} {VF VK : Nat → SH}, A9q ok bs VF VK w → okB bs
 | [], _, _, _ => by simp only [okB]
 | .mk f ks :: bs, _, _, h => by
  simp only [A9q, C3d] at h
  simp only [okB]
  obtain ⟨⟨h1, ⟨VR, VK, VS, h2, h3⟩⟩, h4⟩ := h
  exact ⟨⟨h1.2, h1.1.2.1⟩, h2.2.1, E3n h3, F1m h4⟩
end
theorem C1d {K S M : List Res} {a : Res} : (K ++ (S ++ a :: M)).Perm (a :: (K ++ (S ++ M))) := (List.perm_middle.append_left K).trans List.perm_middle
/-! A term of the call's own becomes known for good. -/
section
variable {B : A6n} {Γ : List Fact} {Ms : List Res} {w : World}
mutual
theorem St.B0q (y : Tys) {hBp : Prop} (hB : hBp) : ∀ (h : HT) {Γ : List Fact} {Ms : List Res}, okT h.er → St B Γ (A7y y h ++ Ms) w → St B (RT h.er h.vr h.vk h.vs :: Γ) Ms w
 | .mk k n nm r v ks u ss x, Γ, Ms, hok, hs => by
  simp only [HT.er, okT] at hok
  obtain ⟨o1, o2, o3, o4, o5, o6, o7, o8⟩ := hok
  simp only [A7y, List.cons_append, List.append_assoc] at hs
  have h1 := hs.A1g (l := r) hB rfl rfl o4.2 o4.1
  -- the rows of kids and branches wait behind the parts
  have h2 : St B (CL r v :: Γ) (A5o y ks ++ (C2v y ss ++ (A1q 6 y.t u ks.length (A2t (ks.map HT.tp)) :: A1q 2 y.b x ss.length (A8r (ss.map HB.bp)) :: Ms))) w := by
   exact h1.perm (((C1d.trans (C1d.cons _))).symm)
  have h3 := St.C5w y hB ks [] (by rw [HT.B0c] at o7; exact o7) (by simpa using h2.D9w)
  have h4 := St.D4v y hB ss [] (by rw [HT.C2f] at o8; exact o8) (h3.F4y)
  have h5 := h4.B3w (ps := ks.map HT.tp) (ts := ks.map HT.er) hB (by simp) rfl (by simp [HT.tp, Function.comp_def]) (by simp) (by rw [HT.B0c, List.length_map] at o5; exact o5)
  have h6 := h5.C5x (ps := ss.map HB.bp) (bs := ss.map HB.er) hB (by simp) rfl (by simp [HB.bp, Function.comp_def]) (by simp) (by rw [HT.C2f, List.length_map] at o6; exact o6)
  have h7 := h6.F3y (k := k) (n := n) (nm := nm) (r := r) (vr := v) (ks := ks.map HT.er) (vk := u) (ss := ss.map HB.er) (vs := x) o1 o2 o3 (by simp) (by simp) (by simp)
  simp only [HT.er, HT.B0c, HT.C2f, HT.vr, HT.vk, HT.vs]
  exact h7.less (by simp +contextual)
theorem St.C5w (y : Tys) {hBp : Prop} (hB : hBp) : ∀ (ks : List HT) (ps : List TP) {Γ : List Fact} {Ms : List Res}, okL (ks.map HT.er) → St B (AP ps :: Γ) (A5o y ks ++ Ms) w → St B (AP (ps ++ ks.map HT.tp) :: Γ) Ms w
 | [], ps, Γ, Ms, hok, hs => by simpa [A5o] using hs
 | h :: hs', ps, Γ, Ms, hok, hs => by
  simp only [List.map_cons, okL] at hok
  simp only [A5o, List.append_assoc] at hs
  have h1 := St.B0q y hB h hok.1 hs
  have h2 := h1.D9x (ps := ps) (t := h.er) (vr := h.vr) (vk := h.vk) (vs := h.vs) (by simp) (by simp)
  have h3 := St.C5w y hB hs' (ps ++ [h.tp]) (Γ := Γ) hok.2 (h2.less (by simp +contextual [HT.tp]))
  simpa using h3
theorem St.D4v (y : Tys) {hBp : Prop} (hB : hBp) : ∀ (bs : List HB) (ps : List BP) {Γ : List Fact} {Ms : List Res}, okB (bs.map HB.er) → St B (BPs ps :: Γ) (C2v y bs ++ Ms) w → St B (BPs (ps ++ bs.map HB.bp) :: Γ) Ms w
 | [], ps, Γ, Ms, hok, hs => by simpa [C2v] using hs
 | .mk f v ks u :: bs, ps, Γ, Ms, hok, hs => by
  simp only [List.map_cons, HB.er, okB] at hok
  obtain ⟨o1, o2, o3, o4⟩ := hok
  simp only [C2v, List.cons_append, List.append_assoc] at hs
  have h1 := hs.A1g (l := f) hB rfl rfl o1.2 o1.1
  have h2 : St B (CL f v :: BPs ps :: Γ) (A5o y ks ++ (A1q 6 y.t u ks.length (A2t (ks.map HT.tp)) :: (C2v y bs ++ Ms))) w := h1.perm (by exact List.perm_middle.symm)
  have h3 := St.C5w y hB ks [] (by rw [HT.B0c] at o3; exact o3) (by simpa using h2.D9w)
  have h4 := h3.B3w (ps := ks.map HT.tp) (ts := ks.map HT.er) hB (by simp) rfl (by simp [HT.tp, Function.comp_def]) (by simp) (by rw [HT.B0c, List.length_map] at o2; exact o2)
  have h5 := h4.F4z (ps := ps) (f := f) (ks := ks.map HT.er) (vf := v) (vk := u) (by simp) (by simp) (by simp)
  have h6 := St.D4v y hB bs (ps ++ [(.mk f (ks.map HT.er), v, u)]) (Γ := Γ) o4 (h5.less (by simp +contextual))
  simpa [HB.bp, HB.er, HB.vf, HB.vk, HT.B0c] using h6
end
end
end Go.Hy
namespace Go.Hy
section
variable {B : A6n} {Γ : List Fact} {Ms K S : List Res} {w : World} {a b c : Res}
theorem St.G1k (hs : St B Γ (a :: b :: c :: A6h K :: A6h S :: Ms) w) : St B Γ (A6h (a :: b :: c :: (K ++ S)) :: Ms) w := by
 have h1 : St B Γ (A6h K :: A6h S :: a :: b :: c :: Ms) w := hs.perm (A6i.trans (A6i.cons _))
 have h2 : St B Γ (A6h S :: (K ++ a :: b :: c :: Ms)) w := h1.unpack.perm List.perm_middle
 have h3 : St B Γ (K ++ (S ++ a :: b :: c :: Ms)) w := h2.unpack.perm (by rw [← List.append_assoc, ← List.append_assoc]; exact List.perm_append_comm.append_right _)
 exact St.pack (L := a :: b :: c :: (K ++ S)) (by
  simp only [List.cons_append, List.append_assoc]
  exact h3.perm (C1d.trans ((C1d.trans (C1d.cons _)).cons _)))
theorem St.G1l (hs : St B Γ (a :: b :: A6h K :: A6h S :: Ms) w) : St B Γ (A6h (S ++ (a :: b :: K)) :: Ms) w := by
 have h1 : St B Γ (A6h K :: A6h S :: a :: b :: Ms) w := hs.perm (A4n.trans (A4n.cons _))
 have h2 : St B Γ (A6h S :: (K ++ a :: b :: Ms)) w := h1.unpack.perm List.perm_middle
 have h3 : St B Γ (S ++ (K ++ a :: b :: Ms)) w := h2.unpack
 exact St.pack (L := S ++ (a :: b :: K)) (by
  have : (S ++ a :: b :: K) ++ Ms = S ++ (a :: b :: (K ++ Ms)) := by simp
  rw [this]
  exact h3.perm ((List.perm_middle.trans (List.perm_middle.cons _)).append_left S))
theorem St.E9c {y : Tys} {hs : List HT} {h : HT} (h0 : St B Γ (A6h (A7y y h) :: A6h (A5o y hs) :: Ms) w) : St B Γ (A6h (A5o y (hs ++ [h])) :: Ms) w := by
 have := h0.F5a
 rwa [show A5o y hs ++ A7y y h = A5o y (hs ++ [h]) by simp [D6h]] at this
theorem St.F4j {y : Tys} {bs : List HB} {f : List Cl} {v u : SH} {ks : List HT} {n m : Nat} {fl tl : List Value} (hn : n = f.length) (hm : m = ks.length) (hf : fl = A0k f) (ht : tl = A2t (ks.map HT.tp)) (h0 : St B Γ (A1q 2 y.c v n fl :: A1q 6 y.t u m tl :: A6h (A5o y ks) :: A6h (C2v y bs) :: Ms) w) : St B Γ (A6h (C2v y (bs ++ [.mk f v ks u])) :: Ms) w := by
 subst hn; subst hm; subst hf; subst ht
 have := h0.G1l
 rwa [show C2v y bs ++ (A1q 2 y.c v f.length (A0k f) :: A1q 6 y.t u ks.length (A2t (ks.map HT.tp)) :: A5o y ks) = C2v y (bs ++ [.mk f v ks u]) by simp [E5u, brR]] at this
theorem St.E9a {y : Tys} {k n : Int} {nm : ByteArray} {r : List Cl} {v u x : SH} {ks : List HT} {ss : List HB} {n1 n2 n3 : Nat} {l1 l2 l3 : List Value} (e1 : n1 = r.length) (e2 : n2 = ks.length) (e3 : n3 = ss.length) (f1 : l1 = A0k r) (f2 : l2 = A2t (ks.map HT.tp)) (f3 : l3 = A8r (ss.map HB.bp))
  (h0 : St B Γ (A1q 2 y.c v n1 l1 :: A1q 6 y.t u n2 l2 :: A1q 2 y.b x n3 l3 :: A6h (A5o y ks) :: A6h (C2v y ss) :: Ms) w) : St B Γ (A6h (A7y y (.mk k n nm r v ks u ss x)) :: Ms) w := by
 subst e1; subst e2; subst e3; subst f1; subst f2; subst f3
 simpa only [A7y] using h0.G1k
end
end Go.Hy
namespace Go.Hy
/-! ### Reading and writing in rows of the call's own -/
def setAt (cur : List Value) (o : Nat) (vs : List Value) : List Value := cur.take o ++ vs ++ cur.drop (o + vs.length)
theorem C8t {cur vs : List Value} {o : Nat} (h : o + vs.length ≤ cur.length) : (setAt cur o vs).length = cur.length := by
 simp [setAt]; omega
theorem D7s {cur rest : List Value} {v : Value} {o : Nat} (h : o + rest.length + 1 ≤ cur.length) : setAt (cur.set o v) (o + 1) rest = setAt cur o (v :: rest) := by
 unfold setAt
 have h1 : (cur.set o v).take (o + 1) = cur.take o ++ [v] := by
  rw [List.take_add_one, List.take_set_of_le (Nat.le_refl o)]
  simp [show o < cur.length by omega]
 rw [h1, List.drop_set_of_lt (by omega)]
 simp only [List.length_cons, List.append_assoc, List.singleton_append]
 rw [show o + 1 + rest.length = o + (rest.length + 1) by omega]
theorem B8w {P : Program} (g : Nat) (t : TypeId) (off : Nat) : ∀ (vs : List Value) (i : Nat) (cur : List Value) (w : World), w.heap[g]? = some (.cells cur.toArray t (0, 0)) → off + i + vs.length ≤ cur.length → (∀ v, v ∈ vs → v.oneCell' = true) →
  ∃ w', (storeCells ⟨g, off, none⟩ vs i).run P w = .ok () w' ∧ w'.heap[g]? = some (.cells (setAt cur (off + i) vs).toArray t (0, 0)) ∧ Chg (fun x => x = g) w w'
 | [], i, cur, w, hg, hl, _ => ⟨w, rfl, by simpa [setAt] using hg, Chg.refl _ _⟩
 | v :: rest, i, cur, w, hg, hl, h1 => by
  have hi : off + i < cur.length := by simp at hl; omega
  have hadd : (⟨g, off, none⟩ : Addr).add i = ⟨g, off + i, none⟩ := Addr.add_lit ..
  have hcell : w.cell? ⟨g, off + i, none⟩ = some cur[off + i] := by simp [World.cell?, hg, hi]
  have hfro : w.frozen? ⟨g, off + i, none⟩ = false := by simp [World.frozen?, hg]
  have hst : (store ((⟨g, off, none⟩ : Addr).add i) v).run P w = .ok () (w.setCell ⟨g, off + i, none⟩ v) := by
   rw [hadd, run_store P w _ v _ (h1 v (by simp)), hcell]
   simp [hfro]
  have hg2 : (w.setCell ⟨g, off + i, none⟩ v).heap[g]? = some (.cells (cur.set (off + i) v).toArray t (0, 0)) := by
   rw [C0u v hg]; simp
  obtain ⟨w', h2, h3, h4⟩ := B8w g t off rest (i + 1) (cur.set (off + i) v) _ hg2 (by simp at hl ⊢; omega) (fun u hu => h1 u (List.mem_cons_of_mem _ hu))
  refine ⟨w', ?_, ?_, (Chg.setCell w g (off + i) v).trans h4 (fun b hb => .inl hb)⟩
  ·simp only [storeCells]
   rw [A0m hst]; exact h2
  ·rw [h3, show off + (i + 1) = off + i + 1 by omega, D7s (by simp at hl; omega)]
theorem C9p {w : World} {e : TypeId} {sz n : Nat} {a : SH} {xs : List Value} (h : w.ownsRow 0 e sz (sl a n) n xs) (hn : 0 < n) : ∃ g cur, a.1 = some ⟨g, 0, none⟩ ∧ w.heap[g]? = some (.cells cur e (0, 0)) ∧ n ≤ a.2 ∧ a.2 ≤ maxLen ∧ cur.size = a.2 * sz ∧ cur.toList.take (n * sz) = xs ∧ xs.length = n * sz := by
 obtain ⟨ao, ac⟩ := a
 rcases h.2 with ⟨h1, h2⟩ | ⟨g, cap, cur, h1, h2, h3, h4, h5, h6, h7⟩
 ·omega
 ·have e1 : ao = some ⟨g, 0, none⟩ := by injection h1
  have e2 : ac = cap := by injection h1
  subst e1; subst e2
  exact ⟨g, cur, rfl, h3, h4, h5, h6, h7, h.1⟩
section
variable {B : A6n} {Γ : List Fact} {Ms Ms2 : List Res} {w : World}
theorem St.D2o {sz n : Nat} {e : TypeId} {a : SH} {xs : List Value} (hs : St B Γ Ms w) (hm : A1q sz e a n xs ∈ Ms) (hn : 0 < n) : ∃ g, a.1 = some ⟨g, 0, Option.none⟩ := by
 obtain ⟨g, cur, h1, _⟩ := C9p (hs.res _ hm w (fun _ _ => rfl)) hn
 exact ⟨g, h1⟩
theorem St.F2y {sz n g j : Nat} {e : TypeId} {a : SH} {xs : List Value} {v : Value} (hs : St B Γ Ms w) (hm : A1q sz e a n xs ∈ Ms) (ha : a.1 = some ⟨g, 0, Option.none⟩) (hj : xs[j]? = some v) : w.cell? ⟨g, j, Option.none⟩ = some v := by
 have hown : w.ownsRow 0 e sz (sl a n) n xs := hs.res _ hm w (fun _ _ => rfl)
 have hb : (sl a n).ownBlock = some g := by obtain ⟨ao, ac⟩ := a; simp only at ha; subst ha; rfl
 have := hown.cells hb j v hj
 rwa [Addr.add_lit, Nat.zero_add] at this
theorem D6n {α : Type} {F : α → List Value} {sz : Nat} (hF : ∀ x, (F x).length = sz) : ∀ (l : List α) (i : Nat) (x : α), i < l.length → (l.set i x).flatMap F = setAt (l.flatMap F) (i * sz) (F x)
 | [], i, x, h => by simp at h
 | a :: l, 0, x, _ => by
  have ha := hF a
  have hx := hF x
  simp [setAt, hx, List.drop_append, ha]
 | a :: l, i + 1, x, h => by
  have ha := hF a
  have hx := hF x
  simp only [List.set_cons_succ, List.flatMap_cons, D6n hF l i x (by simpa using h)]
  unfold setAt
  rw [Nat.add_mul, Nat.one_mul, hx]
  have t1 : (F a).take (i * sz + sz) = F a := List.take_of_length_le (by omega)
  have t2 : (F a).drop (i * sz + sz + sz) = [] := List.drop_of_length_le (by omega)
  rw [List.take_append, List.drop_append, ha, t1, t2, show i * sz + sz - sz = i * sz by omega, show i * sz + sz + sz - sz = i * sz + sz by omega]
  simp
theorem D7r {cur vs : List Value} {o m : Nat} (h : o + vs.length ≤ m) (hm : m ≤ cur.length) : (setAt cur o vs).take m = setAt (cur.take m) o vs := by
 unfold setAt
 have a1 : (cur.take m).take o = cur.take o := by rw [List.take_take, Nat.min_eq_left (by omega)]
 have a2 : (cur.take m).drop (o + vs.length) = (cur.drop (o + vs.length)).take (m - (o + vs.length)) := List.drop_take ..
 have len : (cur.take o ++ vs).length = o + vs.length := by simp; omega
 have a3 : (cur.take o ++ vs).take m = cur.take o ++ vs := List.take_of_length_le (by omega)
 rw [a1, a2, List.take_append, len, a3]
/-- Cells of an element of a row are written. -/
theorem St.E7l {sz n g o : Nat} {e : TypeId} {a : SH} {xs vs : List Value} {P : Program} (hs : St B Γ (A1q sz e a n xs :: Ms2) w) (ha : a.1 = some ⟨g, 0, Option.none⟩) (hn : 0 < n) (ho : o + vs.length ≤ n * sz) (h1 : ∀ v, v ∈ vs → v.oneCell' = true) :
  ∃ w', (storeCells ⟨g, o, Option.none⟩ vs).run P w = .ok () w' ∧ St B Γ (A1q sz e a n (setAt xs o vs) :: Ms2) w' := by
 obtain ⟨g', cur, e1, e2, e3, e4, e5, e6, e7⟩ := C9p (hs.res _ List.mem_cons_self w (fun _ _ => rfl)) hn
 rw [ha] at e1
 injection e1 with e1; injection e1 with e1
 subst e1
 have hcl : cur.toList.length = cur.size := by simp
 have hle : n * sz ≤ cur.size := by rw [e5]; exact Nat.mul_le_mul_right sz e3
 obtain ⟨w', h2, h3, h4⟩ := B8w (P := P) g e o vs 0 cur.toList w (by simpa using e2) (by rw [hcl]; omega) h1
 rw [Nat.add_zero] at h3
 refine ⟨w', h2, hs.A9b ?_ (fun w2 hw2 => ?_) (fun b hb => ?_)⟩
 ·refine h4.mono (fun b hb => ?_)
  subst hb
  show (sl a n).ownBlock = some b
  obtain ⟨ao, ac⟩ := a; simp only at ha; subst ha; rfl
 ·have hb : (sl a n).ownBlock = some g := by obtain ⟨ao, ac⟩ := a; simp only at ha; subst ha; rfl
  refine ⟨by rw [C8t (by omega)]; exact e7, .inr ⟨g, a.2, (setAt cur.toList o vs).toArray, ?_, Nat.zero_le _, (hw2 g hb).trans h3, e3, e4, ?_, ?_⟩⟩
  ·obtain ⟨ao, ac⟩ := a; simp only at ha; subst ha; rfl
  ·rw [List.size_toArray, C8t (by rw [hcl]; omega), hcl, e5]
  ·rw [← e6]
   exact D7r (by omega) (by rw [hcl]; omega)
 ·have hb : (sl a n).ownBlock = some b := hb
  have hb2 : b = g := by
   obtain ⟨ao, ac⟩ := a; simp only at ha; subst ha
   have : some g = some b := hb
   injection this with this; exact this.symm
  subst hb2
  exact ⟨(Array.getElem?_eq_some_iff.mp h3).1, .inl hb⟩
end
section
variable {P : Program} [Tab P] {B : A6n} {Γ : List Fact} {Ms Ms2 : List Res} {σ : Nat → Value} {ty : TypeId} {x y : Operand} {v : Value}
/-- One cell of it. -/
theorem E8t {α : Type} {F : α → List Value} {sz : Nat} (hF : ∀ x, (F x).length = sz) (d0 : α) {t e : TypeId} {d : TypeDesc} {g i k n : Nat} {a : SH} {l : List α} (hx : ev σ x = .pointer (some ⟨g, 0 + i * sz + k, none⟩)) (hm : A1q sz e a n (l.flatMap F) ∈ Ms) (ha : a.1 = some ⟨g, 0, none⟩) (hu : Tab.und P t = some d) (hd : (match d with | .struct _ | .array _ _ => true | _ => false) = false) (hlt : i < l.length) (hk : (F (l.getD i d0))[k]? = some v) :
  B2u P B σ Γ Ms (.load t x) ty v := fun w hs => by
 have h3 := hs.F2y hm ha (C6x hF d0 l i k v hlt hk)
 rw [Nat.zero_add] at hx
 simp [opr, execOp, hx, Instr.loadAt, Instr.sureAddr, A4m hu hd h3]
theorem F7y {α : Type} {F : α → List Value} (hF : ∀ x, (F x).length = 1) (d0 : α) {t e : TypeId} {d : TypeDesc} {g i n : Nat} {a : SH} {l : List α} (hx : ev σ x = .pointer (some ⟨g, 0 + i * 1, none⟩)) (hm : A1q 1 e a n (l.flatMap F) ∈ Ms) (ha : a.1 = some ⟨g, 0, none⟩) (hu : Tab.und P t = some d) (hd : (match d with | .struct _ | .array _ _ => true | _ => false) = false) (hlt : i < l.length) (hk : (F (l.getD i d0))[0]? = some v) :
  B2u P B σ Γ Ms (.load t x) ty v := by
 have hx' : ev σ x = .pointer (some ⟨g, 0 + i * 1 + 0, none⟩) := hx
 exact E8t hF d0 hx' hm ha hu hd hlt hk
/-- An element is written whole. -/
theorem F2n {α : Type} {F : α → List Value} {sz : Nat} (hF : ∀ x, (F x).length = sz) {t e : TypeId} {bt g i n : Nat} {a : SH} {zv : Value} {l : List α} (u : α) (hx : ev σ x = .pointer (some ⟨g, 0 + i * sz, none⟩)) (hm : Ms.Perm (A1q sz e a n (l.flatMap F) :: Ms2)) (ha : a.1 = some ⟨g, 0, none⟩) (hn : n = l.length) (hy : (ev σ y).cells = (F u).toArray) (hi : Tab.inf P t = some (sz, bt, zv)) (h1 : A9d (F u) = true) (hlt : i < l.length) :
  C5i P B σ Γ Ms (.store t x y) ty Γ (A1q sz e a n ((l.set i u).flatMap F) :: Ms2) := fun w hs => by
 have hs' := hs.perm hm
 have hmul : i * sz + sz ≤ n * sz := by
  have := Nat.mul_le_mul_right sz (show i + 1 ≤ n by omega)
  rwa [Nat.add_mul, Nat.one_mul] at this
 obtain ⟨w', hr, h2⟩ := hs'.E7l (P := P) (vs := F u) (o := i * sz) ha (by omega) (by rw [hF]; exact hmul) (fun v hv => List.all_eq_true.mp h1 v hv)
 refine ⟨w', ?_, by rw [D6n hF l i u hlt]; exact h2⟩
 have hr2 : (storeVar t ⟨g, 0 + i * sz, none⟩ (ev σ y)).run P w = .ok () w' := by
  unfold storeVar
  rw [A0m (A5w hi w)]
  simp only [hy, List.size_toArray, hF, ne_eq, not_true, if_false, Nat.zero_add]
  exact hr
 rw [Nat.zero_add] at hr2 hx
 simp [opr, execOp, hx, Instr.storeAt, Instr.sureAddr, hr2]
end
end Go.Hy
namespace Go.Hy
section
variable {P : Program} {f : FuncId} {R : Ending → World → Prop} {B : A6n} {n : Fz} {K : List Item} {σ : Nat → Value} {Γ LF : List Fact} {Ms Ms2 Ms' : List Res} {todo : List Item} {w : World}
/-- What is owned, said in other words. -/
theorem B5r (h : Ms = Ms') (k : GoT P f R B n todo σ Γ Ms') : GoT P f R B n todo σ Γ Ms := h ▸ k
/-- A variable that is written no more. -/
theorem St.A2n {b : Nat} {cs : List Value} {T : TypeId} {hBp : Prop} (hB : hBp) (hs : St B Γ (A1t b cs T :: Ms) w) : St B (At b 0 cs :: Γ) Ms w := by
 refine hs.B7p hB (fun ok hok hh => ⟨hok b rfl, fun j v hj => ?_⟩)
 have hh : w.heap[b]? = some (.cells cs.toArray T (0, 0)) := hh
 simp [World.cell?, hh, hj]
end
end Go.Hy
namespace Go.Hy
section
variable {B : A6n} {Γ : List Fact} {Ms K S : List Res} {w : World} {a b c : Res}
def h0 : HT := .mk 0 0 (ByteArray.mk #[]) [] (none, 0) [] (none, 0) [] (none, 0)
def hb0 : HB := .mk [] (none, 0) [] (none, 0)
theorem B0t {α : Type} (d : α) {l : List α} {i : Nat} (h : i < l.length) : l.drop i = l.getD i d :: l.drop (i + 1) := by
 rw [List.drop_eq_getElem_cons h, List.getD_eq_getElem?_getD, List.getElem?_eq_getElem h]; rfl
theorem Spec.conv {P : Program} {k : FuncId} {args args' : Array Value} {pre : List Fact} {Ms0 Ms0' : List Res} {X : Type} {val : X → Value} {N : X → List Fact} {Ms1 : X → List Res} (h : Spec P k args pre Ms0 val N Ms1) (ha : args = args') (hd : ∀ b, A2v Ms0' b ↔ A2v Ms0 b) (hs : ∀ B w, St B pre Ms0' w → St B pre Ms0 w) : Spec P k args' pre Ms0' val N Ms1 := by
 subst ha
 have e : A2v Ms0' = A2v Ms0 := funext fun b => propext (hd b)
 intro ok w hok hst
 rw [e] at hst ⊢
 exact h ok w (fun b hb => ⟨(hok b hb).1, fun hc => (hok b hb).2 ((hd b).2 hc)⟩) (hs _ _ hst)
mutual
theorem HT.G5a {P : HT → Prop} (h : ∀ k n nm r v ks u ss x, (∀ c, c ∈ ks → P c) → P (.mk k n nm r v ks u ss x)) : ∀ t, P t
 | .mk k n nm r v ks u ss x => h k n nm r v ks u ss x (HT.F5m h ks)
theorem HT.F5m {P : HT → Prop} (h : ∀ k n nm r v ks u ss x, (∀ c, c ∈ ks → P c) → P (.mk k n nm r v ks u ss x)) : ∀ ts : List HT, ∀ c, c ∈ ts → P c
 | [], _, hc => by cases hc
 | t :: ts, c, hc => by
  rcases List.mem_cons.mp hc with e | hc
  ·rw [e]; exact HT.G5a h t
  ·exact HT.F5m h ts c hc
end
end
end Go.Hy
namespace Go.Hy
theorem E4e {P : Program} {σ : Nat → Value} {op : Op} {ty : TypeId} {p q : Prop} [Decidable p] [Decidable q] (h : p ↔ q) (hp : A3j P σ op ty (.bool (decide p))) : A3j P σ op ty (.bool (decide q)) := by
 rwa [decide_eq_decide.mpr h] at hp
/-! Wrappers of further rules (printed by a program of this repository). -/
section
variable {tn : Bool} {pn : Nat} {P : Program} [Tab P] {f : FuncId} {R : Ending → World → Prop} {B : A6n} {n : Fz} {K : List Item} {ops : Array Oper} {i : Nat} {l fin : List Nat} {σ : Nat → Value} {Γ : List Fact} {Ms Ms2 : List Res}
variable {dst : Option Tmp} {op : Op} {ty : TypeId} {pos : String} {after : Array Edge} {v : Value} {x y z : Operand}
theorem E3q {t t' : TypeId} {k2 : IntKind} {a m : Nat} (k_ : RgT P f R B n K ops l (A1u σ dst (.int .u64 ((a * 2 ^ m : Nat) : Int))) Γ Ms) (hx : ev σ x = .int .u64 (a : Int) := by exact wn_) (hy : ev σ y = .int k2 (m : Int) := by exact wn_) (hm : m ≤ 64 := by first | assumption | omega) (hb : a * 2 ^ m < 18446744073709551616 := by first | assumption | omega) (hd : A0s n dst = true := by rfl) : OpT P f R B n K ops l (opr dst (.binOp .shl t x y t') ty) σ Γ Ms := A1o (F3h hx hy hm hb) hd k_
theorem F7j {t t' : TypeId} {a b : Nat} (k_ : RgT P f R B n K ops l (A1u σ dst (.int .u64 ((a - b : Nat) : Int))) Γ Ms) (hx : ev σ x = .int .u64 (a : Int) := by exact wn_) (hy : ev σ y = .int .u64 (b : Int) := by exact wn_) (h : b ≤ a := by first | assumption | omega) (ha : a < 18446744073709551616 := by first | assumption | omega) (hd : A0s n dst = true := by rfl) : OpT P f R B n K ops l (opr dst (.binOp .sub t x y t') ty) σ Γ Ms := A1o (F3f hx hy h ha) hd k_
theorem D5w {s d : TypeId} {a : Nat} (k_ : RgT P f R B n K ops l (A1u σ dst (.int .u32 (a : Int))) Γ Ms) (hx : ev σ x = .int .u64 (a : Int) := by exact wn_) (ha : a < 4294967296 := by first | assumption | omega) (hs : Tab.und P s = some (.int .u64) := by rfl) (hd' : Tab.und P d = some (.int .u32) := by rfl) (hd : A0s n dst = true := by rfl) : OpT P f R B n K ops l (opr dst (.convert s d x) ty) σ Γ Ms := A1o (E2y hs hd' hx ha) hd k_
theorem D5v {s d : TypeId} {a : Nat} (k_ : RgT P f R B n K ops l (A1u σ dst (.int .i64 (a : Int))) Γ Ms) (hx : ev σ x = .int .u32 (a : Int) := by exact wn_) (ha : a < 4294967296 := by first | assumption | omega) (hs : Tab.und P s = some (.int .u32) := by rfl) (hd' : Tab.und P d = some (.int .i64) := by rfl) (hd : A0s n dst = true := by rfl) : OpT P f R B n K ops l (opr dst (.convert s d x) ty) σ Γ Ms := A1o (E2t hs hd' hx ha) hd k_
theorem E8i {s d : TypeId} {a : Nat} (k_ : RgT P f R B n K ops l (A1u σ dst (.int .u32 (a : Int))) Γ Ms) (hx : ev σ x = .int .i64 (a : Int) := by exact wn_) (ha : a < 4294967296 := by first | assumption | omega) (hs : Tab.und P s = some (.int .i64) := by rfl) (hd' : Tab.und P d = some (.int .u32) := by rfl) (hd : A0s n dst = true := by rfl) : OpT P f R B n K ops l (opr dst (.convert s d x) ty) σ Γ Ms := A1o (E2v hs hd' hx ha) hd k_
theorem B1f {s d : TypeId} {a : Int} {m : Nat} (k_ : RgT P f R B n K ops l (A1u σ dst (.int .u64 (m : Int))) Γ Ms) (hx : ev σ x = .int .i64 a := by exact wn_) (ha : a = (m : Int) := by first | assumption | omega) (hm : m < 18446744073709551616 := by omega) (hs : Tab.und P s = some (.int .i64) := by rfl) (hd' : Tab.und P d = some (.int .u64) := by rfl) (hd : A0s n dst = true := by rfl) : OpT P f R B n K ops l (opr dst (.convert s d x) ty) σ Γ Ms := A1o (E2w hs hd' hx ha hm) hd k_
theorem E3w {t : TypeId} {d : TypeDesc} {bk o i' : Nat} {a : SH} {ls : List Int} (k_ : RgT P f R B n K ops l (A1u σ dst (.int .i64 (ls.getD i' 0))) Γ Ms) (hx : ev σ x = .pointer (some ⟨bk, o + i' * 1, none⟩) := by exact wn_) (hFa : IL ls a ∈ Γ ∧ a.1 = some ⟨bk, o, none⟩ := by exact ma0_) (hu : Tab.und P t = some d := by rfl) (hd' : (match d with | .struct _ | .array _ _ => true | _ => false) = false := by rfl) (hlt : i' < ls.length := by omega) (hd : A0s n dst = true := by rfl) : OpT P f R B n K ops l (opr dst (.load t x) ty) σ Γ Ms := A8b (F1s hx hFa.1 hFa.2 hu hd' hlt) hd k_
theorem F5w {t : TypeId} {d : TypeDesc} {bk o i' : Nat} {a : SH} {ls : List Int} (k_ : NV false pn P f R B n K ops fin l (A1u σ dst (.int .i64 (ls.getD i' 0))) Γ Ms) (hx : ev σ x = .pointer (some ⟨bk, o + i' * 1, none⟩) := by exact wn_) (hFa : IL ls a ∈ Γ ∧ a.1 = some ⟨bk, o, none⟩ := by exact ma0_) (hu : Tab.und P t = some d := by rfl) (hd' : (match d with | .struct _ | .array _ _ => true | _ => false) = false := by rfl) (hlt : i' < ls.length := by omega) (hd : A0s n dst = true := by rfl) : NvT false pn P f R B n K ops fin i l dst (.load t x) ty σ Γ Ms := B8a (F1s hx hFa.1 hFa.2 hu hd' hlt) rfl hd k_
theorem E0m {t e : TypeId} {s bt m c k : Nat} {zv : Value} {A : Option Addr} (k_ : NV tn pn P f R B n K ops fin l (A1u σ dst (.slice A k c)) Γ Ms) (hx : ev σ x = .slice A m c := by exact wn_) (hy : ev σ y = .int .i64 (k : Int) := by exact wn_) (hk : k ≤ c := by omega) (hu : Tab.und P t = some (.slice e) := by rfl) (hi : Tab.inf P e = some (s, bt, zv) := by rfl) (hd : A0s n dst = true := by rfl) : NvT tn pn P f R B n K ops fin i l dst (.slice t x none (some y) none) ty σ Γ Ms := A3r (D8h hu hi hx hy hk) hd k_
theorem E0l {t e : TypeId} {s bt m k : Nat} {zv : Value} {a : SH} (k_ : NV tn pn P f R B n K ops fin l (A1u σ dst (sl (C2h a s k) (m - k))) Γ Ms) (hx : ev σ x = sl a m := by rfl) (hy : ev σ y = .int .i64 (k : Int) := by exact wn_) (hk : k ≤ m := by omega) (hu : Tab.und P t = some (.slice e) := by rfl) (hi : Tab.inf P e = some (s, bt, zv) := by rfl) (hd : A0s n dst = true := by rfl) : NvT tn pn P f R B n K ops fin i l dst (.slice t x (some y) none none) ty σ Γ Ms := A3r (D8g hu hi hx hy hk) hd k_
theorem F1n {t t' : TypeId} {a b : Nat} (k_ : RgT P f R B n K ops l (A1u σ dst (.bool (decide (a < b)))) Γ Ms) (hx : ev σ x = .int .u32 (a : Int) := by exact wn_) (hy : ev σ y = .int .u32 (b : Int) := by exact wn_) (hd : A0s n dst = true := by rfl) : OpT P f R B n K ops l (opr dst (.binOp .lss t x y t') ty) σ Γ Ms := A1o (E4e (by omega) (E2q hx hy)) hd k_
theorem F3u {t t' : TypeId} {a b : Nat} (k_ : RgT P f R B n K ops l (A1u σ dst (.bool (decide (a = b)))) Γ Ms) (hx : ev σ x = .int .u32 (a : Int) := by exact wn_) (hy : ev σ y = .int .u32 (b : Int) := by exact wn_) (hd : A0s n dst = true := by rfl) : OpT P f R B n K ops l (opr dst (.binOp .eql t x y t') ty) σ Γ Ms := A1o (E4e (by omega) (D5k hx hy)) hd k_
theorem F6f {t e T' : TypeId} {ts : Array TypeId} {sz bt n' m c b : Nat} {zv : Value} {a : SH} {xs cs : List Value} (k_ : ∀ a' : SH, NV tn pn P f R B n K ops fin l (A1u σ dst (sl a' (n' + m))) Γ (A1q sz e a' (n' + m) (xs ++ cs) :: A1t b cs T' :: Ms2)) (hm : Ms.Perm (A1q sz e a n' xs :: A1t b cs T' :: Ms2) := by first | exact C6e | exact A0x | exact A4n | exact A6i | exact A5b | exact A5a | exact A3p) (hx : ev σ x = sl a n' := by rfl) (hy : ev σ y = .slice (some ⟨b, 0, none⟩) m c := by exact wn_) (hts : ts = #[t, t] := by rfl) (hu : Tab.und P t = some (.slice e) := by rfl) (hi : Tab.inf P e = some (sz, bt, zv) := by rfl) (hzs : zv.cells.size = sz := by rfl) (hsz : 0 < sz := by exact Nat.le_of_ble_eq_true rfl) (hl : cs.length = m * sz := by rfl) (h1 : A9d cs = true := by rfl) (hb : (n' + m) * bt ≤ 140737488355328 := by first | omega | (unfold reach at *; omega) | (unfold reach A8p at *; omega)) (hnm : n' + m ≤ 9223372036854775807 := by first | omega | (unfold reach at *; omega) | (unfold reach A8p at *; omega)) (hd : A0s n dst = true := by rfl) : NvT tn pn P f R B n K ops fin i l dst (.call { callee := .builtin .append, args := #[x, y], argTypes := ts }) ty σ Γ Ms := E4b (r := [A1q sz e a n' xs, A1t b cs T']) (r' := fun a' => [A1q sz e a' (n' + m) (xs ++ cs), A1t b cs T']) (fun M => E0x (List.Perm.refl _) hx hy hts hu hi hzs hsz hl h1 hb hnm) rfl hd hm k_
theorem D2c {t e : TypeId} {ts : Array TypeId} {bt n' : Nat} {zv : Value} {a b : SH} {xs : List Value} {ls : List Cl} (k_ : ∀ a' : SH, NV tn pn P f R B n K ops fin l (A1u σ dst (sl a' (n' + ls.length))) Γ (A1q 2 e a' (n' + ls.length) (xs ++ A0k ls) :: Ms2)) (hF : CL ls b ∈ Γ) (hm : Ms.Perm (A1q 2 e a n' xs :: Ms2) := by first | exact C6e | exact A0x | exact A4n | exact A6i | exact A5b | exact A5a | exact A3p) (hx : ev σ x = sl a n' := by rfl) (hy : ev σ y = sl b ls.length := by rfl) (hts : ts = #[t, t] := by rfl) (hu : Tab.und P t = some (.slice e) := by rfl) (hi : Tab.inf P e = some (2, bt, zv) := by rfl) (hzs : zv.cells.size = 2 := by rfl) (hb : (n' + ls.length) * bt ≤ 140737488355328 := by first | omega | (unfold reach at *; omega) | (unfold reach A8p at *; omega)) (hnm : n' + ls.length ≤ 9223372036854775807 := by first | omega | (unfold reach at *; omega) | (unfold reach A8p at *; omega)) (hd : A0s n dst = true := by rfl) : NvT tn pn P f R B n K ops fin i l dst (.call { callee := .builtin .append, args := #[x, y], argTypes := ts }) ty σ Γ Ms := E4b (r := [A1q 2 e a n' xs]) (r' := fun a' => [A1q 2 e a' (n' + ls.length) (xs ++ A0k ls)]) (fun M => D4s (List.Perm.refl _) hF hx hy hts hu hi hzs hb hnm) rfl hd hm k_
end
end Go.Hy
namespace Go.Hy
/-! Wrappers of rules for rows of the call's own (printed by a program of this repository). -/
section
variable {tn : Bool} {pn : Nat} {P : Program} [Tab P] {f : FuncId} {R : Ending → World → Prop} {B : A6n} {n : Fz} {K : List Item} {ops : Array Oper} {i : Nat} {l fin : List Nat} {σ : Nat → Value} {Γ : List Fact} {Ms Ms2 : List Res}
variable {dst : Option Tmp} {op : Op} {ty : TypeId} {pos : String} {after : Array Edge} {v : Value} {x y z : Operand}
theorem G1t {t : TypeId} {d : TypeDesc} {bk k : Nat} {cs : List Value} (k_ : RgT P f R B n K ops l (A1u σ dst v) Γ Ms) (hx : ev σ x = .pointer (some ⟨bk, k, none⟩) := by exact wn_) (hF : At bk 0 cs ∈ Γ := by repeat (first | exact List.mem_cons_self | apply List.mem_cons_of_mem)) (hu : Tab.und P t = some d := by rfl) (hd' : (match d with | .struct _ | .array _ _ => true | _ => false) = false := by rfl) (hk : cs[k]? = some v := by exact wn_) (hd : A0s n dst = true := by rfl) : OpT P f R B n K ops l (opr dst (.load t x) ty) σ Γ Ms := A8b (F1r (o := 0) (by rw [Nat.zero_add]; exact hx) hF hu hd' hk) hd k_
theorem B5t {t : TypeId} {d : TypeDesc} {bk k : Nat} {cs : List Value} (k_ : NV tn pn P f R B n K ops fin l (A1u σ dst v) Γ Ms) (hx : ev σ x = .pointer (some ⟨bk, k, none⟩) := by exact wn_) (hF : At bk 0 cs ∈ Γ := by repeat (first | exact List.mem_cons_self | apply List.mem_cons_of_mem)) (hu : Tab.und P t = some d := by rfl) (hd' : (match d with | .struct _ | .array _ _ => true | _ => false) = false := by rfl) (hk : cs[k]? = some v := by exact wn_) (hd : A0s n dst = true := by rfl) : NvT tn pn P f R B n K ops fin i l dst (.load t x) ty σ Γ Ms := D5x (F1r (o := 0) (by rw [Nat.zero_add]; exact hx) hF hu hd' hk) rfl hd k_
theorem D5u {t : TypeId} {l' : List (Nat × Nat)} {s bt bk k : Nat} {zv : Value} {cs cs' : List Value} (k_ : RgT P f R B n K ops l (A1u σ dst (.agg cs'.toArray)) Γ Ms) (hx : ev σ x = .pointer (some ⟨bk, k, none⟩) := by exact wn_) (hF : At bk 0 cs ∈ Γ := by repeat (first | exact List.mem_cons_self | apply List.mem_cons_of_mem)) (hu : Tab.lay P t = some l' := by rfl) (hi : Tab.inf P t = some (s, bt, zv) := by rfl) (hk : (cs.drop k).take s = cs' := by rfl) (hl : cs'.length = s := by rfl) (hd : A0s n dst = true := by rfl) : OpT P f R B n K ops l (opr dst (.load t x) ty) σ Γ Ms := A8b (F8f (o := 0) (by rw [Nat.zero_add]; exact hx) hF hu hi hk hl) hd k_
end
end Go.Hy
