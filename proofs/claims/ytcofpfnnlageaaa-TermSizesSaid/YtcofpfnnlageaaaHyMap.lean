/- Contracts of functions of this program, one theorem each (printed by a program of this repository). -/
import Derived.Test.YtcofpfnnlageaaaHyOpen
import Derived.DeepKeys4
import Derived.Carry
import Derived.WideLaws
import Derived.MapKept
namespace Go.Hy
set_option linter.unusedVariables false
set_option linter.unusedSimpArgs false
set_option linter.unusedSectionVars false
open Go
set_option linter.unusedVariables false
set_option linter.unusedSectionVars false
/-! ### A map from clauses to bools that has 'true' alone -/
abbrev keyV (c : Cl) : Value := .agg (clCells c).toArray
class TabM (P : Program) [TyF P] where
  law : WideMaps.KeyLaw P (TyF.tC P)
  kt : P.keyType (TyF.tC P) = true
  names : (TyF.fC P).all (·.name != "_") = true
  npos : 0 < P.types.size
section
variable {P : Program} [Tab P] [TyF P] [TabM P] {B : Base} {σ : Nat → Value} {Γ : List Fact} {Ms : List Res} {ty : TypeId} {x y z : Operand}
theorem keyOf_cl {c : Cl} (hc : u32 c) : ∃ l, keyOf P (TyF.tC P) (keyV c) = some l := by
  have hpos : ∃ D, P.types.size + 1 = D + 1 + 1 := ⟨P.types.size - 1, by have := TabM.npos (P := P); omega⟩
  obtain ⟨D, hD⟩ := hpos
  obtain ⟨f0, f1, hf, e0, e1⟩ : ∃ f0 f1, (TyF.fC P).toList = [f0, f1] ∧ (f0.offset, f0.type) = (0, TyF.tU P) ∧ (f1.offset, f1.type) = (1, TyF.tU P) := by
    have := TyF.pC (P := P)
    match hl : (TyF.fC P).toList, this with
    | [f0, f1], h => simp only [List.map_cons, List.map_nil, List.cons.injEq, and_true] at h; exact ⟨f0, f1, rfl, h.1, h.2⟩
    | [], h => simp at h
    | [_], h => simp at h
    | _ :: _ :: _ :: _, h => simp at h
  have o0 := (Prod.mk.inj e0).1
  have t0' := (Prod.mk.inj e0).2
  have o1 := (Prod.mk.inj e1).1
  have t1' := (Prod.mk.inj e1).2
  have hw : ∀ n : Nat, n < 4294967296 → (Lit.int .u32 (n : Int)).wf = true := by
    intro n hn
    have h1 : IntKind.u32.min = 0 := rfl
    have h2 : IntKind.u32.max = 4294967295 := rfl
    simp only [Lit.wf, h1, h2, Bool.and_eq_true, decide_eq_true_eq]; omega
  refine ⟨.string (keyBytes [.int .u32 (c.pos : Int), .int .u32 (c.neg : Int)]), ?_⟩
  unfold keyOf
  rw [TyF.uC]
  simp only [TabM.kt, Value.formed, TyF.uC, TyF.c2.1, clCells, List.size_toArray, List.length_cons, List.length_nil, beq_self_eq_true, Bool.and_self, if_true, Value.cells]
  rw [hD]
  simp [Program.keyLits, TyF.uC, TyF.c2.1, TabM.names, hf, o0, o1, t0', t1', TyF.c1.2.2.1, TyF.uU, hw _ hc.1, hw _ hc.2]
def mapR (b : Nat) (keys : List Cl) : Res := ⟨fun x => x = b, fun w => (∀ c, c ∈ keys → u32 c) ∧ ∃ es clock, w.heap[b]? = some (.map es clock) ∧ es.toList.map (·.key) = keys.map keyV ∧ ∀ e, e ∈ es.toList → e.val = .bool true⟩
theorem te_makeMap {t : TypeId} : TurnE P B σ Γ Ms (.makeMap t none) ty (fun b : Nat => .map (some b)) (fun _ => Γ) (fun b => mapR b [] :: Ms) := fun w hs => by
  refine ⟨w.heap.size, w.alloc (.map #[] 0), ?_, ?_⟩
  · have hr : (Instr.makeMap t none).run P w = .ok (.map (some w.heap.size)) (w.alloc (.map #[] 0)) := rfl
    simp [opr, execOp, hr]
  · refine hs.born (m := mapR w.heap.size []) (Chg.push _ w _) (fun w2 hw2 => ⟨fun c hc => (by cases hc), #[], 0, ?_, rfl, fun e he => by simp at he⟩) (fun b hb => ?_)
    · rw [hw2 _ rfl]
      show (w.heap.push (.map #[] 0))[w.heap.size]? = _
      simp
    · have hb : b = w.heap.size := hb
      subst hb
      exact ⟨by simp, Nat.le_refl _⟩
theorem keyV_inj {c d : Cl} : keyV c = keyV d ↔ c = d := by
  obtain ⟨p, n⟩ := c; obtain ⟨p', n'⟩ := d
  simp [keyV, clCells, Int.ofNat_inj]
theorem map_find {c : Cl} {keys : List Cl} {es : Array MapEntry} (hc : u32 c) (hk : ∀ d, d ∈ keys → u32 d) (he : es.toList.map (·.key) = keys.map keyV) (hv : ∀ e, e ∈ es.toList → e.val = .bool true) (w : World) :
    ((Instr.findKey (TyF.tC P) (keyV c) es.toList).run P w = .ok none w ∧ c ∉ keys) ∨ (∃ j, (Instr.findKey (TyF.tC P) (keyV c) es.toList).run P w = .ok (some (j, .bool true)) w) ∧ c ∈ keys := by
  obtain ⟨l, hl⟩ := keyOf_cl (P := P) hc
  have hall : ∀ e ∈ es.toList, ∃ l, keyOf P (TyF.tC P) e.key = some l := by
    intro e hme
    have : e.key ∈ keys.map keyV := he ▸ List.mem_map_of_mem hme
    obtain ⟨d, hd, e2⟩ := List.mem_map.mp this
    obtain ⟨l2, hl2⟩ := keyOf_cl (P := P) (hk d hd)
    exact ⟨l2, by rw [← e2]; exact hl2⟩
  rcases (TabM.law (P := P)).find w hl es.toList hall with ⟨h1, h2⟩ | ⟨j, e, h1, h2, h3⟩
  · refine .inl ⟨h1, fun hm => ?_⟩
    have : keyV c ∈ es.toList.map (·.key) := he ▸ List.mem_map_of_mem hm
    obtain ⟨e, hme, e2⟩ := List.mem_map.mp this
    exact h2 e hme e2
  · refine .inr ⟨⟨j, ?_⟩, ?_⟩
    · rw [hv e (List.mem_of_getElem? h2)] at h1; exact h1
    · have : e.key ∈ keys.map keyV := he ▸ List.mem_map_of_mem (List.mem_of_getElem? h2)
      rw [h3] at this
      obtain ⟨d, hd, e2⟩ := List.mem_map.mp this
      exact keyV_inj.mp e2 ▸ hd
theorem le_lookup {t e : TypeId} {s bt b : Nat} {c : Cl} {keys : List Cl} (hx : ev σ x = .map (some b)) (hm : mapR b keys ∈ Ms) (hc : u32 c) (hy : ev σ y = keyV c) (hu : Tab.und P t = some (.map (TyF.tC P) e)) (hi : Tab.inf P e = some (s, bt, .bool false)) :
    LoadE P B σ Γ Ms (.lookup t x y false) ty (.bool (decide (c ∈ keys))) := fun w hs => by
  obtain ⟨hk, es, clock, hb, he, hv⟩ : (∀ c, c ∈ keys → u32 c) ∧ ∃ es clock, w.heap[b]? = some (.map es clock) ∧ es.toList.map (·.key) = keys.map keyV ∧ ∀ e, e ∈ es.toList → e.val = .bool true := hs.res _ hm w (fun _ _ => rfl)
  obtain ⟨l, hl⟩ := keyOf_cl (P := P) hc
  have hch := (TabM.law (P := P)).check w es.isEmpty hl
  have hr : (Instr.lookup t (.map (some b)) (keyV c) false).run P w = .ok (.bool (decide (c ∈ keys))) w := by
    rcases map_find (P := P) hc hk he hv w with ⟨h1, h2⟩ | ⟨⟨j, h1⟩, h2⟩
    · simp [Instr.lookup, run_und0 hu, run_getObj_map w b es clock hb, hch, h1, run_zero0 hi, h2]
    · simp [Instr.lookup, run_und0 hu, run_getObj_map w b es clock hb, hch, h1, run_zero0 hi, h2]
  simp [opr, execOp, hx, hy, hr]
theorem se_mapUpdate {t e : TypeId} {b : Nat} {c : Cl} {keys : List Cl} {Ms2 : List Res} (hx : ev σ x = .map (some b)) (hm : Ms.Perm (mapR b keys :: Ms2)) (hc : u32 c) (hn : c ∉ keys) (hy : ev σ y = keyV c) (hz : ev σ z = .bool true) (hu : Tab.und P t = some (.map (TyF.tC P) e)) :
    StoreE P B σ Γ Ms (.mapUpdate t x y z) ty Γ (mapR b (keys ++ [c]) :: Ms2) := fun w hs => by
  have hs' := hs.perm hm
  obtain ⟨hk, es, clock, hb, he, hv⟩ : (∀ c, c ∈ keys → u32 c) ∧ ∃ es clock, w.heap[b]? = some (.map es clock) ∧ es.toList.map (·.key) = keys.map keyV ∧ ∀ e, e ∈ es.toList → e.val = .bool true := hs'.res _ List.mem_cons_self w (fun _ _ => rfl)
  obtain ⟨l, hl⟩ := keyOf_cl (P := P) hc
  have hch := (TabM.law (P := P)).check w false hl
  have hlt : b < w.heap.size := (Array.getElem?_eq_some_iff.mp hb).1
  have hb2 : w.heap[b] = .map es clock := (Array.getElem?_eq_some_iff.mp hb).2
  have hr : (Instr.mapUpdate t (.map (some b)) (keyV c) (.bool true)).run P w = .ok () { w with heap := w.heap.setIfInBounds b (.map (es.push { key := keyV c, val := .bool true, born := clock }) (clock + 1)) } := by
    rcases map_find (P := P) hc hk he hv w with ⟨h1, h2⟩ | ⟨⟨j, h1⟩, h2⟩
    · simp [Instr.mapUpdate, run_und0 hu, run_getObj_map w b es clock hb, hch, h1, setObj, Sem.run, hlt, hb2]
    · exact absurd h2 hn
  refine ⟨{ w with heap := w.heap.setIfInBounds b (.map (es.push { key := keyV c, val := .bool true, born := clock }) (clock + 1)) }, by simp [opr, execOp, hx, hy, hz, hr], ?_⟩
  refine hs'.turn (m' := mapR b (keys ++ [c])) ⟨rfl, rfl, rfl, by simp, fun k hk hn => by
    have hn : k ≠ b := hn
    simp [Array.getElem?_setIfInBounds, hn.symm]⟩ (fun w2 hw2 => ⟨fun d hd => ?_, es.push { key := keyV c, val := .bool true, born := clock }, clock + 1, ?_, ?_, ?_⟩) (fun k hk => ?_)
  · rcases List.mem_append.mp hd with hd | hd
    · exact hk d hd
    · rw [List.mem_singleton] at hd; exact hd ▸ hc
  · rw [hw2 b rfl]; simp [hlt]
  · simp [he]
  · intro e he2
    rw [Array.toList_push, List.mem_append, List.mem_singleton] at he2
    rcases he2 with h | h
    · exact hv e h
    · rw [h]
  · have hk2 : k = b := hk
    subst hk2
    exact ⟨by simpa using hlt, .inl rfl⟩
end
end Go.Hy
