/- Contracts of this program's functions and the laws that they need: a separation logic over the machine's rules, one theorem each (partly printed by a program of this repository). -/
import Derived.Shelf.SlSortCmp.WholeK
import Derived.Tactics2
import Derived.Shelf.SlSortCmp.NoneTotal
import Derived.Test.YtcofpfnnlageaaaGreatP3
import Derived.Test.YtcofpfnnlageaaaGreatP4
import Derived.Test.YtcofpfnnlageaaaGreatP5
import Derived.Test.YtcofpfnnlageaaaGreatP6
import Derived.Test.YtcofpfnnlageaaaGreatP7
import Derived.Test.YtcofpfnnlageaaaGreatP8
namespace Go.Hy
set_option linter.unusedVariables false
set_option linter.unusedSimpArgs false
set_option linter.unusedSectionVars false
open Go.Proofs
set_option linter.unusedVariables false
set_option linter.unusedSimpArgs false
set_option maxRecDepth 100000
open Go.Shelf Go.RowKit Go.Lib Go.Sort
theorem isNaN_k (a : Int) (W : World) : Calls Tryz.prog 128 #[.int .u32 a] W fun e w' => e = .returned (.bool false) ∧ w' = W := by
  go_enter Tryz.func128, Tryz.ntmps128
  go_wp2
  go_ret
  exact ⟨by simp, rfl⟩
theorem compare_k (a b : Int) (W : World) : Calls Tryz.prog 117 #[.int .u32 a, .int .u32 b] W fun e w' => e = .returned (.int .i64 (compareInt a b)) ∧ w' = W := by
  go_enter Tryz.func117, Tryz.ntmps117
  go_wp2_with (go_at_call 128; refine (isNaN_k _ _).mono ?_; rintro e w' ⟨rfl, rfl⟩)
  all_goals (go_ret; refine ⟨?_, rfl⟩; unfold Lib.compareInt; (repeat' split) <;> first | rfl | (exfalso; omega))
def cmpC (c d : Cl) : Int := if c.pos = d.pos then compareInt c.neg d.neg else compareInt c.pos d.pos
set_option maxHeartbeats 1000000 in
theorem cmp_k (c d : Cl) (W : World) : Calls Tryz.prog 111 #[.agg #[.int .u32 c.pos, .int .u32 c.neg], .agg #[.int .u32 d.pos, .int .u32 d.neg]] W fun e w' => e = .returned (.int .i64 (cmpC c d)) ∧ ∃ q os', w' = grow (W.drewN q) os' := by
  have hcon := fun a b W' => compare_k a b W'
  have e1 : cmpC c d = if (c.pos : Int) = d.pos then compareInt c.neg d.neg else compareInt c.pos d.pos := by unfold cmpC; simp only [Int.ofNat_inj]
  generalize hr : cmpC c d = r at e1 ⊢
  go_enter Tryz.func111, Tryz.ntmps111
  go_wp2_with (go_at_call 117; refine (hcon _ _ _).mono ?_; rintro e w' ⟨rfl, rfl⟩)
  all_goals (go_ret; refine ⟨?_, 0, _, by rw [alloc_eq_grow, alloc_eq_grow, grow_grow]; rfl⟩)
  all_goals (rw [e1]; simp_all)
/-! ### The order of clauses -/
instance : Inhabited Cl := ⟨cl0⟩
theorem cmp_lt (c d : Cl) : ltOf cmpC c d = lessC c d := by
  unfold ltOf cmpC lessC compareInt
  by_cases h : c.pos = d.pos
  · simp only [h, if_true]
    by_cases h2 : c.neg < d.neg
    · rw [if_pos (by omega)]; simp [h2]
    · rw [if_neg (by omega)]
      split <;> simp [h2]
  · simp only [h, if_false]
    by_cases h2 : c.pos < d.pos
    · rw [if_pos (by omega)]; simp [h2]
    · rw [if_neg (by omega), if_pos (by omega)]
      simp [h2]
theorem cmp_swo : SWO (ltOf cmpC) where
  irrefl x := by rw [cmp_lt]; simp [lessC]
  trans x y z h1 h2 := by
    rw [cmp_lt] at *
    simp only [lessC, Bool.or_eq_true, Bool.and_eq_true, decide_eq_true_eq] at *
    omega
  ntrans x y z h1 h2 := by
    rw [cmp_lt] at *
    simp only [lessC, Bool.or_eq_false_iff, Bool.and_eq_false_iff, decide_eq_false_iff_not] at *
    omega
theorem flatK_toList (d : Array Cl) : (flatK clCells 2 d).toList = clFlat d.toList := by
  apply List.ext_getElem?
  intro t
  have hl : (clFlat d.toList).length = d.size * 2 := by rw [flat_len clCells_len]; simp
  by_cases ht : t < d.size * 2
  · have h1 : (flatK clCells 2 d).toList[t]? = some (clCells d[t / 2]!)[t % 2]! := by
      have hs : t < (flatK clCells 2 d).size := by rw [size_flatK]; exact ht
      rw [Array.getElem?_toList, Array.getElem?_eq_getElem hs]
      have := get_flatK clCells 2 d t ht
      rw [getElem!_pos _ t hs] at this
      rw [this]
    rw [h1]
    have hd : t / 2 < d.toList.length := by simp; omega
    have e : d.toList.getD (t / 2) cl0 = d[t / 2]! := by
      have : t / 2 < d.size := by simpa using hd
      rw [getElem!_pos d (t / 2) this, List.getD_eq_getElem?_getD, List.getElem?_eq_getElem hd]; simp
    have h2 : (clCells (d.toList.getD (t / 2) cl0))[t % 2]? = some (clCells d[t / 2]!)[t % 2]! := by
      rw [e]
      have : t % 2 < (clCells d[t / 2]!).length := by rw [clCells_len]; omega
      rw [List.getElem?_eq_getElem this, getElem!_pos (clCells d[t / 2]!) (t % 2) this]
    have := flat_at clCells_len cl0 d.toList (t / 2) (t % 2) _ hd h2
    rw [show t / 2 * 2 + t % 2 = t by omega] at this
    exact this.symm
  · rw [List.getElem?_eq_none (by simp; omega), List.getElem?_eq_none (by omega)]
theorem put_cells (d : Array Cl) (l : List Cl) (rest : List Value) (hs : d.size = l.length) : putCells id 0 (flatK clCells 2 d) (clFlat l ++ rest).toArray = (clFlat d.toList ++ rest).toArray := by
  apply Array.ext_getElem?
  intro t
  have hl : (clFlat l).length = d.size * 2 := by rw [flat_len clCells_len, hs]
  have hl2 : (clFlat d.toList).length = d.size * 2 := by rw [flat_len clCells_len]; simp
  simp only [putCells, Array.getElem?_mapIdx, List.getElem?_toArray, size_flatK, Nat.zero_add, Nat.zero_le, true_and, Nat.sub_zero, id]
  by_cases ht : t < d.size * 2
  · rw [List.getElem?_append_left (by omega), List.getElem?_append_left (by omega)]
    have h1 : (clFlat d.toList)[t]? = some (flatK clCells 2 d)[t]! := by
      rw [← flatK_toList, Array.getElem?_toList]
      have hsz : t < (flatK clCells 2 d).size := by rw [size_flatK]; exact ht
      rw [Array.getElem?_eq_getElem hsz, getElem!_pos _ t hsz]
    rw [h1]
    obtain ⟨v, hv⟩ : ∃ v, (clFlat l)[t]? = some v := ⟨_, List.getElem?_eq_getElem (by omega)⟩
    rw [hv, Option.map_some, if_pos ht]
  · rw [List.getElem?_append_right (by omega), List.getElem?_append_right (by omega), hl, hl2]
    cases rest[t - d.size * 2]? with
    | none => rfl
    | some v => rw [Option.map_some, if_neg ht]
/-- slices.SortFunc at clauses, by clause.Cmp: a row of the caller's own. -/
theorem sort_spec (l : List Cl) (g cap : Nat) (rest : List Value) (hn : l.length < 4611686018427387904) :
    Spec Tryz.prog 110 #[.slice (some ⟨g, 0, none⟩) l.length cap, .func (.func 111) #[] #[]] [] [boxR g (clFlat l ++ rest) 89] (fun _ : {l' : List Cl // l'.Perm l ∧ l'.Pairwise fun a b => lessC b a = false} => .tuple #[]) (fun _ => []) (fun x => [boxR g (clFlat x.1 ++ rest) 89]) := by
  intro ok w hok hs
  have hg : w.heap[g]? = some (.cells (clFlat l ++ rest).toArray 89 (0, 0)) := hs.res _ List.mem_cons_self w (fun _ _ => rfl)
  have hlt : g < w.heap.size := (Array.getElem?_eq_some_iff.mp hg).1
  have hu : Tryz.prog.underlying 89 = some (.struct (TyF.fC Tryz.prog)) := TyF.uC
  have aE : ∀ w, (isAgg (Tryz.sortL_ren.t 24)).run Tryz.prog w = .ok true w := fun w => by
    show (isAgg 89).run Tryz.prog w = _
    simp [isAgg, run_underlying hu]
  have zE : ∀ w, (Go.sizeOf (Tryz.sortL_ren.t 24)).run Tryz.prog w = .ok 2 w := fun w => run_size0 (P := Tryz.prog) (t := 89) rfl w
  have hH : HoldsK clCells 2 w g 0 l.toArray := by
    intro j hj
    rw [size_flatK] at hj
    have e : (flatK clCells 2 l.toArray).toList = clFlat l := by rw [flatK_toList]
    have hsz : j < (flatK clCells 2 l.toArray).size := by rw [size_flatK]; exact hj
    have h1 : (clFlat l)[j]? = some (flatK clCells 2 l.toArray)[j]! := by
      rw [← e, Array.getElem?_toList, Array.getElem?_eq_getElem hsz, getElem!_pos _ j hsz]
    refine ⟨?_, by simp [World.frozen?, hg]⟩
    have hlen : j < (clFlat l).length := (List.getElem?_eq_some_iff.mp h1).1
    simp only [World.cell?, hg, Nat.zero_add, Option.isSome_none, Bool.false_eq_true, if_false, List.getElem?_toArray, id]
    rw [List.getElem?_append_left hlen]; exact h1
  have hc := AnyQ.slices_SortFunc (P := Tryz.prog) Tryz.sortL 2 aE zE clCells clCells_len (fun x v hv => by
      simp only [clCells, List.mem_cons, List.not_mem_nil, or_false] at hv; rcases hv with rfl | rfl <;> rfl) cmpC cmp_swo 111 #[] g 0 cap l.toArray w Tryz.call111
    (fun m os dk hsz x y => cmp_k x y _) hH hlt (by simpa using hn)
  have hc2 : Calls Tryz.prog 110 #[.slice (some ⟨g, 0, none⟩) l.length cap, .func (.func 111) #[] #[]] w _ := hc
  refine hc2.mono ?_
  rintro e w' ⟨he, d', n, os, hp, hsd, hw⟩
  have hsize : d'.size = l.length := by simpa using hp.1
  have hperm : d'.toList.Perm l := by
    have := hp.2.2
    have e1 : d'.extract 0 l.toArray.size = d' := by rw [show l.toArray.size = d'.size by simp [hsize]]; simp
    have e2 : l.toArray.extract 0 l.toArray.size = l.toArray := by simp
    rw [e1, e2] at this
    exact this
  have hsorted : d'.toList.Pairwise fun a b => lessC b a = false := by
    rw [List.pairwise_iff_getElem]
    intro i j hi hj hij
    have hi' : i < d'.size := by simpa using hi
    have hj' : j < d'.size := by simpa using hj
    have := hsd i j (Nat.zero_le _) hij (by simp; omega)
    rw [cmp_lt, getElem!_pos d' j hj', getElem!_pos d' i hi'] at this
    simpa using this
  have hg' : w'.heap[g]? = some (.cells (clFlat d'.toList ++ rest).toArray 89 (0, 0)) := by
    rw [hw]
    show ((mapBlock (Go.Sort.ahead w n) g (putCells id 0 (flatK clCells 2 d'))).heap ++ os)[g]? = _
    rw [Array.getElem?_append_left (by simp [mapBlock, Go.Sort.ahead]; exact hlt)]
    simp only [mapBlock, Go.Sort.ahead, Array.getElem?_modify, if_true, hg, Option.map_some, onCells]
    rw [put_cells d' l rest hsize]
  have hold : ∀ b, b < w.heap.size → b ≠ g → w'.heap[b]? = w.heap[b]? := by
    intro b hb hne
    rw [hw]
    show ((mapBlock (Go.Sort.ahead w n) g (putCells id 0 (flatK clCells 2 d'))).heap ++ os)[b]? = _
    rw [Array.getElem?_append_left (by simp [mapBlock, Go.Sort.ahead]; exact hb)]
    simp only [mapBlock, Go.Sort.ahead, Array.getElem?_modify, if_neg (Ne.symm hne)]
  have hsz' : w.heap.size ≤ w'.heap.size := by rw [hw]; simp [sortWorldK, putRowK, Go.Sort.ahead]
  refine ⟨⟨d'.toList, hperm, hsorted⟩, he, ?_⟩
  have h0 : St ⟨ok, domAll [boxR g (clFlat l ++ rest) 89], w⟩ [] ([boxR g (clFlat l ++ rest) 89]) w := hs
  refine h0.turn (m' := boxR g (clFlat d'.toList ++ rest) 89) ⟨by rw [hw]; rfl, by rw [hw]; rfl, by rw [hw]; rfl, hsz', fun b hb hn => hold b hb hn⟩ (fun w2 hw2 => by
    show w2.heap[g]? = _
    rw [hw2 g rfl]; exact hg') (fun b hb => ?_)
  have hb : b = g := hb
  subst hb
  exact ⟨by omega, .inl rfl⟩
end Go.Hy
namespace Go.Hy
set_option linter.unusedVariables false
set_option linter.unusedSimpArgs false
set_option linter.unusedSectionVars false
open Go.Proofs
set_option linter.unusedVariables false
set_option linter.unusedSimpArgs false
set_option maxRecDepth 100000
theorem permNil {M : List Res} : M.Perm (M ++ []) := by rw [List.append_nil]
theorem index_spec (l : List Cl) (a : SH) (c : FuncId) (cap : List Value) (FΓ : List Fact) (M : List Res) (g : Cl → Bool) (hc : ∀ (args : Array Value) (w : World), (callFunc c args).run Tryz.prog w = .ok (.enter c args) w) (hcl : ∀ x, x ∈ l → Spec Tryz.prog c (keyV x :: cap).toArray FΓ M (fun _ : Unit => .bool (g x)) (fun _ => []) (fun _ => M)) : Spec Tryz.prog 112 #[sl a l.length, .func (.func c) #[] cap.toArray] (CL l a :: FΓ) M (fun _ : Unit => .int .i64 (idxP g l)) (fun _ => []) (fun _ => M) := by
  refine spec_go (args := [sl a l.length, .func (.func c) #[] cap.toArray]) Tryz.func112 Tryz.ntmps112 rfl (by exact Nat.le_of_ble_eq_true rfl) fun B hB => ?_
  refine go_openCL (l := l) (a := a) (fun hl1 hA1 hU1 => ?_)
  refine go_seq ?_
  refine go_region ⟨_, Tryz.func112⟩ rfl ?_
  refine q0 rfl (o_assign ?_)
  refine rg_nil ?_
  refine go_seq ?_
  refine go_seq ?_
  refine go_region ⟨_, Tryz.func112⟩ rfl ?_
  refine q0 rfl (o_move ?_)
  refine q0 rfl (o_len ?_)
  refine q0 rfl (o_move ?_)
  refine rg_nil ?_
  refine go_block ?_
  refine go_loopI (X := Nat) (fun i => i ≤ l.length ∧ ∀ j, j < i → g (l.getD j cl0) = false) (fun i => [(0, sl a l.length), (1, .func (.func c) #[] cap.toArray), (7, .int .i64 (l.length : Int)), (8, .int .i64 (i : Int))]) (fun i => CL l a :: FΓ) (fun i => M) (fun i => l.length - i) (0) (⟨Nat.zero_le _, fun j hj => by omega⟩) (by exact ⟨rfl, rfl, rfl, rfl, trivial⟩) ?_ ?_
  · exact fun w hs => hs
  · intro i base0 ⟨hi, hok⟩ next0
    refine go_seq ?_
    refine go_region ⟨_, Tryz.func112⟩ rfl ?_
    refine q0 rfl (o_lss ?_)
    refine rg_nil ?_
    refine go_seq ?_
    refine go_condI (fun h9 => ?_) (fun h9 => ?_)
    · have hlt : i < l.length := by have := of_decide_eq_true h9; omega
      obtain ⟨bk, o, hav⟩ := hA1 (by omega)
      refine go_skip ?_
      refine go_seq ?_
      refine go_block ?_
      refine go_seq ?_
      refine go_region ⟨_, Tryz.func112⟩ rfl ?_
      refine q0 rfl (o_move ?_)
      refine q0 rfl (o_assign ?_)
      refine rg_nil ?_
      refine go_seq ?_
      refine go_region ⟨_, Tryz.func112⟩ rfl ?_
      refine q0 rfl (o_move ?_)
      refine q0 rfl (o_move ?_)
      refine q0 rfl (o_move ?_)
      refine q0 rfl (o_ixN ?_)
      refine q0 rfl (o_ldC ?_)
      refine q0 rfl (o_callC hc (hcl _ (getD_mem hlt)) (cap := cap) (fun x16 => ?_) (hm := permNil))
      refine rg_nil ?_
      refine go_condI (fun h16 => ?_) (fun h16 => ?_)
      · refine go_seq ?_
        refine go_region ⟨_, Tryz.func112⟩ rfl ?_
        refine q0 rfl (o_move ?_)
        refine q0 rfl (o_assign ?_)
        refine rg_nil ?_
        refine ret1 Tryz.func112 Tryz.results112 wn_ () (by rw [idxP_at hlt h16 hok]) (fun w hs => (hs.less (by simp)).dropR)
      · refine go_skip ?_
        refine go_inBlock ?_
        refine go_region ⟨_, Tryz.func112⟩ rfl ?_
        refine q0 rfl (o_add ?_)
        refine q0 rfl (o_move ?_)
        refine rg_nil ?_
        refine go_state (fun w hs => ?_) (next0 (i + 1) _ ⟨hlt, fun j hj => (by rcases Nat.lt_succ_iff_lt_or_eq.mp hj with h | h; exact hok j h; subst h; exact h16)⟩ (by omega) ⟨rfl, rfl, rfl, rfl, trivial⟩)
        exact (hs.less (by simp +contextual)).dropR
    · have hge : i = l.length := by have := of_decide_eq_false h9; omega
      refine go_exit rfl ?_
      refine go_seq ?_
      refine go_region ⟨_, Tryz.func112⟩ rfl ?_
      refine q0 rfl (o_assign ?_)
      refine rg_nil ?_
      refine ret1 Tryz.func112 Tryz.results112 wn_ () (by rw [idxP_none (by rw [← hge]; exact hok)]) (fun w hs => hs.less (by simp))
theorem contains_spec (l : List Cl) (a : SH) (c : FuncId) (cap : List Value) (FΓ : List Fact) (M : List Res) (g : Cl → Bool) (hc : ∀ (args : Array Value) (w : World), (callFunc c args).run Tryz.prog w = .ok (.enter c args) w) (hcl : ∀ x, x ∈ l → Spec Tryz.prog c (keyV x :: cap).toArray FΓ M (fun _ : Unit => .bool (g x)) (fun _ => []) (fun _ => M)) : Spec Tryz.prog 104 #[sl a l.length, .func (.func c) #[] cap.toArray] (CL l a :: FΓ) M (fun _ : Unit => .bool (l.any g)) (fun _ => []) (fun _ => M) := by
  refine spec_go (args := [sl a l.length, .func (.func c) #[] cap.toArray]) Tryz.func104 Tryz.ntmps104 rfl (by exact Nat.le_of_ble_eq_true rfl) fun B hB => ?_
  refine go_seq ?_
  refine go_region ⟨_, Tryz.func104⟩ rfl ?_
  refine q0 rfl (o_assign ?_)
  refine rg_nil ?_
  refine go_seq ?_
  refine go_region ⟨_, Tryz.func104⟩ rfl ?_
  refine q0 rfl (o_move ?_)
  refine q0 rfl (o_move ?_)
  refine q0 rfl (o_call Tryz.call112 (index_spec l a c cap FΓ M g hc hcl) (fun x7 => ?_) (hm := permNil))
  refine q0 rfl (o_geq ?_)
  refine q0 rfl (o_assign ?_)
  refine rg_nil ?_
  refine ret1 Tryz.func104 Tryz.results104 wn_ () (by rw [idxP_nonneg]) (fun w hs => (hs.less (by simp)).dropR)
theorem least11_spec (c d : Cl) (hc : u32 c) (hd : u32 d) (b : Nat) : Spec Tryz.prog 108 #[keyV d, .pointer (some ⟨b, 0, none⟩)] [] [boxR b (clCells c) 89] (fun _ : Unit => .bool (!decide (c = d) && below c d)) (fun _ => []) (fun _ => [boxR b (clCells c) 89]) := by
  refine spec_go (args := [keyV d, .pointer (some ⟨b, 0, none⟩)]) Tryz.func108 Tryz.ntmps108 rfl (by exact Nat.le_of_ble_eq_true rfl) fun B hB => ?_
  refine go_seq ?_
  refine go_region ⟨_, Tryz.func108⟩ rfl ?_
  refine q0 rfl (o_box fun b2 => ?_)
  refine q0 rfl (o_assign ?_)
  refine rg_nil ?_
  refine go_seq ?_
  refine go_region ⟨_, Tryz.func108⟩ rfl ?_
  refine q0 rfl (o_lds ?_)
  refine q0 rfl (o_lds ?_)
  refine q0 rfl (o_neC ?_ (c := c) (c' := d))
  refine q0 rfl (o_move ?_)
  refine qI rfl rfl rfl wl_ (fun hg7 => o_lds ?_) (fun hg7 => ?_)
  · refine qT rfl rfl rfl (o_lds ?_)
    refine qT rfl rfl rfl (o_call Tryz.call109 (below_spec c d hc hd) (fun x10 => ?_))
    refine q0 rfl (o_pickT ?_)
    refine q0 rfl (o_assign ?_)
    refine rg_nil ?_
    refine ret1 Tryz.func108 Tryz.results108 wn_ () (by simp_all) (fun w hs => (hs.less (by simp)).drop)
  · refine qF rfl rfl rfl ?_
    refine qF rfl rfl rfl ?_
    refine q0 rfl (o_pickF ?_)
    refine q0 rfl (o_assign ?_)
    refine rg_nil ?_
    refine ret1 Tryz.func108 Tryz.results108 wn_ () (by simp_all) (fun w hs => (hs.less (by simp)).drop)
theorem least1_spec (l : List Cl) (a : SH) (c : Cl) (hc : u32 c) (b : Nat) : Spec Tryz.prog 107 #[keyV c, .pointer (some ⟨b, 0, none⟩)] [CL l a] [boxR b [sl a l.length] 22] (fun _ : Unit => .bool (needless l c)) (fun _ => []) (fun _ => [boxR b [sl a l.length] 22]) := by
  refine spec_go (args := [keyV c, .pointer (some ⟨b, 0, none⟩)]) Tryz.func107 Tryz.ntmps107 rfl (by exact Nat.le_of_ble_eq_true rfl) fun B hB => ?_
  refine go_openCL (l := l) (a := a) (fun hl1 hA1 hU1 => ?_)
  refine go_seq ?_
  refine go_region ⟨_, Tryz.func107⟩ rfl ?_
  refine q0 rfl (o_box fun b2 => ?_)
  refine q0 rfl (o_assign ?_)
  refine rg_nil ?_
  refine go_seq ?_
  refine go_region ⟨_, Tryz.func107⟩ rfl ?_
  refine q0 rfl (o_ld ?_)
  refine q0 rfl (o_func ?_)
  refine q0 rfl (o_call Tryz.call104 (contains_spec l a 108 [.pointer (some ⟨b2, 0, none⟩)] [] [boxR b2 (clCells c) 89] (fun d => !decide (c = d) && below c d) Tryz.call108 (fun d hd => least11_spec c d hc (hU1 d hd) b2)) (fun x6 => ?_))
  refine q0 rfl (o_assign ?_)
  refine rg_nil ?_
  refine ret1 Tryz.func107 Tryz.results107 wn_ () rfl (fun w hs => (hs.less (by simp)).drop)
end Go.Hy
namespace Go.Hy
set_option linter.unusedVariables false
set_option linter.unusedSimpArgs false
set_option linter.unusedSectionVars false
open Go.Proofs
set_option linter.unusedVariables false
set_option linter.unusedSimpArgs false
set_option maxRecDepth 100000
theorem clFlat_snoc (l : List Cl) (c : Cl) : clFlat (l ++ [c]) = clFlat l ++ clCells c := by simp [clFlat]
/-- slices.SortFunc at a row of the call's own. -/
theorem sortRow_spec (l : List Cl) (a : SH) (n : Nat) (hn : n = l.length) (hb : n * 8 ≤ reach) :
    Spec Tryz.prog 110 #[sl a n, .func (.func 111) #[] #[]] [] [rowS 2 89 a n (clFlat l)] (fun _ : {l' : List Cl // SortOf l l'} => .tuple #[]) (fun _ => []) (fun x => [rowS 2 89 a n (clFlat x.1)]) := by
  subst hn
  intro ok w hok hs
  have hown : w.ownsRow 0 89 2 (sl a l.length) l.length (clFlat l) := hs.res _ List.mem_cons_self w (fun _ _ => rfl)
  rcases hown.2 with ⟨h1, h2⟩ | ⟨g, cap, cur, h1, h2, h3, h4, h5, h6, h7⟩
  · have hl : l = [] := List.eq_nil_of_length_eq_zero h2
    subst hl
    have hc := AnyF.slices_SortFunc_none (P := Tryz.prog) Tryz.sortL a.1 a.2 (.func (.func 111) #[] #[]) w
    have hc2 : Calls Tryz.prog 110 #[sl a 0, .func (.func 111) #[] #[]] w _ := hc
    refine hc2.mono ?_
    rintro e w' ⟨he, hw⟩
    subst hw
    exact ⟨⟨[], List.Perm.refl _, List.Pairwise.nil⟩, he, hs⟩
  · obtain ⟨ao, ac⟩ := a
    have e1 : ao = some ⟨g, 0, none⟩ := by injection h1
    have e2 : ac = cap := by injection h1
    subst e1; subst e2
    have hfl : cur.toList = clFlat l ++ cur.toList.drop (l.length * 2) := by
      have := List.take_append_drop (l.length * 2) cur.toList
      rw [h7] at this; exact this.symm
    have hbox : St ⟨ok, domAll [rowS 2 89 (some ⟨g, 0, none⟩, ac) l.length (clFlat l)], w⟩ [] [boxR g (clFlat l ++ cur.toList.drop (l.length * 2)) 89] w := by
      refine hs.turn (m' := boxR g (clFlat l ++ cur.toList.drop (l.length * 2)) 89) (Chg.refl _ _) (fun w2 hw2 => ?_) (fun b hb => ?_)
      · show w2.heap[g]? = _
        rw [hw2 g rfl, ← hfl, Array.toArray_toList]; exact h3
      · have hb : b = g := hb
        subst hb
        exact ⟨(Array.getElem?_eq_some_iff.mp h3).1, .inl rfl⟩
    have hdom : ∀ b, domAll [rowS 2 89 (some ⟨g, 0, none⟩, ac) l.length (clFlat l)] b ↔ domAll [boxR g (clFlat l ++ cur.toList.drop (l.length * 2)) 89] b := by
      intro b
      rw [domAll_cons, domAll_cons]
      have : (rowS 2 89 (some ⟨g, 0, none⟩, ac) l.length (clFlat l)).dom b ↔ b = g := by
        show (sl (some ⟨g, 0, none⟩, ac) l.length).ownBlock = some b ↔ b = g
        simp only [sl, Value.ownBlock, Option.some.injEq]
        exact eq_comm
      rw [this]; rfl
    have hd2 : domAll [rowS 2 89 (some ⟨g, 0, none⟩, ac) l.length (clFlat l)] = domAll [boxR g (clFlat l ++ cur.toList.drop (l.length * 2)) 89] := funext fun b => propext (hdom b)
    rw [hd2] at hbox
    refine (sort_spec l g ac (cur.toList.drop (l.length * 2)) (by unfold reach at hb; omega) ok w (fun b hb => ⟨(hok b hb).1, by rw [← hd2]; exact (hok b hb).2⟩) hbox).mono ?_
    rintro e w' ⟨x, he, hs'⟩
    refine ⟨⟨x.1, x.2.1, x.2.2⟩, he, ?_⟩
    rw [hd2]
    have hlen : x.1.length = l.length := x.2.1.length_eq
    have hg : w'.heap[g]? = some (.cells (clFlat x.1 ++ cur.toList.drop (l.length * 2)).toArray 89 (0, 0)) := hs'.res _ List.mem_cons_self w' (fun _ _ => rfl)
    have hfl2 : (clFlat x.1).length = l.length * 2 := by rw [flat_len clCells_len, hlen]
    refine hs'.turn (m' := rowS 2 89 (some ⟨g, 0, none⟩, ac) l.length (clFlat x.1)) (Chg.refl _ _) (fun w2 hw2 => ⟨hfl2, .inr ⟨g, ac, (clFlat x.1 ++ cur.toList.drop (l.length * 2)).toArray, rfl, Nat.zero_le _, ?_, h4, h5, ?_, ?_⟩⟩) (fun b hb => ?_)
    · rw [hw2 g rfl]; exact hg
    · have h8 : cur.toList.length = ac * 2 := by simpa using h6
      simp only [List.size_toArray, List.length_append, List.length_drop, hfl2, h8]
      omega
    · rw [← hfl2, List.take_left]
    · have hb : (sl (some ⟨g, 0, none⟩, ac) l.length).ownBlock = some b := hb
      simp only [sl, Value.ownBlock, Option.some.injEq] at hb
      subst hb
      exact ⟨(Array.getElem?_eq_some_iff.mp hg).1, .inl rfl⟩
theorem least_spec (l : List Cl) (a : SH) : Spec Tryz.prog 103 #[sl a l.length] [CL l a] [] (fun x : {x : SH × Int × List Cl // LeastIs l x.2} => .tuple #[sl x.1.1 x.1.2.2.length, .int .i64 x.1.2.1]) (fun x => [CL x.1.2.2 x.1.1]) (fun _ => []) := by
  refine spec_go (args := [sl a l.length]) Tryz.func103 Tryz.ntmps103 rfl (by exact Nat.le_of_ble_eq_true rfl) fun B hB => ?_
  refine go_openCL (l := l) (a := a) (fun hl1 hA1 hU1 => ?_)
  refine go_seq ?_
  refine go_region ⟨_, Tryz.func103⟩ rfl ?_
  refine q0 rfl (o_assign ?_)
  refine q0 rfl (o_assign ?_)
  refine rg_nil ?_
  refine go_seq ?_
  refine go_region ⟨_, Tryz.func103⟩ rfl ?_
  refine q0 rfl (o_makeMap fun b12 => ?_)
  refine q0 rfl (o_assign ?_)
  refine rg_nil ?_
  refine go_seq ?_
  refine go_region ⟨_, Tryz.func103⟩ rfl ?_
  refine q0 rfl (o_new fun b5 => ?_)
  refine rg_nil ?_
  refine go_seq ?_
  refine go_seq ?_
  refine go_region ⟨_, Tryz.func103⟩ rfl ?_
  refine q0 rfl (o_move ?_)
  refine q0 rfl (o_len ?_)
  refine q0 rfl (o_move ?_)
  refine rg_nil ?_
  refine go_block ?_
  refine go_loopI (X := Nat × SH) (fun s => s.1 ≤ l.length ∧ ∀ j, j < s.1 → right24 (l.getD j cl0) = true) (fun s => [(4, .map (some b12)), (5, .pointer (some ⟨b5, 0, none⟩)), (13, sl a l.length), (14, .int .i64 (l.length : Int)), (15, .int .i64 (s.1 : Int))]) (fun s => [CL l a]) (fun s => [mapR b12 (once (l.take s.1)), boxR b5 [sl s.2 (once (l.take s.1)).length] 22, rowS 2 89 s.2 (once (l.take s.1)).length (clFlat (once (l.take s.1)))]) (fun s => l.length - s.1) ((0, (none, 0))) (⟨Nat.zero_le _, fun j hj => absurd hj (Nat.not_lt_zero _)⟩) (by exact ⟨rfl, rfl, rfl, rfl, rfl, trivial⟩) ?_ ?_
  · exact fun w hs => ((hs.less (by simp)).rowS0 2 89).perm (perm2.trans ((List.Perm.swap _ _ _).cons _))
  · intro ⟨i, aO⟩ base0 ⟨hi, hok⟩ next0
    dsimp only at hi hok next0 ⊢
    refine go_seq ?_
    refine go_region ⟨_, Tryz.func103⟩ rfl ?_
    refine q0 rfl (o_lss ?_)
    refine rg_nil ?_
    refine go_seq ?_
    refine go_condI (fun h16 => ?_) (fun h16 => ?_)
    · have hlt : i < l.length := by have := of_decide_eq_true h16; omega
      obtain ⟨bk, o, hav⟩ := hA1 (by omega)
      have hu := hU1 _ (getD_mem (d := cl0) hlt)
      have hol := once_take_len l i
      refine go_skip ?_
      refine go_seq ?_
      refine go_block ?_
      refine go_seq ?_
      refine go_region ⟨_, Tryz.func103⟩ rfl ?_
      refine q0 rfl (o_ixN ?_)
      refine q0 rfl (o_ldC ?_)
      refine q0 rfl (o_new fun b7 => ?_)
      refine q0 rfl (o_st ?_)
      refine rg_nil ?_
      refine go_seq ?_
      refine go_seq ?_
      refine go_region ⟨_, Tryz.func103⟩ rfl ?_
      refine q0 rfl (o_lds ?_)
      refine q0 rfl (o_call Tryz.call106 (clauseRight_spec (l.getD i cl0) hu) (fun x20 => ?_))
      refine q0 rfl (o_not ?_)
      refine rg_nil ?_
      refine go_condI (fun h21 => ?_) (fun h21 => ?_)
      · have hr : right24 (l.getD i cl0) = false := by simpa using h21
        refine go_seq ?_
        refine go_region ⟨_, Tryz.func103⟩ rfl ?_
        refine q0 rfl (o_assign ?_)
        refine q0 rfl (o_assign ?_)
        refine rg_nil ?_
        refine ret2 Tryz.func103 Tryz.results103 wn_ wn_ ⟨((none, 0), 2, []), by (unfold LeastIs; rw [all_not hlt hr]; rfl)⟩ rfl (fun w hs => (hs.nilCL 0).bare.less (by simp))
      · have hr : right24 (l.getD i cl0) = true := by simpa using h21
        refine go_skip ?_
        refine go_seq ?_
        refine go_region ⟨_, Tryz.func103⟩ rfl ?_
        refine q0 rfl (o_move ?_)
        refine q0 rfl (o_lds ?_)
        refine q0 rfl (o_lookupM ?_)
        refine q0 rfl (o_not ?_)
        refine rg_nil ?_
        refine go_condI (fun h25 => ?_) (fun h25 => ?_)
        · have hnin : l.getD i cl0 ∉ once (l.take i) := by simpa using h25
          refine go_seq ?_
          refine go_region ⟨_, Tryz.func103⟩ rfl ?_
          refine q0 rfl (o_move ?_)
          refine q0 rfl (o_lds ?_)
          refine q0 rfl (o_mapUpd ?_)
          refine rg_nil ?_
          refine go_region ⟨_, Tryz.func103⟩ rfl ?_
          refine q0 rfl (o_ld ?_)
          refine q0 rfl (o_lds ?_)
          refine q0 rfl (o_lit1 fun b30 => ?_)
          refine q0 rfl (o_appS (fun a31 => ?_)  )
          refine q0 rfl (o_st ?_)
          refine rg_nil ?_
          refine go_inBlock ?_
          refine go_region ⟨_, Tryz.func103⟩ rfl ?_
          refine q0 rfl (o_add ?_)
          refine q0 rfl (o_move ?_)
          refine rg_nil ?_
          have hst := once_take_succ hlt
          rw [if_neg hnin] at hst
          have hlen' : (once (l.take (i + 1))).length = (once (l.take i)).length + 1 := by rw [hst]; simp
          refine go_state (fun w hs => ?_) (next0 (i + 1, a31) _ ⟨hlt, fun j hj => (by rcases Nat.lt_succ_iff_lt_or_eq.mp hj with h | h; exact hok j h; subst h; exact hr)⟩ (by simp only; omega) ⟨rfl, rfl, rfl, rfl, rfl, trivial⟩)
          dsimp only
          rw [hlen', hst, clFlat_snoc]
          exact ((hs.less (by simp)).perm perm3).dropR (A := [_, _, _])
        · refine go_skip ?_
          refine go_inBlock ?_
          refine go_region ⟨_, Tryz.func103⟩ rfl ?_
          refine q0 rfl (o_add ?_)
          refine q0 rfl (o_move ?_)
          refine rg_nil ?_
          have hin : l.getD i cl0 ∈ once (l.take i) := by simpa using h25
          have hst := once_take_succ hlt
          rw [if_pos hin] at hst
          refine go_state (fun w hs => ?_) (next0 (i + 1, aO) _ ⟨hlt, fun j hj => (by rcases Nat.lt_succ_iff_lt_or_eq.mp hj with h | h; exact hok j h; subst h; exact hr)⟩ (by simp only; omega) ⟨rfl, rfl, rfl, rfl, rfl, trivial⟩)
          dsimp only
          rw [hst]
          exact (hs.less (by simp)).drop
    · have hge : i = l.length := by have := of_decide_eq_false h16; omega
      have hall : l.all right24 = true := all_of (by rw [← hge]; exact hok)
      subst hge
      rw [List.take_length]
      have hUo : ∀ c, c ∈ once l → u32 c := fun c hc => hU1 c ((once_mem c l).mp hc)
      have hol := once_len l
      refine go_state (fun w hs => ((hs.perm perm2).settleCL hB rfl rfl (by omega) hUo)) ?_
      refine go_exit rfl ?_
      refine go_seq ?_
      refine go_region ⟨_, Tryz.func103⟩ rfl ?_
      refine q0 rfl (o_func ?_)
      refine q0 rfl (o_assign ?_)
      refine rg_nil ?_
      refine go_seq ?_
      refine go_region ⟨_, Tryz.func103⟩ rfl ?_
      refine q0 rfl (o_assign ?_)
      refine rg_nil ?_
      refine go_seq ?_
      refine go_seq ?_
      refine go_region ⟨_, Tryz.func103⟩ rfl ?_
      refine q0 rfl (o_ld ?_)
      refine q0 rfl (o_len ?_)
      refine q0 rfl (o_move ?_)
      refine rg_nil ?_
      refine go_block ?_
      refine go_loopI (X := Nat × SH) (fun s => s.1 ≤ (once l).length) (fun s => [(8, .func (.func 107) #[] [.pointer (some ⟨b5, 0, none⟩)].toArray), (9, sl s.2 (keptUpto l s.1).length), (34, sl aO (once l).length), (35, .int .i64 ((once l).length : Int)), (36, .int .i64 (s.1 : Int))]) (fun s => [CL (once l) aO]) (fun s => [boxR b5 [sl aO (once l).length] 22, rowS 2 89 s.2 (keptUpto l s.1).length (clFlat (keptUpto l s.1))]) (fun s => (once l).length - s.1) ((0, (none, 0))) (Nat.zero_le _) (by exact ⟨rfl, rfl, rfl, rfl, rfl, trivial⟩) ?_ ?_
      · exact fun w hs => (((hs.less (by simp +contextual)).rowS0 2 89).perm perm2).dropR (A := [_, _])
      · intro ⟨i, aK⟩ base1 hi next1
        dsimp only at hi next1 ⊢
        refine go_seq ?_
        refine go_region ⟨_, Tryz.func103⟩ rfl ?_
        refine q0 rfl (o_lss ?_)
        refine rg_nil ?_
        refine go_seq ?_
        refine go_condI (fun h37 => ?_) (fun h37 => ?_)
        · have hlt : i < (once l).length := by have := of_decide_eq_true h37; omega
          refine go_openCL (l := once l) (a := aO) (fun _ hA2 _ => ?_)
          obtain ⟨bk, o, hav⟩ := hA2 (by omega)
          have hu := hUo _ (getD_mem (d := cl0) hlt)
          have hkl := keptUpto_len l i
          refine go_skip ?_
          refine go_seq ?_
          refine go_block ?_
          refine go_seq ?_
          refine go_region ⟨_, Tryz.func103⟩ rfl ?_
          refine q0 rfl (o_ixN ?_)
          refine q0 rfl (o_ldC ?_)
          refine q0 rfl (o_new fun b11 => ?_)
          refine q0 rfl (o_st ?_)
          refine rg_nil ?_
          refine go_seq ?_
          refine go_region ⟨_, Tryz.func103⟩ rfl ?_
          refine q0 rfl (o_move ?_)
          refine q0 rfl (o_lds ?_)
          refine q0 rfl (o_callC Tryz.call107 (least1_spec (once l) aO ((once l).getD i cl0) hu b5) (cap := [.pointer (some ⟨b5, 0, none⟩)]) (fun x42 => ?_))
          refine q0 rfl (o_not ?_)
          refine rg_nil ?_
          refine go_condI (fun h43 => ?_) (fun h43 => ?_)
          · refine go_region ⟨_, Tryz.func103⟩ rfl ?_
            refine q0 rfl (o_move ?_)
            refine q0 rfl (o_lds ?_)
            refine q0 rfl (o_lit1 fun b46 => ?_)
            refine q0 rfl (o_appS (fun a47 => ?_)  )
            refine q0 rfl (o_assign ?_)
            refine rg_nil ?_
            refine go_inBlock ?_
            refine go_region ⟨_, Tryz.func103⟩ rfl ?_
            refine q0 rfl (o_add ?_)
            refine q0 rfl (o_move ?_)
            refine rg_nil ?_
            have hnd : needless (once l) ((once l).getD i cl0) = false := by simpa using h43
            have hst := keptUpto_succ hlt
            rw [hnd, if_neg (by decide)] at hst
            have hlen' : (keptUpto l (i + 1)).length = (keptUpto l i).length + 1 := by rw [hst]; simp
            refine go_state (fun w hs => ?_) (next1 (i + 1, a47) _ hlt (by simp only; omega) ⟨rfl, by rw [hlen']; rfl, rfl, rfl, rfl, trivial⟩)
            dsimp only
            rw [hlen', hst, clFlat_snoc]
            exact ((hs.less (by simp)).perm perm2).dropR (A := [_, _])
          · refine go_skip ?_
            refine go_inBlock ?_
            refine go_region ⟨_, Tryz.func103⟩ rfl ?_
            refine q0 rfl (o_add ?_)
            refine q0 rfl (o_move ?_)
            refine rg_nil ?_
            have hnd : needless (once l) ((once l).getD i cl0) = true := by simpa using h43
            have hst := keptUpto_succ hlt
            rw [hnd, if_pos rfl] at hst
            refine go_state (fun w hs => ?_) (next1 (i + 1, aK) _ hlt (by simp only; omega) ⟨rfl, by rw [hst]; rfl, rfl, rfl, rfl, trivial⟩)
            dsimp only
            rw [hst]
            exact (hs.less (by simp)).dropR (A := [_, _])
        · have hge2 : i = (once l).length := by have := of_decide_eq_false h37; omega
          subst hge2
          rw [keptUpto_all]
          refine go_exit rfl ?_
          refine go_seq ?_
          refine go_seq ?_
          refine go_region ⟨_, Tryz.func103⟩ rfl ?_
          refine q0 rfl (o_move ?_)
          refine q0 rfl (o_len ?_)
          refine q0 rfl (o_gtr ?_)
          refine rg_nil ?_
          refine go_condI (fun h51 => ?_) (fun h51 => ?_)
          · have h64 : 64 < (kept l).length := by have := of_decide_eq_true h51; omega
            refine go_seq ?_
            refine go_region ⟨_, Tryz.func103⟩ rfl ?_
            refine q0 rfl (o_assign ?_)
            refine q0 rfl (o_assign ?_)
            refine rg_nil ?_
            refine ret2 Tryz.func103 Tryz.results103 wn_ wn_ ⟨((none, 0), 3, []), by (unfold LeastIs; rw [hall, if_neg (by decide), if_pos h64])⟩ rfl (fun w hs => (hs.nilCL 0).bare.less (by simp))
          · have h64 : ¬ 64 < (kept l).length := by have := of_decide_eq_false h51; omega
            refine go_skip ?_
            refine go_seq ?_
            refine go_region ⟨_, Tryz.func103⟩ rfl ?_
            refine q0 rfl (o_move ?_)
            refine q0 rfl (o_call Tryz.call110 (sortRow_spec (kept l) aK (kept l).length rfl (by unfold reach; omega)) (fun x53 => ?_))
            refine rg_nil ?_
            refine go_seq ?_
            refine go_region ⟨_, Tryz.func103⟩ rfl ?_
            refine q0 rfl (o_move ?_)
            refine q0 rfl (o_assign ?_)
            refine q0 rfl (o_assign ?_)
            refine rg_nil ?_
            have hpl : x53.1.length = (kept l).length := x53.2.1.length_eq
            refine ret2 Tryz.func103 Tryz.results103 wn_ wn_ ⟨(aK, 0, x53.1), by (unfold LeastIs; rw [hall, if_neg (by decide), if_neg h64]; exact ⟨rfl, x53.2⟩)⟩ (by rw [hpl]; rfl) (fun w hs => ?_)
            exact ((hs.settleCL (l := x53.1) hB rfl hpl.symm (by unfold reach; omega) (fun c hc => hU1 c (kept_mem (x53.2.1.mem_iff.mp hc)))).bare.less (by simp))
end Go.Hy
namespace Go.Hy
set_option linter.unusedVariables false
set_option linter.unusedSimpArgs false
set_option linter.unusedSectionVars false
open Go.Proofs
set_option linter.unusedVariables false
set_option linter.unusedSimpArgs false
set_option maxRecDepth 100000
theorem formRight_spec : FRight := by
  intro l a
  refine spec_go (args := [sl a l.length]) Tryz.func98 Tryz.ntmps98 rfl (by exact Nat.le_of_ble_eq_true rfl) fun B hB => ?_
  refine go_know (p := True) (fun _ _ => trivial) (fun _ => ?_)
  refine go_seq ?_
  refine go_region ⟨_, Tryz.func98⟩ rfl ?_
  refine q0 rfl (o_assign ?_)
  refine rg_nil ?_
  refine go_seq ?_
  refine go_region ⟨_, Tryz.func98⟩ rfl ?_
  refine q0 rfl (o_move ?_)
  refine q0 rfl (o_call Tryz.call103 (least_spec l a) (fun x7 => ?_))
  refine q0 rfl (o_move ?_)
  refine q0 rfl (o_extract ?_)
  refine q0 rfl (o_extract ?_)
  refine q0 rfl (o_assign ?_)
  refine q0 rfl (o_assign ?_)
  refine rg_nil ?_
  refine go_seq ?_
  refine go_region ⟨_, Tryz.func98⟩ rfl ?_
  refine q0 rfl (o_move ?_)
  refine q0 rfl (o_eqI ?_)
  refine q0 rfl (o_move ?_)
  refine qI rfl rfl rfl wl_ (fun hg12 => o_move ?_) (fun hg12 => ?_)
  · refine qT rfl rfl rfl (o_move ?_)
    refine qT rfl rfl rfl (o_call Tryz.call66 (equal_spec x7.1.2.2 l x7.1.1 a) (fun x15 => ?_))
    refine q0 rfl (o_pickT ?_)
    refine q0 rfl (o_assign ?_)
    refine rg_nil ?_
    have hlr := least_right x7.2
    refine ret1 Tryz.func98 Tryz.results98 wn_ () (by rw [← hlr]; simp_all) (fun w hs => hs.none)
  · refine qF rfl rfl rfl ?_
    refine qF rfl rfl rfl ?_
    refine q0 rfl (o_pickF ?_)
    refine q0 rfl (o_assign ?_)
    refine rg_nil ?_
    have hlr := least_right x7.2
    refine ret1 Tryz.func98 Tryz.results98 wn_ () (by rw [← hlr]; simp_all) (fun w hs => hs.none)
theorem faceRight_spec : FaceRight := by
  intro l a
  refine spec_go (args := [sl a l.length]) Tryz.func100 Tryz.ntmps100 rfl (by exact Nat.le_of_ble_eq_true rfl) fun B hB => ?_
  refine go_openCL (l := l) (a := a) (fun hl1 hA1 hU1 => ?_)
  refine go_seq ?_
  refine go_region ⟨_, Tryz.func100⟩ rfl ?_
  refine q0 rfl (o_assign ?_)
  refine rg_nil ?_
  refine go_seq ?_
  refine go_region ⟨_, Tryz.func100⟩ rfl ?_
  refine q0 rfl (o_move ?_)
  refine q0 rfl (o_call Tryz.call98 (formRight_spec l a) (fun x4 => ?_))
  refine q0 rfl (o_move ?_)
  refine qI rfl rfl rfl wl_ (fun hg5 => o_move ?_) (fun hg5 => ?_)
  · refine qT rfl rfl rfl (o_call Tryz.call104 (contains_spec l a 105 [] [] [] clash Tryz.call105 (fun x hx => clash_spec x (hU1 x hx))) (fun x7 => ?_))
    refine qT rfl rfl rfl (o_not ?_)
    refine q0 rfl (o_pickT ?_)
    refine q0 rfl (o_assign ?_)
    refine rg_nil ?_
    refine ret1 Tryz.func100 Tryz.results100 wn_ () (by simp_all [faceRight]) (fun w hs => hs.none)
  · refine qF rfl rfl rfl ?_
    refine qF rfl rfl rfl ?_
    refine q0 rfl (o_pickF ?_)
    refine q0 rfl (o_assign ?_)
    refine rg_nil ?_
    refine ret1 Tryz.func100 Tryz.results100 wn_ () (by simp_all [faceRight]) (fun w hs => hs.none)
theorem form_spec : FORM := ⟨formRight_spec, faceRight_spec, fDims_spec⟩
end Go.Hy
namespace Go.Hy
set_option linter.unusedVariables false
set_option linter.unusedSimpArgs false
set_option linter.unusedSectionVars false
open Go.Proofs
set_option linter.unusedVariables false
set_option linter.unusedSimpArgs false
set_option maxRecDepth 100000
abbrev SameR (t : T) : Prop := ∀ u vr vk vs vr' vk' vs', Spec Tryz.prog 19 #[.agg (tc t vr vk vs).toArray, .agg (tc u vr' vk' vs').toArray] [RT t vr vk vs, RT u vr' vk' vs'] [] (fun _ : Unit => .bool (decide (t = u))) (fun _ => []) (fun _ => [])
theorem rlists (ts : List T) (a_ts : SH) (us : List T) (a_us : SH) (ih : ∀ t, t ∈ ts → SameR t) : Spec Tryz.prog 49 #[sl a_ts (ts.length), sl a_us (us.length)] [TL ts a_ts, TL us a_us] [] (fun _ : Unit => .bool ((decide (ts = us)))) (fun _ : Unit => []) (fun _ : Unit => []) := by
  refine spec_go (args := [sl a_ts (ts.length), sl a_us (us.length)]) Tryz.func49 Tryz.ntmps49 rfl (by exact Nat.le_of_ble_eq_true rfl) fun B hB => ?_
  refine go_openTL (ts := ts) (a := a_ts) (fun VR1 VK1 VS1 hl1 hA1 => ?_)
  refine go_openTL (ts := us) (a := a_us) (fun VR2 VK2 VS2 hl2 hA2 => ?_)
  refine go_seq ?_
  refine go_region ⟨_, Tryz.func49⟩ rfl ?_
  refine q0 rfl (o_assign ?_)
  refine rg_nil ?_
  refine go_seq ?_
  refine go_seq ?_
  refine go_region ⟨_, Tryz.func49⟩ rfl ?_
  refine q0 rfl (o_move ?_)
  refine q0 rfl (o_len ?_)
  refine q0 rfl (o_move ?_)
  refine q0 rfl (o_len ?_)
  refine q0 rfl (o_neI ?_)
  refine rg_nil ?_
  refine go_condI (fun h10 => ?_) (fun h10 => ?_)
  · have c10 : (decide ((ts.length : Int) ≠ (us.length : Int))) = true := h10
    try simp only [sC, bne_iff_ne, beq_iff_eq, ne_eq] at c10
    refine go_seq ?_
    refine go_region ⟨_, Tryz.func49⟩ rfl ?_
    refine q0 rfl (o_assign ?_)
    refine rg_nil ?_
    refine ret1 Tryz.func49 Tryz.results49 wn_ () (by simp only [decide_eq_false (fun h : ts = us => by subst h; simp at c10)]) (fun w hs => hs.none)
  · have c10 : (decide ((ts.length : Int) ≠ (us.length : Int))) = false := h10
    try simp only [sC, bne_iff_ne, beq_iff_eq, ne_eq] at c10
    have hlen : ts.length = us.length := by simp at h10; omega
    refine go_skip ?_
    refine go_seq ?_
    refine go_seq ?_
    refine go_region ⟨_, Tryz.func49⟩ rfl ?_
    refine q0 rfl (o_assign ?_)
    refine rg_nil ?_
    refine go_block ?_
    refine go_loopE (X := Nat) (fun s_ => s_ ≤ ts.length ∧ ∀ j, j < s_ → ts.getD j t0 = us.getD j t0) (fun s_ => [(0, sl a_ts (ts.length)), (1, sl a_us (us.length)), (5, .int .i64 ((s_ : Int)))]) (fun s_ G_ => G_) (fun s_ => []) (fun s_ => ts.length - s_) (0) (⟨by omega, fun j h => absurd h (Nat.not_lt_zero j)⟩) (by exact ⟨rfl, rfl, rfl, trivial⟩) ?_ ?_
    · exact fun w hs => hs
    · intro i base0 ⟨hi, hsm⟩ next0
      refine go_seq ?_
      refine go_seq ?_
      refine go_region ⟨_, Tryz.func49⟩ rfl ?_
      refine q0 rfl (o_move ?_)
      refine q0 rfl (o_move ?_)
      refine q0 rfl (o_len ?_)
      refine q0 rfl (o_lss ?_)
      refine rg_nil ?_
      refine go_condI (fun h14 => ?_) (fun h14 => ?_)
      · have c14 : (decide ((i : Int) < (ts.length : Int))) = true := h14
        try simp only [sC, bne_iff_ne, beq_iff_eq, ne_eq] at c14
        refine go_skip ?_
        refine go_seq ?_
        refine go_block ?_
        refine go_seq ?_
        refine go_kid (ts := ts) (a := a_ts) (VR := VR1) (VK := VK1) (VS := VS1) i (by omega) ?_
        refine go_kid (ts := us) (a := a_us) (VR := VR2) (VK := VK2) (VS := VS2) i (by omega) ?_
        refine go_draw (tn := false) (A := [0, 0, 3, 7, 0, 0, 48, 112, 255, 511]) (l := [0, 1, 2, 3, 4, 5, 6, 7, 8, 9]) (fin := []) Tab.mixed ⟨_, Tryz.func49⟩ (by rfl) ?_
        refine n0 rfl (v_move ?_)
        refine n0 rfl (v_move ?_)
        obtain ⟨bk3, o3, hav3⟩ := hA1 (by omega)
        refine n0 rfl (v_ixN ?_ (j := i))
        refine n0 rfl (v_ldT ?_)
        refine n0 rfl (v_move ?_)
        refine n0 rfl (v_move ?_)
        obtain ⟨bk4, o4, hav4⟩ := hA2 (by omega)
        refine n0 rfl (v_ixN ?_ (j := i))
        refine n0 rfl (v_ldT ?_)
        refine n0 rfl (v_call Tryz.call19 (ih _ (getD_mem (show i < ts.length by omega)) (us.getD i t0) (VR1 i) (VK1 i) (VS1 i) (VR2 i) (VK2 i) (VS2 i)) (fun x25 => ?_))
        refine n0 rfl (v_not ?_)
        refine NV.done ?_
        refine rg_nil ?_
        refine go_condI (fun h26 => ?_) (fun h26 => ?_)
        · have c26 : (!(decide ((ts.getD i t0) = (us.getD i t0)))) = true := h26
          try simp only [sC, bne_iff_ne, beq_iff_eq, ne_eq] at c26
          refine go_seq ?_
          refine go_region ⟨_, Tryz.func49⟩ rfl ?_
          refine q0 rfl (o_assign ?_)
          refine rg_nil ?_
          refine ret1 Tryz.func49 Tryz.results49 wn_ () (by simp only [decide_eq_false (fun h : ts = us => by subst h; simp at c26)]) (fun w hs => hs.none)
        · have c26 : (!(decide ((ts.getD i t0) = (us.getD i t0)))) = false := h26
          try simp only [sC, bne_iff_ne, beq_iff_eq, ne_eq] at c26
          refine go_skip ?_
          refine go_inBlock ?_
          refine go_region ⟨_, Tryz.func49⟩ rfl ?_
          refine q0 rfl (o_move ?_)
          refine q0 rfl (o_add ?_)
          refine q0 rfl (o_assign ?_)
          refine rg_nil ?_
          refine go_state (fun w hs => ?_) (next0 (i + 1) _ (⟨by omega, fun j hj => by rcases Nat.lt_succ_iff_lt_or_eq.mp hj with h | h; exact hsm j h; subst h; simpa using c26⟩) (by omega) ⟨rfl, rfl, rfl, trivial⟩)
          exact (hs.less (by simp +contextual))
      · have c14 : (decide ((i : Int) < (ts.length : Int))) = false := h14
        try simp only [sC, bne_iff_ne, beq_iff_eq, ne_eq] at c14
        refine go_exit rfl ?_
        refine go_seq ?_
        refine go_region ⟨_, Tryz.func49⟩ rfl ?_
        refine q0 rfl (o_assign ?_)
        refine rg_nil ?_
        refine ret1 Tryz.func49 Tryz.results49 wn_ () (by simp only [decide_eq_true (list_eq_of (d := t0) hlen (fun j hj => hsm j (by omega)) : ts = us)]) (fun w hs => hs.none)
theorem rsame_walk (t : T) (vr_t vk_t vs_t : SH) (u : T) (vr_u vk_u vs_u : SH) (ih : ∀ p, p ∈ parts t → SameR p.1) : Spec Tryz.prog 19 #[.agg (tc t vr_t vk_t vs_t).toArray, .agg (tc u vr_u vk_u vs_u).toArray] [RT t vr_t vk_t vs_t, RT u vr_u vk_u vs_u] [] (fun _ : Unit => .bool ((decide (t = u)))) (fun _ : Unit => []) (fun _ : Unit => []) := by
  refine spec_go (args := [.agg (tc t vr_t vk_t vs_t).toArray, .agg (tc u vr_u vk_u vs_u).toArray]) Tryz.func19 Tryz.ntmps19 rfl (by exact Nat.le_of_ble_eq_true rfl) fun B hB => ?_
  refine go_open (t := t) (vr := vr_t) (vk := vk_t) (vs := vs_t) (fun hk1 hn1 hm1 => ?_)
  refine go_openCL (l := (t).r) (a := vr_t) (fun hl2 hA2 hU2 => ?_)
  refine go_openTL (ts := (t).kids) (a := vk_t) (fun VR3 VK3 VS3 hl3 hA3 => ?_)
  refine go_openBL (bs := (t).sys) (a := vs_t) (fun VF4 VK4 hl4 hA4 => ?_)
  refine go_open (t := u) (vr := vr_u) (vk := vk_u) (vs := vs_u) (fun hk5 hn5 hm5 => ?_)
  refine go_openCL (l := (u).r) (a := vr_u) (fun hl6 hA6 hU6 => ?_)
  refine go_openTL (ts := (u).kids) (a := vk_u) (fun VR7 VK7 VS7 hl7 hA7 => ?_)
  refine go_openBL (bs := (u).sys) (a := vs_u) (fun VF8 VK8 hl8 hA8 => ?_)
  refine go_seq ?_
  refine go_region ⟨_, Tryz.func19⟩ rfl ?_
  refine q0 rfl (o_box fun b2 => ?_)
  refine q0 rfl (o_box fun b3 => ?_)
  refine q0 rfl (o_assign ?_)
  refine rg_nil ?_
  refine go_seq ?_
  refine go_seq ?_
  refine go_cutS ([(2, .pointer (some ⟨b2, 0, none⟩)), (3, .pointer (some ⟨b3, 0, none⟩)), (49, .bool ((((((decide (((t).kind) ≠ ((u).kind))) || (decide (((t).n) ≠ ((u).n)))) || (!(((t).name).toList == ((u).name).toList))) || (!(decide (((t).r) = ((u).r))))) || (!(decide (((t).kids) = ((u).kids))))) || (decide (((t).sys.length : Int) ≠ ((u).sys.length : Int)))))]) (fun hK => ?_) (fun base => ?_)
  · refine go_region ⟨_, Tryz.func19⟩ rfl ?_
    refine q0 rfl (o_fa ?_)
    refine q0 rfl (o_ld ?_)
    refine q0 rfl (o_fa ?_)
    refine q0 rfl (o_ld ?_)
    refine q0 rfl (o_neI ?_)
    refine q0 rfl (o_move ?_)
    refine qI rfl rfl rfl wl_ (fun hg11 => ?_) (fun hg11 => ?_)
    · have g11 : (decide (((t).kind) ≠ ((u).kind))) = false := hg11
      try simp only [sC, bne_iff_ne, beq_iff_eq, ne_eq] at g11
      refine o_fa ?_
      refine qT rfl rfl rfl (o_ld ?_)
      refine qT rfl rfl rfl (o_fa ?_)
      refine qT rfl rfl rfl (o_ld ?_)
      refine qT rfl rfl rfl (o_neI ?_)
      refine q0 rfl (o_pickF ?_)
      refine q0 rfl (o_move ?_)
      refine qI rfl rfl rfl wl_ (fun hg18 => ?_) (fun hg18 => ?_)
      · have g18 : (decide (((t).n) ≠ ((u).n))) = false := hg18
        try simp only [sC, bne_iff_ne, beq_iff_eq, ne_eq] at g18
        refine o_fa ?_
        refine qT rfl rfl rfl (o_ld ?_)
        refine qT rfl rfl rfl (o_fa ?_)
        refine qT rfl rfl rfl (o_ld ?_)
        refine qT rfl rfl rfl (o_neS ?_)
        refine q0 rfl (o_pickF ?_)
        refine q0 rfl (o_move ?_)
        refine qI rfl rfl rfl wl_ (fun hg25 => ?_) (fun hg25 => ?_)
        · have g25 : (!(((t).name).toList == ((u).name).toList)) = false := hg25
          try simp only [sC, bne_iff_ne, beq_iff_eq, ne_eq] at g25
          refine o_fa ?_
          refine qT rfl rfl rfl (o_ld ?_)
          refine qT rfl rfl rfl (o_fa ?_)
          refine qT rfl rfl rfl (o_ld ?_)
          refine qT rfl rfl rfl (o_call Tryz.call48 (rsameC ((t).r) vr_t ((u).r) vr_u ) (fun x30 => ?_))
          refine qT rfl rfl rfl (o_not ?_)
          refine q0 rfl (o_pickF ?_)
          refine q0 rfl (o_move ?_)
          refine qI rfl rfl rfl wl_ (fun hg33 => ?_) (fun hg33 => ?_)
          · have g33 : (!(decide (((t).r) = ((u).r)))) = false := hg33
            try simp only [sC, bne_iff_ne, beq_iff_eq, ne_eq] at g33
            refine o_fa ?_
            refine qT rfl rfl rfl (o_ld ?_)
            refine qT rfl rfl rfl (o_fa ?_)
            refine qT rfl rfl rfl (o_ld ?_)
            refine qT rfl rfl rfl (o_call Tryz.call49 (rlists ((t).kids) vk_t ((u).kids) vk_u (fun k hk => (by obtain ⟨p, hp, e⟩ := kid_mem_parts hk; exact e ▸ ih p hp))) (fun x38 => ?_))
            refine qT rfl rfl rfl (o_not ?_)
            refine q0 rfl (o_pickF ?_)
            refine q0 rfl (o_move ?_)
            refine qI rfl rfl rfl wl_ (fun hg41 => ?_) (fun hg41 => ?_)
            · have g41 : (!(decide (((t).kids) = ((u).kids)))) = false := hg41
              try simp only [sC, bne_iff_ne, beq_iff_eq, ne_eq] at g41
              refine o_fa ?_
              refine qT rfl rfl rfl (o_ld ?_)
              refine qT rfl rfl rfl (o_len ?_)
              refine qT rfl rfl rfl (o_fa ?_)
              refine qT rfl rfl rfl (o_ld ?_)
              refine qT rfl rfl rfl (o_len ?_)
              refine qT rfl rfl rfl (o_neI ?_)
              refine q0 rfl (o_pickF ?_)
              refine rg_nil ?_
              exact hK _ ⟨rfl, rfl, dn_, trivial⟩
            · have g41 : (!(decide (((t).kids) = ((u).kids)))) = true := hg41
              try simp only [sC, bne_iff_ne, beq_iff_eq, ne_eq] at g41
              refine qF rfl rfl rfl ?_
              refine qF rfl rfl rfl ?_
              refine qF rfl rfl rfl ?_
              refine qF rfl rfl rfl ?_
              refine qF rfl rfl rfl ?_
              refine qF rfl rfl rfl ?_
              refine q0 rfl (o_pickT ?_)
              refine rg_nil ?_
              exact hK _ ⟨rfl, rfl, dn_, trivial⟩
          · have g33 : (!(decide (((t).r) = ((u).r)))) = true := hg33
            try simp only [sC, bne_iff_ne, beq_iff_eq, ne_eq] at g33
            refine qF rfl rfl rfl ?_
            refine qF rfl rfl rfl ?_
            refine qF rfl rfl rfl ?_
            refine qF rfl rfl rfl ?_
            refine qF rfl rfl rfl ?_
            refine q0 rfl (o_pickT ?_)
            refine q0 rfl (o_move ?_)
            refine qF rfl rfl rfl ?_
            refine qF rfl rfl rfl ?_
            refine qF rfl rfl rfl ?_
            refine qF rfl rfl rfl ?_
            refine qF rfl rfl rfl ?_
            refine qF rfl rfl rfl ?_
            refine qF rfl rfl rfl ?_
            refine q0 rfl (o_pickT ?_)
            refine rg_nil ?_
            exact hK _ ⟨rfl, rfl, dn_, trivial⟩
        · have g25 : (!(((t).name).toList == ((u).name).toList)) = true := hg25
          try simp only [sC, bne_iff_ne, beq_iff_eq, ne_eq] at g25
          refine qF rfl rfl rfl ?_
          refine qF rfl rfl rfl ?_
          refine qF rfl rfl rfl ?_
          refine qF rfl rfl rfl ?_
          refine qF rfl rfl rfl ?_
          refine q0 rfl (o_pickT ?_)
          refine q0 rfl (o_move ?_)
          refine qF rfl rfl rfl ?_
          refine qF rfl rfl rfl ?_
          refine qF rfl rfl rfl ?_
          refine qF rfl rfl rfl ?_
          refine qF rfl rfl rfl ?_
          refine qF rfl rfl rfl ?_
          refine q0 rfl (o_pickT ?_)
          refine q0 rfl (o_move ?_)
          refine qF rfl rfl rfl ?_
          refine qF rfl rfl rfl ?_
          refine qF rfl rfl rfl ?_
          refine qF rfl rfl rfl ?_
          refine qF rfl rfl rfl ?_
          refine qF rfl rfl rfl ?_
          refine qF rfl rfl rfl ?_
          refine q0 rfl (o_pickT ?_)
          refine rg_nil ?_
          exact hK _ ⟨rfl, rfl, dn_, trivial⟩
      · have g18 : (decide (((t).n) ≠ ((u).n))) = true := hg18
        try simp only [sC, bne_iff_ne, beq_iff_eq, ne_eq] at g18
        refine qF rfl rfl rfl ?_
        refine qF rfl rfl rfl ?_
        refine qF rfl rfl rfl ?_
        refine qF rfl rfl rfl ?_
        refine q0 rfl (o_pickT ?_)
        refine q0 rfl (o_move ?_)
        refine qF rfl rfl rfl ?_
        refine qF rfl rfl rfl ?_
        refine qF rfl rfl rfl ?_
        refine qF rfl rfl rfl ?_
        refine qF rfl rfl rfl ?_
        refine qF rfl rfl rfl ?_
        refine q0 rfl (o_pickT ?_)
        refine q0 rfl (o_move ?_)
        refine qF rfl rfl rfl ?_
        refine qF rfl rfl rfl ?_
        refine qF rfl rfl rfl ?_
        refine qF rfl rfl rfl ?_
        refine qF rfl rfl rfl ?_
        refine qF rfl rfl rfl ?_
        refine q0 rfl (o_pickT ?_)
        refine q0 rfl (o_move ?_)
        refine qF rfl rfl rfl ?_
        refine qF rfl rfl rfl ?_
        refine qF rfl rfl rfl ?_
        refine qF rfl rfl rfl ?_
        refine qF rfl rfl rfl ?_
        refine qF rfl rfl rfl ?_
        refine qF rfl rfl rfl ?_
        refine q0 rfl (o_pickT ?_)
        refine rg_nil ?_
        exact hK _ ⟨rfl, rfl, dn_, trivial⟩
    · have g11 : (decide (((t).kind) ≠ ((u).kind))) = true := hg11
      try simp only [sC, bne_iff_ne, beq_iff_eq, ne_eq] at g11
      refine qF rfl rfl rfl ?_
      refine qF rfl rfl rfl ?_
      refine qF rfl rfl rfl ?_
      refine qF rfl rfl rfl ?_
      refine q0 rfl (o_pickT ?_)
      refine q0 rfl (o_move ?_)
      refine qF rfl rfl rfl ?_
      refine qF rfl rfl rfl ?_
      refine qF rfl rfl rfl ?_
      refine qF rfl rfl rfl ?_
      refine qF rfl rfl rfl ?_
      refine q0 rfl (o_pickT ?_)
      refine q0 rfl (o_move ?_)
      refine qF rfl rfl rfl ?_
      refine qF rfl rfl rfl ?_
      refine qF rfl rfl rfl ?_
      refine qF rfl rfl rfl ?_
      refine qF rfl rfl rfl ?_
      refine qF rfl rfl rfl ?_
      refine q0 rfl (o_pickT ?_)
      refine q0 rfl (o_move ?_)
      refine qF rfl rfl rfl ?_
      refine qF rfl rfl rfl ?_
      refine qF rfl rfl rfl ?_
      refine qF rfl rfl rfl ?_
      refine qF rfl rfl rfl ?_
      refine qF rfl rfl rfl ?_
      refine q0 rfl (o_pickT ?_)
      refine q0 rfl (o_move ?_)
      refine qF rfl rfl rfl ?_
      refine qF rfl rfl rfl ?_
      refine qF rfl rfl rfl ?_
      refine qF rfl rfl rfl ?_
      refine qF rfl rfl rfl ?_
      refine qF rfl rfl rfl ?_
      refine qF rfl rfl rfl ?_
      refine q0 rfl (o_pickT ?_)
      refine rg_nil ?_
      exact hK _ ⟨rfl, rfl, dn_, trivial⟩
  · refine go_condI (fun h49 => ?_) (fun h49 => ?_)
    · have c49 : ((((((decide (((t).kind) ≠ ((u).kind))) || (decide (((t).n) ≠ ((u).n)))) || (!(((t).name).toList == ((u).name).toList))) || (!(decide (((t).r) = ((u).r))))) || (!(decide (((t).kids) = ((u).kids))))) || (decide (((t).sys.length : Int) ≠ ((u).sys.length : Int)))) = true := h49
      try simp only [sC, bne_iff_ne, beq_iff_eq, ne_eq] at c49
      refine go_seq ?_
      refine go_region ⟨_, Tryz.func19⟩ rfl ?_
      refine q0 rfl (o_assign ?_)
      refine rg_nil ?_
      refine ret1 Tryz.func19 Tryz.results19 wn_ () (by simp only [decide_eq_false (fun h : t = u => by subst h; simp at h49)]) (fun w hs => hs.none)
    · have c49 : ((((((decide (((t).kind) ≠ ((u).kind))) || (decide (((t).n) ≠ ((u).n)))) || (!(((t).name).toList == ((u).name).toList))) || (!(decide (((t).r) = ((u).r))))) || (!(decide (((t).kids) = ((u).kids))))) || (decide (((t).sys.length : Int) ≠ ((u).sys.length : Int)))) = false := h49
      try simp only [sC, bne_iff_ne, beq_iff_eq, ne_eq] at c49
      obtain ⟨hq1, hq2, hq3, hq4, hq5, hq6⟩ : t.kind = u.kind ∧ t.n = u.n ∧ t.name = u.name ∧ t.r = u.r ∧ t.kids = u.kids ∧ t.sys.length = u.sys.length := by have h := h49; simp only [Bool.or_eq_false_iff, Bool.not_eq_false', decide_eq_false_iff_not, ne_eq, Decidable.not_not, bytes_eq, decide_eq_true_eq, and_assoc] at h; obtain ⟨h1, h2, h3, h4, h5, h6⟩ := h; exact ⟨h1, h2, h3, h4, h5, by omega⟩
      refine go_skip ?_
      refine go_seq ?_
      refine go_seq ?_
      refine go_region ⟨_, Tryz.func19⟩ rfl ?_
      refine q0 rfl (o_assign ?_)
      refine rg_nil ?_
      refine go_block ?_
      refine go_loopE (X := Nat) (fun s_ => s_ ≤ t.sys.length ∧ ∀ j, j < s_ → t.sys.getD j br0 = u.sys.getD j br0) (fun s_ => [(2, .pointer (some ⟨b2, 0, none⟩)), (3, .pointer (some ⟨b3, 0, none⟩)), (5, .int .i64 ((s_ : Int)))]) (fun s_ G_ => G_) (fun s_ => [boxR b3 (tc u vr_u vk_u vs_u) 26, boxR b2 (tc t vr_t vk_t vs_t) 26]) (fun s_ => t.sys.length - s_) (0) (⟨by omega, fun j h => absurd h (Nat.not_lt_zero j)⟩) (by exact ⟨rfl, rfl, rfl, trivial⟩) ?_ ?_
      · exact fun w hs => hs
      · intro i base0 ⟨hi, hsm⟩ next0
        refine go_seq ?_
        refine go_seq ?_
        refine go_region ⟨_, Tryz.func19⟩ rfl ?_
        refine q0 rfl (o_move ?_)
        refine q0 rfl (o_fa ?_)
        refine q0 rfl (o_ld ?_)
        refine q0 rfl (o_len ?_)
        refine q0 rfl (o_lss ?_)
        refine rg_nil ?_
        refine go_condI (fun h54 => ?_) (fun h54 => ?_)
        · have c54 : (decide ((i : Int) < ((t).sys.length : Int))) = true := h54
          try simp only [sC, bne_iff_ne, beq_iff_eq, ne_eq] at c54
          refine go_skip ?_
          refine go_seq ?_
          refine go_block ?_
          refine go_seq ?_
          refine go_branch (bs := (t).sys) (a := vs_t) (VF := VF4) (VK := VK4) i (by omega) ?_
          refine go_openCL (l := (((t).sys).getD i br0).face) (a := VF4 i) (fun hl9 hA9 hU9 => ?_)
          refine go_openTL (ts := (((t).sys).getD i br0).kids) (a := VK4 i) (fun VR10 VK10 VS10 hl10 hA10 => ?_)
          refine go_branch (bs := (u).sys) (a := vs_u) (VF := VF8) (VK := VK8) i (by omega) ?_
          refine go_openCL (l := (((u).sys).getD i br0).face) (a := VF8 i) (fun hl11 hA11 hU11 => ?_)
          refine go_openTL (ts := (((u).sys).getD i br0).kids) (a := VK8 i) (fun VR12 VK12 VS12 hl12 hA12 => ?_)
          refine go_cutS ([(2, .pointer (some ⟨b2, 0, none⟩)), (3, .pointer (some ⟨b3, 0, none⟩)), (5, .int .i64 ((i : Int))), (86, .bool ((!(decide (((((t).sys).getD i br0).face) = ((((u).sys).getD i br0).face)))) || (!(decide (((((t).sys).getD i br0).kids) = ((((u).sys).getD i br0).kids))))))]) (fun hK => ?_) (fun base => ?_)
          · refine go_draw (tn := false) (A := [0, 1, 0, 7, 15, 31, 0, 64, 0, 448, 960, 1984, 4095, 8191, 16383, 32767, 65535, 32767, 262143, 524287, 1048575, 32767, 2129919, 32767, 14712831, 31490047, 65044479, 134217727, 268435455, 536870911]) (l := [0, 1, 2, 3, 4, 5, 6, 7, 8, 9, 10, 11, 12, 13, 14, 15, 16, 17, 18, 19, 20, 21, 22, 23, 24, 25, 26, 27, 28, 29]) (fin := []) Tab.mixed ⟨_, Tryz.func19⟩ (by rfl) ?_
            refine n0 rfl (v_fa ?_)
            refine n0 rfl (v_ld ?_)
            refine n0 rfl (v_move ?_)
            obtain ⟨bk13, o13, hav13⟩ := hA4 (by omega)
            refine n0 rfl (v_ixN ?_ (j := i))
            refine n0 rfl (v_fa ?_)
            refine n0 rfl (v_ldBf ?_)
            refine n0 rfl (v_fa ?_)
            refine n0 rfl (v_ld ?_)
            refine n0 rfl (v_move ?_)
            obtain ⟨bk14, o14, hav14⟩ := hA8 (by omega)
            refine n0 rfl (v_ixN ?_ (j := i))
            refine n0 rfl (v_fa ?_)
            refine n0 rfl (v_ldBf ?_)
            refine n0 rfl (v_call Tryz.call48 (rsameC ((((t).sys).getD i br0).face) (VF4 i) ((((u).sys).getD i br0).face) (VF8 i) ) (fun x69 => ?_))
            refine n0 rfl (v_not ?_)
            refine n0 rfl (v_move ?_)
            refine nI rfl rfl rfl wl_ (fun hg71 => ?_) (fun hg71 => ?_)
            · have g71 : (!(decide (((((t).sys).getD i br0).face) = ((((u).sys).getD i br0).face)))) = false := hg71
              try simp only [sC, bne_iff_ne, beq_iff_eq, ne_eq] at g71
              refine v_fa ?_
              refine nT rfl rfl rfl (v_ld ?_)
              refine nT rfl rfl rfl (v_move ?_)
              refine nT rfl rfl rfl (v_ixN ?_ (j := i))
              refine nT rfl rfl rfl (v_fa ?_)
              refine nT rfl rfl rfl (v_ldBf ?_)
              refine nT rfl rfl rfl (v_fa ?_)
              refine nT rfl rfl rfl (v_ld ?_)
              refine nT rfl rfl rfl (v_move ?_)
              refine nT rfl rfl rfl (v_ixN ?_ (j := i))
              refine nT rfl rfl rfl (v_fa ?_)
              refine nT rfl rfl rfl (v_ldBf ?_)
              refine nT rfl rfl rfl (v_call Tryz.call49 (rlists ((((t).sys).getD i br0).kids) (VK4 i) ((((u).sys).getD i br0).kids) (VK8 i) (fun k hk => (by obtain ⟨p, hp, e⟩ := sys_mem_parts (getD_mem (show i < t.sys.length by omega)) hk; exact e ▸ ih p hp))) (fun x84 => ?_))
              refine nT rfl rfl rfl (v_not ?_)
              refine n0 rfl (v_pickF ?_)
              refine NV.done ?_
              refine rg_nil ?_
              exact hK _ ⟨rfl, rfl, rfl, dn_, trivial⟩
            · have g71 : (!(decide (((((t).sys).getD i br0).face) = ((((u).sys).getD i br0).face)))) = true := hg71
              try simp only [sC, bne_iff_ne, beq_iff_eq, ne_eq] at g71
              refine nF rfl rfl rfl ?_
              refine nF rfl rfl rfl ?_
              refine nF rfl rfl rfl ?_
              refine nF rfl rfl rfl ?_
              refine nF rfl rfl rfl ?_
              refine nF rfl rfl rfl ?_
              refine nF rfl rfl rfl ?_
              refine nF rfl rfl rfl ?_
              refine nF rfl rfl rfl ?_
              refine nF rfl rfl rfl ?_
              refine nF rfl rfl rfl ?_
              refine nF rfl rfl rfl ?_
              refine nF rfl rfl rfl ?_
              refine n0 rfl (v_pickT ?_)
              refine NV.done ?_
              refine rg_nil ?_
              exact hK _ ⟨rfl, rfl, rfl, dn_, trivial⟩
          · refine go_condI (fun h86 => ?_) (fun h86 => ?_)
            · have c86 : ((!(decide (((((t).sys).getD i br0).face) = ((((u).sys).getD i br0).face)))) || (!(decide (((((t).sys).getD i br0).kids) = ((((u).sys).getD i br0).kids))))) = true := h86
              try simp only [sC, bne_iff_ne, beq_iff_eq, ne_eq] at c86
              refine go_seq ?_
              refine go_region ⟨_, Tryz.func19⟩ rfl ?_
              refine q0 rfl (o_assign ?_)
              refine rg_nil ?_
              refine ret1 Tryz.func19 Tryz.results19 wn_ () (by simp only [decide_eq_false (fun h : t = u => by subst h; simp at h86)]) (fun w hs => hs.none)
            · have c86 : ((!(decide (((((t).sys).getD i br0).face) = ((((u).sys).getD i br0).face)))) || (!(decide (((((t).sys).getD i br0).kids) = ((((u).sys).getD i br0).kids))))) = false := h86
              try simp only [sC, bne_iff_ne, beq_iff_eq, ne_eq] at c86
              refine go_skip ?_
              refine go_inBlock ?_
              refine go_region ⟨_, Tryz.func19⟩ rfl ?_
              refine q0 rfl (o_move ?_)
              refine q0 rfl (o_add ?_)
              refine q0 rfl (o_assign ?_)
              refine rg_nil ?_
              refine go_state (fun w hs => ?_) (next0 (i + 1) _ (⟨by omega, fun j hj => by rcases Nat.lt_succ_iff_lt_or_eq.mp hj with h | h; exact hsm j h; subst h; exact Br.ext'.mpr (by simpa using h86)⟩) (by omega) ⟨rfl, rfl, rfl, trivial⟩)
              exact (((hs.less (by simp +contextual)).perm perm1).perm perm1)
        · have c54 : (decide ((i : Int) < ((t).sys.length : Int))) = false := h54
          try simp only [sC, bne_iff_ne, beq_iff_eq, ne_eq] at c54
          refine go_exit rfl ?_
          refine go_seq ?_
          refine go_region ⟨_, Tryz.func19⟩ rfl ?_
          refine q0 rfl (o_assign ?_)
          refine rg_nil ?_
          refine ret1 Tryz.func19 Tryz.results19 wn_ () (by simp only [decide_eq_true (T.ext'.mpr ⟨hq1, hq2, hq3, hq4, hq5, list_eq_of (d := br0) hq6 (fun j hj => hsm j (by omega))⟩ : t = u)]) (fun w hs => hs.none)
theorem rsame : ∀ (t u : T) vr vk vs vr' vk' vs', Spec Tryz.prog 19 #[.agg (tc t vr vk vs).toArray, .agg (tc u vr' vk' vs').toArray] [RT t vr vk vs, RT u vr' vk' vs'] [] (fun _ : Unit => .bool (decide (t = u))) (fun _ => []) (fun _ => []) := fun t => (T.ind fun t ih u vr vk vs vr' vk' vs' => rsame_walk t vr vk vs u vr' vk' vs' ih : ∀ t : T, SameR t) t
theorem rsameI (t u : T) (h : t = u) : ∀ vr vk vs vr' vk' vs', Spec Tryz.prog 19 #[.agg (tc t vr vk vs).toArray, .agg (tc u vr' vk' vs').toArray] [RT t vr vk vs, RT u vr' vk' vs'] [] (fun _ : Unit => .bool true) (fun _ => []) (fun _ => []) := fun vr vk vs vr' vk' vs' => by
  have h1 := rsame t u vr vk vs vr' vk' vs'
  rw [decide_eq_true h] at h1
  exact h1
end Go.Hy
namespace Go.Hy
set_option linter.unusedVariables false
set_option linter.unusedSimpArgs false
set_option linter.unusedSectionVars false
open Go.Proofs
set_option linter.unusedVariables false
set_option linter.unusedSimpArgs false
set_option maxRecDepth 100000
theorem rcopyF (t : T) (vr vk vs : SH) : Spec Tryz.prog 16 #[.agg (tc t vr vk vs).toArray] [RT t vr vk vs] [] (fun x : SH × SH × SH => .agg (tc t x.1 x.2.1 x.2.2).toArray) (fun x => [RT t x.1 x.2.1 x.2.2]) (fun _ => []) := by
  intro ok w hok hst
  have hokt : okT t := ok_of (hst.facts (RT t vr vk vs) List.mem_cons_self)
  refine (rcopyO t vr vk vs ok w hok hst).mono ?_
  rintro e w' ⟨x, rfl, hx⟩
  refine ⟨(x.1.vr, x.1.vk, x.1.vs), rfl, ?_⟩
  have h1 := hx.unpack
  have h2 := St.settleT tys trivial x.1 (by rw [x.2]; exact hokt) h1
  rw [x.2] at h2
  exact h2
end Go.Hy
namespace Go.Hy
set_option linter.unusedVariables false
set_option linter.unusedSimpArgs false
set_option linter.unusedSectionVars false
open Go.Proofs
set_option linter.unusedVariables false
set_option linter.unusedSimpArgs false
set_option maxRecDepth 100000
theorem cloneI (l : List Int) (a_l : SH)  : Spec Tryz.prog 80 #[sl a_l (l.length)] [IL l a_l] [] (fun x : SH => sl x l.length) (fun x : SH => [IL l x]) (fun x : SH => []) := by
  refine spec_go (args := [sl a_l (l.length)]) Tryz.func80 Tryz.ntmps80 rfl (by exact Nat.le_of_ble_eq_true rfl) fun B hB => ?_
  refine go_openIL (l := l) (a := a_l) (fun hl1 hA1 hU1 => ?_)
  refine go_seq ?_
  refine go_region ⟨_, Tryz.func80⟩ rfl ?_
  refine q0 rfl (o_assign ?_)
  refine rg_nil ?_
  refine go_seq ?_
  refine go_seq ?_
  refine go_region ⟨_, Tryz.func80⟩ rfl ?_
  refine q0 rfl (o_move ?_)
  refine q0 rfl (o_eqNil ?_)
  refine rg_nil ?_
  refine go_condI (fun h4 => ?_) (fun h4 => ?_)
  · refine go_seq ?_
    refine go_region ⟨_, Tryz.func80⟩ rfl ?_
    refine q0 rfl (o_assign ?_)
    refine rg_nil ?_
    have hl : l = [] := by (rcases Nat.eq_zero_or_pos l.length with h | h; exact List.eq_nil_of_length_eq_zero h; obtain ⟨bk, o, hav⟩ := hA1 h; rw [hav] at h4; cases h4)
    subst hl
    refine ret1 Tryz.func80 Tryz.results80 wn_ (none, 0) rfl (fun w hs => (hs.bare.nilIL 0).less (by simp))
  · refine go_skip ?_
    refine go_seq ?_
    refine go_region ⟨_, Tryz.func80⟩ rfl ?_
    refine q0 rfl (o_lit0 fun b5 => ?_)
    refine q0 rfl (o_move ?_)
    refine rg_state (fun w hs => hs.boxRow (sz := 1) (m := 0) rfl (by decide)) ?_
    refine q0 rfl (o_appIL (fun a7 => ?_) (by simp) (a := (some ⟨b5, 0, none⟩, 0)) (n' := 0) (b := a_l) (ls := l))
    refine rg_state (fun w hs => hs.appFlatI (l := []) (m := l)) ?_
    refine q0 rfl (o_assign ?_)
    refine rg_nil ?_
    refine ret1 Tryz.func80 Tryz.results80 wn_ a7 (by (conv => lhs; whnf); simp [sl]) (fun w hs => ((hs.settleIL (l := l) hB (by simp) (by simp) (by unfold reach at *; omega) hU1).bare.less (by simp)))
abbrev AllO (t : T) : Prop := ∀ (ps : List IP) (a_o : SH) (l : List Int) (a_l : SH) (vr vk vs : SH), ps.length + size t ≤ 1000000000 → l.length + size t ≤ 1000000000 → Spec Tryz.prog 52 #[sl a_o ps.length, sl a_l l.length, .agg (tc t vr vk vs).toArray] [AllF ipE ps, IL l a_l, RT t vr vk vs] [rowS 1 33 a_o ps.length (ipFlat ps)] (fun x : {x : SH × List IP // x.2.map (·.1) = ps.map (·.1) ++ (everyP t).map (l ++ ·)} => sl x.1.1 x.1.2.length) (fun x => [AllF ipE x.1.2]) (fun x => [rowS 1 33 x.1.1 x.1.2.length (ipFlat x.1.2)])
theorem pathAll_walk (ps : List IP) (a_o : SH) (l : List Int) (a_l : SH) (t : T) (vr_t vk_t vs_t : SH) (ih : ∀ p, p ∈ parts t → AllO p.1) (hz : ps.length + size t ≤ 1000000000) (hzl : l.length + size t ≤ 1000000000) : Spec Tryz.prog 52 #[sl a_o (ps.length), sl a_l (l.length), .agg (tc t vr_t vk_t vs_t).toArray] [AllF ipE ps, IL l a_l, RT t vr_t vk_t vs_t] [rowS 1 33 a_o (ps.length) (ipFlat ps)] (fun x : {x : SH × List IP // x.2.map (·.1) = ps.map (·.1) ++ (everyP t).map (l ++ ·)} => sl x.1.1 x.1.2.length) (fun x : {x : SH × List IP // x.2.map (·.1) = ps.map (·.1) ++ (everyP t).map (l ++ ·)} => [AllF ipE x.1.2]) (fun x : {x : SH × List IP // x.2.map (·.1) = ps.map (·.1) ++ (everyP t).map (l ++ ·)} => [rowS 1 33 x.1.1 x.1.2.length (ipFlat x.1.2)]) := by
  refine spec_go (args := [sl a_o (ps.length), sl a_l (l.length), .agg (tc t vr_t vk_t vs_t).toArray]) Tryz.func52 Tryz.ntmps52 rfl (by exact Nat.le_of_ble_eq_true rfl) fun B hB => ?_
  refine go_openIL (l := l) (a := a_l) (fun hl1 hA1 hU1 => ?_)
  refine go_open (t := t) (vr := vr_t) (vk := vk_t) (vs := vs_t) (fun hk2 hn2 hm2 => ?_)
  refine go_openCL (l := (t).r) (a := vr_t) (fun hl3 hA3 hU3 => ?_)
  refine go_openTL (ts := (t).kids) (a := vk_t) (fun VR4 VK4 VS4 hl4 hA4 => ?_)
  refine go_openBL (bs := (t).sys) (a := vs_t) (fun VF5 VK5 hl5 hA5 => ?_)
  have hsp := size_pos' t
  have hpn := parts_len t
  refine go_know (p := l.length ≤ a_l.2) (fun w hs => (hs.facts (IL l a_l) (by simp)).1.1) (fun hcap => ?_)
  refine go_seq ?_
  refine go_region ⟨_, Tryz.func52⟩ rfl ?_
  refine q0 rfl (o_box fun b5 => ?_)
  refine q0 rfl (o_assign ?_)
  refine rg_nil ?_
  refine go_seq ?_
  refine go_region ⟨_, Tryz.func52⟩ rfl ?_
  refine q0 rfl (o_move ?_)
  refine q0 rfl (o_move ?_)
  refine q0 rfl (o_call Tryz.call80 (cloneI l a_l ) (fun x11 => ?_))
  refine q0 rfl (o_lit1 fun b12 => ?_)
  refine q0 rfl (o_appS (fun a13 => ?_) (a := a_o) (n' := ps.length))
  refine rg_state (fun w hs => ((hs.perm perm1).drop).snocII (q := (l, x11)) rfl) ?_
  refine q0 rfl (o_assign ?_)
  refine rg_nil ?_
  refine go_state (fun w hs => (hs.allAdd (E := ipE) (l := ps) (x := (l, x11)) mf_ mf_)) ?_
  refine go_ms (Ms' := [rowS 1 33 a13 ((ps ++ [(l, x11)]).length) (ipFlat (ps ++ [(l, x11)])), boxR b5 (tc t vr_t vk_t vs_t) 26]) (by simp only [List.length_append, List.length_cons, List.length_nil]) ?_
  refine go_seq ?_
  refine go_seq ?_
  refine go_region ⟨_, Tryz.func52⟩ rfl ?_
  refine q0 rfl (o_lds ?_)
  refine q0 rfl (o_call Tryz.call50 (parts_walk t vr_t vk_t vs_t om_) (fun x15 => ?_))
  refine q0 rfl (o_len ?_)
  refine q0 rfl (o_move ?_)
  refine rg_nil ?_
  refine go_state (fun w hs => ((((hs.perm perm2).perm perm2).perm perm2).settleRow (F := spCells) (E := qE) (d := qp0) (bt := 120) (l := x15.1.2) (fun _ => rfl) hB mf_ rfl rfl (by have := congrArg List.length x15.2; rw [List.length_map] at this; unfold reach; omega))) ?_
  have hxl := congrArg List.length x15.2
  rw [List.length_map] at hxl
  refine go_block ?_
  refine go_loopE (X := Nat × SH × List IP) (fun s_ => s_.1 ≤ x15.1.2.length ∧ s_.2.2.map (·.1) = ps.map (·.1) ++ (everyTo t s_.1).map (l ++ ·)) (fun s_ => [(0, sl s_.2.1 (s_.2.2.length)), (1, sl a_l (l.length)), (15, sl x15.1.1 (x15.1.2.length)), (16, .int .i64 ((x15.1.2.length : Int))), (17, .int .i64 ((s_.1 : Int)))]) (fun s_ G_ => AllF ipE s_.2.2 :: G_) (fun s_ => [rowS 1 33 s_.2.1 (s_.2.2.length) (ipFlat s_.2.2), boxR b5 (tc t vr_t vk_t vs_t) 26]) (fun s_ => x15.1.2.length - s_.1) (0, a13, ps ++ [(l, x11)]) (⟨by omega, by simp [everyTo, idxCat]⟩) (by exact ⟨(by (conv => lhs; whnf); simp [sl]), rfl, rfl, rfl, rfl, trivial⟩) ?_ ?_
  · exact fun w hs => (hs.less (by simp +contextual))
  · intro ⟨m, a, qs⟩ base0 ⟨hi, hqs⟩ next0
    dsimp only at  hi  hqs  next0 ⊢
    refine go_seq ?_
    refine go_region ⟨_, Tryz.func52⟩ rfl ?_
    refine q0 rfl (o_lss ?_)
    refine rg_nil ?_
    refine go_seq ?_
    refine go_condI (fun h18 => ?_) (fun h18 => ?_)
    · have c18 : (decide ((m : Int) < (x15.1.2.length : Int))) = true := h18
      try simp only [sC, bne_iff_ne, beq_iff_eq, ne_eq] at c18
      have hqm := qer_at x15.2 (show m < x15.1.2.length by omega)
      have hzp := size_part hqm
      have hqll := congrArg List.length hqs
      simp only [List.length_map, List.length_append] at hqll
      rw [everyTo_len (by omega)] at hqll
      simp only [qer] at hzp
      have hzq := size_part_lt (List.mem_of_getElem? hqm)
      simp only [qer] at hzq
      refine go_skip ?_
      refine go_seq ?_
      refine go_block ?_
      refine go_seq ?_
      refine go_openRow (l := x15.1.2) (a := x15.1.1) (bt := 120) (F := spCells) (E := qE) (d := qp0) mm_ (fun hl6 hA6 => ?_)
      refine go_elem (l := x15.1.2) (a := x15.1.1) (bt := 120) (F := spCells) (E := qE) (d := qp0) mm_ m (by omega) ?_
      refine go_region ⟨_, Tryz.func52⟩ rfl ?_
      refine q0 rfl (o_move ?_)
      obtain ⟨bk7, o7, hav7⟩ := hA6 (by omega)
      refine q0 rfl (o_ixN ?_ (j := m))
      refine q0 rfl (o_ldQ ?_)
      refine q0 rfl (o_new fun b8 => ?_)
      refine q0 rfl (o_assign ?_)
      refine q0 rfl (o_st ?_)
      refine rg_nil ?_
      refine go_state (fun w hs => ((((hs.perm perm2).perm perm2).perm perm2).settleBox hB)) ?_
      refine go_draw (tn := true) (A := [0, 0, 0, 4, 0, 16, 62, 0, 128, 510, 0, 1024, 4095, 8191]) (l := [0, 1, 2, 3, 4, 5, 6, 7, 10, 11, 8, 9]) (fin := [12, 13]) Tab.mixed ⟨_, Tryz.func52⟩ (by rfl) ?_
      refine n0 rfl (v_move ?_)
      refine n0 rfl (v_move ?_)
      refine n0 rfl (v_move ?_)
      refine n0 rfl (v_len ?_)
      refine n0 rfl (v_move ?_)
      refine n0 rfl (v_len ?_)
      refine n0 rfl (v_slice3 ?_ (k := l.length))
      refine n0 rfl (v_move ?_)
      refine n0 rfl (v_fa ?_)
      refine n0 rfl (f_ldgs ?_)
      refine n0 rfl (v_lit1 fun b30 => ?_)
      refine n0 rfl (t_appFull (fun a31 => ?_) (by simp) (ls := l) (a := a_l))
      refine nv_conv [_] [_] (fun _ _ _ hs => hs.snocI) ?_
      refine NV.done ?_
      refine rg_state (fun w hs => (((((hs.perm perm3).perm perm3).perm perm3).perm perm3).settleIL (l := l ++ [(m : Int)]) hB rfl (by simp) (by unfold reach; omega) (fun c hc => by rcases List.mem_append.mp hc with h | h; exact hU1 c h; rw [List.mem_singleton] at h; subst h; unfold in64; omega))) ?_
      have hih0 : AllO (x15.1.2.getD m qp0).1.1 := ih _ (List.mem_of_getElem? hqm)
      have hih := hih0 qs a (l ++ [(m : Int)]) a31 (x15.1.2.getD m qp0).1.2.1 (x15.1.2.getD m qp0).1.2.2.1 (x15.1.2.getD m qp0).1.2.2.2 (by show qs.length + size (x15.1.2.getD m qp0).1.1 ≤ _; omega) (by show (l ++ [(m : Int)]).length + size (x15.1.2.getD m qp0).1.1 ≤ _; rw [List.length_append, List.length_singleton]; omega)
      rw [show (l ++ [(m : Int)]).length = l.length + 1 by simp] at hih
      refine rg_state (fun w hs => (((hs.perm perm2).perm perm1).perm perm2)) ?_
      refine q0 rfl (o_call Tryz.call52 (hih) (fun x34 => ?_))
      refine q0 rfl (o_assign ?_)
      refine rg_nil ?_
      refine go_inBlock ?_
      refine go_region ⟨_, Tryz.func52⟩ rfl ?_
      refine q0 rfl (o_add ?_)
      refine q0 rfl (o_move ?_)
      refine rg_nil ?_
      have hnx : qs.map (fun z : IP => z.1) ++ (everyP (x15.1.2.getD m qp0).1.1).map (fun z => l ++ [(m : Int)] ++ z) = ps.map (fun z : IP => z.1) ++ (everyTo t (m + 1)).map (fun z => l ++ z) := by rw [hqs, everyTo_succ hqm]; simp [qer, Function.comp_def]
      refine go_state (fun w hs => ?_) (next0 (m + 1, x34.1.1, x34.1.2) _ (⟨by omega, x34.2.trans hnx⟩) (by (try simp only); omega) ⟨rfl, rfl, rfl, rfl, rfl, trivial⟩)
      exact ((((hs.less (by simp +contextual)).perm perm2).perm perm1).dropR (A := [_, _]))
    · have c18 : (decide ((m : Int) < (x15.1.2.length : Int))) = false := h18
      try simp only [sC, bne_iff_ne, beq_iff_eq, ne_eq] at c18
      refine go_exit rfl ?_
      refine go_seq ?_
      refine go_region ⟨_, Tryz.func52⟩ rfl ?_
      refine q0 rfl (o_move ?_)
      refine q0 rfl (o_assign ?_)
      refine rg_nil ?_
      have hme : m = (parts t).length := by omega
      have hfull : qs.map (·.1) = ps.map (·.1) ++ (everyP t).map (l ++ ·) := by rw [hqs, hme, everyTo_all]
      refine ret1 Tryz.func52 Tryz.results52 wn_ ⟨(a, qs), hfull⟩ rfl (fun w hs => ((hs.less (by simp)).dropR (A := [_])))
theorem allO : ∀ t : T, AllO t := T.ind fun t ih ps a_o l a_l vr vk vs hz hzl => pathAll_walk ps a_o l a_l t vr vk vs ih hz hzl
end Go.Hy
namespace Go.Hy
set_option linter.unusedVariables false
set_option linter.unusedSimpArgs false
set_option linter.unusedSectionVars false
open Go.Proofs
set_option linter.unusedVariables false
set_option linter.unusedSimpArgs false
set_option maxRecDepth 100000
theorem allP_spec (t : T) (vr_t vk_t vs_t : SH) (hz : size t ≤ 1000000000) : Spec Tryz.prog 25 #[.agg (tc t vr_t vk_t vs_t).toArray] [RT t vr_t vk_t vs_t] [] (fun x : {x : SH × List IP // x.2.map (·.1) = allL t} => .tuple #[sl x.1.1 x.1.2.length, .int .i64 (formedP t)]) (fun x : {x : SH × List IP // x.2.map (·.1) = allL t} => [IIF x.1.2 x.1.1]) (fun x : {x : SH × List IP // x.2.map (·.1) = allL t} => []) := by
  refine spec_go (args := [.agg (tc t vr_t vk_t vs_t).toArray]) Tryz.func25 Tryz.ntmps25 rfl (by exact Nat.le_of_ble_eq_true rfl) fun B hB => ?_
  refine go_open (t := t) (vr := vr_t) (vk := vk_t) (vs := vs_t) (fun hk1 hn1 hm1 => ?_)
  refine go_openCL (l := (t).r) (a := vr_t) (fun hl2 hA2 hU2 => ?_)
  refine go_openTL (ts := (t).kids) (a := vk_t) (fun VR3 VK3 VS3 hl3 hA3 => ?_)
  refine go_openBL (bs := (t).sys) (a := vs_t) (fun VF4 VK4 hl4 hA4 => ?_)
  have hdt := depth_le_size t
  refine go_seq ?_
  refine go_region ⟨_, Tryz.func25⟩ rfl ?_
  refine q0 rfl (o_box fun b1 => ?_)
  refine q0 rfl (o_assign ?_)
  refine q0 rfl (o_assign ?_)
  refine rg_nil ?_
  refine go_seq ?_
  refine go_seq ?_
  refine go_region ⟨_, Tryz.func25⟩ rfl ?_
  refine q0 rfl (o_lds ?_)
  refine q0 rfl (o_call Tryz.call45 (formed_spec t (.inr form_spec) vr_t vk_t vs_t om_) (fun x6 => ?_))
  refine q0 rfl (o_assign ?_)
  refine rg_nil ?_
  refine go_seq ?_
  refine go_region ⟨_, Tryz.func25⟩ rfl ?_
  refine q0 rfl (o_move ?_)
  refine q0 rfl (o_neI ?_)
  refine rg_nil ?_
  refine go_condI (fun h8 => ?_) (fun h8 => ?_)
  · have c8 : (decide ((formedP t) ≠ 0)) = true := h8
    try simp only [sC, bne_iff_ne, beq_iff_eq, ne_eq] at c8
    have hne : formedP t ≠ 0 := by simpa using h8
    refine go_seq ?_
    refine go_region ⟨_, Tryz.func25⟩ rfl ?_
    refine q0 rfl (o_move ?_)
    refine q0 rfl (o_assign ?_)
    refine q0 rfl (o_assign ?_)
    refine rg_nil ?_
    refine ret2 Tryz.func25 Tryz.results25 wn_ wn_ ⟨((none, 0), []), by rw [allL, if_pos hne]; rfl⟩ rfl (fun w hs => (hs.bare.nilRow (sz := 1) (bt := 24) (F := ipCells) (E := ipE) (d := ip0) 0).less (by simp))
  · have c8 : (decide ((formedP t) ≠ 0)) = false := h8
    try simp only [sC, bne_iff_ne, beq_iff_eq, ne_eq] at c8
    have hf0 : formedP t = 0 := by simpa using h8
    refine go_skip ?_
    refine go_seq ?_
    refine go_state (fun w hs => ((hs.rowS0 1 33).nilIL 0).allNil ipE) ?_
    refine go_region ⟨_, Tryz.func25⟩ rfl ?_
    refine q0 rfl (o_lds ?_)
    refine q0 rfl (o_call Tryz.call52 (allO t [] (none, 0) [] (none, 0) vr_t vk_t vs_t (by simp only [List.length_nil]; omega) (by simp only [List.length_nil]; omega)) (fun x11 => ?_))
    refine q0 rfl (o_assign ?_)
    refine q0 rfl (o_assign ?_)
    refine rg_nil ?_
    have hxl := congrArg List.length x11.2
    simp only [List.map_nil, List.nil_append, List.length_map, every_len] at hxl
    have hall : allL t = everyP t := by rw [allL, if_neg (by simp [hf0])]
    refine ret2 Tryz.func25 Tryz.results25 wn_ wn_ ⟨x11.1, x11.2.trans (by rw [hall]; simp)⟩ (congrArg (fun z : Int => Value.tuple #[sl x11.1.1 x11.1.2.length, .int .i64 z]) hf0.symm) (fun w hs => ((((hs.perm perm1).perm perm1).settleRow (F := ipCells) (E := ipE) (d := ip0) (bt := 24) (l := x11.1.2) (fun _ => rfl) hB mf_ rfl rfl (by unfold reach; omega)).bare.less (by simp)))
theorem ints_spec (l : List Int) (a_l : SH) (m : List Int) (a_m : SH)  : Spec Tryz.prog 29 #[sl a_l (l.length), sl a_m (m.length)] [IL l a_l, IL m a_m] [] (fun _ : Unit => .bool ((decide (l = m)))) (fun _ : Unit => []) (fun _ : Unit => []) := by
  refine spec_go (args := [sl a_l (l.length), sl a_m (m.length)]) Tryz.func29 Tryz.ntmps29 rfl (by exact Nat.le_of_ble_eq_true rfl) fun B hB => ?_
  refine go_openIL (l := l) (a := a_l) (fun hl1 hA1 hU1 => ?_)
  refine go_openIL (l := m) (a := a_m) (fun hl2 hA2 hU2 => ?_)
  refine go_seq ?_
  refine go_region ⟨_, Tryz.func29⟩ rfl ?_
  refine q0 rfl (o_assign ?_)
  refine rg_nil ?_
  refine go_seq ?_
  refine go_seq ?_
  refine go_region ⟨_, Tryz.func29⟩ rfl ?_
  refine q0 rfl (o_move ?_)
  refine q0 rfl (o_len ?_)
  refine q0 rfl (o_move ?_)
  refine q0 rfl (o_len ?_)
  refine q0 rfl (o_neI ?_)
  refine rg_nil ?_
  refine go_condI (fun h10 => ?_) (fun h10 => ?_)
  · have c10 : (decide ((l.length : Int) ≠ (m.length : Int))) = true := h10
    try simp only [sC, bne_iff_ne, beq_iff_eq, ne_eq] at c10
    have hne : ¬ l = m := fun e => by subst e; simp at h10
    refine go_seq ?_
    refine go_region ⟨_, Tryz.func29⟩ rfl ?_
    refine q0 rfl (o_assign ?_)
    refine rg_nil ?_
    refine ret1 Tryz.func29 Tryz.results29 wn_ () (by rw [decide_eq_false hne]) (fun w hs => hs.none)
  · have c10 : (decide ((l.length : Int) ≠ (m.length : Int))) = false := h10
    try simp only [sC, bne_iff_ne, beq_iff_eq, ne_eq] at c10
    have hlen : l.length = m.length := by simp at h10; omega
    refine go_skip ?_
    refine go_seq ?_
    refine go_seq ?_
    refine go_region ⟨_, Tryz.func29⟩ rfl ?_
    refine q0 rfl (o_assign ?_)
    refine rg_nil ?_
    refine go_block ?_
    refine go_loopE (X := Nat) (fun s_ => s_ ≤ l.length ∧ ∀ j, j < s_ → l.getD j 0 = m.getD j 0) (fun s_ => [(0, sl a_l (l.length)), (1, sl a_m (m.length)), (5, .int .i64 ((s_ : Int)))]) (fun s_ G_ => G_) (fun s_ => []) (fun s_ => l.length - s_) (0) (⟨by omega, fun j hj => by omega⟩) (by exact ⟨rfl, rfl, rfl, trivial⟩) ?_ ?_
    · exact fun w hs => hs
    · intro i base0 ⟨hi, hok⟩ next0
      refine go_seq ?_
      refine go_seq ?_
      refine go_region ⟨_, Tryz.func29⟩ rfl ?_
      refine q0 rfl (o_move ?_)
      refine q0 rfl (o_move ?_)
      refine q0 rfl (o_len ?_)
      refine q0 rfl (o_lss ?_)
      refine rg_nil ?_
      refine go_condI (fun h14 => ?_) (fun h14 => ?_)
      · have c14 : (decide ((i : Int) < (l.length : Int))) = true := h14
        try simp only [sC, bne_iff_ne, beq_iff_eq, ne_eq] at c14
        refine go_skip ?_
        refine go_seq ?_
        refine go_block ?_
        refine go_seq ?_
        refine go_draw (tn := false) (A := [0, 0, 3, 7, 0, 0, 48, 112, 255]) (l := [0, 1, 2, 3, 4, 5, 6, 7, 8]) (fin := []) Tab.mixed ⟨_, Tryz.func29⟩ (by rfl) ?_
        refine n0 rfl (v_move ?_)
        refine n0 rfl (v_move ?_)
        obtain ⟨bk3, o3, hav3⟩ := hA1 (by omega)
        refine n0 rfl (v_ixN ?_ (j := i))
        refine n0 rfl (v_ldI ?_)
        refine n0 rfl (v_move ?_)
        refine n0 rfl (v_move ?_)
        obtain ⟨bk4, o4, hav4⟩ := hA2 (by omega)
        refine n0 rfl (v_ixN ?_ (j := i))
        refine n0 rfl (v_ldI ?_)
        refine n0 rfl (v_neI ?_)
        refine NV.done ?_
        refine rg_nil ?_
        refine go_condI (fun h25 => ?_) (fun h25 => ?_)
        · have c25 : (decide ((l.getD i 0) ≠ (m.getD i 0))) = true := h25
          try simp only [sC, bne_iff_ne, beq_iff_eq, ne_eq] at c25
          refine go_seq ?_
          refine go_region ⟨_, Tryz.func29⟩ rfl ?_
          refine q0 rfl (o_assign ?_)
          refine rg_nil ?_
          refine ret1 Tryz.func29 Tryz.results29 wn_ () (by rw [decide_eq_false (fun e => by subst e; simp at h25)]) (fun w hs => hs.none)
        · have c25 : (decide ((l.getD i 0) ≠ (m.getD i 0))) = false := h25
          try simp only [sC, bne_iff_ne, beq_iff_eq, ne_eq] at c25
          refine go_skip ?_
          refine go_inBlock ?_
          refine go_region ⟨_, Tryz.func29⟩ rfl ?_
          refine q0 rfl (o_move ?_)
          refine q0 rfl (o_add ?_)
          refine q0 rfl (o_assign ?_)
          refine rg_nil ?_
          refine go_state (fun w hs => ?_) (next0 (i + 1) _ (⟨by omega, fun j hj => by rcases Nat.lt_succ_iff_lt_or_eq.mp hj with h | h; exact hok j h; subst h; exact c25⟩) (by omega) ⟨rfl, rfl, rfl, trivial⟩)
          exact (hs.less (by simp +contextual))
      · have c14 : (decide ((i : Int) < (l.length : Int))) = false := h14
        try simp only [sC, bne_iff_ne, beq_iff_eq, ne_eq] at c14
        refine go_exit rfl ?_
        refine go_seq ?_
        refine go_region ⟨_, Tryz.func29⟩ rfl ?_
        refine q0 rfl (o_assign ?_)
        refine rg_nil ?_
        refine ret1 Tryz.func29 Tryz.results29 wn_ () (by rw [decide_eq_true (list_eq_of (d := 0) hlen (fun j hj => hok j (by omega)))]) (fun w hs => hs.none)
theorem great30_spec (t : T) (vr_t vk_t vs_t : SH) (p : List Int) (a_p : SH)  : Spec Tryz.prog 14 #[.agg (tc t vr_t vk_t vs_t).toArray, sl a_p (p.length)] [RT t vr_t vk_t vs_t, IL p a_p] [] (fun _ : Unit => .bool ((decide (250 < bulk t) || decide (300 < p.length)))) (fun _ : Unit => []) (fun _ : Unit => []) := by
  refine spec_go (args := [.agg (tc t vr_t vk_t vs_t).toArray, sl a_p (p.length)]) Tryz.func14 Tryz.ntmps14 rfl (by exact Nat.le_of_ble_eq_true rfl) fun B hB => ?_
  refine go_open (t := t) (vr := vr_t) (vk := vk_t) (vs := vs_t) (fun hk1 hn1 hm1 => ?_)
  refine go_openCL (l := (t).r) (a := vr_t) (fun hl2 hA2 hU2 => ?_)
  refine go_openTL (ts := (t).kids) (a := vk_t) (fun VR3 VK3 VS3 hl3 hA3 => ?_)
  refine go_openBL (bs := (t).sys) (a := vs_t) (fun VF4 VK4 hl4 hA4 => ?_)
  refine go_openIL (l := p) (a := a_p) (fun hl5 hA5 hU5 => ?_)
  refine go_seq ?_
  refine go_region ⟨_, Tryz.func14⟩ rfl ?_
  refine q0 rfl (o_box fun b2 => ?_)
  refine q0 rfl (o_assign ?_)
  refine rg_nil ?_
  refine go_seq ?_
  refine go_cutS ([(4, .bool ((decide (250 < bulk t)) || (decide (300 < (p.length : Int)))))]) (fun hK => ?_) (fun base => ?_)
  · refine go_region ⟨_, Tryz.func14⟩ rfl ?_
    refine q0 rfl (o_lds ?_)
    refine q0 rfl (o_call Tryz.call30 (bulk_spec t 250 vr_t vk_t vs_t (by omega) (by omega)) (fun x6 => ?_))
    have hx := x6.2
    unfold BulkIs at hx
    refine q0 rfl (o_gtr ?_)
    rw [show decide ((250 : Int) < x6.1) = decide (250 < bulk t) from decide_eq_decide.mpr (by omega)]
    refine q0 rfl (o_move ?_)
    refine qI rfl rfl rfl wl_ (fun hg8 => ?_) (fun hg8 => ?_)
    · have g8 : (decide (250 < bulk t)) = false := hg8
      try simp only [sC, bne_iff_ne, beq_iff_eq, ne_eq] at g8
      refine o_move ?_
      refine qT rfl rfl rfl (o_len ?_)
      refine qT rfl rfl rfl (o_gtr ?_)
      refine q0 rfl (o_pickF ?_)
      refine q0 rfl (o_assign ?_)
      refine rg_nil ?_
      exact hK _ ⟨dn_, trivial⟩
    · have g8 : (decide (250 < bulk t)) = true := hg8
      try simp only [sC, bne_iff_ne, beq_iff_eq, ne_eq] at g8
      refine qF rfl rfl rfl ?_
      refine qF rfl rfl rfl ?_
      refine q0 rfl (o_pickT ?_)
      refine q0 rfl (o_assign ?_)
      refine rg_nil ?_
      exact hK _ ⟨dn_, trivial⟩
  · refine ret1 Tryz.func14 Tryz.results14 wn_ () (by congr 2; exact decide_eq_decide.mpr (by omega)) (fun w hs => hs.none)
end Go.Hy
namespace Go.Hy
set_option linter.unusedVariables false
set_option linter.unusedSimpArgs false
set_option linter.unusedSectionVars false
/-! ### The chapter's example of places -/
def exT : T := .mk 6 0 ⟨#[]⟩ [] [.mk 1 1 ⟨#[]⟩ [] [] [], .mk 5 0 ⟨#[]⟩ [] [.mk 1 0 ⟨#[]⟩ [] [] []] []] []
def exU : T := .mk 3 0 ⟨#[]⟩ [] [] []
def varT0 : T := .mk 1 0 ⟨#[]⟩ [] [] []
theorem ex_formed : formedP exT = 0 := by decide +kernel
theorem ex_all : allL exT = [[], [0], [1], [1, 0]] := by decide +kernel
theorem ex_get : getRes exT [1, 0] = (0, (.mk 1 0 ⟨#[]⟩ [] [] [], 1, 0)) := by decide +kernel
theorem ex_put : putRes exT [0] exU = (0, .mk 6 0 ⟨#[]⟩ [] [exU, .mk 5 0 ⟨#[]⟩ [] [.mk 1 0 ⟨#[]⟩ [] [] []] []] []) := by decide +kernel
def exR : T := .mk 6 0 ⟨#[]⟩ [] [exU, .mk 5 0 ⟨#[]⟩ [] [.mk 1 0 ⟨#[]⟩ [] [] []] []] []
theorem ex_put1 : (putRes exT [0] exU).1 = 0 := by rw [ex_put]
theorem ex_put2 : (putRes exT [0] exU).2 = exR := by rw [ex_put]; rfl
theorem ex_get1 : (getRes exT [1, 0]).1 = 0 := by rw [ex_get]
theorem ex_get2 : (getRes exT [1, 0]).2 = (varT0, 1, 0) := by rw [ex_get]; rfl
theorem ex_size : size exT = 4 ∧ size exU = 1 := by decide +kernel
theorem St.litI {B : Base} {Γ : List Fact} {Ms : List Res} {w : World} {b : Nat} {e : TypeId} {cs : List Value} (l : List Int) (hs : St B Γ (boxR b cs e :: Ms) w) {hBp : Prop} (hB : hBp) (hc : cs = intFlat l) (hn : l.length ≤ 1000) (hu : ∀ c, c ∈ l → in64 c) : St B (IL l (some ⟨b, 0, Option.none⟩, l.length) :: Γ) Ms w :=
  (hs.boxRow (sz := 1) (m := l.length) (by rw [hc, flat_len intCells_len l]) (by unfold maxLen; omega)).settleIL hB hc rfl (by unfold reach; omega) hu
end Go.Hy
namespace Go.Hy
set_option linter.unusedVariables false
set_option linter.unusedSimpArgs false
set_option linter.unusedSectionVars false
open Go.Proofs
set_option linter.unusedVariables false
set_option linter.unusedSimpArgs false
set_option maxRecDepth 100000
theorem getWalk (t : T) (vr_t vk_t vs_t : SH) (p : List Int) (a_p : SH) (hz : size t ≤ 1000000000) : Spec Tryz.prog 20 #[.agg (tc t vr_t vk_t vs_t).toArray, sl a_p (p.length)] [RT t vr_t vk_t vs_t, IL p a_p] [] (fun x : SH × SH × SH => .tuple #[.agg ([.int .i64 (((getRes t p).2.1).kind), .int .i64 (((getRes t p).2.1).n), .string (((getRes t p).2.1).name), sl x.1 (((getRes t p).2.1).r.length), sl x.2.1 (((getRes t p).2.1).kids.length), sl x.2.2 (((getRes t p).2.1).sys.length), .int .i64 ((getRes t p).2.2.1), .int .i64 ((getRes t p).2.2.2)] : List Value).toArray, .int .i64 (getRes t p).1]) (fun x : SH × SH × SH => [RT (getRes t p).2.1 x.1 x.2.1 x.2.2]) (fun x : SH × SH × SH => []) := by
  refine spec_go (args := [.agg (tc t vr_t vk_t vs_t).toArray, sl a_p (p.length)]) Tryz.func20 Tryz.ntmps20 rfl (by exact Nat.le_of_ble_eq_true rfl) fun B hB => ?_
  refine go_open (t := t) (vr := vr_t) (vk := vk_t) (vs := vs_t) (fun hk1 hn1 hm1 => ?_)
  refine go_openCL (l := (t).r) (a := vr_t) (fun hl2 hA2 hU2 => ?_)
  refine go_openTL (ts := (t).kids) (a := vk_t) (fun VR3 VK3 VS3 hl3 hA3 => ?_)
  refine go_openBL (bs := (t).sys) (a := vs_t) (fun VF4 VK4 hl4 hA4 => ?_)
  refine go_openIL (l := p) (a := a_p) (fun hl5 hA5 hU5 => ?_)
  have hdt := depth_le_size t
  refine go_seq ?_
  refine go_region ⟨_, Tryz.func20⟩ rfl ?_
  refine q0 rfl (o_box fun b2 => ?_)
  refine q0 rfl (o_new fun b4 => ?_)
  refine q0 rfl (o_assign ?_)
  refine rg_nil ?_
  refine go_seq ?_
  refine go_seq ?_
  refine go_region ⟨_, Tryz.func20⟩ rfl ?_
  refine q0 rfl (o_lds ?_)
  refine q0 rfl (o_call Tryz.call45 (formed_spec t (.inr form_spec) vr_t vk_t vs_t om_) (fun x12 => ?_))
  refine q0 rfl (o_assign ?_)
  refine rg_nil ?_
  refine go_seq ?_
  refine go_region ⟨_, Tryz.func20⟩ rfl ?_
  refine q0 rfl (o_move ?_)
  refine q0 rfl (o_neI ?_)
  refine rg_nil ?_
  refine go_condI (fun h14 => ?_) (fun h14 => ?_)
  · have c14 : (decide ((formedP t) ≠ 0)) = true := h14
    try simp only [sC, bne_iff_ne, beq_iff_eq, ne_eq] at c14
    have hgr : getRes t p = (formedP t, (t0, 0, 0)) := by rw [getRes, if_pos (by simpa using h14)]
    refine go_seq ?_
    refine go_region ⟨_, Tryz.func20⟩ rfl ?_
    refine q0 rfl (o_build (cs := [.int .i64 (0), .int .i64 (0), .string ((ByteArray.mk #[])), sl (none, 0) (0), sl (none, 0) (0), sl (none, 0) (0), .int .i64 (0), .int .i64 (0)]) ?_)
    refine q0 rfl (o_move ?_)
    refine q0 rfl (o_st ?_)
    refine q0 rfl (o_assign ?_)
    refine rg_nil ?_
    refine retCT Tryz.func20 Tryz.results20 ((none, 0), (none, 0), (none, 0)) rfl mf_ rfl rfl rfl rfl (by rw [hgr]; rfl) (fun w hs => by rw [hgr]; exact hs.bare.zeroRT.less (by simp))
  · have c14 : (decide ((formedP t) ≠ 0)) = false := h14
    try simp only [sC, bne_iff_ne, beq_iff_eq, ne_eq] at c14
    have hf0 : formedP t = 0 := by simpa using h14
    refine go_skip ?_
    refine go_seq ?_
    refine go_region ⟨_, Tryz.func20⟩ rfl ?_
    refine q0 rfl (o_lds ?_)
    refine q0 rfl (o_build (cs := [.int .i64 ((t).kind), .int .i64 ((t).n), .string ((t).name), sl vr_t ((t).r.length), sl vk_t ((t).kids.length), sl vs_t ((t).sys.length), .int .i64 (0), .int .i64 (0)]) ?_ (hb := fill_spot0 (by rfl) (by rfl)))
    refine q0 rfl (o_new fun b7 => ?_)
    refine q0 rfl (o_st ?_)
    refine rg_nil ?_
    refine go_seq ?_
    refine go_seq ?_
    refine go_region ⟨_, Tryz.func20⟩ rfl ?_
    refine q0 rfl (o_move ?_)
    refine q0 rfl (o_len ?_)
    refine q0 rfl (o_move ?_)
    refine rg_nil ?_
    refine go_block ?_
    refine go_loopE (X := Nat × Part × SH × SH × SH) (fun s_ => s_.1 ≤ p.length ∧ size s_.2.1.1 ≤ 1000000000 ∧ (0 ≤ s_.2.1.2.1 ∧ s_.2.1.2.1 ≤ s_.1 ∧ 0 ≤ s_.2.1.2.2 ∧ s_.2.1.2.2 ≤ s_.1) ∧ getP t p = (getP s_.2.1.1 (p.drop s_.1)).map (addPt s_.2.1)) (fun s_ => [(4, .pointer (some ⟨b4, 0, none⟩)), (7, .pointer (some ⟨b7, 0, none⟩)), (19, sl a_p (p.length)), (20, .int .i64 ((p.length : Int))), (21, .int .i64 ((s_.1 : Int)))]) (fun s_ G_ => RT s_.2.1.1 s_.2.2.1 s_.2.2.2.1 s_.2.2.2.2 :: G_) (fun s_ => [boxR b7 [.int .i64 ((s_.2.1.1).kind), .int .i64 ((s_.2.1.1).n), .string ((s_.2.1.1).name), sl s_.2.2.1 ((s_.2.1.1).r.length), sl s_.2.2.2.1 ((s_.2.1.1).kids.length), sl s_.2.2.2.2 ((s_.2.1.1).sys.length), .int .i64 (s_.2.1.2.1), .int .i64 (s_.2.1.2.2)] 44, boxR b4 [.int .i64 (0), .int .i64 (0), .string ((ByteArray.mk #[])), sl (none, 0) (0), sl (none, 0) (0), sl (none, 0) (0), .int .i64 (0), .int .i64 (0)] 44, boxR b2 (tc t vr_t vk_t vs_t) 26]) (fun s_ => p.length - s_.1) (0, (t, 0, 0), vr_t, vk_t, vs_t) (⟨by omega, hz, ⟨Int.le_refl _, by simp, Int.le_refl _, by simp⟩, (addPt_zero t _).symm⟩) (by exact ⟨rfl, rfl, rfl, rfl, rfl, trivial⟩) ?_ ?_
    · exact fun w hs => (hs.less (by simp +contextual))
    · intro ⟨i, cur, vr, vk, vs⟩ base0 ⟨hi, hsz, ⟨hb1, hb2, hb3, hb4⟩, hgp⟩ next0
      dsimp only at  hi  hsz   hb1  hb2  hb3  hb4   hgp  next0 ⊢
      refine go_seq ?_
      refine go_region ⟨_, Tryz.func20⟩ rfl ?_
      refine q0 rfl (o_lss ?_)
      refine rg_nil ?_
      refine go_seq ?_
      refine go_condI (fun h22 => ?_) (fun h22 => ?_)
      · have c22 : (decide ((i : Int) < (p.length : Int))) = true := h22
        try simp only [sC, bne_iff_ne, beq_iff_eq, ne_eq] at c22
        refine go_skip ?_
        refine go_seq ?_
        refine go_block ?_
        refine go_seq ?_
        refine go_region ⟨_, Tryz.func20⟩ rfl ?_
        obtain ⟨bk6, o6, hav6⟩ := hA5 (by omega)
        refine q0 rfl (o_ixN ?_ (j := i))
        refine q0 rfl (o_ldI ?_)
        refine q0 rfl (o_assign ?_)
        refine rg_nil ?_
        refine go_seq ?_
        refine go_region ⟨_, Tryz.func20⟩ rfl ?_
        refine q0 rfl (o_fa ?_)
        refine q0 rfl (o_lds ?_)
        refine q0 rfl (o_call Tryz.call50 (parts_walk cur.1 vr vk vs om_) (fun x27 => ?_))
        refine q0 rfl (o_assign ?_)
        refine rg_nil ?_
        refine go_state (fun w hs => (((((hs.perm perm3).perm perm3).perm perm3).perm perm3).settleRow (F := spCells) (E := qE) (d := qp0) (bt := 120) (l := x27.1.2) (fun _ => rfl) hB mf_ rfl rfl (by have := congrArg List.length x27.2; rw [List.length_map] at this; have h9 := parts_len cur.1; unfold reach; omega))) ?_
        refine go_seq ?_
        refine go_seq ?_
        refine go_cutS ([(4, .pointer (some ⟨b4, 0, none⟩)), (7, .pointer (some ⟨b7, 0, none⟩)), (9, .int .i64 (p.getD i 0)), (10, sl x27.1.1 (x27.1.2.length)), (19, sl a_p (p.length)), (20, .int .i64 ((p.length : Int))), (21, .int .i64 ((i : Int))), (35, .bool ((decide ((p.getD i 0) < 0)) || (decide ((x27.1.2.length : Int) ≤ (p.getD i 0)))))]) (fun hK => ?_) (fun base => ?_)
        · refine go_region ⟨_, Tryz.func20⟩ rfl ?_
          refine q0 rfl (o_move ?_)
          refine q0 rfl (o_lss ?_)
          refine q0 rfl (o_move ?_)
          refine qI rfl rfl rfl wl_ (fun hg30 => ?_) (fun hg30 => ?_)
          · have g30 : (decide ((p.getD i 0) < 0)) = false := hg30
            try simp only [sC, bne_iff_ne, beq_iff_eq, ne_eq] at g30
            refine o_move ?_
            refine qT rfl rfl rfl (o_move ?_)
            refine qT rfl rfl rfl (o_len ?_)
            refine qT rfl rfl rfl (o_geq ?_)
            refine q0 rfl (o_pickF ?_)
            refine rg_nil ?_
            exact hK _ ⟨rfl, rfl, rfl, rfl, rfl, rfl, rfl, dn_, trivial⟩
          · have g30 : (decide ((p.getD i 0) < 0)) = true := hg30
            try simp only [sC, bne_iff_ne, beq_iff_eq, ne_eq] at g30
            refine qF rfl rfl rfl ?_
            refine qF rfl rfl rfl ?_
            refine qF rfl rfl rfl ?_
            refine q0 rfl (o_pickT ?_)
            refine rg_nil ?_
            exact hK _ ⟨rfl, rfl, rfl, rfl, rfl, rfl, rfl, dn_, trivial⟩
        · refine go_condI (fun h35 => ?_) (fun h35 => ?_)
          · have c35 : ((decide ((p.getD i 0) < 0)) || (decide ((x27.1.2.length : Int) ≤ (p.getD i 0)))) = true := h35
            try simp only [sC, bne_iff_ne, beq_iff_eq, ne_eq] at c35
            have hxl := congrArg List.length x27.2
            rw [List.length_map] at hxl
            have hgr : getRes t p = (90, (t0, 0, 0)) := by rw [getRes, if_neg (by simp [hf0]), hgp, getP_miss (by omega) (by rcases c35 with h | h <;> omega)]
            refine go_seq ?_
            refine go_region ⟨_, Tryz.func20⟩ rfl ?_
            refine q0 rfl (o_build (cs := [.int .i64 (0), .int .i64 (0), .string ((ByteArray.mk #[])), sl (none, 0) (0), sl (none, 0) (0), sl (none, 0) (0), .int .i64 (0), .int .i64 (0)]) ?_)
            refine q0 rfl (o_st ?_)
            refine q0 rfl (o_assign ?_)
            refine rg_nil ?_
            refine retCT Tryz.func20 Tryz.results20 ((none, 0), (none, 0), (none, 0)) rfl mf_ rfl rfl rfl rfl (by rw [hgr]; rfl) (fun w hs => by rw [hgr]; exact hs.bare.zeroRT.less (by simp))
          · have c35 : ((decide ((p.getD i 0) < 0)) || (decide ((x27.1.2.length : Int) ≤ (p.getD i 0)))) = false := h35
            try simp only [sC, bne_iff_ne, beq_iff_eq, ne_eq] at c35
            have hxl := congrArg List.length x27.2
            rw [List.length_map] at hxl
            obtain ⟨m, hm⟩ : ∃ m : Nat, p.getD i 0 = (m : Int) := ⟨(p.getD i 0).toNat, by omega⟩
            have hml : m < x27.1.2.length := by omega
            have hqm := qer_at x27.2 hml
            have h01 := parts_01 (List.mem_of_getElem? hqm)
            have hzl := size_part_lt (List.mem_of_getElem? hqm)
            simp only [qer] at h01 hzl
            rw [hm]
            refine go_skip ?_
            refine go_openRow (l := x27.1.2) (a := x27.1.1) (bt := 120) (F := spCells) (E := qE) (d := qp0) mm_ (fun hl7 hA7 => ?_)
            refine go_elem (l := x27.1.2) (a := x27.1.1) (bt := 120) (F := spCells) (E := qE) (d := qp0) mm_ m (by omega) ?_
            refine go_draw (tn := false) (A := [0, 0, 3, 7, 15, 0, 32, 0, 0, 384, 896, 1920, 4064, 0, 8192, 0, 0, 98304, 229376, 491520, 1040384, 2097151, 4194303]) (l := [0, 1, 2, 3, 4, 5, 6, 7, 8, 9, 10, 11, 12, 13, 14, 15, 16, 17, 18, 19, 20, 21]) (fin := [22]) Tab.mixed ⟨_, Tryz.func20⟩ (by rfl) ?_
            refine n0 rfl (v_move ?_)
            refine n0 rfl (v_move ?_)
            obtain ⟨bk8, o8, hav8⟩ := hA7 (by omega)
            refine n0 rfl (v_ixN ?_ (j := m))
            refine n0 rfl (v_fa ?_)
            refine n0 rfl (f_ldQs ?_ (k := 0))
            refine n0 rfl (v_fa ?_)
            refine n0 rfl (v_ld ?_)
            refine n0 rfl (v_move ?_)
            refine n0 rfl (v_move ?_)
            refine n0 rfl (v_ixN ?_ (j := m))
            refine n0 rfl (v_fa ?_)
            refine n0 rfl (f_ldQf ?_)
            refine n0 rfl (v_add ?_)
            refine n0 rfl (v_fa ?_)
            refine n0 rfl (v_ld ?_)
            refine n0 rfl (v_move ?_)
            refine n0 rfl (v_move ?_)
            refine n0 rfl (v_ixN ?_ (j := m))
            refine n0 rfl (v_fa ?_)
            refine n0 rfl (f_ldQf ?_)
            refine n0 rfl (v_add ?_)
            refine n0 rfl (v_build (cs := [.int .i64 ((((x27.1.2).getD m qp0).1.1).kind), .int .i64 ((((x27.1.2).getD m qp0).1.1).n), .string ((((x27.1.2).getD m qp0).1.1).name), sl (((x27.1.2).getD m qp0).1.2.1) ((((x27.1.2).getD m qp0).1.1).r.length), sl (((x27.1.2).getD m qp0).1.2.2.1) ((((x27.1.2).getD m qp0).1.1).kids.length), sl (((x27.1.2).getD m qp0).1.2.2.2) ((((x27.1.2).getD m qp0).1.1).sys.length), .int .i64 (cur.2.1 + (((x27.1.2).getD m qp0).2.1)), .int .i64 (cur.2.2 + (((x27.1.2).getD m qp0).2.2))]) ?_ (hb := fill_spot012 (by rfl) (by rfl)))
            refine NV.done ?_
            refine q0 rfl (o_st ?_)
            refine rg_nil ?_
            refine go_inBlock ?_
            refine go_region ⟨_, Tryz.func20⟩ rfl ?_
            refine q0 rfl (o_add ?_)
            refine q0 rfl (o_move ?_)
            refine rg_nil ?_
            refine go_state (fun w hs => ?_) (next0 (i + 1, ((x27.1.2.getD m qp0).1.1, cur.2.1 + (x27.1.2.getD m qp0).2.1, cur.2.2 + (x27.1.2.getD m qp0).2.2), (x27.1.2.getD m qp0).1.2.1, (x27.1.2.getD m qp0).1.2.2.1, (x27.1.2.getD m qp0).1.2.2.2) _ (⟨by omega, by simp only; omega, ⟨by simp only; omega, by simp only; omega, by simp only; omega, by simp only; omega⟩, by rw [hgp, getP_step (by omega) hm hqm]; rfl⟩) (by (try simp only); omega) ⟨rfl, rfl, rfl, rfl, rfl, trivial⟩)
            exact ((((hs.less (by simp +contextual [qE])).perm perm2).perm perm2).perm perm2)
      · have c22 : (decide ((i : Int) < (p.length : Int))) = false := h22
        try simp only [sC, bne_iff_ne, beq_iff_eq, ne_eq] at c22
        have hgr : getRes t p = (0, cur) := by rw [getRes, if_neg (by simp [hf0]), hgp, getP_end (by omega)]
        refine go_exit rfl ?_
        refine go_seq ?_
        refine go_region ⟨_, Tryz.func20⟩ rfl ?_
        refine q0 rfl (o_fa ?_)
        refine q0 rfl (o_lds ?_)
        refine q0 rfl (o_call Tryz.call36 (copy_spec cur.1 vr vk vs) (fun x62 => ?_))
        refine q0 rfl (o_fa ?_)
        refine q0 rfl (o_stp ?_ (k := 0) (vs := [.int .i64 ((cur.1).kind), .int .i64 ((cur.1).n), .string ((cur.1).name), sl x62.1 ((cur.1).r.length), sl x62.2.1 ((cur.1).kids.length), sl x62.2.2 ((cur.1).sys.length)]) (cs' := [.int .i64 ((cur.1).kind), .int .i64 ((cur.1).n), .string ((cur.1).name), sl x62.1 ((cur.1).r.length), sl x62.2.1 ((cur.1).kids.length), sl x62.2.2 ((cur.1).sys.length), .int .i64 (cur.2.1), .int .i64 (cur.2.2)]))
        refine rg_nil ?_
        refine go_seq ?_
        refine go_region ⟨_, Tryz.func20⟩ rfl ?_
        refine q0 rfl (o_lds ?_)
        refine q0 rfl (o_st ?_)
        refine q0 rfl (o_assign ?_)
        refine rg_nil ?_
        refine retCT Tryz.func20 Tryz.results20 (x62.1, x62.2.1, x62.2.2) rfl mf_ rfl rfl rfl rfl (by rw [hgr]; rfl) (fun w hs => by rw [hgr]; exact hs.bare.less (by simp))
end Go.Hy
namespace Go.Hy
set_option linter.unusedVariables false
set_option linter.unusedSimpArgs false
set_option linter.unusedSectionVars false
open Go.Proofs
set_option linter.unusedVariables false
set_option linter.unusedSimpArgs false
set_option maxRecDepth 100000
abbrev PutO (h : HT) : Prop := ∀ (p : List Int) (a_p : SH) (hu : HT) (b o : Nat) (cs : List Value) (ty : TypeId), (cs.drop o).take 6 = tc h.er h.vr h.vk h.vs → Spec Tryz.prog 46 #[.pointer (some ⟨b, o, none⟩), sl a_p p.length, .agg (tc hu.er hu.vr hu.vk hu.vs).toArray] [IL p a_p] [boxR b cs ty, bigR (treeR tys h), bigR (treeR tys hu)] (fun x : {x : Option HT // x.map HT.er = setP h.er p hu.er} => .bool x.1.isSome) (fun _ => []) (fun x => putMs tys b o cs ty x.1)
theorem put_walk (b o : Nat) (cs : List Value) (ty : TypeId) (k n : Int) (nm : ByteArray) (r : List Cl) (v : SH) (ks : List HT) (u2 : SH) (ss : List HB) (x2 : SH) (p : List Int) (a_p : SH) (hu : HT) (ih : ∀ c, c ∈ ks → PutO c) (ihs : ∀ b, b ∈ ss → ∀ c, c ∈ b.kids → PutO c) (hc : (cs.drop o).take 6 = tc (HT.mk k n nm r v ks u2 ss x2).er v u2 x2) : Spec Tryz.prog 46 #[.pointer (some ⟨b, o, none⟩), sl a_p (p.length), .agg (tc hu.er hu.vr hu.vk hu.vs).toArray] [IL p a_p] [boxR b cs ty, bigR (treeR tys (HT.mk k n nm r v ks u2 ss x2)), bigR (treeR tys hu)] (fun x : {x : Option HT // x.map HT.er = setP (HT.mk k n nm r v ks u2 ss x2).er p hu.er} => .bool x.1.isSome) (fun x : {x : Option HT // x.map HT.er = setP (HT.mk k n nm r v ks u2 ss x2).er p hu.er} => []) (fun x : {x : Option HT // x.map HT.er = setP (HT.mk k n nm r v ks u2 ss x2).er p hu.er} => putMs tys b o cs ty x.1) := by
  refine spec_go (args := [.pointer (some ⟨b, o, none⟩), sl a_p (p.length), .agg (tc hu.er hu.vr hu.vk hu.vs).toArray]) Tryz.func46 Tryz.ntmps46 rfl (by exact Nat.le_of_ble_eq_true rfl) fun B hB => ?_
  refine go_openIL (l := p) (a := a_p) (fun hl1 hA1 hU1 => ?_)
  refine go_state (fun w hs => (hs.perm perm1).openHT) ?_
  refine go_know (fun w hs => hs.rowLen (sz := 6) (a := u2) (n := ks.length) (xs := tpFlat (ks.map HT.tp)) mm_) (fun hb2 => ?_)
  refine go_know (fun w hs => hs.rowLen (sz := 2) (a := x2) (n := ss.length) (xs := bpFlat (ss.map HB.bp)) mm_) (fun hb3 => ?_)
  have hc' : (cs.drop o).take 6 = [.int .i64 k, .int .i64 n, .string nm, sl v r.length, sl u2 ks.length, sl x2 ss.length] := by rw [hc]; simp only [HT.er, tc, T.kind, T.n, T.name, T.r, T.kids, T.sys, HT.erL_eq, HT.erB_eq, List.length_map]
  have hc4 : cs[o + 4]? = some (sl u2 ks.length) := by have h9 := congrArg (fun l => l[4]?) hc'; simpa [List.getElem?_take, List.getElem?_drop] using h9
  have hc5 : cs[o + 5]? = some (sl x2 ss.length) := by have h9 := congrArg (fun l => l[5]?) hc'; simpa [List.getElem?_take, List.getElem?_drop] using h9
  have hco : o + 6 ≤ cs.length := by have h9 := congrArg List.length hc'; simp at h9; omega
  have hsame : ∀ (ks' : List HT) (ss' : List HB), ks'.length = ks.length → ss'.length = ss.length → setAt cs o (tc (HT.mk k n nm r v ks' u2 ss' x2).er v u2 x2) = cs := fun ks' ss' e1 e2 => setAt_same (by rw [show (tc (HT.mk k n nm r v ks' u2 ss' x2).er v u2 x2).length = 6 from rfl, hc']; simp only [HT.er, tc, T.kind, T.n, T.name, T.r, T.kids, T.sys, HT.erL_eq, HT.erB_eq, List.length_map, e1, e2])
  have hpk : ∀ m, m < ks.length → (parts (HT.mk k n nm r v ks u2 ss x2).er)[m]? = some ((ks.getD m h0).er, binds k (m : Int)) := fun m hm => by rw [parts_kid _ m (by simpa [HT.er, HT.erL_eq, T.kids] using hm)]; simp only [HT.er, T.kids, T.kind, HT.erL_eq]; rw [getD_map (d := h0) hm]
  have hps : ∀ s j f vf ks3 vk3, s < ss.length → ss.getD s hb0 = HB.mk f vf ks3 vk3 → j < ks3.length → (parts (HT.mk k n nm r v ks u2 ss x2).er)[ks.length + sysBefore s (ss.map HB.er) + j]? = some ((ks3.getD j h0).er, 0, more k) := fun s j f vf ks3 vk3 h1 h2 h3 => by
      have hg : (ss.map HB.er).getD s br0 = .mk f (ks3.map HT.er) := by rw [getD_map (d := hb0) h1, er_face h2]
      have h4 := parts_sys (HT.mk k n nm r v ks u2 ss x2).er s j (by simpa [HT.er, HT.erB_eq, T.sys] using h1) (by simp only [HT.er, T.sys, HT.erB_eq]; rw [hg]; simpa [Br.kids] using h3)
      simp only [HT.er, T.sys, T.kids, T.kind, HT.erL_eq, HT.erB_eq, List.length_map] at h4 ⊢
      rw [h4, hg]; simp only [Br.kids]; rw [getD_map (d := h0) h3]
  have hplen : (parts (HT.mk k n nm r v ks u2 ss x2).er).length = ks.length + sysBefore ss.length (ss.map HB.er) := by rw [parts_length]; simp only [HT.er, T.sys, T.kids, HT.erL_eq, HT.erB_eq, List.length_map]
  refine go_seq ?_
  refine go_region ⟨_, Tryz.func46⟩ rfl ?_
  refine q0 rfl (o_box fun b5 => ?_)
  refine q0 rfl (o_assign ?_)
  refine rg_nil ?_
  refine go_seq ?_
  refine go_seq ?_
  refine go_region ⟨_, Tryz.func46⟩ rfl ?_
  refine q0 rfl (o_move ?_)
  refine q0 rfl (o_len ?_)
  refine q0 rfl (o_eqI ?_)
  refine rg_nil ?_
  refine go_condI (fun h13 => ?_) (fun h13 => ?_)
  · have c13 : (decide ((p.length : Int) = 0)) = true := h13
    try simp only [sC, bne_iff_ne, beq_iff_eq, ne_eq] at c13
    refine go_seq ?_
    refine go_region ⟨_, Tryz.func46⟩ rfl ?_
    refine q0 rfl (o_move ?_)
    refine q0 rfl (o_lds ?_)
    refine q0 rfl (o_nilC ?_)
    refine q0 rfl (o_stp ?_ (k := o) (vs := tc hu.er hu.vr hu.vk hu.vs) (cs' := setAt cs o (tc hu.er hu.vr hu.vk hu.vs)) (hk := hco))
    refine rg_nil ?_
    refine go_seq ?_
    refine go_region ⟨_, Tryz.func46⟩ rfl ?_
    refine q0 rfl (o_assign ?_)
    refine rg_nil ?_
    refine ret1 Tryz.func46 Tryz.results46 wn_ ⟨some hu, by rw [setP_nil (by omega)]; rfl⟩ rfl (fun w hs => ((((hs.less (Γ' := []) (by simp)).perm perm7).perm perm1).dropR (A := [_, _])))
  · have c13 : (decide ((p.length : Int) = 0)) = false := h13
    try simp only [sC, bne_iff_ne, beq_iff_eq, ne_eq] at c13
    refine go_skip ?_
    refine go_seq ?_
    refine go_draw (tn := false) (A := [0, 1, 3, 0, 8, 7, 63]) (l := [0, 1, 2, 3, 4, 5, 6]) (fin := []) Tab.mixed ⟨_, Tryz.func46⟩ (by rfl) ?_
    refine n0 rfl (v_move ?_)
    obtain ⟨bk2, o2, hav2⟩ := hA1 (by omega)
    refine n0 rfl (v_ixN ?_ (j := 0))
    refine n0 rfl (v_ldI ?_)
    refine n0 rfl (v_move ?_)
    refine n0 rfl (v_sliceLo ?_ (k := 1) (a := a_p))
    refine n0 rfl (v_assign ?_)
    refine n0 rfl (v_assign ?_)
    refine NV.done ?_
    refine rg_nil ?_
    refine go_seq ?_
    refine go_seq ?_
    refine go_region ⟨_, Tryz.func46⟩ rfl ?_
    refine q0 rfl (o_move ?_)
    refine q0 rfl (o_lss ?_)
    refine rg_nil ?_
    refine go_condI (fun h23 => ?_) (fun h23 => ?_)
    · have c23 : (decide ((p.getD 0 0) < 0)) = true := h23
      try simp only [sC, bne_iff_ne, beq_iff_eq, ne_eq] at c23
      refine go_seq ?_
      refine go_region ⟨_, Tryz.func46⟩ rfl ?_
      refine q0 rfl (o_assign ?_)
      refine rg_nil ?_
      refine ret1 Tryz.func46 Tryz.results46 wn_ ⟨none, by rw [setP_miss (by omega) (.inl (by omega))]; rfl⟩ rfl (fun w hs => hs.none)
    · have c23 : (decide ((p.getD 0 0) < 0)) = false := h23
      try simp only [sC, bne_iff_ne, beq_iff_eq, ne_eq] at c23
      refine go_skip ?_
      refine go_seq ?_
      refine go_seq ?_
      refine go_region ⟨_, Tryz.func46⟩ rfl ?_
      refine q0 rfl (o_move ?_)
      refine q0 rfl (o_move ?_)
      refine q0 rfl (o_nilC ?_)
      refine q0 rfl (o_fa ?_)
      refine q0 rfl (o_ld ?_ (hk := hc4))
      refine q0 rfl (o_len ?_)
      refine q0 rfl (o_lss ?_)
      refine rg_nil ?_
      refine go_condI (fun h30 => ?_) (fun h30 => ?_)
      · have c30 : (decide ((p.getD 0 0) < (ks.length : Int))) = true := h30
        try simp only [sC, bne_iff_ne, beq_iff_eq, ne_eq] at c30
        obtain ⟨m, hm⟩ : ∃ m : Nat, p.getD 0 0 = (m : Int) := ⟨(p.getD 0 0).toNat, by omega⟩
        rw [hm]
        have hml : m < ks.length := by omega
        refine go_state (fun w hs => (((((((((hs.perm perm7).perm perm7).perm perm7).perm perm6).perm perm6).perm perm6).perm perm6).perm perm7).takeK (k := m) hml)) ?_
        refine go_rowBox (m := ks.length) (xs := tpFlat (ks.map HT.tp)) (a := u2) (by omega) perm4 (fun g cur hav9 hcx hcl hcn hcm => ?_)
        refine go_state (fun w hs => hs.dropIL (l := p) (a := a_p) 1 mm_ (by omega)) ?_
        have hih := ih _ (getD_mem (d := h0) hml) (p.drop 1) (dropSH a_p 1 1) hu g (0 + m * 6) cur 26 (by rw [take_in_row (F := tpCells) (fun _ => rfl) tp0 hcx (by simp) (by simpa using hml), getD_map (d := h0) hml]; rfl)
        rw [show (p.drop 1).length = p.length - 1 by simp] at hih
        refine go_state (fun w hs => (((((((((hs.perm perm7).perm perm7).perm perm7).perm perm7).perm perm7).perm perm7).perm perm8).perm perm8).perm perm8)) ?_
        refine go_seq ?_
        refine go_draw (tn := false) (A := [0, 1, 3, 7, 0, 31, 0, 0, 255, 511]) (l := [0, 1, 2, 3, 4, 5, 6, 7]) (fin := [8, 9]) Tab.mixed ⟨_, Tryz.func46⟩ (by rfl) ?_
        refine n0 rfl (v_move ?_)
        refine n0 rfl (v_nilC ?_)
        refine n0 rfl (v_fa ?_)
        refine n0 rfl (v_ld ?_ (hk := hc4))
        refine n0 rfl (v_move ?_)
        refine n0 rfl (v_ixN ?_ (j := m))
        refine n0 rfl (v_move ?_)
        refine n0 rfl (v_lds ?_)
        refine NV.done ?_
        refine q0 rfl (o_call Tryz.call46 (hih) (fun x39 => ?_))
        refine q0 rfl (o_assign ?_)
        refine rg_nil ?_
        obtain ⟨y9, hy9⟩ := x39
        cases y9 with
        | none => refine ret1 Tryz.func46 Tryz.results46 wn_ ⟨none, by rw [setP_at (by omega) hm (hpk m hml)]; simp only at hy9 ⊢; rw [← hy9]; rfl⟩ rfl (fun w hs => hs.none)
        | some h9 =>
          refine ret1 Tryz.func46 Tryz.results46 wn_ ⟨some (HT.mk k n nm r v (ks.set m h9) u2 ss x2), by rw [setP_at (by omega) hm (hpk m hml)]; simp only at hy9 ⊢; rw [← hy9]; simp only [Option.map_some]; rw [put_kid hml]⟩ rfl (fun w hs => ?_)
          have h1 : St B [] [boxR g (setAt cur (0 + m * 6) (tc h9.er h9.vr h9.vk h9.vs)) 26, bigR (treeR tys h9), bigR (kidsR tys (ks.take m) ++ kidsR tys (ks.drop (m + 1))), boxR b5 (tc hu.er hu.vr hu.vk hu.vs) 26, rowS 2 89 v (r.length) (clFlat r), rowS 2 71 x2 (ss.length) (bpFlat (ss.map HB.bp)), bigR (brsR tys ss), boxR b cs ty] w := hs.less (by simp)
          have h2 := h1.boxRowT (sz := 6) (n := ks.length) (a := u2) (xs := tpFlat ((ks.set m h9).map HT.tp)) hav9 (by rw [setAt_len (by show 0 + m * 6 + 6 ≤ _; rw [hcl]; have := Nat.mul_le_mul_right 6 (show m + 1 ≤ u2.2 by omega); omega)]; exact hcl) hcn hcm (by rw [List.map_set]; exact set_in_row (F := tpCells) (fun _ => rfl) h9.tp hcx (by simp) (by simpa using hml) (by rw [hcl]; exact Nat.mul_le_mul_right 6 hcn))
          have h3 := (((((((((h2.perm perm7).perm perm7).perm perm7).perm perm7).perm perm7).perm perm5).perm perm7).perm perm7)).putK hml
          have h4 := ((((((((h3.perm perm6).perm perm3).perm perm6).perm perm3).perm perm6).perm perm5).perm perm6)).joinT (y := tys) (k := k) (n := n) (nm := nm) (ks := ks.set m h9) (ss := ss) rfl (by simp) rfl rfl rfl rfl
          show St B [] [boxR b (setAt cs o (tc (HT.mk k n nm r v (ks.set m h9) u2 ss x2).er v u2 x2)) ty, bigR (treeR tys (HT.mk k n nm r v (ks.set m h9) u2 ss x2))] w
          rw [hsame _ _ (by simp) rfl]
          exact ((h4.perm perm2).dropR (A := [_, _]))
      · have c30 : (decide ((p.getD 0 0) < (ks.length : Int))) = false := h30
        try simp only [sC, bne_iff_ne, beq_iff_eq, ne_eq] at c30
        have hmi := hU1 _ (getD_mem (d := 0) (show 0 < p.length by omega))
        unfold in64 at hmi
        obtain ⟨m, hm⟩ : ∃ m : Nat, p.getD 0 0 = (m : Int) := ⟨(p.getD 0 0).toNat, by omega⟩
        rw [hm]
        rw [hm] at hmi
        have hml : ks.length ≤ m := by omega
        refine go_skip ?_
        refine go_seq ?_
        refine go_region ⟨_, Tryz.func46⟩ rfl ?_
        refine q0 rfl (o_move ?_)
        refine q0 rfl (o_move ?_)
        refine q0 rfl (o_nilC ?_)
        refine q0 rfl (o_fa ?_)
        refine q0 rfl (o_ld ?_ (hk := hc4))
        refine q0 rfl (o_len ?_)
        refine q0 rfl (o_sub ?_)
        refine q0 rfl (o_assign ?_)
        refine rg_nil ?_
        refine go_seq ?_
        refine go_seq ?_
        refine go_region ⟨_, Tryz.func46⟩ rfl ?_
        refine q0 rfl (o_move ?_)
        refine q0 rfl (o_nilC ?_)
        refine q0 rfl (o_fa ?_)
        refine q0 rfl (o_ld ?_ (hk := hc5))
        refine q0 rfl (o_len ?_)
        refine q0 rfl (o_move ?_)
        refine rg_nil ?_
        refine go_block ?_
        refine go_loopE (X := Nat × Nat) (fun s_ => s_.1 ≤ ss.length ∧ ks.length + sysBefore s_.1 (ss.map HB.er) + s_.2 = m) (fun s_ => [(0, .pointer (some ⟨b, o, none⟩)), (5, .pointer (some ⟨b5, 0, none⟩)), (7, .int .i64 ((s_.2 : Int))), (8, sl (dropSH a_p 1 1) (p.length - 1)), (51, .int .i64 ((ss.length : Int))), (52, .int .i64 ((s_.1 : Int)))]) (fun s_ G_ => G_) (fun s_ => [boxR b5 (tc hu.er hu.vr hu.vk hu.vs) 26, rowS 2 89 v (r.length) (clFlat r), rowS 6 26 u2 (ks.length) (tpFlat (ks.map HT.tp)), rowS 2 71 x2 (ss.length) (bpFlat (ss.map HB.bp)), bigR (kidsR tys ks), bigR (brsR tys ss), boxR b cs ty, bigR (treeR tys hu)]) (fun s_ => ss.length - s_.1) (0, m - ks.length) (⟨by omega, by simp only [sysBefore]; omega⟩) (by exact ⟨rfl, rfl, (by (conv => lhs; whnf); congr 1; omega), rfl, rfl, rfl, trivial⟩) ?_ ?_
        · exact fun w hs => hs
        · intro ⟨s, kk⟩ base0 ⟨hs1, hkm⟩ next0
          dsimp only at  hs1  hkm  next0 ⊢
          refine go_seq ?_
          refine go_region ⟨_, Tryz.func46⟩ rfl ?_
          refine q0 rfl (o_lss ?_)
          refine rg_nil ?_
          refine go_seq ?_
          refine go_condI (fun h53 => ?_) (fun h53 => ?_)
          · have c53 : (decide ((s : Int) < (ss.length : Int))) = true := h53
            try simp only [sC, bne_iff_ne, beq_iff_eq, ne_eq] at c53
            refine go_skip ?_
            refine go_seq ?_
            refine go_block ?_
            refine go_seq ?_
            refine go_region ⟨_, Tryz.func46⟩ rfl ?_
            refine q0 rfl (o_move ?_)
            refine q0 rfl (o_assign ?_)
            refine rg_nil ?_
            refine go_seq ?_
            refine go_seq ?_
            obtain ⟨f3, vf3, ks3, vk3, hbe⟩ : ∃ f vf ks2 vk2, ss.getD s hb0 = .mk f vf ks2 vk2 := by cases ss.getD s hb0; exact ⟨_, _, _, _, rfl⟩
            have hb2' : (ss.map HB.bp).getD s bp0 = (Br.mk f3 (HT.erL ks3), vf3, vk3) := by rw [getD_map (d := hb0) (by omega), hbe]; rfl
            have hkl2 : (HT.erL ks3).length = ks3.length := by rw [HT.erL_eq, List.length_map]
            have hc1 : (bpCells ((ss.map HB.bp).getD s bp0))[1]? = some (sl vk3 ks3.length) := by rw [hb2', ← hkl2]; rfl
            have hbr : (ss.map HB.er).getD s br0 = .mk f3 (ks3.map HT.er) := by rw [getD_map (d := hb0) (by omega), er_face hbe]
            have hsb : sysBefore (s + 1) (ss.map HB.er) = sysBefore s (ss.map HB.er) + ks3.length := by rw [sysBefore_succ s _ (by simp; omega), hbr]; simp [Br.kids]
            refine go_know (fun w hs => hs.rowAddr (sz := 2) (e := 71) (a := x2) (n := ss.length) (xs := bpFlat (ss.map HB.bp)) mm_ (by omega)) (fun hav3 => ?_)
            obtain ⟨bk3, hav3⟩ := hav3
            refine go_region ⟨_, Tryz.func46⟩ rfl ?_
            refine q0 rfl (o_move ?_)
            refine q0 rfl (o_nilC ?_)
            refine q0 rfl (o_fa ?_)
            refine q0 rfl (o_ld ?_ (hk := hc5))
            refine q0 rfl (o_move ?_)
            refine q0 rfl (o_ixN ?_ (j := s))
            refine q0 rfl (o_fa ?_)
            refine q0 rfl (o_ldRBf ?_ (hk := hc1))
            refine q0 rfl (o_assign ?_)
            refine rg_nil ?_
            refine go_seq ?_
            refine go_region ⟨_, Tryz.func46⟩ rfl ?_
            refine q0 rfl (o_move ?_)
            refine q0 rfl (o_move ?_)
            refine q0 rfl (o_len ?_)
            refine q0 rfl (o_lss ?_)
            refine rg_nil ?_
            refine go_condI (fun h66 => ?_) (fun h66 => ?_)
            · have c66 : (decide ((kk : Int) < (ks3.length : Int))) = true := h66
              try simp only [sC, bne_iff_ne, beq_iff_eq, ne_eq] at c66
              refine go_state (fun w hs => (((((((((hs.perm perm7).perm perm7).perm perm6).perm perm6).perm perm6).perm perm6).perm perm6).perm perm7).takeB (by omega) hbe)) ?_
              have hkl : kk < ks3.length := by omega
              refine go_state (fun w hs => ((((((((((((hs.perm perm10).perm perm10).perm perm10).perm perm10).perm perm10).perm perm10).perm perm10).perm perm10).perm perm9).perm perm9).perm perm10).takeK (k := kk) hkl)) ?_
              refine go_rowBox (m := ks3.length) (xs := tpFlat (ks3.map HT.tp)) (a := vk3) (by omega) perm3 (fun g cur hav9 hcx hcl hcn hcm => ?_)
              refine go_state (fun w hs => hs.dropIL (l := p) (a := a_p) 1 mm_ (by omega)) ?_
              have hih := ihs _ (getD_mem (d := hb0) (show s < ss.length by omega)) _ (show ks3.getD kk h0 ∈ (ss.getD s hb0).kids by rw [hbe]; exact getD_mem hkl) (p.drop 1) (dropSH a_p 1 1) hu g (0 + kk * 6) cur 26 (by rw [take_in_row (F := tpCells) (fun _ => rfl) tp0 hcx (by simp) (by simpa using hkl), getD_map (d := h0) hkl]; rfl)
              rw [show (p.drop 1).length = p.length - 1 by simp] at hih
              refine go_state (fun w hs => ((((((((((((hs.perm perm10).perm perm10).perm perm10).perm perm10).perm perm10).perm perm10).perm perm10).perm perm10).perm perm10).perm perm11).perm perm11).perm perm11)) ?_
              refine go_seq ?_
              refine go_draw (tn := false) (A := [0, 0, 3, 0, 0, 31, 63]) (l := [0, 1, 2, 3, 4]) (fin := [5, 6]) Tab.mixed ⟨_, Tryz.func46⟩ (by rfl) ?_
              refine n0 rfl (v_move ?_)
              refine n0 rfl (v_move ?_)
              refine n0 rfl (v_ixN ?_ (j := kk))
              refine n0 rfl (v_move ?_)
              refine n0 rfl (v_lds ?_)
              refine NV.done ?_
              refine q0 rfl (o_call Tryz.call46 (hih) (fun x72 => ?_))
              refine q0 rfl (o_assign ?_)
              refine rg_nil ?_
              have hinv : m = ks.length + sysBefore s (ss.map HB.er) + kk := by omega
              obtain ⟨y9, hy9⟩ := x72
              cases y9 with
              | none => refine ret1 Tryz.func46 Tryz.results46 wn_ ⟨none, by rw [setP_at (by omega) (m := ks.length + sysBefore s (ss.map HB.er) + kk) (by rw [hm, hinv]) (hps s kk f3 vf3 ks3 vk3 (by omega) hbe hkl)]; simp only at hy9 ⊢; rw [← hy9]; rfl⟩ rfl (fun w hs => hs.none)
              | some h9 =>
                refine ret1 Tryz.func46 Tryz.results46 wn_ ⟨some (HT.mk k n nm r v ks u2 (ss.set s (HB.mk f3 vf3 (ks3.set kk h9) vk3)) x2), by rw [setP_at (by omega) (m := ks.length + sysBefore s (ss.map HB.er) + kk) (by rw [hm, hinv]) (hps s kk f3 vf3 ks3 vk3 (by omega) hbe hkl)]; simp only at hy9 ⊢; rw [← hy9]; simp only [Option.map_some]; rw [put_sys (by omega) hbe hkl]⟩ rfl (fun w hs => ?_)
                have h1 : St B [] [boxR g (setAt cur (0 + kk * 6) (tc h9.er h9.vr h9.vk h9.vs)) 26, bigR (treeR tys h9), bigR (kidsR tys (ks3.take kk) ++ kidsR tys (ks3.drop (kk + 1))), rowS 2 89 vf3 (f3.length) (clFlat f3), bigR (brsR tys (ss.take s) ++ brsR tys (ss.drop (s + 1))), boxR b5 (tc hu.er hu.vr hu.vk hu.vs) 26, rowS 2 89 v (r.length) (clFlat r), rowS 6 26 u2 (ks.length) (tpFlat (ks.map HT.tp)), rowS 2 71 x2 (ss.length) (bpFlat (ss.map HB.bp)), bigR (kidsR tys ks), boxR b cs ty] w := hs.less (by simp)
                have h2 := h1.boxRowT (sz := 6) (n := ks3.length) (a := vk3) (xs := tpFlat ((ks3.set kk h9).map HT.tp)) hav9 (by rw [setAt_len (by show 0 + kk * 6 + 6 ≤ _; rw [hcl]; have := Nat.mul_le_mul_right 6 (show kk + 1 ≤ vk3.2 by omega); omega)]; exact hcl) hcn hcm (by rw [List.map_set]; exact set_in_row (F := tpCells) (fun _ => rfl) h9.tp hcx (by simp) (by simpa using hkl) (by rw [hcl]; exact Nat.mul_le_mul_right 6 hcn))
                rw [show ks3.length = (ks3.set kk h9).length by simp] at h2
                have h3 := ((((((((((((h2.perm perm10).perm perm10).perm perm10).perm perm10).perm perm10).perm perm10).perm perm10).perm perm10).perm perm8).perm perm10).perm perm10)).putK hkl
                have h5 := (((((((((((h3.perm perm9).perm perm9).perm perm9).perm perm9).perm perm9).perm perm9).perm perm9).perm perm7).perm perm8).perm perm9)).putB (y := tys) (ss := ss) (s := s) (f := f3) (v := vf3) (u := vk3) (ks := ks3.set kk h9) (show s < ss.length by omega)
                have h4 := ((((((((h5.perm perm6).perm perm2).perm perm2).perm perm6).perm perm6).perm perm6).perm perm6)).joinT (y := tys) (k := k) (n := n) (nm := nm) (ks := ks) (ss := ss.set s (HB.mk f3 vf3 (ks3.set kk h9) vk3)) rfl rfl (by simp) rfl rfl (by rw [List.map_set]; exact (flat_set_same bp0 _ s _ (by simp; omega) (by rw [hb2']; simp [bpCells, bc, HB.bp, HB.er, HT.erL_eq, Br.face, Br.kids, HB.vf, HB.vk])).symm)
                show St B [] [boxR b (setAt cs o (tc (HT.mk k n nm r v ks u2 (ss.set s (HB.mk f3 vf3 (ks3.set kk h9) vk3)) x2).er v u2 x2)) ty, bigR (treeR tys (HT.mk k n nm r v ks u2 (ss.set s (HB.mk f3 vf3 (ks3.set kk h9) vk3)) x2))] w
                rw [hsame _ _ rfl (by simp)]
                exact ((h4.perm perm2).dropR (A := [_, _]))
            · have c66 : (decide ((kk : Int) < (ks3.length : Int))) = false := h66
              try simp only [sC, bne_iff_ne, beq_iff_eq, ne_eq] at c66
              refine go_skip ?_
              refine go_region ⟨_, Tryz.func46⟩ rfl ?_
              refine q0 rfl (o_move ?_)
              refine q0 rfl (o_move ?_)
              refine q0 rfl (o_nilC ?_)
              refine q0 rfl (o_fa ?_)
              refine q0 rfl (o_ld ?_ (hk := hc5))
              refine q0 rfl (o_move ?_)
              refine q0 rfl (o_ixN ?_ (j := s))
              refine q0 rfl (o_fa ?_)
              refine q0 rfl (o_ldRBf ?_ (hk := hc1))
              refine q0 rfl (o_len ?_)
              refine q0 rfl (o_sub ?_)
              refine q0 rfl (o_assign ?_)
              refine rg_nil ?_
              refine go_inBlock ?_
              refine go_region ⟨_, Tryz.func46⟩ rfl ?_
              refine q0 rfl (o_add ?_)
              refine q0 rfl (o_move ?_)
              refine rg_nil ?_
              refine go_state (fun w hs => ?_) (next0 (s + 1, kk - ks3.length) _ (⟨by omega, by rw [hsb]; omega⟩) (by (try simp only); omega) ⟨rfl, rfl, (by (conv => lhs; whnf); congr 1; omega), rfl, rfl, rfl, trivial⟩)
              exact (((((((((hs.less (by simp +contextual)).perm perm7).perm perm7).perm perm7).perm perm7).perm perm7).perm perm7).perm perm7).perm perm7)
          · have c53 : (decide ((s : Int) < (ss.length : Int))) = false := h53
            try simp only [sC, bne_iff_ne, beq_iff_eq, ne_eq] at c53
            refine go_exit rfl ?_
            refine go_seq ?_
            refine go_region ⟨_, Tryz.func46⟩ rfl ?_
            refine q0 rfl (o_assign ?_)
            refine rg_nil ?_
            refine ret1 Tryz.func46 Tryz.results46 wn_ ⟨none, by rw [setP_miss (by omega) (.inr (by rw [hm, hplen]; have he : s = ss.length := (by omega); rw [← he]; omega))]; rfl⟩ rfl (fun w hs => hs.none)
theorem putO : ∀ h : HT, PutO h := HT.indA fun k n nm r v ks u2 ss x2 ih ihs p a_p hu b o cs ty hc => put_walk b o cs ty k n nm r v ks u2 ss x2 p a_p hu ih ihs hc
end Go.Hy
namespace Go.Hy
set_option linter.unusedVariables false
set_option linter.unusedSimpArgs false
set_option linter.unusedSectionVars false
open Go.Proofs
set_option linter.unusedVariables false
set_option linter.unusedSimpArgs false
set_option maxRecDepth 100000
theorem putP_walk (t : T) (vr_t vk_t vs_t : SH) (p : List Int) (a_p : SH) (u : T) (vr_u vk_u vs_u : SH) (hz : size t ≤ 400000000) (hzu : size u ≤ 400000000) : Spec Tryz.prog 17 #[.agg (tc t vr_t vk_t vs_t).toArray, sl a_p (p.length), .agg (tc u vr_u vk_u vs_u).toArray] [RT t vr_t vk_t vs_t, IL p a_p, RT u vr_u vk_u vs_u] [] (fun x : SH × SH × SH => .tuple #[.agg (tc (putRes t p u).2 x.1 x.2.1 x.2.2).toArray, .int .i64 (putRes t p u).1]) (fun x : SH × SH × SH => [RT (putRes t p u).2 x.1 x.2.1 x.2.2]) (fun x : SH × SH × SH => []) := by
  refine spec_go (args := [.agg (tc t vr_t vk_t vs_t).toArray, sl a_p (p.length), .agg (tc u vr_u vk_u vs_u).toArray]) Tryz.func17 Tryz.ntmps17 rfl (by exact Nat.le_of_ble_eq_true rfl) fun B hB => ?_
  refine go_open (t := t) (vr := vr_t) (vk := vk_t) (vs := vs_t) (fun hk1 hn1 hm1 => ?_)
  refine go_openCL (l := (t).r) (a := vr_t) (fun hl2 hA2 hU2 => ?_)
  refine go_openTL (ts := (t).kids) (a := vk_t) (fun VR3 VK3 VS3 hl3 hA3 => ?_)
  refine go_openBL (bs := (t).sys) (a := vs_t) (fun VF4 VK4 hl4 hA4 => ?_)
  refine go_openIL (l := p) (a := a_p) (fun hl5 hA5 hU5 => ?_)
  refine go_open (t := u) (vr := vr_u) (vk := vk_u) (vs := vs_u) (fun hk6 hn6 hm6 => ?_)
  refine go_openCL (l := (u).r) (a := vr_u) (fun hl7 hA7 hU7 => ?_)
  refine go_openTL (ts := (u).kids) (a := vk_u) (fun VR8 VK8 VS8 hl8 hA8 => ?_)
  refine go_openBL (bs := (u).sys) (a := vs_u) (fun VF9 VK9 hl9 hA9 => ?_)
  refine go_know (p := okT t) (fun w hs => ok_of (hs.facts (RT t vr_t vk_t vs_t) (by simp))) (fun hokt => ?_)
  refine go_know (p := okT u) (fun w hs => ok_of (hs.facts (RT u vr_u vk_u vs_u) (by simp))) (fun hoku => ?_)
  refine go_seq ?_
  refine go_region ⟨_, Tryz.func17⟩ rfl ?_
  refine q0 rfl (o_box fun b3 => ?_)
  refine q0 rfl (o_box fun b5 => ?_)
  refine q0 rfl (o_new fun b6 => ?_)
  refine q0 rfl (o_assign ?_)
  refine rg_nil ?_
  refine go_seq ?_
  refine go_seq ?_
  refine go_region ⟨_, Tryz.func17⟩ rfl ?_
  refine q0 rfl (o_lds ?_)
  refine q0 rfl (o_lds ?_)
  refine q0 rfl (o_lit2 fun b15 => ?_)
  refine q0 rfl (o_len ?_)
  refine q0 rfl (o_move ?_)
  refine rg_nil ?_
  refine go_state (fun w hs => (((((hs.perm perm3).perm perm3).perm perm3).perm perm3).lit2T (t := t) (vr := vr_t) (vk := vk_t) (vs := vs_t) (u := u) (ur := vr_u) (uk := vk_u) (us := vs_u) hB (by simp) (by simp) rfl)) ?_
  refine go_openTL (ts := [t, u]) (a := (some ⟨b15, 0, none⟩, 2)) (fun VR10 VK10 VS10 hl10 hA10 => ?_)
  refine go_block ?_
  refine go_loopE (X := Nat) (fun s_ => s_ ≤ 2 ∧ ∀ j, j < s_ → formedP ([t, u].getD j t0) = 0) (fun s_ => [(1, sl a_p (p.length)), (3, .pointer (some ⟨b3, 0, none⟩)), (5, .pointer (some ⟨b5, 0, none⟩)), (6, .pointer (some ⟨b6, 0, none⟩)), (15, sl (some ⟨b15, 0, none⟩, 2) (2)), (16, .int .i64 ((2 : Int))), (17, .int .i64 ((s_ : Int)))]) (fun s_ G_ => G_) (fun s_ => [boxR b6 [.int .i64 (0), .int .i64 (0), .string ((ByteArray.mk #[])), sl (none, 0) (0), sl (none, 0) (0), sl (none, 0) (0)] 26, boxR b5 (tc u vr_u vk_u vs_u) 26, boxR b3 (tc t vr_t vk_t vs_t) 26]) (fun s_ => 2 - s_) (0) (⟨by omega, fun j hj => by omega⟩) (by exact ⟨rfl, rfl, rfl, rfl, rfl, rfl, rfl, trivial⟩) ?_ ?_
  · exact fun w hs => hs
  · intro i base0 ⟨hi, hok⟩ next0
    refine go_seq ?_
    refine go_region ⟨_, Tryz.func17⟩ rfl ?_
    refine q0 rfl (o_lss ?_)
    refine rg_nil ?_
    refine go_seq ?_
    refine go_condI (fun h18 => ?_) (fun h18 => ?_)
    · have c18 : (decide ((i : Int) < (2 : Int))) = true := h18
      try simp only [sC, bne_iff_ne, beq_iff_eq, ne_eq] at c18
      have hsz : size ([t, u].getD i t0) ≤ 400000000 := by rcases (show i = 0 ∨ i = 1 by omega) with h | h <;> subst h <;> simpa
      have hdz := depth_le_size ([t, u].getD i t0)
      refine go_skip ?_
      refine go_seq ?_
      refine go_block ?_
      refine go_seq ?_
      refine go_kid (ts := [t, u]) (a := (some ⟨b15, 0, none⟩, 2)) (VR := VR10) (VK := VK10) (VS := VS10) i (by (first | omega | (simp only [List.length_cons, List.length_nil]; omega))) ?_
      refine go_region ⟨_, Tryz.func17⟩ rfl ?_
      obtain ⟨bk11, o11, hav11⟩ := hA10 (by (first | omega | (simp only [List.length_cons, List.length_nil]; omega)))
      refine q0 rfl (o_ixN ?_ (j := i))
      refine q0 rfl (o_ldT ?_ (hlt := by simp only [List.length_cons, List.length_nil]; omega))
      refine q0 rfl (o_new fun b9 => ?_)
      refine q0 rfl (o_st ?_)
      refine rg_nil ?_
      refine go_seq ?_
      refine go_region ⟨_, Tryz.func17⟩ rfl ?_
      refine q0 rfl (o_lds ?_)
      refine q0 rfl (o_call Tryz.call45 (formed_spec (([t, u]).getD i t0) (.inr form_spec) (VR10 i) (VK10 i) (VS10 i) om_) (fun x22 => ?_))
      refine q0 rfl (o_assign ?_)
      refine rg_nil ?_
      refine go_seq ?_
      refine go_region ⟨_, Tryz.func17⟩ rfl ?_
      refine q0 rfl (o_move ?_)
      refine q0 rfl (o_neI ?_)
      refine rg_nil ?_
      refine go_condI (fun h24 => ?_) (fun h24 => ?_)
      · have c24 : (decide ((formedP (([t, u]).getD i t0)) ≠ 0)) = true := h24
        try simp only [sC, bne_iff_ne, beq_iff_eq, ne_eq] at c24
        have hgr : putRes t p u = (formedP ([t, u].getD i t0), t0) := by rcases (show i = 0 ∨ i = 1 by omega) with h | h; subst h; rw [putRes, if_pos (by simpa using h24)]; rfl; subst h; rw [putRes, if_neg (by have := hok 0 (by omega); simpa using this), if_pos (by simpa using h24)]; rfl
        refine go_seq ?_
        refine go_region ⟨_, Tryz.func17⟩ rfl ?_
        refine q0 rfl (o_build (cs := [.int .i64 (0), .int .i64 (0), .string ((ByteArray.mk #[])), sl (none, 0) (0), sl (none, 0) (0), sl (none, 0) (0)]) ?_)
        refine q0 rfl (o_move ?_)
        refine q0 rfl (o_st ?_)
        refine q0 rfl (o_assign ?_)
        refine rg_nil ?_
        refine retCT Tryz.func17 Tryz.results17 ((none, 0), (none, 0), (none, 0)) rfl mf_ rfl rfl rfl rfl (by rw [hgr]; rfl) (fun w hs => by rw [hgr]; exact hs.bare.zeroRT.less (by simp))
      · have c24 : (decide ((formedP (([t, u]).getD i t0)) ≠ 0)) = false := h24
        try simp only [sC, bne_iff_ne, beq_iff_eq, ne_eq] at c24
        refine go_skip ?_
        refine go_inBlock ?_
        refine go_region ⟨_, Tryz.func17⟩ rfl ?_
        refine q0 rfl (o_add ?_)
        refine q0 rfl (o_move ?_)
        refine rg_nil ?_
        refine go_state (fun w hs => ?_) (next0 (i + 1) _ (⟨by omega, fun j hj => by rcases Nat.lt_succ_iff_lt_or_eq.mp hj with h | h; exact hok j h; subst h; simpa using h24⟩) (by omega) ⟨rfl, rfl, rfl, rfl, rfl, rfl, rfl, trivial⟩)
        exact (((((hs.less (by simp +contextual)).perm perm3).perm perm3).perm perm3).dropR (A := [_, _, _]))
    · have c18 : (decide ((i : Int) < (2 : Int))) = false := h18
      try simp only [sC, bne_iff_ne, beq_iff_eq, ne_eq] at c18
      have hf0 : formedP t = 0 := hok 0 (by omega)
      have hf1 : formedP u = 0 := hok 1 (by omega)
      refine go_exit rfl ?_
      refine go_seq ?_
      refine go_region ⟨_, Tryz.func17⟩ rfl ?_
      refine q0 rfl (o_lds ?_)
      refine q0 rfl (o_call Tryz.call36 (copyO t vr_t vk_t vs_t) (fun x29 => ?_))
      refine q0 rfl (o_new fun b11 => ?_)
      refine q0 rfl (o_st ?_)
      refine rg_nil ?_
      refine go_seq ?_
      refine go_seq ?_
      refine go_region ⟨_, Tryz.func17⟩ rfl ?_
      refine q0 rfl (o_move ?_)
      refine q0 rfl (o_lds ?_)
      refine q0 rfl (o_call Tryz.call36 (copyO u vr_u vk_u vs_u) (fun x32 => ?_))
      have hput := putO x29.1 p a_p x32.1 b11 0 (tc t x29.1.vr x29.1.vk x29.1.vs) 26 (by rw [x29.2]; rfl)
      rw [x29.2, x32.2] at hput
      refine rg_state (fun w hs => ((((((hs.perm perm5).perm perm5).perm perm5).perm perm3).perm perm5).perm perm5)) ?_
      refine q0 rfl (o_call Tryz.call46 (hput) (fun x33 => ?_))
      refine q0 rfl (o_not ?_)
      refine rg_nil ?_
      refine go_condI (fun h34 => ?_) (fun h34 => ?_)
      · have c34 : (!x33.1.isSome) = true := h34
        try simp only [sC, bne_iff_ne, beq_iff_eq, ne_eq] at c34
        have hn9 : x33.1 = none := by simpa using h34
        have hx9 : setP t p u = none := by have h8 := x33.2; rw [hn9] at h8; exact h8.symm
        have hgr : putRes t p u = (90, t0) := by rw [putRes, if_neg (by simp [hf0]), if_neg (by simp [hf1]), hx9]
        refine go_ms (Ms' := [boxR b6 [.int .i64 (0), .int .i64 (0), .string ((ByteArray.mk #[])), sl (none, 0) (0), sl (none, 0) (0), sl (none, 0) (0)] 26, boxR b5 (tc u vr_u vk_u vs_u) 26, boxR b3 (tc t vr_t vk_t vs_t) 26]) (by rw [hn9]; rfl) ?_
        refine go_seq ?_
        refine go_region ⟨_, Tryz.func17⟩ rfl ?_
        refine q0 rfl (o_build (cs := [.int .i64 (0), .int .i64 (0), .string ((ByteArray.mk #[])), sl (none, 0) (0), sl (none, 0) (0), sl (none, 0) (0)]) ?_)
        refine q0 rfl (o_st ?_)
        refine q0 rfl (o_assign ?_)
        refine rg_nil ?_
        refine retCT Tryz.func17 Tryz.results17 ((none, 0), (none, 0), (none, 0)) rfl mf_ rfl rfl rfl rfl (by rw [hgr]; rfl) (fun w hs => by rw [hgr]; exact hs.bare.zeroRT.less (by simp))
      · have c34 : (!x33.1.isSome) = false := h34
        try simp only [sC, bne_iff_ne, beq_iff_eq, ne_eq] at c34
        obtain ⟨h9, hh9⟩ : ∃ h9, x33.1 = some h9 := Option.isSome_iff_exists.mp (by simpa using h34)
        have hx9 : setP t p u = some h9.er := by have h8 := x33.2; rw [hh9] at h8; exact h8.symm
        refine go_ms (Ms' := [boxR b11 (tc h9.er h9.vr h9.vk h9.vs) 26, bigR (treeR tys h9), boxR b6 [.int .i64 (0), .int .i64 (0), .string ((ByteArray.mk #[])), sl (none, 0) (0), sl (none, 0) (0), sl (none, 0) (0)] 26, boxR b5 (tc u vr_u vk_u vs_u) 26, boxR b3 (tc t vr_t vk_t vs_t) 26]) (by rw [hh9]; rfl) ?_
        refine go_state (fun w hs => St.settleT tys hB h9 (okT_setP p hokt hoku hx9) (((((((hs.perm perm4).perm perm4).perm perm4).perm perm3).perm perm4)).unpack)) ?_
        obtain ⟨s9, _, hs9⟩ := size_setP p hx9
        have hd9 := depth_le_size h9.er
        refine go_skip ?_
        refine go_seq ?_
        refine go_seq ?_
        refine go_region ⟨_, Tryz.func17⟩ rfl ?_
        refine q0 rfl (o_lds ?_)
        refine q0 rfl (o_call Tryz.call45 (formed_spec h9.er (.inr form_spec) h9.vr h9.vk h9.vs om_) (fun x37 => ?_))
        refine q0 rfl (o_assign ?_)
        refine rg_nil ?_
        refine go_seq ?_
        refine go_region ⟨_, Tryz.func17⟩ rfl ?_
        refine q0 rfl (o_move ?_)
        refine q0 rfl (o_neI ?_)
        refine rg_nil ?_
        refine go_condI (fun h39 => ?_) (fun h39 => ?_)
        · have c39 : (decide ((formedP h9.er) ≠ 0)) = true := h39
          try simp only [sC, bne_iff_ne, beq_iff_eq, ne_eq] at c39
          have hgr : putRes t p u = (formedP h9.er, t0) := by rw [putRes, if_neg (by simp [hf0]), if_neg (by simp [hf1]), hx9]; exact if_pos (by simpa using h39)
          refine go_seq ?_
          refine go_region ⟨_, Tryz.func17⟩ rfl ?_
          refine q0 rfl (o_build (cs := [.int .i64 (0), .int .i64 (0), .string ((ByteArray.mk #[])), sl (none, 0) (0), sl (none, 0) (0), sl (none, 0) (0)]) ?_)
          refine q0 rfl (o_move ?_)
          refine q0 rfl (o_st ?_)
          refine q0 rfl (o_assign ?_)
          refine rg_nil ?_
          refine retCT Tryz.func17 Tryz.results17 ((none, 0), (none, 0), (none, 0)) rfl mf_ rfl rfl rfl rfl (by rw [hgr]; rfl) (fun w hs => by rw [hgr]; exact hs.bare.zeroRT.less (by simp))
        · have c39 : (decide ((formedP h9.er) ≠ 0)) = false := h39
          try simp only [sC, bne_iff_ne, beq_iff_eq, ne_eq] at c39
          have hgr : putRes t p u = (0, h9.er) := by rw [putRes, if_neg (by simp [hf0]), if_neg (by simp [hf1]), hx9]; exact if_neg (by simpa using h39)
          refine go_skip ?_
          refine go_seq ?_
          refine go_region ⟨_, Tryz.func17⟩ rfl ?_
          refine q0 rfl (o_lds ?_)
          refine q0 rfl (o_st ?_)
          refine q0 rfl (o_assign ?_)
          refine rg_nil ?_
          refine retCT Tryz.func17 Tryz.results17 (h9.vr, h9.vk, h9.vs) rfl mf_ rfl rfl rfl rfl (by rw [hgr]; rfl) (fun w hs => by rw [hgr]; exact hs.bare.less (by simp))
end Go.Hy
