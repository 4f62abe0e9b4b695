/- Contracts of this program's functions and the laws that they need: a separation logic over the machine's rules, one theorem each (partly printed by a program of this repository). -/
import Derived.Shelf.SlSortCmp.NoneTotal
import Derived.Test.YtceegbilhbhibaaP2
import Derived.Test.YtceegbilhbhibaaP3
import Derived.Test.YtceegbilhbhibaaP4
import Derived.Test.YtceegbilhbhibaaP5
import Derived.Test.YtceegbilhbhibaaP6
namespace Go.Hy
set_option linter.unusedVariables false
set_option linter.unusedSimpArgs false
set_option linter.unusedSectionVars false
open Go.Proofs
set_option linter.unusedVariables false
set_option linter.unusedSimpArgs false
set_option maxRecDepth 100000
theorem clFlat_snoc (l : List Cl) (c : Cl) : clFlat (l ++ [c]) = clFlat l ++ clCells c := by simp [clFlat]
/-- slices.SortFunc at a row of the call's own. -/
theorem sortRow_spec (l : List Cl) (a : SH) (n : Nat) (hn : n = l.length) (hb : n * 8 ≤ reach) :
    Spec Try.prog 92 #[sl a n, .func (.func 93) #[] #[]] [] [rowS 2 53 a n (clFlat l)] (fun _ : {l' : List Cl // SortOf l l'} => .tuple #[]) (fun _ => []) (fun x => [rowS 2 53 a n (clFlat x.1)]) := by
  subst hn
  intro ok w hok hs
  have hown : w.ownsRow 0 53 2 (sl a l.length) l.length (clFlat l) := hs.res _ List.mem_cons_self w (fun _ _ => rfl)
  rcases hown.2 with ⟨h1, h2⟩ | ⟨g, cap, cur, h1, h2, h3, h4, h5, h6, h7⟩
  · have hl : l = [] := List.eq_nil_of_length_eq_zero h2
    subst hl
    have hc := AnyF.slices_SortFunc_none (P := Try.prog) Try.sortL a.1 a.2 (.func (.func 93) #[] #[]) w
    have hc2 : Calls Try.prog 92 #[sl a 0, .func (.func 93) #[] #[]] w _ := hc
    refine hc2.mono ?_
    rintro e w' ⟨he, hw⟩
    subst hw
    exact ⟨⟨[], List.Perm.refl _, List.Pairwise.nil⟩, he, hs⟩
  · obtain ⟨ao, ac⟩ := a
    have e1 : ao = some ⟨g, 0, none⟩ := by injection h1
    have e2 : ac = cap := by injection h1
    subst e1; subst e2
    have hfl : cur.toList = clFlat l ++ cur.toList.drop (l.length * 2) := by
      have := List.take_append_drop (l.length * 2) cur.toList
      rw [h7] at this; exact this.symm
    have hbox : St ⟨ok, domAll [rowS 2 53 (some ⟨g, 0, none⟩, ac) l.length (clFlat l)], w⟩ [] [boxR g (clFlat l ++ cur.toList.drop (l.length * 2)) 53] w := by
      refine hs.turn (m' := boxR g (clFlat l ++ cur.toList.drop (l.length * 2)) 53) (Chg.refl _ _) (fun w2 hw2 => ?_) (fun b hb => ?_)
      · show w2.heap[g]? = _
        rw [hw2 g rfl, ← hfl, Array.toArray_toList]; exact h3
      · have hb : b = g := hb
        subst hb
        exact ⟨(Array.getElem?_eq_some_iff.mp h3).1, .inl rfl⟩
    have hdom : ∀ b, domAll [rowS 2 53 (some ⟨g, 0, none⟩, ac) l.length (clFlat l)] b ↔ domAll [boxR g (clFlat l ++ cur.toList.drop (l.length * 2)) 53] b := by
      intro b
      rw [domAll_cons, domAll_cons]
      have : (rowS 2 53 (some ⟨g, 0, none⟩, ac) l.length (clFlat l)).dom b ↔ b = g := by
        show (sl (some ⟨g, 0, none⟩, ac) l.length).ownBlock = some b ↔ b = g
        simp only [sl, Value.ownBlock, Option.some.injEq]
        exact eq_comm
      rw [this]; rfl
    have hd2 : domAll [rowS 2 53 (some ⟨g, 0, none⟩, ac) l.length (clFlat l)] = domAll [boxR g (clFlat l ++ cur.toList.drop (l.length * 2)) 53] := funext fun b => propext (hdom b)
    rw [hd2] at hbox
    refine (sort_spec l g ac (cur.toList.drop (l.length * 2)) (by unfold reach at hb; omega) ok w (fun b hb => ⟨(hok b hb).1, by rw [← hd2]; exact (hok b hb).2⟩) hbox).mono ?_
    rintro e w' ⟨x, he, hs'⟩
    refine ⟨⟨x.1, x.2.1, x.2.2⟩, he, ?_⟩
    rw [hd2]
    have hlen : x.1.length = l.length := x.2.1.length_eq
    have hg : w'.heap[g]? = some (.cells (clFlat x.1 ++ cur.toList.drop (l.length * 2)).toArray 53 (0, 0)) := hs'.res _ List.mem_cons_self w' (fun _ _ => rfl)
    have hfl2 : (clFlat x.1).length = l.length * 2 := by rw [flat_len clCells_len, hlen]
    refine hs'.turn (m' := rowS 2 53 (some ⟨g, 0, none⟩, ac) l.length (clFlat x.1)) (Chg.refl _ _) (fun w2 hw2 => ⟨hfl2, .inr ⟨g, ac, (clFlat x.1 ++ cur.toList.drop (l.length * 2)).toArray, rfl, Nat.zero_le _, ?_, h4, h5, ?_, ?_⟩⟩) (fun b hb => ?_)
    · rw [hw2 g rfl]; exact hg
    · have h8 : cur.toList.length = ac * 2 := by simpa using h6
      simp only [List.size_toArray, List.length_append, List.length_drop, hfl2, h8]
      omega
    · rw [← hfl2, List.take_left]
    · have hb : (sl (some ⟨g, 0, none⟩, ac) l.length).ownBlock = some b := hb
      simp only [sl, Value.ownBlock, Option.some.injEq] at hb
      subst hb
      exact ⟨(Array.getElem?_eq_some_iff.mp hg).1, .inl rfl⟩
theorem least_own (l : List Cl) (a : SH) : Spec Try.prog 79 #[sl a l.length] [CL l a] [] (fun x : {x : SH × Int × List Cl // LeastIs l x.2} => .tuple #[sl x.1.1 x.1.2.2.length, .int .i64 x.1.2.1]) (fun _ => []) (fun x => [rowS 2 53 x.1.1 x.1.2.2.length (clFlat x.1.2.2)]) := by
  refine spec_go (args := [sl a l.length]) Try.func79 Try.ntmps79 rfl (by exact Nat.le_of_ble_eq_true rfl) fun B hB => ?_
  refine go_openCL (l := l) (a := a) (fun hl1 hA1 hU1 => ?_)
  refine go_seq ?_
  refine go_region ⟨_, Try.func79⟩ rfl ?_
  refine q0 rfl (o_assign ?_)
  refine q0 rfl (o_assign ?_)
  refine rg_nil ?_
  refine go_seq ?_
  refine go_region ⟨_, Try.func79⟩ rfl ?_
  refine q0 rfl (o_makeMap fun b12 => ?_)
  refine q0 rfl (o_assign ?_)
  refine rg_nil ?_
  refine go_seq ?_
  refine go_region ⟨_, Try.func79⟩ rfl ?_
  refine q0 rfl (o_new fun b5 => ?_)
  refine rg_nil ?_
  refine go_seq ?_
  refine go_seq ?_
  refine go_region ⟨_, Try.func79⟩ rfl ?_
  refine q0 rfl (o_move ?_)
  refine q0 rfl (o_len ?_)
  refine q0 rfl (o_move ?_)
  refine rg_nil ?_
  refine go_block ?_
  refine go_loopI (X := Nat × SH) (fun s => s.1 ≤ l.length ∧ ∀ j, j < s.1 → right24 (l.getD j cl0) = true) (fun s => [(4, .map (some b12)), (5, .pointer (some ⟨b5, 0, none⟩)), (13, sl a l.length), (14, .int .i64 (l.length : Int)), (15, .int .i64 (s.1 : Int))]) (fun s => [CL l a]) (fun s => [mapR b12 (once (l.take s.1)), boxR b5 [sl s.2 (once (l.take s.1)).length] 22, rowS 2 53 s.2 (once (l.take s.1)).length (clFlat (once (l.take s.1)))]) (fun s => l.length - s.1) ((0, (none, 0))) (⟨Nat.zero_le _, fun j hj => absurd hj (Nat.not_lt_zero _)⟩) (by exact ⟨rfl, rfl, rfl, rfl, rfl, trivial⟩) ?_ ?_
  · exact fun w hs => ((hs.less (by simp)).rowS0 2 53).perm (perm2.trans ((List.Perm.swap _ _ _).cons _))
  · intro ⟨i, aO⟩ base0 ⟨hi, hok⟩ next0
    dsimp only at hi hok next0 ⊢
    refine go_seq ?_
    refine go_region ⟨_, Try.func79⟩ rfl ?_
    refine q0 rfl (o_lss ?_)
    refine rg_nil ?_
    refine go_seq ?_
    refine go_condI (fun h16 => ?_) (fun h16 => ?_)
    · have hlt : i < l.length := by have := of_decide_eq_true h16; omega
      obtain ⟨bk, o, hav⟩ := hA1 (by omega)
      have hu := hU1 _ (getD_mem (d := cl0) hlt)
      have hol := once_take_len l i
      refine go_skip ?_
      refine go_seq ?_
      refine go_block ?_
      refine go_seq ?_
      refine go_region ⟨_, Try.func79⟩ rfl ?_
      refine q0 rfl (o_ixN ?_)
      refine q0 rfl (o_ldC ?_)
      refine q0 rfl (o_new fun b7 => ?_)
      refine q0 rfl (o_st ?_)
      refine rg_nil ?_
      refine go_seq ?_
      refine go_seq ?_
      refine go_region ⟨_, Try.func79⟩ rfl ?_
      refine q0 rfl (o_lds ?_)
      refine q0 rfl (o_call Try.call88 (clauseRight_spec (l.getD i cl0) hu) (fun x20 => ?_))
      refine q0 rfl (o_not ?_)
      refine rg_nil ?_
      refine go_condI (fun h21 => ?_) (fun h21 => ?_)
      · have hr : right24 (l.getD i cl0) = false := by simpa using h21
        refine go_seq ?_
        refine go_region ⟨_, Try.func79⟩ rfl ?_
        refine q0 rfl (o_assign ?_)
        refine q0 rfl (o_assign ?_)
        refine rg_nil ?_
        refine ret2 Try.func79 Try.results79 wn_ wn_ ⟨((none, 0), 2, []), by (unfold LeastIs; rw [all_not hlt hr]; rfl)⟩ rfl (fun w hs => (hs.less (Γ' := []) (by simp)).bare.rowS0 2 53)
      · have hr : right24 (l.getD i cl0) = true := by simpa using h21
        refine go_skip ?_
        refine go_seq ?_
        refine go_region ⟨_, Try.func79⟩ rfl ?_
        refine q0 rfl (o_move ?_)
        refine q0 rfl (o_lds ?_)
        refine q0 rfl (o_lookupM ?_)
        refine q0 rfl (o_not ?_)
        refine rg_nil ?_
        refine go_condI (fun h25 => ?_) (fun h25 => ?_)
        · have hnin : l.getD i cl0 ∉ once (l.take i) := by simpa using h25
          refine go_seq ?_
          refine go_region ⟨_, Try.func79⟩ rfl ?_
          refine q0 rfl (o_move ?_)
          refine q0 rfl (o_lds ?_)
          refine q0 rfl (o_mapUpd ?_)
          refine rg_nil ?_
          refine go_region ⟨_, Try.func79⟩ rfl ?_
          refine q0 rfl (o_ld ?_)
          refine q0 rfl (o_lds ?_)
          refine q0 rfl (o_lit1 fun b30 => ?_)
          refine q0 rfl (o_appS (fun a31 => ?_)  )
          refine q0 rfl (o_st ?_)
          refine rg_nil ?_
          refine go_inBlock ?_
          refine go_region ⟨_, Try.func79⟩ rfl ?_
          refine q0 rfl (o_add ?_)
          refine q0 rfl (o_move ?_)
          refine rg_nil ?_
          have hst := once_take_succ hlt
          rw [if_neg hnin] at hst
          have hlen' : (once (l.take (i + 1))).length = (once (l.take i)).length + 1 := by rw [hst]; simp
          refine go_state (fun w hs => ?_) (next0 (i + 1, a31) _ ⟨hlt, fun j hj => (by rcases Nat.lt_succ_iff_lt_or_eq.mp hj with h | h; exact hok j h; subst h; exact hr)⟩ (by simp only; omega) ⟨rfl, rfl, rfl, rfl, rfl, trivial⟩)
          dsimp only
          rw [hlen', hst, clFlat_snoc]
          exact ((hs.less (by simp)).perm perm3).dropR (A := [_, _, _])
        · refine go_skip ?_
          refine go_inBlock ?_
          refine go_region ⟨_, Try.func79⟩ rfl ?_
          refine q0 rfl (o_add ?_)
          refine q0 rfl (o_move ?_)
          refine rg_nil ?_
          have hin : l.getD i cl0 ∈ once (l.take i) := by simpa using h25
          have hst := once_take_succ hlt
          rw [if_pos hin] at hst
          refine go_state (fun w hs => ?_) (next0 (i + 1, aO) _ ⟨hlt, fun j hj => (by rcases Nat.lt_succ_iff_lt_or_eq.mp hj with h | h; exact hok j h; subst h; exact hr)⟩ (by simp only; omega) ⟨rfl, rfl, rfl, rfl, rfl, trivial⟩)
          dsimp only
          rw [hst]
          exact (hs.less (by simp)).drop
    · have hge : i = l.length := by have := of_decide_eq_false h16; omega
      have hall : l.all right24 = true := all_of (by rw [← hge]; exact hok)
      subst hge
      rw [List.take_length]
      have hUo : ∀ c, c ∈ once l → u32 c := fun c hc => hU1 c ((once_mem c l).mp hc)
      have hol := once_len l
      refine go_state (fun w hs => ((hs.perm perm2).settleCL hB rfl rfl (by omega) hUo)) ?_
      refine go_exit rfl ?_
      refine go_seq ?_
      refine go_region ⟨_, Try.func79⟩ rfl ?_
      refine q0 rfl (o_func ?_)
      refine q0 rfl (o_assign ?_)
      refine rg_nil ?_
      refine go_seq ?_
      refine go_region ⟨_, Try.func79⟩ rfl ?_
      refine q0 rfl (o_assign ?_)
      refine rg_nil ?_
      refine go_seq ?_
      refine go_seq ?_
      refine go_region ⟨_, Try.func79⟩ rfl ?_
      refine q0 rfl (o_ld ?_)
      refine q0 rfl (o_len ?_)
      refine q0 rfl (o_move ?_)
      refine rg_nil ?_
      refine go_block ?_
      refine go_loopI (X := Nat × SH) (fun s => s.1 ≤ (once l).length) (fun s => [(8, .func (.func 89) #[] [.pointer (some ⟨b5, 0, none⟩)].toArray), (9, sl s.2 (keptUpto l s.1).length), (34, sl aO (once l).length), (35, .int .i64 ((once l).length : Int)), (36, .int .i64 (s.1 : Int))]) (fun s => [CL (once l) aO]) (fun s => [boxR b5 [sl aO (once l).length] 22, rowS 2 53 s.2 (keptUpto l s.1).length (clFlat (keptUpto l s.1))]) (fun s => (once l).length - s.1) ((0, (none, 0))) (Nat.zero_le _) (by exact ⟨rfl, rfl, rfl, rfl, rfl, trivial⟩) ?_ ?_
      · exact fun w hs => (((hs.less (by simp +contextual)).rowS0 2 53).perm perm2).dropR (A := [_, _])
      · intro ⟨i, aK⟩ base1 hi next1
        dsimp only at hi next1 ⊢
        refine go_seq ?_
        refine go_region ⟨_, Try.func79⟩ rfl ?_
        refine q0 rfl (o_lss ?_)
        refine rg_nil ?_
        refine go_seq ?_
        refine go_condI (fun h37 => ?_) (fun h37 => ?_)
        · have hlt : i < (once l).length := by have := of_decide_eq_true h37; omega
          refine go_openCL (l := once l) (a := aO) (fun _ hA2 _ => ?_)
          obtain ⟨bk, o, hav⟩ := hA2 (by omega)
          have hu := hUo _ (getD_mem (d := cl0) hlt)
          have hkl := keptUpto_len l i
          refine go_skip ?_
          refine go_seq ?_
          refine go_block ?_
          refine go_seq ?_
          refine go_region ⟨_, Try.func79⟩ rfl ?_
          refine q0 rfl (o_ixN ?_)
          refine q0 rfl (o_ldC ?_)
          refine q0 rfl (o_new fun b11 => ?_)
          refine q0 rfl (o_st ?_)
          refine rg_nil ?_
          refine go_seq ?_
          refine go_region ⟨_, Try.func79⟩ rfl ?_
          refine q0 rfl (o_move ?_)
          refine q0 rfl (o_lds ?_)
          refine q0 rfl (o_callC Try.call89 (least1_spec (once l) aO ((once l).getD i cl0) hu b5) (cap := [.pointer (some ⟨b5, 0, none⟩)]) (fun x42 => ?_))
          refine q0 rfl (o_not ?_)
          refine rg_nil ?_
          refine go_condI (fun h43 => ?_) (fun h43 => ?_)
          · refine go_region ⟨_, Try.func79⟩ rfl ?_
            refine q0 rfl (o_move ?_)
            refine q0 rfl (o_lds ?_)
            refine q0 rfl (o_lit1 fun b46 => ?_)
            refine q0 rfl (o_appS (fun a47 => ?_)  )
            refine q0 rfl (o_assign ?_)
            refine rg_nil ?_
            refine go_inBlock ?_
            refine go_region ⟨_, Try.func79⟩ rfl ?_
            refine q0 rfl (o_add ?_)
            refine q0 rfl (o_move ?_)
            refine rg_nil ?_
            have hnd : needless (once l) ((once l).getD i cl0) = false := by simpa using h43
            have hst := keptUpto_succ hlt
            rw [hnd, if_neg (by decide)] at hst
            have hlen' : (keptUpto l (i + 1)).length = (keptUpto l i).length + 1 := by rw [hst]; simp
            refine go_state (fun w hs => ?_) (next1 (i + 1, a47) _ hlt (by simp only; omega) ⟨rfl, by rw [hlen']; rfl, rfl, rfl, rfl, trivial⟩)
            dsimp only
            rw [hlen', hst, clFlat_snoc]
            exact ((hs.less (by simp)).perm perm2).dropR (A := [_, _])
          · refine go_skip ?_
            refine go_inBlock ?_
            refine go_region ⟨_, Try.func79⟩ rfl ?_
            refine q0 rfl (o_add ?_)
            refine q0 rfl (o_move ?_)
            refine rg_nil ?_
            have hnd : needless (once l) ((once l).getD i cl0) = true := by simpa using h43
            have hst := keptUpto_succ hlt
            rw [hnd, if_pos rfl] at hst
            refine go_state (fun w hs => ?_) (next1 (i + 1, aK) _ hlt (by simp only; omega) ⟨rfl, by rw [hst]; rfl, rfl, rfl, rfl, trivial⟩)
            dsimp only
            rw [hst]
            exact (hs.less (by simp)).dropR (A := [_, _])
        · have hge2 : i = (once l).length := by have := of_decide_eq_false h37; omega
          subst hge2
          rw [keptUpto_all]
          refine go_exit rfl ?_
          refine go_seq ?_
          refine go_seq ?_
          refine go_region ⟨_, Try.func79⟩ rfl ?_
          refine q0 rfl (o_move ?_)
          refine q0 rfl (o_len ?_)
          refine q0 rfl (o_gtr ?_)
          refine rg_nil ?_
          refine go_condI (fun h51 => ?_) (fun h51 => ?_)
          · have h64 : 64 < (kept l).length := by have := of_decide_eq_true h51; omega
            refine go_seq ?_
            refine go_region ⟨_, Try.func79⟩ rfl ?_
            refine q0 rfl (o_assign ?_)
            refine q0 rfl (o_assign ?_)
            refine rg_nil ?_
            refine ret2 Try.func79 Try.results79 wn_ wn_ ⟨((none, 0), 3, []), by (unfold LeastIs; rw [hall, if_neg (by decide), if_pos h64])⟩ rfl (fun w hs => (hs.less (Γ' := []) (by simp)).bare.rowS0 2 53)
          · have h64 : ¬ 64 < (kept l).length := by have := of_decide_eq_false h51; omega
            refine go_skip ?_
            refine go_seq ?_
            refine go_region ⟨_, Try.func79⟩ rfl ?_
            refine q0 rfl (o_move ?_)
            refine q0 rfl (o_call Try.call92 (sortRow_spec (kept l) aK (kept l).length rfl (by unfold reach; omega)) (fun x53 => ?_))
            refine rg_nil ?_
            refine go_seq ?_
            refine go_region ⟨_, Try.func79⟩ rfl ?_
            refine q0 rfl (o_move ?_)
            refine q0 rfl (o_assign ?_)
            refine q0 rfl (o_assign ?_)
            refine rg_nil ?_
            have hpl : x53.1.length = (kept l).length := x53.2.1.length_eq
            refine ret2 Try.func79 Try.results79 wn_ wn_ ⟨(aK, 0, x53.1), by (unfold LeastIs; rw [hall, if_neg (by decide), if_neg h64]; exact ⟨rfl, x53.2⟩)⟩ (by rw [hpl]; rfl) (fun w hs => ?_)
            have h := (hs.less (Γ' := []) (by simp)).dropR (A := [_])
            rw [← hpl] at h
            exact h
theorem least_spec (l : List Cl) (a : SH) : Spec Try.prog 79 #[sl a l.length] [CL l a] [] (fun x : {x : SH × Int × List Cl // LeastIs l x.2} => .tuple #[sl x.1.1 x.1.2.2.length, .int .i64 x.1.2.1]) (fun x => [CL x.1.2.2 x.1.1]) (fun _ => []) := fun ok w hok hs => (least_own l a ok w hok hs).mono fun e w' h => by
  obtain ⟨x, he, hs'⟩ := h
  have hu := (hs.facts _ List.mem_cons_self).2
  have hx : x.1.2.2.length ≤ 64 ∧ ∀ c, c ∈ x.1.2.2 → u32 c := by
    have h := x.2
    unfold LeastIs at h
    split at h
    · rw [h]; exact ⟨Nat.zero_le _, fun c hc => by cases hc⟩
    · split at h
      · rw [h]; exact ⟨Nat.zero_le _, fun c hc => by cases hc⟩
      · rename_i h64
        exact ⟨by rw [h.2.1.length_eq]; omega, fun c hc => hu c (kept_mem (h.2.1.mem_iff.mp hc))⟩
  exact ⟨x, he, (hs'.settleCL trivial rfl rfl (by unfold reach; omega) hx.2).less (by simp)⟩
end Go.Hy
namespace Go.Hy
set_option linter.unusedVariables false
set_option linter.unusedSimpArgs false
set_option linter.unusedSectionVars false
open Go.Proofs
set_option linter.unusedVariables false
set_option linter.unusedSimpArgs false
set_option maxRecDepth 100000
theorem equal_spec (l m : List Cl) (a b : SH) : Spec Try.prog 80 #[sl a l.length, sl b m.length] [CL l a, CL m b] [] (fun _ : Unit => .bool (decide (l = m))) (fun _ => []) (fun _ => []) := by
  refine spec_go (args := [sl a l.length, sl b m.length]) Try.func80 Try.ntmps80 rfl (by exact Nat.le_of_ble_eq_true rfl) fun B hB => ?_
  refine go_openCL (l := l) (a := a) (fun hl1 hA1 hU1 => ?_)
  refine go_openCL (l := m) (a := b) (fun hl2 hA2 hU2 => ?_)
  refine go_seq ?_
  refine go_region ⟨_, Try.func80⟩ rfl ?_
  refine q0 rfl (o_assign ?_)
  refine rg_nil ?_
  refine go_seq ?_
  refine go_seq ?_
  refine go_region ⟨_, Try.func80⟩ rfl ?_
  refine q0 rfl (o_move ?_)
  refine q0 rfl (o_len ?_)
  refine q0 rfl (o_move ?_)
  refine q0 rfl (o_len ?_)
  refine q0 rfl (o_neI ?_)
  refine rg_nil ?_
  refine go_condI (fun h10 => ?_) (fun h10 => ?_)
  · have hne : ¬ l = m := fun e => by subst e; simp at h10
    refine go_seq ?_
    refine go_region ⟨_, Try.func80⟩ rfl ?_
    refine q0 rfl (o_assign ?_)
    refine rg_nil ?_
    refine ret1 Try.func80 Try.results80 wn_ () (by rw [decide_eq_false hne]) (fun w hs => hs.none)
  · have hlen : l.length = m.length := by simp at h10; omega
    refine go_skip ?_
    refine go_seq ?_
    refine go_seq ?_
    refine go_region ⟨_, Try.func80⟩ rfl ?_
    refine q0 rfl (o_move ?_)
    refine q0 rfl (o_len ?_)
    refine q0 rfl (o_move ?_)
    refine rg_nil ?_
    refine go_block ?_
    refine go_loopI (X := Nat) (fun i => i ≤ l.length ∧ ∀ j, j < i → l.getD j cl0 = m.getD j cl0) (fun i => [(0, sl a l.length), (1, sl b m.length), (12, .int .i64 (l.length : Int)), (13, .int .i64 (i : Int))]) (fun i => [CL l a, CL m b]) (fun i => []) (fun i => l.length - i) (0) (⟨Nat.zero_le _, fun j hj => by omega⟩) (by exact ⟨rfl, rfl, rfl, rfl, trivial⟩) ?_ ?_
    · exact fun w hs => hs.less (by simp +contextual)
    · intro i base0 ⟨hi, hok⟩ next0
      refine go_seq ?_
      refine go_region ⟨_, Try.func80⟩ rfl ?_
      refine q0 rfl (o_lss ?_)
      refine rg_nil ?_
      refine go_seq ?_
      refine go_condI (fun h14 => ?_) (fun h14 => ?_)
      · have hlt : i < l.length := by have := of_decide_eq_true h14; omega
        have hlt2 : i < m.length := by omega
        obtain ⟨bk, o, hav⟩ := hA1 (by omega)
        obtain ⟨bk2, o2, hav2⟩ := hA2 (by omega)
        refine go_skip ?_
        refine go_seq ?_
        refine go_block ?_
        refine go_seq ?_
        refine go_region ⟨_, Try.func80⟩ rfl ?_
        refine q0 rfl (o_move ?_)
        refine q0 rfl (o_assign ?_)
        refine rg_nil ?_
        refine go_seq ?_
        refine go_draw (pn := 1000000) (tn := false) (A := [0, 0, 3, 7, 0, 0, 48, 112, 255]) (l := [0, 1, 2, 3, 4, 5, 6, 7, 8]) (fin := []) Tab.mixed ⟨_, Try.func80⟩ (by rfl) ?_
        refine n0 rfl (v_move ?_)
        refine n0 rfl (v_move ?_)
        refine n0 rfl (v_ixN ?_)
        refine n0 rfl (v_ldC ?_)
        refine n0 rfl (v_move ?_)
        refine n0 rfl (v_move ?_)
        refine n0 rfl (v_ixN ?_)
        refine n0 rfl (v_ldC ?_)
        refine n0 rfl (v_neC ?_)
        refine NV.done ?_
        refine rg_nil ?_
        refine go_condI (fun h24 => ?_) (fun h24 => ?_)
        · refine go_seq ?_
          refine go_region ⟨_, Try.func80⟩ rfl ?_
          refine q0 rfl (o_assign ?_)
          refine rg_nil ?_
          refine ret1 Try.func80 Try.results80 wn_ () (by rw [decide_eq_false (fun e => by subst e; simp at h24)]) (fun w hs => hs.none)
        · refine go_skip ?_
          refine go_inBlock ?_
          refine go_region ⟨_, Try.func80⟩ rfl ?_
          refine q0 rfl (o_add ?_)
          refine q0 rfl (o_move ?_)
          refine rg_nil ?_
          have hb : l.getD i cl0 = m.getD i cl0 := by simpa using h24
          refine go_state (fun w hs => ?_) (next0 (i + 1) _ ⟨hlt, fun j hj => (by rcases Nat.lt_succ_iff_lt_or_eq.mp hj with h | h; exact hok j h; subst h; exact hb)⟩ (by omega) ⟨rfl, rfl, rfl, rfl, trivial⟩)
          exact hs
      · have hge : i = l.length := by have := of_decide_eq_false h14; omega
        refine go_exit rfl ?_
        refine go_seq ?_
        refine go_region ⟨_, Try.func80⟩ rfl ?_
        refine q0 rfl (o_assign ?_)
        refine rg_nil ?_
        refine ret1 Try.func80 Try.results80 wn_ () (by rw [decide_eq_true (list_eq_of hlen (by rw [← hge]; exact hok))]) (fun w hs => hs.none)
end Go.Hy
namespace Go.Hy
set_option linter.unusedVariables false
set_option linter.unusedSimpArgs false
set_option linter.unusedSectionVars false
open Go.Proofs
set_option linter.unusedVariables false
set_option linter.unusedSimpArgs false
set_option maxRecDepth 100000
theorem formRight_spec : FRight := by
  intro l a
  refine spec_go (args := [sl a l.length]) Try.func73 Try.ntmps73 rfl (by exact Nat.le_of_ble_eq_true rfl) fun B hB => ?_
  refine go_know (p := True) (fun _ _ => trivial) (fun _ => ?_)
  refine go_seq ?_
  refine go_region ⟨_, Try.func73⟩ rfl ?_
  refine q0 rfl (o_assign ?_)
  refine rg_nil ?_
  refine go_seq ?_
  refine go_region ⟨_, Try.func73⟩ rfl ?_
  refine q0 rfl (o_move ?_)
  refine q0 rfl (o_call Try.call79 (least_spec l a) (fun x7 => ?_))
  refine q0 rfl (o_move ?_)
  refine q0 rfl (o_extract ?_)
  refine q0 rfl (o_extract ?_)
  refine q0 rfl (o_assign ?_)
  refine q0 rfl (o_assign ?_)
  refine rg_nil ?_
  refine go_seq ?_
  refine go_region ⟨_, Try.func73⟩ rfl ?_
  refine q0 rfl (o_move ?_)
  refine q0 rfl (o_eqI ?_)
  refine q0 rfl (o_move ?_)
  refine qI rfl rfl rfl wl_ (fun hg12 => o_move ?_) (fun hg12 => ?_)
  · refine qT rfl rfl rfl (o_move ?_)
    refine qT rfl rfl rfl (o_call Try.call80 (equal_spec x7.1.2.2 l x7.1.1 a) (fun x15 => ?_))
    refine q0 rfl (o_pickT ?_)
    refine q0 rfl (o_assign ?_)
    refine rg_nil ?_
    have hlr := least_right x7.2
    refine ret1 Try.func73 Try.results73 wn_ () (by rw [← hlr]; simp_all) (fun w hs => hs.none)
  · refine qF rfl rfl rfl ?_
    refine qF rfl rfl rfl ?_
    refine q0 rfl (o_pickF ?_)
    refine q0 rfl (o_assign ?_)
    refine rg_nil ?_
    have hlr := least_right x7.2
    refine ret1 Try.func73 Try.results73 wn_ () (by rw [← hlr]; simp_all) (fun w hs => hs.none)
theorem faceRight_spec : FaceRight := by
  intro l a
  refine spec_go (args := [sl a l.length]) Try.func75 Try.ntmps75 rfl (by exact Nat.le_of_ble_eq_true rfl) fun B hB => ?_
  refine go_openCL (l := l) (a := a) (fun hl1 hA1 hU1 => ?_)
  refine go_seq ?_
  refine go_region ⟨_, Try.func75⟩ rfl ?_
  refine q0 rfl (o_assign ?_)
  refine rg_nil ?_
  refine go_seq ?_
  refine go_region ⟨_, Try.func75⟩ rfl ?_
  refine q0 rfl (o_move ?_)
  refine q0 rfl (o_call Try.call73 (formRight_spec l a) (fun x4 => ?_))
  refine q0 rfl (o_move ?_)
  refine qI rfl rfl rfl wl_ (fun hg5 => o_move ?_) (fun hg5 => ?_)
  · refine qT rfl rfl rfl (o_call Try.call81 (contains_spec l a 82 [] [] [] clash Try.call82 (fun x hx => clash_spec x (hU1 x hx))) (fun x7 => ?_))
    refine qT rfl rfl rfl (o_not ?_)
    refine q0 rfl (o_pickT ?_)
    refine q0 rfl (o_assign ?_)
    refine rg_nil ?_
    refine ret1 Try.func75 Try.results75 wn_ () (by simp_all [faceRight]) (fun w hs => hs.none)
  · refine qF rfl rfl rfl ?_
    refine qF rfl rfl rfl ?_
    refine q0 rfl (o_pickF ?_)
    refine q0 rfl (o_assign ?_)
    refine rg_nil ?_
    refine ret1 Try.func75 Try.results75 wn_ () (by simp_all [faceRight]) (fun w hs => hs.none)
theorem form_spec : FORM := ⟨formRight_spec, faceRight_spec, fDims_spec⟩
end Go.Hy
namespace Go.Hy
set_option linter.unusedVariables false
set_option linter.unusedSimpArgs false
set_option linter.unusedSectionVars false
open Go.Proofs
set_option linter.unusedVariables false
set_option linter.unusedSimpArgs false
set_option maxRecDepth 100000
theorem pow24 {m : Nat} (h : m ≤ 24) : 2 ^ m ≤ 16777216 := Nat.pow_le_pow_right (n := 2) (j := 24) (by omega) h
theorem below24 (i : Int) (h0 : 0 ≤ i) : Spec Try.prog 63 #[.int .i64 (i)] [] [] (fun _ : Unit => .int .u32 (((2 ^ (min i.toNat 24) - 1) : Nat) : Int)) (fun _ : Unit => []) (fun _ : Unit => []) := by
  refine spec_go (args := [.int .i64 (i)]) Try.func63 Try.ntmps63 rfl (by exact Nat.le_of_ble_eq_true rfl) fun B hB => ?_
  have hp := pow24 (m := min i.toNat 24) (by omega)
  have hpos : 0 < 2 ^ (min i.toNat 24) := Nat.pow_pos (by omega)
  refine go_seq ?_
  refine go_region ⟨_, Try.func63⟩ rfl ?_
  refine q0 rfl (o_assign ?_)
  refine rg_nil ?_
  refine go_seq ?_
  refine go_region ⟨_, Try.func63⟩ rfl ?_
  refine q0 rfl (o_move ?_)
  refine q0 rfl (o_min ?_)
  refine q0 rfl (o_convI6 ?_ (m := min i.toNat 24) (ha := by split <;> omega))
  refine q0 rfl (o_shl6 ?_ (a := 1) (m := min i.toNat 24) (hm := by omega) (hb := by omega))
  refine q0 rfl (o_sub6 ?_ (a := 1 * 2 ^ (min i.toNat 24)) (b := 1) (h := by omega) (ha := by omega))
  refine q0 rfl (o_conv6U ?_ (a := 1 * 2 ^ (min i.toNat 24) - 1) (ha := by omega))
  refine q0 rfl (o_assign ?_)
  refine rg_nil ?_
  refine ret1 Try.func63 Try.results63 wn_ () (by rw [Nat.one_mul]) (fun w hs => hs.none)
end Go.Hy
namespace Go.Hy
set_option linter.unusedVariables false
set_option linter.unusedSimpArgs false
set_option linter.unusedSectionVars false
open Go.Proofs
set_option linter.unusedVariables false
set_option linter.unusedSimpArgs false
set_option maxRecDepth 100000
theorem rsameC (l : List Cl) (a_l : SH) (m : List Cl) (a_m : SH)  : Spec Try.prog 29 #[sl a_l (l.length), sl a_m (m.length)] [CL l a_l, CL m a_m] [] (fun _ : Unit => .bool ((decide (l = m)))) (fun _ : Unit => []) (fun _ : Unit => []) := by
  refine spec_go (args := [sl a_l (l.length), sl a_m (m.length)]) Try.func29 Try.ntmps29 rfl (by exact Nat.le_of_ble_eq_true rfl) fun B hB => ?_
  refine go_openCL (l := l) (a := a_l) (fun hl1 hA1 hU1 => ?_)
  refine go_openCL (l := m) (a := a_m) (fun hl2 hA2 hU2 => ?_)
  refine go_seq ?_
  refine go_region ⟨_, Try.func29⟩ rfl ?_
  refine q0 rfl (o_assign ?_)
  refine rg_nil ?_
  refine go_seq ?_
  refine go_seq ?_
  refine go_region ⟨_, Try.func29⟩ rfl ?_
  refine q0 rfl (o_move ?_)
  refine q0 rfl (o_len ?_)
  refine q0 rfl (o_move ?_)
  refine q0 rfl (o_len ?_)
  refine q0 rfl (o_neI ?_)
  refine rg_nil ?_
  refine go_condI (fun h10 => ?_) (fun h10 => ?_)
  · have c10 : (decide ((l.length : Int) ≠ (m.length : Int))) = true := h10
    try simp only [sC, bne_iff_ne, beq_iff_eq, ne_eq] at c10
    have hne : ¬ l = m := fun e => by subst e; simp at h10
    refine go_seq ?_
    refine go_region ⟨_, Try.func29⟩ rfl ?_
    refine q0 rfl (o_assign ?_)
    refine rg_nil ?_
    refine ret1 Try.func29 Try.results29 wn_ () (by rw [decide_eq_false hne]) (fun w hs => hs.none)
  · have c10 : (decide ((l.length : Int) ≠ (m.length : Int))) = false := h10
    try simp only [sC, bne_iff_ne, beq_iff_eq, ne_eq] at c10
    have hlen : l.length = m.length := by simp at h10; omega
    refine go_skip ?_
    refine go_seq ?_
    refine go_seq ?_
    refine go_region ⟨_, Try.func29⟩ rfl ?_
    refine q0 rfl (o_assign ?_)
    refine rg_nil ?_
    refine go_block ?_
    refine go_loopE (X := Nat) (fun s_ => s_ ≤ l.length ∧ ∀ j, j < s_ → l.getD j cl0 = m.getD j cl0) (fun s_ => [(0, sl a_l (l.length)), (1, sl a_m (m.length)), (5, .int .i64 ((s_ : Int)))]) (fun s_ G_ => G_) (fun s_ => []) (fun s_ => l.length - s_) (0) (⟨by omega, fun j hj => by omega⟩) (by exact ⟨rfl, rfl, rfl, trivial⟩) ?_ ?_
    · exact fun w hs => hs
    · intro i base0 ⟨hi, hok⟩ next0
      refine go_seq ?_
      refine go_seq ?_
      refine go_region ⟨_, Try.func29⟩ rfl ?_
      refine q0 rfl (o_move ?_)
      refine q0 rfl (o_move ?_)
      refine q0 rfl (o_len ?_)
      refine q0 rfl (o_lss ?_)
      refine rg_nil ?_
      refine go_condI (fun h14 => ?_) (fun h14 => ?_)
      · have c14 : (decide ((i : Int) < (l.length : Int))) = true := h14
        try simp only [sC, bne_iff_ne, beq_iff_eq, ne_eq] at c14
        refine go_skip ?_
        refine go_seq ?_
        refine go_block ?_
        refine go_seq ?_
        refine go_draw (pn := 1000000) (tn := false) (A := [0, 0, 3, 7, 0, 0, 48, 112, 255]) (l := [0, 1, 2, 3, 4, 5, 6, 7, 8]) (fin := []) Tab.mixed ⟨_, Try.func29⟩ (by rfl) ?_
        refine n0 rfl (v_move ?_)
        refine n0 rfl (v_move ?_)
        obtain ⟨bk3, o3, hav3⟩ := hA1 (by omega)
        refine n0 rfl (v_ixN ?_ (j := i))
        refine n0 rfl (v_ldC ?_)
        refine n0 rfl (v_move ?_)
        refine n0 rfl (v_move ?_)
        obtain ⟨bk4, o4, hav4⟩ := hA2 (by omega)
        refine n0 rfl (v_ixN ?_ (j := i))
        refine n0 rfl (v_ldC ?_)
        refine n0 rfl (v_neC ?_ (c := (l.getD i cl0)) (c' := (m.getD i cl0)))
        refine NV.done ?_
        refine rg_nil ?_
        refine go_condI (fun h25 => ?_) (fun h25 => ?_)
        · have c25 : (!decide ((l.getD i cl0) = (m.getD i cl0))) = true := h25
          try simp only [sC, bne_iff_ne, beq_iff_eq, ne_eq] at c25
          refine go_seq ?_
          refine go_region ⟨_, Try.func29⟩ rfl ?_
          refine q0 rfl (o_assign ?_)
          refine rg_nil ?_
          refine ret1 Try.func29 Try.results29 wn_ () (by rw [decide_eq_false (fun e => by subst e; simp at h25)]) (fun w hs => hs.none)
        · have c25 : (!decide ((l.getD i cl0) = (m.getD i cl0))) = false := h25
          try simp only [sC, bne_iff_ne, beq_iff_eq, ne_eq] at c25
          refine go_skip ?_
          refine go_inBlock ?_
          refine go_region ⟨_, Try.func29⟩ rfl ?_
          refine q0 rfl (o_move ?_)
          refine q0 rfl (o_add ?_)
          refine q0 rfl (o_assign ?_)
          refine rg_nil ?_
          have hb : l.getD i cl0 = m.getD i cl0 := by simpa using h25
          refine go_state (fun w hs => ?_) (next0 (i + 1) _ (⟨by omega, succ_inv hok hb⟩) (by omega) ⟨rfl, rfl, rfl, trivial⟩)
          exact (hs.less (by simp +contextual))
      · have c14 : (decide ((i : Int) < (l.length : Int))) = false := h14
        try simp only [sC, bne_iff_ne, beq_iff_eq, ne_eq] at c14
        refine go_exit rfl ?_
        refine go_seq ?_
        refine go_region ⟨_, Try.func29⟩ rfl ?_
        refine q0 rfl (o_assign ?_)
        refine rg_nil ?_
        refine ret1 Try.func29 Try.results29 wn_ () (by rw [decide_eq_true (list_eq_of hlen (fun j hj => hok j (by omega)))]) (fun w hs => hs.none)
end Go.Hy
namespace Go.Hy
set_option linter.unusedVariables false
set_option linter.unusedSimpArgs false
set_option linter.unusedSectionVars false
open Go.Proofs
set_option linter.unusedVariables false
set_option linter.unusedSimpArgs false
set_option maxRecDepth 100000
theorem maskLift_spec (s : Nat) (f : Int) (b : Int) (hs : s < 4294967296) (hi : in64 f) (hib : in64 b) : Spec Try.prog 95 #[.int .u32 ((s : Nat) : Int), .int .i64 (f), .int .i64 (b)] [] [] (fun _ : Unit => .tuple #[.int .u32 (((maskLift s f b).2 : Nat) : Int), .int .i64 ((maskLift s f b).1)]) (fun _ : Unit => []) (fun _ : Unit => []) := by
  refine spec_go (args := [.int .u32 ((s : Nat) : Int), .int .i64 (f), .int .i64 (b)]) Try.func95 Try.ntmps95 rfl (by exact Nat.le_of_ble_eq_true rfl) fun B hB => ?_
  have hs24 := and24_lt s
  have hp := pow24 (m := min f.toNat 24) (by omega)
  have hpos : 0 < 2 ^ (min f.toNat 24) := Nat.pow_pos (by omega)
  have hhi : andNot32 (s &&& 16777215) (2 ^ (min f.toNat 24) - 1) < 16777216 := andNot_lt hs24
  have hlo : (s &&& 16777215) &&& (2 ^ (min f.toNat 24) - 1) < 16777216 := Nat.lt_of_le_of_lt Nat.and_le_left hs24
  refine go_seq ?_
  refine go_region ⟨_, Try.func95⟩ rfl ?_
  refine q0 rfl (o_assign ?_)
  refine q0 rfl (o_assign ?_)
  refine rg_nil ?_
  refine go_seq ?_
  refine go_seq ?_
  refine go_cutS ([(0, .int .u32 ((s : Nat) : Int)), (1, .int .i64 (f)), (2, .int .i64 (b)), (15, .bool ((decide (f < 0)) || (decide (b < 0))))]) (fun hK => ?_) (fun base => ?_)
  · refine go_region ⟨_, Try.func95⟩ rfl ?_
    refine q0 rfl (o_move ?_)
    refine q0 rfl (o_lss ?_)
    refine q0 rfl (o_move ?_)
    refine qI rfl rfl rfl wl_ (fun hg12 => ?_) (fun hg12 => ?_)
    · have g12 : (decide (f < 0)) = false := hg12
      try simp only [sC, bne_iff_ne, beq_iff_eq, ne_eq] at g12
      refine o_move ?_
      refine qT rfl rfl rfl (o_lss ?_)
      refine q0 rfl (o_pickF ?_)
      refine rg_nil ?_
      exact hK _ ⟨rfl, rfl, rfl, dn_, trivial⟩
    · have g12 : (decide (f < 0)) = true := hg12
      try simp only [sC, bne_iff_ne, beq_iff_eq, ne_eq] at g12
      refine qF rfl rfl rfl ?_
      refine q0 rfl (o_pickT ?_)
      refine rg_nil ?_
      exact hK _ ⟨rfl, rfl, rfl, dn_, trivial⟩
  · refine go_condI (fun h15 => ?_) (fun h15 => ?_)
    · have c15 : ((decide (f < 0)) || (decide (b < 0))) = true := h15
      try simp only [sC, bne_iff_ne, beq_iff_eq, ne_eq] at c15
      have hg : maskLift s f b = (2, 0) := by rw [maskLift, if_pos (by omega)]
      refine go_seq ?_
      refine go_region ⟨_, Try.func95⟩ rfl ?_
      refine q0 rfl (o_assign ?_)
      refine q0 rfl (o_assign ?_)
      refine rg_nil ?_
      refine ret2 Try.func95 Try.results95 wn_ wn_ () (by first | (rw [hg]; done) | (rw [hg]; rfl)) (fun w hs => hs.none)
    · have c15 : ((decide (f < 0)) || (decide (b < 0))) = false := h15
      try simp only [sC, bne_iff_ne, beq_iff_eq, ne_eq] at c15
      have hfb : 0 ≤ f ∧ 0 ≤ b := by omega
      refine go_skip ?_
      refine go_seq ?_
      refine go_region ⟨_, Try.func95⟩ rfl ?_
      refine q0 rfl (o_move ?_)
      refine q0 rfl (o_andU32 ?_ (a := s) (b := 16777215))
      refine q0 rfl (o_assign ?_)
      refine rg_nil ?_
      refine go_seq ?_
      refine go_region ⟨_, Try.func95⟩ rfl ?_
      refine q0 rfl (o_move ?_)
      refine q0 rfl (o_move ?_)
      refine q0 rfl (o_call Try.call63 (below24 f om_) (fun x20 => ?_))
      refine q0 rfl (o_andU32 ?_ (a := s &&& 16777215) (b := 2 ^ (min f.toNat 24) - 1) (ha := by omega) (hb := by omega))
      refine q0 rfl (o_assign ?_)
      refine rg_nil ?_
      refine go_seq ?_
      refine go_region ⟨_, Try.func95⟩ rfl ?_
      refine q0 rfl (o_move ?_)
      refine q0 rfl (o_move ?_)
      refine q0 rfl (o_call Try.call63 (below24 f om_) (fun x24 => ?_))
      refine q0 rfl (o_andNotU32 ?_ (a := (s &&& 16777215)) (b := (2 ^ (min f.toNat 24) - 1)))
      refine q0 rfl (o_convU6 ?_ (a := andNot32 (s &&& 16777215) (2 ^ (min f.toNat 24) - 1)))
      refine q0 rfl (o_assign ?_)
      refine rg_nil ?_
      refine go_seq ?_
      refine go_seq ?_
      refine go_region ⟨_, Try.func95⟩ rfl ?_
      refine q0 rfl (o_move ?_)
      refine q0 rfl (o_eqI ?_ (a := ((andNot32 (s &&& 16777215) (2 ^ (min f.toNat 24) - 1) : Nat) : Int)) (b := 0))
      refine rg_nil ?_
      refine go_condI (fun h28 => ?_) (fun h28 => ?_)
      · have c28 : (decide (((andNot32 (s &&& 16777215) (2 ^ (min f.toNat 24) - 1) : Nat) : Int) = 0)) = true := h28
        try simp only [sC, bne_iff_ne, beq_iff_eq, ne_eq] at c28
        have hz : andNot32 (s &&& 16777215) (2 ^ (min f.toNat 24) - 1) = 0 := by omega
        have hg : maskLift s f b = (0, (s &&& 16777215) &&& (2 ^ (min f.toNat 24) - 1)) := by rw [maskLift, if_neg (by omega), if_pos hz]
        refine go_seq ?_
        refine go_region ⟨_, Try.func95⟩ rfl ?_
        refine q0 rfl (o_move ?_)
        refine q0 rfl (o_assign ?_)
        refine q0 rfl (o_assign ?_)
        refine rg_nil ?_
        refine ret2 Try.func95 Try.results95 wn_ wn_ () (by first | (rw [hg]; done) | (rw [hg]; rfl)) (fun w hs => hs.none)
      · have c28 : (decide (((andNot32 (s &&& 16777215) (2 ^ (min f.toNat 24) - 1) : Nat) : Int) = 0)) = false := h28
        try simp only [sC, bne_iff_ne, beq_iff_eq, ne_eq] at c28
        have hz : ¬ andNot32 (s &&& 16777215) (2 ^ (min f.toNat 24) - 1) = 0 := by omega
        refine go_skip ?_
        refine go_seq ?_
        refine go_seq ?_
        refine go_cutS ([(2, .int .i64 (b)), (8, .int .u32 ((((s &&& 16777215) &&& (2 ^ (min f.toNat 24) - 1)) : Nat) : Int)), (9, .int .u64 (((andNot32 (s &&& 16777215) (2 ^ (min f.toNat 24) - 1) : Nat) : Int))), (38, .bool ((decide (24 ≤ b)) || (decide (16777215 < ((andNot32 (s &&& 16777215) (2 ^ (min f.toNat 24) - 1) * 2 ^ b.toNat : Nat) : Int)))))]) (fun hK => ?_) (fun base => ?_)
        · refine go_region ⟨_, Try.func95⟩ rfl ?_
          refine q0 rfl (o_move ?_)
          refine q0 rfl (o_geq ?_)
          refine q0 rfl (o_move ?_)
          refine qI rfl rfl rfl wl_ (fun hg32 => ?_) (fun hg32 => ?_)
          · have g32 : (decide (24 ≤ b)) = false := hg32
            try simp only [sC, bne_iff_ne, beq_iff_eq, ne_eq] at g32
            refine o_move ?_
            refine qT rfl rfl rfl (o_move ?_)
            refine qT rfl rfl rfl (o_convI6 ?_ (m := b.toNat) (ha := by omega))
            refine qT rfl rfl rfl (o_shl6 ?_ (a := andNot32 (s &&& 16777215) (2 ^ (min f.toNat 24) - 1)) (m := b.toNat) (hm := by omega) (hb := by have := pow24 (m := b.toNat) (by omega); have h9 := Nat.mul_le_mul (Nat.le_of_lt hhi) this; omega))
            refine qT rfl rfl rfl (o_gtr ?_ (a := ((andNot32 (s &&& 16777215) (2 ^ (min f.toNat 24) - 1) * 2 ^ b.toNat : Nat) : Int)) (b := 16777215))
            refine q0 rfl (o_pickF ?_)
            refine rg_nil ?_
            exact hK _ ⟨rfl, rfl, rfl, dn_, trivial⟩
          · have g32 : (decide (24 ≤ b)) = true := hg32
            try simp only [sC, bne_iff_ne, beq_iff_eq, ne_eq] at g32
            refine qF rfl rfl rfl ?_
            refine qF rfl rfl rfl ?_
            refine qF rfl rfl rfl ?_
            refine qF rfl rfl rfl ?_
            refine q0 rfl (o_pickT ?_)
            refine rg_nil ?_
            exact hK _ ⟨rfl, rfl, rfl, dn_, trivial⟩
        · refine go_condI (fun h38 => ?_) (fun h38 => ?_)
          · have c38 : ((decide (24 ≤ b)) || (decide (16777215 < ((andNot32 (s &&& 16777215) (2 ^ (min f.toNat 24) - 1) * 2 ^ b.toNat : Nat) : Int)))) = true := h38
            try simp only [sC, bne_iff_ne, beq_iff_eq, ne_eq] at c38
            have hg : maskLift s f b = (10, 0) := by rw [maskLift, if_neg (by omega), if_neg hz, if_pos (by omega)]
            refine go_seq ?_
            refine go_region ⟨_, Try.func95⟩ rfl ?_
            refine q0 rfl (o_assign ?_)
            refine q0 rfl (o_assign ?_)
            refine rg_nil ?_
            refine ret2 Try.func95 Try.results95 wn_ wn_ () (by first | (rw [hg]; done) | (rw [hg]; rfl)) (fun w hs => hs.none)
          · have c38 : ((decide (24 ≤ b)) || (decide (16777215 < ((andNot32 (s &&& 16777215) (2 ^ (min f.toNat 24) - 1) * 2 ^ b.toNat : Nat) : Int)))) = false := h38
            try simp only [sC, bne_iff_ne, beq_iff_eq, ne_eq] at c38
            have hbig : ¬ (24 ≤ b ∨ 16777215 < andNot32 (s &&& 16777215) (2 ^ (min f.toNat 24) - 1) * 2 ^ b.toNat) := by omega
            have hg : maskLift s f b = (0, ((s &&& 16777215) &&& (2 ^ (min f.toNat 24) - 1)) ||| (andNot32 (s &&& 16777215) (2 ^ (min f.toNat 24) - 1) * 2 ^ b.toNat)) := by rw [maskLift, if_neg (by omega), if_neg hz, if_neg hbig]
            refine go_skip ?_
            refine go_seq ?_
            refine go_region ⟨_, Try.func95⟩ rfl ?_
            refine q0 rfl (o_move ?_)
            refine q0 rfl (o_move ?_)
            refine q0 rfl (o_move ?_)
            refine q0 rfl (o_convI6 ?_ (m := b.toNat) (ha := by omega))
            refine q0 rfl (o_shl6 ?_ (a := andNot32 (s &&& 16777215) (2 ^ (min f.toNat 24) - 1)) (m := b.toNat) (hm := by omega) (hb := by omega))
            refine q0 rfl (o_conv6U ?_ (a := andNot32 (s &&& 16777215) (2 ^ (min f.toNat 24) - 1) * 2 ^ b.toNat) (ha := by omega))
            refine q0 rfl (o_orU32 ?_ (a := (s &&& 16777215) &&& (2 ^ (min f.toNat 24) - 1)) (b := andNot32 (s &&& 16777215) (2 ^ (min f.toNat 24) - 1) * 2 ^ b.toNat) (ha := by omega) (hb := by omega))
            refine q0 rfl (o_assign ?_)
            refine q0 rfl (o_assign ?_)
            refine rg_nil ?_
            refine ret2 Try.func95 Try.results95 wn_ wn_ () (by first | (rw [hg]; done) | (rw [hg]; rfl)) (fun w hs => hs.none)
theorem clLift_spec (c : Cl) (f : Int) (b : Int) (hc : u32 c) (hi : in64 f) (hib : in64 b) : Spec Try.prog 87 #[keyV c, .int .i64 (f), .int .i64 (b)] [] [] (fun _ : Unit => .tuple #[keyV ((clLift c f b).2), .int .i64 ((clLift c f b).1)]) (fun _ : Unit => []) (fun _ : Unit => []) := by
  refine spec_go (args := [keyV c, .int .i64 (f), .int .i64 (b)]) Try.func87 Try.ntmps87 rfl (by exact Nat.le_of_ble_eq_true rfl) fun B hB => ?_
  have hcp := hc.1
  have hcn := hc.2
  have hp1 := maskLift_lt c.pos f b
  have hp2 := maskLift_lt c.neg f b
  refine go_seq ?_
  refine go_region ⟨_, Try.func87⟩ rfl ?_
  refine q0 rfl (o_box fun b3 => ?_)
  refine q0 rfl (o_new fun b6 => ?_)
  refine q0 rfl (o_assign ?_)
  refine rg_nil ?_
  refine go_seq ?_
  refine go_seq ?_
  refine go_region ⟨_, Try.func87⟩ rfl ?_
  refine q0 rfl (o_lds ?_)
  refine q0 rfl (o_call Try.call88 (clauseRight_spec c om_) (fun x12 => ?_))
  refine q0 rfl (o_not ?_)
  refine rg_nil ?_
  refine go_condI (fun h13 => ?_) (fun h13 => ?_)
  · have c13 : (!(right24 c)) = true := h13
    try simp only [sC, bne_iff_ne, beq_iff_eq, ne_eq] at c13
    have hg : clLift c f b = (2, cl0) := by rw [clLift, if_pos (by simpa using h13)]
    refine go_seq ?_
    refine go_region ⟨_, Try.func87⟩ rfl ?_
    refine q0 rfl (o_build (cs := [.int .u32 ((((⟨0, 0⟩ : Cl)).pos : Nat) : Int), .int .u32 ((((⟨0, 0⟩ : Cl)).neg : Nat) : Int)]) ?_)
    refine q0 rfl (o_st ?_)
    refine q0 rfl (o_assign ?_)
    refine rg_nil ?_
    refine retCT Try.func87 Try.results87 () rfl mf_ rfl rfl rfl rfl (by rw [hg]; rfl) (fun w hs => hs.none)
  · have c13 : (!(right24 c)) = false := h13
    try simp only [sC, bne_iff_ne, beq_iff_eq, ne_eq] at c13
    have hr : ¬ right24 c = false := by simpa using h13
    refine go_skip ?_
    refine go_seq ?_
    refine go_region ⟨_, Try.func87⟩ rfl ?_
    refine q0 rfl (o_fa ?_)
    refine q0 rfl (o_ld ?_)
    refine q0 rfl (o_move ?_)
    refine q0 rfl (o_move ?_)
    refine q0 rfl (o_call Try.call95 (maskLift_spec ((c).pos) f b om_ om_ om_) (fun x20 => ?_))
    refine q0 rfl (o_move ?_)
    refine q0 rfl (o_extract ?_)
    refine q0 rfl (o_extract ?_)
    refine q0 rfl (o_assign ?_)
    refine q0 rfl (o_assign ?_)
    refine rg_nil ?_
    refine go_seq ?_
    refine go_seq ?_
    refine go_region ⟨_, Try.func87⟩ rfl ?_
    refine q0 rfl (o_move ?_)
    refine q0 rfl (o_neI ?_)
    refine rg_nil ?_
    refine go_condI (fun h24 => ?_) (fun h24 => ?_)
    · have c24 : (decide (((maskLift ((c).pos) f b).1) ≠ 0)) = true := h24
      try simp only [sC, bne_iff_ne, beq_iff_eq, ne_eq] at c24
      have hg : clLift c f b = ((maskLift c.pos f b).1, cl0) := by rw [clLift, if_neg hr, if_pos (by simpa using h24)]
      refine go_seq ?_
      refine go_region ⟨_, Try.func87⟩ rfl ?_
      refine q0 rfl (o_build (cs := [.int .u32 ((((⟨0, 0⟩ : Cl)).pos : Nat) : Int), .int .u32 ((((⟨0, 0⟩ : Cl)).neg : Nat) : Int)]) ?_)
      refine q0 rfl (o_move ?_)
      refine q0 rfl (o_st ?_)
      refine q0 rfl (o_assign ?_)
      refine rg_nil ?_
      refine retCT Try.func87 Try.results87 () rfl mf_ rfl rfl rfl rfl (by rw [hg]; rfl) (fun w hs => hs.none)
    · have c24 : (decide (((maskLift ((c).pos) f b).1) ≠ 0)) = false := h24
      try simp only [sC, bne_iff_ne, beq_iff_eq, ne_eq] at c24
      have hr2 : ¬ (maskLift c.pos f b).1 ≠ 0 := by simpa using h24
      refine go_skip ?_
      refine go_seq ?_
      refine go_region ⟨_, Try.func87⟩ rfl ?_
      refine q0 rfl (o_fa ?_)
      refine q0 rfl (o_ld ?_)
      refine q0 rfl (o_move ?_)
      refine q0 rfl (o_move ?_)
      refine q0 rfl (o_call Try.call95 (maskLift_spec ((c).neg) f b om_ om_ om_) (fun x32 => ?_))
      refine q0 rfl (o_move ?_)
      refine q0 rfl (o_extract ?_)
      refine q0 rfl (o_extract ?_)
      refine q0 rfl (o_assign ?_)
      refine q0 rfl (o_assign ?_)
      refine rg_nil ?_
      refine go_seq ?_
      refine go_seq ?_
      refine go_region ⟨_, Try.func87⟩ rfl ?_
      refine q0 rfl (o_move ?_)
      refine q0 rfl (o_neI ?_)
      refine rg_nil ?_
      refine go_condI (fun h36 => ?_) (fun h36 => ?_)
      · have c36 : (decide (((maskLift ((c).neg) f b).1) ≠ 0)) = true := h36
        try simp only [sC, bne_iff_ne, beq_iff_eq, ne_eq] at c36
        have hg : clLift c f b = ((maskLift c.neg f b).1, cl0) := by rw [clLift, if_neg hr, if_neg hr2, if_pos (by simpa using h36)]
        refine go_seq ?_
        refine go_region ⟨_, Try.func87⟩ rfl ?_
        refine q0 rfl (o_build (cs := [.int .u32 ((((⟨0, 0⟩ : Cl)).pos : Nat) : Int), .int .u32 ((((⟨0, 0⟩ : Cl)).neg : Nat) : Int)]) ?_)
        refine q0 rfl (o_move ?_)
        refine q0 rfl (o_st ?_)
        refine q0 rfl (o_assign ?_)
        refine rg_nil ?_
        refine retCT Try.func87 Try.results87 () rfl mf_ rfl rfl rfl rfl (by rw [hg]; rfl) (fun w hs => hs.none)
      · have c36 : (decide (((maskLift ((c).neg) f b).1) ≠ 0)) = false := h36
        try simp only [sC, bne_iff_ne, beq_iff_eq, ne_eq] at c36
        have hg : clLift c f b = (0, ⟨(maskLift c.pos f b).2, (maskLift c.neg f b).2⟩) := by rw [clLift, if_neg hr, if_neg hr2, if_neg (by simpa using h36)]
        refine go_skip ?_
        refine go_seq ?_
        refine go_region ⟨_, Try.func87⟩ rfl ?_
        refine q0 rfl (o_move ?_)
        refine q0 rfl (o_move ?_)
        refine q0 rfl (o_build (cs := [.int .u32 ((((⟨(maskLift ((c).pos) f b).2, (maskLift ((c).neg) f b).2⟩ : Cl)).pos : Nat) : Int), .int .u32 ((((⟨(maskLift ((c).pos) f b).2, (maskLift ((c).neg) f b).2⟩ : Cl)).neg : Nat) : Int)]) ?_)
        refine q0 rfl (o_st ?_)
        refine q0 rfl (o_assign ?_)
        refine rg_nil ?_
        refine retCT Try.func87 Try.results87 () rfl mf_ rfl rfl rfl rfl (by rw [hg]; rfl) (fun w hs => hs.none)
theorem forms_spec (l : List CP) (a_l : SH)  : Spec Try.prog 83 #[sl a_l (l.length)] [CCF l a_l] [] (fun _ : Unit => .int .i64 ((if l.all (fun p => fRight p.1) then 0 else 2))) (fun _ : Unit => []) (fun _ : Unit => []) := by
  refine spec_go (args := [sl a_l (l.length)]) Try.func83 Try.ntmps83 rfl (by exact Nat.le_of_ble_eq_true rfl) fun B hB => ?_
  refine go_seq ?_
  refine go_region ⟨_, Try.func83⟩ rfl ?_
  refine q0 rfl (o_assign ?_)
  refine rg_nil ?_
  refine go_seq ?_
  refine go_seq ?_
  refine go_region ⟨_, Try.func83⟩ rfl ?_
  refine q0 rfl (o_move ?_)
  refine q0 rfl (o_len ?_)
  refine q0 rfl (o_move ?_)
  refine rg_nil ?_
  refine go_block ?_
  refine go_loopE (X := Nat) (fun s_ => s_ ≤ l.length ∧ ∀ j, j < s_ → fRight (l.getD j cp0).1 = true) (fun s_ => [(5, sl a_l (l.length)), (6, .int .i64 ((l.length : Int))), (7, .int .i64 ((s_ : Int)))]) (fun s_ G_ => G_) (fun s_ => []) (fun s_ => l.length - s_) (0) (⟨Nat.zero_le _, fun j hj => absurd hj (Nat.not_lt_zero _)⟩) (by exact ⟨rfl, rfl, rfl, trivial⟩) ?_ ?_
  · exact fun w hs => hs
  · intro i base0 ⟨hi, hok⟩ next0
    refine go_seq ?_
    refine go_region ⟨_, Try.func83⟩ rfl ?_
    refine q0 rfl (o_lss ?_)
    refine rg_nil ?_
    refine go_seq ?_
    refine go_condI (fun h8 => ?_) (fun h8 => ?_)
    · have c8 : (decide ((i : Int) < (l.length : Int))) = true := h8
      try simp only [sC, bne_iff_ne, beq_iff_eq, ne_eq] at c8
      refine go_skip ?_
      refine go_seq ?_
      refine go_block ?_
      refine go_seq ?_
      refine go_openRow (l := l) (a := a_l) (bt := 24) (F := cpCells) (E := cpE) (d := cp0) mm_ (fun hl1 hA1 => ?_)
      refine go_elem (l := l) (a := a_l) (bt := 24) (F := cpCells) (E := cpE) (d := cp0) mm_ i (by omega) ?_
      refine go_region ⟨_, Try.func83⟩ rfl ?_
      obtain ⟨bk2, o2, hav2⟩ := hA1 (by omega)
      refine q0 rfl (o_ixN ?_ (j := i))
      refine q0 rfl (o_ldCC ?_)
      refine q0 rfl (o_assign ?_)
      refine rg_nil ?_
      refine go_seq ?_
      refine go_region ⟨_, Try.func83⟩ rfl ?_
      refine q0 rfl (o_move ?_)
      refine q0 rfl (o_call Try.call73 (formRight_spec (((l).getD i cp0).1) (((l).getD i cp0).2) ) (fun x12 => ?_))
      refine q0 rfl (o_not ?_)
      refine rg_nil ?_
      refine go_condI (fun h13 => ?_) (fun h13 => ?_)
      · have c13 : (!(fRight (((l).getD i cp0).1))) = true := h13
        try simp only [sC, bne_iff_ne, beq_iff_eq, ne_eq] at c13
        refine go_seq ?_
        refine go_region ⟨_, Try.func83⟩ rfl ?_
        refine q0 rfl (o_assign ?_)
        refine rg_nil ?_
        refine ret1 Try.func83 Try.results83 wn_ () (by rw [if_neg (by rw [all_false_at (d := cp0) (i := i) (by omega) (by simpa using h13)]; decide)]) (fun w hs => hs.none)
      · have c13 : (!(fRight (((l).getD i cp0).1))) = false := h13
        try simp only [sC, bne_iff_ne, beq_iff_eq, ne_eq] at c13
        refine go_skip ?_
        refine go_inBlock ?_
        refine go_region ⟨_, Try.func83⟩ rfl ?_
        refine q0 rfl (o_add ?_)
        refine q0 rfl (o_move ?_)
        refine rg_nil ?_
        refine go_state (fun w hs => ?_) (next0 (i + 1) _ (⟨by omega, fun j hj => by rcases Nat.lt_succ_iff_lt_or_eq.mp hj with h | h; exact hok j h; subst h; simpa using h13⟩) (by omega) ⟨rfl, rfl, rfl, trivial⟩)
        exact (hs.less (by simp +contextual))
    · have c8 : (decide ((i : Int) < (l.length : Int))) = false := h8
      try simp only [sC, bne_iff_ne, beq_iff_eq, ne_eq] at c8
      refine go_exit rfl ?_
      refine go_seq ?_
      refine go_region ⟨_, Try.func83⟩ rfl ?_
      refine q0 rfl (o_assign ?_)
      refine rg_nil ?_
      refine ret1 Try.func83 Try.results83 wn_ () (by rw [if_pos (all_true_of (d := cp0) (fun j hj => hok j (by omega)))]) (fun w hs => hs.none)
theorem fZero_spec   : Spec Try.prog 85 #[] [] [] (fun _ : Unit => sl (none, 0) 0) (fun _ : Unit => []) (fun _ : Unit => []) := by
  refine spec_go (args := []) Try.func85 Try.ntmps85 rfl (by exact Nat.le_of_ble_eq_true rfl) fun B hB => ?_
  refine go_seq ?_
  refine go_region ⟨_, Try.func85⟩ rfl ?_
  refine q0 rfl (o_assign ?_)
  refine rg_nil ?_
  refine go_seq ?_
  refine go_region ⟨_, Try.func85⟩ rfl ?_
  refine q0 rfl (o_assign ?_)
  refine rg_nil ?_
  refine ret1 Try.func85 Try.results85 wn_ () (by first | rfl | (simp_all; done) | (simp_all; omega)) (fun w hs => hs.none)
theorem formLift1_spec (l : List Cl) (a : SH) (c : Cl) (g4 : Nat) (f : Int) (g5 : Nat) (b : Int) (hc : u32 c) (hi : in64 f) (hib : in64 b) (hl : l.length * 8 ≤ reach) : Spec Try.prog 86 #[sl a (l.length), keyV c, .pointer (some ⟨g4, 0, none⟩), .pointer (some ⟨g5, 0, none⟩)] [At g4 0 [.int .i64 (f)], At g5 0 [.int .i64 (b)]] [rowS 2 53 a (l.length) (clFlat l)] (fun x : SH => .tuple #[sl x (l.length + 1), .int .i64 (clLift c f b).1]) (fun x : SH => []) (fun x : SH => [rowS 2 53 x (l.length + 1) (clFlat (l ++ [(clLift c f b).2]))]) := by
  refine spec_go (args := [sl a (l.length), keyV c, .pointer (some ⟨g4, 0, none⟩), .pointer (some ⟨g5, 0, none⟩)]) Try.func86 Try.ntmps86 rfl (by exact Nat.le_of_ble_eq_true rfl) fun B hB => ?_
  have hu9 := clLift_u32 c f b
  refine go_seq ?_
  refine go_region ⟨_, Try.func86⟩ rfl ?_
  refine q0 rfl (o_box fun b5 => ?_)
  refine q0 rfl (o_assign ?_)
  refine q0 rfl (o_assign ?_)
  refine rg_nil ?_
  refine go_seq ?_
  refine go_region ⟨_, Try.func86⟩ rfl ?_
  refine q0 rfl (o_lds ?_)
  refine q0 rfl (o_ldg ?_)
  refine q0 rfl (o_ldg ?_)
  refine q0 rfl (o_call Try.call87 (clLift_spec c f b om_ om_ om_) (fun x14 => ?_))
  refine q0 rfl (o_move ?_)
  refine q0 rfl (o_extract ?_)
  refine q0 rfl (o_extract ?_)
  refine q0 rfl (o_new fun b8 => ?_)
  refine q0 rfl (o_st ?_)
  refine q0 rfl (o_assign ?_)
  refine rg_nil ?_
  refine go_seq ?_
  refine go_region ⟨_, Try.func86⟩ rfl ?_
  refine q0 rfl (o_move ?_)
  refine q0 rfl (o_lds ?_)
  refine q0 rfl (o_lit1 fun b19 => ?_)
  refine q0 rfl (o_appS (fun a20 => ?_) (a := a) (n' := l.length))
  refine rg_state (fun w hs => ((hs.perm perm1).drop).snocC (c := ((clLift c f b).2))) ?_
  refine q0 rfl (o_move ?_)
  refine q0 rfl (o_assign ?_)
  refine q0 rfl (o_assign ?_)
  refine rg_nil ?_
  refine ret2 Try.func86 Try.results86 wn_ wn_ a20 rfl (fun w hs => ((hs.less (by simp)).dropR (A := [_])))
set_option maxHeartbeats 4000000 in
theorem foldLift_spec (l : List Cl) (a_l : SH) (f b : Int) (g4 g5 : Nat) (hi : in64 f) (hib : in64 b) : Spec Try.prog 84 #[sl a_l (l.length), sl (none, 0) (0), .func (.func 86) #[] [.pointer (some ⟨g4, 0, none⟩), .pointer (some ⟨g5, 0, none⟩)].toArray] [CL l a_l, At g4 0 [.int .i64 f], At g5 0 [.int .i64 b]] [rowS 2 53 (none, 0) (0) (clFlat ([]))] (fun x : SH => .tuple #[sl x (foldC (fun c => clLift c f b) l).2.length, .int .i64 (foldC (fun c => clLift c f b) l).1]) (fun x : SH => []) (fun x : SH => [rowS 2 53 x (foldC (fun c => clLift c f b) l).2.length (clFlat (foldC (fun c => clLift c f b) l).2)]) := by
  rw [show (#[sl a_l (l.length), sl (none, 0) (0), .func (.func 86) #[] [.pointer (some ⟨g4, 0, none⟩), .pointer (some ⟨g5, 0, none⟩)].toArray] : Array Value) = ([sl a_l (l.length), sl (none, 0) (0), .func (.func 86) #[] [.pointer (some ⟨g4, 0, none⟩), .pointer (some ⟨g5, 0, none⟩)].toArray] : List Value).toArray from rfl]
  refine spec_go Try.func84 Try.ntmps84 rfl (by exact Nat.le_of_ble_eq_true rfl) fun B hB => ?_
  refine go_openCL (l := l) (a := a_l) (fun hl1 hA1 hU1 => ?_)
  refine go_seq ?_
  refine go_region ⟨_, Try.func84⟩ rfl ?_
  refine q0 rfl (o_assign ?_)
  refine q0 rfl (o_assign ?_)
  refine rg_nil ?_
  refine go_seq ?_
  refine go_seq ?_
  refine go_region ⟨_, Try.func84⟩ rfl ?_
  refine q0 rfl (o_move ?_)
  refine q0 rfl (o_len ?_)
  refine q0 rfl (o_move ?_)
  refine rg_nil ?_
  refine go_block ?_
  refine go_loopE (X := Nat × SH) (fun s_ => s_.1 ≤ l.length ∧ ∀ j, j < s_.1 → (clLift (l.getD j cl0) f b).1 = 0) (fun s_ => [(1, sl s_.2 (s_.1)), (2, .func (.func 86) #[] [.pointer (some ⟨g4, 0, none⟩), .pointer (some ⟨g5, 0, none⟩)].toArray), (13, sl a_l (l.length)), (14, .int .i64 ((l.length : Int))), (15, .int .i64 ((s_.1 : Int)))]) (fun s_ G_ => G_) (fun s_ => [rowS 2 53 s_.2 (s_.1) (clFlat ((l.take s_.1).map fun c => (clLift c f b).2))]) (fun s_ => l.length - s_.1) (0, (none, 0)) (⟨Nat.zero_le _, fun j hj => absurd hj (Nat.not_lt_zero _)⟩) (by exact ⟨rfl, rfl, rfl, rfl, rfl, trivial⟩) ?_ ?_
  · exact fun w hs => hs
  · intro ⟨i, a⟩ base0 ⟨hi9, hok⟩ next0
    dsimp only at  hi9  hok  next0 ⊢
    refine go_seq ?_
    refine go_region ⟨_, Try.func84⟩ rfl ?_
    refine q0 rfl (o_lss ?_)
    refine rg_nil ?_
    refine go_seq ?_
    refine go_condI (fun h16 => ?_) (fun h16 => ?_)
    · have c16 : (decide ((i : Int) < (l.length : Int))) = true := h16
      try simp only [sC, bne_iff_ne, beq_iff_eq, ne_eq] at c16
      have hlt9 : ((l.take i).map fun c => (clLift c f b).2).length = i := by rw [List.length_map, List.length_take]; omega
      refine go_skip ?_
      refine go_seq ?_
      refine go_block ?_
      refine go_seq ?_
      refine go_region ⟨_, Try.func84⟩ rfl ?_
      obtain ⟨bk2, o2, hav2⟩ := hA1 (by omega)
      refine q0 rfl (o_ixN ?_ (j := i))
      refine q0 rfl (o_ldC ?_)
      refine q0 rfl (o_new fun b9 => ?_)
      refine q0 rfl (o_st ?_)
      refine rg_nil ?_
      refine go_seq ?_
      refine go_region ⟨_, Try.func84⟩ rfl ?_
      refine q0 rfl (o_move ?_)
      refine q0 rfl (o_move ?_)
      refine q0 rfl (o_lds ?_)
      refine q0 rfl (o_callC Try.call86 ((by have h := formLift1_spec ((l.take i).map fun c => (clLift c f b).2) a (l.getD i cl0) g4 f g5 b (hU1 _ (getD_mem (by omega))) hi hib (by rw [hlt9]; unfold reach at *; omega); rw [hlt9] at h; exact h)) (cap := [.pointer (some ⟨g4, 0, none⟩), .pointer (some ⟨g5, 0, none⟩)]) (fun x23 => ?_))
      refine q0 rfl (o_move ?_)
      refine q0 rfl (o_extract ?_)
      refine q0 rfl (o_extract ?_)
      refine q0 rfl (o_assign ?_)
      refine q0 rfl (o_assign ?_)
      refine rg_nil ?_
      refine go_seq ?_
      refine go_seq ?_
      refine go_region ⟨_, Try.func84⟩ rfl ?_
      refine q0 rfl (o_move ?_)
      refine q0 rfl (o_neI ?_)
      refine rg_nil ?_
      refine go_condI (fun h27 => ?_) (fun h27 => ?_)
      · have c27 : (decide (((clLift (l.getD i cl0) f b).1) ≠ 0)) = true := h27
        try simp only [sC, bne_iff_ne, beq_iff_eq, ne_eq] at c27
        refine go_seq ?_
        refine go_region ⟨_, Try.func84⟩ rfl ?_
        refine q0 rfl (o_assign ?_)
        refine rg_nil ?_
        refine go_seq ?_
        refine go_region ⟨_, Try.func84⟩ rfl ?_
        refine q0 rfl (o_move ?_)
        refine q0 rfl (o_move ?_)
        refine q0 rfl (o_assign ?_)
        refine q0 rfl (o_assign ?_)
        refine rg_nil ?_
        have hg : (foldC (fun c => clLift c f b) l) = ((clLift (l.getD i cl0) f b).1, []) := foldC_bad (by omega) hok (by simpa using h27)
        refine ret2 Try.func84 Try.results84 wn_ wn_ (none, 0) (by rw [hg]; rfl) (fun w hs => by rw [hg]; exact ((hs.less (Γ' := []) (by simp)).bare.rowS0 2 53))
      · have c27 : (decide (((clLift (l.getD i cl0) f b).1) ≠ 0)) = false := h27
        try simp only [sC, bne_iff_ne, beq_iff_eq, ne_eq] at c27
        refine go_skip ?_
        refine go_region ⟨_, Try.func84⟩ rfl ?_
        refine q0 rfl (o_move ?_)
        refine q0 rfl (o_assign ?_)
        refine rg_nil ?_
        refine go_inBlock ?_
        refine go_region ⟨_, Try.func84⟩ rfl ?_
        refine q0 rfl (o_add ?_)
        refine q0 rfl (o_move ?_)
        refine rg_nil ?_
        have hst : (l.take (i + 1)).map (fun c => (clLift c f b).2) = (l.take i).map (fun c => (clLift c f b).2) ++ [(clLift (l.getD i cl0) f b).2] := by rw [take_succ_getD (d := cl0) (by omega), List.map_append]; rfl
        refine go_state (fun w hs => ?_) (next0 (i + 1, x23) _ (⟨by omega, fun j hj => by rcases Nat.lt_succ_iff_lt_or_eq.mp hj with h | h; exact hok j h; subst h; simpa using h27⟩) (by omega) ⟨rfl, rfl, rfl, rfl, rfl, trivial⟩)
        rw [hst]
        exact ((hs.less (by simp +contextual)).dropR (A := [_]))
    · have c16 : (decide ((i : Int) < (l.length : Int))) = false := h16
      try simp only [sC, bne_iff_ne, beq_iff_eq, ne_eq] at c16
      refine go_exit rfl ?_
      refine go_seq ?_
      refine go_region ⟨_, Try.func84⟩ rfl ?_
      refine q0 rfl (o_move ?_)
      refine q0 rfl (o_assign ?_)
      refine q0 rfl (o_assign ?_)
      refine rg_nil ?_
      have he : i = l.length := by omega
      have hg : (foldC (fun c => clLift c f b) l) = (0, l.map fun c => (clLift c f b).2) := foldC_ok (fun j hj => hok j (by omega))
      refine ret2 Try.func84 Try.results84 wn_ wn_ a (by rw [hg, List.length_map, ← he]; rfl) (fun w hs => by rw [hg]; have h := (hs.less (Γ' := []) (by simp)); rw [he, List.take_length] at h; dsimp only; rw [List.length_map]; exact h)
theorem leastRow (l : List Cl) (a : SH) : Spec Try.prog 79 #[sl a l.length] [CL l a] [] (fun x : SH => .tuple #[sl x (leastF l).2.length, .int .i64 (leastF l).1]) (fun _ => []) (fun x => [rowS 2 53 x (leastF l).2.length (clFlat (leastF l).2)]) := fun ok w hok hs => (least_own l a ok w hok hs).mono fun e w' h => by
  obtain ⟨x, he, hs'⟩ := h
  have hx := leastIs_eq x.2
  exact ⟨x.1.1, by rw [he]; show Ending.returned (.tuple #[sl x.1.1 x.1.2.2.length, .int .i64 x.1.2.1]) = Ending.returned (.tuple #[sl x.1.1 (leastF l).2.length, .int .i64 (leastF l).1]); rw [hx], by rw [← hx]; exact hs'⟩
theorem formLift_spec (l : List Cl) (a_l : SH) (f : Int) (b : Int) (hi : in64 f) (hib : in64 b) : Spec Try.prog 76 #[sl a_l (l.length), .int .i64 (f), .int .i64 (b)] [CL l a_l] [] (fun x : SH => .tuple #[sl x (formLift l f b).2.length, .int .i64 (formLift l f b).1]) (fun x : SH => []) (fun x : SH => [rowS 2 53 x (formLift l f b).2.length (clFlat (formLift l f b).2)]) := by
  refine spec_go (args := [sl a_l (l.length), .int .i64 (f), .int .i64 (b)]) Try.func76 Try.ntmps76 rfl (by exact Nat.le_of_ble_eq_true rfl) fun B hB => ?_
  refine go_openCL (l := l) (a := a_l) (fun hl1 hA1 hU1 => ?_)
  refine go_seq ?_
  refine go_region ⟨_, Try.func76⟩ rfl ?_
  refine q0 rfl (o_box fun b4 => ?_)
  refine q0 rfl (o_box fun b5 => ?_)
  refine q0 rfl (o_assign ?_)
  refine q0 rfl (o_assign ?_)
  refine rg_nil ?_
  refine go_seq ?_
  refine go_seq ?_
  refine go_region ⟨_, Try.func76⟩ rfl ?_
  refine q0 rfl (o_move ?_)
  refine q0 rfl (o_lit1 fun b12 => ?_)
  refine rg_state (fun w hs => ((((hs.perm perm2).perm perm2).perm perm2).litCC hB mf_)) ?_
  refine q0 rfl (o_call Try.call83 (forms_spec [(l, a_l)] (some ⟨b12, 0, none⟩, 1)) (fun x13 => ?_))
  refine q0 rfl (o_assign ?_)
  refine rg_nil ?_
  refine go_seq ?_
  refine go_region ⟨_, Try.func76⟩ rfl ?_
  refine q0 rfl (o_move ?_)
  refine q0 rfl (o_neI ?_)
  refine rg_nil ?_
  refine go_condI (fun h15 => ?_) (fun h15 => ?_)
  · have c15 : (decide ((if [(l, a_l)].all (fun p => fRight p.1) then (0 : Int) else 2) ≠ 0)) = true := h15
    try simp only [sC, bne_iff_ne, beq_iff_eq, ne_eq] at c15
    have hg : formLift l f b = (2, []) := by rw [formLift, if_pos (by simpa using h15)]
    have h9 : (if [(l, a_l)].all (fun p => fRight p.1) then (0 : Int) else 2) = 2 := by simpa using h15
    refine go_seq ?_
    refine go_region ⟨_, Try.func76⟩ rfl ?_
    refine q0 rfl (o_move ?_)
    refine q0 rfl (o_assign ?_)
    refine q0 rfl (o_assign ?_)
    refine rg_nil ?_
    refine ret2 Try.func76 Try.results76 wn_ wn_ (none, 0) (by rw [hg]; (conv => lhs; whnf; rw [h9]); rfl) (fun w hs => by rw [hg]; exact ((hs.less (Γ' := []) (by simp)).bare.rowS0 2 53))
  · have c15 : (decide ((if [(l, a_l)].all (fun p => fRight p.1) then (0 : Int) else 2) ≠ 0)) = false := h15
    try simp only [sC, bne_iff_ne, beq_iff_eq, ne_eq] at c15
    have hr : ¬ fRight l = false := by simpa using h15
    refine go_skip ?_
    refine go_seq ?_
    refine go_ms (Ms' := [boxR b5 [.int .i64 (b)] 3, boxR b4 [.int .i64 (f)] 3]) (by rfl) ?_
    refine go_state (fun w hs => ((hs.perm perm1).settleBox hB)) ?_
    refine go_state (fun w hs => (hs.settleBox hB)) ?_
    refine go_state (fun w hs => hs.rowS0 2 53) ?_
    refine go_region ⟨_, Try.func76⟩ rfl ?_
    refine q0 rfl (o_move ?_)
    refine q0 rfl (o_call Try.call85 (fZero_spec ) (fun x19 => ?_))
    refine q0 rfl (o_func ?_)
    refine q0 rfl (o_call Try.call84 (foldLift_spec l a_l f b b4 b5 hi hib) (fun x21 => ?_))
    refine q0 rfl (o_move ?_)
    refine q0 rfl (o_extract ?_)
    refine q0 rfl (o_extract ?_)
    refine q0 rfl (o_assign ?_)
    refine q0 rfl (o_assign ?_)
    refine rg_nil ?_
    refine go_seq ?_
    refine go_seq ?_
    refine go_region ⟨_, Try.func76⟩ rfl ?_
    refine q0 rfl (o_move ?_)
    refine q0 rfl (o_neI ?_)
    refine rg_nil ?_
    refine go_condI (fun h25 => ?_) (fun h25 => ?_)
    · have c25 : (decide (((foldC (fun c => clLift c f b) l).1) ≠ 0)) = true := h25
      try simp only [sC, bne_iff_ne, beq_iff_eq, ne_eq] at c25
      have hg : formLift l f b = ((foldC (fun c => clLift c f b) l).1, []) := by rw [formLift, if_neg hr, if_pos (by simpa using h25)]
      refine go_seq ?_
      refine go_region ⟨_, Try.func76⟩ rfl ?_
      refine q0 rfl (o_move ?_)
      refine q0 rfl (o_assign ?_)
      refine q0 rfl (o_assign ?_)
      refine rg_nil ?_
      refine ret2 Try.func76 Try.results76 wn_ wn_ (none, 0) (by rw [hg]; rfl) (fun w hs => by rw [hg]; exact ((hs.less (Γ' := []) (by simp)).bare.rowS0 2 53))
    · have c25 : (decide (((foldC (fun c => clLift c f b) l).1) ≠ 0)) = false := h25
      try simp only [sC, bne_iff_ne, beq_iff_eq, ne_eq] at c25
      have hg : formLift l f b = leastF (foldC (fun c => clLift c f b) l).2 := by rw [formLift, if_neg hr, if_neg (by simpa using h25)]
      refine go_skip ?_
      refine go_seq ?_
      refine go_state (fun w hs => (hs.settleCL hB rfl rfl (by have := foldC_len (g := fun c => clLift c f b) (l := l); omega) (foldC_u32 (fun c => clLift_u32 c f b)))) ?_
      refine go_region ⟨_, Try.func76⟩ rfl ?_
      refine q0 rfl (o_move ?_)
      refine q0 rfl (o_call Try.call79 (leastRow (foldC (fun c => clLift c f b) l).2 x21) (fun x28 => ?_))
      refine q0 rfl (o_extract ?_)
      refine q0 rfl (o_extract ?_)
      refine q0 rfl (o_assign ?_)
      refine q0 rfl (o_assign ?_)
      refine rg_nil ?_
      refine ret2 Try.func76 Try.results76 wn_ wn_ x28 (by rw [hg]; rfl) (fun w hs => by rw [hg]; exact (hs.less (by simp)))
end Go.Hy
namespace Go.Hy
set_option linter.unusedVariables false
set_option linter.unusedSimpArgs false
set_option linter.unusedSectionVars false
open Go.Proofs
set_option linter.unusedVariables false
set_option linter.unusedSimpArgs false
set_option maxRecDepth 100000
def tys : Tys := ⟨53, 26, 63⟩
end Go.Hy
namespace Go.Hy
set_option linter.unusedVariables false
set_option linter.unusedSimpArgs false
set_option linter.unusedSectionVars false
open Go.Proofs
set_option linter.unusedVariables false
set_option linter.unusedSimpArgs false
set_option maxRecDepth 100000
theorem liftRow_spec (vb db : Int) (l : List Cl) (a_l : SH) (f : Int) (hb : in64 db) (hi : in64 f) : SpecR Try.prog 29 60 #[.agg ([.int .i64 (vb), .int .i64 (db)] : List Value).toArray, sl a_l (l.length), .int .i64 (f)] [CL l a_l] (rowLift db l f) (fun (g : List Cl) => fun x : SH => sl x g.length) (fun (g : List Cl) => fun x : SH => []) (fun (g : List Cl) => fun x : SH => [rowS 2 53 x g.length (clFlat g)]) := by
  refine specR_go (args := [.agg ([.int .i64 (vb), .int .i64 (db)] : List Value).toArray, sl a_l (l.length), .int .i64 (f)]) Try.func60 Try.ntmps60 rfl (by exact Nat.le_of_ble_eq_true rfl) fun B hB => ?_
  refine go_openCL (l := l) (a := a_l) (fun hl1 hA1 hU1 => ?_)
  refine go_seq ?_
  refine go_region ⟨_, Try.func60⟩ rfl ?_
  refine q0 rfl (o_box fun b3 => ?_)
  refine q0 rfl (o_assign ?_)
  refine rg_nil ?_
  refine go_seq ?_
  refine go_seq ?_
  refine go_cutS ([(1, sl a_l (l.length)), (2, .int .i64 (f)), (3, .pointer (some ⟨b3, 0, none⟩)), (15, .bool ((decide (db = 0)) || (decide (24 ≤ f))))]) (fun hK => ?_) (fun base => ?_)
  · refine go_region ⟨_, Try.func60⟩ rfl ?_
    refine q0 rfl (o_fa ?_)
    refine q0 rfl (o_ld ?_)
    refine q0 rfl (o_eqI ?_)
    refine q0 rfl (o_move ?_)
    refine qI rfl rfl rfl wl_ (fun hg12 => ?_) (fun hg12 => ?_)
    · have g12 : (decide (db = 0)) = false := hg12
      try simp only [sC, bne_iff_ne, beq_iff_eq, ne_eq] at g12
      refine o_move ?_
      refine qT rfl rfl rfl (o_geq ?_)
      refine q0 rfl (o_pickF ?_)
      refine rg_nil ?_
      exact hK _ ⟨rfl, rfl, rfl, dn_, trivial⟩
    · have g12 : (decide (db = 0)) = true := hg12
      try simp only [sC, bne_iff_ne, beq_iff_eq, ne_eq] at g12
      refine qF rfl rfl rfl ?_
      refine q0 rfl (o_pickT ?_)
      refine rg_nil ?_
      exact hK _ ⟨rfl, rfl, rfl, dn_, trivial⟩
  · refine go_condI (fun h15 => ?_) (fun h15 => ?_)
    · have c15 : ((decide (db = 0)) || (decide (24 ≤ f))) = true := h15
      try simp only [sC, bne_iff_ne, beq_iff_eq, ne_eq] at c15
      have hg : rowLift db l f = .ok l := by rw [rowLift, if_pos (by simp at h15; exact h15)]
      refine go_seq ?_
      refine go_region ⟨_, Try.func60⟩ rfl ?_
      refine q0 rfl (o_move ?_)
      refine rg_state (fun w hs => hs.rowS0 2 53) ?_
      refine q0 rfl (o_appCL (fun a17 => ?_) (by simp) (a := (none, 0)) (n' := 0) (b := a_l) (ls := l))
      refine rg_state (fun w hs => hs.appFlatC (l := []) (m := l)) ?_
      refine q0 rfl (o_assign ?_)
      refine rg_nil ?_
      refine go_ok (a := l) (hg) ?_
      refine ret1 Try.func60 Try.results60 wn_ a17 (by (conv => lhs; whnf); first | rfl | (rw [Nat.zero_add]; rfl)) (fun w hs => by have h := ((hs.less (Γ' := []) (by simp)).dropR (A := [_])); simpa only [Nat.zero_add, List.nil_append] using h)
    · have c15 : ((decide (db = 0)) || (decide (24 ≤ f))) = false := h15
      try simp only [sC, bne_iff_ne, beq_iff_eq, ne_eq] at c15
      have hn : ¬ (db = 0 ∨ 24 ≤ f) := by simp at h15; omega
      refine go_skip ?_
      refine go_seq ?_
      refine go_region ⟨_, Try.func60⟩ rfl ?_
      refine q0 rfl (o_move ?_)
      refine q0 rfl (o_move ?_)
      refine q0 rfl (o_fa ?_)
      refine q0 rfl (o_ld ?_)
      refine q0 rfl (o_call Try.call76 (formLift_spec l a_l f db om_ om_) (fun x23 => ?_))
      refine q0 rfl (o_move ?_)
      refine q0 rfl (o_extract ?_)
      refine q0 rfl (o_extract ?_)
      refine q0 rfl (o_assign ?_)
      refine q0 rfl (o_assign ?_)
      refine rg_nil ?_
      refine go_seq ?_
      refine go_seq ?_
      refine go_region ⟨_, Try.func60⟩ rfl ?_
      refine q0 rfl (o_move ?_)
      refine q0 rfl (o_neI ?_)
      refine rg_nil ?_
      refine go_condI (fun h27 => ?_) (fun h27 => ?_)
      · have c27 : (decide (((formLift l f db).1) ≠ 0)) = true := h27
        try simp only [sC, bne_iff_ne, beq_iff_eq, ne_eq] at c27
        have hg : rowLift db l f = .bad (formLift l f db).1 := by rw [rowLift, if_neg hn, if_neg (by simpa using h27)]
        refine go_region ⟨_, Try.func60⟩ rfl ?_
        refine q0 rfl (o_move ?_)
        refine q0 rfl (o_makeI ?_)
        refine q0 rfl (o_panic (endsR_bad (hg)))
      · have c27 : (decide (((formLift l f db).1) ≠ 0)) = false := h27
        try simp only [sC, bne_iff_ne, beq_iff_eq, ne_eq] at c27
        have hg : rowLift db l f = .ok (formLift l f db).2 := by rw [rowLift, if_neg hn, if_pos (by simpa using h27)]
        refine go_skip ?_
        refine go_seq ?_
        refine go_region ⟨_, Try.func60⟩ rfl ?_
        refine q0 rfl (o_move ?_)
        refine q0 rfl (o_assign ?_)
        refine rg_nil ?_
        refine go_ok (a := (formLift l f db).2) (hg) ?_
        refine ret1 Try.func60 Try.results60 wn_ x23 rfl (fun w hs => ((hs.less (by simp)).dropR (A := [_])))
abbrev LiftO (vb db : Int) (t : T) : Prop := ∀ (vr vk vs : SH) (v d : Int), (0 ≤ vb ∧ vb ≤ 1000000) → in64 db → (-1000000000000 ≤ v ∧ v + size t ≤ 4000000000000000000) → (0 ≤ d ∧ d + size t ≤ 4000000000000000000) → SpecR Try.prog 29 34 #[.agg ([.int .i64 vb, .int .i64 db] : List Value).toArray, .agg (tc t vr vk vs).toArray, .int .i64 v, .int .i64 d] [RT t vr vk vs] (trav (liftTr vb db) t (v, d)) (fun (u : T) => fun x : {h : HT // h.er = u} => .agg (tc u x.1.vr x.1.vk x.1.vs).toArray) (fun _ _ => []) (fun (u : T) => fun x : {h : HT // h.er = u} => [bigR (treeR tys x.1)])
set_option maxHeartbeats 4000000 in
theorem liftT_walk (vb db : Int) (t : T) (vr_t vk_t vs_t : SH) (v : Int) (d : Int) (ihk : ∀ k, k ∈ t.kids → LiftO vb db k) (ihs : ∀ b, b ∈ t.sys → ∀ k, k ∈ b.kids → LiftO vb db k) (hvb : 0 ≤ vb ∧ vb ≤ 1000000) (hdb : in64 db) (hv : -1000000000000 ≤ v ∧ v + size t ≤ 4000000000000000000) (hd : 0 ≤ d ∧ d + size t ≤ 4000000000000000000) : SpecR Try.prog 29 34 #[.agg ([.int .i64 (vb), .int .i64 (db)] : List Value).toArray, .agg (tc t vr_t vk_t vs_t).toArray, .int .i64 (v), .int .i64 (d)] [RT t vr_t vk_t vs_t] (trav (liftTr vb db) t (v, d)) (fun (u : T) => fun x : {h : HT // h.er = u} => .agg (tc u x.1.vr x.1.vk x.1.vs).toArray) (fun (u : T) => fun x : {h : HT // h.er = u} => []) (fun (u : T) => fun x : {h : HT // h.er = u} => [bigR (treeR tys x.1)]) := by
  refine specR_go (args := [.agg ([.int .i64 (vb), .int .i64 (db)] : List Value).toArray, .agg (tc t vr_t vk_t vs_t).toArray, .int .i64 (v), .int .i64 (d)]) Try.func34 Try.ntmps34 rfl (by exact Nat.le_of_ble_eq_true rfl) fun B hB => ?_
  refine go_open (t := t) (vr := vr_t) (vk := vk_t) (vs := vs_t) (fun hk1 hn1 hm1 => ?_)
  refine go_openCL (l := (t).r) (a := vr_t) (fun hl2 hA2 hU2 => ?_)
  refine go_openTL (ts := (t).kids) (a := vk_t) (fun VR3 VK3 VS3 hl3 hA3 => ?_)
  refine go_openBL (bs := (t).sys) (a := vs_t) (fun VF4 VK4 hl4 hA4 => ?_)
  have hpz := size_pos' t
  refine go_seq ?_
  refine go_region ⟨_, Try.func34⟩ rfl ?_
  refine q0 rfl (o_box fun b4 => ?_)
  refine q0 rfl (o_box fun b5 => ?_)
  refine q0 rfl (o_new fun b8 => ?_)
  refine rg_nil ?_
  refine go_seq ?_
  refine go_res (rowLift db t.r d) (fun g1_10 hg1_10 => ?_) (fun e1_10 he1_10 => ?_)
  · refine go_draw (pn := 1000000) (tn := false) (A := [0, 1, 0, 4, 0, 16, 0, 0, 128, 0, 960, 2047, 0, 8191]) (l := [0, 1, 2, 3, 4, 5, 6, 7, 8, 9, 10, 11, 12]) (fin := [13]) Tab.mixed ⟨_, Try.func34⟩ (by rfl) ?_
    refine n0 rfl (v_fa ?_)
    refine n0 rfl (v_ld ?_)
    refine n0 rfl (v_fa ?_)
    refine n0 rfl (v_ld ?_)
    refine n0 rfl (v_fa ?_)
    refine n0 rfl (v_ld ?_)
    refine n0 rfl (v_lds ?_)
    refine n0 rfl (v_fa ?_)
    refine n0 rfl (v_ld ?_)
    refine n0 rfl (v_move ?_)
    refine n0 rfl (v_call Try.call60 ((liftRow_spec vb db ((t).r) vr_t d om_ om_).1 g1_10 hg1_10) (fun x30 => ?_))
    refine n0 rfl (v_build (cs := [.int .i64 ((t).kind), .int .i64 ((t).n), .string ((t).name), sl x30 (g1_10.length), sl (none, 0) (0), sl (none, 0) (0)]) ?_)
    refine n0 rfl (v_new fun b9 => ?_)
    refine NV.done ?_
    refine q0 rfl (o_st ?_)
    refine rg_nil ?_
    refine go_seq ?_
    refine go_seq ?_
    refine go_cutS ([(2, .int .i64 (v)), (3, .int .i64 (d)), (4, .pointer (some ⟨b4, 0, none⟩)), (5, .pointer (some ⟨b5, 0, none⟩)), (8, .pointer (some ⟨b8, 0, none⟩)), (9, .pointer (some ⟨b9, 0, none⟩)), (40, .bool ((decide (((t).kind) = 1)) && (decide (v ≤ ((t).n)))))]) (fun hK => ?_) (fun base => ?_)
    · refine go_region ⟨_, Try.func34⟩ rfl ?_
      refine q0 rfl (o_fa ?_)
      refine q0 rfl (o_ld ?_)
      refine q0 rfl (o_eqI ?_)
      refine q0 rfl (o_move ?_)
      refine qI rfl rfl rfl wl_ (fun hg35 => ?_) (fun hg35 => ?_)
      · have g35 : (decide (((t).kind) = 1)) = true := hg35
        try simp only [sC, bne_iff_ne, beq_iff_eq, ne_eq] at g35
        refine o_fa ?_
        refine qT rfl rfl rfl (o_ld ?_)
        refine qT rfl rfl rfl (o_move ?_)
        refine qT rfl rfl rfl (o_geq ?_)
        refine q0 rfl (o_pickT ?_)
        refine rg_nil ?_
        exact hK _ ⟨rfl, rfl, rfl, rfl, rfl, rfl, dn_, trivial⟩
      · have g35 : (decide (((t).kind) = 1)) = false := hg35
        try simp only [sC, bne_iff_ne, beq_iff_eq, ne_eq] at g35
        refine qF rfl rfl rfl ?_
        refine qF rfl rfl rfl ?_
        refine qF rfl rfl rfl ?_
        refine q0 rfl (o_pickF ?_)
        refine rg_nil ?_
        exact hK _ ⟨rfl, rfl, rfl, rfl, rfl, rfl, dn_, trivial⟩
    · refine go_cutR (Ms' := [boxR b9 [.int .i64 ((t).kind), .int .i64 (liftN vb v t.kind t.n), .string ((t).name), sl x30 (g1_10.length), sl (none, 0) (0), sl (none, 0) (0)] 26, rowS 2 53 x30 (g1_10.length) (clFlat g1_10), boxR b8 [.int .i64 (0), .int .i64 (0), .string ((ByteArray.mk #[])), sl (none, 0) (0), sl (none, 0) (0), sl (none, 0) (0)] 26, boxR b5 (tc t vr_t vk_t vs_t) 26, boxR b4 [.int .i64 (vb), .int .i64 (db)] 59]) (¬ (t.kind = 1 ∧ v ≤ t.n ∧ 1000000000 - vb < t.n)) ([(2, .int .i64 (v)), (3, .int .i64 (d)), (4, .pointer (some ⟨b4, 0, none⟩)), (5, .pointer (some ⟨b5, 0, none⟩)), (8, .pointer (some ⟨b8, 0, none⟩)), (9, .pointer (some ⟨b9, 0, none⟩))]) (fun hK => ?_) (fun hfar base => ?_)
      · refine go_condI (fun h40 => ?_) (fun h40 => ?_)
        · have c40 : ((decide (((t).kind) = 1)) && (decide (v ≤ ((t).n)))) = true := h40
          try simp only [sC, bne_iff_ne, beq_iff_eq, ne_eq] at c40
          refine go_seq ?_
          refine go_seq ?_
          refine go_region ⟨_, Try.func34⟩ rfl ?_
          refine q0 rfl (o_fa ?_)
          refine q0 rfl (o_ld ?_)
          refine q0 rfl (o_fa ?_)
          refine q0 rfl (o_ld ?_)
          refine q0 rfl (o_sub ?_)
          refine q0 rfl (o_gtr ?_)
          refine rg_nil ?_
          refine go_condI (fun h46 => ?_) (fun h46 => ?_)
          · have c46 : (decide ((1000000000 - vb) < ((t).n))) = true := h46
            try simp only [sC, bne_iff_ne, beq_iff_eq, ne_eq] at c46
            refine go_region ⟨_, Try.func34⟩ rfl ?_
            refine q0 rfl (o_makeI ?_)
            refine q0 rfl (o_panic (endsR_bad (trav_own_bad (lift_own_far hg1_10 (by omega)))))
          · have c46 : (decide ((1000000000 - vb) < ((t).n))) = false := h46
            try simp only [sC, bne_iff_ne, beq_iff_eq, ne_eq] at c46
            refine go_skip ?_
            refine go_region ⟨_, Try.func34⟩ rfl ?_
            refine q0 rfl (o_fa ?_)
            refine q0 rfl (o_ld ?_)
            refine q0 rfl (o_fa ?_)
            refine q0 rfl (o_ld ?_)
            refine q0 rfl (o_add ?_)
            refine q0 rfl (o_fa ?_)
            refine q0 rfl (o_stc ?_)
            refine rg_nil ?_
            refine go_ms (Ms' := [boxR b9 [.int .i64 ((t).kind), .int .i64 (liftN vb v t.kind t.n), .string ((t).name), sl x30 (g1_10.length), sl (none, 0) (0), sl (none, 0) (0)] 26, rowS 2 53 x30 (g1_10.length) (clFlat g1_10), boxR b8 [.int .i64 (0), .int .i64 (0), .string ((ByteArray.mk #[])), sl (none, 0) (0), sl (none, 0) (0), sl (none, 0) (0)] 26, boxR b5 (tc t vr_t vk_t vs_t) 26, boxR b4 [.int .i64 (vb), .int .i64 (db)] 59]) (by rw [show liftN vb v t.kind t.n = t.n + vb from if_pos (by omega)]; rfl) ?_
            refine go_state (fun w hs => (((((hs.perm perm4).perm perm4).perm perm4).perm perm4).perm perm4)) ?_
            exact hK (by omega) _ ⟨rfl, rfl, rfl, rfl, rfl, rfl, trivial⟩
        · have c40 : ((decide (((t).kind) = 1)) && (decide (v ≤ ((t).n)))) = false := h40
          try simp only [sC, bne_iff_ne, beq_iff_eq, ne_eq] at c40
          refine go_skip ?_
          refine go_ms (Ms' := [boxR b9 [.int .i64 ((t).kind), .int .i64 (liftN vb v t.kind t.n), .string ((t).name), sl x30 (g1_10.length), sl (none, 0) (0), sl (none, 0) (0)] 26, rowS 2 53 x30 (g1_10.length) (clFlat g1_10), boxR b8 [.int .i64 (0), .int .i64 (0), .string ((ByteArray.mk #[])), sl (none, 0) (0), sl (none, 0) (0), sl (none, 0) (0)] 26, boxR b5 (tc t vr_t vk_t vs_t) 26, boxR b4 [.int .i64 (vb), .int .i64 (db)] 59]) (by rw [show liftN vb v t.kind t.n = t.n from if_neg (by omega)]; rfl) ?_
          refine go_state (fun w hs => (((((hs.perm perm4).perm perm4).perm perm4).perm perm4).perm perm4)) ?_
          exact hK (by omega) _ ⟨rfl, rfl, rfl, rfl, rfl, rfl, trivial⟩
      · have hown := lift_own (vb := vb) (v := v) hg1_10 hfar
        refine go_seq ?_
        refine go_seq ?_
        refine go_region ⟨_, Try.func34⟩ rfl ?_
        refine q0 rfl (o_fa ?_)
        refine q0 rfl (o_ld ?_)
        refine q0 rfl (o_len ?_)
        refine q0 rfl (o_move ?_)
        refine rg_nil ?_
        refine go_block ?_
        refine go_loopE (X := Nat × SH × List HT) (fun s_ => s_.1 ≤ t.kids.length ∧ travL (liftTr vb db) t.kind 0 (t.kids.take s_.1) (v, d) = .ok (s_.2.2.map HT.er)) (fun s_ => [(2, .int .i64 (v)), (3, .int .i64 (d)), (4, .pointer (some ⟨b4, 0, none⟩)), (5, .pointer (some ⟨b5, 0, none⟩)), (8, .pointer (some ⟨b8, 0, none⟩)), (9, .pointer (some ⟨b9, 0, none⟩)), (55, sl vk_t ((t).kids.length)), (56, .int .i64 (((t).kids.length : Int))), (57, .int .i64 ((s_.1 : Int)))]) (fun s_ G_ => G_) (fun s_ => [bigR (kidsR tys s_.2.2), rowS 6 26 s_.2.1 (s_.1) (tpFlat (s_.2.2.map HT.tp)), boxR b9 [.int .i64 (t.kind), .int .i64 ((liftN vb v t.kind t.n)), .string (t.name), sl x30 (g1_10.length), sl s_.2.1 (s_.1), sl (none, 0) (0)] 26, rowS 2 53 x30 (g1_10.length) (clFlat g1_10), boxR b8 [.int .i64 (0), .int .i64 (0), .string ((ByteArray.mk #[])), sl (none, 0) (0), sl (none, 0) (0), sl (none, 0) (0)] 26, boxR b5 (tc t vr_t vk_t vs_t) 26, boxR b4 [.int .i64 (vb), .int .i64 (db)] 59]) (fun s_ => t.kids.length - s_.1) (0, (none, 0), []) (⟨by omega, by rw [List.take_zero, travL_nil]; rfl⟩) (by exact ⟨rfl, rfl, rfl, rfl, rfl, rfl, rfl, rfl, rfl, trivial⟩) ?_ ?_
        · exact fun w hs => ((hs.rowS0 6 26).bigNil)
        · intro ⟨i, a, ks⟩ base0 ⟨hi, hks⟩ next0
          dsimp only at  hi  hks  next0 ⊢
          refine go_seq ?_
          refine go_region ⟨_, Try.func34⟩ rfl ?_
          refine q0 rfl (o_lss ?_)
          refine rg_nil ?_
          refine go_seq ?_
          refine go_condI (fun h58 => ?_) (fun h58 => ?_)
          · have c58 : (decide ((i : Int) < ((t).kids.length : Int))) = true := h58
            try simp only [sC, bne_iff_ne, beq_iff_eq, ne_eq] at c58
            have hbi := binds_01 t.kind i
            have hsk := size_kid_lt (t := t) (i := i) (by omega)
            refine go_skip ?_
            refine go_seq ?_
            refine go_block ?_
            refine go_seq ?_
            refine go_kid (ts := (t).kids) (a := vk_t) (VR := VR3) (VK := VK3) (VS := VS3) i (by omega) ?_
            refine go_region ⟨_, Try.func34⟩ rfl ?_
            refine q0 rfl (o_move ?_)
            obtain ⟨bk5, o5, hav5⟩ := hA3 (by omega)
            refine q0 rfl (o_ixN ?_ (j := i))
            refine q0 rfl (o_ldT ?_)
            refine q0 rfl (o_new fun b11 => ?_)
            refine q0 rfl (o_assign ?_)
            refine q0 rfl (o_st ?_)
            refine rg_nil ?_
            refine go_seq ?_
            refine go_region ⟨_, Try.func34⟩ rfl ?_
            refine q0 rfl (o_fa ?_)
            refine q0 rfl (o_ld ?_)
            refine q0 rfl (o_move ?_)
            refine q0 rfl (o_call Try.call44 (binds_spec ((t).kind) (i : Int) ) (fun x66 => ?_))
            refine q0 rfl (o_move ?_)
            refine q0 rfl (o_extract ?_)
            refine q0 rfl (o_extract ?_)
            refine q0 rfl (o_assign ?_)
            refine q0 rfl (o_assign ?_)
            refine rg_nil ?_
            refine go_res (trav (liftTr vb db) (t.kids.getD i t0) ((v + (binds t.kind i).1), (d + (binds t.kind i).2))) (fun g10_10 hg10_10 => ?_) (fun e10_10 he10_10 => ?_)
            · refine go_draw (pn := 1000000) (tn := false) (A := [0, 1, 0, 0, 0, 0, 48, 0, 0, 384, 1020, 2044, 4095, 8191, 16383]) (l := [0, 1, 2, 3, 4, 5, 6, 7, 8, 9, 10, 11]) (fin := [12, 13, 14]) Tab.mixed ⟨_, Try.func34⟩ (by rfl) ?_
              refine n0 rfl (v_fa ?_)
              refine n0 rfl (v_ld ?_)
              refine n0 rfl (v_lds ?_)
              refine n0 rfl (v_lds ?_)
              refine n0 rfl (v_move ?_)
              refine n0 rfl (v_move ?_)
              refine n0 rfl (v_add ?_)
              refine n0 rfl (v_move ?_)
              refine n0 rfl (v_move ?_)
              refine n0 rfl (v_add ?_)
              refine n0 rfl (v_call Try.call34 (((ihk _ (getD_mem (show i < t.kids.length by omega))) (VR3 i) (VK3 i) (VS3 i) (v + ((binds ((t).kind) (i : Int)).1)) (d + ((binds ((t).kind) (i : Int)).2)) hvb hdb (by omega) (by omega)).1 g10_10 hg10_10) (fun x79 => ?_))
              refine n0 rfl (v_lit1 fun b80 => ?_)
              refine NV.done ?_
              refine q0 rfl (o_appS (fun a81 => ?_) (a := a) (n' := i))
              refine rg_state (fun w hs => ((hs.perm perm1).drop).snocT) ?_
              refine q0 rfl (o_fa ?_)
              refine q0 rfl (o_stc ?_)
              refine rg_nil ?_
              refine go_inBlock ?_
              refine go_region ⟨_, Try.func34⟩ rfl ?_
              refine q0 rfl (o_add ?_)
              refine q0 rfl (o_move ?_)
              refine rg_nil ?_
              refine go_state (fun w hs => ?_) (next0 (i + 1, a81, ks ++ [x79.1]) _ (⟨by omega, by rw [List.map_append, List.map_cons, List.map_nil, x79.2]; exact trav_kid_ok (by omega) hks rfl hg10_10⟩) (by (try simp only); omega) ⟨rfl, rfl, rfl, rfl, rfl, rfl, rfl, rfl, rfl, trivial⟩)
              have e1 : (ks ++ [x79.1]).map HT.tp = ks.map HT.tp ++ [(g10_10, x79.1.vr, x79.1.vk, x79.1.vs)] := by simp only [List.map_append, List.map_cons, List.map_nil, HT.tp, x79.2]
              rw [e1]; exact (((((((((((((((((((hs.less (by simp +contextual)).perm perm8).perm perm8).perm perm8).perm perm8).perm perm7).perm perm6).perm perm6).perm perm8).perm perm8).joinK).perm perm7).perm perm7).perm perm7).perm perm7).perm perm5).perm perm6).perm perm6).dropR (A := [_, _, _, _, _, _, _]))
            · refine go_draw (pn := 10) (tn := false) (A := [0, 1, 0, 0, 0, 0, 48, 0, 0, 384, 1020, 2044, 4095, 8191, 16383]) (l := [0, 1, 2, 3, 4, 5, 6, 7, 8, 9, 10, 11]) (fin := [12, 13, 14]) Tab.mixed ⟨_, Try.func34⟩ (by rfl) ?_
              refine n0 rfl (v_fa ?_)
              refine n0 rfl (v_ld ?_)
              refine n0 rfl (v_lds ?_)
              refine n0 rfl (v_lds ?_)
              refine n0 rfl (v_move ?_)
              refine n0 rfl (v_move ?_)
              refine n0 rfl (v_add ?_)
              refine n0 rfl (v_move ?_)
              refine n0 rfl (v_move ?_)
              refine n0 rfl (v_add ?_)
              refine n_pan rfl Try.call34 (((ihk _ (getD_mem (show i < t.kids.length by omega))) (VR3 i) (VK3 i) (VS3 i) (v + ((binds ((t).kind) (i : Int)).1)) (d + ((binds ((t).kind) (i : Int)).2)) hvb hdb (by omega) (by omega)).2 e10_10 he10_10) (endsR_bad (trav_kid_bad hown (by omega) hks rfl he10_10))
          · have c58 : (decide ((i : Int) < ((t).kids.length : Int))) = false := h58
            try simp only [sC, bne_iff_ne, beq_iff_eq, ne_eq] at c58
            have hei : i = t.kids.length := by omega
            rw [hei, List.take_length] at hks
            have hkl : i = ks.length := by have h9 := travL_len hks; rw [List.length_map] at h9; omega
            have hmo := more_01 t.kind
            refine go_exit rfl ?_
            refine go_seq ?_
            refine go_region ⟨_, Try.func34⟩ rfl ?_
            refine q0 rfl (o_assign ?_)
            refine rg_nil ?_
            refine go_seq ?_
            refine go_seq ?_
            refine go_region ⟨_, Try.func34⟩ rfl ?_
            refine q0 rfl (o_fa ?_)
            refine q0 rfl (o_ld ?_)
            refine q0 rfl (o_eqI ?_)
            refine rg_nil ?_
            refine go_cutS ([(2, .int .i64 (v)), (3, .int .i64 (d)), (4, .pointer (some ⟨b4, 0, none⟩)), (5, .pointer (some ⟨b5, 0, none⟩)), (8, .pointer (some ⟨b8, 0, none⟩)), (9, .pointer (some ⟨b9, 0, none⟩)), (14, .int .i64 ((more t.kind)))]) (fun hK => ?_) (fun base => ?_)
            · refine go_condI (fun h86 => ?_) (fun h86 => ?_)
              · have c86 : (decide (((t).kind) = 15)) = true := h86
                try simp only [sC, bne_iff_ne, beq_iff_eq, ne_eq] at c86
                refine go_region ⟨_, Try.func34⟩ rfl ?_
                refine q0 rfl (o_assign ?_)
                refine rg_nil ?_
                exact hK _ ⟨rfl, rfl, rfl, rfl, rfl, rfl, (by (conv => lhs; whnf); first | (rw [show more t.kind = 1 from if_pos (by simpa using h86)]; done) | (rw [show more t.kind = 0 from if_neg (by simpa using h86)]; done)), trivial⟩
              · have c86 : (decide (((t).kind) = 15)) = false := h86
                try simp only [sC, bne_iff_ne, beq_iff_eq, ne_eq] at c86
                refine go_skip ?_
                exact hK _ ⟨rfl, rfl, rfl, rfl, rfl, rfl, (by (conv => lhs; whnf); first | (rw [show more t.kind = 1 from if_pos (by simpa using h86)]; done) | (rw [show more t.kind = 0 from if_neg (by simpa using h86)]; done)), trivial⟩
            · refine go_seq ?_
              refine go_seq ?_
              refine go_region ⟨_, Try.func34⟩ rfl ?_
              refine q0 rfl (o_fa ?_)
              refine q0 rfl (o_ld ?_)
              refine q0 rfl (o_len ?_)
              refine q0 rfl (o_move ?_)
              refine rg_nil ?_
              refine go_block ?_
              refine go_loopE (X := Nat × SH × List HB) (fun s_ => s_.1 ≤ t.sys.length ∧ travB (liftTr vb db) t.kind (t.sys.take s_.1) (v, d) = .ok (s_.2.2.map HB.er)) (fun s_ => [(2, .int .i64 (v)), (3, .int .i64 (d)), (4, .pointer (some ⟨b4, 0, none⟩)), (8, .pointer (some ⟨b8, 0, none⟩)), (9, .pointer (some ⟨b9, 0, none⟩)), (14, .int .i64 ((more t.kind))), (88, sl vs_t ((t).sys.length)), (89, .int .i64 (((t).sys.length : Int))), (90, .int .i64 ((s_.1 : Int)))]) (fun s_ G_ => G_) (fun s_ => [bigR (brsR tys s_.2.2), rowS 2 63 s_.2.1 (s_.1) (bpFlat (s_.2.2.map HB.bp)), bigR (kidsR tys ks), rowS 6 26 a (i) (tpFlat (ks.map HT.tp)), boxR b9 [.int .i64 (t.kind), .int .i64 ((liftN vb v t.kind t.n)), .string (t.name), sl x30 (g1_10.length), sl a (i), sl s_.2.1 (s_.1)] 26, rowS 2 53 x30 (g1_10.length) (clFlat g1_10), boxR b8 [.int .i64 (0), .int .i64 (0), .string ((ByteArray.mk #[])), sl (none, 0) (0), sl (none, 0) (0), sl (none, 0) (0)] 26, boxR b5 (tc t vr_t vk_t vs_t) 26, boxR b4 [.int .i64 (vb), .int .i64 (db)] 59]) (fun s_ => t.sys.length - s_.1) (0, (none, 0), []) (⟨by omega, by rw [List.take_zero, travB_nil]; rfl⟩) (by exact ⟨rfl, rfl, rfl, rfl, rfl, rfl, rfl, rfl, rfl, trivial⟩) ?_ ?_
              · exact fun w hs => ((hs.rowS0 2 63).bigNil)
              · intro ⟨s, a2, bs⟩ base1 ⟨hs1, hbs⟩ next1
                dsimp only at  hs1  hbs  next1 ⊢
                refine go_seq ?_
                refine go_region ⟨_, Try.func34⟩ rfl ?_
                refine q0 rfl (o_lss ?_)
                refine rg_nil ?_
                refine go_seq ?_
                refine go_condI (fun h91 => ?_) (fun h91 => ?_)
                · have c91 : (decide ((s : Int) < ((t).sys.length : Int))) = true := h91
                  try simp only [sC, bne_iff_ne, beq_iff_eq, ne_eq] at c91
                  have hslt : s < t.sys.length := by omega
                  refine go_skip ?_
                  refine go_seq ?_
                  refine go_block ?_
                  refine go_seq ?_
                  refine go_branch (bs := (t).sys) (a := vs_t) (VF := VF4) (VK := VK4) s (by omega) ?_
                  refine go_openCL (l := (((t).sys).getD s br0).face) (a := VF4 s) (fun hl6 hA6 hU6 => ?_)
                  refine go_openTL (ts := (((t).sys).getD s br0).kids) (a := VK4 s) (fun VR7 VK7 VS7 hl7 hA7 => ?_)
                  refine go_region ⟨_, Try.func34⟩ rfl ?_
                  obtain ⟨bk8, o8, hav8⟩ := hA4 (by omega)
                  refine q0 rfl (o_ixN ?_ (j := s))
                  refine q0 rfl (o_ldB ?_)
                  refine q0 rfl (o_new fun b16 => ?_)
                  refine q0 rfl (o_st ?_)
                  refine rg_nil ?_
                  refine go_seq ?_
                  refine go_res (rowLift db (t.sys.getD s br0).face d) (fun g18_4 hg18_4 => ?_) (fun e18_4 he18_4 => ?_)
                  · refine go_region ⟨_, Try.func34⟩ rfl ?_
                    refine q0 rfl (o_lds ?_)
                    refine q0 rfl (o_fa ?_)
                    refine q0 rfl (o_ld ?_)
                    refine q0 rfl (o_move ?_)
                    refine q0 rfl (o_call Try.call60 ((liftRow_spec vb db ((((t).sys).getD s br0).face) (VF4 s) d om_ om_).1 g18_4 hg18_4) (fun x98 => ?_))
                    refine q0 rfl (o_build (cs := [sl x98 (g18_4.length), sl (none, 0) (0)]) ?_)
                    refine q0 rfl (o_new fun b17 => ?_)
                    refine q0 rfl (o_st ?_)
                    refine rg_nil ?_
                    refine go_seq ?_
                    refine go_seq ?_
                    refine go_region ⟨_, Try.func34⟩ rfl ?_
                    refine q0 rfl (o_fa ?_)
                    refine q0 rfl (o_ld ?_)
                    refine q0 rfl (o_len ?_)
                    refine q0 rfl (o_move ?_)
                    refine rg_nil ?_
                    refine go_block ?_
                    refine go_loopE (X := Nat × SH × List HT) (fun s_ => s_.1 ≤ (t.sys.getD s br0).kids.length ∧ travS (liftTr vb db) t.kind ((t.sys.getD s br0).kids.take s_.1) (v, d) = .ok (s_.2.2.map HT.er)) (fun s_ => [(2, .int .i64 (v)), (3, .int .i64 (d)), (4, .pointer (some ⟨b4, 0, none⟩)), (8, .pointer (some ⟨b8, 0, none⟩)), (9, .pointer (some ⟨b9, 0, none⟩)), (14, .int .i64 ((more t.kind))), (17, .pointer (some ⟨b17, 0, none⟩)), (88, sl vs_t ((t).sys.length)), (89, .int .i64 (((t).sys.length : Int))), (90, .int .i64 ((s : Int))), (101, sl (VK4 s) ((((t).sys).getD s br0).kids.length)), (102, .int .i64 (((((t).sys).getD s br0).kids.length : Int))), (103, .int .i64 ((s_.1 : Int)))]) (fun s_ G_ => G_) (fun s_ => [bigR (kidsR tys s_.2.2), rowS 6 26 s_.2.1 (s_.1) (tpFlat (s_.2.2.map HT.tp)), boxR b17 [sl x98 (g18_4.length), sl s_.2.1 (s_.1)] 63, rowS 2 53 x98 (g18_4.length) (clFlat g18_4), boxR b16 (bc (((t).sys).getD s br0) (VF4 s) (VK4 s)) 63, bigR (brsR tys bs), rowS 2 63 a2 (s) (bpFlat (bs.map HB.bp)), bigR (kidsR tys ks), rowS 6 26 a (i) (tpFlat (ks.map HT.tp)), boxR b9 [.int .i64 (t.kind), .int .i64 ((liftN vb v t.kind t.n)), .string (t.name), sl x30 (g1_10.length), sl a (i), sl a2 (s)] 26, rowS 2 53 x30 (g1_10.length) (clFlat g1_10), boxR b8 [.int .i64 (0), .int .i64 (0), .string ((ByteArray.mk #[])), sl (none, 0) (0), sl (none, 0) (0), sl (none, 0) (0)] 26, boxR b5 (tc t vr_t vk_t vs_t) 26, boxR b4 [.int .i64 (vb), .int .i64 (db)] 59]) (fun s_ => (t.sys.getD s br0).kids.length - s_.1) (0, (none, 0), []) (⟨by omega, by rw [List.take_zero, travS_nil]; rfl⟩) (by exact ⟨rfl, rfl, rfl, rfl, rfl, rfl, rfl, rfl, rfl, rfl, rfl, rfl, rfl, trivial⟩) ?_ ?_
                    · exact fun w hs => ((hs.rowS0 6 26).bigNil)
                    · intro ⟨k, a3, cs⟩ base2 ⟨hk1, hcs⟩ next2
                      dsimp only at  hk1  hcs  next2 ⊢
                      refine go_seq ?_
                      refine go_region ⟨_, Try.func34⟩ rfl ?_
                      refine q0 rfl (o_lss ?_)
                      refine rg_nil ?_
                      refine go_seq ?_
                      refine go_condI (fun h104 => ?_) (fun h104 => ?_)
                      · have c104 : (decide ((k : Int) < ((((t).sys).getD s br0).kids.length : Int))) = true := h104
                        try simp only [sC, bne_iff_ne, beq_iff_eq, ne_eq] at c104
                        have hsk := size_sys_lt (t := t) hslt (k := k) (by omega)
                        refine go_skip ?_
                        refine go_seq ?_
                        refine go_block ?_
                        refine go_seq ?_
                        refine go_kid (ts := (((t).sys).getD s br0).kids) (a := VK4 s) (VR := VR7) (VK := VK7) (VS := VS7) k (by omega) ?_
                        refine go_region ⟨_, Try.func34⟩ rfl ?_
                        obtain ⟨bk9, o9, hav9⟩ := hA7 (by omega)
                        refine q0 rfl (o_ixN ?_ (j := k))
                        refine q0 rfl (o_ldT ?_)
                        refine q0 rfl (o_new fun b19 => ?_)
                        refine q0 rfl (o_st ?_)
                        refine rg_nil ?_
                        refine go_res (trav (liftTr vb db) ((t.sys.getD s br0).kids.getD k t0) (v, (d + more t.kind))) (fun g22_8 hg22_8 => ?_) (fun e22_8 he22_8 => ?_)
                        · refine go_draw (pn := 1000000) (tn := false) (A := [0, 1, 0, 0, 0, 0, 0, 96, 252, 508, 1023, 2047, 4095]) (l := [0, 1, 2, 3, 4, 5, 6, 7, 8, 9]) (fin := [10, 11, 12]) Tab.mixed ⟨_, Try.func34⟩ (by rfl) ?_
                          refine n0 rfl (v_fa ?_)
                          refine n0 rfl (v_ld ?_)
                          refine n0 rfl (v_lds ?_)
                          refine n0 rfl (v_lds ?_)
                          refine n0 rfl (v_move ?_)
                          refine n0 rfl (v_move ?_)
                          refine n0 rfl (v_move ?_)
                          refine n0 rfl (v_add ?_)
                          refine n0 rfl (v_call Try.call34 (((ihs _ (getD_mem hslt) _ (getD_mem (show k < (t.sys.getD s br0).kids.length by omega))) (VR7 k) (VK7 k) (VS7 k) v (d + (more t.kind)) hvb hdb (by omega) (by omega)).1 g22_8 hg22_8) (fun x115 => ?_))
                          refine n0 rfl (v_lit1 fun b116 => ?_)
                          refine NV.done ?_
                          refine q0 rfl (o_appS (fun a117 => ?_) (a := a3) (n' := k))
                          refine rg_state (fun w hs => ((hs.perm perm1).drop).snocT) ?_
                          refine q0 rfl (o_fa ?_)
                          refine q0 rfl (o_stc ?_)
                          refine rg_nil ?_
                          refine go_inBlock ?_
                          refine go_region ⟨_, Try.func34⟩ rfl ?_
                          refine q0 rfl (o_add ?_)
                          refine q0 rfl (o_move ?_)
                          refine rg_nil ?_
                          refine go_state (fun w hs => ?_) (next2 (k + 1, a117, cs ++ [x115.1]) _ (⟨by omega, by rw [List.map_append, List.map_cons, List.map_nil, x115.2]; exact travS_at_ok (by omega) hcs rfl (by rw [Int.add_zero]; exact hg22_8)⟩) (by (try simp only); omega) ⟨rfl, rfl, rfl, rfl, rfl, rfl, rfl, rfl, rfl, rfl, rfl, rfl, rfl, trivial⟩)
                          have e1 : (cs ++ [x115.1]).map HT.tp = cs.map HT.tp ++ [(g22_8, x115.1.vr, x115.1.vk, x115.1.vs)] := by simp only [List.map_append, List.map_cons, List.map_nil, HT.tp, x115.2]
                          rw [e1]; exact (((((((((((((((((((((((((((((((((hs.less (by simp +contextual)).perm perm15).perm perm15).perm perm15).perm perm15).perm perm15).perm perm15).perm perm15).perm perm15).perm perm15).perm perm15).perm perm15).perm perm14).perm perm13).perm perm13).perm perm15).perm perm15).joinK).perm perm14).perm perm14).perm perm14).perm perm14).perm perm14).perm perm14).perm perm14).perm perm14).perm perm14).perm perm14).perm perm14).perm perm12).perm perm13).perm perm13).dropR (A := [_, _, _, _, _, _, _, _, _, _, _, _, _, _]))
                        · refine go_draw (pn := 8) (tn := false) (A := [0, 1, 0, 0, 0, 0, 0, 96, 252, 508, 1023, 2047, 4095]) (l := [0, 1, 2, 3, 4, 5, 6, 7, 8, 9]) (fin := [10, 11, 12]) Tab.mixed ⟨_, Try.func34⟩ (by rfl) ?_
                          refine n0 rfl (v_fa ?_)
                          refine n0 rfl (v_ld ?_)
                          refine n0 rfl (v_lds ?_)
                          refine n0 rfl (v_lds ?_)
                          refine n0 rfl (v_move ?_)
                          refine n0 rfl (v_move ?_)
                          refine n0 rfl (v_move ?_)
                          refine n0 rfl (v_add ?_)
                          refine n_pan rfl Try.call34 (((ihs _ (getD_mem hslt) _ (getD_mem (show k < (t.sys.getD s br0).kids.length by omega))) (VR7 k) (VK7 k) (VS7 k) v (d + (more t.kind)) hvb hdb (by omega) (by omega)).2 e22_8 he22_8) (endsR_bad (trav_sys_bad hown hks hslt hbs (.inr ⟨_, lift_face_ok hg18_4, travS_at_bad (by omega) hcs rfl (by rw [Int.add_zero]; exact he22_8)⟩)))
                      · have c104 : (decide ((k : Int) < ((((t).sys).getD s br0).kids.length : Int))) = false := h104
                        try simp only [sC, bne_iff_ne, beq_iff_eq, ne_eq] at c104
                        have hek9 : k = (t.sys.getD s br0).kids.length := by omega
                        have hcs2 := hcs
                        rw [hek9, List.take_length] at hcs2
                        have hek : k = (cs.map HT.er).length := by rw [travS_len hcs2]; exact hek9
                        refine go_ms (Ms' := [bigR (kidsR tys cs), rowS 6 26 a3 ((cs.map HT.er).length) (tpFlat (cs.map HT.tp)), boxR b17 [sl x98 (g18_4.length), sl a3 ((cs.map HT.er).length)] 63, rowS 2 53 x98 (g18_4.length) (clFlat g18_4), boxR b16 (bc (((t).sys).getD s br0) (VF4 s) (VK4 s)) 63, bigR (brsR tys bs), rowS 2 63 a2 (s) (bpFlat (bs.map HB.bp)), bigR (kidsR tys ks), rowS 6 26 a (i) (tpFlat (ks.map HT.tp)), boxR b9 [.int .i64 (t.kind), .int .i64 ((liftN vb v t.kind t.n)), .string (t.name), sl x30 (g1_10.length), sl a (i), sl a2 (s)] 26, rowS 2 53 x30 (g1_10.length) (clFlat g1_10), boxR b8 [.int .i64 (0), .int .i64 (0), .string ((ByteArray.mk #[])), sl (none, 0) (0), sl (none, 0) (0), sl (none, 0) (0)] 26, boxR b5 (tc t vr_t vk_t vs_t) 26, boxR b4 [.int .i64 (vb), .int .i64 (db)] 59]) (by rw [hek]) ?_
                        refine go_exit rfl ?_
                        refine go_region ⟨_, Try.func34⟩ rfl ?_
                        refine q0 rfl (o_fa ?_)
                        refine q0 rfl (o_ld ?_)
                        refine q0 rfl (o_lds ?_)
                        refine q0 rfl (o_lit1 fun b123 => ?_)
                        refine rg_state (fun w hs => hs.perm perm7) ?_
                        refine q0 rfl (o_appS (fun a124 => ?_) (a := a2) (n' := s))
                        refine rg_state (fun w hs => ((hs.perm perm1).drop).snocB (b := (Br.mk g18_4 (cs.map HT.er))) (vf := x98) (vk := a3)) ?_
                        refine q0 rfl (o_fa ?_)
                        refine rg_state (fun w hs => hs.perm perm9) ?_
                        refine q0 rfl (o_stc ?_)
                        refine rg_nil ?_
                        refine go_inBlock ?_
                        refine go_region ⟨_, Try.func34⟩ rfl ?_
                        refine q0 rfl (o_add ?_)
                        refine q0 rfl (o_move ?_)
                        refine rg_nil ?_
                        refine go_state (fun w hs => ?_) (next1 (s + 1, a124, bs ++ [HB.mk g18_4 x98 cs a3]) _ (⟨by omega, by rw [List.map_append, List.map_cons, List.map_nil]; simp only [HB.er, HT.erL_eq]; exact travB_at_ok hslt hbs (lift_face_ok hg18_4) hcs2⟩) (by (try simp only); omega) ⟨rfl, rfl, rfl, rfl, rfl, rfl, rfl, rfl, rfl, trivial⟩)
                        have e1 : (bs ++ [HB.mk g18_4 x98 cs a3]).map HB.bp = bs.map HB.bp ++ [(Br.mk g18_4 (cs.map HT.er), x98, a3)] := by simp only [List.map_append, List.map_cons, List.map_nil, HB.bp, HB.er, HB.vf, HB.vk, HT.erL_eq]
                        rw [e1]; exact ((((((((((((((((((((((((((hs.less (by simp +contextual)).perm perm13).perm perm13).perm perm13).perm perm13).perm perm13).perm perm13).perm perm12).perm perm11).perm perm9).perm perm9).perm perm13).perm perm11).perm perm12).perm perm13).joinB (ks := cs) rfl (by simp) rfl rfl).perm perm10).perm perm10).perm perm10).perm perm10).perm perm5).perm perm10).perm perm10).perm perm8).perm perm8).dropR (A := [_, _, _, _, _, _, _, _, _]))
                  · refine go_region ⟨_, Try.func34⟩ rfl ?_
                    refine q0 rfl (o_lds ?_)
                    refine q0 rfl (o_fa ?_)
                    refine q0 rfl (o_ld ?_)
                    refine q0 rfl (o_move ?_)
                    refine q0 rfl (o_pan Try.call60 ((liftRow_spec vb db ((((t).sys).getD s br0).face) (VF4 s) d om_ om_).2 e18_4 he18_4) (endsR_bad (trav_sys_bad hown hks hslt hbs (.inl (lift_face_bad he18_4)))))
                · have c91 : (decide ((s : Int) < ((t).sys.length : Int))) = false := h91
                  try simp only [sC, bne_iff_ne, beq_iff_eq, ne_eq] at c91
                  have hes : s = t.sys.length := by omega
                  rw [hes, List.take_length] at hbs
                  have hbl : s = bs.length := by have h9 := travB_all hbs; rw [List.length_map] at h9; omega
                  refine go_exit rfl ?_
                  refine go_seq ?_
                  refine go_region ⟨_, Try.func34⟩ rfl ?_
                  refine q0 rfl (o_lds ?_)
                  refine q0 rfl (o_st ?_)
                  refine rg_nil ?_
                  refine go_ok (a := (T.mk t.kind (liftN vb v t.kind t.n) t.name g1_10 (ks.map HT.er) (bs.map HB.er))) (trav_ok_of hown hks hbs) ?_
                  refine retC Try.func34 Try.results34 ⟨(HT.mk t.kind (liftN vb v t.kind t.n) t.name g1_10 x30 ks a bs a2), by simp only [HT.er, HT.erL_eq, HT.erB_eq]⟩ rfl mm_ rfl rfl rfl (by simp only [tc, HT.vr, HT.vk, HT.vs, T.kind, T.n, T.name, T.r, T.kids, T.sys, List.length_map, hkl, hbl]; rfl) (fun w hs => ?_)
                  exact ((((((((((((hs.less (by simp)).perm perm8).perm perm8).perm perm7).perm perm3).perm perm4).perm perm6).perm perm6).perm perm7).perm perm8).joinT (y := tys) (k := t.kind) (n := liftN vb v t.kind t.n) (nm := t.name) rfl hkl hbl rfl rfl rfl).dropR (A := [_]))
  · refine go_draw (pn := 10) (tn := false) (A := [0, 1, 0, 4, 0, 16, 0, 0, 128, 0, 960, 2047, 0, 8191]) (l := [0, 1, 2, 3, 4, 5, 6, 7, 8, 9, 12, 10, 11]) (fin := [13]) Tab.mixed ⟨_, Try.func34⟩ (by rfl) ?_
    refine n0 rfl (v_fa ?_)
    refine n0 rfl (v_ld ?_)
    refine n0 rfl (v_fa ?_)
    refine n0 rfl (v_ld ?_)
    refine n0 rfl (v_fa ?_)
    refine n0 rfl (v_ld ?_)
    refine n0 rfl (v_lds ?_)
    refine n0 rfl (v_fa ?_)
    refine n0 rfl (v_ld ?_)
    refine n0 rfl (v_move ?_)
    refine n0 rfl (v_new fun b9 => ?_)
    refine n_pan rfl Try.call60 ((liftRow_spec vb db ((t).r) vr_t d om_ om_).2 e1_10 he1_10) (endsR_bad (trav_own_bad (lift_own_row he1_10)))
theorem liftO {vb db : Int} : ∀ t : T, LiftO vb db t := T.ind' fun t ihk ihs vr vk vs v d h1 h2 h3 h4 => liftT_walk vb db t vr vk vs v d ihk ihs h1 h2 h3 h4
theorem guardN  (b6 b7 : Nat) : SpecD Try.prog 59 #[.pointer (some ⟨b6, 0, none⟩), .pointer (some ⟨b7, 0, none⟩)] [] [] .returning .returning [] [] := by
  refine specD_goN (args := [.pointer (some ⟨b6, 0, none⟩), .pointer (some ⟨b7, 0, none⟩)]) Try.func59 rfl Try.ntmps59 (by exact Nat.le_of_ble_eq_true rfl) (fun _ _ => rfl) rfl rfl (fun _ => rfl) rfl rfl rfl rfl fun B hB => ?_
  refine go_seq ?_
  refine go_region ⟨_, Try.func59⟩ rfl ?_
  refine q0 rfl (o_move ?_)
  refine q0 rfl (o_neNil ?_)
  refine rg_nil ?_
  refine go_condF ?_
  refine go_skip ?_
  refine end0 Try.func59 Try.results59 () rfl (fun w hs => hs.less (by simp))
theorem guardP  (b6 b7 : Nat) (e : Int) (older : List PanicEntry) : SpecD Try.prog 59 #[.pointer (some ⟨b6, 0, none⟩), .pointer (some ⟨b7, 0, none⟩)] [] [boxR b6 [.int .i64 (0), .int .i64 (0), .string ((ByteArray.mk #[])), sl (none, 0) (0), sl (none, 0) (0), sl (none, 0) (0)] 26, boxR b7 [.int .i64 (0)] 29] (.panicking ({ v := .iface 29 (.int .i64 (e)), recovered := false } :: older)) (.panicking ({ v := .iface 29 (.int .i64 (e)), recovered := true } :: older)) [] [boxR b6 [.int .i64 (0), .int .i64 (0), .string ((ByteArray.mk #[])), sl (none, 0) (0), sl (none, 0) (0), sl (none, 0) (0)] 26, boxR b7 [.int .i64 e] 29] := by
  refine specD_go (args := [.pointer (some ⟨b6, 0, none⟩), .pointer (some ⟨b7, 0, none⟩)]) Try.func59 rfl Try.ntmps59 (by exact Nat.le_of_ble_eq_true rfl) (fun _ _ => rfl) rfl rfl (fun _ => rfl) rfl rfl rfl rfl fun B hB => ?_
  refine go_seq ?_
  refine go_region ⟨_, Try.func59⟩ rfl ?_
  refine q0 rfl (o_move ?_)
  refine q0 rfl (o_neIface ?_)
  refine rg_nil ?_
  refine go_condT ?_
  refine go_seq ?_
  refine go_region ⟨_, Try.func59⟩ rfl ?_
  refine q0 rfl (o_build (cs := [.int .i64 (0), .int .i64 (0), .string ((ByteArray.mk #[])), sl (none, 0) (0), sl (none, 0) (0), sl (none, 0) (0)]) ?_)
  refine q0 rfl (o_st ?_)
  refine q0 rfl (o_st ?_)
  refine rg_nil ?_
  refine go_seq ?_
  refine go_region ⟨_, Try.func59⟩ rfl ?_
  refine q0 rfl (o_move ?_)
  refine q0 rfl (o_tassert ?_)
  refine q0 rfl (o_move ?_)
  refine q0 rfl (o_extract ?_)
  refine q0 rfl (o_extract ?_)
  refine q0 rfl (o_assign ?_)
  refine q0 rfl (o_assign ?_)
  refine rg_nil ?_
  refine go_seq ?_
  refine go_region ⟨_, Try.func59⟩ rfl ?_
  refine q0 rfl (o_move ?_)
  refine rg_nil ?_
  refine go_condT ?_
  refine go_region ⟨_, Try.func59⟩ rfl ?_
  refine q0 rfl (o_move ?_)
  refine q0 rfl (o_st ?_)
  refine rg_nil ?_
  refine end0 Try.func59 Try.results59 () rfl (fun w hs => ((hs.less (by simp)).perm perm1))
theorem guarded_spec (t : T) (vr_t vk_t vs_t : SH) (ns : List Int) (a_ns : SH) (c : FuncId) (cap : List Value) (FΓ : List Fact) (r : Res1 T) (hcall : ∀ (args : Array Value) (w : World), (callFunc c args).run Try.prog w = .ok (.enter c args) w) (hdo : formedP t = 0 → ns.all (fun n => decide (0 ≤ n)) = true → SpecR Try.prog 29 c cap.toArray FΓ r (fun (u : T) => fun x : {h : HT // h.er = u} => .agg (tc u x.1.vr x.1.vk x.1.vs).toArray) (fun _ _ => []) (fun (u : T) => fun x : {h : HT // h.er = u} => [bigR (treeR tys x.1)])) (hz : size t ≤ 1152921504606846) : Spec Try.prog 32 #[.agg (tc t vr_t vk_t vs_t).toArray, sl a_ns (ns.length), .func (.func c) #[] cap.toArray] [RT t vr_t vk_t vs_t, IL ns a_ns, AllFs FΓ] [] (fun x : {h : HT // h.er = (guardRes t ns r).2} => .tuple #[.agg (tc (guardRes t ns r).2 x.1.vr x.1.vk x.1.vs).toArray, .int .i64 (guardRes t ns r).1]) (fun x : {h : HT // h.er = (guardRes t ns r).2} => []) (fun x : {h : HT // h.er = (guardRes t ns r).2} => [bigR (treeR tys x.1)]) := by
  rw [show (#[.agg (tc t vr_t vk_t vs_t).toArray, sl a_ns (ns.length), .func (.func c) #[] cap.toArray] : Array Value) = ([.agg (tc t vr_t vk_t vs_t).toArray, sl a_ns (ns.length), .func (.func c) #[] cap.toArray] : List Value).toArray from rfl]
  refine spec_go Try.func32 Try.ntmps32 rfl (by exact Nat.le_of_ble_eq_true rfl) fun B hB => ?_
  refine go_open (t := t) (vr := vr_t) (vk := vk_t) (vs := vs_t) (fun hk1 hn1 hm1 => ?_)
  refine go_openCL (l := (t).r) (a := vr_t) (fun hl2 hA2 hU2 => ?_)
  refine go_openTL (ts := (t).kids) (a := vk_t) (fun VR3 VK3 VS3 hl3 hA3 => ?_)
  refine go_openBL (bs := (t).sys) (a := vs_t) (fun VF4 VK4 hl4 hA4 => ?_)
  refine go_openIL (l := ns) (a := a_ns) (fun hl5 hA5 hU5 => ?_)
  refine go_seq ?_
  refine go_region ⟨_, Try.func32⟩ rfl ?_
  refine q0 rfl (o_box fun b3 => ?_)
  refine q0 rfl (o_new fun b6 => ?_)
  refine q0 rfl (o_new fun b7 => ?_)
  refine rg_nil ?_
  refine go_seq ?_
  refine go_seq ?_
  refine go_region ⟨_, Try.func32⟩ rfl ?_
  refine q0 rfl (o_lds ?_)
  refine q0 rfl (o_call Try.call10 (formed_spec t (.inr form_spec) vr_t vk_t vs_t om_) (fun x12 => ?_))
  refine q0 rfl (o_assign ?_)
  refine rg_nil ?_
  refine go_seq ?_
  refine go_region ⟨_, Try.func32⟩ rfl ?_
  refine q0 rfl (o_move ?_)
  refine q0 rfl (o_neI ?_)
  refine rg_nil ?_
  refine go_condI (fun h14 => ?_) (fun h14 => ?_)
  · have c14 : (decide ((formedP t) ≠ 0)) = true := h14
    try simp only [sC, bne_iff_ne, beq_iff_eq, ne_eq] at c14
    have hg : guardRes t ns r = (formedP t, t0) := guard_form (by simpa using h14)
    refine go_seq ?_
    refine go_region ⟨_, Try.func32⟩ rfl ?_
    refine q0 rfl (o_build (cs := [.int .i64 (0), .int .i64 (0), .string ((ByteArray.mk #[])), sl (none, 0) (0), sl (none, 0) (0), sl (none, 0) (0)]) ?_)
    refine q0 rfl (o_move ?_)
    refine q0 rfl (o_st ?_)
    refine q0 rfl (o_st ?_)
    refine rg_nil ?_
    refine retCC Try.func32 Try.results32 (⟨h0, by rw [hg]; exact h0_er⟩) rfl rfl mm_ mm_ rfl rfl rfl rfl rfl (by show _ = Value.tuple #[.agg (tc (guardRes t ns r).2 h0.vr h0.vk h0.vs).toArray, .int .i64 (guardRes t ns r).1]; rw [hg]; rfl) (fun w hs => ?_)
    exact ((hs.less (Γ' := []) (by simp)).bare.h0R tys)
  · have c14 : (decide ((formedP t) ≠ 0)) = false := h14
    try simp only [sC, bne_iff_ne, beq_iff_eq, ne_eq] at c14
    have hf0 : formedP t = 0 := by simpa using h14
    refine go_skip ?_
    refine go_seq ?_
    refine go_seq ?_
    refine go_region ⟨_, Try.func32⟩ rfl ?_
    refine q0 rfl (o_move ?_)
    refine q0 rfl (o_len ?_)
    refine q0 rfl (o_move ?_)
    refine rg_nil ?_
    refine go_block ?_
    refine go_loopE (X := Nat) (fun s_ => s_ ≤ ns.length ∧ ∀ j, j < s_ → 0 ≤ ns.getD j 0) (fun s_ => [(2, .func (.func c) #[] cap.toArray), (6, .pointer (some ⟨b6, 0, none⟩)), (7, .pointer (some ⟨b7, 0, none⟩)), (17, sl a_ns (ns.length)), (18, .int .i64 ((ns.length : Int))), (19, .int .i64 ((s_ : Int)))]) (fun s_ G_ => G_) (fun s_ => [boxR b7 [.int .i64 (0)] 29, boxR b6 [.int .i64 (0), .int .i64 (0), .string ((ByteArray.mk #[])), sl (none, 0) (0), sl (none, 0) (0), sl (none, 0) (0)] 26, boxR b3 (tc t vr_t vk_t vs_t) 26]) (fun s_ => ns.length - s_) (0) (⟨Nat.zero_le _, fun j hj => absurd hj (Nat.not_lt_zero _)⟩) (by exact ⟨rfl, rfl, rfl, rfl, rfl, rfl, trivial⟩) ?_ ?_
    · exact fun w hs => hs
    · intro i base0 ⟨hi, hok⟩ next0
      refine go_seq ?_
      refine go_region ⟨_, Try.func32⟩ rfl ?_
      refine q0 rfl (o_lss ?_)
      refine rg_nil ?_
      refine go_seq ?_
      refine go_condI (fun h20 => ?_) (fun h20 => ?_)
      · have c20 : (decide ((i : Int) < (ns.length : Int))) = true := h20
        try simp only [sC, bne_iff_ne, beq_iff_eq, ne_eq] at c20
        refine go_skip ?_
        refine go_seq ?_
        refine go_block ?_
        refine go_seq ?_
        refine go_region ⟨_, Try.func32⟩ rfl ?_
        obtain ⟨bk6, o6, hav6⟩ := hA5 (by omega)
        refine q0 rfl (o_ixN ?_ (j := i))
        refine q0 rfl (o_ldI ?_)
        refine q0 rfl (o_assign ?_)
        refine rg_nil ?_
        refine go_seq ?_
        refine go_region ⟨_, Try.func32⟩ rfl ?_
        refine q0 rfl (o_move ?_)
        refine q0 rfl (o_lss ?_)
        refine rg_nil ?_
        refine go_condI (fun h24 => ?_) (fun h24 => ?_)
        · have c24 : (decide ((ns.getD i 0) < 0)) = true := h24
          try simp only [sC, bne_iff_ne, beq_iff_eq, ne_eq] at c24
          have hg : guardRes t ns r = (2, t0) := guard_neg hf0 (all_false_at (d := 0) (i := i) (by omega) (by simpa using c24))
          refine go_seq ?_
          refine go_region ⟨_, Try.func32⟩ rfl ?_
          refine q0 rfl (o_build (cs := [.int .i64 (0), .int .i64 (0), .string ((ByteArray.mk #[])), sl (none, 0) (0), sl (none, 0) (0), sl (none, 0) (0)]) ?_)
          refine q0 rfl (o_st ?_)
          refine q0 rfl (o_st ?_)
          refine rg_nil ?_
          refine retCC Try.func32 Try.results32 (⟨h0, by rw [hg]; exact h0_er⟩) rfl rfl mm_ mm_ rfl rfl rfl rfl rfl (by show _ = Value.tuple #[.agg (tc (guardRes t ns r).2 h0.vr h0.vk h0.vs).toArray, .int .i64 (guardRes t ns r).1]; rw [hg]; rfl) (fun w hs => ?_)
          exact ((hs.less (Γ' := []) (by simp)).bare.h0R tys)
        · have c24 : (decide ((ns.getD i 0) < 0)) = false := h24
          try simp only [sC, bne_iff_ne, beq_iff_eq, ne_eq] at c24
          refine go_skip ?_
          refine go_inBlock ?_
          refine go_region ⟨_, Try.func32⟩ rfl ?_
          refine q0 rfl (o_add ?_)
          refine q0 rfl (o_move ?_)
          refine rg_nil ?_
          refine go_state (fun w hs => ?_) (next0 (i + 1) _ (⟨by omega, fun j hj => by rcases Nat.lt_succ_iff_lt_or_eq.mp hj with h | h; exact hok j h; subst h; omega⟩) (by omega) ⟨rfl, rfl, rfl, rfl, rfl, rfl, trivial⟩)
          exact ((((hs.less (by simp +contextual)).perm perm2).perm perm2).perm perm2)
      · have c20 : (decide ((i : Int) < (ns.length : Int))) = false := h20
        try simp only [sC, bne_iff_ne, beq_iff_eq, ne_eq] at c20
        have hall : ns.all (fun n => decide (0 ≤ n)) = true := all_true_of (d := 0) (fun j hj => by simpa using hok j (by omega))
        have hdo9 := hdo hf0 hall
        refine go_exit rfl ?_
        refine go_seq ?_
        refine go_region ⟨_, Try.func32⟩ rfl ?_
        refine q0 rfl (o_func ?_)
        refine q0 rfl (o_defer ?_)
        refine rg_nil ?_
        refine go_seq ?_
        refine go_res (r) (fun g11_1 hg11_1 => ?_) (fun e11_1 he11_1 => ?_)
        · have hg := guard_ok hf0 hall hg11_1
          refine go_region ⟨_, Try.func32⟩ rfl ?_
          refine q0 rfl (o_move ?_)
          refine q0 rfl (o_callC hcall ((hdo9.conj).1 g11_1 hg11_1) (cap := cap) (fun x29 => ?_))
          refine q0 rfl (o_st ?_)
          refine q0 rfl (o_st ?_)
          refine rg_nil ?_
          refine retDCC Try.func32 Try.results32 Try.call59 (guardN b6 b7) (⟨x29.1, by rw [hg]; exact x29.2⟩) rfl rfl mm_ mm_ rfl rfl rfl rfl rfl (by show _ = Value.tuple #[.agg (tc (guardRes t ns r).2 x29.1.vr x29.1.vk x29.1.vs).toArray, .int .i64 (guardRes t ns r).1]; rw [hg]; rfl) (fun w hs => ?_)
          exact (((hs.less (by simp)).perm perm2).dropR (A := [_]))
        · have hg := guard_bad hf0 hall he11_1
          refine go_region ⟨_, Try.func32⟩ rfl ?_
          refine q0 rfl (o_move ?_)
          refine q0 rfl (panDCC (Ms2 := [boxR b3 (tc t vr_t vk_t vs_t) 26]) (enterC (args := []) wn_ rfl hcall) ((hdo9.conj).2 e11_1 he11_1) (by simp) Try.func32 Try.results32 Try.call59 (guardP b6 b7 e11_1 []) rfl (by exact perm1) ⟨h0, by rw [hg]; exact h0_er⟩ rfl rfl rfl rfl rfl rfl rfl (by show _ = Value.tuple #[.agg (tc (guardRes t ns r).2 h0.vr h0.vk h0.vs).toArray, .int .i64 (guardRes t ns r).1]; rw [hg]; rfl) (fun w hs => (hs.less (Γ' := []) (by simp)).h0R tys))
theorem liftVars1_spec (g0 : Nat) (b : Int) (g1 : Nat) (t : T) (vr_t vk_t vs_t : SH) (g2 : Nat) (f : Int) (hb : 0 ≤ b ∧ b ≤ 1000000) (hf : 0 ≤ f) (hz : size t ≤ 20000) : SpecR Try.prog 29 36 #[.pointer (some ⟨g0, 0, none⟩), .pointer (some ⟨g1, 0, none⟩), .pointer (some ⟨g2, 0, none⟩)] [At g0 0 [.int .i64 (b)], At g1 0 (tc t vr_t vk_t vs_t), RT t vr_t vk_t vs_t, At g2 0 [.int .i64 (f)]] (varsR t f b) (fun (u : T) => fun x : {h : HT // h.er = u} => .agg (tc u x.1.vr x.1.vk x.1.vs).toArray) (fun (u : T) => fun x : {h : HT // h.er = u} => []) (fun (u : T) => fun x : {h : HT // h.er = u} => [bigR (treeR tys x.1)]) := by
  refine specR_go (args := [.pointer (some ⟨g0, 0, none⟩), .pointer (some ⟨g1, 0, none⟩), .pointer (some ⟨g2, 0, none⟩)]) Try.func36 Try.ntmps36 rfl (by exact Nat.le_of_ble_eq_true rfl) fun B hB => ?_
  have hmn : 0 ≤ (if 2000000000 < f then 2000000000 else f) ∧ (if 2000000000 < f then 2000000000 else f) ≤ 2000000000 := by split <;> omega
  refine go_seq ?_
  refine go_region ⟨_, Try.func36⟩ rfl ?_
  refine q0 rfl (o_new fun b3 => ?_)
  refine rg_nil ?_
  refine go_seq ?_
  refine go_res (varsR t f b) (fun g1_5 hg1_5 => ?_) (fun e1_5 he1_5 => ?_)
  · refine go_region ⟨_, Try.func36⟩ rfl ?_
    refine q0 rfl (o_ldg ?_)
    refine q0 rfl (o_build (cs := [.int .i64 (b), .int .i64 (0)]) ?_)
    refine q0 rfl (o_ldgs ?_)
    refine q0 rfl (o_ldg ?_)
    refine q0 rfl (o_min ?_)
    refine q0 rfl (o_call Try.call34 ((liftO t vr_t vk_t vs_t (if 2000000000 < f then 2000000000 else f) 0 hb (by unfold in64; omega) (by omega) (by omega)).1 g1_5 hg1_5) (fun x9 => ?_))
    refine q0 rfl (o_st ?_)
    refine rg_nil ?_
    refine go_ok (a := g1_5) (hg1_5) ?_
    refine retC Try.func36 Try.results36 x9 rfl mm_ rfl rfl rfl rfl (fun w hs => (((hs.less (by simp)).perm perm1).dropR (A := [_])))
  · refine go_region ⟨_, Try.func36⟩ rfl ?_
    refine q0 rfl (o_ldg ?_)
    refine q0 rfl (o_build (cs := [.int .i64 (b), .int .i64 (0)]) ?_)
    refine q0 rfl (o_ldgs ?_)
    refine q0 rfl (o_ldg ?_)
    refine q0 rfl (o_min ?_)
    refine q0 rfl (o_pan Try.call34 ((liftO t vr_t vk_t vs_t (if 2000000000 < f then 2000000000 else f) 0 hb (by unfold in64; omega) (by omega) (by omega)).2 e1_5 he1_5) (endsR_bad (he1_5)))
theorem vars_spec (t : T) (vr_t vk_t vs_t : SH) (f : Int) (b : Int) (ha : in64 f) (hb : in64 b) (hz : size t ≤ 1152921504606846) : Spec Try.prog 14 #[.agg (tc t vr_t vk_t vs_t).toArray, .int .i64 (f), .int .i64 (b)] [RT t vr_t vk_t vs_t] [] (fun x : {h : HT // h.er = (varsRes t f b).2} => .tuple #[.agg (tc (varsRes t f b).2 x.1.vr x.1.vk x.1.vs).toArray, .int .i64 (varsRes t f b).1]) (fun x : {h : HT // h.er = (varsRes t f b).2} => []) (fun x : {h : HT // h.er = (varsRes t f b).2} => [bigR (treeR tys x.1)]) := by
  refine spec_go (args := [.agg (tc t vr_t vk_t vs_t).toArray, .int .i64 (f), .int .i64 (b)]) Try.func14 Try.ntmps14 rfl (by exact Nat.le_of_ble_eq_true rfl) fun B hB => ?_
  have hz2 := hz
  refine go_seq ?_
  refine go_region ⟨_, Try.func14⟩ rfl ?_
  refine q0 rfl (o_box fun b3 => ?_)
  refine q0 rfl (o_box fun b4 => ?_)
  refine q0 rfl (o_box fun b5 => ?_)
  refine q0 rfl (o_new fun b6 => ?_)
  refine q0 rfl (o_assign ?_)
  refine rg_nil ?_
  refine go_seq ?_
  refine go_ms (Ms' := [boxR b6 [.int .i64 (0), .int .i64 (0), .string ((ByteArray.mk #[])), sl (none, 0) (0), sl (none, 0) (0), sl (none, 0) (0)] 26, boxR b5 [.int .i64 (b)] 3, boxR b4 [.int .i64 (f)] 3, boxR b3 (tc t vr_t vk_t vs_t) 26]) (by rfl) ?_
  refine go_state (fun w hs => (((((hs.perm perm2).perm perm2).perm perm2).perm perm3).settleBox hB)) ?_
  refine go_state (fun w hs => ((((hs.perm perm1).perm perm1).perm perm2).settleBox hB)) ?_
  refine go_state (fun w hs => ((hs.perm perm1).settleBox hB)) ?_
  refine go_state (fun w hs => hs.conj (L := [At b5 0 [.int .i64 b], At b3 0 (tc t vr_t vk_t vs_t), RT t vr_t vk_t vs_t, At b4 0 [.int .i64 f]]) (by simp)) ?_
  refine go_region ⟨_, Try.func14⟩ rfl ?_
  refine q0 rfl (o_ldgs ?_)
  refine q0 rfl (o_ldg ?_)
  refine q0 rfl (o_ldg ?_)
  refine q0 rfl (o_ldg ?_)
  refine q0 rfl (o_subW ?_ (a := 1000000) (b := b))
  refine q0 rfl (o_lit fun b13 => ?_)
  refine q0 rfl (o_func ?_)
  refine rg_state (fun w hs => (((hs.perm perm1).perm perm1).litI [f, b, most b] hB rfl (by simp) (by intro c hc; simp at hc; rcases hc with rfl | rfl | rfl <;> first | assumption | exact most_in _))) ?_
  refine q0 rfl (o_call Try.call32 (guarded_spec t vr_t vk_t vs_t [f, b, most b] (some ⟨b13, 0, none⟩, 3) 36 [.pointer (some ⟨b5, 0, none⟩), .pointer (some ⟨b3, 0, none⟩), .pointer (some ⟨b4, 0, none⟩)] [At b5 0 [.int .i64 b], At b3 0 (tc t vr_t vk_t vs_t), RT t vr_t vk_t vs_t, At b4 0 [.int .i64 f]] (varsR t f b) Try.call36 (fun hf9 ha9 => by have hfz := formed_size hf9; simp only [List.all_cons, List.all_nil, Bool.and_true, Bool.and_eq_true, decide_eq_true_eq] at ha9; exact liftVars1_spec b5 b b3 t vr_t vk_t vs_t b4 f ⟨ha9.2.1, most_le hb ha9.2.1 ha9.2.2⟩ ha9.1 hfz) hz) (fun x15 => ?_))
  refine q0 rfl (o_extract ?_)
  refine q0 rfl (o_extract ?_)
  refine q0 rfl (o_st ?_)
  refine q0 rfl (o_assign ?_)
  refine rg_nil ?_
  refine retCT Try.func14 Try.results14 ⟨x15.1, x15.2⟩ rfl mm_ rfl rfl rfl rfl rfl (fun w hs => (((hs.less (by simp)).perm perm1).dropR (A := [_])))
end Go.Hy
