/- Contracts of functions of this program, one theorem each (printed by a program of this repository). -/
import Derived.Test.YtcofpfnnlageaaaHyAuto
import Derived.Test.YtcofpfnnlageaaaHyTab
import Derived.Test.YtcofpfnnlageaaaHyClause
import Derived.Test.YtcofpfnnlageaaaS14
import Derived.Shelf.SlSortCmp.NoneTotal
namespace Go.Hy
set_option linter.unusedVariables false
set_option linter.unusedSimpArgs false
set_option linter.unusedSectionVars false
open Go.Proofs
set_option linter.unusedVariables false
set_option linter.unusedSimpArgs false
set_option maxRecDepth 100000
theorem clFlat_snoc (l : List Cl) (c : Cl) : clFlat (l ++ [c]) = clFlat l ++ clCells c := by simp [clFlat]

/-- slices.SortFunc at a row of the call's own. -/
theorem sortRow_spec (l : List Cl) (a : SH) (n : Nat) (hn : n = l.length) (hb : n * 8 ≤ reach) :
    Spec Try.prog 105 #[sl a n, .func (.func 106) #[] #[]] [] [rowS 2 72 a n (clFlat l)] (fun _ : {l' : List Cl // SortOf l l'} => .tuple #[]) (fun _ => []) (fun x => [rowS 2 72 a n (clFlat x.1)]) := by
  subst hn
  intro ok w hok hs
  have hown : w.ownsRow 0 72 2 (sl a l.length) l.length (clFlat l) := hs.res _ List.mem_cons_self w (fun _ _ => rfl)
  rcases hown.2 with ⟨h1, h2⟩ | ⟨g, cap, cur, h1, h2, h3, h4, h5, h6, h7⟩
  · have hl : l = [] := List.eq_nil_of_length_eq_zero h2
    subst hl
    have hc := AnyF.slices_SortFunc_none (P := Try.prog) Try.sortL a.1 a.2 (.func (.func 106) #[] #[]) w
    have hc2 : Calls Try.prog 105 #[sl a 0, .func (.func 106) #[] #[]] w _ := hc
    refine hc2.mono ?_
    rintro e w' ⟨he, hw⟩
    subst hw
    exact ⟨⟨[], List.Perm.refl _, List.Pairwise.nil⟩, he, hs⟩
  · obtain ⟨ao, ac⟩ := a
    have e1 : ao = some ⟨g, 0, none⟩ := by injection h1
    have e2 : ac = cap := by injection h1
    subst e1; subst e2
    have hfl : cur.toList = clFlat l ++ cur.toList.drop (l.length * 2) := by
      have := List.take_append_drop (l.length * 2) cur.toList
      rw [h7] at this; exact this.symm
    have hbox : St ⟨ok, domAll [rowS 2 72 (some ⟨g, 0, none⟩, ac) l.length (clFlat l)], w⟩ [] [boxR g (clFlat l ++ cur.toList.drop (l.length * 2)) 72] w := by
      refine hs.turn (m' := boxR g (clFlat l ++ cur.toList.drop (l.length * 2)) 72) (Chg.refl _ _) (fun w2 hw2 => ?_) (fun b hb => ?_)
      · show w2.heap[g]? = _
        rw [hw2 g rfl, ← hfl, Array.toArray_toList]; exact h3
      · have hb : b = g := hb
        subst hb
        exact ⟨(Array.getElem?_eq_some_iff.mp h3).1, .inl rfl⟩
    have hdom : ∀ b, domAll [rowS 2 72 (some ⟨g, 0, none⟩, ac) l.length (clFlat l)] b ↔ domAll [boxR g (clFlat l ++ cur.toList.drop (l.length * 2)) 72] b := by
      intro b
      rw [domAll_cons, domAll_cons]
      have : (rowS 2 72 (some ⟨g, 0, none⟩, ac) l.length (clFlat l)).dom b ↔ b = g := by
        show (sl (some ⟨g, 0, none⟩, ac) l.length).ownBlock = some b ↔ b = g
        simp only [sl, Value.ownBlock, Option.some.injEq]
        exact eq_comm
      rw [this]; rfl
    have hd2 : domAll [rowS 2 72 (some ⟨g, 0, none⟩, ac) l.length (clFlat l)] = domAll [boxR g (clFlat l ++ cur.toList.drop (l.length * 2)) 72] := funext fun b => propext (hdom b)
    rw [hd2] at hbox
    refine (sort_spec l g ac (cur.toList.drop (l.length * 2)) (by unfold reach at hb; omega) ok w (fun b hb => ⟨(hok b hb).1, by rw [← hd2]; exact (hok b hb).2⟩) hbox).mono ?_
    rintro e w' ⟨x, he, hs'⟩
    refine ⟨⟨x.1, x.2.1, x.2.2⟩, he, ?_⟩
    rw [hd2]
    have hlen : x.1.length = l.length := x.2.1.length_eq
    have hg : w'.heap[g]? = some (.cells (clFlat x.1 ++ cur.toList.drop (l.length * 2)).toArray 72 (0, 0)) := hs'.res _ List.mem_cons_self w' (fun _ _ => rfl)
    have hfl2 : (clFlat x.1).length = l.length * 2 := by rw [flat_len clCells_len, hlen]
    refine hs'.turn (m' := rowS 2 72 (some ⟨g, 0, none⟩, ac) l.length (clFlat x.1)) (Chg.refl _ _) (fun w2 hw2 => ⟨hfl2, .inr ⟨g, ac, (clFlat x.1 ++ cur.toList.drop (l.length * 2)).toArray, rfl, Nat.zero_le _, ?_, h4, h5, ?_, ?_⟩⟩) (fun b hb => ?_)
    · rw [hw2 g rfl]; exact hg
    · have h8 : cur.toList.length = ac * 2 := by simpa using h6
      simp only [List.size_toArray, List.length_append, List.length_drop, hfl2, h8]
      omega
    · rw [← hfl2, List.take_left]
    · have hb : (sl (some ⟨g, 0, none⟩, ac) l.length).ownBlock = some b := hb
      simp only [sl, Value.ownBlock, Option.some.injEq] at hb
      subst hb
      exact ⟨(Array.getElem?_eq_some_iff.mp hg).1, .inl rfl⟩

theorem least_spec (l : List Cl) (a : SH) : Spec Try.prog 93 #[sl a l.length] [CL l a] [] (fun x : {x : SH × Int × List Cl // LeastIs l x.2} => .tuple #[sl x.1.1 x.1.2.2.length, .int .i64 x.1.2.1]) (fun x => [CL x.1.2.2 x.1.1]) (fun _ => []) := by
  refine spec_go (args := [sl a l.length]) Try.func93 Try.ntmps93 rfl (by exact Nat.le_of_ble_eq_true rfl) fun B hB => ?_
  refine go_openCL (l := l) (a := a) (fun hl1 hA1 hU1 => ?_)
  refine go_seq ?_
  refine go_region ⟨_, Try.func93⟩ rfl ?_
  refine q0 rfl (o_assign ?_)
  refine q0 rfl (o_assign ?_)
  refine rg_nil ?_
  refine go_seq ?_
  refine go_region ⟨_, Try.func93⟩ rfl ?_
  refine q0 rfl (o_makeMap fun b12 => ?_)
  refine q0 rfl (o_assign ?_)
  refine rg_nil ?_
  refine go_seq ?_
  refine go_region ⟨_, Try.func93⟩ rfl ?_
  refine q0 rfl (o_new fun b5 => ?_)
  refine rg_nil ?_
  refine go_seq ?_
  refine go_seq ?_
  refine go_region ⟨_, Try.func93⟩ rfl ?_
  refine q0 rfl (o_move ?_)
  refine q0 rfl (o_len ?_)
  refine q0 rfl (o_move ?_)
  refine rg_nil ?_
  refine go_block ?_
  refine go_loopI (X := Nat × SH) (fun s => s.1 ≤ l.length ∧ ∀ j, j < s.1 → right24 (l.getD j cl0) = true) (fun s => [(4, .map (some b12)), (5, .pointer (some ⟨b5, 0, none⟩)), (13, sl a l.length), (14, .int .i64 (l.length : Int)), (15, .int .i64 (s.1 : Int))]) (fun s => [CL l a]) (fun s => [mapR b12 (once (l.take s.1)), boxR b5 [sl s.2 (once (l.take s.1)).length] 27, rowS 2 72 s.2 (once (l.take s.1)).length (clFlat (once (l.take s.1)))]) (fun s => l.length - s.1) ((0, (none, 0))) (⟨Nat.zero_le _, fun j hj => absurd hj (Nat.not_lt_zero _)⟩) (by exact ⟨rfl, rfl, rfl, rfl, rfl, trivial⟩) ?_ ?_
  · exact fun w hs => ((hs.less (by simp)).rowS0 2 72).perm (perm2.trans ((List.Perm.swap _ _ _).cons _))
  · intro ⟨i, aO⟩ base0 ⟨hi, hok⟩ next0
    dsimp only at hi hok next0 ⊢
    refine go_seq ?_
    refine go_region ⟨_, Try.func93⟩ rfl ?_
    refine q0 rfl (o_lss ?_)
    refine rg_nil ?_
    refine go_seq ?_
    refine go_condI (fun h16 => ?_) (fun h16 => ?_)
    · have hlt : i < l.length := by have := of_decide_eq_true h16; omega
      obtain ⟨bk, o, hav⟩ := hA1 (by omega)
      have hu := hU1 _ (getD_mem (d := cl0) hlt)
      have hol := once_take_len l i
      refine go_skip ?_
      refine go_seq ?_
      refine go_block ?_
      refine go_seq ?_
      refine go_region ⟨_, Try.func93⟩ rfl ?_
      refine q0 rfl (o_ixN ?_)
      refine q0 rfl (o_ldC ?_)
      refine q0 rfl (o_new fun b7 => ?_)
      refine q0 rfl (o_st ?_)
      refine rg_nil ?_
      refine go_seq ?_
      refine go_seq ?_
      refine go_region ⟨_, Try.func93⟩ rfl ?_
      refine q0 rfl (o_lds ?_)
      refine q0 rfl (o_call Try.call101 (clauseRight_spec (l.getD i cl0) hu) (fun x20 => ?_))
      refine q0 rfl (o_not ?_)
      refine rg_nil ?_
      refine go_condI (fun h21 => ?_) (fun h21 => ?_)
      · have hr : right24 (l.getD i cl0) = false := by simpa using h21
        refine go_seq ?_
        refine go_region ⟨_, Try.func93⟩ rfl ?_
        refine q0 rfl (o_assign ?_)
        refine q0 rfl (o_assign ?_)
        refine rg_nil ?_
        refine ret2 Try.func93 Try.results93 (by first | ((conv => lhs; whnf); done) | rfl) (by first | ((conv => lhs; whnf); done) | rfl) ⟨((none, 0), 2, []), by (unfold LeastIs; rw [all_not hlt hr]; rfl)⟩ rfl (fun w hs => (hs.nilCL 0).bare.less (by simp))
      · have hr : right24 (l.getD i cl0) = true := by simpa using h21
        refine go_skip ?_
        refine go_seq ?_
        refine go_region ⟨_, Try.func93⟩ rfl ?_
        refine q0 rfl (o_move ?_)
        refine q0 rfl (o_lds ?_)
        refine q0 rfl (o_lookupM ?_)
        refine q0 rfl (o_not ?_)
        refine rg_nil ?_
        refine go_condI (fun h25 => ?_) (fun h25 => ?_)
        · have hnin : l.getD i cl0 ∉ once (l.take i) := by simpa using h25
          refine go_seq ?_
          refine go_region ⟨_, Try.func93⟩ rfl ?_
          refine q0 rfl (o_move ?_)
          refine q0 rfl (o_lds ?_)
          refine q0 rfl (o_mapUpd ?_)
          refine rg_nil ?_
          refine go_region ⟨_, Try.func93⟩ rfl ?_
          refine q0 rfl (o_ld ?_)
          refine q0 rfl (o_lds ?_)
          refine q0 rfl (o_lit1 fun b30 => ?_)
          refine q0 rfl (o_appS (fun a31 => ?_)  )
          refine q0 rfl (o_st ?_)
          refine rg_nil ?_
          refine go_inBlock ?_
          refine go_region ⟨_, Try.func93⟩ rfl ?_
          refine q0 rfl (o_add ?_)
          refine q0 rfl (o_move ?_)
          refine rg_nil ?_
          have hst := once_take_succ hlt
          rw [if_neg hnin] at hst
          have hlen' : (once (l.take (i + 1))).length = (once (l.take i)).length + 1 := by rw [hst]; simp
          refine go_state (fun w hs => ?_) (next0 (i + 1, a31) _ ⟨hlt, fun j hj => (by rcases Nat.lt_succ_iff_lt_or_eq.mp hj with h | h; exact hok j h; subst h; exact hr)⟩ (by simp only; omega) ⟨rfl, rfl, rfl, rfl, rfl, trivial⟩)
          dsimp only
          rw [hlen', hst, clFlat_snoc]
          exact ((hs.less (by simp)).perm perm3).dropR (A := [_, _, _])
        · refine go_skip ?_
          refine go_inBlock ?_
          refine go_region ⟨_, Try.func93⟩ rfl ?_
          refine q0 rfl (o_add ?_)
          refine q0 rfl (o_move ?_)
          refine rg_nil ?_
          have hin : l.getD i cl0 ∈ once (l.take i) := by simpa using h25
          have hst := once_take_succ hlt
          rw [if_pos hin] at hst
          refine go_state (fun w hs => ?_) (next0 (i + 1, aO) _ ⟨hlt, fun j hj => (by rcases Nat.lt_succ_iff_lt_or_eq.mp hj with h | h; exact hok j h; subst h; exact hr)⟩ (by simp only; omega) ⟨rfl, rfl, rfl, rfl, rfl, trivial⟩)
          dsimp only
          rw [hst]
          exact (hs.less (by simp)).drop
    · have hge : i = l.length := by have := of_decide_eq_false h16; omega
      have hall : l.all right24 = true := all_of (by rw [← hge]; exact hok)
      subst hge
      rw [List.take_length]
      have hUo : ∀ c, c ∈ once l → u32 c := fun c hc => hU1 c ((once_mem c l).mp hc)
      have hol := once_len l
      refine go_state (fun w hs => ((hs.perm perm2).settleCL hB rfl rfl (by omega) hUo)) ?_
      refine go_exit rfl ?_
      refine go_seq ?_
      refine go_region ⟨_, Try.func93⟩ rfl ?_
      refine q0 rfl (o_func ?_)
      refine q0 rfl (o_assign ?_)
      refine rg_nil ?_
      refine go_seq ?_
      refine go_region ⟨_, Try.func93⟩ rfl ?_
      refine q0 rfl (o_assign ?_)
      refine rg_nil ?_
      refine go_seq ?_
      refine go_seq ?_
      refine go_region ⟨_, Try.func93⟩ rfl ?_
      refine q0 rfl (o_ld ?_)
      refine q0 rfl (o_len ?_)
      refine q0 rfl (o_move ?_)
      refine rg_nil ?_
      refine go_block ?_
      refine go_loopI (X := Nat × SH) (fun s => s.1 ≤ (once l).length) (fun s => [(8, .func (.func 102) #[] [.pointer (some ⟨b5, 0, none⟩)].toArray), (9, sl s.2 (keptUpto l s.1).length), (34, sl aO (once l).length), (35, .int .i64 ((once l).length : Int)), (36, .int .i64 (s.1 : Int))]) (fun s => [CL (once l) aO]) (fun s => [boxR b5 [sl aO (once l).length] 27, rowS 2 72 s.2 (keptUpto l s.1).length (clFlat (keptUpto l s.1))]) (fun s => (once l).length - s.1) ((0, (none, 0))) (Nat.zero_le _) (by exact ⟨rfl, rfl, rfl, rfl, rfl, trivial⟩) ?_ ?_
      · exact fun w hs => (((hs.less (by simp +contextual)).rowS0 2 72).perm perm2).dropR (A := [_, _])
      · intro ⟨i, aK⟩ base1 hi next1
        dsimp only at hi next1 ⊢
        refine go_seq ?_
        refine go_region ⟨_, Try.func93⟩ rfl ?_
        refine q0 rfl (o_lss ?_)
        refine rg_nil ?_
        refine go_seq ?_
        refine go_condI (fun h37 => ?_) (fun h37 => ?_)
        · have hlt : i < (once l).length := by have := of_decide_eq_true h37; omega
          refine go_openCL (l := once l) (a := aO) (fun _ hA2 _ => ?_)
          obtain ⟨bk, o, hav⟩ := hA2 (by omega)
          have hu := hUo _ (getD_mem (d := cl0) hlt)
          have hkl := keptUpto_len l i
          refine go_skip ?_
          refine go_seq ?_
          refine go_block ?_
          refine go_seq ?_
          refine go_region ⟨_, Try.func93⟩ rfl ?_
          refine q0 rfl (o_ixN ?_)
          refine q0 rfl (o_ldC ?_)
          refine q0 rfl (o_new fun b11 => ?_)
          refine q0 rfl (o_st ?_)
          refine rg_nil ?_
          refine go_seq ?_
          refine go_region ⟨_, Try.func93⟩ rfl ?_
          refine q0 rfl (o_move ?_)
          refine q0 rfl (o_lds ?_)
          refine q0 rfl (o_callC Try.call102 (least1_spec (once l) aO ((once l).getD i cl0) hu b5) (cap := [.pointer (some ⟨b5, 0, none⟩)]) (fun x42 => ?_))
          refine q0 rfl (o_not ?_)
          refine rg_nil ?_
          refine go_condI (fun h43 => ?_) (fun h43 => ?_)
          · refine go_region ⟨_, Try.func93⟩ rfl ?_
            refine q0 rfl (o_move ?_)
            refine q0 rfl (o_lds ?_)
            refine q0 rfl (o_lit1 fun b46 => ?_)
            refine q0 rfl (o_appS (fun a47 => ?_)  )
            refine q0 rfl (o_assign ?_)
            refine rg_nil ?_
            refine go_inBlock ?_
            refine go_region ⟨_, Try.func93⟩ rfl ?_
            refine q0 rfl (o_add ?_)
            refine q0 rfl (o_move ?_)
            refine rg_nil ?_
            have hnd : needless (once l) ((once l).getD i cl0) = false := by simpa using h43
            have hst := keptUpto_succ hlt
            rw [hnd, if_neg (by decide)] at hst
            have hlen' : (keptUpto l (i + 1)).length = (keptUpto l i).length + 1 := by rw [hst]; simp
            refine go_state (fun w hs => ?_) (next1 (i + 1, a47) _ hlt (by simp only; omega) ⟨rfl, by rw [hlen']; rfl, rfl, rfl, rfl, trivial⟩)
            dsimp only
            rw [hlen', hst, clFlat_snoc]
            exact ((hs.less (by simp)).perm perm2).dropR (A := [_, _])
          · refine go_skip ?_
            refine go_inBlock ?_
            refine go_region ⟨_, Try.func93⟩ rfl ?_
            refine q0 rfl (o_add ?_)
            refine q0 rfl (o_move ?_)
            refine rg_nil ?_
            have hnd : needless (once l) ((once l).getD i cl0) = true := by simpa using h43
            have hst := keptUpto_succ hlt
            rw [hnd, if_pos rfl] at hst
            refine go_state (fun w hs => ?_) (next1 (i + 1, aK) _ hlt (by simp only; omega) ⟨rfl, by rw [hst]; rfl, rfl, rfl, rfl, trivial⟩)
            dsimp only
            rw [hst]
            exact (hs.less (by simp)).dropR (A := [_, _])
        · have hge2 : i = (once l).length := by have := of_decide_eq_false h37; omega
          subst hge2
          rw [keptUpto_all]
          refine go_exit rfl ?_
          refine go_seq ?_
          refine go_seq ?_
          refine go_region ⟨_, Try.func93⟩ rfl ?_
          refine q0 rfl (o_move ?_)
          refine q0 rfl (o_len ?_)
          refine q0 rfl (o_gtr ?_)
          refine rg_nil ?_
          refine go_condI (fun h51 => ?_) (fun h51 => ?_)
          · have h64 : 64 < (kept l).length := by have := of_decide_eq_true h51; omega
            refine go_seq ?_
            refine go_region ⟨_, Try.func93⟩ rfl ?_
            refine q0 rfl (o_assign ?_)
            refine q0 rfl (o_assign ?_)
            refine rg_nil ?_
            refine ret2 Try.func93 Try.results93 (by first | ((conv => lhs; whnf); done) | rfl) (by first | ((conv => lhs; whnf); done) | rfl) ⟨((none, 0), 3, []), by (unfold LeastIs; rw [hall, if_neg (by decide), if_pos h64])⟩ rfl (fun w hs => (hs.nilCL 0).bare.less (by simp))
          · have h64 : ¬ 64 < (kept l).length := by have := of_decide_eq_false h51; omega
            refine go_skip ?_
            refine go_seq ?_
            refine go_region ⟨_, Try.func93⟩ rfl ?_
            refine q0 rfl (o_move ?_)
            refine q0 rfl (o_call Try.call105 (sortRow_spec (kept l) aK (kept l).length rfl (by unfold reach; omega)) (fun x53 => ?_))
            refine rg_nil ?_
            refine go_seq ?_
            refine go_region ⟨_, Try.func93⟩ rfl ?_
            refine q0 rfl (o_move ?_)
            refine q0 rfl (o_assign ?_)
            refine q0 rfl (o_assign ?_)
            refine rg_nil ?_
            have hpl : x53.1.length = (kept l).length := x53.2.1.length_eq
            refine ret2 Try.func93 Try.results93 (by first | ((conv => lhs; whnf); done) | rfl) (by first | ((conv => lhs; whnf); done) | rfl) ⟨(aK, 0, x53.1), by (unfold LeastIs; rw [hall, if_neg (by decide), if_neg h64]; exact ⟨rfl, x53.2⟩)⟩ (by rw [hpl]; rfl) (fun w hs => ?_)
            exact ((hs.settleCL (l := x53.1) hB rfl hpl.symm (by unfold reach; omega) (fun c hc => hU1 c (kept_mem (x53.2.1.mem_iff.mp hc)))).bare.less (by simp))

end Go.Hy
