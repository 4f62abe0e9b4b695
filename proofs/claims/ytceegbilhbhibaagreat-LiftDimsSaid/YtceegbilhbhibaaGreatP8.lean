/- Contracts of this program's functions and the laws that they need: a separation logic over the machine's rules, one theorem each (partly printed by a program of this repository). -/
import Derived.Test.YtceegbilhbhibaaGreatP2
import Derived.Test.YtceegbilhbhibaaGreatP3
import Derived.Test.YtceegbilhbhibaaGreatP4
import Derived.Test.YtceegbilhbhibaaGreatP5
import Derived.Test.YtceegbilhbhibaaGreatP6
import Derived.Test.YtceegbilhbhibaaGreatP7
namespace Go.Hy
set_option linter.unusedVariables false
set_option linter.unusedSimpArgs false
set_option linter.unusedSectionVars false
open Go.Proofs
set_option linter.unusedVariables false
set_option linter.unusedSimpArgs false
set_option maxRecDepth 100000
theorem rlistO (s : Nat) (hs : s < 4294967296) : Spec Tryz.prog 86 #[.int .u32 ((s : Nat) : Int)] [] [] (fun x : SH => sl x (listM s).length) (fun x : SH => []) (fun x : SH => [rowS 1 3 x (listM s).length (intFlat (listM s))]) := by
  refine spec_go (args := [.int .u32 ((s : Nat) : Int)]) Tryz.func86 Tryz.ntmps86 rfl (by exact Nat.le_of_ble_eq_true rfl) fun B hB => ?_
  refine go_seq ?_
  refine go_region ⟨_, Tryz.func86⟩ rfl ?_
  refine q0 rfl (o_assign ?_)
  refine rg_nil ?_
  refine go_seq ?_
  refine go_region ⟨_, Tryz.func86⟩ rfl ?_
  refine q0 rfl (o_assign ?_)
  refine rg_nil ?_
  refine go_seq ?_
  refine go_seq ?_
  refine go_region ⟨_, Tryz.func86⟩ rfl ?_
  refine q0 rfl (o_assign ?_)
  refine rg_nil ?_
  refine go_block ?_
  refine go_loopE (X := Nat × SH) (fun s_ => s_.1 ≤ 24) (fun s_ => [(0, .int .u32 ((s : Nat) : Int)), (3, sl s_.2 ((listTo s s_.1).length)), (4, .int .i64 ((s_.1 : Int)))]) (fun s_ G_ => G_) (fun s_ => [rowS 1 3 s_.2 ((listTo s s_.1).length) (intFlat (listTo s s_.1))]) (fun s_ => 24 - s_.1) (0, (none, 0)) (by omega) (by exact ⟨rfl, rfl, rfl, trivial⟩) ?_ ?_
  · exact fun w hs => (hs.rowS0 1 3)
  · intro ⟨i, a⟩ base0 hi0 next0
    dsimp only at hi0 next0 ⊢
    have hln := listTo_len s i
    refine go_seq ?_
    refine go_seq ?_
    refine go_region ⟨_, Tryz.func86⟩ rfl ?_
    refine q0 rfl (o_move ?_)
    refine q0 rfl (o_lss ?_)
    refine rg_nil ?_
    refine go_condI (fun h6 => ?_) (fun h6 => ?_)
    · have c6 : (decide ((i : Int) < 24)) = true := h6
      try simp only [sC, bne_iff_ne, beq_iff_eq, ne_eq] at c6
      refine go_skip ?_
      refine go_seq ?_
      refine go_block ?_
      refine go_seq ?_
      refine go_region ⟨_, Tryz.func86⟩ rfl ?_
      refine q0 rfl (o_move ?_)
      refine q0 rfl (o_move ?_)
      refine q0 rfl (o_call Tryz.call109 (rhas s (i : Int) om_) (fun x11 => ?_))
      refine rg_nil ?_
      refine go_condI (fun h11 => ?_) (fun h11 => ?_)
      · have c11 : ((hasM s (i : Int))) = true := h11
        try simp only [sC, bne_iff_ne, beq_iff_eq, ne_eq] at c11
        refine go_region ⟨_, Tryz.func86⟩ rfl ?_
        refine q0 rfl (o_move ?_)
        refine q0 rfl (o_move ?_)
        refine q0 rfl (o_lit1 fun b14 => ?_)
        refine q0 rfl (o_appS (fun a15 => ?_) (a := a) (n' := (listTo s i).length))
        refine rg_state (fun w hs => ((hs.perm perm1).drop).snocI) ?_
        refine q0 rfl (o_assign ?_)
        refine rg_nil ?_
        refine go_inBlock ?_
        refine go_region ⟨_, Tryz.func86⟩ rfl ?_
        refine q0 rfl (o_move ?_)
        refine q0 rfl (o_add ?_)
        refine q0 rfl (o_assign ?_)
        refine rg_nil ?_
        have hnx : listTo s (i + 1) = listTo s i ++ [(i : Int)] := by rw [listTo_succ, if_pos]; simp [hasM] at c11; exact c11.2
        refine go_state (fun w hs => ?_) (next0 (i + 1, a15) _ (by omega) (by (try simp only); omega) ⟨rfl, (by (conv => lhs; whnf); simp [sl, hnx]), rfl, trivial⟩)
        rw [hnx]; simpa using (hs.less (by simp +contextual))
      · have c11 : ((hasM s (i : Int))) = false := h11
        try simp only [sC, bne_iff_ne, beq_iff_eq, ne_eq] at c11
        refine go_skip ?_
        refine go_inBlock ?_
        refine go_region ⟨_, Tryz.func86⟩ rfl ?_
        refine q0 rfl (o_move ?_)
        refine q0 rfl (o_add ?_)
        refine q0 rfl (o_assign ?_)
        refine rg_nil ?_
        have hnx : listTo s (i + 1) = listTo s i := by rw [listTo_succ, if_neg]; simp [hasM] at c11; simp [c11 (by omega)]
        refine go_state (fun w hs => ?_) (next0 (i + 1, a) _ (by omega) (by (try simp only); omega) ⟨rfl, (by (conv => lhs; whnf); simp [sl, hnx]), rfl, trivial⟩)
        rw [hnx]; exact (hs.less (by simp +contextual))
    · have c6 : (decide ((i : Int) < 24)) = false := h6
      try simp only [sC, bne_iff_ne, beq_iff_eq, ne_eq] at c6
      refine go_exit rfl ?_
      refine go_seq ?_
      refine go_region ⟨_, Tryz.func86⟩ rfl ?_
      refine q0 rfl (o_move ?_)
      refine q0 rfl (o_assign ?_)
      refine rg_nil ?_
      have he : i = 24 := by omega
      subst he
      refine ret1 Tryz.func86 Tryz.results86 wn_ a rfl (fun w hs => (hs.less (by simp)))
def shTo (f b : Int) (l : List Int) (k : Nat) : List Int := (l.take k).map (shI f b) ++ l.drop k
theorem shTo_zero (f b : Int) (l : List Int) : shTo f b l 0 = l := by simp [shTo]
theorem shTo_all (f b : Int) (l : List Int) : shTo f b l l.length = l.map (shI f b) := by simp [shTo]
theorem shTo_len (f b : Int) (l : List Int) (k : Nat) : (shTo f b l k).length = l.length := by simp [shTo]; omega
theorem shTo_get {f b : Int} {l : List Int} {k : Nat} (h : k < l.length) : (shTo f b l k).getD k 0 = l.getD k 0 := by
  unfold shTo
  rw [List.getD_eq_getElem?_getD, List.getElem?_append_right (by simp; omega), List.length_map, List.length_take, Nat.min_eq_left (by omega), Nat.sub_self, List.getElem?_drop, Nat.add_zero, List.getD_eq_getElem?_getD]
theorem shTo_succ {f b : Int} {l : List Int} {k : Nat} (h : k < l.length) : shTo f b l (k + 1) = (shTo f b l k).set k (shI f b (l.getD k 0)) := by
  have h1 : ((l.take k).map (shI f b)).length = k := by simp; omega
  unfold shTo
  rw [take_succ_getD (d := 0) h, List.map_append, drop_getD (d := 0) h, List.set_append_right _ _ (by omega), h1, Nat.sub_self]
  simp
theorem shTo_keep {f b : Int} {l : List Int} {k : Nat} (h : k < l.length) (h2 : l.getD k 0 < f) : shTo f b l (k + 1) = shTo f b l k := by
  have h1 : ((l.take k).map (shI f b)).length = k := by simp; omega
  unfold shTo
  rw [take_succ_getD (d := 0) h, List.map_append, drop_getD (d := 0) h]
  simp only [List.map_cons, List.map_nil, List.append_assoc, List.cons_append, List.nil_append]
  rw [show shI f b (l.getD k 0) = l.getD k 0 from if_pos h2]
theorem rmlift (s : Nat) (f : Int) (b : Int) (hs : s < 4294967296) (hf : in64 f) (hb : in64 b) : Spec Tryz.prog 106 #[.int .u32 ((s : Nat) : Int), .int .i64 (f), .int .i64 (b)] [] [] (fun _ : Unit => .tuple #[.int .u32 (((maskLift s f b).2 : Nat) : Int), .int .i64 ((maskLift s f b).1)]) (fun _ : Unit => []) (fun _ : Unit => []) := by
  refine spec_go (args := [.int .u32 ((s : Nat) : Int), .int .i64 (f), .int .i64 (b)]) Tryz.func106 Tryz.ntmps106 rfl (by exact Nat.le_of_ble_eq_true rfl) fun B hB => ?_
  refine go_seq ?_
  refine go_region ⟨_, Tryz.func106⟩ rfl ?_
  refine q0 rfl (o_assign ?_)
  refine q0 rfl (o_assign ?_)
  refine rg_nil ?_
  refine go_seq ?_
  refine go_seq ?_
  refine go_cutS ([(0, .int .u32 ((s : Nat) : Int)), (1, .int .i64 (f)), (2, .int .i64 (b)), (15, .bool ((decide (f < 0)) || (decide (b < 0))))]) (fun hK => ?_) (fun base => ?_)
  · refine go_region ⟨_, Tryz.func106⟩ rfl ?_
    refine q0 rfl (o_move ?_)
    refine q0 rfl (o_lss ?_)
    refine q0 rfl (o_move ?_)
    refine qI rfl rfl rfl wl_ (fun hg12 => ?_) (fun hg12 => ?_)
    · have g12 : (decide (f < 0)) = false := hg12
      try simp only [sC, bne_iff_ne, beq_iff_eq, ne_eq] at g12
      refine o_move ?_
      refine qT rfl rfl rfl (o_lss ?_)
      refine q0 rfl (o_pickF ?_)
      refine rg_nil ?_
      exact hK _ ⟨rfl, rfl, rfl, dn_, trivial⟩
    · have g12 : (decide (f < 0)) = true := hg12
      try simp only [sC, bne_iff_ne, beq_iff_eq, ne_eq] at g12
      refine qF rfl rfl rfl ?_
      refine q0 rfl (o_pickT ?_)
      refine rg_nil ?_
      exact hK _ ⟨rfl, rfl, rfl, dn_, trivial⟩
  · refine go_condI (fun h15 => ?_) (fun h15 => ?_)
    · have c15 : ((decide (f < 0)) || (decide (b < 0))) = true := h15
      try simp only [sC, bne_iff_ne, beq_iff_eq, ne_eq] at c15
      have hg : maskLift s f b = (2, 0) := (by unfold maskLift; rw [if_pos (by simpa using h15)])
      refine go_seq ?_
      refine go_region ⟨_, Tryz.func106⟩ rfl ?_
      refine q0 rfl (o_assign ?_)
      refine q0 rfl (o_assign ?_)
      refine rg_nil ?_
      refine ret2 Tryz.func106 Tryz.results106 wn_ wn_ () (by rw [hg]; rfl) (fun w hs => hs.none)
    · have c15 : ((decide (f < 0)) || (decide (b < 0))) = false := h15
      try simp only [sC, bne_iff_ne, beq_iff_eq, ne_eq] at c15
      have h0 : 0 ≤ f ∧ 0 ≤ b := (by have h9 := h15; simp at h9; omega)
      refine go_skip ?_
      refine go_seq ?_
      refine go_region ⟨_, Tryz.func106⟩ rfl ?_
      refine q0 rfl (o_move ?_)
      refine q0 rfl (o_call Tryz.call86 (rlistO s om_) (fun x17 => ?_))
      refine q0 rfl (o_assign ?_)
      refine rg_nil ?_
      refine go_seq ?_
      refine go_seq ?_
      refine go_region ⟨_, Tryz.func106⟩ rfl ?_
      refine q0 rfl (o_assign ?_)
      refine rg_nil ?_
      refine go_block ?_
      refine go_loopE (X := Nat) (fun s_ => s_ ≤ (listM s).length ∧ ∀ j, j < s_ → (listM s).getD j 0 < f ∨ (listM s).getD j 0 + b < 24) (fun s_ => [(1, .int .i64 (f)), (2, .int .i64 (b)), (8, sl x17 ((listM s).length)), (9, .int .i64 ((s_ : Int)))]) (fun s_ G_ => G_) (fun s_ => [rowS 1 3 x17 ((listM s).length) (intFlat (shTo f b (listM s) s_))]) (fun s_ => (listM s).length - s_) (0) (⟨by omega, fun j hj => absurd hj (Nat.not_lt_zero _)⟩) (by exact ⟨rfl, rfl, rfl, rfl, trivial⟩) ?_ ?_
      · exact fun w hs => by rw [shTo_zero]; exact hs
      · intro k base0 ⟨hk, hok⟩ next0
        have hsl := shTo_len f b (listM s) k
        have hlm : (listM s).length ≤ 24 := listTo_len s 24
        refine go_seq ?_
        refine go_seq ?_
        refine go_region ⟨_, Tryz.func106⟩ rfl ?_
        refine q0 rfl (o_move ?_)
        refine q0 rfl (o_move ?_)
        refine q0 rfl (o_len ?_)
        refine q0 rfl (o_lss ?_)
        refine rg_nil ?_
        refine go_condI (fun h21 => ?_) (fun h21 => ?_)
        · have c21 : (decide ((k : Int) < ((listM s).length : Int))) = true := h21
          try simp only [sC, bne_iff_ne, beq_iff_eq, ne_eq] at c21
          have hget := shTo_get (f := f) (b := b) (show k < (listM s).length by omega)
          have hxm : 0 ≤ (shTo f b (listM s) k).getD k 0 ∧ (shTo f b (listM s) k).getD k 0 < 24 := (by rw [hget]; exact listTo_in (s := s) (n := 24) (getD_mem (d := 0) (show k < (listM s).length by omega)))
          refine go_skip ?_
          refine go_seq ?_
          refine go_block ?_
          refine go_seq ?_
          refine go_seq ?_
          refine go_know (fun w hs => hs.rowAddr (sz := 1) (e := 3) (a := x17) (n := ((listM s).length)) (xs := intFlat (shTo f b (listM s) k)) mm_ (by omega)) (fun hav1 => ?_)
          obtain ⟨bk1, hav1⟩ := hav1
          refine go_region ⟨_, Tryz.func106⟩ rfl ?_
          refine q0 rfl (o_move ?_)
          refine q0 rfl (o_move ?_)
          refine q0 rfl (o_ixN ?_ (j := k))
          refine q0 rfl (o_ldRI ?_)
          refine q0 rfl (o_move ?_)
          refine q0 rfl (o_lss ?_)
          refine rg_nil ?_
          refine go_condI (fun h29 => ?_) (fun h29 => ?_)
          · have c29 : (decide (((shTo f b (listM s) k).getD k 0) < f)) = true := h29
            try simp only [sC, bne_iff_ne, beq_iff_eq, ne_eq] at c29
            refine go_exit rfl ?_
            refine go_region ⟨_, Tryz.func106⟩ rfl ?_
            refine q0 rfl (o_move ?_)
            refine q0 rfl (o_add ?_)
            refine q0 rfl (o_assign ?_)
            refine rg_nil ?_
            refine go_state (fun w hs => ?_) (next0 (k + 1) _ (⟨by omega, fun j hj => by rcases Nat.lt_succ_iff_lt_or_eq.mp hj with h | h; exact hok j h; subst h; exact .inl (by rw [← hget]; simpa using h29)⟩) (by omega) ⟨rfl, rfl, rfl, rfl, trivial⟩)
            rw [shTo_keep (by omega) (by rw [← hget]; simpa using h29)]; exact (hs.less (by simp +contextual))
          · have c29 : (decide (((shTo f b (listM s) k).getD k 0) < f)) = false := h29
            try simp only [sC, bne_iff_ne, beq_iff_eq, ne_eq] at c29
            refine go_skip ?_
            refine go_seq ?_
            refine go_seq ?_
            refine go_region ⟨_, Tryz.func106⟩ rfl ?_
            refine q0 rfl (o_move ?_)
            refine q0 rfl (o_move ?_)
            refine q0 rfl (o_move ?_)
            refine q0 rfl (o_ixN ?_ (j := k))
            refine q0 rfl (o_ldRI ?_)
            refine q0 rfl (o_sub ?_)
            refine q0 rfl (o_geq ?_)
            refine rg_nil ?_
            refine go_condI (fun h36 => ?_) (fun h36 => ?_)
            · have c36 : (decide ((24 - ((shTo f b (listM s) k).getD k 0)) ≤ b)) = true := h36
              try simp only [sC, bne_iff_ne, beq_iff_eq, ne_eq] at c36
              have hg : maskLift s f b = (10, 0) := mask_bad h0.1 h0.2 (getD_mem (d := 0) (show k < (listM s).length by omega)) (by rw [← hget]; omega) (by rw [← hget]; omega)
              refine go_seq ?_
              refine go_region ⟨_, Tryz.func106⟩ rfl ?_
              refine q0 rfl (o_assign ?_)
              refine q0 rfl (o_assign ?_)
              refine rg_nil ?_
              refine ret2 Tryz.func106 Tryz.results106 wn_ wn_ () (by rw [hg]; rfl) (fun w hs => hs.none)
            · have c36 : (decide ((24 - ((shTo f b (listM s) k).getD k 0)) ≤ b)) = false := h36
              try simp only [sC, bne_iff_ne, beq_iff_eq, ne_eq] at c36
              refine go_skip ?_
              refine go_region ⟨_, Tryz.func106⟩ rfl ?_
              refine q0 rfl (o_move ?_)
              refine q0 rfl (o_move ?_)
              refine q0 rfl (o_move ?_)
              refine q0 rfl (o_move ?_)
              refine q0 rfl (o_ixN ?_ (j := k))
              refine q0 rfl (o_ldRI ?_)
              refine q0 rfl (o_move ?_)
              refine q0 rfl (o_add ?_)
              refine q0 rfl (o_ixN ?_ (j := k))
              refine q0 rfl (o_srI (((shTo f b (listM s) k).getD k 0) + b) ?_ (ls := (shTo f b (listM s) k)) (i' := k))
              refine rg_nil ?_
              refine go_inBlock ?_
              refine go_region ⟨_, Tryz.func106⟩ rfl ?_
              refine q0 rfl (o_move ?_)
              refine q0 rfl (o_add ?_)
              refine q0 rfl (o_assign ?_)
              refine rg_nil ?_
              refine go_state (fun w hs => ?_) (next0 (k + 1) _ (⟨by omega, fun j hj => by rcases Nat.lt_succ_iff_lt_or_eq.mp hj with h | h; exact hok j h; subst h; exact .inr (by rw [← hget]; omega)⟩) (by omega) ⟨rfl, rfl, rfl, rfl, trivial⟩)
              rw [shTo_succ (by omega), show shI f b ((listM s).getD k 0) = (shTo f b (listM s) k).getD k 0 + b from by rw [hget]; exact if_neg (by rw [← hget]; omega)]; exact (hs.less (by simp +contextual))
        · have c21 : (decide ((k : Int) < ((listM s).length : Int))) = false := h21
          try simp only [sC, bne_iff_ne, beq_iff_eq, ne_eq] at c21
          have hke : k = (listM s).length := by omega
          have hall : ∀ x, x ∈ listM s → x < f ∨ x + b < 24 := fun x hx => (by obtain ⟨j, hj, rfl⟩ := mem_getD (d := 0) hx; exact hok j (by omega))
          have hg : maskLift s f b = (0, setM ((listM s).map (shI f b))) := mask_good h0.1 h0.2 hall
          have hin : ∀ c, c ∈ shTo f b (listM s) k → 0 ≤ c ∧ c < 24 := fun c hc => (by rw [hke, shTo_all, List.mem_map] at hc; obtain ⟨y, hy, rfl⟩ := hc; have h8 := listTo_in hy; rcases hall y hy with h9 | h9 <;> (unfold shI; split <;> omega))
          have hval : shTo f b (listM s) k = (listM s).map (shI f b) := (by rw [hke, shTo_all])
          refine go_exit rfl ?_
          refine go_seq ?_
          refine go_state (fun w hs => (hs.settleIL (l := shTo f b (listM s) k) hB rfl (shTo_len _ _ _ _).symm (by unfold reach; omega) (fun c hc => by have h9 := hin c hc; unfold in64; omega))) ?_
          refine go_region ⟨_, Tryz.func106⟩ rfl ?_
          refine q0 rfl (o_move ?_)
          refine q0 rfl (o_call Tryz.call110 ((by have h := rset (shTo f b (listM s) k) x17 (by rw [hsl]; omega) hin; rw [hsl] at h; exact h)) (fun x47 => ?_))
          refine q0 rfl (o_assign ?_)
          refine q0 rfl (o_assign ?_)
          refine rg_nil ?_
          refine ret2 Tryz.func106 Tryz.results106 wn_ wn_ () (by rw [hg, hval]) (fun w hs => hs.none)
end Go.Hy
namespace Go.Hy
set_option linter.unusedVariables false
set_option linter.unusedSimpArgs false
set_option linter.unusedSectionVars false
open Go.Proofs
set_option linter.unusedVariables false
set_option linter.unusedSimpArgs false
set_option maxRecDepth 100000
theorem rsize_walk (t : T) (vr vk vs : SH) (hsz : size t ≤ 1152921504606846976) (ih : ∀ p, p ∈ parts t → size p.1 ≤ 1152921504606846976 → ∀ vr vk vs, Spec Tryz.prog 63 #[.agg (tc p.1 vr vk vs).toArray] [RT p.1 vr vk vs] [] (fun _ : Unit => .int .i64 (size p.1 : Int)) (fun _ => []) (fun _ => [])) : Spec Tryz.prog 63 #[.agg (tc t vr vk vs).toArray] [RT t vr vk vs] [] (fun _ : Unit => .int .i64 (size t : Int)) (fun _ => []) (fun _ => []) := by
  refine spec_go (args := [.agg (tc t vr vk vs).toArray]) Tryz.func63 Tryz.ntmps63 rfl (by exact Nat.le_of_ble_eq_true rfl) fun B hB => ?_
  refine go_open (fun hk hn hnm => ?_)
  refine go_openTL (ts := t.kids) (fun VR VK VS hl1 hA1 => ?_)
  refine go_openBL (bs := t.sys) (fun VF VK2 hl2 hA2 => ?_)
  have hpl := parts_length t
  refine go_seq ?_
  refine go_region ⟨_, Tryz.func63⟩ rfl ?_
  refine q0 rfl (o_box fun b1 => ?_)
  refine q0 rfl (o_assign ?_)
  refine rg_nil ?_
  refine go_seq ?_
  refine go_region ⟨_, Tryz.func63⟩ rfl ?_
  refine q0 rfl (o_assign ?_)
  refine rg_nil ?_
  refine go_seq ?_
  refine go_seq ?_
  refine go_region ⟨_, Tryz.func63⟩ rfl ?_
  refine q0 rfl (o_assign ?_)
  refine rg_nil ?_
  refine go_block ?_
  refine go_loopI (X := Nat) (fun i => i ≤ t.kids.length) (fun i => [(1, .pointer (some ⟨b1, 0, none⟩)), (3, .int .i64 (sizeUpto t i : Int)), (4, .int .i64 (i : Int))]) (fun i => [TLx t.kids vk VR VK VS, BLx t.sys vs VF VK2]) (fun i => [boxR b1 (tc t vr vk vs) 26]) (fun i => t.kids.length - i) (0) (Nat.zero_le _) (by exact ⟨rfl, (by rw [sizeUpto_zero]; rfl), rfl, trivial⟩) ?_ ?_
  · exact fun w hs => (hs.less (by simp +contextual))
  · intro i base0 hi next0
    refine go_seq ?_
    refine go_seq ?_
    refine go_region ⟨_, Tryz.func63⟩ rfl ?_
    refine q0 rfl (o_move ?_)
    refine q0 rfl (o_fa ?_)
    refine q0 rfl (o_ld ?_)
    refine q0 rfl (o_len ?_)
    refine q0 rfl (o_lss ?_)
    refine rg_nil ?_
    refine go_condI (fun h11 => ?_) (fun h11 => ?_)
    · have hlt : i < t.kids.length := by have := of_decide_eq_true h11; omega
      obtain ⟨bk, o, hav⟩ := hA1 (by omega)
      have hpk := parts_kid t i hlt
      refine go_kid (ts := t.kids) (a := vk) i hlt ?_
      refine go_skip ?_
      refine go_seq ?_
      refine go_block ?_
      refine go_region ⟨_, Tryz.func63⟩ rfl ?_
      refine q0 rfl (o_move ?_)
      refine q0 rfl (o_fa ?_)
      refine q0 rfl (o_ld ?_)
      refine q0 rfl (o_move ?_)
      refine q0 rfl (o_ixN ?_)
      refine q0 rfl (o_ldT ?_)
      refine q0 rfl (o_call Tryz.call63 (ih (t.kids.getD i t0, _, _) (parts_mem hpk) (by have := size_part hpk; simp only at this ⊢; omega) _ _ _) (fun x20 => ?_))
      have hle := size_part hpk
      refine q0 rfl (o_add ?_)
      refine q0 rfl (o_assign ?_)
      refine rg_nil ?_
      refine go_inBlock ?_
      refine go_region ⟨_, Tryz.func63⟩ rfl ?_
      refine q0 rfl (o_move ?_)
      refine q0 rfl (o_add ?_)
      refine q0 rfl (o_assign ?_)
      refine rg_nil ?_
      refine go_state (fun w hs => ?_) (next0 (i + 1) _ hlt (by omega) ⟨rfl, (by rw [sizeUpto_succ hpk]; rfl), rfl, trivial⟩)
      exact (hs.less (by simp +contextual))
    · have hge : i = t.kids.length := by have := of_decide_eq_false h11; omega
      refine go_exit rfl ?_
      refine go_seq ?_
      refine go_seq ?_
      refine go_region ⟨_, Tryz.func63⟩ rfl ?_
      refine q0 rfl (o_assign ?_)
      refine rg_nil ?_
      refine go_block ?_
      refine go_loopI (X := Nat) (fun i2 => i2 ≤ t.sys.length) (fun i2 => [(1, .pointer (some ⟨b1, 0, none⟩)), (3, .int .i64 (sizeUpto t (t.kids.length + sysBefore i2 t.sys) : Int)), (5, .int .i64 (i2 : Int))]) (fun i2 => [TLx t.kids vk VR VK VS, BLx t.sys vs VF VK2]) (fun i2 => [boxR b1 (tc t vr vk vs) 26]) (fun i2 => t.sys.length - i2) (0) (Nat.zero_le _) (by exact ⟨rfl, (by rw [hge]; rfl), rfl, trivial⟩) ?_ ?_
      · exact fun w hs => (hs.less (by simp +contextual))
      · intro i2 base1 hi2 next1
        refine go_seq ?_
        refine go_seq ?_
        refine go_region ⟨_, Tryz.func63⟩ rfl ?_
        refine q0 rfl (o_move ?_)
        refine q0 rfl (o_fa ?_)
        refine q0 rfl (o_ld ?_)
        refine q0 rfl (o_len ?_)
        refine q0 rfl (o_lss ?_)
        refine rg_nil ?_
        refine go_condI (fun h26 => ?_) (fun h26 => ?_)
        · have hlt2 : i2 < t.sys.length := by have := of_decide_eq_true h26; omega
          obtain ⟨bk2, o2, hav2⟩ := hA2 (by omega)
          refine go_branch (bs := t.sys) (a := vs) i2 hlt2 ?_
          refine go_openTL (ts := (t.sys.getD i2 br0).kids) (a := VK2 i2) (fun VR3 VK3 VS3 hl3 hA3 => ?_)
          refine go_skip ?_
          refine go_seq ?_
          refine go_block ?_
          refine go_seq ?_
          refine go_region ⟨_, Tryz.func63⟩ rfl ?_
          refine q0 rfl (o_assign ?_)
          refine rg_nil ?_
          refine go_block ?_
          refine go_loopI (X := Nat) (fun j => j ≤ (t.sys.getD i2 br0).kids.length) (fun j => [(1, .pointer (some ⟨b1, 0, none⟩)), (3, .int .i64 (sizeUpto t (t.kids.length + sysBefore i2 t.sys + j) : Int)), (5, .int .i64 (i2 : Int)), (6, .int .i64 (j : Int))]) (fun j => TLx (t.sys.getD i2 br0).kids (VK2 i2) VR3 VK3 VS3 :: [TLx t.kids vk VR VK VS, BLx t.sys vs VF VK2]) (fun j => [boxR b1 (tc t vr vk vs) 26]) (fun j => (t.sys.getD i2 br0).kids.length - j) (0) (Nat.zero_le _) (by exact ⟨rfl, rfl, rfl, rfl, trivial⟩) ?_ ?_
          · exact fun w hs => (hs.less (by simp +contextual))
          · intro j base2 hj next2
            refine go_seq ?_
            refine go_seq ?_
            refine go_region ⟨_, Tryz.func63⟩ rfl ?_
            refine q0 rfl (o_move ?_)
            refine q0 rfl (o_fa ?_)
            refine q0 rfl (o_ld ?_)
            refine q0 rfl (o_move ?_)
            refine q0 rfl (o_ixN ?_)
            refine q0 rfl (o_fa ?_)
            refine q0 rfl (o_ldBf ?_)
            refine q0 rfl (o_len ?_)
            refine q0 rfl (o_lss ?_)
            refine rg_nil ?_
            refine go_condI (fun h37 => ?_) (fun h37 => ?_)
            · have hlt3 : j < (t.sys.getD i2 br0).kids.length := by have := of_decide_eq_true h37; omega
              obtain ⟨bk3, o3, hav3⟩ := hA3 (by omega)
              have hpk := parts_sys t i2 j hlt2 hlt3
              refine go_kid (ts := (t.sys.getD i2 br0).kids) (a := VK2 i2) j hlt3 ?_
              refine go_skip ?_
              refine go_seq ?_
              refine go_block ?_
              refine go_region ⟨_, Tryz.func63⟩ rfl ?_
              refine q0 rfl (o_move ?_)
              refine q0 rfl (o_fa ?_)
              refine q0 rfl (o_ld ?_)
              refine q0 rfl (o_move ?_)
              refine q0 rfl (o_ixN ?_)
              refine q0 rfl (o_fa ?_)
              refine q0 rfl (o_ldBf ?_)
              refine q0 rfl (o_move ?_)
              refine q0 rfl (o_ixN ?_)
              refine q0 rfl (o_ldT ?_)
              refine q0 rfl (o_call Tryz.call63 (ih ((t.sys.getD i2 br0).kids.getD j t0, _, _) (parts_mem hpk) (by have := size_part hpk; simp only at this ⊢; omega) _ _ _) (fun x50 => ?_))
              have hle := size_part hpk
              refine q0 rfl (o_add ?_)
              refine q0 rfl (o_assign ?_)
              refine rg_nil ?_
              refine go_inBlock ?_
              refine go_region ⟨_, Tryz.func63⟩ rfl ?_
              refine q0 rfl (o_move ?_)
              refine q0 rfl (o_add ?_)
              refine q0 rfl (o_assign ?_)
              refine rg_nil ?_
              refine go_state (fun w hs => ?_) (next2 (j + 1) _ hlt3 (by omega) ⟨rfl, (by rw [← Nat.add_assoc, sizeUpto_succ hpk]; rfl), rfl, rfl, trivial⟩)
              exact (hs.less (by simp +contextual))
            · have hge3 : j = (t.sys.getD i2 br0).kids.length := by have := of_decide_eq_false h37; omega
              refine go_exit rfl ?_
              refine go_inBlock ?_
              refine go_region ⟨_, Tryz.func63⟩ rfl ?_
              refine q0 rfl (o_move ?_)
              refine q0 rfl (o_add ?_)
              refine q0 rfl (o_assign ?_)
              refine rg_nil ?_
              refine go_state (fun w hs => ?_) (next1 (i2 + 1) _ hlt2 (by omega) ⟨rfl, (by rw [sysBefore_succ i2 t.sys hlt2, ← hge3, ← Nat.add_assoc]; rfl), rfl, trivial⟩)
              exact (hs.less (by simp +contextual))
        · have hge2 : i2 = t.sys.length := by have := of_decide_eq_false h26; omega
          refine go_exit rfl ?_
          refine go_seq ?_
          refine go_region ⟨_, Tryz.func63⟩ rfl ?_
          refine q0 rfl (o_move ?_)
          refine q0 rfl (o_assign ?_)
          refine rg_nil ?_
          have he : sizeUpto t (t.kids.length + sysBefore i2 t.sys) = size t := by rw [hge2, ← hpl, sizeUpto_all]
          refine ret1 Tryz.func63 Tryz.results63 wn_ () (by rw [he]) (fun w hs => hs.none)
theorem rsize_spec : ∀ (t : T), size t ≤ 1152921504606846976 → ∀ vr vk vs, Spec Tryz.prog 63 #[.agg (tc t vr vk vs).toArray] [RT t vr vk vs] [] (fun _ : Unit => .int .i64 (size t : Int)) (fun _ => []) (fun _ => []) :=
  T.ind fun t ih hsz vr vk vs => rsize_walk t vr vk vs hsz ih
theorem rdepth_walk (t : T) (vr vk vs : SH) (hsz : size t ≤ 1152921504606846976) (ih : ∀ p, p ∈ parts t → size p.1 ≤ 1152921504606846976 → ∀ vr vk vs, Spec Tryz.prog 62 #[.agg (tc p.1 vr vk vs).toArray] [RT p.1 vr vk vs] [] (fun _ : Unit => .int .i64 (depth p.1 : Int)) (fun _ => []) (fun _ => [])) : Spec Tryz.prog 62 #[.agg (tc t vr vk vs).toArray] [RT t vr vk vs] [] (fun _ : Unit => .int .i64 (depth t : Int)) (fun _ => []) (fun _ => []) := by
  refine spec_go (args := [.agg (tc t vr vk vs).toArray]) Tryz.func62 Tryz.ntmps62 rfl (by exact Nat.le_of_ble_eq_true rfl) fun B hB => ?_
  refine go_open (fun hk hn hnm => ?_)
  refine go_openTL (ts := t.kids) (fun VR VK VS hl1 hA1 => ?_)
  refine go_openBL (bs := t.sys) (fun VF VK2 hl2 hA2 => ?_)
  have hpl := parts_length t
  have hds := depth_le_size t
  have hdu := depthUpto_le t (parts t).length
  refine go_seq ?_
  refine go_region ⟨_, Tryz.func62⟩ rfl ?_
  refine q0 rfl (o_box fun b1 => ?_)
  refine q0 rfl (o_assign ?_)
  refine rg_nil ?_
  refine go_seq ?_
  refine go_region ⟨_, Tryz.func62⟩ rfl ?_
  refine q0 rfl (o_assign ?_)
  refine rg_nil ?_
  refine go_seq ?_
  refine go_seq ?_
  refine go_region ⟨_, Tryz.func62⟩ rfl ?_
  refine q0 rfl (o_assign ?_)
  refine rg_nil ?_
  refine go_block ?_
  refine go_loopI (X := Nat) (fun i => i ≤ t.kids.length) (fun i => [(1, .pointer (some ⟨b1, 0, none⟩)), (3, .int .i64 (depthUpto t i : Int)), (4, .int .i64 (i : Int))]) (fun i => [TLx t.kids vk VR VK VS, BLx t.sys vs VF VK2]) (fun i => [boxR b1 (tc t vr vk vs) 26]) (fun i => t.kids.length - i) (0) (Nat.zero_le _) (by exact ⟨rfl, (by rw [depthUpto_zero]; rfl), rfl, trivial⟩) ?_ ?_
  · exact fun w hs => (hs.less (by simp +contextual))
  · intro i base0 hi next0
    refine go_seq ?_
    refine go_seq ?_
    refine go_region ⟨_, Tryz.func62⟩ rfl ?_
    refine q0 rfl (o_move ?_)
    refine q0 rfl (o_fa ?_)
    refine q0 rfl (o_ld ?_)
    refine q0 rfl (o_len ?_)
    refine q0 rfl (o_lss ?_)
    refine rg_nil ?_
    refine go_condI (fun h13 => ?_) (fun h13 => ?_)
    · have hlt : i < t.kids.length := by have := of_decide_eq_true h13; omega
      obtain ⟨bk, o, hav⟩ := hA1 (by omega)
      have hpk := parts_kid t i hlt
      refine go_kid (ts := t.kids) (a := vk) i hlt ?_
      refine go_skip ?_
      refine go_seq ?_
      refine go_block ?_
      refine go_seq ?_
      refine go_region ⟨_, Tryz.func62⟩ rfl ?_
      refine q0 rfl (o_fa ?_)
      refine q0 rfl (o_ld ?_)
      refine q0 rfl (o_move ?_)
      refine q0 rfl (o_ixN ?_)
      refine q0 rfl (o_ldT ?_)
      refine q0 rfl (o_call Tryz.call62 (ih (t.kids.getD i t0, _, _) (parts_mem hpk) (by have := size_part hpk; simp only at this ⊢; omega) _ _ _) (fun x21 => ?_))
      refine q0 rfl (o_assign ?_)
      refine rg_nil ?_
      refine go_seq ?_
      refine go_region ⟨_, Tryz.func62⟩ rfl ?_
      refine q0 rfl (o_move ?_)
      refine q0 rfl (o_move ?_)
      refine q0 rfl (o_gtr ?_)
      refine rg_nil ?_
      refine go_condI (fun h24 => ?_) (fun h24 => ?_)
      · refine go_region ⟨_, Tryz.func62⟩ rfl ?_
        refine q0 rfl (o_move ?_)
        refine q0 rfl (o_assign ?_)
        refine rg_nil ?_
        refine go_inBlock ?_
        refine go_region ⟨_, Tryz.func62⟩ rfl ?_
        refine q0 rfl (o_move ?_)
        refine q0 rfl (o_add ?_)
        refine q0 rfl (o_assign ?_)
        refine rg_nil ?_
        refine go_state (fun w hs => ?_) (next0 (i + 1) _ hlt (by omega) ⟨rfl, (by rw [depthUpto_succ hpk, Int.ofNat_max']; first | (rw [if_pos (of_decide_eq_true h24)]; rfl) | (rw [if_neg (of_decide_eq_false h24)]; rfl)), rfl, trivial⟩)
        exact (hs.less (by simp +contextual))
      · refine go_skip ?_
        refine go_inBlock ?_
        refine go_region ⟨_, Tryz.func62⟩ rfl ?_
        refine q0 rfl (o_move ?_)
        refine q0 rfl (o_add ?_)
        refine q0 rfl (o_assign ?_)
        refine rg_nil ?_
        refine go_state (fun w hs => ?_) (next0 (i + 1) _ hlt (by omega) ⟨rfl, (by rw [depthUpto_succ hpk, Int.ofNat_max']; first | (rw [if_pos (of_decide_eq_true h24)]; rfl) | (rw [if_neg (of_decide_eq_false h24)]; rfl)), rfl, trivial⟩)
        exact (hs.less (by simp +contextual))
    · have hge : i = t.kids.length := by have := of_decide_eq_false h13; omega
      refine go_exit rfl ?_
      refine go_seq ?_
      refine go_seq ?_
      refine go_region ⟨_, Tryz.func62⟩ rfl ?_
      refine q0 rfl (o_assign ?_)
      refine rg_nil ?_
      refine go_block ?_
      refine go_loopI (X := Nat) (fun i2 => i2 ≤ t.sys.length) (fun i2 => [(1, .pointer (some ⟨b1, 0, none⟩)), (3, .int .i64 (depthUpto t (t.kids.length + sysBefore i2 t.sys) : Int)), (6, .int .i64 (i2 : Int))]) (fun i2 => [TLx t.kids vk VR VK VS, BLx t.sys vs VF VK2]) (fun i2 => [boxR b1 (tc t vr vk vs) 26]) (fun i2 => t.sys.length - i2) (0) (Nat.zero_le _) (by exact ⟨rfl, (by rw [hge]; rfl), rfl, trivial⟩) ?_ ?_
      · exact fun w hs => (hs.less (by simp +contextual))
      · intro i2 base1 hi2 next1
        refine go_seq ?_
        refine go_seq ?_
        refine go_region ⟨_, Tryz.func62⟩ rfl ?_
        refine q0 rfl (o_move ?_)
        refine q0 rfl (o_fa ?_)
        refine q0 rfl (o_ld ?_)
        refine q0 rfl (o_len ?_)
        refine q0 rfl (o_lss ?_)
        refine rg_nil ?_
        refine go_condI (fun h30 => ?_) (fun h30 => ?_)
        · have hlt2 : i2 < t.sys.length := by have := of_decide_eq_true h30; omega
          obtain ⟨bk2, o2, hav2⟩ := hA2 (by omega)
          refine go_branch (bs := t.sys) (a := vs) i2 hlt2 ?_
          refine go_openTL (ts := (t.sys.getD i2 br0).kids) (a := VK2 i2) (fun VR3 VK3 VS3 hl3 hA3 => ?_)
          refine go_skip ?_
          refine go_seq ?_
          refine go_block ?_
          refine go_seq ?_
          refine go_region ⟨_, Tryz.func62⟩ rfl ?_
          refine q0 rfl (o_assign ?_)
          refine rg_nil ?_
          refine go_block ?_
          refine go_loopI (X := Nat) (fun j => j ≤ (t.sys.getD i2 br0).kids.length) (fun j => [(1, .pointer (some ⟨b1, 0, none⟩)), (3, .int .i64 (depthUpto t (t.kids.length + sysBefore i2 t.sys + j) : Int)), (6, .int .i64 (i2 : Int)), (7, .int .i64 (j : Int))]) (fun j => TLx (t.sys.getD i2 br0).kids (VK2 i2) VR3 VK3 VS3 :: [TLx t.kids vk VR VK VS, BLx t.sys vs VF VK2]) (fun j => [boxR b1 (tc t vr vk vs) 26]) (fun j => (t.sys.getD i2 br0).kids.length - j) (0) (Nat.zero_le _) (by exact ⟨rfl, rfl, rfl, rfl, trivial⟩) ?_ ?_
          · exact fun w hs => (hs.less (by simp +contextual))
          · intro j base2 hj next2
            refine go_seq ?_
            refine go_seq ?_
            refine go_region ⟨_, Tryz.func62⟩ rfl ?_
            refine q0 rfl (o_move ?_)
            refine q0 rfl (o_fa ?_)
            refine q0 rfl (o_ld ?_)
            refine q0 rfl (o_move ?_)
            refine q0 rfl (o_ixN ?_)
            refine q0 rfl (o_fa ?_)
            refine q0 rfl (o_ldBf ?_)
            refine q0 rfl (o_len ?_)
            refine q0 rfl (o_lss ?_)
            refine rg_nil ?_
            refine go_condI (fun h41 => ?_) (fun h41 => ?_)
            · have hlt3 : j < (t.sys.getD i2 br0).kids.length := by have := of_decide_eq_true h41; omega
              obtain ⟨bk3, o3, hav3⟩ := hA3 (by omega)
              have hpk := parts_sys t i2 j hlt2 hlt3
              refine go_kid (ts := (t.sys.getD i2 br0).kids) (a := VK2 i2) j hlt3 ?_
              refine go_skip ?_
              refine go_seq ?_
              refine go_block ?_
              refine go_seq ?_
              refine go_region ⟨_, Tryz.func62⟩ rfl ?_
              refine q0 rfl (o_fa ?_)
              refine q0 rfl (o_ld ?_)
              refine q0 rfl (o_move ?_)
              refine q0 rfl (o_ixN ?_)
              refine q0 rfl (o_fa ?_)
              refine q0 rfl (o_ldBf ?_)
              refine q0 rfl (o_move ?_)
              refine q0 rfl (o_ixN ?_)
              refine q0 rfl (o_ldT ?_)
              refine q0 rfl (o_call Tryz.call62 (ih ((t.sys.getD i2 br0).kids.getD j t0, _, _) (parts_mem hpk) (by have := size_part hpk; simp only at this ⊢; omega) _ _ _) (fun x53 => ?_))
              refine q0 rfl (o_assign ?_)
              refine rg_nil ?_
              refine go_seq ?_
              refine go_region ⟨_, Tryz.func62⟩ rfl ?_
              refine q0 rfl (o_move ?_)
              refine q0 rfl (o_move ?_)
              refine q0 rfl (o_gtr ?_)
              refine rg_nil ?_
              refine go_condI (fun h56 => ?_) (fun h56 => ?_)
              · refine go_region ⟨_, Tryz.func62⟩ rfl ?_
                refine q0 rfl (o_move ?_)
                refine q0 rfl (o_assign ?_)
                refine rg_nil ?_
                refine go_inBlock ?_
                refine go_region ⟨_, Tryz.func62⟩ rfl ?_
                refine q0 rfl (o_move ?_)
                refine q0 rfl (o_add ?_)
                refine q0 rfl (o_assign ?_)
                refine rg_nil ?_
                refine go_state (fun w hs => ?_) (next2 (j + 1) _ hlt3 (by omega) ⟨rfl, (by rw [← Nat.add_assoc, depthUpto_succ hpk, Int.ofNat_max']; first | (rw [if_pos (of_decide_eq_true h56)]; rfl) | (rw [if_neg (of_decide_eq_false h56)]; rfl)), rfl, rfl, trivial⟩)
                exact (hs.less (by simp +contextual))
              · refine go_skip ?_
                refine go_inBlock ?_
                refine go_region ⟨_, Tryz.func62⟩ rfl ?_
                refine q0 rfl (o_move ?_)
                refine q0 rfl (o_add ?_)
                refine q0 rfl (o_assign ?_)
                refine rg_nil ?_
                refine go_state (fun w hs => ?_) (next2 (j + 1) _ hlt3 (by omega) ⟨rfl, (by rw [← Nat.add_assoc, depthUpto_succ hpk, Int.ofNat_max']; first | (rw [if_pos (of_decide_eq_true h56)]; rfl) | (rw [if_neg (of_decide_eq_false h56)]; rfl)), rfl, rfl, trivial⟩)
                exact (hs.less (by simp +contextual))
            · have hge3 : j = (t.sys.getD i2 br0).kids.length := by have := of_decide_eq_false h41; omega
              refine go_exit rfl ?_
              refine go_inBlock ?_
              refine go_region ⟨_, Tryz.func62⟩ rfl ?_
              refine q0 rfl (o_move ?_)
              refine q0 rfl (o_add ?_)
              refine q0 rfl (o_assign ?_)
              refine rg_nil ?_
              refine go_state (fun w hs => ?_) (next1 (i2 + 1) _ hlt2 (by omega) ⟨rfl, (by rw [sysBefore_succ i2 t.sys hlt2, ← hge3, ← Nat.add_assoc]; rfl), rfl, trivial⟩)
              exact (hs.less (by simp +contextual))
        · have hge2 : i2 = t.sys.length := by have := of_decide_eq_false h30; omega
          refine go_exit rfl ?_
          refine go_seq ?_
          refine go_region ⟨_, Tryz.func62⟩ rfl ?_
          refine q0 rfl (o_move ?_)
          rw [hge2, ← hpl]
          refine q0 rfl (o_add ?_)
          refine q0 rfl (o_assign ?_)
          refine rg_nil ?_
          refine ret1 Tryz.func62 Tryz.results62 wn_ () (by rw [← depthUpto_all t]; rfl) (fun w hs => hs.none)
theorem rdepth_spec : ∀ (t : T), size t ≤ 1152921504606846976 → ∀ vr vk vs, Spec Tryz.prog 62 #[.agg (tc t vr vk vs).toArray] [RT t vr vk vs] [] (fun _ : Unit => .int .i64 (depth t : Int)) (fun _ => []) (fun _ => []) :=
  T.ind fun t ih hsz vr vk vs => rdepth_walk t vr vk vs hsz ih
end Go.Hy
namespace Go.Hy
set_option linter.unusedVariables false
set_option linter.unusedSimpArgs false
set_option linter.unusedSectionVars false
open Go.Proofs
set_option linter.unusedVariables false
set_option linter.unusedSimpArgs false
set_option maxRecDepth 100000
theorem equal_spec (l m : List Cl) (a b : SH) : Spec Tryz.prog 111 #[sl a l.length, sl b m.length] [CL l a, CL m b] [] (fun _ : Unit => .bool (decide (l = m))) (fun _ => []) (fun _ => []) := by
  refine spec_go (args := [sl a l.length, sl b m.length]) Tryz.func111 Tryz.ntmps111 rfl (by exact Nat.le_of_ble_eq_true rfl) fun B hB => ?_
  refine go_openCL (l := l) (a := a) (fun hl1 hA1 hU1 => ?_)
  refine go_openCL (l := m) (a := b) (fun hl2 hA2 hU2 => ?_)
  refine go_seq ?_
  refine go_region ⟨_, Tryz.func111⟩ rfl ?_
  refine q0 rfl (o_assign ?_)
  refine rg_nil ?_
  refine go_seq ?_
  refine go_seq ?_
  refine go_region ⟨_, Tryz.func111⟩ rfl ?_
  refine q0 rfl (o_move ?_)
  refine q0 rfl (o_len ?_)
  refine q0 rfl (o_move ?_)
  refine q0 rfl (o_len ?_)
  refine q0 rfl (o_neI ?_)
  refine rg_nil ?_
  refine go_condI (fun h10 => ?_) (fun h10 => ?_)
  · have hne : ¬ l = m := fun e => by subst e; simp at h10
    refine go_seq ?_
    refine go_region ⟨_, Tryz.func111⟩ rfl ?_
    refine q0 rfl (o_assign ?_)
    refine rg_nil ?_
    refine ret1 Tryz.func111 Tryz.results111 wn_ () (by rw [decide_eq_false hne]) (fun w hs => hs.none)
  · have hlen : l.length = m.length := by simp at h10; omega
    refine go_skip ?_
    refine go_seq ?_
    refine go_seq ?_
    refine go_region ⟨_, Tryz.func111⟩ rfl ?_
    refine q0 rfl (o_move ?_)
    refine q0 rfl (o_len ?_)
    refine q0 rfl (o_move ?_)
    refine rg_nil ?_
    refine go_block ?_
    refine go_loopI (X := Nat) (fun i => i ≤ l.length ∧ ∀ j, j < i → l.getD j cl0 = m.getD j cl0) (fun i => [(0, sl a l.length), (1, sl b m.length), (12, .int .i64 (l.length : Int)), (13, .int .i64 (i : Int))]) (fun i => [CL l a, CL m b]) (fun i => []) (fun i => l.length - i) (0) (⟨Nat.zero_le _, fun j hj => by omega⟩) (by exact ⟨rfl, rfl, rfl, rfl, trivial⟩) ?_ ?_
    · exact fun w hs => hs.less (by simp +contextual)
    · intro i base0 ⟨hi, hok⟩ next0
      refine go_seq ?_
      refine go_region ⟨_, Tryz.func111⟩ rfl ?_
      refine q0 rfl (o_lss ?_)
      refine rg_nil ?_
      refine go_seq ?_
      refine go_condI (fun h14 => ?_) (fun h14 => ?_)
      · have hlt : i < l.length := by have := of_decide_eq_true h14; omega
        have hlt2 : i < m.length := by omega
        obtain ⟨bk, o, hav⟩ := hA1 (by omega)
        obtain ⟨bk2, o2, hav2⟩ := hA2 (by omega)
        refine go_skip ?_
        refine go_seq ?_
        refine go_block ?_
        refine go_seq ?_
        refine go_region ⟨_, Tryz.func111⟩ rfl ?_
        refine q0 rfl (o_move ?_)
        refine q0 rfl (o_assign ?_)
        refine rg_nil ?_
        refine go_seq ?_
        refine go_draw (pn := 1000000) (tn := false) (A := [0, 0, 3, 7, 0, 0, 48, 112, 255]) (l := [0, 1, 2, 3, 4, 5, 6, 7, 8]) (fin := []) Tab.mixed ⟨_, Tryz.func111⟩ (by rfl) ?_
        refine n0 rfl (v_move ?_)
        refine n0 rfl (v_move ?_)
        refine n0 rfl (v_ixN ?_)
        refine n0 rfl (v_ldC ?_)
        refine n0 rfl (v_move ?_)
        refine n0 rfl (v_move ?_)
        refine n0 rfl (v_ixN ?_)
        refine n0 rfl (v_ldC ?_)
        refine n0 rfl (v_neC ?_)
        refine NV.done ?_
        refine rg_nil ?_
        refine go_condI (fun h24 => ?_) (fun h24 => ?_)
        · refine go_seq ?_
          refine go_region ⟨_, Tryz.func111⟩ rfl ?_
          refine q0 rfl (o_assign ?_)
          refine rg_nil ?_
          refine ret1 Tryz.func111 Tryz.results111 wn_ () (by rw [decide_eq_false (fun e => by subst e; simp at h24)]) (fun w hs => hs.none)
        · refine go_skip ?_
          refine go_inBlock ?_
          refine go_region ⟨_, Tryz.func111⟩ rfl ?_
          refine q0 rfl (o_add ?_)
          refine q0 rfl (o_move ?_)
          refine rg_nil ?_
          have hb : l.getD i cl0 = m.getD i cl0 := by simpa using h24
          refine go_state (fun w hs => ?_) (next0 (i + 1) _ ⟨hlt, fun j hj => (by rcases Nat.lt_succ_iff_lt_or_eq.mp hj with h | h; exact hok j h; subst h; exact hb)⟩ (by omega) ⟨rfl, rfl, rfl, rfl, trivial⟩)
          exact hs
      · have hge : i = l.length := by have := of_decide_eq_false h14; omega
        refine go_exit rfl ?_
        refine go_seq ?_
        refine go_region ⟨_, Tryz.func111⟩ rfl ?_
        refine q0 rfl (o_assign ?_)
        refine rg_nil ?_
        refine ret1 Tryz.func111 Tryz.results111 wn_ () (by rw [decide_eq_true (list_eq_of hlen (by rw [← hge]; exact hok))]) (fun w hs => hs.none)
end Go.Hy
namespace Go.Hy
set_option linter.unusedVariables false
set_option linter.unusedSimpArgs false
set_option linter.unusedSectionVars false
open Go.Proofs
set_option linter.unusedVariables false
set_option linter.unusedSimpArgs false
set_option maxRecDepth 100000
theorem in_lit {n : Int} (h : 0 ≤ n) (h2 : n ≤ 1000) : in64 n := by unfold in64; omega
def kidInts : List Int := [-1, 0, 0, 0, 2, 1, 2, 2, 2, 1, 1, 3, 1, 3, 2, 2, 1, 1, 1, 0, 0, 0, 4, 1, 0, 0, 1, 5, 2]
def kidTab : List Value := kidInts.map (fun z => .int .i64 z)
def kidPV : List (Nat × Value) := [(0, .int .i64 (-1)), (1, .int .i64 (0)), (2, .int .i64 (0)), (3, .int .i64 (0)), (4, .int .i64 (2)), (5, .int .i64 (1)), (6, .int .i64 (2)), (7, .int .i64 (2)), (8, .int .i64 (2)), (9, .int .i64 (1)), (10, .int .i64 (1)), (11, .int .i64 (3)), (12, .int .i64 (1)), (13, .int .i64 (3)), (14, .int .i64 (2)), (15, .int .i64 (2)), (16, .int .i64 (1)), (17, .int .i64 (1)), (18, .int .i64 (1)), (19, .int .i64 (0)), (20, .int .i64 (0)), (21, .int .i64 (0)), (22, .int .i64 (4)), (23, .int .i64 (1)), (24, .int .i64 (0)), (25, .int .i64 (0)), (26, .int .i64 (1)), (27, .int .i64 (5)), (28, .int .i64 (2))]
theorem kidFill : Instr.fill (fun i => some (i * 1, 1)) (Value.agg #[.int .i64 0, .int .i64 0, .int .i64 0, .int .i64 0, .int .i64 0, .int .i64 0, .int .i64 0, .int .i64 0, .int .i64 0, .int .i64 0, .int .i64 0, .int .i64 0, .int .i64 0, .int .i64 0, .int .i64 0, .int .i64 0, .int .i64 0, .int .i64 0, .int .i64 0, .int .i64 0, .int .i64 0, .int .i64 0, .int .i64 0, .int .i64 0, .int .i64 0, .int .i64 0, .int .i64 0, .int .i64 0, .int .i64 0]).cells kidPV = some kidTab.toArray := by kernel_rfl
theorem kidInts_get : ∀ n : Fin 29, kidInts[n.1]? = some (kidsN (n.1 : Int)) := by decide
theorem kidTab_get (n : Fin 29) : kidTab[n.1]? = some (.int .i64 (kidsN (n.1 : Int))) := by
  unfold kidTab; rw [List.getElem?_map, kidInts_get n]; rfl
theorem kidTab_at {k : Int} (h0 : 0 ≤ k) (h1 : k < 29) : kidTab[0 + k.toNat * 1]? = some (.int .i64 (kidsN k)) := by
  have := kidTab_get ⟨k.toNat, by omega⟩
  simp only [Int.toNat_of_nonneg h0] at this
  rw [Nat.zero_add, Nat.mul_one]; exact this
theorem kidsN_out {k : Int} (h : k < 0 ∨ 28 < k) : kidsN k = -1 := by
  unfold kidsN; repeat rw [if_neg (by omega)]
theorem rkids_spec (k : Int) : Spec Tryz.prog 64 #[.int .i64 k] [] [] (fun _ : Unit => .int .i64 (kidsN k)) (fun _ => []) (fun _ => []) := by
  refine spec_go (args := [.int .i64 k]) Tryz.func64 Tryz.ntmps64 rfl (by exact Nat.le_of_ble_eq_true rfl) fun B hB => ?_
  refine go_seq ?_
  refine go_region ⟨_, Tryz.func64⟩ rfl ?_
  refine q0 rfl (o_assign ?_)
  refine rg_nil ?_
  refine go_seq ?_
  refine go_region ⟨_, Tryz.func64⟩ rfl ?_
  refine q0 rfl (o_buildA (pv := kidPV) (cs := kidTab) ?_ (hp := by rfl) (hb := kidFill))
  refine q0 rfl (o_new fun b3 => ?_)
  refine q0 rfl (o_st ?_)
  refine rg_nil ?_
  refine go_seq ?_
  refine go_seq ?_
  refine go_cutS ([(0, .int .i64 k), (3, .pointer (some ⟨b3, 0, none⟩)), (10, .bool (decide (k < 0) || decide (28 < k)))]) (fun hK => ?_) (fun base => ?_)
  · refine go_region ⟨_, Tryz.func64⟩ rfl ?_
    refine q0 rfl (o_move ?_)
    refine q0 rfl (o_lss ?_)
    refine q0 rfl (o_move ?_)
    refine qI rfl rfl rfl wl_ (fun hg7 => o_move ?_) (fun hg7 => ?_)
    · refine qT rfl rfl rfl (o_gtr ?_)
      refine q0 rfl (o_pickF ?_)
      refine rg_nil ?_
      exact hK _ ⟨rfl, rfl, (by (conv => lhs; whnf); first | (simp_all; done) | (simp_all; omega)), trivial⟩
    · refine qF rfl rfl rfl ?_
      refine q0 rfl (o_pickT ?_)
      refine rg_nil ?_
      exact hK _ ⟨rfl, rfl, (by (conv => lhs; whnf); first | (simp_all; done) | (simp_all; omega)), trivial⟩
  · refine go_condI (fun h10 => ?_) (fun h10 => ?_)
    · have hb : k < 0 ∨ 28 < k := by simpa using h10
      refine go_seq ?_
      refine go_region ⟨_, Tryz.func64⟩ rfl ?_
      refine q0 rfl (o_assign ?_)
      refine rg_nil ?_
      refine ret1 Tryz.func64 Tryz.results64 wn_ () (by rw [kidsN_out hb]) (fun w hs => hs.none)
    · have hb : 0 ≤ k ∧ k ≤ 28 := by simpa using h10
      refine go_skip ?_
      refine go_seq ?_
      refine go_region ⟨_, Tryz.func64⟩ rfl ?_
      refine q0 rfl (o_move ?_)
      refine q0 rfl (o_ixA ?_ (j := k) (m := 29))
      refine q0 rfl (o_ld ?_ (cs := kidTab) (k := 0 + k.toNat * 1) (hk := kidTab_at (by omega) (by omega)))
      refine q0 rfl (o_assign ?_)
      refine rg_nil ?_
      refine ret1 Tryz.func64 Tryz.results64 wn_ () rfl (fun w hs => hs.none)
end Go.Hy
namespace Go.Hy
set_option linter.unusedVariables false
set_option linter.unusedSimpArgs false
set_option linter.unusedSectionVars false
open Go.Proofs
set_option linter.unusedVariables false
set_option linter.unusedSimpArgs false
set_option maxRecDepth 100000
theorem rlow_spec (l : List Cl) (a_l : SH) (d : Int) (h0 : 0 ≤ d) : Spec Tryz.prog 69 #[sl a_l (l.length), .int .i64 (d)] [CL l a_l] [] (fun _ : Unit => .bool ((within l d))) (fun _ : Unit => []) (fun _ : Unit => []) := by
  refine spec_go (args := [sl a_l (l.length), .int .i64 (d)]) Tryz.func69 Tryz.ntmps69 rfl (by exact Nat.le_of_ble_eq_true rfl) fun B hB => ?_
  refine go_openCL (l := l) (a := a_l) (fun hl1 hA1 hU1 => ?_)
  have hdl := fDims_lt l
  refine go_seq ?_
  refine go_region ⟨_, Tryz.func69⟩ rfl ?_
  refine q0 rfl (o_assign ?_)
  refine rg_nil ?_
  refine go_seq ?_
  refine go_region ⟨_, Tryz.func69⟩ rfl ?_
  refine q0 rfl (o_move ?_)
  refine q0 rfl (o_call Tryz.call87 (rfdims l a_l ) (fun x7 => ?_))
  refine q0 rfl (o_call Tryz.call86 (rlist (fDims l) om_) (fun x8 => ?_))
  refine q0 rfl (o_assign ?_)
  refine rg_nil ?_
  refine go_openIL (l := (listM (fDims l))) (a := x8) (fun hl2 hA2 hU2 => ?_)
  refine go_seq ?_
  refine go_cutS ([(4, .bool ((decide ((((listM (fDims l))).length : Int) = 0)) || (decide (((listM (fDims l)).getD ((listM (fDims l)).length - 1) 0) < d))))]) (fun hK => ?_) (fun base => ?_)
  · refine go_region ⟨_, Tryz.func69⟩ rfl ?_
    refine q0 rfl (o_move ?_)
    refine q0 rfl (o_len ?_)
    refine q0 rfl (o_eqI ?_)
    refine q0 rfl (o_move ?_)
    refine qI rfl rfl rfl wl_ (fun hg12 => ?_) (fun hg12 => ?_)
    · have g12 : (decide ((((listM (fDims l))).length : Int) = 0)) = false := hg12
      try simp only [sC, bne_iff_ne, beq_iff_eq, ne_eq] at g12
      refine o_move ?_
      refine qT rfl rfl rfl (o_move ?_)
      refine qT rfl rfl rfl (o_len ?_)
      refine qT rfl rfl rfl (o_sub ?_)
      obtain ⟨bk9, o9, hav9⟩ := hA2 (by omega)
      obtain ⟨bk3, o3, hav3⟩ := hA2 (by omega)
      refine qT rfl rfl rfl (o_ixN ?_ (j := (listM (fDims l)).length - 1) (hy := by (conv => lhs; whnf); congr 1; omega))
      refine qT rfl rfl rfl (o_ldI ?_)
      refine qT rfl rfl rfl (o_move ?_)
      refine qT rfl rfl rfl (o_lss ?_)
      refine q0 rfl (o_pickF ?_)
      refine q0 rfl (o_assign ?_)
      refine rg_nil ?_
      exact hK _ ⟨dn_, trivial⟩
    · have g12 : (decide ((((listM (fDims l))).length : Int) = 0)) = true := hg12
      try simp only [sC, bne_iff_ne, beq_iff_eq, ne_eq] at g12
      refine qF rfl rfl rfl ?_
      refine qF rfl rfl rfl ?_
      refine qF rfl rfl rfl ?_
      refine qF rfl rfl rfl ?_
      refine qF rfl rfl rfl ?_
      refine qF rfl rfl rfl ?_
      refine qF rfl rfl rfl ?_
      refine q0 rfl (o_pickT ?_)
      refine q0 rfl (o_assign ?_)
      refine rg_nil ?_
      exact hK _ ⟨dn_, trivial⟩
  · refine ret1 Tryz.func69 Tryz.results69 wn_ () (by rw [← low_within h0]; rfl) (fun w hs => hs.none)
theorem rname_spec (s : ByteArray) (hs : s.size ≤ cap47) : Spec Tryz.prog 66 #[.string (s)] [] [] (fun _ : Unit => .bool ((nameOK s))) (fun _ : Unit => []) (fun _ : Unit => []) := by
  refine spec_go (args := [.string (s)]) Tryz.func66 Tryz.ntmps66 rfl (by exact Nat.le_of_ble_eq_true rfl) fun B hB => ?_
  refine go_seq ?_
  refine go_region ⟨_, Tryz.func66⟩ rfl ?_
  refine q0 rfl (o_assign ?_)
  refine rg_nil ?_
  refine go_seq ?_
  refine go_seq ?_
  refine go_region ⟨_, Tryz.func66⟩ rfl ?_
  refine q0 rfl (o_assign ?_)
  refine rg_nil ?_
  refine go_block ?_
  refine go_loopE (X := Nat) (fun s_ => s_ ≤ s.size ∧ ∀ j, j < s_ → okAt s j = true) (fun s_ => [(0, .string (s)), (3, .int .i64 ((s_ : Int)))]) (fun s_ G_ => G_) (fun s_ => []) (fun s_ => s.size - s_) (0) (⟨by omega, fun j hj => by omega⟩) (by exact ⟨rfl, rfl, trivial⟩) ?_ ?_
  · exact fun w hs => hs
  · intro i base0 ⟨hi, hok⟩ next0
    refine go_seq ?_
    refine go_seq ?_
    refine go_region ⟨_, Tryz.func66⟩ rfl ?_
    refine q0 rfl (o_move ?_)
    refine q0 rfl (o_move ?_)
    refine q0 rfl (o_lenStr ?_)
    refine q0 rfl (o_lss ?_)
    refine rg_nil ?_
    refine go_condI (fun h8 => ?_) (fun h8 => ?_)
    · have c8 : (decide ((i : Int) < ((s).size : Int))) = true := h8
      try simp only [sC, bne_iff_ne, beq_iff_eq, ne_eq] at c8
      obtain ⟨c, hc, hca⟩ := byte_at (show i < s.size by omega)
      refine go_skip ?_
      refine go_seq ?_
      refine go_block ?_
      refine go_seq ?_
      refine go_region ⟨_, Tryz.func66⟩ rfl ?_
      refine q0 rfl (o_move ?_)
      refine q0 rfl (o_move ?_)
      refine q0 rfl (o_ixStr ?_ (c := c) (hc := hc))
      refine q0 rfl (o_assign ?_)
      refine rg_nil ?_
      refine go_seq ?_
      refine go_seq ?_
      refine go_cutS ([(0, .string (s)), (3, .int .i64 ((i : Int))), (4, .int .u8 ((c.toNat : Int))), (23, .bool (((decide (48 ≤ (c.toNat : Int))) && (decide ((c.toNat : Int) ≤ 57))) && (decide (0 < (i : Int)))))]) (fun hK => ?_) (fun base => ?_)
      · refine go_region ⟨_, Tryz.func66⟩ rfl ?_
        refine q0 rfl (o_move ?_)
        refine q0 rfl (o_geq ?_)
        refine q0 rfl (o_move ?_)
        refine qI rfl rfl rfl wl_ (fun hg16 => ?_) (fun hg16 => ?_)
        · have g16 : (decide (48 ≤ (c.toNat : Int))) = true := hg16
          try simp only [sC, bne_iff_ne, beq_iff_eq, ne_eq] at g16
          refine o_move ?_
          refine qT rfl rfl rfl (o_leq ?_)
          refine q0 rfl (o_pickT ?_)
          refine q0 rfl (o_move ?_)
          refine qI rfl rfl rfl wl_ (fun hg20 => ?_) (fun hg20 => ?_)
          · have g20 : (decide ((c.toNat : Int) ≤ 57)) = true := hg20
            try simp only [sC, bne_iff_ne, beq_iff_eq, ne_eq] at g20
            refine o_move ?_
            refine qT rfl rfl rfl (o_gtr ?_)
            refine q0 rfl (o_pickT ?_)
            refine rg_nil ?_
            exact hK _ ⟨rfl, rfl, rfl, dn_, trivial⟩
          · have g20 : (decide ((c.toNat : Int) ≤ 57)) = false := hg20
            try simp only [sC, bne_iff_ne, beq_iff_eq, ne_eq] at g20
            refine qF rfl rfl rfl ?_
            refine q0 rfl (o_pickF ?_)
            refine rg_nil ?_
            exact hK _ ⟨rfl, rfl, rfl, dn_, trivial⟩
        · have g16 : (decide (48 ≤ (c.toNat : Int))) = false := hg16
          try simp only [sC, bne_iff_ne, beq_iff_eq, ne_eq] at g16
          refine qF rfl rfl rfl ?_
          refine q0 rfl (o_pickF ?_)
          refine q0 rfl (o_move ?_)
          refine qF rfl rfl rfl ?_
          refine qF rfl rfl rfl ?_
          refine q0 rfl (o_pickF ?_)
          refine rg_nil ?_
          exact hK _ ⟨rfl, rfl, rfl, dn_, trivial⟩
      · refine go_condI (fun h23 => ?_) (fun h23 => ?_)
        · have c23 : (((decide (48 ≤ (c.toNat : Int))) && (decide ((c.toNat : Int) ≤ 57))) && (decide (0 < (i : Int)))) = true := h23
          try simp only [sC, bne_iff_ne, beq_iff_eq, ne_eq] at c23
          refine go_exit rfl ?_
          refine go_region ⟨_, Tryz.func66⟩ rfl ?_
          refine q0 rfl (o_move ?_)
          refine q0 rfl (o_add ?_)
          refine q0 rfl (o_assign ?_)
          refine rg_nil ?_
          have hb : okAt s i = true := by rw [hca]; simp only [letter, digit, Bool.or_eq_true, Bool.and_eq_true, decide_eq_true_eq]; omega
          refine go_state (fun w hs => ?_) (next0 (i + 1) _ (⟨by omega, succ_inv hok hb⟩) (by omega) ⟨rfl, rfl, trivial⟩)
          exact (hs.less (by simp +contextual))
        · have c23 : (((decide (48 ≤ (c.toNat : Int))) && (decide ((c.toNat : Int) ≤ 57))) && (decide (0 < (i : Int)))) = false := h23
          try simp only [sC, bne_iff_ne, beq_iff_eq, ne_eq] at c23
          refine go_skip ?_
          refine go_seq ?_
          refine go_cutS ([(0, .string (s)), (3, .int .i64 ((i : Int))), (41, .bool (((decide ((c.toNat : Int) ≠ 95)) && ((decide ((c.toNat : Int) < 97)) || (decide (122 < (c.toNat : Int))))) && ((decide ((c.toNat : Int) < 65)) || (decide (90 < (c.toNat : Int))))))]) (fun hK => ?_) (fun base => ?_)
          · refine go_region ⟨_, Tryz.func66⟩ rfl ?_
            refine q0 rfl (o_move ?_)
            refine q0 rfl (o_neI ?_)
            refine q0 rfl (o_move ?_)
            refine qI rfl rfl rfl wl_ (fun hg26 => ?_) (fun hg26 => ?_)
            · have g26 : (decide ((c.toNat : Int) ≠ 95)) = true := hg26
              try simp only [sC, bne_iff_ne, beq_iff_eq, ne_eq] at g26
              refine o_move ?_
              refine qT rfl rfl rfl (o_lss ?_)
              refine qT rfl rfl rfl (o_move ?_)
              refine qI rfl rfl rfl wl_ (fun hg29 => ?_) (fun hg29 => ?_)
              · have g29 : (decide ((c.toNat : Int) < 97)) = false := hg29
                try simp only [sC, bne_iff_ne, beq_iff_eq, ne_eq] at g29
                refine o_move ?_
                refine qT rfl rfl rfl (o_gtr ?_)
                refine qT rfl rfl rfl (o_pickF ?_)
                refine q0 rfl (o_pickT ?_)
                refine q0 rfl (o_move ?_)
                refine qI rfl rfl rfl wl_ (fun hg34 => ?_) (fun hg34 => ?_)
                · have g34 : (decide (122 < (c.toNat : Int))) = true := hg34
                  try simp only [sC, bne_iff_ne, beq_iff_eq, ne_eq] at g34
                  refine o_move ?_
                  refine qT rfl rfl rfl (o_lss ?_)
                  refine qT rfl rfl rfl (o_move ?_)
                  refine qI rfl rfl rfl wl_ (fun hg37 => ?_) (fun hg37 => ?_)
                  · have g37 : (decide ((c.toNat : Int) < 65)) = false := hg37
                    try simp only [sC, bne_iff_ne, beq_iff_eq, ne_eq] at g37
                    refine o_move ?_
                    refine qT rfl rfl rfl (o_gtr ?_)
                    refine qT rfl rfl rfl (o_pickF ?_)
                    refine q0 rfl (o_pickT ?_)
                    refine rg_nil ?_
                    exact hK _ ⟨rfl, rfl, dn_, trivial⟩
                  · have g37 : (decide ((c.toNat : Int) < 65)) = true := hg37
                    try simp only [sC, bne_iff_ne, beq_iff_eq, ne_eq] at g37
                    refine qF rfl rfl rfl ?_
                    refine qT rfl rfl rfl (o_pickT ?_)
                    refine q0 rfl (o_pickT ?_)
                    refine rg_nil ?_
                    exact hK _ ⟨rfl, rfl, dn_, trivial⟩
                · have g34 : (decide (122 < (c.toNat : Int))) = false := hg34
                  try simp only [sC, bne_iff_ne, beq_iff_eq, ne_eq] at g34
                  refine qF rfl rfl rfl ?_
                  refine qF rfl rfl rfl ?_
                  refine qU rfl rfl rfl ?_
                  refine qU rfl rfl rfl ?_
                  refine qF rfl rfl rfl ?_
                  refine q0 rfl (o_pickF ?_)
                  refine rg_nil ?_
                  exact hK _ ⟨rfl, rfl, dn_, trivial⟩
              · have g29 : (decide ((c.toNat : Int) < 97)) = true := hg29
                try simp only [sC, bne_iff_ne, beq_iff_eq, ne_eq] at g29
                refine qF rfl rfl rfl ?_
                refine qT rfl rfl rfl (o_pickT ?_)
                refine q0 rfl (o_pickT ?_)
                refine q0 rfl (o_move ?_)
                refine qT rfl rfl rfl (o_move ?_)
                refine qT rfl rfl rfl (o_lss ?_)
                refine qT rfl rfl rfl (o_move ?_)
                refine qI rfl rfl rfl wl_ (fun hg37 => ?_) (fun hg37 => ?_)
                · have g37 : (decide ((c.toNat : Int) < 65)) = false := hg37
                  try simp only [sC, bne_iff_ne, beq_iff_eq, ne_eq] at g37
                  refine o_move ?_
                  refine qT rfl rfl rfl (o_gtr ?_)
                  refine qT rfl rfl rfl (o_pickF ?_)
                  refine q0 rfl (o_pickT ?_)
                  refine rg_nil ?_
                  exact hK _ ⟨rfl, rfl, dn_, trivial⟩
                · have g37 : (decide ((c.toNat : Int) < 65)) = true := hg37
                  try simp only [sC, bne_iff_ne, beq_iff_eq, ne_eq] at g37
                  refine qF rfl rfl rfl ?_
                  refine qT rfl rfl rfl (o_pickT ?_)
                  refine q0 rfl (o_pickT ?_)
                  refine rg_nil ?_
                  exact hK _ ⟨rfl, rfl, dn_, trivial⟩
            · have g26 : (decide ((c.toNat : Int) ≠ 95)) = false := hg26
              try simp only [sC, bne_iff_ne, beq_iff_eq, ne_eq] at g26
              refine qF rfl rfl rfl ?_
              refine qF rfl rfl rfl ?_
              refine qU rfl rfl rfl ?_
              refine qU rfl rfl rfl ?_
              refine qF rfl rfl rfl ?_
              refine q0 rfl (o_pickF ?_)
              refine q0 rfl (o_move ?_)
              refine qF rfl rfl rfl ?_
              refine qF rfl rfl rfl ?_
              refine qF rfl rfl rfl ?_
              refine qU rfl rfl rfl ?_
              refine qU rfl rfl rfl ?_
              refine qF rfl rfl rfl ?_
              refine q0 rfl (o_pickF ?_)
              refine rg_nil ?_
              exact hK _ ⟨rfl, rfl, dn_, trivial⟩
          · refine go_condI (fun h41 => ?_) (fun h41 => ?_)
            · have c41 : (((decide ((c.toNat : Int) ≠ 95)) && ((decide ((c.toNat : Int) < 97)) || (decide (122 < (c.toNat : Int))))) && ((decide ((c.toNat : Int) < 65)) || (decide (90 < (c.toNat : Int))))) = true := h41
              try simp only [sC, bne_iff_ne, beq_iff_eq, ne_eq] at c41
              refine go_seq ?_
              refine go_region ⟨_, Tryz.func66⟩ rfl ?_
              refine q0 rfl (o_assign ?_)
              refine rg_nil ?_
              have hb : okAt s i = false := by rw [hca]; simp only [letter, digit, Bool.or_eq_false_iff, Bool.and_eq_false_iff, decide_eq_false_iff_not]; omega
              refine ret1 Tryz.func66 Tryz.results66 wn_ () (by rw [nameOK_not (by omega) hb]) (fun w hs => hs.none)
            · have c41 : (((decide ((c.toNat : Int) ≠ 95)) && ((decide ((c.toNat : Int) < 97)) || (decide (122 < (c.toNat : Int))))) && ((decide ((c.toNat : Int) < 65)) || (decide (90 < (c.toNat : Int))))) = false := h41
              try simp only [sC, bne_iff_ne, beq_iff_eq, ne_eq] at c41
              refine go_skip ?_
              refine go_inBlock ?_
              refine go_region ⟨_, Tryz.func66⟩ rfl ?_
              refine q0 rfl (o_move ?_)
              refine q0 rfl (o_add ?_)
              refine q0 rfl (o_assign ?_)
              refine rg_nil ?_
              have hb : okAt s i = true := by rw [hca]; simp only [letter, digit, Bool.or_eq_true, Bool.and_eq_true, decide_eq_true_eq]; omega
              refine go_state (fun w hs => ?_) (next0 (i + 1) _ (⟨by omega, succ_inv hok hb⟩) (by omega) ⟨rfl, rfl, trivial⟩)
              exact (hs.less (by simp +contextual))
    · have c8 : (decide ((i : Int) < ((s).size : Int))) = false := h8
      try simp only [sC, bne_iff_ne, beq_iff_eq, ne_eq] at c8
      refine go_exit rfl ?_
      refine go_seq ?_
      refine go_region ⟨_, Tryz.func66⟩ rfl ?_
      refine q0 rfl (o_move ?_)
      refine q0 rfl (o_lenStr ?_)
      refine q0 rfl (o_gtr ?_)
      refine q0 rfl (o_assign ?_)
      refine rg_nil ?_
      have he : i = s.size := by omega
      refine ret1 Tryz.func66 Tryz.results66 wn_ () (by rw [nameOK_all (by rw [← he]; exact hok)]; exact congrArg Value.bool (by rw [Bool.eq_iff_iff, decide_eq_true_eq, bne_iff_ne]; omega)) (fun w hs => hs.none)
abbrev RallAt (t : T) : Prop := ∀ (vr_t vk_t vs_t : SH) (v : Int) (d : Int) (b : Bool), in64 v → 0 ≤ d → d + depth t ≤ 1152921504606846976 → Spec Tryz.prog 56 #[.agg (tc t vr_t vk_t vs_t).toArray, .int .i64 (v), .int .i64 (d), .bool (b)] [RT t vr_t vk_t vs_t] [] (fun _ : Unit => .bool ((allP t v d b))) (fun _ : Unit => []) (fun _ : Unit => [])
set_option maxHeartbeats 4000000 in
theorem rall_walk (t : T) (ihk : ∀ k, k ∈ t.kids → RallAt k) (ihs : ∀ b, b ∈ t.sys → ∀ k, k ∈ b.kids → RallAt k) (vr_t vk_t vs_t : SH) (v : Int) (d : Int) (b : Bool) (hv : in64 v) (hd : 0 ≤ d) (hl : d + depth t ≤ 1152921504606846976) : Spec Tryz.prog 56 #[.agg (tc t vr_t vk_t vs_t).toArray, .int .i64 (v), .int .i64 (d), .bool (b)] [RT t vr_t vk_t vs_t] [] (fun _ : Unit => .bool ((allP t v d b))) (fun _ : Unit => []) (fun _ : Unit => []) := by
  refine spec_go (args := [.agg (tc t vr_t vk_t vs_t).toArray, .int .i64 (v), .int .i64 (d), .bool (b)]) Tryz.func56 Tryz.ntmps56 rfl (by exact Nat.le_of_ble_eq_true rfl) fun B hB => ?_
  refine go_open (t := t) (vr := vr_t) (vk := vk_t) (vs := vs_t) (fun hk1 hn1 hm1 => ?_)
  refine go_openCL (l := (t).r) (a := vr_t) (fun hl2 hA2 hU2 => ?_)
  refine go_openTL (ts := (t).kids) (a := vk_t) (fun VR3 VK3 VS3 hl3 hA3 => ?_)
  refine go_openBL (bs := (t).sys) (a := vs_t) (fun VF4 VK4 hl4 hA4 => ?_)
  refine go_seq ?_
  refine go_region ⟨_, Tryz.func56⟩ rfl ?_
  refine q0 rfl (o_box fun b4 => ?_)
  refine q0 rfl (o_assign ?_)
  refine rg_nil ?_
  refine go_seq ?_
  refine go_seq ?_
  refine go_cutS ([(1, .int .i64 (v)), (2, .int .i64 (d)), (3, .bool (b)), (4, .pointer (some ⟨b4, 0, none⟩)), (40, .bool (((b && (decide (24 < d))) || (decide ((kidsN ((t).kind)) ≠ ((t).kids.length : Int)))) || ((decide (0 < ((t).sys.length : Int))) && (decide ((partsN ((t).kind)) = 0)))))]) (fun hK => ?_) (fun base => ?_)
  · refine go_draw (pn := 1000000) (tn := false) (A := [0, 1, 3, 7, 15, 31, 63, 127, 255, 63, 575, 1599, 4095, 8191, 16383, 32767, 65535, 131071, 262143, 524287, 1048575, 2097151, 4194303, 8388607, 16777215, 33554431]) (l := [0, 1, 2, 3, 4, 5, 6, 7, 9, 10, 11, 8, 12, 13, 14, 15, 16, 17, 18, 19, 20, 21, 22, 23, 24, 25]) (fin := []) Tab.mixed ⟨_, Tryz.func56⟩ (by decide +kernel) ?_
    refine n0 rfl (v_move ?_)
    refine n0 rfl (v_move ?_)
    refine nI rfl rfl rfl wl_ (fun hg16 => ?_) (fun hg16 => ?_)
    · have g16 : (b) = true := hg16
      try simp only [sC, bne_iff_ne, beq_iff_eq, ne_eq] at g16
      refine v_move ?_
      refine nT rfl rfl rfl (v_gtr ?_)
      refine n0 rfl (v_pickT ?_)
      refine n0 rfl (v_move ?_)
      refine nI rfl rfl rfl wl_ (fun hg20 => ?_) (fun hg20 => ?_)
      · have g20 : (decide (24 < d)) = false := hg20
        try simp only [sC, bne_iff_ne, beq_iff_eq, ne_eq] at g20
        refine v_fa ?_
        refine nT rfl rfl rfl (v_ld ?_)
        refine nT rfl rfl rfl (v_fa ?_)
        refine nT rfl rfl rfl (v_ld ?_)
        refine nT rfl rfl rfl (v_len ?_)
        refine nT rfl rfl rfl (v_call Tryz.call64 (rkids_spec ((t).kind) ) (fun x23 => ?_))
        refine nT rfl rfl rfl (v_neI ?_)
        refine n0 rfl (v_pickF ?_)
        refine n0 rfl (v_move ?_)
        refine nI rfl rfl rfl wl_ (fun hg29 => ?_) (fun hg29 => ?_)
        · have g29 : (decide ((kidsN ((t).kind)) ≠ ((t).kids.length : Int))) = false := hg29
          try simp only [sC, bne_iff_ne, beq_iff_eq, ne_eq] at g29
          refine v_fa ?_
          refine nT rfl rfl rfl (v_ld ?_)
          refine nT rfl rfl rfl (v_len ?_)
          refine nT rfl rfl rfl (v_gtr ?_)
          refine nT rfl rfl rfl (v_move ?_)
          refine nI rfl rfl rfl wl_ (fun hg34 => ?_) (fun hg34 => ?_)
          · have g34 : (decide (0 < ((t).sys.length : Int))) = true := hg34
            try simp only [sC, bne_iff_ne, beq_iff_eq, ne_eq] at g34
            refine v_fa ?_
            refine nT rfl rfl rfl (v_ld ?_)
            refine nT rfl rfl rfl (v_call Tryz.call65 (rparts_spec ((t).kind) ) (fun x37 => ?_))
            refine nT rfl rfl rfl (v_eqI ?_)
            refine nT rfl rfl rfl (v_pickT ?_)
            refine n0 rfl (v_pickF ?_)
            refine NV.done ?_
            refine rg_nil ?_
            exact hK _ ⟨rfl, rfl, rfl, rfl, dn_, trivial⟩
          · have g34 : (decide (0 < ((t).sys.length : Int))) = false := hg34
            try simp only [sC, bne_iff_ne, beq_iff_eq, ne_eq] at g34
            refine nF rfl rfl rfl ?_
            refine nF rfl rfl rfl ?_
            refine nF rfl rfl rfl ?_
            refine nT rfl rfl rfl (v_pickF ?_)
            refine n0 rfl (v_pickF ?_)
            refine NV.done ?_
            refine rg_nil ?_
            exact hK _ ⟨rfl, rfl, rfl, rfl, dn_, trivial⟩
        · have g29 : (decide ((kidsN ((t).kind)) ≠ ((t).kids.length : Int))) = true := hg29
          try simp only [sC, bne_iff_ne, beq_iff_eq, ne_eq] at g29
          refine nF rfl rfl rfl ?_
          refine nF rfl rfl rfl ?_
          refine nF rfl rfl rfl ?_
          refine nF rfl rfl rfl ?_
          refine nU rfl rfl rfl ?_
          refine nU rfl rfl rfl ?_
          refine nU rfl rfl rfl ?_
          refine nU rfl rfl rfl ?_
          refine nF rfl rfl rfl ?_
          refine n0 rfl (v_pickT ?_)
          refine NV.done ?_
          refine rg_nil ?_
          exact hK _ ⟨rfl, rfl, rfl, rfl, dn_, trivial⟩
      · have g20 : (decide (24 < d)) = true := hg20
        try simp only [sC, bne_iff_ne, beq_iff_eq, ne_eq] at g20
        refine nF rfl rfl rfl ?_
        refine nF rfl rfl rfl ?_
        refine nF rfl rfl rfl ?_
        refine nF rfl rfl rfl ?_
        refine nF rfl rfl rfl ?_
        refine nF rfl rfl rfl ?_
        refine n0 rfl (v_pickT ?_)
        refine n0 rfl (v_move ?_)
        refine nF rfl rfl rfl ?_
        refine nF rfl rfl rfl ?_
        refine nF rfl rfl rfl ?_
        refine nF rfl rfl rfl ?_
        refine nF rfl rfl rfl ?_
        refine nU rfl rfl rfl ?_
        refine nU rfl rfl rfl ?_
        refine nU rfl rfl rfl ?_
        refine nU rfl rfl rfl ?_
        refine nF rfl rfl rfl ?_
        refine n0 rfl (v_pickT ?_)
        refine NV.done ?_
        refine rg_nil ?_
        exact hK _ ⟨rfl, rfl, rfl, rfl, dn_, trivial⟩
    · have g16 : (b) = false := hg16
      try simp only [sC, bne_iff_ne, beq_iff_eq, ne_eq] at g16
      refine nF rfl rfl rfl ?_
      refine n0 rfl (v_pickF ?_)
      refine n0 rfl (v_move ?_)
      refine nT rfl rfl rfl (v_fa ?_)
      refine nT rfl rfl rfl (v_ld ?_)
      refine nT rfl rfl rfl (v_fa ?_)
      refine nT rfl rfl rfl (v_ld ?_)
      refine nT rfl rfl rfl (v_len ?_)
      refine nT rfl rfl rfl (v_call Tryz.call64 (rkids_spec ((t).kind) ) (fun x23 => ?_))
      refine nT rfl rfl rfl (v_neI ?_)
      refine n0 rfl (v_pickF ?_)
      refine n0 rfl (v_move ?_)
      refine nI rfl rfl rfl wl_ (fun hg29 => ?_) (fun hg29 => ?_)
      · have g29 : (decide ((kidsN ((t).kind)) ≠ ((t).kids.length : Int))) = false := hg29
        try simp only [sC, bne_iff_ne, beq_iff_eq, ne_eq] at g29
        refine v_fa ?_
        refine nT rfl rfl rfl (v_ld ?_)
        refine nT rfl rfl rfl (v_len ?_)
        refine nT rfl rfl rfl (v_gtr ?_)
        refine nT rfl rfl rfl (v_move ?_)
        refine nI rfl rfl rfl wl_ (fun hg34 => ?_) (fun hg34 => ?_)
        · have g34 : (decide (0 < ((t).sys.length : Int))) = true := hg34
          try simp only [sC, bne_iff_ne, beq_iff_eq, ne_eq] at g34
          refine v_fa ?_
          refine nT rfl rfl rfl (v_ld ?_)
          refine nT rfl rfl rfl (v_call Tryz.call65 (rparts_spec ((t).kind) ) (fun x37 => ?_))
          refine nT rfl rfl rfl (v_eqI ?_)
          refine nT rfl rfl rfl (v_pickT ?_)
          refine n0 rfl (v_pickF ?_)
          refine NV.done ?_
          refine rg_nil ?_
          exact hK _ ⟨rfl, rfl, rfl, rfl, dn_, trivial⟩
        · have g34 : (decide (0 < ((t).sys.length : Int))) = false := hg34
          try simp only [sC, bne_iff_ne, beq_iff_eq, ne_eq] at g34
          refine nF rfl rfl rfl ?_
          refine nF rfl rfl rfl ?_
          refine nF rfl rfl rfl ?_
          refine nT rfl rfl rfl (v_pickF ?_)
          refine n0 rfl (v_pickF ?_)
          refine NV.done ?_
          refine rg_nil ?_
          exact hK _ ⟨rfl, rfl, rfl, rfl, dn_, trivial⟩
      · have g29 : (decide ((kidsN ((t).kind)) ≠ ((t).kids.length : Int))) = true := hg29
        try simp only [sC, bne_iff_ne, beq_iff_eq, ne_eq] at g29
        refine nF rfl rfl rfl ?_
        refine nF rfl rfl rfl ?_
        refine nF rfl rfl rfl ?_
        refine nF rfl rfl rfl ?_
        refine nU rfl rfl rfl ?_
        refine nU rfl rfl rfl ?_
        refine nU rfl rfl rfl ?_
        refine nU rfl rfl rfl ?_
        refine nF rfl rfl rfl ?_
        refine n0 rfl (v_pickT ?_)
        refine NV.done ?_
        refine rg_nil ?_
        exact hK _ ⟨rfl, rfl, rfl, rfl, dn_, trivial⟩
  · refine go_condI (fun h40 => ?_) (fun h40 => ?_)
    · have c40 : (((b && (decide (24 < d))) || (decide ((kidsN ((t).kind)) ≠ ((t).kids.length : Int)))) || ((decide (0 < ((t).sys.length : Int))) && (decide ((partsN ((t).kind)) = 0)))) = true := h40
      try simp only [sC, bne_iff_ne, beq_iff_eq, ne_eq] at c40
      have hno : ¬ Ahead t v d b := fun ha => by have h1 := ha.bound; have h2 := ha.kids; have h3 := ha.sys; simp at h40; rcases h40 with (h4 | h4) | h4 <;> first | exact h1 h4 | exact h4 h2 | omega
      refine go_seq ?_
      refine go_region ⟨_, Tryz.func56⟩ rfl ?_
      refine q0 rfl (o_assign ?_)
      refine rg_nil ?_
      refine ret1 Tryz.func56 Tryz.results56 wn_ () (by congr 1; symm; first | exact all_no1 hv hd hno | exact all_no2 hv hd (i := i) (by omega) hno2 | exact all_no3 hv hd (i := i2) (by omega) hno3 | exact (all_steps hv hd).mpr ⟨ha, fun j hj => hok j (by omega), fun j hj => hok2 j (by omega)⟩) (fun w hs => hs.none)
    · have c40 : (((b && (decide (24 < d))) || (decide ((kidsN ((t).kind)) ≠ ((t).kids.length : Int)))) || ((decide (0 < ((t).sys.length : Int))) && (decide ((partsN ((t).kind)) = 0)))) = false := h40
      try simp only [sC, bne_iff_ne, beq_iff_eq, ne_eq] at c40
      have ha1 : ¬ (b = true ∧ 24 < d) ∧ kidsN t.kind = (t.kids.length : Int) ∧ (partsN t.kind = 0 → t.sys.length = 0) := by simp at h40; refine ⟨fun h => by have := h40.1.1 h.1; omega, h40.1.2, fun h => ?_⟩; apply Classical.byContradiction; intro hc; exact h40.2 (by omega) h
      refine go_skip ?_
      refine go_seq ?_
      refine go_seq ?_
      refine go_region ⟨_, Tryz.func56⟩ rfl ?_
      refine q0 rfl (o_fa ?_)
      refine q0 rfl (o_ld ?_)
      refine q0 rfl (o_eqI ?_)
      refine rg_nil ?_
      refine go_cutP (if t.kind = 1 then 0 ≤ t.n ∧ (v < 0 ∨ t.n < v) else t.n = 0) ([(1, .int .i64 (v)), (2, .int .i64 (d)), (3, .bool (b)), (4, .pointer (some ⟨b4, 0, none⟩))]) (fun hK => ?_) (fun hN base => ?_)
      · refine go_condI (fun h43 => ?_) (fun h43 => ?_)
        · have c43 : (decide (((t).kind) = 1)) = true := h43
          try simp only [sC, bne_iff_ne, beq_iff_eq, ne_eq] at c43
          refine go_seq ?_
          refine go_cutS ([(1, .int .i64 (v)), (2, .int .i64 (d)), (3, .bool (b)), (4, .pointer (some ⟨b4, 0, none⟩)), (56, .bool ((decide (((t).n) < 0)) || ((decide (0 ≤ v)) && (decide (v ≤ ((t).n))))))]) (fun hK => ?_) (fun base => ?_)
          · refine go_region ⟨_, Tryz.func56⟩ rfl ?_
            refine q0 rfl (o_fa ?_)
            refine q0 rfl (o_ld ?_)
            refine q0 rfl (o_lss ?_)
            refine q0 rfl (o_move ?_)
            refine qI rfl rfl rfl wl_ (fun hg47 => ?_) (fun hg47 => ?_)
            · have g47 : (decide (((t).n) < 0)) = false := hg47
              try simp only [sC, bne_iff_ne, beq_iff_eq, ne_eq] at g47
              refine o_move ?_
              refine qT rfl rfl rfl (o_geq ?_)
              refine qT rfl rfl rfl (o_move ?_)
              refine qI rfl rfl rfl wl_ (fun hg50 => ?_) (fun hg50 => ?_)
              · have g50 : (decide (0 ≤ v)) = true := hg50
                try simp only [sC, bne_iff_ne, beq_iff_eq, ne_eq] at g50
                refine o_fa ?_
                refine qT rfl rfl rfl (o_ld ?_)
                refine qT rfl rfl rfl (o_move ?_)
                refine qT rfl rfl rfl (o_geq ?_)
                refine qT rfl rfl rfl (o_pickT ?_)
                refine q0 rfl (o_pickF ?_)
                refine rg_nil ?_
                exact hK _ ⟨rfl, rfl, rfl, rfl, dn_, trivial⟩
              · have g50 : (decide (0 ≤ v)) = false := hg50
                try simp only [sC, bne_iff_ne, beq_iff_eq, ne_eq] at g50
                refine qF rfl rfl rfl ?_
                refine qF rfl rfl rfl ?_
                refine qF rfl rfl rfl ?_
                refine qT rfl rfl rfl (o_pickF ?_)
                refine q0 rfl (o_pickF ?_)
                refine rg_nil ?_
                exact hK _ ⟨rfl, rfl, rfl, rfl, dn_, trivial⟩
            · have g47 : (decide (((t).n) < 0)) = true := hg47
              try simp only [sC, bne_iff_ne, beq_iff_eq, ne_eq] at g47
              refine qF rfl rfl rfl ?_
              refine qF rfl rfl rfl ?_
              refine qU rfl rfl rfl ?_
              refine qU rfl rfl rfl ?_
              refine qU rfl rfl rfl ?_
              refine qU rfl rfl rfl ?_
              refine qF rfl rfl rfl ?_
              refine q0 rfl (o_pickT ?_)
              refine rg_nil ?_
              exact hK _ ⟨rfl, rfl, rfl, rfl, dn_, trivial⟩
          · refine go_condI (fun h56 => ?_) (fun h56 => ?_)
            · have c56 : ((decide (((t).n) < 0)) || ((decide (0 ≤ v)) && (decide (v ≤ ((t).n))))) = true := h56
              try simp only [sC, bne_iff_ne, beq_iff_eq, ne_eq] at c56
              have hno : ¬ Ahead t v d b := fun ha => by have h1 := ha.n1; rw [if_pos c43] at h1; simp at h56; omega
              refine go_seq ?_
              refine go_region ⟨_, Tryz.func56⟩ rfl ?_
              refine q0 rfl (o_assign ?_)
              refine rg_nil ?_
              refine ret1 Tryz.func56 Tryz.results56 wn_ () (by congr 1; symm; first | exact all_no1 hv hd hno | exact all_no2 hv hd (i := i) (by omega) hno2 | exact all_no3 hv hd (i := i2) (by omega) hno3 | exact (all_steps hv hd).mpr ⟨ha, fun j hj => hok j (by omega), fun j hj => hok2 j (by omega)⟩) (fun w hs => hs.none)
            · have c56 : ((decide (((t).n) < 0)) || ((decide (0 ≤ v)) && (decide (v ≤ ((t).n))))) = false := h56
              try simp only [sC, bne_iff_ne, beq_iff_eq, ne_eq] at c56
              refine go_skip ?_
              exact hK (by first | (rw [if_pos c43]; simp at c56; omega) | (rw [if_neg c43]; omega)) _ ⟨rfl, rfl, rfl, rfl, trivial⟩
        · have c43 : (decide (((t).kind) = 1)) = false := h43
          try simp only [sC, bne_iff_ne, beq_iff_eq, ne_eq] at c43
          refine go_seq ?_
          refine go_region ⟨_, Tryz.func56⟩ rfl ?_
          refine q0 rfl (o_fa ?_)
          refine q0 rfl (o_ld ?_)
          refine q0 rfl (o_neI ?_)
          refine rg_nil ?_
          refine go_condI (fun h59 => ?_) (fun h59 => ?_)
          · have c59 : (decide (((t).n) ≠ 0)) = true := h59
            try simp only [sC, bne_iff_ne, beq_iff_eq, ne_eq] at c59
            have hno : ¬ Ahead t v d b := fun ha => by have h1 := ha.n1; rw [if_neg c43] at h1; exact c59 h1
            refine go_seq ?_
            refine go_region ⟨_, Tryz.func56⟩ rfl ?_
            refine q0 rfl (o_assign ?_)
            refine rg_nil ?_
            refine ret1 Tryz.func56 Tryz.results56 wn_ () (by congr 1; symm; first | exact all_no1 hv hd hno | exact all_no2 hv hd (i := i) (by omega) hno2 | exact all_no3 hv hd (i := i2) (by omega) hno3 | exact (all_steps hv hd).mpr ⟨ha, fun j hj => hok j (by omega), fun j hj => hok2 j (by omega)⟩) (fun w hs => hs.none)
          · have c59 : (decide (((t).n) ≠ 0)) = false := h59
            try simp only [sC, bne_iff_ne, beq_iff_eq, ne_eq] at c59
            refine go_skip ?_
            exact hK (by first | (rw [if_pos c43]; simp at c56; omega) | (rw [if_neg c43]; omega)) _ ⟨rfl, rfl, rfl, rfl, trivial⟩
      · refine go_seq ?_
        refine go_seq ?_
        refine go_cutS ([(1, .int .i64 (v)), (2, .int .i64 (d)), (3, .bool (b)), (4, .pointer (some ⟨b4, 0, none⟩)), (78, .bool (((decide (((t).kind) = 2)) && (!(nameOK ((t).name)))) || ((decide (((t).kind) ≠ 2)) && (!(((t).name).toList == (ByteArray.mk #[]).toList)))))]) (fun hK => ?_) (fun base => ?_)
        · refine go_region ⟨_, Tryz.func56⟩ rfl ?_
          refine q0 rfl (o_fa ?_)
          refine q0 rfl (o_ld ?_)
          refine q0 rfl (o_eqI ?_)
          refine q0 rfl (o_move ?_)
          refine qI rfl rfl rfl wl_ (fun hg63 => ?_) (fun hg63 => ?_)
          · have g63 : (decide (((t).kind) = 2)) = true := hg63
            try simp only [sC, bne_iff_ne, beq_iff_eq, ne_eq] at g63
            refine o_fa ?_
            refine qT rfl rfl rfl (o_ld ?_)
            refine qT rfl rfl rfl (o_call Tryz.call66 (rname_spec ((t).name) om_) (fun x66 => ?_))
            refine qT rfl rfl rfl (o_not ?_)
            refine q0 rfl (o_pickT ?_)
            refine q0 rfl (o_move ?_)
            refine qI rfl rfl rfl wl_ (fun hg69 => ?_) (fun hg69 => ?_)
            · have g69 : (!(nameOK ((t).name))) = false := hg69
              try simp only [sC, bne_iff_ne, beq_iff_eq, ne_eq] at g69
              refine o_fa ?_
              refine qT rfl rfl rfl (o_ld ?_)
              refine qT rfl rfl rfl (o_neI ?_)
              refine qT rfl rfl rfl (o_move ?_)
              refine qI rfl rfl rfl wl_ (fun hg73 => ?_) (fun hg73 => ?_)
              · have g73 : (decide (((t).kind) ≠ 2)) = true := hg73
                try simp only [sC, bne_iff_ne, beq_iff_eq, ne_eq] at g73
                refine o_fa ?_
                refine qT rfl rfl rfl (o_ld ?_)
                refine qT rfl rfl rfl (o_neS ?_)
                refine qT rfl rfl rfl (o_pickT ?_)
                refine q0 rfl (o_pickF ?_)
                refine rg_nil ?_
                exact hK _ ⟨rfl, rfl, rfl, rfl, dn_, trivial⟩
              · have g73 : (decide (((t).kind) ≠ 2)) = false := hg73
                try simp only [sC, bne_iff_ne, beq_iff_eq, ne_eq] at g73
                refine qF rfl rfl rfl ?_
                refine qF rfl rfl rfl ?_
                refine qT rfl rfl rfl (o_pickF ?_)
                refine q0 rfl (o_pickF ?_)
                refine rg_nil ?_
                exact hK _ ⟨rfl, rfl, rfl, rfl, dn_, trivial⟩
            · have g69 : (!(nameOK ((t).name))) = true := hg69
              try simp only [sC, bne_iff_ne, beq_iff_eq, ne_eq] at g69
              refine qF rfl rfl rfl ?_
              refine qF rfl rfl rfl ?_
              refine qF rfl rfl rfl ?_
              refine qU rfl rfl rfl ?_
              refine qU rfl rfl rfl ?_
              refine qU rfl rfl rfl ?_
              refine qF rfl rfl rfl ?_
              refine q0 rfl (o_pickT ?_)
              refine rg_nil ?_
              exact hK _ ⟨rfl, rfl, rfl, rfl, dn_, trivial⟩
          · have g63 : (decide (((t).kind) = 2)) = false := hg63
            try simp only [sC, bne_iff_ne, beq_iff_eq, ne_eq] at g63
            refine qF rfl rfl rfl ?_
            refine qF rfl rfl rfl ?_
            refine qF rfl rfl rfl ?_
            refine q0 rfl (o_pickF ?_)
            refine q0 rfl (o_move ?_)
            refine qT rfl rfl rfl (o_fa ?_)
            refine qT rfl rfl rfl (o_ld ?_)
            refine qT rfl rfl rfl (o_neI ?_)
            refine qT rfl rfl rfl (o_move ?_)
            refine qI rfl rfl rfl wl_ (fun hg73 => ?_) (fun hg73 => ?_)
            · have g73 : (decide (((t).kind) ≠ 2)) = true := hg73
              try simp only [sC, bne_iff_ne, beq_iff_eq, ne_eq] at g73
              refine o_fa ?_
              refine qT rfl rfl rfl (o_ld ?_)
              refine qT rfl rfl rfl (o_neS ?_)
              refine qT rfl rfl rfl (o_pickT ?_)
              refine q0 rfl (o_pickF ?_)
              refine rg_nil ?_
              exact hK _ ⟨rfl, rfl, rfl, rfl, dn_, trivial⟩
            · have g73 : (decide (((t).kind) ≠ 2)) = false := hg73
              try simp only [sC, bne_iff_ne, beq_iff_eq, ne_eq] at g73
              refine qF rfl rfl rfl ?_
              refine qF rfl rfl rfl ?_
              refine qT rfl rfl rfl (o_pickF ?_)
              refine q0 rfl (o_pickF ?_)
              refine rg_nil ?_
              exact hK _ ⟨rfl, rfl, rfl, rfl, dn_, trivial⟩
        · refine go_condI (fun h78 => ?_) (fun h78 => ?_)
          · have c78 : (((decide (((t).kind) = 2)) && (!(nameOK ((t).name)))) || ((decide (((t).kind) ≠ 2)) && (!(((t).name).toList == (ByteArray.mk #[]).toList)))) = true := h78
            try simp only [sC, bne_iff_ne, beq_iff_eq, ne_eq] at c78
            have hno : ¬ Ahead t v d b := fun ha => by have h1 := ha.nm; clear hN ha1; by_cases hk : t.kind = 2 <;> simp [hk] at h1 h78 <;> simp [h1] at h78
            refine go_seq ?_
            refine go_region ⟨_, Tryz.func56⟩ rfl ?_
            refine q0 rfl (o_assign ?_)
            refine rg_nil ?_
            refine ret1 Tryz.func56 Tryz.results56 wn_ () (by congr 1; symm; first | exact all_no1 hv hd hno | exact all_no2 hv hd (i := i) (by omega) hno2 | exact all_no3 hv hd (i := i2) (by omega) hno3 | exact (all_steps hv hd).mpr ⟨ha, fun j hj => hok j (by omega), fun j hj => hok2 j (by omega)⟩) (fun w hs => hs.none)
          · have c78 : (((decide (((t).kind) = 2)) && (!(nameOK ((t).name)))) || ((decide (((t).kind) ≠ 2)) && (!(((t).name).toList == (ByteArray.mk #[]).toList)))) = false := h78
            try simp only [sC, bne_iff_ne, beq_iff_eq, ne_eq] at c78
            have ha2 : if t.kind = 2 then nameOK t.name = true else (t.name.toList == (ByteArray.mk #[]).toList) = true := by by_cases hk : t.kind = 2 <;> simp [hk] at h78 ⊢ <;> exact h78
            refine go_skip ?_
            refine go_seq ?_
            refine go_seq ?_
            refine go_region ⟨_, Tryz.func56⟩ rfl ?_
            refine q0 rfl (o_fa ?_)
            refine q0 rfl (o_ld ?_)
            refine rg_nil ?_
            refine go_cutP (if t.kind = 13 ∨ t.kind = 21 ∨ t.kind = 26 then fRight t.r = true else if t.kind = 14 then faceRight t.r = true else t.r.length = 0) ([(1, .int .i64 (v)), (2, .int .i64 (d)), (3, .bool (b)), (4, .pointer (some ⟨b4, 0, none⟩))]) (fun hK => ?_) (fun hR base => ?_)
            · refine go_block ?_
              refine go_seq ?_
              refine go_seq ?_
              refine go_region ⟨_, Tryz.func56⟩ rfl ?_
              refine q0 rfl (o_eqI ?_)
              refine q0 rfl (o_assign ?_)
              refine rg_nil ?_
              refine go_condI (fun h85 => ?_) (fun h85 => ?_)
              · have c85 : (decide (((t).kind) = 13)) = true := h85
                try simp only [sC, bne_iff_ne, beq_iff_eq, ne_eq] at c85
                refine go_skip ?_
                refine go_condT ?_
                refine go_seq ?_
                refine go_region ⟨_, Tryz.func56⟩ rfl ?_
                refine q0 rfl (o_fa ?_)
                refine q0 rfl (o_ld ?_)
                refine q0 rfl (o_call Tryz.call67 (rfright ((t).r) vr_t ) (fun x91 => ?_))
                refine q0 rfl (o_not ?_)
                refine rg_nil ?_
                refine go_condI (fun h92 => ?_) (fun h92 => ?_)
                · have c92 : (!(fRight ((t).r))) = true := h92
                  try simp only [sC, bne_iff_ne, beq_iff_eq, ne_eq] at c92
                  have hno : ¬ Ahead t v d b := fun ha => by have h1 := ha.r; rw [if_pos (by omega)] at h1; simp [h1] at h92
                  refine go_seq ?_
                  refine go_region ⟨_, Tryz.func56⟩ rfl ?_
                  refine q0 rfl (o_assign ?_)
                  refine rg_nil ?_
                  refine ret1 Tryz.func56 Tryz.results56 wn_ () (by congr 1; symm; first | exact all_no1 hv hd hno | exact all_no2 hv hd (i := i) (by omega) hno2 | exact all_no3 hv hd (i := i2) (by omega) hno3 | exact (all_steps hv hd).mpr ⟨ha, fun j hj => hok j (by omega), fun j hj => hok2 j (by omega)⟩) (fun w hs => hs.none)
                · have c92 : (!(fRight ((t).r))) = false := h92
                  try simp only [sC, bne_iff_ne, beq_iff_eq, ne_eq] at c92
                  refine go_skip ?_
                  refine go_inBlock ?_
                  exact hK (by first | (rw [if_pos (by omega)]; simpa using h92) | (rw [if_neg (by omega), if_pos (by omega)]; simpa using h98) | (rw [if_neg (by omega), if_neg (by omega)]; omega)) _ ⟨rfl, rfl, rfl, rfl, trivial⟩
              · have c85 : (decide (((t).kind) = 13)) = false := h85
                try simp only [sC, bne_iff_ne, beq_iff_eq, ne_eq] at c85
                refine go_seq ?_
                refine go_region ⟨_, Tryz.func56⟩ rfl ?_
                refine q0 rfl (o_eqI ?_)
                refine q0 rfl (o_assign ?_)
                refine rg_nil ?_
                refine go_condI (fun h85 => ?_) (fun h85 => ?_)
                · have c85 : (decide (((t).kind) = 21)) = true := h85
                  try simp only [sC, bne_iff_ne, beq_iff_eq, ne_eq] at c85
                  refine go_skip ?_
                  refine go_condT ?_
                  refine go_seq ?_
                  refine go_region ⟨_, Tryz.func56⟩ rfl ?_
                  refine q0 rfl (o_fa ?_)
                  refine q0 rfl (o_ld ?_)
                  refine q0 rfl (o_call Tryz.call67 (rfright ((t).r) vr_t ) (fun x91 => ?_))
                  refine q0 rfl (o_not ?_)
                  refine rg_nil ?_
                  refine go_condI (fun h92 => ?_) (fun h92 => ?_)
                  · have c92 : (!(fRight ((t).r))) = true := h92
                    try simp only [sC, bne_iff_ne, beq_iff_eq, ne_eq] at c92
                    have hno : ¬ Ahead t v d b := fun ha => by have h1 := ha.r; rw [if_pos (by omega)] at h1; simp [h1] at h92
                    refine go_seq ?_
                    refine go_region ⟨_, Tryz.func56⟩ rfl ?_
                    refine q0 rfl (o_assign ?_)
                    refine rg_nil ?_
                    refine ret1 Tryz.func56 Tryz.results56 wn_ () (by congr 1; symm; first | exact all_no1 hv hd hno | exact all_no2 hv hd (i := i) (by omega) hno2 | exact all_no3 hv hd (i := i2) (by omega) hno3 | exact (all_steps hv hd).mpr ⟨ha, fun j hj => hok j (by omega), fun j hj => hok2 j (by omega)⟩) (fun w hs => hs.none)
                  · have c92 : (!(fRight ((t).r))) = false := h92
                    try simp only [sC, bne_iff_ne, beq_iff_eq, ne_eq] at c92
                    refine go_skip ?_
                    refine go_inBlock ?_
                    exact hK (by first | (rw [if_pos (by omega)]; simpa using h92) | (rw [if_neg (by omega), if_pos (by omega)]; simpa using h98) | (rw [if_neg (by omega), if_neg (by omega)]; omega)) _ ⟨rfl, rfl, rfl, rfl, trivial⟩
                · have c85 : (decide (((t).kind) = 21)) = false := h85
                  try simp only [sC, bne_iff_ne, beq_iff_eq, ne_eq] at c85
                  refine go_region ⟨_, Tryz.func56⟩ rfl ?_
                  refine q0 rfl (o_eqI ?_)
                  refine q0 rfl (o_assign ?_)
                  refine rg_nil ?_
                  refine go_condI (fun h85 => ?_) (fun h85 => ?_)
                  · have c85 : (decide (((t).kind) = 26)) = true := h85
                    try simp only [sC, bne_iff_ne, beq_iff_eq, ne_eq] at c85
                    refine go_seq ?_
                    refine go_region ⟨_, Tryz.func56⟩ rfl ?_
                    refine q0 rfl (o_fa ?_)
                    refine q0 rfl (o_ld ?_)
                    refine q0 rfl (o_call Tryz.call67 (rfright ((t).r) vr_t ) (fun x91 => ?_))
                    refine q0 rfl (o_not ?_)
                    refine rg_nil ?_
                    refine go_condI (fun h92 => ?_) (fun h92 => ?_)
                    · have c92 : (!(fRight ((t).r))) = true := h92
                      try simp only [sC, bne_iff_ne, beq_iff_eq, ne_eq] at c92
                      have hno : ¬ Ahead t v d b := fun ha => by have h1 := ha.r; rw [if_pos (by omega)] at h1; simp [h1] at h92
                      refine go_seq ?_
                      refine go_region ⟨_, Tryz.func56⟩ rfl ?_
                      refine q0 rfl (o_assign ?_)
                      refine rg_nil ?_
                      refine ret1 Tryz.func56 Tryz.results56 wn_ () (by congr 1; symm; first | exact all_no1 hv hd hno | exact all_no2 hv hd (i := i) (by omega) hno2 | exact all_no3 hv hd (i := i2) (by omega) hno3 | exact (all_steps hv hd).mpr ⟨ha, fun j hj => hok j (by omega), fun j hj => hok2 j (by omega)⟩) (fun w hs => hs.none)
                    · have c92 : (!(fRight ((t).r))) = false := h92
                      try simp only [sC, bne_iff_ne, beq_iff_eq, ne_eq] at c92
                      refine go_skip ?_
                      refine go_inBlock ?_
                      exact hK (by first | (rw [if_pos (by omega)]; simpa using h92) | (rw [if_neg (by omega), if_pos (by omega)]; simpa using h98) | (rw [if_neg (by omega), if_neg (by omega)]; omega)) _ ⟨rfl, rfl, rfl, rfl, trivial⟩
                  · have c85 : (decide (((t).kind) = 26)) = false := h85
                    try simp only [sC, bne_iff_ne, beq_iff_eq, ne_eq] at c85
                    refine go_seq ?_
                    refine go_region ⟨_, Tryz.func56⟩ rfl ?_
                    refine q0 rfl (o_eqI ?_)
                    refine q0 rfl (o_assign ?_)
                    refine rg_nil ?_
                    refine go_condI (fun h93 => ?_) (fun h93 => ?_)
                    · have c93 : (decide (((t).kind) = 14)) = true := h93
                      try simp only [sC, bne_iff_ne, beq_iff_eq, ne_eq] at c93
                      refine go_seq ?_
                      refine go_region ⟨_, Tryz.func56⟩ rfl ?_
                      refine q0 rfl (o_fa ?_)
                      refine q0 rfl (o_ld ?_)
                      refine q0 rfl (o_call Tryz.call68 (rfaceright ((t).r) vr_t ) (fun x97 => ?_))
                      refine q0 rfl (o_not ?_)
                      refine rg_nil ?_
                      refine go_condI (fun h98 => ?_) (fun h98 => ?_)
                      · have c98 : (!(faceRight ((t).r))) = true := h98
                        try simp only [sC, bne_iff_ne, beq_iff_eq, ne_eq] at c98
                        have hno : ¬ Ahead t v d b := fun ha => by have h1 := ha.r; rw [if_neg (by omega), if_pos (by omega)] at h1; simp [h1] at h98
                        refine go_seq ?_
                        refine go_region ⟨_, Tryz.func56⟩ rfl ?_
                        refine q0 rfl (o_assign ?_)
                        refine rg_nil ?_
                        refine ret1 Tryz.func56 Tryz.results56 wn_ () (by congr 1; symm; first | exact all_no1 hv hd hno | exact all_no2 hv hd (i := i) (by omega) hno2 | exact all_no3 hv hd (i := i2) (by omega) hno3 | exact (all_steps hv hd).mpr ⟨ha, fun j hj => hok j (by omega), fun j hj => hok2 j (by omega)⟩) (fun w hs => hs.none)
                      · have c98 : (!(faceRight ((t).r))) = false := h98
                        try simp only [sC, bne_iff_ne, beq_iff_eq, ne_eq] at c98
                        refine go_skip ?_
                        refine go_inBlock ?_
                        exact hK (by first | (rw [if_pos (by omega)]; simpa using h92) | (rw [if_neg (by omega), if_pos (by omega)]; simpa using h98) | (rw [if_neg (by omega), if_neg (by omega)]; omega)) _ ⟨rfl, rfl, rfl, rfl, trivial⟩
                    · have c93 : (decide (((t).kind) = 14)) = false := h93
                      try simp only [sC, bne_iff_ne, beq_iff_eq, ne_eq] at c93
                      refine go_seq ?_
                      refine go_region ⟨_, Tryz.func56⟩ rfl ?_
                      refine q0 rfl (o_fa ?_)
                      refine q0 rfl (o_ld ?_)
                      refine q0 rfl (o_len ?_)
                      refine q0 rfl (o_gtr ?_)
                      refine rg_nil ?_
                      refine go_condI (fun h84 => ?_) (fun h84 => ?_)
                      · have c84 : (decide (0 < ((t).r.length : Int))) = true := h84
                        try simp only [sC, bne_iff_ne, beq_iff_eq, ne_eq] at c84
                        have hno : ¬ Ahead t v d b := fun ha => by have h1 := ha.r; rw [if_neg (by omega), if_neg (by omega)] at h1; omega
                        refine go_seq ?_
                        refine go_region ⟨_, Tryz.func56⟩ rfl ?_
                        refine q0 rfl (o_assign ?_)
                        refine rg_nil ?_
                        refine ret1 Tryz.func56 Tryz.results56 wn_ () (by congr 1; symm; first | exact all_no1 hv hd hno | exact all_no2 hv hd (i := i) (by omega) hno2 | exact all_no3 hv hd (i := i2) (by omega) hno3 | exact (all_steps hv hd).mpr ⟨ha, fun j hj => hok j (by omega), fun j hj => hok2 j (by omega)⟩) (fun w hs => hs.none)
                      · have c84 : (decide (0 < ((t).r.length : Int))) = false := h84
                        try simp only [sC, bne_iff_ne, beq_iff_eq, ne_eq] at c84
                        refine go_skip ?_
                        refine go_inBlock ?_
                        exact hK (by first | (rw [if_pos (by omega)]; simpa using h92) | (rw [if_neg (by omega), if_pos (by omega)]; simpa using h98) | (rw [if_neg (by omega), if_neg (by omega)]; omega)) _ ⟨rfl, rfl, rfl, rfl, trivial⟩
            · refine go_seq ?_
              refine go_seq ?_
              refine go_region ⟨_, Tryz.func56⟩ rfl ?_
              refine q0 rfl (o_fa ?_)
              refine q0 rfl (o_ld ?_)
              refine q0 rfl (o_move ?_)
              refine q0 rfl (o_call Tryz.call69 (rlow_spec ((t).r) vr_t d om_) (fun x102 => ?_))
              refine q0 rfl (o_not ?_)
              refine rg_nil ?_
              refine go_condI (fun h103 => ?_) (fun h103 => ?_)
              · have c103 : (!(within ((t).r) d)) = true := h103
                try simp only [sC, bne_iff_ne, beq_iff_eq, ne_eq] at c103
                have hno : ¬ Ahead t v d b := fun ha => by have h1 := ha.low; simp [h1] at h103
                refine go_seq ?_
                refine go_region ⟨_, Tryz.func56⟩ rfl ?_
                refine q0 rfl (o_assign ?_)
                refine rg_nil ?_
                refine ret1 Tryz.func56 Tryz.results56 wn_ () (by congr 1; symm; first | exact all_no1 hv hd hno | exact all_no2 hv hd (i := i) (by omega) hno2 | exact all_no3 hv hd (i := i2) (by omega) hno3 | exact (all_steps hv hd).mpr ⟨ha, fun j hj => hok j (by omega), fun j hj => hok2 j (by omega)⟩) (fun w hs => hs.none)
              · have c103 : (!(within ((t).r) d)) = false := h103
                try simp only [sC, bne_iff_ne, beq_iff_eq, ne_eq] at c103
                have ha : Ahead t v d b := ⟨ha1.1, ha1.2.1, ha1.2.2, hN, ha2, hR, by simpa using h103⟩
                refine go_skip ?_
                refine go_seq ?_
                refine go_seq ?_
                refine go_region ⟨_, Tryz.func56⟩ rfl ?_
                refine q0 rfl (o_assign ?_)
                refine rg_nil ?_
                refine go_block ?_
                refine go_loopE (X := Nat) (fun s_ => s_ ≤ t.kids.length ∧ ∀ j, j < s_ → kidOK t v d b j = true) (fun s_ => [(1, .int .i64 (v)), (2, .int .i64 (d)), (3, .bool (b)), (4, .pointer (some ⟨b4, 0, none⟩)), (9, .int .i64 ((s_ : Int)))]) (fun s_ G_ => G_) (fun s_ => [boxR b4 (tc t vr_t vk_t vs_t) 26]) (fun s_ => t.kids.length - s_) (0) (⟨by omega, fun j hj => by omega⟩) (by exact ⟨rfl, rfl, rfl, rfl, rfl, trivial⟩) ?_ ?_
                · exact fun w hs => hs
                · intro i base0 ⟨hi, hok⟩ next0
                  refine go_seq ?_
                  refine go_seq ?_
                  refine go_region ⟨_, Tryz.func56⟩ rfl ?_
                  refine q0 rfl (o_move ?_)
                  refine q0 rfl (o_fa ?_)
                  refine q0 rfl (o_ld ?_)
                  refine q0 rfl (o_len ?_)
                  refine q0 rfl (o_lss ?_)
                  refine rg_nil ?_
                  refine go_condI (fun h108 => ?_) (fun h108 => ?_)
                  · have c108 : (decide ((i : Int) < ((t).kids.length : Int))) = true := h108
                    try simp only [sC, bne_iff_ne, beq_iff_eq, ne_eq] at c108
                    have hkd := depth_kid (getD_mem (d := t0) (show i < t.kids.length by omega))
                    have hbi := binds_in t.kind (i : Int)
                    unfold bindsIn at hbi
                    refine go_skip ?_
                    refine go_seq ?_
                    refine go_block ?_
                    refine go_seq ?_
                    refine go_region ⟨_, Tryz.func56⟩ rfl ?_
                    refine q0 rfl (o_fa ?_)
                    refine q0 rfl (o_ld ?_)
                    refine q0 rfl (o_move ?_)
                    refine q0 rfl (o_call Tryz.call53 (rbinds_spec ((t).kind) (i : Int) ) (fun x115 => ?_))
                    refine q0 rfl (o_move ?_)
                    refine q0 rfl (o_extract ?_)
                    refine q0 rfl (o_extract ?_)
                    refine q0 rfl (o_assign ?_)
                    refine q0 rfl (o_assign ?_)
                    refine rg_nil ?_
                    refine go_seq ?_
                    refine go_seq ?_
                    refine go_region ⟨_, Tryz.func56⟩ rfl ?_
                    refine q0 rfl (o_move ?_)
                    refine q0 rfl (o_lss ?_)
                    refine rg_nil ?_
                    refine go_cutS ([(1, .int .i64 (v)), (2, .int .i64 (d)), (3, .bool (b)), (4, .pointer (some ⟨b4, 0, none⟩)), (9, .int .i64 ((i : Int))), (10, .int .i64 ((if v < 0 then 0 else (binds t.kind (i : Int)).1))), (11, .int .i64 ((binds ((t).kind) (i : Int)).2))]) (fun hK => ?_) (fun base => ?_)
                    · refine go_condI (fun h119 => ?_) (fun h119 => ?_)
                      · have c119 : (decide (v < 0)) = true := h119
                        try simp only [sC, bne_iff_ne, beq_iff_eq, ne_eq] at c119
                        refine go_region ⟨_, Tryz.func56⟩ rfl ?_
                        refine q0 rfl (o_assign ?_)
                        refine rg_nil ?_
                        exact hK _ ⟨rfl, rfl, rfl, rfl, rfl, (by (conv => lhs; whnf); first | rw [if_pos c119] | rw [if_neg c119]), rfl, trivial⟩
                      · have c119 : (decide (v < 0)) = false := h119
                        try simp only [sC, bne_iff_ne, beq_iff_eq, ne_eq] at c119
                        refine go_skip ?_
                        exact hK _ ⟨rfl, rfl, rfl, rfl, rfl, (by (conv => lhs; whnf); first | rw [if_pos c119] | rw [if_neg c119]), rfl, trivial⟩
                    · refine go_seq ?_
                      refine go_kid (ts := (t).kids) (a := vk_t) (VR := VR3) (VK := VK3) (VS := VS3) i (by omega) ?_
                      refine go_region ⟨_, Tryz.func56⟩ rfl ?_
                      refine q0 rfl (o_fa ?_)
                      refine q0 rfl (o_ld ?_)
                      refine q0 rfl (o_move ?_)
                      obtain ⟨bk5, o5, hav5⟩ := hA3 (by omega)
                      refine q0 rfl (o_ixN ?_ (j := i))
                      refine q0 rfl (o_ldT ?_)
                      refine q0 rfl (o_move ?_)
                      refine q0 rfl (o_move ?_)
                      refine q0 rfl (o_addW ?_)
                      refine q0 rfl (o_move ?_)
                      refine q0 rfl (o_move ?_)
                      refine q0 rfl (o_add ?_)
                      refine q0 rfl (o_move ?_)
                      refine q0 rfl (o_call Tryz.call56 ((ihk (((t).kids).getD i t0) (getD_mem (show i < ((t).kids).length by omega))) (VR3 i) (VK3 i) (VS3 i) (IntKind.i64.wrap (v + if v < 0 then 0 else (binds t.kind (i : Int)).1)) (d + ((binds ((t).kind) (i : Int)).2)) b (by first | assumption | exact wrap_in _ | (unfold in64; omega)) (by omega) (by omega)) (fun x132 => ?_))
                      refine q0 rfl (o_not ?_)
                      refine rg_nil ?_
                      refine go_condI (fun h133 => ?_) (fun h133 => ?_)
                      · have c133 : (!(allP (((t).kids).getD i t0) (IntKind.i64.wrap (v + if v < 0 then 0 else (binds t.kind (i : Int)).1)) (d + ((binds ((t).kind) (i : Int)).2)) b)) = true := h133
                        try simp only [sC, bne_iff_ne, beq_iff_eq, ne_eq] at c133
                        have hno2 : kidOK t v d b i = false := by unfold kidOK; simpa using h133
                        refine go_seq ?_
                        refine go_region ⟨_, Tryz.func56⟩ rfl ?_
                        refine q0 rfl (o_assign ?_)
                        refine rg_nil ?_
                        refine ret1 Tryz.func56 Tryz.results56 wn_ () (by congr 1; symm; first | exact all_no1 hv hd hno | exact all_no2 hv hd (i := i) (by omega) hno2 | exact all_no3 hv hd (i := i2) (by omega) hno3 | exact (all_steps hv hd).mpr ⟨ha, fun j hj => hok j (by omega), fun j hj => hok2 j (by omega)⟩) (fun w hs => hs.none)
                      · have c133 : (!(allP (((t).kids).getD i t0) (IntKind.i64.wrap (v + if v < 0 then 0 else (binds t.kind (i : Int)).1)) (d + ((binds ((t).kind) (i : Int)).2)) b)) = false := h133
                        try simp only [sC, bne_iff_ne, beq_iff_eq, ne_eq] at c133
                        refine go_skip ?_
                        refine go_inBlock ?_
                        refine go_region ⟨_, Tryz.func56⟩ rfl ?_
                        refine q0 rfl (o_move ?_)
                        refine q0 rfl (o_add ?_)
                        refine q0 rfl (o_assign ?_)
                        refine rg_nil ?_
                        have hb : kidOK t v d b i = true := by unfold kidOK; simpa using h133
                        refine go_state (fun w hs => ?_) (next0 (i + 1) _ (⟨by omega, succ_inv hok hb⟩) (by omega) ⟨rfl, rfl, rfl, rfl, rfl, trivial⟩)
                        exact (hs.less (by simp +contextual))
                  · have c108 : (decide ((i : Int) < ((t).kids.length : Int))) = false := h108
                    try simp only [sC, bne_iff_ne, beq_iff_eq, ne_eq] at c108
                    refine go_exit rfl ?_
                    refine go_seq ?_
                    refine go_seq ?_
                    refine go_region ⟨_, Tryz.func56⟩ rfl ?_
                    refine q0 rfl (o_assign ?_)
                    refine rg_nil ?_
                    refine go_block ?_
                    refine go_loopE (X := Nat) (fun s_ => s_ ≤ t.sys.length ∧ ∀ j, j < s_ → brOK t v d b (t.sys.getD j br0) = true) (fun s_ => [(1, .int .i64 (v)), (2, .int .i64 (d)), (3, .bool (b)), (4, .pointer (some ⟨b4, 0, none⟩)), (12, .int .i64 ((s_ : Int)))]) (fun s_ G_ => G_) (fun s_ => [boxR b4 (tc t vr_t vk_t vs_t) 26]) (fun s_ => t.sys.length - s_) (0) (⟨by omega, fun j hj => by omega⟩) (by exact ⟨rfl, rfl, rfl, rfl, rfl, trivial⟩) ?_ ?_
                    · exact fun w hs => hs
                    · intro i2 base1 ⟨hi2, hok2⟩ next1
                      refine go_seq ?_
                      refine go_seq ?_
                      refine go_region ⟨_, Tryz.func56⟩ rfl ?_
                      refine q0 rfl (o_move ?_)
                      refine q0 rfl (o_fa ?_)
                      refine q0 rfl (o_ld ?_)
                      refine q0 rfl (o_len ?_)
                      refine q0 rfl (o_lss ?_)
                      refine rg_nil ?_
                      refine go_condI (fun h138 => ?_) (fun h138 => ?_)
                      · have c138 : (decide ((i2 : Int) < ((t).sys.length : Int))) = true := h138
                        try simp only [sC, bne_iff_ne, beq_iff_eq, ne_eq] at c138
                        have hpb : 0 ≤ more t.kind ∧ more t.kind ≤ 1 := by unfold more; split <;> omega
                        refine go_skip ?_
                        refine go_seq ?_
                        refine go_block ?_
                        refine go_seq ?_
                        refine go_branch (bs := (t).sys) (a := vs_t) (VF := VF4) (VK := VK4) i2 (by omega) ?_
                        refine go_openCL (l := (((t).sys).getD i2 br0).face) (a := VF4 i2) (fun hl6 hA6 hU6 => ?_)
                        refine go_openTL (ts := (((t).sys).getD i2 br0).kids) (a := VK4 i2) (fun VR7 VK7 VS7 hl7 hA7 => ?_)
                        refine go_region ⟨_, Tryz.func56⟩ rfl ?_
                        refine q0 rfl (o_fa ?_)
                        refine q0 rfl (o_ld ?_)
                        refine q0 rfl (o_move ?_)
                        obtain ⟨bk8, o8, hav8⟩ := hA4 (by omega)
                        refine q0 rfl (o_ixN ?_ (j := i2))
                        refine q0 rfl (o_ldB ?_)
                        refine q0 rfl (o_new fun b13 => ?_)
                        refine q0 rfl (o_st ?_)
                        refine rg_nil ?_
                        refine go_seq ?_
                        refine go_seq ?_
                        refine go_cutS ([(1, .int .i64 (v)), (2, .int .i64 (d)), (3, .bool (b)), (4, .pointer (some ⟨b4, 0, none⟩)), (12, .int .i64 ((i2 : Int))), (13, .pointer (some ⟨b13, 0, none⟩)), (165, .bool (((decide (((((t).sys).getD i2 br0).kids.length : Int) ≠ (partsN ((t).kind)))) || (!(faceRight ((((t).sys).getD i2 br0).face)))) || (!(within ((((t).sys).getD i2 br0).face) d))))]) (fun hK => ?_) (fun base => ?_)
                        · refine go_draw (pn := 1000000) (tn := false) (A := [0, 1, 3, 0, 8, 24, 63, 127, 255, 511, 1023, 2047, 4095, 8191, 16383, 32767, 16383, 131071, 262143, 524287]) (l := [0, 1, 2, 3, 4, 5, 6, 7, 8, 9, 10, 11, 12, 13, 14, 15, 16, 17, 18, 19]) (fin := []) Tab.mixed ⟨_, Tryz.func56⟩ (by decide +kernel) ?_
                          refine n0 rfl (v_fa ?_)
                          refine n0 rfl (v_ld ?_)
                          refine n0 rfl (v_len ?_)
                          refine n0 rfl (v_fa ?_)
                          refine n0 rfl (v_ld ?_)
                          refine n0 rfl (v_call Tryz.call65 (rparts_spec ((t).kind) ) (fun x151 => ?_))
                          refine n0 rfl (v_neI ?_)
                          refine n0 rfl (v_move ?_)
                          refine nI rfl rfl rfl wl_ (fun hg153 => ?_) (fun hg153 => ?_)
                          · have g153 : (decide (((((t).sys).getD i2 br0).kids.length : Int) ≠ (partsN ((t).kind)))) = false := hg153
                            try simp only [sC, bne_iff_ne, beq_iff_eq, ne_eq] at g153
                            refine v_fa ?_
                            refine nT rfl rfl rfl (v_ld ?_)
                            refine nT rfl rfl rfl (v_call Tryz.call68 (rfaceright ((((t).sys).getD i2 br0).face) (VF4 i2) ) (fun x156 => ?_))
                            refine nT rfl rfl rfl (v_not ?_)
                            refine n0 rfl (v_pickF ?_)
                            refine n0 rfl (v_move ?_)
                            refine nI rfl rfl rfl wl_ (fun hg159 => ?_) (fun hg159 => ?_)
                            · have g159 : (!(faceRight ((((t).sys).getD i2 br0).face))) = false := hg159
                              try simp only [sC, bne_iff_ne, beq_iff_eq, ne_eq] at g159
                              refine v_fa ?_
                              refine nT rfl rfl rfl (v_ld ?_)
                              refine nT rfl rfl rfl (v_move ?_)
                              refine nT rfl rfl rfl (v_call Tryz.call69 (rlow_spec ((((t).sys).getD i2 br0).face) (VF4 i2) d om_) (fun x163 => ?_))
                              refine nT rfl rfl rfl (v_not ?_)
                              refine n0 rfl (v_pickF ?_)
                              refine NV.done ?_
                              refine rg_nil ?_
                              exact hK _ ⟨rfl, rfl, rfl, rfl, rfl, rfl, dn_, trivial⟩
                            · have g159 : (!(faceRight ((((t).sys).getD i2 br0).face))) = true := hg159
                              try simp only [sC, bne_iff_ne, beq_iff_eq, ne_eq] at g159
                              refine nF rfl rfl rfl ?_
                              refine nF rfl rfl rfl ?_
                              refine nF rfl rfl rfl ?_
                              refine nF rfl rfl rfl ?_
                              refine n0 rfl (v_pickT ?_)
                              refine NV.done ?_
                              refine rg_nil ?_
                              exact hK _ ⟨rfl, rfl, rfl, rfl, rfl, rfl, dn_, trivial⟩
                          · have g153 : (decide (((((t).sys).getD i2 br0).kids.length : Int) ≠ (partsN ((t).kind)))) = true := hg153
                            try simp only [sC, bne_iff_ne, beq_iff_eq, ne_eq] at g153
                            refine nF rfl rfl rfl ?_
                            refine nF rfl rfl rfl ?_
                            refine nF rfl rfl rfl ?_
                            refine n0 rfl (v_pickT ?_)
                            refine n0 rfl (v_move ?_)
                            refine nF rfl rfl rfl ?_
                            refine nF rfl rfl rfl ?_
                            refine nF rfl rfl rfl ?_
                            refine nF rfl rfl rfl ?_
                            refine nF rfl rfl rfl ?_
                            refine n0 rfl (v_pickT ?_)
                            refine NV.done ?_
                            refine rg_nil ?_
                            exact hK _ ⟨rfl, rfl, rfl, rfl, rfl, rfl, dn_, trivial⟩
                        · refine go_condI (fun h165 => ?_) (fun h165 => ?_)
                          · have c165 : (((decide (((((t).sys).getD i2 br0).kids.length : Int) ≠ (partsN ((t).kind)))) || (!(faceRight ((((t).sys).getD i2 br0).face)))) || (!(within ((((t).sys).getD i2 br0).face) d))) = true := h165
                            try simp only [sC, bne_iff_ne, beq_iff_eq, ne_eq] at c165
                            have hno : ownB t d (t.sys.getD i2 br0) = false := by unfold ownB; simp at h165; rcases h165 with (h4 | h4) | h4 <;> simp_all
                            have hno3 : brOK t v d b (t.sys.getD i2 br0) = false := by unfold brOK; rw [hno]; rfl
                            refine go_seq ?_
                            refine go_region ⟨_, Tryz.func56⟩ rfl ?_
                            refine q0 rfl (o_assign ?_)
                            refine rg_nil ?_
                            refine ret1 Tryz.func56 Tryz.results56 wn_ () (by congr 1; symm; first | exact all_no1 hv hd hno | exact all_no2 hv hd (i := i) (by omega) hno2 | exact all_no3 hv hd (i := i2) (by omega) hno3 | exact (all_steps hv hd).mpr ⟨ha, fun j hj => hok j (by omega), fun j hj => hok2 j (by omega)⟩) (fun w hs => hs.none)
                          · have c165 : (((decide (((((t).sys).getD i2 br0).kids.length : Int) ≠ (partsN ((t).kind)))) || (!(faceRight ((((t).sys).getD i2 br0).face)))) || (!(within ((((t).sys).getD i2 br0).face) d))) = false := h165
                            try simp only [sC, bne_iff_ne, beq_iff_eq, ne_eq] at c165
                            have hob : ownB t d (t.sys.getD i2 br0) = true := by unfold ownB; simp at h165; simp_all
                            refine go_skip ?_
                            refine go_seq ?_
                            refine go_region ⟨_, Tryz.func56⟩ rfl ?_
                            refine q0 rfl (o_assign ?_)
                            refine rg_nil ?_
                            refine go_block ?_
                            refine go_loopE (X := Nat) (fun s_ => s_ ≤ (t.sys.getD i2 br0).kids.length ∧ ∀ j, j < s_ → allP ((t.sys.getD i2 br0).kids.getD j t0) v (d + more t.kind) b = true) (fun s_ => [(1, .int .i64 (v)), (2, .int .i64 (d)), (3, .bool (b)), (4, .pointer (some ⟨b4, 0, none⟩)), (12, .int .i64 ((i2 : Int))), (13, .pointer (some ⟨b13, 0, none⟩)), (14, .int .i64 ((s_ : Int)))]) (fun s_ G_ => G_) (fun s_ => [boxR b13 (bc (((t).sys).getD i2 br0) (VF4 i2) (VK4 i2)) 58, boxR b4 (tc t vr_t vk_t vs_t) 26]) (fun s_ => (t.sys.getD i2 br0).kids.length - s_) (0) (⟨by omega, fun j hj => by omega⟩) (by exact ⟨rfl, rfl, rfl, rfl, rfl, rfl, rfl, trivial⟩) ?_ ?_
                            · exact fun w hs => hs
                            · intro k base2 ⟨hk3, hok3⟩ next2
                              refine go_seq ?_
                              refine go_seq ?_
                              refine go_region ⟨_, Tryz.func56⟩ rfl ?_
                              refine q0 rfl (o_move ?_)
                              refine q0 rfl (o_fa ?_)
                              refine q0 rfl (o_ld ?_)
                              refine q0 rfl (o_len ?_)
                              refine q0 rfl (o_lss ?_)
                              refine rg_nil ?_
                              refine go_condI (fun h170 => ?_) (fun h170 => ?_)
                              · have c170 : (decide ((k : Int) < ((((t).sys).getD i2 br0).kids.length : Int))) = true := h170
                                try simp only [sC, bne_iff_ne, beq_iff_eq, ne_eq] at c170
                                have hsd : depth ((t.sys.getD i2 br0).kids.getD k t0) < depth t := by obtain ⟨p, hp, e⟩ := sys_mem_parts (getD_mem (d := br0) (show i2 < t.sys.length by omega)) (getD_mem (d := t0) (show k < (t.sys.getD i2 br0).kids.length by omega)); exact e ▸ depth_mem hp
                                refine go_skip ?_
                                refine go_seq ?_
                                refine go_block ?_
                                refine go_seq ?_
                                refine go_kid (ts := (((t).sys).getD i2 br0).kids) (a := VK4 i2) (VR := VR7) (VK := VK7) (VS := VS7) k (by omega) ?_
                                refine go_draw (pn := 1000000) (tn := false) (A := [0, 1, 0, 7, 15, 0, 0, 0, 128, 384, 960, 0, 4095, 8191]) (l := [0, 1, 2, 3, 4, 5, 6, 7, 8, 11, 9, 10, 12, 13]) (fin := []) Tab.mixed ⟨_, Tryz.func56⟩ (by rfl) ?_
                                refine n0 rfl (v_fa ?_)
                                refine n0 rfl (v_ld ?_)
                                refine n0 rfl (v_move ?_)
                                obtain ⟨bk9, o9, hav9⟩ := hA7 (by omega)
                                refine n0 rfl (v_ixN ?_ (j := k))
                                refine n0 rfl (v_ldT ?_)
                                refine n0 rfl (v_move ?_)
                                refine n0 rfl (v_move ?_)
                                refine n0 rfl (v_fa ?_)
                                refine n0 rfl (v_ld ?_)
                                refine n0 rfl (v_move ?_)
                                refine n0 rfl (v_call Tryz.call54 (rmore_spec ((t).kind) ) (fun x182 => ?_))
                                refine n0 rfl (v_add ?_)
                                refine n0 rfl (v_call Tryz.call56 ((ihs (((t).sys).getD i2 br0) (getD_mem (show i2 < ((t).sys).length by omega)) (((((t).sys).getD i2 br0).kids).getD k t0) (getD_mem (show k < ((((t).sys).getD i2 br0).kids).length by omega))) (VR7 k) (VK7 k) (VS7 k) v (d + (more ((t).kind))) b (by first | assumption | exact wrap_in _ | (unfold in64; omega)) (by omega) (by omega)) (fun x185 => ?_))
                                refine n0 rfl (v_not ?_)
                                refine NV.done ?_
                                refine rg_nil ?_
                                refine go_condI (fun h186 => ?_) (fun h186 => ?_)
                                · have c186 : (!(allP (((((t).sys).getD i2 br0).kids).getD k t0) v (d + (more ((t).kind))) b)) = true := h186
                                  try simp only [sC, bne_iff_ne, beq_iff_eq, ne_eq] at c186
                                  have hno3 : brOK t v d b (t.sys.getD i2 br0) = false := by unfold brOK; rw [all_false_at (d := t0) (i := k) (by omega) (by simpa using h186), Bool.and_false]
                                  refine go_seq ?_
                                  refine go_region ⟨_, Tryz.func56⟩ rfl ?_
                                  refine q0 rfl (o_assign ?_)
                                  refine rg_nil ?_
                                  refine ret1 Tryz.func56 Tryz.results56 wn_ () (by congr 1; symm; first | exact all_no1 hv hd hno | exact all_no2 hv hd (i := i) (by omega) hno2 | exact all_no3 hv hd (i := i2) (by omega) hno3 | exact (all_steps hv hd).mpr ⟨ha, fun j hj => hok j (by omega), fun j hj => hok2 j (by omega)⟩) (fun w hs => hs.none)
                                · have c186 : (!(allP (((((t).sys).getD i2 br0).kids).getD k t0) v (d + (more ((t).kind))) b)) = false := h186
                                  try simp only [sC, bne_iff_ne, beq_iff_eq, ne_eq] at c186
                                  refine go_skip ?_
                                  refine go_inBlock ?_
                                  refine go_region ⟨_, Tryz.func56⟩ rfl ?_
                                  refine q0 rfl (o_move ?_)
                                  refine q0 rfl (o_add ?_)
                                  refine q0 rfl (o_assign ?_)
                                  refine rg_nil ?_
                                  have hb : allP ((t.sys.getD i2 br0).kids.getD k t0) v (d + more t.kind) b = true := by simpa using h186
                                  refine go_state (fun w hs => ?_) (next2 (k + 1) _ (⟨by omega, succ_inv hok3 hb⟩) (by omega) ⟨rfl, rfl, rfl, rfl, rfl, rfl, rfl, trivial⟩)
                                  exact (((hs.less (by simp +contextual)).perm perm1).perm perm1)
                              · have c170 : (decide ((k : Int) < ((((t).sys).getD i2 br0).kids.length : Int))) = false := h170
                                try simp only [sC, bne_iff_ne, beq_iff_eq, ne_eq] at c170
                                refine go_exit rfl ?_
                                refine go_inBlock ?_
                                refine go_region ⟨_, Tryz.func56⟩ rfl ?_
                                refine q0 rfl (o_move ?_)
                                refine q0 rfl (o_add ?_)
                                refine q0 rfl (o_assign ?_)
                                refine rg_nil ?_
                                have hb : brOK t v d b (t.sys.getD i2 br0) = true := by unfold brOK; rw [hob, all_true_of (d := t0) (fun j hj => hok3 j (by omega))]; rfl
                                refine go_state (fun w hs => ?_) (next1 (i2 + 1) _ (⟨by omega, succ_inv hok2 hb⟩) (by omega) ⟨rfl, rfl, rfl, rfl, rfl, trivial⟩)
                                exact (((hs.less (by simp +contextual)).perm perm1).dropR (A := [_]))
                      · have c138 : (decide ((i2 : Int) < ((t).sys.length : Int))) = false := h138
                        try simp only [sC, bne_iff_ne, beq_iff_eq, ne_eq] at c138
                        refine go_exit rfl ?_
                        refine go_seq ?_
                        refine go_region ⟨_, Tryz.func56⟩ rfl ?_
                        refine q0 rfl (o_assign ?_)
                        refine rg_nil ?_
                        refine ret1 Tryz.func56 Tryz.results56 wn_ () (by congr 1; symm; first | exact all_no1 hv hd hno | exact all_no2 hv hd (i := i) (by omega) hno2 | exact all_no3 hv hd (i := i2) (by omega) hno3 | exact (all_steps hv hd).mpr ⟨ha, fun j hj => hok j (by omega), fun j hj => hok2 j (by omega)⟩) (fun w hs => hs.none)
theorem rall_spec : ∀ t : T, RallAt t := T.ind' fun t ihk ihs vr_t vk_t vs_t v d b hv hd hl => rall_walk t ihk ihs vr_t vk_t vs_t v d b hv hd hl
theorem rsized_spec (t : T) (vr_t vk_t vs_t : SH) (hz : size t ≤ 1152921504606846) : Spec Tryz.prog 55 #[.agg (tc t vr_t vk_t vs_t).toArray] [RT t vr_t vk_t vs_t] [] (fun _ : Unit => .int .i64 (sized t)) (fun _ : Unit => []) (fun _ : Unit => []) := by
  refine spec_go (args := [.agg (tc t vr_t vk_t vs_t).toArray]) Tryz.func55 Tryz.ntmps55 rfl (by exact Nat.le_of_ble_eq_true rfl) fun B hB => ?_
  refine go_open (t := t) (vr := vr_t) (vk := vk_t) (vs := vs_t) (fun hk1 hn1 hm1 => ?_)
  refine go_openCL (l := (t).r) (a := vr_t) (fun hl2 hA2 hU2 => ?_)
  refine go_openTL (ts := (t).kids) (a := vk_t) (fun VR3 VK3 VS3 hl3 hA3 => ?_)
  refine go_openBL (bs := (t).sys) (a := vs_t) (fun VF4 VK4 hl4 hA4 => ?_)
  refine go_seq ?_
  refine go_region ⟨_, Tryz.func55⟩ rfl ?_
  refine q0 rfl (o_box fun b1 => ?_)
  refine q0 rfl (o_assign ?_)
  refine rg_nil ?_
  refine go_seq ?_
  refine go_seq ?_
  refine go_region ⟨_, Tryz.func55⟩ rfl ?_
  refine q0 rfl (o_lds ?_)
  refine q0 rfl (o_call Tryz.call62 (rdepth_spec t om_ vr_t vk_t vs_t) (fun x4 => ?_))
  refine q0 rfl (o_gtr ?_)
  refine rg_nil ?_
  refine go_condI (fun h5 => ?_) (fun h5 => ?_)
  · have c5 : (decide (200 < (depth t : Int))) = true := h5
    try simp only [sC, bne_iff_ne, beq_iff_eq, ne_eq] at c5
    refine go_seq ?_
    refine go_region ⟨_, Tryz.func55⟩ rfl ?_
    refine q0 rfl (o_assign ?_)
    refine rg_nil ?_
    refine ret1 Tryz.func55 Tryz.results55 wn_ () (by rw [sized, if_pos (by omega)]) (fun w hs => hs.none)
  · have c5 : (decide (200 < (depth t : Int))) = false := h5
    try simp only [sC, bne_iff_ne, beq_iff_eq, ne_eq] at c5
    refine go_skip ?_
    refine go_seq ?_
    refine go_seq ?_
    refine go_region ⟨_, Tryz.func55⟩ rfl ?_
    refine q0 rfl (o_lds ?_)
    refine q0 rfl (o_call Tryz.call63 (rsize_spec t om_ vr_t vk_t vs_t) (fun x7 => ?_))
    refine q0 rfl (o_gtr ?_)
    refine rg_nil ?_
    refine go_condI (fun h8 => ?_) (fun h8 => ?_)
    · have c8 : (decide (20000 < (size t : Int))) = true := h8
      try simp only [sC, bne_iff_ne, beq_iff_eq, ne_eq] at c8
      refine go_seq ?_
      refine go_region ⟨_, Tryz.func55⟩ rfl ?_
      refine q0 rfl (o_assign ?_)
      refine rg_nil ?_
      refine ret1 Tryz.func55 Tryz.results55 wn_ () (by rw [sized, if_neg (by omega), if_pos (by omega)]) (fun w hs => hs.none)
    · have c8 : (decide (20000 < (size t : Int))) = false := h8
      try simp only [sC, bne_iff_ne, beq_iff_eq, ne_eq] at c8
      refine go_skip ?_
      refine go_seq ?_
      refine go_region ⟨_, Tryz.func55⟩ rfl ?_
      refine q0 rfl (o_assign ?_)
      refine rg_nil ?_
      refine ret1 Tryz.func55 Tryz.results55 wn_ () (by rw [sized, if_neg (by omega), if_neg (by omega)]) (fun w hs => hs.none)
theorem rformed_spec (t : T) (vr_t vk_t vs_t : SH) (hz : size t ≤ 1152921504606846) : Spec Tryz.prog 35 #[.agg (tc t vr_t vk_t vs_t).toArray] [RT t vr_t vk_t vs_t] [] (fun _ : Unit => .int .i64 (formedP t)) (fun _ : Unit => []) (fun _ : Unit => []) := by
  refine spec_go (args := [.agg (tc t vr_t vk_t vs_t).toArray]) Tryz.func35 Tryz.ntmps35 rfl (by exact Nat.le_of_ble_eq_true rfl) fun B hB => ?_
  refine go_open (t := t) (vr := vr_t) (vk := vk_t) (vs := vs_t) (fun hk1 hn1 hm1 => ?_)
  refine go_openCL (l := (t).r) (a := vr_t) (fun hl2 hA2 hU2 => ?_)
  refine go_openTL (ts := (t).kids) (a := vk_t) (fun VR3 VK3 VS3 hl3 hA3 => ?_)
  refine go_openBL (bs := (t).sys) (a := vs_t) (fun VF4 VK4 hl4 hA4 => ?_)
  have hds := depth_le_size t
  refine go_seq ?_
  refine go_region ⟨_, Tryz.func35⟩ rfl ?_
  refine q0 rfl (o_box fun b1 => ?_)
  refine q0 rfl (o_assign ?_)
  refine rg_nil ?_
  refine go_seq ?_
  refine go_region ⟨_, Tryz.func35⟩ rfl ?_
  refine q0 rfl (o_lds ?_)
  refine q0 rfl (o_call Tryz.call55 (rsized_spec t vr_t vk_t vs_t om_) (fun x5 => ?_))
  refine q0 rfl (o_assign ?_)
  refine rg_nil ?_
  refine go_seq ?_
  refine go_seq ?_
  refine go_cutS ([(3, .int .i64 (sized t)), (12, .bool ((decide ((sized t) = 0)) && (!(allP t (-1) 24 false))))]) (fun hK => ?_) (fun base => ?_)
  · refine go_region ⟨_, Tryz.func35⟩ rfl ?_
    refine q0 rfl (o_move ?_)
    refine q0 rfl (o_eqI ?_)
    refine q0 rfl (o_move ?_)
    refine qI rfl rfl rfl wl_ (fun hg8 => ?_) (fun hg8 => ?_)
    · have g8 : (decide ((sized t) = 0)) = true := hg8
      try simp only [sC, bne_iff_ne, beq_iff_eq, ne_eq] at g8
      refine o_lds ?_
      refine qT rfl rfl rfl (o_call Tryz.call56 (rall_spec t vr_t vk_t vs_t (-1) 24 false (by first | assumption | exact wrap_in _ | (unfold in64; omega)) (by omega) (by omega)) (fun x10 => ?_))
      refine qT rfl rfl rfl (o_not ?_)
      refine q0 rfl (o_pickT ?_)
      refine rg_nil ?_
      exact hK _ ⟨rfl, dn_, trivial⟩
    · have g8 : (decide ((sized t) = 0)) = false := hg8
      try simp only [sC, bne_iff_ne, beq_iff_eq, ne_eq] at g8
      refine qF rfl rfl rfl ?_
      refine qF rfl rfl rfl ?_
      refine q0 rfl (o_pickF ?_)
      refine rg_nil ?_
      exact hK _ ⟨rfl, dn_, trivial⟩
  · refine go_cutS ([(3, .int .i64 ((if sized t ≠ 0 then sized t else if allP t (-1) 24 false then 0 else 100)))]) (fun hK => ?_) (fun base => ?_)
    · refine go_condI (fun h12 => ?_) (fun h12 => ?_)
      · have c12 : ((decide ((sized t) = 0)) && (!(allP t (-1) 24 false))) = true := h12
        try simp only [sC, bne_iff_ne, beq_iff_eq, ne_eq] at c12
        refine go_region ⟨_, Tryz.func35⟩ rfl ?_
        refine q0 rfl (o_assign ?_)
        refine rg_nil ?_
        exact hK _ ⟨(by (conv => lhs; whnf); by_cases hz : sized t = 0 <;> cases ha : allP t (-1) 24 false <;> simp_all), trivial⟩
      · have c12 : ((decide ((sized t) = 0)) && (!(allP t (-1) 24 false))) = false := h12
        try simp only [sC, bne_iff_ne, beq_iff_eq, ne_eq] at c12
        refine go_skip ?_
        exact hK _ ⟨(by (conv => lhs; whnf); by_cases hz : sized t = 0 <;> cases ha : allP t (-1) 24 false <;> simp_all), trivial⟩
    · refine go_seq ?_
      refine go_region ⟨_, Tryz.func35⟩ rfl ?_
      refine q0 rfl (o_move ?_)
      refine q0 rfl (o_assign ?_)
      refine rg_nil ?_
      refine ret1 Tryz.func35 Tryz.results35 wn_ () (by rw [formedP]) (fun w hs => hs.none)
end Go.Hy
