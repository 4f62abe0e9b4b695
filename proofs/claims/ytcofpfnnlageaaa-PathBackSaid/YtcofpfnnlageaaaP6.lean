/- Contracts of this program's functions and the laws that they need: a separation logic over the machine's rules, one theorem each (partly printed by a program of this repository). -/
import Derived.Shelf.SlSortCmp.WholeK
import Derived.Shelf.SlGeneric
import Derived.Ground.SlsfProg
import Derived.Test.YtcofpfnnlageaaaProg
import Derived.Tactics2
import Derived.Shelf.SlSortCmp.NoneTotal
import Derived.Test.YtcofpfnnlageaaaP2
import Derived.Test.YtcofpfnnlageaaaP3
import Derived.Test.YtcofpfnnlageaaaP4
import Derived.Test.YtcofpfnnlageaaaP5
namespace Go.Hy
set_option linter.unusedVariables false
set_option linter.unusedSimpArgs false
set_option linter.unusedSectionVars false
set_option linter.unusedVariables false
/-! ### What was put is got -/
theorem getRes_ok {t : T} {p : List Int} (h : (getRes t p).1 = 0) : formedP t = 0 ∧ getP t p = some (getRes t p).2 := by
  unfold getRes at h ⊢
  split at h
  · rename_i h1; exact absurd h h1
  · rename_i h1
    rw [if_neg h1]
    refine ⟨by simpa using h1, ?_⟩
    split at h
    · cases h
    · rename_i s hs; rw [hs]
theorem partAt_some {t : T} {k : Int} {q : Part} (h : partAt t k = some q) : k = (k.toNat : Int) ∧ (parts t)[k.toNat]? = some q := by
  unfold partAt at h
  split at h
  · exact ⟨by omega, h⟩
  · cases h
theorem partAt_nat {t : T} {m : Nat} {q : Part} (h : (parts t)[m]? = some q) : partAt t (m : Int) = some q := by
  unfold partAt
  rw [if_pos (Int.natCast_nonneg _), Int.toNat_natCast, h]
theorem getP_cons {t : T} {k : Int} {p : List Int} {s : Part} (h : getP t (k :: p) = some s) : ∃ m q s', k = (m : Nat) ∧ (parts t)[m]? = some q ∧ getP q.1 p = some s' ∧ s = addPt q s' := by
  simp only [getP] at h
  obtain ⟨q, hq, h⟩ := Option.bind_eq_some_iff.mp h
  obtain ⟨x, hx, h⟩ := Option.map_eq_some_iff.mp h
  obtain ⟨h1, h2⟩ := partAt_some hq
  exact ⟨_, q, x, h1, h2, hx, h.symm⟩
theorem getP_formed : ∀ (p : List Int) {t : T} {s : Part}, formedP t = 0 → getP t p = some s → formedP s.1 = 0
  | [], t, s, h, hs => by simp only [getP, Option.some.injEq] at hs; subst hs; exact h
  | k :: p, t, s, h, hs => by
    obtain ⟨m, q, s', _, hq, hs', e⟩ := getP_cons hs
    subst e
    exact (getP_formed p (formed_part h (List.mem_of_getElem? hq)) hs' : formedP s'.1 = 0)
theorem setBr_self (kind : Int) : ∀ (bs : List Br) (k : Nat) (q : Part), (sysParts kind bs)[k]? = some q → setBr bs k q.1 = bs
  | [], k, q, h => by simp [setBr]
  | .mk f ks :: bs, k, q, h => by
    by_cases hk : k < ks.length
    · simp only [sysParts, Br.kids] at h
      rw [List.getElem?_append_left (by simpa using hk), List.getElem?_map] at h
      obtain ⟨c, hc, e⟩ := Option.map_eq_some_iff.mp h
      subst e
      obtain ⟨hk', hc⟩ := List.getElem?_eq_some_iff.mp hc
      subst hc
      simp [setBr, Br.kids, Br.face, hk]
    · simp only [sysParts, Br.kids] at h
      rw [List.getElem?_append_right (by simp; omega), List.length_map] at h
      simp [setBr, Br.kids, hk, setBr_self kind bs _ q h]
theorem putPart_self {t : T} {k : Nat} {q : Part} (h : (parts t)[k]? = some q) : putPart t k q.1 = t := by
  obtain ⟨kk, n, nm, r, ks, ss⟩ := t
  by_cases hk : k < ks.length
  · rw [parts_kid _ _ hk] at h
    injection h with h
    subst h
    simp only [putPart, T.kids, T.kind, T.n, T.name, T.r, T.sys, hk, if_true]
    rw [List.getD_eq_getElem?_getD, List.getElem?_eq_getElem hk]
    simp
  · unfold parts at h
    rw [List.getElem?_append_right (by rw [kidParts_length]; simpa [T.kids] using hk), kidParts_length] at h
    simp only [putPart, T.kids, T.kind, T.n, T.name, T.r, T.sys, hk, if_false]
    have := setBr_self kk ss _ q h
    simp only [T.kids] at this
    rw [this]
theorem set_get : ∀ (p : List Int) {t : T} {s : Part}, getP t p = some s → setP t p s.1 = some t
  | [], t, s, h => by simp only [getP, Option.some.injEq] at h; subst h; rfl
  | k :: p, t, s, h => by
    obtain ⟨m, q, s', hk, hq, hs', e⟩ := getP_cons h
    subst e; subst hk
    have : (addPt q s').1 = s'.1 := rfl
    simp only [setP, partAt_nat hq, Option.bind_some, this, set_get p hs', Option.map_some, Int.toNat_natCast, putPart_self hq]
theorem get_set : ∀ (p : List Int) {t u x : T} {s : Part}, setP t p u = some x → getP t p = some s → getP x p = some (u, s.2)
  | [], t, u, x, s, h, hs => by
    simp only [getP, setP, Option.some.injEq] at h hs
    subst hs; subst h; rfl
  | k :: p, t, u, x, s, h, hs => by
    obtain ⟨m, q, y, hk, hq, hy, e⟩ := setP_step h
    obtain ⟨m', q', s', hk', hq', hs', e'⟩ := getP_cons hs
    obtain rfl : m = m' := by omega
    rw [hq] at hq'
    injection hq' with hq'
    subst hq'; subst e; subst e'; subst hk
    simp only [getP, partAt_nat (part_put hq), Option.bind_some, get_set p hy hs', Option.map_some]
    rfl
theorem set_set : ∀ (p : List Int) {t u x : T} (w : T), setP t p u = some x → setP x p w = setP t p w
  | [], t, u, x, w, h => rfl
  | k :: p, t, u, x, w, h => by
    obtain ⟨m, q, y, hk, hq, hy, e⟩ := setP_step h
    subst e; subst hk
    simp only [setP, partAt_nat (part_put hq), partAt_nat hq, Option.bind_some, set_set p w hy, Int.toNat_natCast]
    congr 1
    funext z
    exact putPart_same t m y z
theorem put_back {t : T} {p : List Int} (h : (getRes t p).1 = 0) : putRes t p (getRes t p).2.1 = (0, t) := by
  obtain ⟨h1, h2⟩ := getRes_ok h
  have h3 := getP_formed p h1 h2
  have h4 := set_get p h2
  unfold putRes
  rw [if_neg (by simp [h1]), if_neg (by simp [h3]), h4]
  simp [h1]
theorem get_put {t u : T} {p : List Int} (h : (getRes t p).1 = 0) (hp : (putRes t p u).1 = 0) : getRes (putRes t p u).2 p = (0, u, (getRes t p).2.2) := by
  obtain ⟨h1, h2⟩ := getRes_ok h
  obtain ⟨_, _, h3, h4⟩ := putRes_ok hp
  have h5 := get_set p h3 h2
  conv => lhs; unfold getRes
  rw [if_neg (by simp [h4]), h5]
theorem put_put {t u : T} {p : List Int} (h : (getRes t p).1 = 0) (hp : (putRes t p u).1 = 0) : putRes (putRes t p u).2 p (getRes t p).2.1 = (0, t) := by
  obtain ⟨h1, h2⟩ := getRes_ok h
  obtain ⟨_, _, h3, h4⟩ := putRes_ok hp
  have h5 := set_set p (getRes t p).2.1 h3
  rw [set_get p h2] at h5
  generalize hx : (putRes t p u).2 = x at h4 h5 ⊢
  unfold putRes
  rw [if_neg (by simp [h4]), if_neg (by simp [getP_formed p h1 h2]), h5]
  simp [h1]
theorem put_size {t u : T} {p : List Int} (h : (getRes t p).1 = 0) (hp : (putRes t p u).1 = 0) : size (putRes t p u).2 + size (getRes t p).2.1 = size t + size u := by
  obtain ⟨_, h2⟩ := getRes_ok h
  obtain ⟨s, hs, e⟩ := size_setP p (putRes_ok hp).2.2.1
  rw [h2] at hs
  injection hs with hs
  rw [hs]; exact e
theorem put_bad {t u : T} {p : List Int} (h : (putRes t p u).1 ≠ 0) : (putRes t p u).2 = t0 := by
  unfold putRes at h ⊢
  split
  · rfl
  · split
    · rfl
    · split
      · rfl
      · split
        · rfl
        · rename_i h1 h2 _ x hx h3
          rw [if_neg h1, if_neg h2, hx] at h
          simp only [if_neg h3] at h
          exact absurd rfl h
theorem get_size {t : T} {p : List Int} (h : (getRes t p).1 = 0) : size (getRes t p).2.1 ≤ 20000 := by
  obtain ⟨h1, h2⟩ := getRes_ok h
  exact formed_size (getP_formed p h1 h2)
end Go.Hy
namespace Go.Hy
set_option linter.unusedVariables false
set_option linter.unusedSimpArgs false
set_option linter.unusedSectionVars false
set_option linter.unusedVariables false
set_option linter.unusedSectionVars false
/-! Wrappers: comparisons whose answer is known (printed by a program of this repository). -/
section
variable {tn : Bool} {P : Program} [Tab P] {f : FuncId} {R : Ending → World → Prop} {B : Base} {n : Nat} {K : List Item} {ops : Array Oper} {i : Nat} {l fin : List Nat} {σ : Nat → Value} {Γ : List Fact} {Ms Ms2 : List Res}
variable {dst : Option Tmp} {op : Op} {ty : TypeId} {pos : String} {after : Array Edge} {v : Value} {x y z : Operand}
theorem v_eqIY {t t' : TypeId} {k : IntKind} {a b : Int} (k_ : NV tn P f R B n K ops fin l (putS σ dst (.bool true)) Γ Ms) (hx : ev σ x = .int k a := by first | ((conv => lhs; whnf); done) | rfl) (hy : ev σ y = .int k b := by first | ((conv => lhs; whnf); done) | rfl) (hp : a = b := by first | omega | (simp; done)) (hd : dstOk n dst = true := by rfl) : NvT tn P f R B n K ops fin i l dst (.binOp .eql t x y t') ty σ Γ Ms := nv_pure (show PureE P σ (.binOp .eql t x y t') ty (.bool true) from (decide_eq_true hp : decide (a = b) = true) ▸ pe_eqI hx hy) hd k_
end
end Go.Hy
namespace Go.Hy
set_option linter.unusedVariables false
set_option linter.unusedSimpArgs false
set_option linter.unusedSectionVars false
open Go.Proofs
set_option linter.unusedVariables false
set_option linter.unusedSimpArgs false
set_option maxRecDepth 100000
def tys : Tys := ⟨72, 31, 69⟩
theorem cloneO (l : List Cl) (a_l : SH)  : Spec Try.prog 43 #[sl a_l (l.length)] [CL l a_l] [] (fun x : SH => sl x l.length) (fun x : SH => []) (fun x : SH => [rowS 2 tys.c x l.length (clFlat l)]) := by
  refine spec_go (args := [sl a_l (l.length)]) Try.func43 Try.ntmps43 rfl (by exact Nat.le_of_ble_eq_true rfl) fun B hB => ?_
  refine go_openCL (l := l) (a := a_l) (fun hl1 hA1 hU1 => ?_)
  refine go_seq ?_
  refine go_region ⟨_, Try.func43⟩ rfl ?_
  refine q0 rfl (o_assign ?_)
  refine rg_nil ?_
  refine go_seq ?_
  refine go_seq ?_
  refine go_region ⟨_, Try.func43⟩ rfl ?_
  refine q0 rfl (o_move ?_)
  refine q0 rfl (o_eqNil ?_)
  refine rg_nil ?_
  refine go_condI (fun h4 => ?_) (fun h4 => ?_)
  · refine go_seq ?_
    refine go_region ⟨_, Try.func43⟩ rfl ?_
    refine q0 rfl (o_assign ?_)
    refine rg_nil ?_
    -- leaf 0: sl (none, 0) (0)
    have hl : l = [] := by (rcases Nat.eq_zero_or_pos l.length with h | h; exact List.eq_nil_of_length_eq_zero h; obtain ⟨bk, o, hav⟩ := hA1 h; rw [hav] at h4; cases h4)
    subst hl
    refine ret1 Try.func43 Try.results43 (by first | ((conv => lhs; whnf); done) | rfl) (none, 0) rfl (fun w hs => ((hs.less (by simp)).bare).rowS0 2 72)
  · refine go_skip ?_
    refine go_seq ?_
    refine go_region ⟨_, Try.func43⟩ rfl ?_
    refine q0 rfl (o_lit0 fun b5 => ?_)
    refine q0 rfl (o_move ?_)
    refine rg_state (fun w hs => hs.boxRow (sz := 2) (m := 0) rfl (by decide)) ?_
    refine q0 rfl (o_appCL (fun a7 => ?_) (by simp) (a := (some ⟨b5, 0, none⟩, 0)) (n' := 0) (b := a_l) (ls := l))
    refine rg_state (fun w hs => hs.appFlatC (l := []) (m := l)) ?_
    refine q0 rfl (o_assign ?_)
    refine rg_nil ?_
    -- leaf 1: sl a7 (0 + l.length)
    refine ret1 Try.func43 Try.results43 (by first | ((conv => lhs; whnf); done) | rfl) a7 (by (conv => lhs; whnf); simp [sl]) (fun w hs => by have h := hs.less (Γ' := []) (by simp); simp only [Nat.zero_add, List.nil_append] at h; exact h)
abbrev CopyO (t : T) : Prop := ∀ vr vk vs, Spec Try.prog 20 #[.agg (tc t vr vk vs).toArray] [RT t vr vk vs] [] (fun x : {h : HT // h.er = t} => .agg (tc t x.1.vr x.1.vk x.1.vs).toArray) (fun _ => []) (fun x => [bigR (treeR tys x.1)])
theorem copiedO (ts : List T) (a_ts : SH) (ih : ∀ t, t ∈ ts → CopyO t) : Spec Try.prog 44 #[sl a_ts (ts.length)] [TL ts a_ts] [] (fun x : SH × {hs : List HT // hs.map HT.er = ts} => sl x.1 ts.length) (fun x : SH × {hs : List HT // hs.map HT.er = ts} => []) (fun x : SH × {hs : List HT // hs.map HT.er = ts} => [rowS 6 tys.t x.1 ts.length (tpFlat (x.2.1.map HT.tp)), bigR (kidsR tys x.2.1)]) := by
  refine spec_go (args := [sl a_ts (ts.length)]) Try.func44 Try.ntmps44 rfl (by exact Nat.le_of_ble_eq_true rfl) fun B hB => ?_
  refine go_openTL (ts := ts) (a := a_ts) (fun VR1 VK1 VS1 hl1 hA1 => ?_)
  refine go_seq ?_
  refine go_region ⟨_, Try.func44⟩ rfl ?_
  refine q0 rfl (o_assign ?_)
  refine rg_nil ?_
  refine go_seq ?_
  refine go_region ⟨_, Try.func44⟩ rfl ?_
  refine q0 rfl (o_assign ?_)
  refine rg_nil ?_
  refine go_seq ?_
  refine go_seq ?_
  refine go_region ⟨_, Try.func44⟩ rfl ?_
  refine q0 rfl (o_move ?_)
  refine q0 rfl (o_len ?_)
  refine q0 rfl (o_move ?_)
  refine rg_nil ?_
  refine go_block ?_
  refine go_loopE (X := Nat × SH × List HT) (fun s_ => s_.1 ≤ ts.length ∧ s_.2.2.map HT.er = ts.take s_.1) (fun s_ => [(3, sl s_.2.1 (s_.1)), (6, sl a_ts (ts.length)), (7, .int .i64 ((ts.length : Int))), (8, .int .i64 ((s_.1 : Int)))]) (fun s_ G_ => G_) (fun s_ => [bigR (kidsR tys s_.2.2), rowS 6 31 s_.2.1 (s_.1) (tpFlat (s_.2.2.map HT.tp))]) (fun s_ => ts.length - s_.1) (0, (none, 0), []) (⟨by omega, rfl⟩) (by exact ⟨rfl, rfl, rfl, rfl, trivial⟩) ?_ ?_
  · exact fun w hs => ((hs.rowS0 6 31).bigNil)
  · intro ⟨i, a, ks⟩ base0 ⟨hi, hks⟩ next0
    dsimp only at  hi  hks  next0 ⊢
    refine go_seq ?_
    refine go_region ⟨_, Try.func44⟩ rfl ?_
    refine q0 rfl (o_lss ?_)
    refine rg_nil ?_
    refine go_seq ?_
    refine go_condI (fun h9 => ?_) (fun h9 => ?_)
    · have c9 : (decide ((i : Int) < (ts.length : Int))) = true := h9
      try simp only [decide_eq_true_eq, decide_eq_false_iff_not, Bool.and_eq_true, Bool.or_eq_true, Bool.not_eq_true', Bool.and_eq_false_iff, Bool.or_eq_false_iff, Bool.not_eq_false', bne_iff_ne, beq_iff_eq, ne_eq, not_and, Decidable.not_not, Bool.true_and, Bool.and_true, Bool.false_or, Bool.or_false] at c9
      refine go_skip ?_
      refine go_seq ?_
      refine go_block ?_
      refine go_seq ?_
      refine go_kid (ts := ts) (a := a_ts) (VR := VR1) (VK := VK1) (VS := VS1) i (by omega) ?_
      refine go_region ⟨_, Try.func44⟩ rfl ?_
      obtain ⟨bk2, o2, hav2⟩ := hA1 (by omega)
      refine q0 rfl (o_ixN ?_ (j := i))
      refine q0 rfl (o_ldT ?_)
      refine q0 rfl (o_new fun b5 => ?_)
      refine q0 rfl (o_st ?_)
      refine rg_nil ?_
      refine go_region ⟨_, Try.func44⟩ rfl ?_
      refine q0 rfl (o_move ?_)
      refine q0 rfl (o_lds ?_)
      refine q0 rfl (o_call Try.call20 (ih _ (getD_mem (show i < ts.length by omega)) (VR1 i) (VK1 i) (VS1 i)) (fun x14 => ?_))
      refine q0 rfl (o_lit1 fun b15 => ?_)
      refine q0 rfl (o_appS (fun a16 => ?_) (a := a) (n' := i))
      refine rg_state (fun w hs => ((hs.perm perm1).drop).snocT) ?_
      refine q0 rfl (o_assign ?_)
      refine rg_nil ?_
      refine go_inBlock ?_
      refine go_region ⟨_, Try.func44⟩ rfl ?_
      refine q0 rfl (o_add ?_)
      refine q0 rfl (o_move ?_)
      refine rg_nil ?_
      refine go_state (fun w hs => ?_) (next0 (i + 1, a16, ks ++ [x14.1]) _ (⟨by omega, by rw [List.map_append, hks, take_succ_getD (d := t0) (by omega)]; simp [x14.2]⟩) (by (try simp only); omega) ⟨rfl, rfl, rfl, rfl, trivial⟩)
      have e1 : (ks ++ [x14.1]).map HT.tp = ks.map HT.tp ++ [(ts.getD i t0, x14.1.vr, x14.1.vk, x14.1.vs)] := by simp only [List.map_append, List.map_cons, List.map_nil, HT.tp, x14.2]
      rw [e1]; exact (((((((((hs.less (by simp +contextual)).perm perm2).perm perm1).perm perm3).perm perm3).joinK).perm perm1).perm perm1).dropR (A := [_, _]))
    · have c9 : (decide ((i : Int) < (ts.length : Int))) = false := h9
      try simp only [decide_eq_true_eq, decide_eq_false_iff_not, Bool.and_eq_true, Bool.or_eq_true, Bool.not_eq_true', Bool.and_eq_false_iff, Bool.or_eq_false_iff, Bool.not_eq_false', bne_iff_ne, beq_iff_eq, ne_eq, not_and, Decidable.not_not, Bool.true_and, Bool.and_true, Bool.false_or, Bool.or_false] at c9
      refine go_exit rfl ?_
      refine go_seq ?_
      refine go_region ⟨_, Try.func44⟩ rfl ?_
      refine q0 rfl (o_move ?_)
      refine q0 rfl (o_assign ?_)
      refine rg_nil ?_
      -- leaf 0: sl a (i)
      have he : i = ts.length := by omega
      have hks2 : ks.map HT.er = ts := by rw [hks, he, List.take_length]
      refine ret1 Try.func44 Try.results44 (by first | ((conv => lhs; whnf); done) | rfl) (a, ⟨ks, hks2⟩) (by rw [he]; rfl) (fun w hs => by rw [← he]; exact ((hs.perm perm1).less (by simp)))
theorem copyO_walk (t : T) (vr_t vk_t vs_t : SH) (ih : ∀ p, p ∈ parts t → CopyO p.1) : Spec Try.prog 20 #[.agg (tc t vr_t vk_t vs_t).toArray] [RT t vr_t vk_t vs_t] [] (fun x : {h : HT // h.er = t} => .agg (tc t x.1.vr x.1.vk x.1.vs).toArray) (fun x : {h : HT // h.er = t} => []) (fun x : {h : HT // h.er = t} => [bigR (treeR tys x.1)]) := by
  refine spec_go (args := [.agg (tc t vr_t vk_t vs_t).toArray]) Try.func20 Try.ntmps20 rfl (by exact Nat.le_of_ble_eq_true rfl) fun B hB => ?_
  refine go_open (t := t) (vr := vr_t) (vk := vk_t) (vs := vs_t) (fun hk1 hn1 hm1 => ?_)
  refine go_openCL (l := (t).r) (a := vr_t) (fun hl2 hA2 hU2 => ?_)
  refine go_openTL (ts := (t).kids) (a := vk_t) (fun VR3 VK3 VS3 hl3 hA3 => ?_)
  refine go_openBL (bs := (t).sys) (a := vs_t) (fun VF4 VK4 hl4 hA4 => ?_)
  refine go_seq ?_
  refine go_region ⟨_, Try.func20⟩ rfl ?_
  refine q0 rfl (o_box fun b1 => ?_)
  refine q0 rfl (o_new fun b2 => ?_)
  refine rg_nil ?_
  refine go_seq ?_
  refine go_draw (tn := false) (A := [0, 1, 0, 4, 0, 16, 0, 64, 192, 0, 512, 1984, 4095, 0, 16383]) (l := [0, 1, 2, 3, 4, 5, 6, 7, 9, 10, 8, 11, 12, 13]) (fin := [14]) Tab.mixed ⟨_, Try.func20⟩ (by rfl) ?_
  refine n0 rfl (v_fa ?_)
  refine n0 rfl (v_ld ?_)
  refine n0 rfl (v_fa ?_)
  refine n0 rfl (v_ld ?_)
  refine n0 rfl (v_fa ?_)
  refine n0 rfl (v_ld ?_)
  refine n0 rfl (v_fa ?_)
  refine n0 rfl (v_ld ?_)
  refine n0 rfl (v_fa ?_)
  refine n0 rfl (v_ld ?_)
  refine n0 rfl (v_call Try.call43 (cloneO ((t).r) vr_t ) (fun x14 => ?_))
  refine n0 rfl (v_call Try.call44 (copiedO ((t).kids) vk_t (fun k hk => (by obtain ⟨p, hp, e⟩ := kid_mem_parts hk; exact e ▸ ih p hp))) (fun x17 => ?_))
  refine n0 rfl (v_build (cs := [.int .i64 ((t).kind), .int .i64 ((t).n), .string ((t).name), sl x14 (((t).r).length), sl x17.1 (((t).kids).length), sl (none, 0) (0)]) ?_)
  refine n0 rfl (v_new fun b3 => ?_)
  refine NV.done ?_
  refine q0 rfl (o_st ?_)
  refine rg_nil ?_
  refine go_seq ?_
  refine go_seq ?_
  refine go_region ⟨_, Try.func20⟩ rfl ?_
  refine q0 rfl (o_fa ?_)
  refine q0 rfl (o_ld ?_)
  refine q0 rfl (o_len ?_)
  refine q0 rfl (o_move ?_)
  refine rg_nil ?_
  refine go_block ?_
  refine go_loopE (X := Nat × SH × List HB) (fun s_ => s_.1 ≤ t.sys.length ∧ s_.2.2.map HB.er = t.sys.take s_.1) (fun s_ => [(2, .pointer (some ⟨b2, 0, none⟩)), (3, .pointer (some ⟨b3, 0, none⟩)), (20, sl vs_t ((t).sys.length)), (21, .int .i64 (((t).sys.length : Int))), (22, .int .i64 ((s_.1 : Int)))]) (fun s_ G_ => G_) (fun s_ => [bigR (brsR tys s_.2.2), rowS 2 69 s_.2.1 (s_.1) (bpFlat (s_.2.2.map HB.bp)), boxR b3 [.int .i64 (t.kind), .int .i64 (t.n), .string (t.name), sl x14 (t.r.length), sl x17.1 (t.kids.length), sl s_.2.1 (s_.1)] 31, rowS 6 31 x17.1 (((t).kids).length) (tpFlat (x17.2.1.map HT.tp)), bigR (kidsR tys x17.2.1), rowS 2 72 x14 (((t).r).length) (clFlat ((t).r)), boxR b2 [.int .i64 (0), .int .i64 (0), .string ((ByteArray.mk #[])), sl (none, 0) (0), sl (none, 0) (0), sl (none, 0) (0)] 31, boxR b1 (tc t vr_t vk_t vs_t) 31]) (fun s_ => t.sys.length - s_.1) (0, (none, 0), []) (⟨by omega, rfl⟩) (by exact ⟨rfl, rfl, rfl, rfl, rfl, trivial⟩) ?_ ?_
  · exact fun w hs => ((hs.rowS0 2 69).bigNil)
  · intro ⟨i, a, bs⟩ base0 ⟨hi, hbs⟩ next0
    dsimp only at  hi  hbs  next0 ⊢
    refine go_seq ?_
    refine go_region ⟨_, Try.func20⟩ rfl ?_
    refine q0 rfl (o_lss ?_)
    refine rg_nil ?_
    refine go_seq ?_
    refine go_condI (fun h23 => ?_) (fun h23 => ?_)
    · have c23 : (decide ((i : Int) < ((t).sys.length : Int))) = true := h23
      try simp only [decide_eq_true_eq, decide_eq_false_iff_not, Bool.and_eq_true, Bool.or_eq_true, Bool.not_eq_true', Bool.and_eq_false_iff, Bool.or_eq_false_iff, Bool.not_eq_false', bne_iff_ne, beq_iff_eq, ne_eq, not_and, Decidable.not_not, Bool.true_and, Bool.and_true, Bool.false_or, Bool.or_false] at c23
      refine go_skip ?_
      refine go_seq ?_
      refine go_block ?_
      refine go_seq ?_
      refine go_branch (bs := (t).sys) (a := vs_t) (VF := VF4) (VK := VK4) i (by omega) ?_
      refine go_openCL (l := (((t).sys).getD i br0).face) (a := VF4 i) (fun hl5 hA5 hU5 => ?_)
      refine go_openTL (ts := (((t).sys).getD i br0).kids) (a := VK4 i) (fun VR6 VK6 VS6 hl6 hA6 => ?_)
      refine go_region ⟨_, Try.func20⟩ rfl ?_
      obtain ⟨bk7, o7, hav7⟩ := hA4 (by omega)
      refine q0 rfl (o_ixN ?_ (j := i))
      refine q0 rfl (o_ldB ?_)
      refine q0 rfl (o_new fun b5 => ?_)
      refine q0 rfl (o_st ?_)
      refine rg_nil ?_
      refine go_draw (tn := false) (A := [0, 1, 0, 4, 12, 0, 32, 124, 252, 508, 1023, 2047, 4095]) (l := [0, 1, 2, 3, 5, 6, 4, 7, 8, 9]) (fin := [10, 11, 12]) Tab.mixed ⟨_, Try.func20⟩ (by rfl) ?_
      refine n0 rfl (v_fa ?_)
      refine n0 rfl (v_ld ?_)
      refine n0 rfl (v_fa ?_)
      refine n0 rfl (v_ld ?_)
      refine n0 rfl (v_fa ?_)
      refine n0 rfl (v_ld ?_)
      refine n0 rfl (v_call Try.call43 (cloneO ((((t).sys).getD i br0).face) (VF4 i) ) (fun x30 => ?_))
      refine n0 rfl (v_call Try.call44 (copiedO ((((t).sys).getD i br0).kids) (VK4 i) (fun k hk => (by obtain ⟨p, hp, e⟩ := sys_mem_parts (getD_mem (show i < t.sys.length by omega)) hk; exact e ▸ ih p hp))) (fun x33 => ?_))
      refine n0 rfl (v_build (cs := bc (t.sys.getD i br0) x30 x33.1) ?_)
      refine n0 rfl (v_lit1 fun b35 => ?_)
      refine NV.done ?_
      refine q0 rfl (o_appS (fun a36 => ?_) (a := a) (n' := i))
      refine rg_state (fun w hs => ((hs.perm perm1).drop).snocB) ?_
      refine q0 rfl (o_fa ?_)
      refine q0 rfl (o_stc ?_)
      refine rg_nil ?_
      refine go_inBlock ?_
      refine go_region ⟨_, Try.func20⟩ rfl ?_
      refine q0 rfl (o_add ?_)
      refine q0 rfl (o_move ?_)
      refine rg_nil ?_
      refine go_state (fun w hs => ?_) (next0 (i + 1, a36, bs ++ [HB.mk (t.sys.getD i br0).face x30 x33.2.1 x33.1]) _ (⟨by omega, by rw [List.map_append, hbs, take_succ_getD (d := br0) (by omega)]; simp [HB.er, HT.erL_eq, x33.2.2, Br.eta]⟩) (by (try simp only); omega) ⟨rfl, rfl, rfl, rfl, rfl, trivial⟩)
      have e1 : (bs ++ [HB.mk (t.sys.getD i br0).face x30 x33.2.1 x33.1]).map HB.bp = bs.map HB.bp ++ [(t.sys.getD i br0, x30, x33.1)] := by simp only [List.map_append, List.map_cons, List.map_nil, HB.bp, HB.er, HB.vf, HB.vk, HT.erL_eq, x33.2.2, Br.eta]
      rw [e1]; exact (((((((((((((((((((((((hs.less (by simp +contextual)).perm perm11).perm perm11).perm perm11).perm perm11).perm perm11).perm perm10).perm perm7).perm perm7).perm perm11).perm perm10).perm perm10).perm perm11).joinB rfl (by simpa using (congrArg List.length x33.2.2).symm) rfl rfl).perm perm8).perm perm8).perm perm8).perm perm8).perm perm8).perm perm6).perm perm7).perm perm7).dropR (A := [_, _, _, _, _, _, _, _]))
    · have c23 : (decide ((i : Int) < ((t).sys.length : Int))) = false := h23
      try simp only [decide_eq_true_eq, decide_eq_false_iff_not, Bool.and_eq_true, Bool.or_eq_true, Bool.not_eq_true', Bool.and_eq_false_iff, Bool.or_eq_false_iff, Bool.not_eq_false', bne_iff_ne, beq_iff_eq, ne_eq, not_and, Decidable.not_not, Bool.true_and, Bool.and_true, Bool.false_or, Bool.or_false] at c23
      refine go_exit rfl ?_
      refine go_seq ?_
      refine go_region ⟨_, Try.func20⟩ rfl ?_
      refine q0 rfl (o_lds ?_)
      refine q0 rfl (o_st ?_)
      refine rg_nil ?_
      -- leaf 0: .pointer (some ⟨b2, 0, none⟩)
      have he : i = t.sys.length := by omega
      have hb2 : bs.map HB.er = t.sys := by rw [hbs, he, List.take_length]
      have hbl : bs.length = t.sys.length := by rw [← hb2]; simp
      have hkl : x17.2.1.length = t.kids.length := by rw [← congrArg List.length x17.2.2]; simp
      have her : (HT.mk t.kind t.n t.name t.r x14 x17.2.1 x17.1 bs a).er = t := by simp only [HT.er, HT.erL_eq, HT.erB_eq]; rw [x17.2.2, hb2, T.eta]
      refine retC Try.func20 Try.results20 ⟨(HT.mk t.kind t.n t.name t.r x14 x17.2.1 x17.1 bs a), her⟩ rfl (by repeat (first | exact List.mem_cons_self | apply List.mem_cons_of_mem)) rfl rfl rfl (by simp only [tc, HT.vr, HT.vk, HT.vs, he]; rfl) (fun w hs => ?_)
      exact (((((((((((hs.less (by simp)).perm perm7).perm perm4).perm perm2).perm perm3).perm perm6).perm perm5).perm perm6).perm perm7).joinT (y := tys) (k := t.kind) (n := t.n) (nm := t.name) rfl hkl.symm (by omega) rfl rfl rfl).dropR (A := [_]))
theorem copyO : ∀ t : T, CopyO t := T.ind fun t ih vr vk vs => copyO_walk t vr vk vs ih
end Go.Hy
namespace Go.Hy
set_option linter.unusedVariables false
set_option linter.unusedSimpArgs false
set_option linter.unusedSectionVars false
open Go.Proofs
set_option linter.unusedVariables false
set_option linter.unusedSimpArgs false
set_option maxRecDepth 100000
theorem pmore (k : Int)  : Spec Try.prog 80 #[.int .i64 (k)] [] [] (fun _ : Unit => .int .i64 (more k)) (fun _ : Unit => []) (fun _ : Unit => []) := by
  refine spec_go (args := [.int .i64 (k)]) Try.func80 Try.ntmps80 rfl (by exact Nat.le_of_ble_eq_true rfl) fun B hB => ?_
  refine go_seq ?_
  refine go_region ⟨_, Try.func80⟩ rfl ?_
  refine q0 rfl (o_assign ?_)
  refine rg_nil ?_
  refine go_seq ?_
  refine go_seq ?_
  refine go_region ⟨_, Try.func80⟩ rfl ?_
  refine q0 rfl (o_move ?_)
  refine q0 rfl (o_eqI ?_)
  refine rg_nil ?_
  refine go_condI (fun h4 => ?_) (fun h4 => ?_)
  · have c4 : (decide (k = 15)) = true := h4
    try simp only [decide_eq_true_eq, decide_eq_false_iff_not, Bool.and_eq_true, Bool.or_eq_true, Bool.not_eq_true', Bool.and_eq_false_iff, Bool.or_eq_false_iff, Bool.not_eq_false', bne_iff_ne, beq_iff_eq, ne_eq, not_and, Decidable.not_not, Bool.true_and, Bool.and_true, Bool.false_or, Bool.or_false] at c4
    refine go_seq ?_
    refine go_region ⟨_, Try.func80⟩ rfl ?_
    refine q0 rfl (o_assign ?_)
    refine rg_nil ?_
    -- leaf 0: .int .i64 (1)
    refine ret1 Try.func80 Try.results80 (by first | ((conv => lhs; whnf); done) | rfl) () (by first | rfl | (simp_all [more]; done) | (simp_all [more]; omega)) (fun w hs => hs.none)
  · have c4 : (decide (k = 15)) = false := h4
    try simp only [decide_eq_true_eq, decide_eq_false_iff_not, Bool.and_eq_true, Bool.or_eq_true, Bool.not_eq_true', Bool.and_eq_false_iff, Bool.or_eq_false_iff, Bool.not_eq_false', bne_iff_ne, beq_iff_eq, ne_eq, not_and, Decidable.not_not, Bool.true_and, Bool.and_true, Bool.false_or, Bool.or_false] at c4
    refine go_skip ?_
    refine go_seq ?_
    refine go_region ⟨_, Try.func80⟩ rfl ?_
    refine q0 rfl (o_assign ?_)
    refine rg_nil ?_
    -- leaf 1: .int .i64 (0)
    refine ret1 Try.func80 Try.results80 (by first | ((conv => lhs; whnf); done) | rfl) () (by first | rfl | (simp_all [more]; done) | (simp_all [more]; omega)) (fun w hs => hs.none)
end Go.Hy
namespace Go.Hy
set_option linter.unusedVariables false
set_option linter.unusedSimpArgs false
set_option linter.unusedSectionVars false
open Go.Proofs
set_option linter.unusedVariables false
set_option linter.unusedSimpArgs false
set_option maxRecDepth 100000
theorem parts_walk (t : T) (vr_t vk_t vs_t : SH) (hz : size t ≤ 1000000000) : Spec Try.prog 65 #[.agg (tc t vr_t vk_t vs_t).toArray] [RT t vr_t vk_t vs_t] [] (fun x : {x : SH × List QP // x.2.map qer = parts t} => sl x.1.1 x.1.2.length) (fun x : {x : SH × List QP // x.2.map qer = parts t} => [AllF qE x.1.2]) (fun x : {x : SH × List QP // x.2.map qer = parts t} => [rowS 8 60 x.1.1 x.1.2.length (spFlat x.1.2)]) := by
  refine spec_go (args := [.agg (tc t vr_t vk_t vs_t).toArray]) Try.func65 Try.ntmps65 rfl (by exact Nat.le_of_ble_eq_true rfl) fun B hB => ?_
  refine go_open (t := t) (vr := vr_t) (vk := vk_t) (vs := vs_t) (fun hk1 hn1 hm1 => ?_)
  refine go_openCL (l := (t).r) (a := vr_t) (fun hl2 hA2 hU2 => ?_)
  refine go_openTL (ts := (t).kids) (a := vk_t) (fun VR3 VK3 VS3 hl3 hA3 => ?_)
  refine go_openBL (bs := (t).sys) (a := vs_t) (fun VF4 VK4 hl4 hA4 => ?_)
  have hpn := parts_len t
  have hp0 : t.kids.length ≤ (parts t).length := sys_le (t := t) (Nat.zero_le _)
  refine go_seq ?_
  refine go_region ⟨_, Try.func65⟩ rfl ?_
  refine q0 rfl (o_box fun b1 => ?_)
  refine q0 rfl (o_assign ?_)
  refine rg_nil ?_
  refine go_seq ?_
  refine go_region ⟨_, Try.func65⟩ rfl ?_
  refine q0 rfl (o_assign ?_)
  refine rg_nil ?_
  refine go_seq ?_
  refine go_seq ?_
  refine go_region ⟨_, Try.func65⟩ rfl ?_
  refine q0 rfl (o_fa ?_)
  refine q0 rfl (o_ld ?_)
  refine q0 rfl (o_len ?_)
  refine q0 rfl (o_move ?_)
  refine rg_nil ?_
  refine go_block ?_
  refine go_loopE (X := Nat × SH × List QP) (fun s_ => s_.1 ≤ t.kids.length ∧ s_.2.2.map qer = (parts t).take s_.1) (fun s_ => [(1, .pointer (some ⟨b1, 0, none⟩)), (3, sl s_.2.1 (s_.1)), (13, sl vk_t ((t).kids.length)), (14, .int .i64 (((t).kids.length : Int))), (15, .int .i64 ((s_.1 : Int)))]) (fun s_ G_ => AllF qE s_.2.2 :: G_) (fun s_ => [rowS 8 60 s_.2.1 (s_.1) (spFlat s_.2.2), boxR b1 (tc t vr_t vk_t vs_t) 31]) (fun s_ => t.kids.length - s_.1) (0, (none, 0), []) (⟨by omega, rfl⟩) (by exact ⟨rfl, rfl, rfl, rfl, rfl, trivial⟩) ?_ ?_
  · exact fun w hs => ((hs.rowS0 8 60).allNil qE)
  · intro ⟨i, a, qs⟩ base0 ⟨hi, hqs⟩ next0
    dsimp only at  hi  hqs  next0 ⊢
    refine go_seq ?_
    refine go_region ⟨_, Try.func65⟩ rfl ?_
    refine q0 rfl (o_lss ?_)
    refine rg_nil ?_
    refine go_seq ?_
    refine go_condI (fun h16 => ?_) (fun h16 => ?_)
    · have c16 : (decide ((i : Int) < ((t).kids.length : Int))) = true := h16
      try simp only [decide_eq_true_eq, decide_eq_false_iff_not, Bool.and_eq_true, Bool.or_eq_true, Bool.not_eq_true', Bool.and_eq_false_iff, Bool.or_eq_false_iff, Bool.not_eq_false', bne_iff_ne, beq_iff_eq, ne_eq, not_and, Decidable.not_not, Bool.true_and, Bool.and_true, Bool.false_or, Bool.or_false] at c16
      refine go_skip ?_
      refine go_seq ?_
      refine go_block ?_
      refine go_seq ?_
      refine go_kid (ts := (t).kids) (a := vk_t) (VR := VR3) (VK := VK3) (VS := VS3) i (by omega) ?_
      refine go_region ⟨_, Try.func65⟩ rfl ?_
      refine q0 rfl (o_move ?_)
      obtain ⟨bk5, o5, hav5⟩ := hA3 (by omega)
      refine q0 rfl (o_ixN ?_ (j := i))
      refine q0 rfl (o_ldT ?_)
      refine q0 rfl (o_new fun b5 => ?_)
      refine q0 rfl (o_assign ?_)
      refine q0 rfl (o_st ?_)
      refine rg_nil ?_
      refine go_seq ?_
      refine go_region ⟨_, Try.func65⟩ rfl ?_
      refine q0 rfl (o_fa ?_)
      refine q0 rfl (o_ld ?_)
      refine q0 rfl (o_move ?_)
      refine q0 rfl (o_call Try.call11 (binds_spec ((t).kind) (i : Int) ) (fun x24 => ?_))
      refine q0 rfl (o_move ?_)
      refine q0 rfl (o_extract ?_)
      refine q0 rfl (o_extract ?_)
      refine q0 rfl (o_assign ?_)
      refine q0 rfl (o_assign ?_)
      refine rg_nil ?_
      refine go_region ⟨_, Try.func65⟩ rfl ?_
      refine q0 rfl (o_move ?_)
      refine q0 rfl (o_lds ?_)
      refine q0 rfl (o_move ?_)
      refine q0 rfl (o_move ?_)
      refine q0 rfl (o_build (cs := [.int .i64 ((((t).kids).getD i t0).kind), .int .i64 ((((t).kids).getD i t0).n), .string ((((t).kids).getD i t0).name), sl (VR3 i) ((((t).kids).getD i t0).r.length), sl (VK3 i) ((((t).kids).getD i t0).kids.length), sl (VS3 i) ((((t).kids).getD i t0).sys.length), .int .i64 ((binds ((t).kind) (i : Int)).1), .int .i64 ((binds ((t).kind) (i : Int)).2)]) ?_ (hb := fill_spot012 (by rfl) (by rfl)))
      refine q0 rfl (o_lit1 fun b32 => ?_)
      refine q0 rfl (o_appS (fun a33 => ?_) (a := a) (n' := i))
      refine rg_state (fun w hs => ((hs.perm perm1).drop).snocQ (q := ((((t).kids).getD i t0, VR3 i, VK3 i, VS3 i), (binds ((t).kind) (i : Int)).1, (binds ((t).kind) (i : Int)).2)) rfl) ?_
      refine q0 rfl (o_assign ?_)
      refine rg_nil ?_
      refine go_inBlock ?_
      refine go_region ⟨_, Try.func65⟩ rfl ?_
      refine q0 rfl (o_add ?_)
      refine q0 rfl (o_move ?_)
      refine rg_nil ?_
      refine go_state (fun w hs => ?_) (next0 (i + 1, a33, (qs ++ [((((t).kids).getD i t0, VR3 i, VK3 i, VS3 i), (binds ((t).kind) (i : Int)).1, (binds ((t).kind) (i : Int)).2)])) _ (⟨by omega, by rw [List.map_append, hqs, take_snoc (parts_kid t i (by omega))]; rfl⟩) (by (try simp only); omega) ⟨rfl, rfl, rfl, rfl, rfl, trivial⟩)
      exact (((((hs.allAdd (E := qE) (l := qs) (x := ((((t).kids).getD i t0, VR3 i, VK3 i, VS3 i), (binds ((t).kind) (i : Int)).1, (binds ((t).kind) (i : Int)).2)) (by first | ((repeat (first | exact List.mem_cons_self | apply List.mem_cons_of_mem)); done) | (simp only [List.nil_append, List.cons_append]; (repeat (first | exact List.mem_cons_self | apply List.mem_cons_of_mem)))) (by first | ((repeat (first | exact List.mem_cons_self | apply List.mem_cons_of_mem)); done) | (simp only [List.nil_append, List.cons_append]; (repeat (first | exact List.mem_cons_self | apply List.mem_cons_of_mem))))).less (by simp +contextual)).perm perm2).perm perm1).dropR (A := [_, _]))
    · have c16 : (decide ((i : Int) < ((t).kids.length : Int))) = false := h16
      try simp only [decide_eq_true_eq, decide_eq_false_iff_not, Bool.and_eq_true, Bool.or_eq_true, Bool.not_eq_true', Bool.and_eq_false_iff, Bool.or_eq_false_iff, Bool.not_eq_false', bne_iff_ne, beq_iff_eq, ne_eq, not_and, Decidable.not_not, Bool.true_and, Bool.and_true, Bool.false_or, Bool.or_false] at c16
      have hei : i = t.kids.length := by omega
      refine go_ms (Ms' := [rowS 8 60 a (t.kids.length) (spFlat qs), boxR b1 (tc t vr_t vk_t vs_t) 31]) (by rw [hei]) ?_
      refine go_exit rfl ?_
      refine go_seq ?_
      refine go_seq ?_
      refine go_region ⟨_, Try.func65⟩ rfl ?_
      refine q0 rfl (o_fa ?_)
      refine q0 rfl (o_ld ?_)
      refine q0 rfl (o_len ?_)
      refine q0 rfl (o_move ?_)
      refine rg_nil ?_
      refine go_block ?_
      refine go_loopE (X := Nat × SH × List QP) (fun s_ => s_.1 ≤ t.sys.length ∧ s_.2.2.map qer = (parts t).take (t.kids.length + sysBefore s_.1 t.sys)) (fun s_ => [(1, .pointer (some ⟨b1, 0, none⟩)), (3, sl s_.2.1 ((t.kids.length + sysBefore s_.1 t.sys))), (36, sl vs_t ((t).sys.length)), (37, .int .i64 (((t).sys.length : Int))), (38, .int .i64 ((s_.1 : Int)))]) (fun s_ G_ => AllF qE s_.2.2 :: G_) (fun s_ => [rowS 8 60 s_.2.1 ((t.kids.length + sysBefore s_.1 t.sys)) (spFlat s_.2.2), boxR b1 (tc t vr_t vk_t vs_t) 31]) (fun s_ => t.sys.length - s_.1) (0, a, qs) (⟨by omega, by rw [hqs, hei]; rfl⟩) (by exact ⟨rfl, (by (conv => lhs; whnf); rw [hei]; rfl), rfl, rfl, rfl, trivial⟩) ?_ ?_
      · exact fun w hs => (hs.less (by simp +contextual))
      · intro ⟨s, a2, qs2⟩ base1 ⟨hs1, hq2⟩ next1
        dsimp only at  hs1  hq2  next1 ⊢
        refine go_seq ?_
        refine go_region ⟨_, Try.func65⟩ rfl ?_
        refine q0 rfl (o_lss ?_)
        refine rg_nil ?_
        refine go_seq ?_
        refine go_condI (fun h39 => ?_) (fun h39 => ?_)
        · have c39 : (decide ((s : Int) < ((t).sys.length : Int))) = true := h39
          try simp only [decide_eq_true_eq, decide_eq_false_iff_not, Bool.and_eq_true, Bool.or_eq_true, Bool.not_eq_true', Bool.and_eq_false_iff, Bool.or_eq_false_iff, Bool.not_eq_false', bne_iff_ne, beq_iff_eq, ne_eq, not_and, Decidable.not_not, Bool.true_and, Bool.and_true, Bool.false_or, Bool.or_false] at c39
          have hp1 := sys_le (t := t) (s := s + 1) (by omega)
          rw [sysBefore_succ s t.sys (by omega)] at hp1
          refine go_skip ?_
          refine go_seq ?_
          refine go_block ?_
          refine go_seq ?_
          refine go_branch (bs := (t).sys) (a := vs_t) (VF := VF4) (VK := VK4) s (by omega) ?_
          refine go_openCL (l := (((t).sys).getD s br0).face) (a := VF4 s) (fun hl6 hA6 hU6 => ?_)
          refine go_openTL (ts := (((t).sys).getD s br0).kids) (a := VK4 s) (fun VR7 VK7 VS7 hl7 hA7 => ?_)
          refine go_region ⟨_, Try.func65⟩ rfl ?_
          obtain ⟨bk8, o8, hav8⟩ := hA4 (by omega)
          refine q0 rfl (o_ixN ?_ (j := s))
          refine q0 rfl (o_ldB ?_)
          refine q0 rfl (o_new fun b9 => ?_)
          refine q0 rfl (o_st ?_)
          refine rg_nil ?_
          refine go_seq ?_
          refine go_region ⟨_, Try.func65⟩ rfl ?_
          refine q0 rfl (o_fa ?_)
          refine q0 rfl (o_ld ?_)
          refine q0 rfl (o_len ?_)
          refine q0 rfl (o_move ?_)
          refine rg_nil ?_
          refine go_block ?_
          refine go_loopE (X := Nat × SH × List QP) (fun s_ => s_.1 ≤ (t.sys.getD s br0).kids.length ∧ s_.2.2.map qer = (parts t).take (t.kids.length + sysBefore s t.sys + s_.1)) (fun s_ => [(1, .pointer (some ⟨b1, 0, none⟩)), (3, sl s_.2.1 ((t.kids.length + sysBefore s t.sys + s_.1))), (36, sl vs_t ((t).sys.length)), (37, .int .i64 (((t).sys.length : Int))), (38, .int .i64 ((s : Int))), (43, sl (VK4 s) ((((t).sys).getD s br0).kids.length)), (44, .int .i64 (((((t).sys).getD s br0).kids.length : Int))), (45, .int .i64 ((s_.1 : Int)))]) (fun s_ G_ => AllF qE s_.2.2 :: G_) (fun s_ => [boxR b9 (bc (((t).sys).getD s br0) (VF4 s) (VK4 s)) 69, rowS 8 60 s_.2.1 ((t.kids.length + sysBefore s t.sys + s_.1)) (spFlat s_.2.2), boxR b1 (tc t vr_t vk_t vs_t) 31]) (fun s_ => (t.sys.getD s br0).kids.length - s_.1) (0, a2, qs2) (⟨by omega, hq2⟩) (by exact ⟨rfl, rfl, rfl, rfl, rfl, rfl, rfl, rfl, trivial⟩) ?_ ?_
          · exact fun w hs => (hs.less (by simp +contextual))
          · intro ⟨k, a3, qs3⟩ base2 ⟨hk1, hq3⟩ next2
            dsimp only at  hk1  hq3  next2 ⊢
            refine go_seq ?_
            refine go_region ⟨_, Try.func65⟩ rfl ?_
            refine q0 rfl (o_lss ?_)
            refine rg_nil ?_
            refine go_seq ?_
            refine go_condI (fun h46 => ?_) (fun h46 => ?_)
            · have c46 : (decide ((k : Int) < ((((t).sys).getD s br0).kids.length : Int))) = true := h46
              try simp only [decide_eq_true_eq, decide_eq_false_iff_not, Bool.and_eq_true, Bool.or_eq_true, Bool.not_eq_true', Bool.and_eq_false_iff, Bool.or_eq_false_iff, Bool.not_eq_false', bne_iff_ne, beq_iff_eq, ne_eq, not_and, Decidable.not_not, Bool.true_and, Bool.and_true, Bool.false_or, Bool.or_false] at c46
              refine go_skip ?_
              refine go_seq ?_
              refine go_block ?_
              refine go_seq ?_
              refine go_kid (ts := (((t).sys).getD s br0).kids) (a := VK4 s) (VR := VR7) (VK := VK7) (VS := VS7) k (by omega) ?_
              refine go_region ⟨_, Try.func65⟩ rfl ?_
              obtain ⟨bk9, o9, hav9⟩ := hA7 (by omega)
              refine q0 rfl (o_ixN ?_ (j := k))
              refine q0 rfl (o_ldT ?_)
              refine q0 rfl (o_new fun b11 => ?_)
              refine q0 rfl (o_st ?_)
              refine rg_nil ?_
              refine go_draw (tn := false) (A := [0, 0, 0, 4, 12, 30, 62, 127, 255]) (l := [0, 1, 2, 3, 4, 5, 6]) (fin := [7, 8]) Tab.mixed ⟨_, Try.func65⟩ (by rfl) ?_
              refine n0 rfl (v_move ?_)
              refine n0 rfl (v_lds ?_)
              refine n0 rfl (v_fa ?_)
              refine n0 rfl (v_ld ?_)
              refine n0 rfl (v_call Try.call80 (pmore ((t).kind) ) (fun x53 => ?_))
              refine n0 rfl (v_build (cs := [.int .i64 ((((((t).sys).getD s br0).kids).getD k t0).kind), .int .i64 ((((((t).sys).getD s br0).kids).getD k t0).n), .string ((((((t).sys).getD s br0).kids).getD k t0).name), sl (VR7 k) ((((((t).sys).getD s br0).kids).getD k t0).r.length), sl (VK7 k) ((((((t).sys).getD s br0).kids).getD k t0).kids.length), sl (VS7 k) ((((((t).sys).getD s br0).kids).getD k t0).sys.length), .int .i64 (0), .int .i64 (more ((t).kind))]) ?_ (hb := fill_spot012 (by rfl) (by rfl)))
              refine n0 rfl (v_lit1 fun b55 => ?_)
              refine NV.done ?_
              refine q0 rfl (o_appS (fun a56 => ?_) (a := a3) (n' := (t.kids.length + sysBefore s t.sys + k)))
              refine rg_state (fun w hs => ((hs.perm perm1).drop).snocQ (q := ((((((t).sys).getD s br0).kids).getD k t0, VR7 k, VK7 k, VS7 k), 0, more ((t).kind))) rfl) ?_
              refine q0 rfl (o_assign ?_)
              refine rg_nil ?_
              refine go_inBlock ?_
              refine go_region ⟨_, Try.func65⟩ rfl ?_
              refine q0 rfl (o_add ?_)
              refine q0 rfl (o_move ?_)
              refine rg_nil ?_
              refine go_state (fun w hs => ?_) (next2 (k + 1, a56, (qs3 ++ [((((((t).sys).getD s br0).kids).getD k t0, VR7 k, VK7 k, VS7 k), 0, more ((t).kind))])) _ (⟨by omega, by rw [List.map_append, hq3, ← Nat.add_assoc, take_snoc (parts_sys t s k (by omega) (by omega))]; rfl⟩) (by (try simp only); omega) ⟨rfl, rfl, rfl, rfl, rfl, rfl, rfl, rfl, trivial⟩)
              exact ((((((hs.allAdd (E := qE) (l := qs3) (x := ((((((t).sys).getD s br0).kids).getD k t0, VR7 k, VK7 k, VS7 k), 0, more ((t).kind))) (by first | ((repeat (first | exact List.mem_cons_self | apply List.mem_cons_of_mem)); done) | (simp only [List.nil_append, List.cons_append]; (repeat (first | exact List.mem_cons_self | apply List.mem_cons_of_mem)))) (by first | ((repeat (first | exact List.mem_cons_self | apply List.mem_cons_of_mem)); done) | (simp only [List.nil_append, List.cons_append]; (repeat (first | exact List.mem_cons_self | apply List.mem_cons_of_mem))))).less (by simp +contextual)).perm perm3).perm perm1).perm perm3).dropR (A := [_, _, _]))
            · have c46 : (decide ((k : Int) < ((((t).sys).getD s br0).kids.length : Int))) = false := h46
              try simp only [decide_eq_true_eq, decide_eq_false_iff_not, Bool.and_eq_true, Bool.or_eq_true, Bool.not_eq_true', Bool.and_eq_false_iff, Bool.or_eq_false_iff, Bool.not_eq_false', bne_iff_ne, beq_iff_eq, ne_eq, not_and, Decidable.not_not, Bool.true_and, Bool.and_true, Bool.false_or, Bool.or_false] at c46
              have hek : k = (t.sys.getD s br0).kids.length := by omega
              refine go_ms (Ms' := [boxR b9 (bc (((t).sys).getD s br0) (VF4 s) (VK4 s)) 69, rowS 8 60 a3 ((t.kids.length + sysBefore s t.sys + (t.sys.getD s br0).kids.length)) (spFlat qs3), boxR b1 (tc t vr_t vk_t vs_t) 31]) (by rw [hek]) ?_
              refine go_exit rfl ?_
              refine go_inBlock ?_
              refine go_region ⟨_, Try.func65⟩ rfl ?_
              refine q0 rfl (o_add ?_)
              refine q0 rfl (o_move ?_)
              refine rg_nil ?_
              refine go_state (fun w hs => ?_) (next1 (s + 1, a3, qs3) _ (⟨by omega, by rw [hq3, hek, sysBefore_succ s t.sys (by omega), Nat.add_assoc]⟩) (by (try simp only); omega) ⟨rfl, (by (conv => lhs; whnf); rw [hek, Nat.add_assoc, ← sysBefore_succ s t.sys (by omega)]; rfl), rfl, rfl, rfl, trivial⟩)
              have e9 : t.kids.length + sysBefore s t.sys + (t.sys.getD s br0).kids.length = t.kids.length + sysBefore (s + 1) t.sys := by rw [Nat.add_assoc, ← sysBefore_succ s t.sys (by omega)]
              rw [← e9]; exact ((((hs.less (by simp +contextual)).perm perm2).perm perm2).dropR (A := [_, _]))
        · have c39 : (decide ((s : Int) < ((t).sys.length : Int))) = false := h39
          try simp only [decide_eq_true_eq, decide_eq_false_iff_not, Bool.and_eq_true, Bool.or_eq_true, Bool.not_eq_true', Bool.and_eq_false_iff, Bool.or_eq_false_iff, Bool.not_eq_false', bne_iff_ne, beq_iff_eq, ne_eq, not_and, Decidable.not_not, Bool.true_and, Bool.and_true, Bool.false_or, Bool.or_false] at c39
          refine go_exit rfl ?_
          refine go_seq ?_
          refine go_region ⟨_, Try.func65⟩ rfl ?_
          refine q0 rfl (o_move ?_)
          refine q0 rfl (o_assign ?_)
          refine rg_nil ?_
          -- leaf 0: sl a2 ((t.kids.length + sysBefore s t.sys))
          have hes : s = t.sys.length := by omega
          have hnn : t.kids.length + sysBefore s t.sys = (parts t).length := by rw [parts_length, hes]
          have hfull : qs2.map qer = parts t := by rw [hq2, hnn, List.take_length]
          have hln : t.kids.length + sysBefore s t.sys = qs2.length := by rw [hnn, ← hfull, List.length_map]
          refine ret1 Try.func65 Try.results65 (by first | ((conv => lhs; whnf); done) | rfl) ⟨(a2, qs2), hfull⟩ (by (conv => lhs; whnf); rw [hln]; rfl) (fun w hs => by have h := ((hs.less (Γ' := [AllF qE qs2]) (by simp)).dropR (A := [_])); rw [hln] at h; exact h)
end Go.Hy
namespace Go.Hy
set_option linter.unusedVariables false
set_option linter.unusedSimpArgs false
set_option linter.unusedSectionVars false
open Go.Proofs
set_option linter.unusedVariables false
set_option linter.unusedSimpArgs false
set_option maxRecDepth 100000
theorem cloneI (l : List Int) (a_l : SH)  : Spec Try.prog 79 #[sl a_l (l.length)] [IL l a_l] [] (fun x : SH => sl x l.length) (fun x : SH => [IL l x]) (fun x : SH => []) := by
  refine spec_go (args := [sl a_l (l.length)]) Try.func79 Try.ntmps79 rfl (by exact Nat.le_of_ble_eq_true rfl) fun B hB => ?_
  refine go_openIL (l := l) (a := a_l) (fun hl1 hA1 hU1 => ?_)
  refine go_seq ?_
  refine go_region ⟨_, Try.func79⟩ rfl ?_
  refine q0 rfl (o_assign ?_)
  refine rg_nil ?_
  refine go_seq ?_
  refine go_seq ?_
  refine go_region ⟨_, Try.func79⟩ rfl ?_
  refine q0 rfl (o_move ?_)
  refine q0 rfl (o_eqNil ?_)
  refine rg_nil ?_
  refine go_condI (fun h4 => ?_) (fun h4 => ?_)
  · refine go_seq ?_
    refine go_region ⟨_, Try.func79⟩ rfl ?_
    refine q0 rfl (o_assign ?_)
    refine rg_nil ?_
    -- leaf 0: sl (none, 0) (0)
    have hl : l = [] := by (rcases Nat.eq_zero_or_pos l.length with h | h; exact List.eq_nil_of_length_eq_zero h; obtain ⟨bk, o, hav⟩ := hA1 h; rw [hav] at h4; cases h4)
    subst hl
    refine ret1 Try.func79 Try.results79 (by first | ((conv => lhs; whnf); done) | rfl) (none, 0) rfl (fun w hs => (hs.bare.nilIL 0).less (by simp))
  · refine go_skip ?_
    refine go_seq ?_
    refine go_region ⟨_, Try.func79⟩ rfl ?_
    refine q0 rfl (o_lit0 fun b5 => ?_)
    refine q0 rfl (o_move ?_)
    refine rg_state (fun w hs => hs.boxRow (sz := 1) (m := 0) rfl (by decide)) ?_
    refine q0 rfl (o_appIL (fun a7 => ?_) (by simp) (a := (some ⟨b5, 0, none⟩, 0)) (n' := 0) (b := a_l) (ls := l))
    refine rg_state (fun w hs => hs.appFlatI (l := []) (m := l)) ?_
    refine q0 rfl (o_assign ?_)
    refine rg_nil ?_
    -- leaf 1: sl a7 (0 + l.length)
    refine ret1 Try.func79 Try.results79 (by first | ((conv => lhs; whnf); done) | rfl) a7 (by (conv => lhs; whnf); simp [sl]) (fun w hs => ((hs.settleIL (l := l) hB (by simp) (by simp) (by unfold reach at *; omega) hU1).bare.less (by simp)))
abbrev AllO (t : T) : Prop := ∀ (ps : List IP) (a_o : SH) (l : List Int) (a_l : SH) (vr vk vs : SH), ps.length + size t ≤ 1000000000 → l.length + size t ≤ 1000000000 → Spec Try.prog 63 #[sl a_o ps.length, sl a_l l.length, .agg (tc t vr vk vs).toArray] [AllF ipE ps, IL l a_l, RT t vr vk vs] [rowS 1 54 a_o ps.length (ipFlat ps)] (fun x : {x : SH × List IP // x.2.map (·.1) = ps.map (·.1) ++ (everyP t).map (l ++ ·)} => sl x.1.1 x.1.2.length) (fun x => [AllF ipE x.1.2]) (fun x => [rowS 1 54 x.1.1 x.1.2.length (ipFlat x.1.2)])
theorem pathAll_walk (ps : List IP) (a_o : SH) (l : List Int) (a_l : SH) (t : T) (vr_t vk_t vs_t : SH) (ih : ∀ p, p ∈ parts t → AllO p.1) (hz : ps.length + size t ≤ 1000000000) (hzl : l.length + size t ≤ 1000000000) : Spec Try.prog 63 #[sl a_o (ps.length), sl a_l (l.length), .agg (tc t vr_t vk_t vs_t).toArray] [AllF ipE ps, IL l a_l, RT t vr_t vk_t vs_t] [rowS 1 54 a_o (ps.length) (ipFlat ps)] (fun x : {x : SH × List IP // x.2.map (·.1) = ps.map (·.1) ++ (everyP t).map (l ++ ·)} => sl x.1.1 x.1.2.length) (fun x : {x : SH × List IP // x.2.map (·.1) = ps.map (·.1) ++ (everyP t).map (l ++ ·)} => [AllF ipE x.1.2]) (fun x : {x : SH × List IP // x.2.map (·.1) = ps.map (·.1) ++ (everyP t).map (l ++ ·)} => [rowS 1 54 x.1.1 x.1.2.length (ipFlat x.1.2)]) := by
  refine spec_go (args := [sl a_o (ps.length), sl a_l (l.length), .agg (tc t vr_t vk_t vs_t).toArray]) Try.func63 Try.ntmps63 rfl (by exact Nat.le_of_ble_eq_true rfl) fun B hB => ?_
  refine go_openIL (l := l) (a := a_l) (fun hl1 hA1 hU1 => ?_)
  refine go_open (t := t) (vr := vr_t) (vk := vk_t) (vs := vs_t) (fun hk2 hn2 hm2 => ?_)
  refine go_openCL (l := (t).r) (a := vr_t) (fun hl3 hA3 hU3 => ?_)
  refine go_openTL (ts := (t).kids) (a := vk_t) (fun VR4 VK4 VS4 hl4 hA4 => ?_)
  refine go_openBL (bs := (t).sys) (a := vs_t) (fun VF5 VK5 hl5 hA5 => ?_)
  have hsp := size_pos' t
  have hpn := parts_len t
  refine go_know (p := l.length ≤ a_l.2) (fun w hs => (hs.facts (IL l a_l) (by simp)).1.1) (fun hcap => ?_)
  refine go_seq ?_
  refine go_region ⟨_, Try.func63⟩ rfl ?_
  refine q0 rfl (o_box fun b5 => ?_)
  refine q0 rfl (o_assign ?_)
  refine rg_nil ?_
  refine go_seq ?_
  refine go_region ⟨_, Try.func63⟩ rfl ?_
  refine q0 rfl (o_move ?_)
  refine q0 rfl (o_move ?_)
  refine q0 rfl (o_call Try.call79 (cloneI l a_l ) (fun x11 => ?_))
  refine q0 rfl (o_lit1 fun b12 => ?_)
  refine q0 rfl (o_appS (fun a13 => ?_) (a := a_o) (n' := ps.length))
  refine rg_state (fun w hs => ((hs.perm perm1).drop).snocII (q := (l, x11)) rfl) ?_
  refine q0 rfl (o_assign ?_)
  refine rg_nil ?_
  refine go_state (fun w hs => (hs.allAdd (E := ipE) (l := ps) (x := (l, x11)) (by first | ((repeat (first | exact List.mem_cons_self | apply List.mem_cons_of_mem)); done) | (simp only [List.nil_append, List.cons_append]; (repeat (first | exact List.mem_cons_self | apply List.mem_cons_of_mem)))) (by first | ((repeat (first | exact List.mem_cons_self | apply List.mem_cons_of_mem)); done) | (simp only [List.nil_append, List.cons_append]; (repeat (first | exact List.mem_cons_self | apply List.mem_cons_of_mem)))))) ?_
  refine go_ms (Ms' := [rowS 1 54 a13 ((ps ++ [(l, x11)]).length) (ipFlat (ps ++ [(l, x11)])), boxR b5 (tc t vr_t vk_t vs_t) 31]) (by simp only [List.length_append, List.length_cons, List.length_nil]) ?_
  refine go_seq ?_
  refine go_seq ?_
  refine go_region ⟨_, Try.func63⟩ rfl ?_
  refine q0 rfl (o_lds ?_)
  refine q0 rfl (o_call Try.call65 (parts_walk t vr_t vk_t vs_t (by first | assumption | omega | (unfold in64 at *; omega) | (unfold reach at *; omega) | (simp_all; done))) (fun x15 => ?_))
  refine q0 rfl (o_len ?_)
  refine q0 rfl (o_move ?_)
  refine rg_nil ?_
  refine go_state (fun w hs => ((((hs.perm perm2).perm perm2).perm perm2).settleRow (F := spCells) (E := qE) (d := qp0) (bt := 120) (l := x15.1.2) (fun _ => rfl) hB (by first | ((repeat (first | exact List.mem_cons_self | apply List.mem_cons_of_mem)); done) | (simp only [List.nil_append, List.cons_append]; (repeat (first | exact List.mem_cons_self | apply List.mem_cons_of_mem)))) rfl rfl (by have := congrArg List.length x15.2; rw [List.length_map] at this; unfold reach; omega))) ?_
  have hxl := congrArg List.length x15.2
  rw [List.length_map] at hxl
  refine go_block ?_
  refine go_loopE (X := Nat × SH × List IP) (fun s_ => s_.1 ≤ x15.1.2.length ∧ s_.2.2.map (·.1) = ps.map (·.1) ++ (everyTo t s_.1).map (l ++ ·)) (fun s_ => [(0, sl s_.2.1 (s_.2.2.length)), (1, sl a_l (l.length)), (15, sl x15.1.1 (x15.1.2.length)), (16, .int .i64 ((x15.1.2.length : Int))), (17, .int .i64 ((s_.1 : Int)))]) (fun s_ G_ => AllF ipE s_.2.2 :: G_) (fun s_ => [rowS 1 54 s_.2.1 (s_.2.2.length) (ipFlat s_.2.2), boxR b5 (tc t vr_t vk_t vs_t) 31]) (fun s_ => x15.1.2.length - s_.1) (0, a13, ps ++ [(l, x11)]) (⟨by omega, by simp [everyTo, idxCat]⟩) (by exact ⟨(by (conv => lhs; whnf); simp [sl]), rfl, rfl, rfl, rfl, trivial⟩) ?_ ?_
  · exact fun w hs => (hs.less (by simp +contextual))
  · intro ⟨m, a, qs⟩ base0 ⟨hi, hqs⟩ next0
    dsimp only at  hi  hqs  next0 ⊢
    refine go_seq ?_
    refine go_region ⟨_, Try.func63⟩ rfl ?_
    refine q0 rfl (o_lss ?_)
    refine rg_nil ?_
    refine go_seq ?_
    refine go_condI (fun h18 => ?_) (fun h18 => ?_)
    · have c18 : (decide ((m : Int) < (x15.1.2.length : Int))) = true := h18
      try simp only [decide_eq_true_eq, decide_eq_false_iff_not, Bool.and_eq_true, Bool.or_eq_true, Bool.not_eq_true', Bool.and_eq_false_iff, Bool.or_eq_false_iff, Bool.not_eq_false', bne_iff_ne, beq_iff_eq, ne_eq, not_and, Decidable.not_not, Bool.true_and, Bool.and_true, Bool.false_or, Bool.or_false] at c18
      have hqm := qer_at x15.2 (show m < x15.1.2.length by omega)
      have hzp := size_part hqm
      have hqll := congrArg List.length hqs
      simp only [List.length_map, List.length_append] at hqll
      rw [everyTo_len (by omega)] at hqll
      simp only [qer] at hzp
      have hzq := size_part_lt (List.mem_of_getElem? hqm)
      simp only [qer] at hzq
      refine go_skip ?_
      refine go_seq ?_
      refine go_block ?_
      refine go_seq ?_
      refine go_openRow (l := x15.1.2) (a := x15.1.1) (bt := 120) (F := spCells) (E := qE) (d := qp0) (by repeat (first | exact List.mem_cons_self | apply List.mem_cons_of_mem)) (fun hl6 hA6 => ?_)
      refine go_elem (l := x15.1.2) (a := x15.1.1) (bt := 120) (F := spCells) (E := qE) (d := qp0) (by repeat (first | exact List.mem_cons_self | apply List.mem_cons_of_mem)) m (by omega) ?_
      refine go_region ⟨_, Try.func63⟩ rfl ?_
      refine q0 rfl (o_move ?_)
      obtain ⟨bk7, o7, hav7⟩ := hA6 (by omega)
      refine q0 rfl (o_ixN ?_ (j := m))
      refine q0 rfl (o_ldQ ?_)
      refine q0 rfl (o_new fun b8 => ?_)
      refine q0 rfl (o_assign ?_)
      refine q0 rfl (o_st ?_)
      refine rg_nil ?_
      refine go_state (fun w hs => ((((hs.perm perm2).perm perm2).perm perm2).settleBox hB)) ?_
      refine go_draw (tn := true) (A := [0, 0, 0, 4, 0, 16, 62, 0, 128, 510, 0, 1024, 4095, 8191]) (l := [0, 1, 2, 3, 4, 5, 6, 7, 10, 11, 8, 9]) (fin := [12, 13]) Tab.mixed ⟨_, Try.func63⟩ (by rfl) ?_
      refine n0 rfl (v_move ?_)
      refine n0 rfl (v_move ?_)
      refine n0 rfl (v_move ?_)
      refine n0 rfl (v_len ?_)
      refine n0 rfl (v_move ?_)
      refine n0 rfl (v_len ?_)
      refine n0 rfl (v_slice3 ?_ (k := l.length))
      refine n0 rfl (v_move ?_)
      refine n0 rfl (v_fa ?_)
      refine n0 rfl (f_ldgs ?_)
      refine n0 rfl (v_lit1 fun b30 => ?_)
      refine n0 rfl (t_appFull (fun a31 => ?_) (by simp) (ls := l) (a := a_l))
      refine nv_conv [_] [_] (fun _ _ _ hs => hs.snocI) ?_
      refine NV.done ?_
      refine rg_state (fun w hs => (((((hs.perm perm3).perm perm3).perm perm3).perm perm3).settleIL (l := l ++ [(m : Int)]) hB rfl (by simp) (by unfold reach; omega) (fun c hc => by rcases List.mem_append.mp hc with h | h; exact hU1 c h; rw [List.mem_singleton] at h; subst h; unfold in64; omega))) ?_
      have hih0 : AllO (x15.1.2.getD m qp0).1.1 := ih _ (List.mem_of_getElem? hqm)
      have hih := hih0 qs a (l ++ [(m : Int)]) a31 (x15.1.2.getD m qp0).1.2.1 (x15.1.2.getD m qp0).1.2.2.1 (x15.1.2.getD m qp0).1.2.2.2 (by show qs.length + size (x15.1.2.getD m qp0).1.1 ≤ _; omega) (by show (l ++ [(m : Int)]).length + size (x15.1.2.getD m qp0).1.1 ≤ _; rw [List.length_append, List.length_singleton]; omega)
      rw [show (l ++ [(m : Int)]).length = l.length + 1 by simp] at hih
      refine rg_state (fun w hs => (((hs.perm perm2).perm perm1).perm perm2)) ?_
      refine q0 rfl (o_call Try.call63 (hih) (fun x34 => ?_))
      refine q0 rfl (o_assign ?_)
      refine rg_nil ?_
      refine go_inBlock ?_
      refine go_region ⟨_, Try.func63⟩ rfl ?_
      refine q0 rfl (o_add ?_)
      refine q0 rfl (o_move ?_)
      refine rg_nil ?_
      have hnx : qs.map (fun z : IP => z.1) ++ (everyP (x15.1.2.getD m qp0).1.1).map (fun z => l ++ [(m : Int)] ++ z) = ps.map (fun z : IP => z.1) ++ (everyTo t (m + 1)).map (fun z => l ++ z) := by rw [hqs, everyTo_succ hqm]; simp [qer, Function.comp_def]
      refine go_state (fun w hs => ?_) (next0 (m + 1, x34.1.1, x34.1.2) _ (⟨by omega, x34.2.trans hnx⟩) (by (try simp only); omega) ⟨rfl, rfl, rfl, rfl, rfl, trivial⟩)
      exact ((((hs.less (by simp +contextual)).perm perm2).perm perm1).dropR (A := [_, _]))
    · have c18 : (decide ((m : Int) < (x15.1.2.length : Int))) = false := h18
      try simp only [decide_eq_true_eq, decide_eq_false_iff_not, Bool.and_eq_true, Bool.or_eq_true, Bool.not_eq_true', Bool.and_eq_false_iff, Bool.or_eq_false_iff, Bool.not_eq_false', bne_iff_ne, beq_iff_eq, ne_eq, not_and, Decidable.not_not, Bool.true_and, Bool.and_true, Bool.false_or, Bool.or_false] at c18
      refine go_exit rfl ?_
      refine go_seq ?_
      refine go_region ⟨_, Try.func63⟩ rfl ?_
      refine q0 rfl (o_move ?_)
      refine q0 rfl (o_assign ?_)
      refine rg_nil ?_
      -- leaf 0: sl a (qs.length)
      have hme : m = (parts t).length := by omega
      have hfull : qs.map (·.1) = ps.map (·.1) ++ (everyP t).map (l ++ ·) := by rw [hqs, hme, everyTo_all]
      refine ret1 Try.func63 Try.results63 (by first | ((conv => lhs; whnf); done) | rfl) ⟨(a, qs), hfull⟩ rfl (fun w hs => ((hs.less (by simp)).dropR (A := [_])))
theorem allO : ∀ t : T, AllO t := T.ind fun t ih ps a_o l a_l vr vk vs hz hzl => pathAll_walk ps a_o l a_l t vr vk vs ih hz hzl
end Go.Hy
namespace Go.Hy
set_option linter.unusedVariables false
set_option linter.unusedSimpArgs false
set_option linter.unusedSectionVars false
open Go.Proofs
set_option linter.unusedVariables false
set_option linter.unusedSimpArgs false
set_option maxRecDepth 100000
theorem equal_spec (l m : List Cl) (a b : SH) : Spec Try.prog 48 #[sl a l.length, sl b m.length] [CL l a, CL m b] [] (fun _ : Unit => .bool (decide (l = m))) (fun _ => []) (fun _ => []) := by
  refine spec_go (args := [sl a l.length, sl b m.length]) Try.func48 Try.ntmps48 rfl (by exact Nat.le_of_ble_eq_true rfl) fun B hB => ?_
  refine go_openCL (l := l) (a := a) (fun hl1 hA1 hU1 => ?_)
  refine go_openCL (l := m) (a := b) (fun hl2 hA2 hU2 => ?_)
  refine go_seq ?_
  refine go_region ⟨_, Try.func48⟩ rfl ?_
  refine q0 rfl (o_assign ?_)
  refine rg_nil ?_
  refine go_seq ?_
  refine go_seq ?_
  refine go_region ⟨_, Try.func48⟩ rfl ?_
  refine q0 rfl (o_move ?_)
  refine q0 rfl (o_len ?_)
  refine q0 rfl (o_move ?_)
  refine q0 rfl (o_len ?_)
  refine q0 rfl (o_neI ?_)
  refine rg_nil ?_
  refine go_condI (fun h10 => ?_) (fun h10 => ?_)
  · have hne : ¬ l = m := fun e => by subst e; simp at h10
    refine go_seq ?_
    refine go_region ⟨_, Try.func48⟩ rfl ?_
    refine q0 rfl (o_assign ?_)
    refine rg_nil ?_
    refine ret1 Try.func48 Try.results48 (by first | ((conv => lhs; whnf); done) | rfl) () (by rw [decide_eq_false hne]) (fun w hs => hs.none)
  · have hlen : l.length = m.length := by simp at h10; omega
    refine go_skip ?_
    refine go_seq ?_
    refine go_seq ?_
    refine go_region ⟨_, Try.func48⟩ rfl ?_
    refine q0 rfl (o_move ?_)
    refine q0 rfl (o_len ?_)
    refine q0 rfl (o_move ?_)
    refine rg_nil ?_
    refine go_block ?_
    refine go_loopI (X := Nat) (fun i => i ≤ l.length ∧ ∀ j, j < i → l.getD j cl0 = m.getD j cl0) (fun i => [(0, sl a l.length), (1, sl b m.length), (12, .int .i64 (l.length : Int)), (13, .int .i64 (i : Int))]) (fun i => [CL l a, CL m b]) (fun i => []) (fun i => l.length - i) (0) (⟨Nat.zero_le _, fun j hj => by omega⟩) (by exact ⟨rfl, rfl, rfl, rfl, trivial⟩) ?_ ?_
    · exact fun w hs => hs.less (by simp +contextual)
    · intro i base0 ⟨hi, hok⟩ next0
      refine go_seq ?_
      refine go_region ⟨_, Try.func48⟩ rfl ?_
      refine q0 rfl (o_lss ?_)
      refine rg_nil ?_
      refine go_seq ?_
      refine go_condI (fun h14 => ?_) (fun h14 => ?_)
      · have hlt : i < l.length := by have := of_decide_eq_true h14; omega
        have hlt2 : i < m.length := by omega
        obtain ⟨bk, o, hav⟩ := hA1 (by omega)
        obtain ⟨bk2, o2, hav2⟩ := hA2 (by omega)
        refine go_skip ?_
        refine go_seq ?_
        refine go_block ?_
        refine go_seq ?_
        refine go_region ⟨_, Try.func48⟩ rfl ?_
        refine q0 rfl (o_move ?_)
        refine q0 rfl (o_assign ?_)
        refine rg_nil ?_
        refine go_seq ?_
        refine go_draw (tn := false) (A := [0, 0, 3, 7, 0, 0, 48, 112, 255]) (l := [0, 1, 2, 3, 4, 5, 6, 7, 8]) (fin := []) Tab.mixed ⟨_, Try.func48⟩ (by rfl) ?_
        refine n0 rfl (v_move ?_)
        refine n0 rfl (v_move ?_)
        refine n0 rfl (v_ixN ?_)
        refine n0 rfl (v_ldC ?_)
        refine n0 rfl (v_move ?_)
        refine n0 rfl (v_move ?_)
        refine n0 rfl (v_ixN ?_)
        refine n0 rfl (v_ldC ?_)
        refine n0 rfl (v_neC ?_)
        refine NV.done ?_
        refine rg_nil ?_
        refine go_condI (fun h24 => ?_) (fun h24 => ?_)
        · refine go_seq ?_
          refine go_region ⟨_, Try.func48⟩ rfl ?_
          refine q0 rfl (o_assign ?_)
          refine rg_nil ?_
          refine ret1 Try.func48 Try.results48 (by first | ((conv => lhs; whnf); done) | rfl) () (by rw [decide_eq_false (fun e => by subst e; simp at h24)]) (fun w hs => hs.none)
        · refine go_skip ?_
          refine go_inBlock ?_
          refine go_region ⟨_, Try.func48⟩ rfl ?_
          refine q0 rfl (o_add ?_)
          refine q0 rfl (o_move ?_)
          refine rg_nil ?_
          have hb : l.getD i cl0 = m.getD i cl0 := by simpa using h24
          refine go_state (fun w hs => ?_) (next0 (i + 1) _ ⟨hlt, fun j hj => (by rcases Nat.lt_succ_iff_lt_or_eq.mp hj with h | h; exact hok j h; subst h; exact hb)⟩ (by omega) ⟨rfl, rfl, rfl, rfl, trivial⟩)
          exact hs
      · have hge : i = l.length := by have := of_decide_eq_false h14; omega
        refine go_exit rfl ?_
        refine go_seq ?_
        refine go_region ⟨_, Try.func48⟩ rfl ?_
        refine q0 rfl (o_assign ?_)
        refine rg_nil ?_
        refine ret1 Try.func48 Try.results48 (by first | ((conv => lhs; whnf); done) | rfl) () (by rw [decide_eq_true (list_eq_of hlen (by rw [← hge]; exact hok))]) (fun w hs => hs.none)
end Go.Hy
namespace Go.Hy
set_option linter.unusedVariables false
set_option linter.unusedSimpArgs false
set_option linter.unusedSectionVars false
open Go.Proofs
set_option linter.unusedVariables false
set_option linter.unusedSimpArgs false
set_option maxRecDepth 100000
theorem clone_spec (l : List Cl) (a : SH) : Spec Try.prog 43 #[sl a l.length] [CL l a] [] (fun x : SH => sl x l.length) (fun x => [CL l x]) (fun _ => []) := by
  refine spec_go (args := [sl a l.length]) Try.func43 Try.ntmps43 rfl (by exact Nat.le_of_ble_eq_true rfl) fun B hB => ?_
  refine go_openCL (l := l) (a := a) (fun hl1 hA1 hU1 => ?_)
  refine go_seq ?_
  refine go_region ⟨_, Try.func43⟩ rfl ?_
  refine q0 rfl (o_assign ?_)
  refine rg_nil ?_
  refine go_seq ?_
  refine go_seq ?_
  refine go_region ⟨_, Try.func43⟩ rfl ?_
  refine q0 rfl (o_move ?_)
  refine q0 rfl (o_eqNil ?_)
  refine rg_nil ?_
  refine go_condI (fun h4 => ?_) (fun h4 => ?_)
  · refine go_seq ?_
    refine go_region ⟨_, Try.func43⟩ rfl ?_
    refine q0 rfl (o_assign ?_)
    refine rg_nil ?_
    have hl : l = [] := by (rcases Nat.eq_zero_or_pos l.length with h | h; exact List.eq_nil_of_length_eq_zero h; obtain ⟨bk, o, hav⟩ := hA1 h; rw [hav] at h4; cases h4)
    subst hl
    refine ret1 Try.func43 Try.results43 (by first | ((conv => lhs; whnf); done) | rfl) (none, 0) rfl (fun w hs => (hs.nilCL 0).less (by simp))
  · refine go_skip ?_
    refine go_seq ?_
    refine go_region ⟨_, Try.func43⟩ rfl ?_
    refine q0 rfl (o_lit0 fun b5 => ?_)
    refine q0 rfl (o_move ?_)
    refine rg_state (fun w hs => hs.boxRow (sz := 2) (m := 0) rfl (by decide)) ?_
    refine q0 rfl (o_appCL (fun a7 => ?_) (by exact List.mem_cons_self))
    refine q0 rfl (o_assign ?_)
    refine rg_nil ?_
    have e0 : 0 + l.length = l.length := by omega
    rw [e0]
    refine ret1 Try.func43 Try.results43 (by first | ((conv => lhs; whnf); done) | rfl) a7 rfl (fun w hs => ((hs.settleCL hB (by simp) (by omega) (by unfold reach at *; omega) hU1).less (by simp)))
abbrev CopyAt (t : T) : Prop := ∀ vr vk vs, Spec Try.prog 20 #[.agg (tc t vr vk vs).toArray] [RT t vr vk vs] [] (fun x : SH × SH × SH => .agg (tc t x.1 x.2.1 x.2.2).toArray) (fun x => [RT t x.1 x.2.1 x.2.2]) (fun _ => [])
theorem copied_walk (ts : List T) (a : SH) (ih : ∀ t, t ∈ ts → CopyAt t) : Spec Try.prog 44 #[sl a ts.length] [TL ts a] [] (fun x : SH => sl x ts.length) (fun x => [TL ts x]) (fun _ => []) := by
  refine spec_go (args := [sl a ts.length]) Try.func44 Try.ntmps44 rfl (by exact Nat.le_of_ble_eq_true rfl) fun B hB => ?_
  refine go_openTL (ts := ts) (a := a) (fun VR VK VS hl1 hA1 => ?_)
  refine go_seq ?_
  refine go_region ⟨_, Try.func44⟩ rfl ?_
  refine q0 rfl (o_assign ?_)
  refine rg_nil ?_
  refine go_seq ?_
  refine go_region ⟨_, Try.func44⟩ rfl ?_
  refine q0 rfl (o_assign ?_)
  refine rg_nil ?_
  refine go_seq ?_
  refine go_seq ?_
  refine go_region ⟨_, Try.func44⟩ rfl ?_
  refine q0 rfl (o_move ?_)
  refine q0 rfl (o_len ?_)
  refine q0 rfl (o_move ?_)
  refine rg_nil ?_
  refine go_block ?_
  refine go_loopI (X := Nat × SH × List TP) (fun s => s.1 ≤ ts.length ∧ s.2.2.length = s.1 ∧ s.2.2.map (·.1) = ts.take s.1) (fun s => [(3, sl s.2.1 s.1), (6, sl a ts.length), (7, .int .i64 (ts.length : Int)), (8, .int .i64 (s.1 : Int))]) (fun s => [AP s.2.2, TLx ts a VR VK VS]) (fun s => [rowS 6 31 s.2.1 s.1 (tpFlat s.2.2)]) (fun s => ts.length - s.1) ((0, (none, 0), [])) (⟨Nat.zero_le _, rfl, rfl⟩) (by exact ⟨rfl, rfl, rfl, rfl, trivial⟩) ?_ ?_
  · exact fun w hs => ((hs.rowS0 6 31).apNil).less (by simp +contextual)
  · intro ⟨i, a3, ps⟩ base0 ⟨hi, hpl, hpm⟩ next0
    dsimp only at hi hpl hpm next0 ⊢
    refine go_seq ?_
    refine go_region ⟨_, Try.func44⟩ rfl ?_
    refine q0 rfl (o_lss ?_)
    refine rg_nil ?_
    refine go_seq ?_
    refine go_condI (fun h9 => ?_) (fun h9 => ?_)
    · have hlt : i < ts.length := by have := of_decide_eq_true h9; omega
      obtain ⟨bk, o, hav⟩ := hA1 (by omega)
      refine go_kid (ts := ts) (a := a) (VR := VR) (VK := VK) (VS := VS) i hlt ?_
      refine go_skip ?_
      refine go_seq ?_
      refine go_block ?_
      refine go_seq ?_
      refine go_region ⟨_, Try.func44⟩ rfl ?_
      refine q0 rfl (o_ixN ?_)
      refine q0 rfl (o_ldT ?_)
      refine q0 rfl (o_new fun b5 => ?_)
      refine q0 rfl (o_st ?_)
      refine rg_nil ?_
      refine go_region ⟨_, Try.func44⟩ rfl ?_
      refine q0 rfl (o_move ?_)
      refine q0 rfl (o_lds ?_)
      refine q0 rfl (o_call Try.call20 (ih _ (getD_mem hlt) (VR i) (VK i) (VS i)) (fun x14 => ?_))
      refine q0 rfl (o_lit1 fun b15 => ?_)
      refine q0 rfl (o_appS (fun a16 => ?_)  )
      refine q0 rfl (o_assign ?_)
      refine rg_nil ?_
      refine go_inBlock ?_
      refine go_region ⟨_, Try.func44⟩ rfl ?_
      refine q0 rfl (o_add ?_)
      refine q0 rfl (o_move ?_)
      refine rg_nil ?_
      refine go_state (fun w hs => ?_) (next0 (i + 1, a16, ps ++ [(ts.getD i t0, x14)]) _ ⟨hlt, by simp [hpl], by simp only [List.map_append, List.map_cons, List.map_nil, hpm]; exact (take_succ_getD hlt).symm⟩ (by simp only; omega) ⟨rfl, rfl, rfl, rfl, trivial⟩)
      have h1 := hs.apAdd (ps := ps) (t := ts.getD i t0) (vr := x14.1) (vk := x14.2.1) (vs := x14.2.2) (by simp) (by simp)
      have e1 : tpFlat (ps ++ [(ts.getD i t0, x14)]) = tpFlat ps ++ tc (ts.getD i t0) x14.1 x14.2.1 x14.2.2 := by simp [tpFlat, tpCells]
      rw [e1]
      exact (h1.less (by simp +contextual)).dropR (A := [_])
    · have hge : i = ts.length := by have := of_decide_eq_false h9; omega
      refine go_exit rfl ?_
      refine go_seq ?_
      refine go_region ⟨_, Try.func44⟩ rfl ?_
      refine q0 rfl (o_move ?_)
      refine q0 rfl (o_assign ?_)
      refine rg_nil ?_
      have hm2 : ps.map (·.1) = ts := by rw [hpm, hge, List.take_length]
      rw [hge]
      refine ret1 Try.func44 Try.results44 (by first | ((conv => lhs; whnf); done) | rfl) a3 rfl (fun w hs => (hs.settleTL hB (by simp) rfl hm2 (by omega) (by unfold reach at *; omega)).less (by simp))
theorem copy_walk (t : T) (ih : ∀ p, p ∈ parts t → CopyAt p.1) (vr vk vs : SH) : Spec Try.prog 20 #[.agg (tc t vr vk vs).toArray] [RT t vr vk vs] [] (fun x : SH × SH × SH => .agg (tc t x.1 x.2.1 x.2.2).toArray) (fun x => [RT t x.1 x.2.1 x.2.2]) (fun _ => []) := by
  refine spec_go (args := [.agg (tc t vr vk vs).toArray]) Try.func20 Try.ntmps20 rfl (by exact Nat.le_of_ble_eq_true rfl) fun B hB => ?_
  refine go_open (t := t) (vr := vr) (vk := vk) (vs := vs) (fun hk hn hnm => ?_)
  refine go_openBL (bs := t.sys) (a := vs) (fun VF VK hl1 hA1 => ?_)
  refine go_seq ?_
  refine go_region ⟨_, Try.func20⟩ rfl ?_
  refine q0 rfl (o_box fun b1 => ?_)
  refine q0 rfl (o_new fun b2 => ?_)
  refine rg_nil ?_
  refine go_seq ?_
  refine go_draw (tn := false) (A := [0, 1, 0, 4, 0, 16, 0, 64, 192, 0, 512, 1984, 4095, 0, 16383]) (l := [0, 1, 2, 3, 4, 5, 6, 7, 9, 10, 8, 11, 12, 13]) (fin := [14]) Tab.mixed ⟨_, Try.func20⟩ (by rfl) ?_
  refine n0 rfl (v_fa ?_)
  refine n0 rfl (v_ld ?_)
  refine n0 rfl (v_fa ?_)
  refine n0 rfl (v_ld ?_)
  refine n0 rfl (v_fa ?_)
  refine n0 rfl (v_ld ?_)
  refine n0 rfl (v_fa ?_)
  refine n0 rfl (v_ld ?_)
  refine n0 rfl (v_fa ?_)
  refine n0 rfl (v_ld ?_)
  refine n0 rfl (v_call Try.call43 (clone_spec t.r vr) (fun x14 => ?_))
  refine n0 rfl (v_call Try.call44 (copied_walk t.kids vk (fun k hk => (by obtain ⟨p, hp, e⟩ := kid_mem_parts hk; exact e ▸ ih p hp))) (fun x17 => ?_))
  refine n0 rfl (v_build (cs := [.int .i64 t.kind, .int .i64 t.n, .string t.name, sl x14 t.r.length, sl x17 t.kids.length, .slice none 0 0]) ?_)
  refine n0 rfl (v_new fun b3 => ?_)
  refine NV.done ?_
  refine q0 rfl (o_st ?_)
  refine rg_nil ?_
  refine go_seq ?_
  refine go_seq ?_
  refine go_region ⟨_, Try.func20⟩ rfl ?_
  refine q0 rfl (o_fa ?_)
  refine q0 rfl (o_ld ?_)
  refine q0 rfl (o_len ?_)
  refine q0 rfl (o_move ?_)
  refine rg_nil ?_
  refine go_block ?_
  refine go_loopI (X := Nat × SH × List BP) (fun s => s.1 ≤ t.sys.length ∧ s.2.2.length = s.1 ∧ s.2.2.map (·.1) = t.sys.take s.1) (fun s => [(2, .pointer (some ⟨b2, 0, none⟩)), (3, .pointer (some ⟨b3, 0, none⟩)), (20, sl vs t.sys.length), (21, .int .i64 (t.sys.length : Int)), (22, .int .i64 (s.1 : Int))]) (fun s => [BPs s.2.2, BLx t.sys vs VF VK, CL t.r x14, TL t.kids x17]) (fun s => [boxR b3 [.int .i64 t.kind, .int .i64 t.n, .string t.name, sl x14 t.r.length, sl x17 t.kids.length, sl s.2.1 s.1] 31, rowS 2 69 s.2.1 s.1 (bpFlat s.2.2), boxR b2 [.int .i64 0, .int .i64 0, .string ⟨#[]⟩, .slice none 0 0, .slice none 0 0, .slice none 0 0] 31]) (fun s => t.sys.length - s.1) ((0, (none, 0), [])) (⟨Nat.zero_le _, rfl, rfl⟩) (by exact ⟨rfl, rfl, rfl, rfl, rfl, trivial⟩) ?_ ?_
  · exact fun w hs => (((hs.rowS0 2 69).bpNil).less (by simp +contextual)).perm perm1 |>.dropR (A := [_, _, _])
  · intro ⟨i, a3, ps⟩ base0 ⟨hi, hpl, hpm⟩ next0
    dsimp only at hi hpl hpm next0 ⊢
    refine go_seq ?_
    refine go_region ⟨_, Try.func20⟩ rfl ?_
    refine q0 rfl (o_lss ?_)
    refine rg_nil ?_
    refine go_seq ?_
    refine go_condI (fun h23 => ?_) (fun h23 => ?_)
    · have hlt : i < t.sys.length := by have := of_decide_eq_true h23; omega
      obtain ⟨bk, o, hav⟩ := hA1 (by omega)
      refine go_skip ?_
      refine go_seq ?_
      refine go_block ?_
      refine go_seq ?_
      refine go_region ⟨_, Try.func20⟩ rfl ?_
      refine q0 rfl (o_ixN ?_)
      refine q0 rfl (o_ldB ?_)
      refine q0 rfl (o_new fun b5 => ?_)
      refine q0 rfl (o_st ?_)
      refine rg_nil ?_
      refine go_branch (bs := t.sys) (a := vs) (VF := VF) (VK := VK) i hlt ?_
      refine go_draw (tn := false) (A := [0, 1, 0, 4, 12, 0, 32, 124, 252, 508, 1023, 2047, 4095]) (l := [0, 1, 2, 3, 5, 6, 4, 7, 8, 9]) (fin := [10, 11, 12]) Tab.mixed ⟨_, Try.func20⟩ (by rfl) ?_
      refine n0 rfl (v_fa ?_)
      refine n0 rfl (v_ld ?_)
      refine n0 rfl (v_fa ?_)
      refine n0 rfl (v_ld ?_)
      refine n0 rfl (v_fa ?_)
      refine n0 rfl (v_ld ?_)
      refine n0 rfl (v_call Try.call43 (clone_spec (t.sys.getD i br0).face (VF i)) (fun x30 => ?_))
      refine n0 rfl (v_call Try.call44 (copied_walk (t.sys.getD i br0).kids (VK i) (fun k hk => (by obtain ⟨p, hp, e⟩ := sys_mem_parts (getD_mem hlt) hk; exact e ▸ ih p hp))) (fun x33 => ?_))
      refine n0 rfl (v_build (cs := bc (t.sys.getD i br0) x30 x33) ?_)
      refine n0 rfl (v_lit1 fun b35 => ?_)
      refine NV.done ?_
      refine q0 rfl (o_appS (fun a36 => ?_)  )
      refine q0 rfl (o_fa ?_)
      refine q0 rfl (o_stc ?_)
      refine rg_nil ?_
      refine go_inBlock ?_
      refine go_region ⟨_, Try.func20⟩ rfl ?_
      refine q0 rfl (o_add ?_)
      refine q0 rfl (o_move ?_)
      refine rg_nil ?_
      refine go_state (fun w hs => ?_) (next0 (i + 1, a36, ps ++ [(t.sys.getD i br0, x30, x33)]) _ ⟨hlt, by simp [hpl], by simp only [List.map_append, List.map_cons, List.map_nil, hpm]; exact (take_succ_getD hlt).symm⟩ (by simp only; omega) ⟨rfl, rfl, rfl, rfl, rfl, trivial⟩)
      have h1 := hs.bpAdd (ps := ps) (f := (t.sys.getD i br0).face) (ks := (t.sys.getD i br0).kids) (vf := x30) (vk := x33) (by simp) (by simp) (by simp)
      rw [Br.eta] at h1
      have e1 : bpFlat (ps ++ [(t.sys.getD i br0, x30, x33)]) = bpFlat ps ++ bc (t.sys.getD i br0) x30 x33 := by simp [bpFlat, bpCells]
      rw [e1]
      have h2 := h1.less (Γ' := [BPs (ps ++ [(t.sys.getD i br0, x30, x33)]), BLx t.sys vs VF VK, CL t.r x14, TL t.kids x17]) (by simp +contextual)
      exact ((h2.perm (perm4.trans (perm2.trans perm2))).dropR (A := [_, _, _]))
    · have hge : i = t.sys.length := by have := of_decide_eq_false h23; omega
      refine go_exit rfl ?_
      refine go_seq ?_
      refine go_region ⟨_, Try.func20⟩ rfl ?_
      refine q0 rfl (o_lds ?_)
      refine q0 rfl (o_st ?_)
      refine rg_nil ?_
      have hm2 : ps.map (·.1) = t.sys := by rw [hpm, hge, List.take_length]
      refine retC Try.func20 Try.results20 (x14, x17, a3) rfl (by repeat (first | exact List.mem_cons_self | apply List.mem_cons_of_mem)) rfl rfl rfl (by simp only [tc, hge]; rfl) (fun w hs => ?_)
      have h2 := (hs.perm perm2).settleBL hB (by simp) rfl hm2 (by omega) (by unfold reach at *; omega)
      have h3 := h2.mkRT hk hn hnm (r := t.r) (vr := x14) (ks := t.kids) (vk := x17) (ss := t.sys) (vs := a3) (by simp) (by simp) (by simp)
      rw [T.eta] at h3
      exact (h3.bare).less (by simp)
theorem copy_spec : ∀ t : T, CopyAt t := T.ind fun t ih vr vk vs => copy_walk t ih vr vk vs
end Go.Hy
namespace Go.Hy
set_option linter.unusedVariables false
set_option linter.unusedSimpArgs false
set_option linter.unusedSectionVars false
open Go.Proofs
set_option linter.unusedVariables false
set_option linter.unusedSimpArgs false
set_option maxRecDepth 100000
def varT (n : Int) : T := .mk 1 n ⟨#[]⟩ [] [] []
def lamT (t : T) : T := .mk 5 0 ⟨#[]⟩ [] [t] []
theorem in_lit {n : Int} (h : 0 ≤ n) (h2 : n ≤ 1000) : in64 n := by unfold in64; omega
end Go.Hy
namespace Go.Hy
set_option linter.unusedVariables false
set_option linter.unusedSimpArgs false
set_option linter.unusedSectionVars false
open Go.Proofs
set_option linter.unusedVariables false
set_option linter.unusedSimpArgs false
set_option maxRecDepth 100000
theorem dimension_spec (i : Int) : Spec Try.prog 77 #[.int .i64 i] [] [] (fun _ : Unit => .bool (decide (0 ≤ i) && decide (i < 24))) (fun _ => []) (fun _ => []) := by
  refine spec_go (args := [.int .i64 i]) Try.func77 Try.ntmps77 rfl (by exact Nat.le_of_ble_eq_true rfl) fun B hB => ?_
  refine go_seq ?_
  refine go_region ⟨_, Try.func77⟩ rfl ?_
  refine q0 rfl (o_assign ?_)
  refine rg_nil ?_
  refine go_seq ?_
  refine go_region ⟨_, Try.func77⟩ rfl ?_
  refine q0 rfl (o_move ?_)
  refine q0 rfl (o_geq ?_)
  refine q0 rfl (o_move ?_)
  refine qI rfl rfl rfl (by conv => lhs; whnf) (fun hg5 => o_move ?_) (fun hg5 => ?_)
  · refine qT rfl rfl rfl (o_lss ?_)
    refine q0 rfl (o_pickT ?_)
    refine q0 rfl (o_assign ?_)
    refine rg_nil ?_
    refine ret1 Try.func77 Try.results77 (by first | ((conv => lhs; whnf); done) | rfl) () (by first | (simp_all; done) | (simp_all; omega)) (fun w hs => hs.none)
  · refine qF rfl rfl rfl ?_
    refine q0 rfl (o_pickF ?_)
    refine q0 rfl (o_assign ?_)
    refine rg_nil ?_
    refine ret1 Try.func77 Try.results77 (by first | ((conv => lhs; whnf); done) | rfl) () (by first | (simp_all; done) | (simp_all; omega)) (fun w hs => hs.none)
theorem maskRight_spec (s : Nat) (hs : s < 4294967296) : Spec Try.prog 111 #[.int .u32 (s : Int)] [] [] (fun _ : Unit => .bool (decide (s < 16777216))) (fun _ => []) (fun _ => []) := by
  refine spec_go (args := [.int .u32 (s : Int)]) Try.func111 Try.ntmps111 rfl (by exact Nat.le_of_ble_eq_true rfl) fun B hB => ?_
  refine go_seq ?_
  refine go_region ⟨_, Try.func111⟩ rfl ?_
  refine q0 rfl (o_assign ?_)
  refine rg_nil ?_
  refine go_seq ?_
  refine go_region ⟨_, Try.func111⟩ rfl ?_
  refine q0 rfl (o_move ?_)
  refine q0 rfl (o_andNotU32 ?_ (b := 16777215))
  refine q0 rfl (o_eqI ?_ (b := 0))
  refine q0 rfl (o_assign ?_)
  refine rg_nil ?_
  refine ret1 Try.func111 Try.results111 (by first | ((conv => lhs; whnf); done) | rfl) () (by rw [andNot_zero hs]) (fun w hs => hs.none)
theorem withoutNone_spec (s : Nat) (hs : s < 4294967296) : Spec Try.prog 76 #[.int .u32 (s : Int), .int .i64 (-1)] [] [] (fun _ : Unit => .int .u32 ((s &&& 16777215 : Nat) : Int)) (fun _ => []) (fun _ => []) := by
  refine spec_go (args := [.int .u32 (s : Int), .int .i64 (-1)]) Try.func76 Try.ntmps76 rfl (by exact Nat.le_of_ble_eq_true rfl) fun B hB => ?_
  refine go_seq ?_
  refine go_region ⟨_, Try.func76⟩ rfl ?_
  refine q0 rfl (o_assign ?_)
  refine rg_nil ?_
  refine go_seq ?_
  refine go_region ⟨_, Try.func76⟩ rfl ?_
  refine q0 rfl (o_move ?_)
  refine q0 rfl (o_andU32 ?_ (b := 16777215))
  refine q0 rfl (o_assign ?_)
  refine rg_nil ?_
  refine go_seq ?_
  refine go_seq ?_
  refine go_region ⟨_, Try.func76⟩ rfl ?_
  refine q0 rfl (o_move ?_)
  refine q0 rfl (o_call Try.call77 (dimension_spec (-1)) (fun x8 => ?_))
  refine q0 rfl (o_not ?_)
  refine rg_nil ?_
  refine go_condI (fun h9 => ?_) (fun h9 => ?_)
  · refine go_seq ?_
    refine go_region ⟨_, Try.func76⟩ rfl ?_
    refine q0 rfl (o_move ?_)
    refine q0 rfl (o_assign ?_)
    refine rg_nil ?_
    refine ret1 Try.func76 Try.results76 (by first | ((conv => lhs; whnf); done) | rfl) () rfl (fun w hs => hs.none)
  · exact absurd h9 (by decide)
theorem fDims_spec : FDims := by
  intro l a
  refine spec_go (args := [sl a l.length]) Try.func59 Try.ntmps59 rfl (by exact Nat.le_of_ble_eq_true rfl) fun B hB => ?_
  refine go_openCL (l := l) (a := a) (fun hl1 hA1 hU1 => ?_)
  refine go_seq ?_
  refine go_region ⟨_, Try.func59⟩ rfl ?_
  refine q0 rfl (o_assign ?_)
  refine rg_nil ?_
  refine go_seq ?_
  refine go_region ⟨_, Try.func59⟩ rfl ?_
  refine q0 rfl (o_assign ?_)
  refine rg_nil ?_
  refine go_seq ?_
  refine go_seq ?_
  refine go_region ⟨_, Try.func59⟩ rfl ?_
  refine q0 rfl (o_move ?_)
  refine q0 rfl (o_len ?_)
  refine q0 rfl (o_move ?_)
  refine rg_nil ?_
  refine go_block ?_
  refine go_loopI (X := Nat) (fun i => i ≤ l.length) (fun i => [(3, .int .u32 (orUpto l i : Int)), (6, sl a l.length), (7, .int .i64 (l.length : Int)), (8, .int .i64 (i : Int))]) (fun i => [CL l a]) (fun i => []) (fun i => l.length - i) (0) (Nat.zero_le _) (by exact ⟨rfl, rfl, rfl, rfl, trivial⟩) ?_ ?_
  · exact fun w hs => hs.less (by simp)
  · intro i base0 hi next0
    refine go_seq ?_
    refine go_region ⟨_, Try.func59⟩ rfl ?_
    refine q0 rfl (o_lss ?_)
    refine rg_nil ?_
    refine go_seq ?_
    refine go_condI (fun h9 => ?_) (fun h9 => ?_)
    · have hlt : i < l.length := by have := of_decide_eq_true h9; omega
      obtain ⟨bk, o, hav⟩ := hA1 (by omega)
      have hu := hU1 _ (getD_mem (d := cl0) hlt)
      have hup := orUpto_lt hU1 i
      have hor : (l.getD i cl0).pos ||| (l.getD i cl0).neg < 4294967296 := Nat.or_lt_two_pow (n := 32) hu.1 hu.2
      refine go_skip ?_
      refine go_seq ?_
      refine go_block ?_
      refine go_seq ?_
      refine go_region ⟨_, Try.func59⟩ rfl ?_
      refine q0 rfl (o_ixN ?_)
      refine q0 rfl (o_ldC ?_)
      refine q0 rfl (o_new fun b5 => ?_)
      refine q0 rfl (o_st ?_)
      refine rg_nil ?_
      refine go_region ⟨_, Try.func59⟩ rfl ?_
      refine q0 rfl (o_move ?_)
      refine q0 rfl (o_fa ?_)
      refine q0 rfl (o_ld ?_)
      refine q0 rfl (o_fa ?_)
      refine q0 rfl (o_ld ?_)
      refine q0 rfl (o_orU32 ?_ (a := (l.getD i cl0).pos) (b := (l.getD i cl0).neg) (ha := hu.1) (hb := hu.2))
      refine q0 rfl (o_orU32 ?_ (a := orUpto l i) (b := (l.getD i cl0).pos ||| (l.getD i cl0).neg))
      refine q0 rfl (o_assign ?_)
      refine rg_nil ?_
      refine go_inBlock ?_
      refine go_region ⟨_, Try.func59⟩ rfl ?_
      refine q0 rfl (o_add ?_)
      refine q0 rfl (o_move ?_)
      refine rg_nil ?_
      refine go_state (fun w hs => ?_) (next0 (i + 1) _ hlt (by omega) ⟨by rw [orUpto_succ hlt]; rfl, rfl, rfl, rfl, trivial⟩)
      exact (hs.less (by simp)).bare
    · have hge : i = l.length := by have := of_decide_eq_false h9; omega
      refine go_exit rfl ?_
      refine go_seq ?_
      refine go_region ⟨_, Try.func59⟩ rfl ?_
      refine q0 rfl (o_move ?_)
      refine q0 rfl (o_call Try.call76 (withoutNone_spec (orUpto l i) (orUpto_lt hU1 i)) (fun x21 => ?_))
      refine q0 rfl (o_assign ?_)
      refine rg_nil ?_
      refine ret1 Try.func59 Try.results59 (by first | ((conv => lhs; whnf); done) | rfl) () (by rw [fDims_eq, ← hge]) (fun w hs => hs.none)
theorem clauseRight_spec (c : Cl) (hc : u32 c) : Spec Try.prog 101 #[.agg (clCells c).toArray] [] [] (fun _ : Unit => .bool (right24 c)) (fun _ => []) (fun _ => []) := by
  refine spec_go (args := [.agg (clCells c).toArray]) Try.func101 Try.ntmps101 rfl (by exact Nat.le_of_ble_eq_true rfl) fun B hB => ?_
  refine go_seq ?_
  refine go_region ⟨_, Try.func101⟩ rfl ?_
  refine q0 rfl (o_box fun b1 => ?_)
  refine q0 rfl (o_assign ?_)
  refine rg_nil ?_
  refine go_seq ?_
  refine go_region ⟨_, Try.func101⟩ rfl ?_
  refine q0 rfl (o_fa ?_)
  refine q0 rfl (o_ld ?_)
  refine q0 rfl (o_call Try.call111 (maskRight_spec c.pos hc.1) (fun x5 => ?_))
  refine q0 rfl (o_move ?_)
  refine qI rfl rfl rfl (by conv => lhs; whnf) (fun hg6 => o_fa ?_) (fun hg6 => ?_)
  · refine qT rfl rfl rfl (o_ld ?_)
    refine qT rfl rfl rfl (o_call Try.call111 (maskRight_spec c.neg hc.2) (fun x9 => ?_))
    refine q0 rfl (o_pickT ?_)
    refine q0 rfl (o_assign ?_)
    refine rg_nil ?_
    refine ret1 Try.func101 Try.results101 (by first | ((conv => lhs; whnf); done) | rfl) () (by first | (simp_all [right24]; done) | (simp_all [right24]; intros; omega)) (fun w hs => hs.none)
  · refine qF rfl rfl rfl ?_
    refine qF rfl rfl rfl ?_
    refine q0 rfl (o_pickF ?_)
    refine q0 rfl (o_assign ?_)
    refine rg_nil ?_
    refine ret1 Try.func101 Try.results101 (by first | ((conv => lhs; whnf); done) | rfl) () (by first | (simp_all [right24]; done) | (simp_all [right24]; intros; omega)) (fun w hs => hs.none)
theorem clash_spec (c : Cl) (hc : u32 c) : Spec Try.prog 95 #[.agg (clCells c).toArray] [] [] (fun _ : Unit => .bool (clash c)) (fun _ => []) (fun _ => []) := by
  refine spec_go (args := [.agg (clCells c).toArray]) Try.func95 Try.ntmps95 rfl (by exact Nat.le_of_ble_eq_true rfl) fun B hB => ?_
  refine go_seq ?_
  refine go_region ⟨_, Try.func95⟩ rfl ?_
  refine q0 rfl (o_box fun b1 => ?_)
  refine q0 rfl (o_assign ?_)
  refine rg_nil ?_
  refine go_seq ?_
  refine go_region ⟨_, Try.func95⟩ rfl ?_
  refine q0 rfl (o_fa ?_)
  refine q0 rfl (o_ld ?_)
  refine q0 rfl (o_fa ?_)
  refine q0 rfl (o_ld ?_)
  refine q0 rfl (o_andU32 ?_ (a := c.pos) (b := c.neg) (ha := hc.1) (hb := hc.2))
  refine q0 rfl (o_neI ?_ (b := 0))
  refine q0 rfl (o_assign ?_)
  refine rg_nil ?_
  refine ret1 Try.func95 Try.results95 (by first | ((conv => lhs; whnf); done) | rfl) () (by simp only [clash]; congr 1; apply decide_eq_decide.mpr; omega) (fun w hs => hs.none)
theorem meet_spec (c d : Cl) (hc : u32 c) (hd : u32 d) : Spec Try.prog 112 #[.agg (clCells c).toArray, .agg (clCells d).toArray] [] [] (fun _ : Unit => .agg (clCells (meetC c d)).toArray) (fun _ => []) (fun _ => []) := by
  refine spec_go (args := [.agg (clCells c).toArray, .agg (clCells d).toArray]) Try.func112 Try.ntmps112 rfl (by exact Nat.le_of_ble_eq_true rfl) fun B hB => ?_
  refine go_seq ?_
  refine go_region ⟨_, Try.func112⟩ rfl ?_
  refine q0 rfl (o_box fun b2 => ?_)
  refine q0 rfl (o_box fun b3 => ?_)
  refine q0 rfl (o_new fun b4 => ?_)
  refine rg_nil ?_
  refine go_seq ?_
  refine go_region ⟨_, Try.func112⟩ rfl ?_
  refine q0 rfl (o_fa ?_)
  refine q0 rfl (o_ld ?_)
  refine q0 rfl (o_fa ?_)
  refine q0 rfl (o_ld ?_)
  refine q0 rfl (o_orU32 ?_ (a := c.pos) (b := d.pos) (ha := hc.1) (hb := hd.1))
  refine q0 rfl (o_fa ?_)
  refine q0 rfl (o_ld ?_)
  refine q0 rfl (o_fa ?_)
  refine q0 rfl (o_ld ?_)
  refine q0 rfl (o_orU32 ?_ (a := c.neg) (b := d.neg) (ha := hc.2) (hb := hd.2))
  refine q0 rfl (o_build (cs := clCells (meetC c d)) ?_)
  refine q0 rfl (o_st ?_)
  refine rg_nil ?_
  refine retC Try.func112 Try.results112 () rfl (by repeat (first | exact List.mem_cons_self | apply List.mem_cons_of_mem)) rfl rfl rfl rfl (fun w hs => hs.none)
theorem below_spec (c d : Cl) (hc : u32 c) (hd : u32 d) : Spec Try.prog 104 #[.agg (clCells c).toArray, .agg (clCells d).toArray] [] [] (fun _ : Unit => .bool (below c d)) (fun _ => []) (fun _ => []) := by
  refine spec_go (args := [.agg (clCells c).toArray, .agg (clCells d).toArray]) Try.func104 Try.ntmps104 rfl (by exact Nat.le_of_ble_eq_true rfl) fun B hB => ?_
  refine go_seq ?_
  refine go_region ⟨_, Try.func104⟩ rfl ?_
  refine q0 rfl (o_box fun b2 => ?_)
  refine q0 rfl (o_box fun b3 => ?_)
  refine q0 rfl (o_assign ?_)
  refine rg_nil ?_
  refine go_seq ?_
  refine go_draw (tn := false) (A := [0, 0, 3, 0, 15, 31]) (l := [0, 1, 3, 2, 4, 5]) (fin := []) Tab.mixed ⟨_, Try.func104⟩ (by rfl) ?_
  refine n0 rfl (v_lds ?_)
  refine n0 rfl (v_lds ?_)
  refine n0 rfl (v_lds ?_)
  refine n0 rfl (v_call Try.call112 (meet_spec c d hc hd) (fun x7 => ?_))
  refine n0 rfl (v_eqC ?_ (c := meetC c d) (c' := c))
  refine n0 rfl (v_assign ?_)
  refine NV.done ?_
  refine rg_nil ?_
  refine ret1 Try.func104 Try.results104 (by first | ((conv => lhs; whnf); done) | rfl) () (by rw [below_meet]) (fun w hs => hs.none)
end Go.Hy
/-
  DERIVED: THE SHELF's CONTRACTS AT THIS DUMP, IN PLAIN WORDS (tools/lay-plain.mjs out of 'TrySort.lean', which tools/lay-shelf.mjs wrote): THE SAME DECLARATIONS UNDER THE SAME NAMES: 'import', 'namespace', 'open', 'def', 'theorem' AND NOTHING ELSE: no command of the shelf's: FOR A HAND-IN. Each laying: the table of numbers ('.._ren') and one theorem, a field a fact of the dump's own or the kernel's comparison; each contract: ONE APPLICATION.
-/
namespace Go.Proofs
set_option linter.unusedVariables false
set_option linter.unusedSimpArgs false
set_option linter.unusedSectionVars false
open Go.Shelf
def Try.sortL_ren : Go.Shelf.Ren := ⟨fun | 6 => 105 | 15 => 114 | 14 => 113 | 28 => 124 | 29 => 125 | 20 => 116 | 21 => 117 | 22 => 118 | 23 => 119 | 24 => 120 | 25 => 121 | 26 => 122 | 27 => 123 | 46 => 127 | 47 => 128 | 48 => 129 | 49 => 130 | 50 => 131 | 57 => 132 | n => n, fun | 22 => 27 | 24 => 72 | 25 => 106 | 3 => 3 | 39 => 47 | 0 => 0 | 53 => 45 | 55 => 43 | 4 => 4 | 46 => 115 | 45 => 114 | 50 => 119 | 5 => 5 | 9 => 9 | 66 => 123 | 70 => 127 | 76 => 129 | 77 => 22 | n => n, fun | n => n⟩
theorem Try.sortL : Go.Proofs.SlLaysF0.n6 Try.prog Try.sortL_ren := {
  mixed := by kernel_rfl
  f6 := ⟨Try.f105.name, by decide, Try.func105.trans (congrArg some (by kernel_rfl))⟩
  f14 := ⟨Try.f113.name, by decide, Try.func113.trans (congrArg some (by kernel_rfl))⟩
  f15 := Try.func114.trans (congrArg some (by kernel_rfl))
  f20 := ⟨Try.f116.name, by decide, Try.func116.trans (congrArg some (by kernel_rfl))⟩
  f21 := ⟨Try.f117.name, by decide, Try.func117.trans (congrArg some (by kernel_rfl))⟩
  f22 := ⟨Try.f118.name, by decide, Try.func118.trans (congrArg some (by kernel_rfl))⟩
  f23 := ⟨Try.f119.name, by decide, Try.func119.trans (congrArg some (by kernel_rfl))⟩
  f24 := ⟨Try.f120.name, by decide, Try.func120.trans (congrArg some (by kernel_rfl))⟩
  f25 := ⟨Try.f121.name, by decide, Try.func121.trans (congrArg some (by kernel_rfl))⟩
  f26 := ⟨Try.f122.name, by decide, Try.func122.trans (congrArg some (by kernel_rfl))⟩
  f27 := ⟨Try.f123.name, by decide, Try.func123.trans (congrArg some (by kernel_rfl))⟩
  f28 := Try.func124.trans (congrArg some (by kernel_rfl))
  f29 := Try.func125.trans (congrArg some (by kernel_rfl))
  f46 := ⟨Try.f127.name, by decide, Try.func127.trans (congrArg some (by kernel_rfl))⟩
  f47 := Try.func128.trans (congrArg some (by kernel_rfl))
  f48 := Try.func129.trans (congrArg some (by kernel_rfl))
  f49 := ⟨Try.f130.name, by decide, Try.func130.trans (congrArg some (by kernel_rfl))⟩
  f50 := ⟨Try.f131.name, by decide, Try.func131.trans (congrArg some (by kernel_rfl))⟩
  f57 := ⟨Try.f132.name, by decide, Try.func132.trans (congrArg some (by kernel_rfl))⟩
  t0 := Try.underlying0
  a0 := Try.isAgg0
  z0 := Try.sizeOf0
  v0 := Try.zeroValue0
  t3 := Try.underlying3
  a3 := Try.isAgg3
  z3 := Try.sizeOf3
  v3 := Try.zeroValue3
  t4 := Try.underlying4
  a4 := Try.isAgg4
  z4 := Try.sizeOf4
  v4 := Try.zeroValue4
  t5 := Try.underlying5
  a5 := Try.isAgg5
  z5 := Try.sizeOf5
  v5 := Try.zeroValue5
  t9 := Try.underlying9
  a9 := Try.isAgg9
  z9 := Try.sizeOf9
  v9 := Try.zeroValue9
  t22 := Try.underlying27
  a22 := Try.isAgg27
  z22 := Try.sizeOf27
  v22 := Try.zeroValue27
  t25 := Try.underlying106
  a25 := Try.isAgg106
  z25 := Try.sizeOf106
  v25 := Try.zeroValue106
  t39 := Try.underlying47
  a39 := Try.isAgg47
  z39 := Try.sizeOf47
  v39 := Try.zeroValue47
  t45 := Try.underlying114
  a45 := Try.isAgg114
  z45 := Try.sizeOf114
  v45 := Try.zeroValue114
  t46 := Try.underlying115
  a46 := Try.isAgg115
  z46 := Try.sizeOf115
  v46 := Try.zeroValue115
  t50 := Try.underlying119
  a50 := Try.isAgg119
  z50 := Try.sizeOf119
  v50 := Try.zeroValue119
  t53 := Try.underlying45
  a53 := Try.isAgg45
  z53 := Try.sizeOf45
  v53 := Try.zeroValue45
  t55 := Try.underlying43
  a55 := Try.isAgg43
  z55 := Try.sizeOf43
  v55 := Try.zeroValue43
  t66 := Try.underlying123
  a66 := Try.isAgg123
  z66 := Try.sizeOf123
  v66 := Try.zeroValue123
  t70 := Try.underlying127
  a70 := Try.isAgg127
  z70 := Try.sizeOf127
  v70 := Try.zeroValue127
  t76 := Try.underlying129
  a76 := Try.isAgg129
  z76 := Try.sizeOf129
  v76 := Try.zeroValue129
  t77 := Try.underlying22
  a77 := Try.isAgg22
  z77 := Try.sizeOf22
  v77 := Try.zeroValue22 }
end Go.Proofs
namespace Go.Hy
set_option linter.unusedVariables false
set_option linter.unusedSimpArgs false
set_option linter.unusedSectionVars false
open Go.Proofs
set_option linter.unusedVariables false
set_option linter.unusedSimpArgs false
set_option maxRecDepth 100000
open Go.Shelf Go.RowKit Go.Lib Go.Sort
theorem isNaN_k (a : Int) (W : World) : Calls Try.prog 126 #[.int .u32 a] W fun e w' => e = .returned (.bool false) ∧ w' = W := by
  go_enter Try.func126, Try.ntmps126
  go_wp2
  go_ret
  exact ⟨by simp, rfl⟩
theorem compare_k (a b : Int) (W : World) : Calls Try.prog 115 #[.int .u32 a, .int .u32 b] W fun e w' => e = .returned (.int .i64 (compareInt a b)) ∧ w' = W := by
  go_enter Try.func115, Try.ntmps115
  go_wp2_with (go_at_call 126; refine (isNaN_k _ _).mono ?_; rintro e w' ⟨rfl, rfl⟩)
  all_goals (go_ret; refine ⟨?_, rfl⟩; unfold Lib.compareInt; (repeat' split) <;> first | rfl | (exfalso; omega))
def cmpC (c d : Cl) : Int := if c.pos = d.pos then compareInt c.neg d.neg else compareInt c.pos d.pos
set_option maxHeartbeats 1000000 in
theorem cmp_k (c d : Cl) (W : World) : Calls Try.prog 106 #[.agg #[.int .u32 c.pos, .int .u32 c.neg], .agg #[.int .u32 d.pos, .int .u32 d.neg]] W fun e w' => e = .returned (.int .i64 (cmpC c d)) ∧ ∃ q os', w' = grow (W.drewN q) os' := by
  have hcon := fun a b W' => compare_k a b W'
  have e1 : cmpC c d = if (c.pos : Int) = d.pos then compareInt c.neg d.neg else compareInt c.pos d.pos := by unfold cmpC; simp only [Int.ofNat_inj]
  generalize hr : cmpC c d = r at e1 ⊢
  go_enter Try.func106, Try.ntmps106
  go_wp2_with (go_at_call 115; refine (hcon _ _ _).mono ?_; rintro e w' ⟨rfl, rfl⟩)
  all_goals (go_ret; refine ⟨?_, 0, _, by rw [alloc_eq_grow, alloc_eq_grow, grow_grow]; rfl⟩)
  all_goals (rw [e1]; simp_all)
/-! ### The order of clauses -/
instance : Inhabited Cl := ⟨cl0⟩
theorem cmp_lt (c d : Cl) : ltOf cmpC c d = lessC c d := by
  unfold ltOf cmpC lessC compareInt
  by_cases h : c.pos = d.pos
  · simp only [h, if_true]
    by_cases h2 : c.neg < d.neg
    · rw [if_pos (by omega)]; simp [h2]
    · rw [if_neg (by omega)]
      split <;> simp [h2]
  · simp only [h, if_false]
    by_cases h2 : c.pos < d.pos
    · rw [if_pos (by omega)]; simp [h2]
    · rw [if_neg (by omega), if_pos (by omega)]
      simp [h2]
theorem cmp_swo : SWO (ltOf cmpC) where
  irrefl x := by rw [cmp_lt]; simp [lessC]
  trans x y z h1 h2 := by
    rw [cmp_lt] at *
    simp only [lessC, Bool.or_eq_true, Bool.and_eq_true, decide_eq_true_eq] at *
    omega
  ntrans x y z h1 h2 := by
    rw [cmp_lt] at *
    simp only [lessC, Bool.or_eq_false_iff, Bool.and_eq_false_iff, decide_eq_false_iff_not] at *
    omega
theorem flatK_toList (d : Array Cl) : (flatK clCells 2 d).toList = clFlat d.toList := by
  apply List.ext_getElem?
  intro t
  have hl : (clFlat d.toList).length = d.size * 2 := by rw [flat_len clCells_len]; simp
  by_cases ht : t < d.size * 2
  · have h1 : (flatK clCells 2 d).toList[t]? = some (clCells d[t / 2]!)[t % 2]! := by
      have hs : t < (flatK clCells 2 d).size := by rw [size_flatK]; exact ht
      rw [Array.getElem?_toList, Array.getElem?_eq_getElem hs]
      have := get_flatK clCells 2 d t ht
      rw [getElem!_pos _ t hs] at this
      rw [this]
    rw [h1]
    have hd : t / 2 < d.toList.length := by simp; omega
    have e : d.toList.getD (t / 2) cl0 = d[t / 2]! := by
      have : t / 2 < d.size := by simpa using hd
      rw [getElem!_pos d (t / 2) this, List.getD_eq_getElem?_getD, List.getElem?_eq_getElem hd]; simp
    have h2 : (clCells (d.toList.getD (t / 2) cl0))[t % 2]? = some (clCells d[t / 2]!)[t % 2]! := by
      rw [e]
      have : t % 2 < (clCells d[t / 2]!).length := by rw [clCells_len]; omega
      rw [List.getElem?_eq_getElem this, getElem!_pos (clCells d[t / 2]!) (t % 2) this]
    have := flat_at clCells_len cl0 d.toList (t / 2) (t % 2) _ hd h2
    rw [show t / 2 * 2 + t % 2 = t by omega] at this
    exact this.symm
  · rw [List.getElem?_eq_none (by simp; omega), List.getElem?_eq_none (by omega)]
theorem put_cells (d : Array Cl) (l : List Cl) (rest : List Value) (hs : d.size = l.length) : putCells id 0 (flatK clCells 2 d) (clFlat l ++ rest).toArray = (clFlat d.toList ++ rest).toArray := by
  apply Array.ext_getElem?
  intro t
  have hl : (clFlat l).length = d.size * 2 := by rw [flat_len clCells_len, hs]
  have hl2 : (clFlat d.toList).length = d.size * 2 := by rw [flat_len clCells_len]; simp
  simp only [putCells, Array.getElem?_mapIdx, List.getElem?_toArray, size_flatK, Nat.zero_add, Nat.zero_le, true_and, Nat.sub_zero, id]
  by_cases ht : t < d.size * 2
  · rw [List.getElem?_append_left (by omega), List.getElem?_append_left (by omega)]
    have h1 : (clFlat d.toList)[t]? = some (flatK clCells 2 d)[t]! := by
      rw [← flatK_toList, Array.getElem?_toList]
      have hsz : t < (flatK clCells 2 d).size := by rw [size_flatK]; exact ht
      rw [Array.getElem?_eq_getElem hsz, getElem!_pos _ t hsz]
    rw [h1]
    obtain ⟨v, hv⟩ : ∃ v, (clFlat l)[t]? = some v := ⟨_, List.getElem?_eq_getElem (by omega)⟩
    rw [hv, Option.map_some, if_pos ht]
  · rw [List.getElem?_append_right (by omega), List.getElem?_append_right (by omega), hl, hl2]
    cases rest[t - d.size * 2]? with
    | none => rfl
    | some v => rw [Option.map_some, if_neg ht]
/-- slices.SortFunc at clauses, by clause.Cmp: a row of the caller's own. -/
theorem sort_spec (l : List Cl) (g cap : Nat) (rest : List Value) (hn : l.length < 4611686018427387904) :
    Spec Try.prog 105 #[.slice (some ⟨g, 0, none⟩) l.length cap, .func (.func 106) #[] #[]] [] [boxR g (clFlat l ++ rest) 72] (fun _ : {l' : List Cl // l'.Perm l ∧ l'.Pairwise fun a b => lessC b a = false} => .tuple #[]) (fun _ => []) (fun x => [boxR g (clFlat x.1 ++ rest) 72]) := by
  intro ok w hok hs
  have hg : w.heap[g]? = some (.cells (clFlat l ++ rest).toArray 72 (0, 0)) := hs.res _ List.mem_cons_self w (fun _ _ => rfl)
  have hlt : g < w.heap.size := (Array.getElem?_eq_some_iff.mp hg).1
  have hu : Try.prog.underlying 72 = some (.struct (TyF.fC Try.prog)) := TyF.uC
  have aE : ∀ w, (isAgg (Try.sortL_ren.t 24)).run Try.prog w = .ok true w := fun w => by
    show (isAgg 72).run Try.prog w = _
    simp [isAgg, run_underlying hu]
  have zE : ∀ w, (Go.sizeOf (Try.sortL_ren.t 24)).run Try.prog w = .ok 2 w := fun w => run_size0 (P := Try.prog) (t := 72) rfl w
  have hH : HoldsK clCells 2 w g 0 l.toArray := by
    intro j hj
    rw [size_flatK] at hj
    have e : (flatK clCells 2 l.toArray).toList = clFlat l := by rw [flatK_toList]
    have hsz : j < (flatK clCells 2 l.toArray).size := by rw [size_flatK]; exact hj
    have h1 : (clFlat l)[j]? = some (flatK clCells 2 l.toArray)[j]! := by
      rw [← e, Array.getElem?_toList, Array.getElem?_eq_getElem hsz, getElem!_pos _ j hsz]
    refine ⟨?_, by simp [World.frozen?, hg]⟩
    have hlen : j < (clFlat l).length := (List.getElem?_eq_some_iff.mp h1).1
    simp only [World.cell?, hg, Nat.zero_add, Option.isSome_none, Bool.false_eq_true, if_false, List.getElem?_toArray, id]
    rw [List.getElem?_append_left hlen]; exact h1
  have hc := AnyQ.slices_SortFunc (P := Try.prog) Try.sortL 2 aE zE clCells clCells_len (fun x v hv => by
      simp only [clCells, List.mem_cons, List.not_mem_nil, or_false] at hv; rcases hv with rfl | rfl <;> rfl) cmpC cmp_swo 106 #[] g 0 cap l.toArray w Try.call106
    (fun m os dk hsz x y => cmp_k x y _) hH hlt (by simpa using hn)
  have hc2 : Calls Try.prog 105 #[.slice (some ⟨g, 0, none⟩) l.length cap, .func (.func 106) #[] #[]] w _ := hc
  refine hc2.mono ?_
  rintro e w' ⟨he, d', n, os, hp, hsd, hw⟩
  have hsize : d'.size = l.length := by simpa using hp.1
  have hperm : d'.toList.Perm l := by
    have := hp.2.2
    have e1 : d'.extract 0 l.toArray.size = d' := by rw [show l.toArray.size = d'.size by simp [hsize]]; simp
    have e2 : l.toArray.extract 0 l.toArray.size = l.toArray := by simp
    rw [e1, e2] at this
    exact this
  have hsorted : d'.toList.Pairwise fun a b => lessC b a = false := by
    rw [List.pairwise_iff_getElem]
    intro i j hi hj hij
    have hi' : i < d'.size := by simpa using hi
    have hj' : j < d'.size := by simpa using hj
    have := hsd i j (Nat.zero_le _) hij (by simp; omega)
    rw [cmp_lt, getElem!_pos d' j hj', getElem!_pos d' i hi'] at this
    simpa using this
  have hg' : w'.heap[g]? = some (.cells (clFlat d'.toList ++ rest).toArray 72 (0, 0)) := by
    rw [hw]
    show ((mapBlock (Go.Sort.ahead w n) g (putCells id 0 (flatK clCells 2 d'))).heap ++ os)[g]? = _
    rw [Array.getElem?_append_left (by simp [mapBlock, Go.Sort.ahead]; exact hlt)]
    simp only [mapBlock, Go.Sort.ahead, Array.getElem?_modify, if_true, hg, Option.map_some, onCells]
    rw [put_cells d' l rest hsize]
  have hold : ∀ b, b < w.heap.size → b ≠ g → w'.heap[b]? = w.heap[b]? := by
    intro b hb hne
    rw [hw]
    show ((mapBlock (Go.Sort.ahead w n) g (putCells id 0 (flatK clCells 2 d'))).heap ++ os)[b]? = _
    rw [Array.getElem?_append_left (by simp [mapBlock, Go.Sort.ahead]; exact hb)]
    simp only [mapBlock, Go.Sort.ahead, Array.getElem?_modify, if_neg (Ne.symm hne)]
  have hsz' : w.heap.size ≤ w'.heap.size := by rw [hw]; simp [sortWorldK, putRowK, Go.Sort.ahead]
  refine ⟨⟨d'.toList, hperm, hsorted⟩, he, ?_⟩
  have h0 : St ⟨ok, domAll [boxR g (clFlat l ++ rest) 72], w⟩ [] ([boxR g (clFlat l ++ rest) 72]) w := hs
  refine h0.turn (m' := boxR g (clFlat d'.toList ++ rest) 72) ⟨by rw [hw]; rfl, by rw [hw]; rfl, by rw [hw]; rfl, hsz', fun b hb hn => hold b hb hn⟩ (fun w2 hw2 => by
    show w2.heap[g]? = _
    rw [hw2 g rfl]; exact hg') (fun b hb => ?_)
  have hb : b = g := hb
  subst hb
  exact ⟨by omega, .inl rfl⟩
end Go.Hy
namespace Go.Hy
set_option linter.unusedVariables false
set_option linter.unusedSimpArgs false
set_option linter.unusedSectionVars false
open Go.Proofs
set_option linter.unusedVariables false
set_option linter.unusedSimpArgs false
set_option maxRecDepth 100000
theorem permNil {M : List Res} : M.Perm (M ++ []) := by rw [List.append_nil]
theorem index_spec (l : List Cl) (a : SH) (c : FuncId) (cap : List Value) (FΓ : List Fact) (M : List Res) (g : Cl → Bool) (hc : ∀ (args : Array Value) (w : World), (callFunc c args).run Try.prog w = .ok (.enter c args) w) (hcl : ∀ x, x ∈ l → Spec Try.prog c (keyV x :: cap).toArray FΓ M (fun _ : Unit => .bool (g x)) (fun _ => []) (fun _ => M)) : Spec Try.prog 107 #[sl a l.length, .func (.func c) #[] cap.toArray] (CL l a :: FΓ) M (fun _ : Unit => .int .i64 (idxP g l)) (fun _ => []) (fun _ => M) := by
  refine spec_go (args := [sl a l.length, .func (.func c) #[] cap.toArray]) Try.func107 Try.ntmps107 rfl (by exact Nat.le_of_ble_eq_true rfl) fun B hB => ?_
  refine go_openCL (l := l) (a := a) (fun hl1 hA1 hU1 => ?_)
  refine go_seq ?_
  refine go_region ⟨_, Try.func107⟩ rfl ?_
  refine q0 rfl (o_assign ?_)
  refine rg_nil ?_
  refine go_seq ?_
  refine go_seq ?_
  refine go_region ⟨_, Try.func107⟩ rfl ?_
  refine q0 rfl (o_move ?_)
  refine q0 rfl (o_len ?_)
  refine q0 rfl (o_move ?_)
  refine rg_nil ?_
  refine go_block ?_
  refine go_loopI (X := Nat) (fun i => i ≤ l.length ∧ ∀ j, j < i → g (l.getD j cl0) = false) (fun i => [(0, sl a l.length), (1, .func (.func c) #[] cap.toArray), (7, .int .i64 (l.length : Int)), (8, .int .i64 (i : Int))]) (fun i => CL l a :: FΓ) (fun i => M) (fun i => l.length - i) (0) (⟨Nat.zero_le _, fun j hj => by omega⟩) (by exact ⟨rfl, rfl, rfl, rfl, trivial⟩) ?_ ?_
  · exact fun w hs => hs
  · intro i base0 ⟨hi, hok⟩ next0
    refine go_seq ?_
    refine go_region ⟨_, Try.func107⟩ rfl ?_
    refine q0 rfl (o_lss ?_)
    refine rg_nil ?_
    refine go_seq ?_
    refine go_condI (fun h9 => ?_) (fun h9 => ?_)
    · have hlt : i < l.length := by have := of_decide_eq_true h9; omega
      obtain ⟨bk, o, hav⟩ := hA1 (by omega)
      refine go_skip ?_
      refine go_seq ?_
      refine go_block ?_
      refine go_seq ?_
      refine go_region ⟨_, Try.func107⟩ rfl ?_
      refine q0 rfl (o_move ?_)
      refine q0 rfl (o_assign ?_)
      refine rg_nil ?_
      refine go_seq ?_
      refine go_region ⟨_, Try.func107⟩ rfl ?_
      refine q0 rfl (o_move ?_)
      refine q0 rfl (o_move ?_)
      refine q0 rfl (o_move ?_)
      refine q0 rfl (o_ixN ?_)
      refine q0 rfl (o_ldC ?_)
      refine q0 rfl (o_callC hc (hcl _ (getD_mem hlt)) (cap := cap) (fun x16 => ?_) (hm := permNil))
      refine rg_nil ?_
      refine go_condI (fun h16 => ?_) (fun h16 => ?_)
      · refine go_seq ?_
        refine go_region ⟨_, Try.func107⟩ rfl ?_
        refine q0 rfl (o_move ?_)
        refine q0 rfl (o_assign ?_)
        refine rg_nil ?_
        refine ret1 Try.func107 Try.results107 (by first | ((conv => lhs; whnf); done) | rfl) () (by rw [idxP_at hlt h16 hok]) (fun w hs => (hs.less (by simp)).dropR)
      · refine go_skip ?_
        refine go_inBlock ?_
        refine go_region ⟨_, Try.func107⟩ rfl ?_
        refine q0 rfl (o_add ?_)
        refine q0 rfl (o_move ?_)
        refine rg_nil ?_
        refine go_state (fun w hs => ?_) (next0 (i + 1) _ ⟨hlt, fun j hj => (by rcases Nat.lt_succ_iff_lt_or_eq.mp hj with h | h; exact hok j h; subst h; exact h16)⟩ (by omega) ⟨rfl, rfl, rfl, rfl, trivial⟩)
        exact (hs.less (by simp +contextual)).dropR
    · have hge : i = l.length := by have := of_decide_eq_false h9; omega
      refine go_exit rfl ?_
      refine go_seq ?_
      refine go_region ⟨_, Try.func107⟩ rfl ?_
      refine q0 rfl (o_assign ?_)
      refine rg_nil ?_
      refine ret1 Try.func107 Try.results107 (by first | ((conv => lhs; whnf); done) | rfl) () (by rw [idxP_none (by rw [← hge]; exact hok)]) (fun w hs => hs.less (by simp))
theorem contains_spec (l : List Cl) (a : SH) (c : FuncId) (cap : List Value) (FΓ : List Fact) (M : List Res) (g : Cl → Bool) (hc : ∀ (args : Array Value) (w : World), (callFunc c args).run Try.prog w = .ok (.enter c args) w) (hcl : ∀ x, x ∈ l → Spec Try.prog c (keyV x :: cap).toArray FΓ M (fun _ : Unit => .bool (g x)) (fun _ => []) (fun _ => M)) : Spec Try.prog 94 #[sl a l.length, .func (.func c) #[] cap.toArray] (CL l a :: FΓ) M (fun _ : Unit => .bool (l.any g)) (fun _ => []) (fun _ => M) := by
  refine spec_go (args := [sl a l.length, .func (.func c) #[] cap.toArray]) Try.func94 Try.ntmps94 rfl (by exact Nat.le_of_ble_eq_true rfl) fun B hB => ?_
  refine go_seq ?_
  refine go_region ⟨_, Try.func94⟩ rfl ?_
  refine q0 rfl (o_assign ?_)
  refine rg_nil ?_
  refine go_seq ?_
  refine go_region ⟨_, Try.func94⟩ rfl ?_
  refine q0 rfl (o_move ?_)
  refine q0 rfl (o_move ?_)
  refine q0 rfl (o_call Try.call107 (index_spec l a c cap FΓ M g hc hcl) (fun x7 => ?_) (hm := permNil))
  refine q0 rfl (o_geq ?_)
  refine q0 rfl (o_assign ?_)
  refine rg_nil ?_
  refine ret1 Try.func94 Try.results94 (by first | ((conv => lhs; whnf); done) | rfl) () (by rw [idxP_nonneg]) (fun w hs => (hs.less (by simp)).dropR)
theorem least11_spec (c d : Cl) (hc : u32 c) (hd : u32 d) (b : Nat) : Spec Try.prog 103 #[keyV d, .pointer (some ⟨b, 0, none⟩)] [] [boxR b (clCells c) 72] (fun _ : Unit => .bool (!decide (c = d) && below c d)) (fun _ => []) (fun _ => [boxR b (clCells c) 72]) := by
  refine spec_go (args := [keyV d, .pointer (some ⟨b, 0, none⟩)]) Try.func103 Try.ntmps103 rfl (by exact Nat.le_of_ble_eq_true rfl) fun B hB => ?_
  refine go_seq ?_
  refine go_region ⟨_, Try.func103⟩ rfl ?_
  refine q0 rfl (o_box fun b2 => ?_)
  refine q0 rfl (o_assign ?_)
  refine rg_nil ?_
  refine go_seq ?_
  refine go_region ⟨_, Try.func103⟩ rfl ?_
  refine q0 rfl (o_lds ?_)
  refine q0 rfl (o_lds ?_)
  refine q0 rfl (o_neC ?_ (c := c) (c' := d))
  refine q0 rfl (o_move ?_)
  refine qI rfl rfl rfl (by conv => lhs; whnf) (fun hg7 => o_lds ?_) (fun hg7 => ?_)
  · refine qT rfl rfl rfl (o_lds ?_)
    refine qT rfl rfl rfl (o_call Try.call104 (below_spec c d hc hd) (fun x10 => ?_))
    refine q0 rfl (o_pickT ?_)
    refine q0 rfl (o_assign ?_)
    refine rg_nil ?_
    refine ret1 Try.func103 Try.results103 (by first | ((conv => lhs; whnf); done) | rfl) () (by simp_all) (fun w hs => (hs.less (by simp)).drop)
  · refine qF rfl rfl rfl ?_
    refine qF rfl rfl rfl ?_
    refine q0 rfl (o_pickF ?_)
    refine q0 rfl (o_assign ?_)
    refine rg_nil ?_
    refine ret1 Try.func103 Try.results103 (by first | ((conv => lhs; whnf); done) | rfl) () (by simp_all) (fun w hs => (hs.less (by simp)).drop)
theorem least1_spec (l : List Cl) (a : SH) (c : Cl) (hc : u32 c) (b : Nat) : Spec Try.prog 102 #[keyV c, .pointer (some ⟨b, 0, none⟩)] [CL l a] [boxR b [sl a l.length] 27] (fun _ : Unit => .bool (needless l c)) (fun _ => []) (fun _ => [boxR b [sl a l.length] 27]) := by
  refine spec_go (args := [keyV c, .pointer (some ⟨b, 0, none⟩)]) Try.func102 Try.ntmps102 rfl (by exact Nat.le_of_ble_eq_true rfl) fun B hB => ?_
  refine go_openCL (l := l) (a := a) (fun hl1 hA1 hU1 => ?_)
  refine go_seq ?_
  refine go_region ⟨_, Try.func102⟩ rfl ?_
  refine q0 rfl (o_box fun b2 => ?_)
  refine q0 rfl (o_assign ?_)
  refine rg_nil ?_
  refine go_seq ?_
  refine go_region ⟨_, Try.func102⟩ rfl ?_
  refine q0 rfl (o_ld ?_)
  refine q0 rfl (o_func ?_)
  refine q0 rfl (o_call Try.call94 (contains_spec l a 103 [.pointer (some ⟨b2, 0, none⟩)] [] [boxR b2 (clCells c) 72] (fun d => !decide (c = d) && below c d) Try.call103 (fun d hd => least11_spec c d hc (hU1 d hd) b2)) (fun x6 => ?_))
  refine q0 rfl (o_assign ?_)
  refine rg_nil ?_
  refine ret1 Try.func102 Try.results102 (by first | ((conv => lhs; whnf); done) | rfl) () rfl (fun w hs => (hs.less (by simp)).drop)
end Go.Hy
namespace Go.Hy
set_option linter.unusedVariables false
set_option linter.unusedSimpArgs false
set_option linter.unusedSectionVars false
open Go.Proofs
set_option linter.unusedVariables false
set_option linter.unusedSimpArgs false
set_option maxRecDepth 100000
theorem clFlat_snoc (l : List Cl) (c : Cl) : clFlat (l ++ [c]) = clFlat l ++ clCells c := by simp [clFlat]
/-- slices.SortFunc at a row of the call's own. -/
theorem sortRow_spec (l : List Cl) (a : SH) (n : Nat) (hn : n = l.length) (hb : n * 8 ≤ reach) :
    Spec Try.prog 105 #[sl a n, .func (.func 106) #[] #[]] [] [rowS 2 72 a n (clFlat l)] (fun _ : {l' : List Cl // SortOf l l'} => .tuple #[]) (fun _ => []) (fun x => [rowS 2 72 a n (clFlat x.1)]) := by
  subst hn
  intro ok w hok hs
  have hown : w.ownsRow 0 72 2 (sl a l.length) l.length (clFlat l) := hs.res _ List.mem_cons_self w (fun _ _ => rfl)
  rcases hown.2 with ⟨h1, h2⟩ | ⟨g, cap, cur, h1, h2, h3, h4, h5, h6, h7⟩
  · have hl : l = [] := List.eq_nil_of_length_eq_zero h2
    subst hl
    have hc := AnyF.slices_SortFunc_none (P := Try.prog) Try.sortL a.1 a.2 (.func (.func 106) #[] #[]) w
    have hc2 : Calls Try.prog 105 #[sl a 0, .func (.func 106) #[] #[]] w _ := hc
    refine hc2.mono ?_
    rintro e w' ⟨he, hw⟩
    subst hw
    exact ⟨⟨[], List.Perm.refl _, List.Pairwise.nil⟩, he, hs⟩
  · obtain ⟨ao, ac⟩ := a
    have e1 : ao = some ⟨g, 0, none⟩ := by injection h1
    have e2 : ac = cap := by injection h1
    subst e1; subst e2
    have hfl : cur.toList = clFlat l ++ cur.toList.drop (l.length * 2) := by
      have := List.take_append_drop (l.length * 2) cur.toList
      rw [h7] at this; exact this.symm
    have hbox : St ⟨ok, domAll [rowS 2 72 (some ⟨g, 0, none⟩, ac) l.length (clFlat l)], w⟩ [] [boxR g (clFlat l ++ cur.toList.drop (l.length * 2)) 72] w := by
      refine hs.turn (m' := boxR g (clFlat l ++ cur.toList.drop (l.length * 2)) 72) (Chg.refl _ _) (fun w2 hw2 => ?_) (fun b hb => ?_)
      · show w2.heap[g]? = _
        rw [hw2 g rfl, ← hfl, Array.toArray_toList]; exact h3
      · have hb : b = g := hb
        subst hb
        exact ⟨(Array.getElem?_eq_some_iff.mp h3).1, .inl rfl⟩
    have hdom : ∀ b, domAll [rowS 2 72 (some ⟨g, 0, none⟩, ac) l.length (clFlat l)] b ↔ domAll [boxR g (clFlat l ++ cur.toList.drop (l.length * 2)) 72] b := by
      intro b
      rw [domAll_cons, domAll_cons]
      have : (rowS 2 72 (some ⟨g, 0, none⟩, ac) l.length (clFlat l)).dom b ↔ b = g := by
        show (sl (some ⟨g, 0, none⟩, ac) l.length).ownBlock = some b ↔ b = g
        simp only [sl, Value.ownBlock, Option.some.injEq]
        exact eq_comm
      rw [this]; rfl
    have hd2 : domAll [rowS 2 72 (some ⟨g, 0, none⟩, ac) l.length (clFlat l)] = domAll [boxR g (clFlat l ++ cur.toList.drop (l.length * 2)) 72] := funext fun b => propext (hdom b)
    rw [hd2] at hbox
    refine (sort_spec l g ac (cur.toList.drop (l.length * 2)) (by unfold reach at hb; omega) ok w (fun b hb => ⟨(hok b hb).1, by rw [← hd2]; exact (hok b hb).2⟩) hbox).mono ?_
    rintro e w' ⟨x, he, hs'⟩
    refine ⟨⟨x.1, x.2.1, x.2.2⟩, he, ?_⟩
    rw [hd2]
    have hlen : x.1.length = l.length := x.2.1.length_eq
    have hg : w'.heap[g]? = some (.cells (clFlat x.1 ++ cur.toList.drop (l.length * 2)).toArray 72 (0, 0)) := hs'.res _ List.mem_cons_self w' (fun _ _ => rfl)
    have hfl2 : (clFlat x.1).length = l.length * 2 := by rw [flat_len clCells_len, hlen]
    refine hs'.turn (m' := rowS 2 72 (some ⟨g, 0, none⟩, ac) l.length (clFlat x.1)) (Chg.refl _ _) (fun w2 hw2 => ⟨hfl2, .inr ⟨g, ac, (clFlat x.1 ++ cur.toList.drop (l.length * 2)).toArray, rfl, Nat.zero_le _, ?_, h4, h5, ?_, ?_⟩⟩) (fun b hb => ?_)
    · rw [hw2 g rfl]; exact hg
    · have h8 : cur.toList.length = ac * 2 := by simpa using h6
      simp only [List.size_toArray, List.length_append, List.length_drop, hfl2, h8]
      omega
    · rw [← hfl2, List.take_left]
    · have hb : (sl (some ⟨g, 0, none⟩, ac) l.length).ownBlock = some b := hb
      simp only [sl, Value.ownBlock, Option.some.injEq] at hb
      subst hb
      exact ⟨(Array.getElem?_eq_some_iff.mp hg).1, .inl rfl⟩
theorem least_spec (l : List Cl) (a : SH) : Spec Try.prog 93 #[sl a l.length] [CL l a] [] (fun x : {x : SH × Int × List Cl // LeastIs l x.2} => .tuple #[sl x.1.1 x.1.2.2.length, .int .i64 x.1.2.1]) (fun x => [CL x.1.2.2 x.1.1]) (fun _ => []) := by
  refine spec_go (args := [sl a l.length]) Try.func93 Try.ntmps93 rfl (by exact Nat.le_of_ble_eq_true rfl) fun B hB => ?_
  refine go_openCL (l := l) (a := a) (fun hl1 hA1 hU1 => ?_)
  refine go_seq ?_
  refine go_region ⟨_, Try.func93⟩ rfl ?_
  refine q0 rfl (o_assign ?_)
  refine q0 rfl (o_assign ?_)
  refine rg_nil ?_
  refine go_seq ?_
  refine go_region ⟨_, Try.func93⟩ rfl ?_
  refine q0 rfl (o_makeMap fun b12 => ?_)
  refine q0 rfl (o_assign ?_)
  refine rg_nil ?_
  refine go_seq ?_
  refine go_region ⟨_, Try.func93⟩ rfl ?_
  refine q0 rfl (o_new fun b5 => ?_)
  refine rg_nil ?_
  refine go_seq ?_
  refine go_seq ?_
  refine go_region ⟨_, Try.func93⟩ rfl ?_
  refine q0 rfl (o_move ?_)
  refine q0 rfl (o_len ?_)
  refine q0 rfl (o_move ?_)
  refine rg_nil ?_
  refine go_block ?_
  refine go_loopI (X := Nat × SH) (fun s => s.1 ≤ l.length ∧ ∀ j, j < s.1 → right24 (l.getD j cl0) = true) (fun s => [(4, .map (some b12)), (5, .pointer (some ⟨b5, 0, none⟩)), (13, sl a l.length), (14, .int .i64 (l.length : Int)), (15, .int .i64 (s.1 : Int))]) (fun s => [CL l a]) (fun s => [mapR b12 (once (l.take s.1)), boxR b5 [sl s.2 (once (l.take s.1)).length] 27, rowS 2 72 s.2 (once (l.take s.1)).length (clFlat (once (l.take s.1)))]) (fun s => l.length - s.1) ((0, (none, 0))) (⟨Nat.zero_le _, fun j hj => absurd hj (Nat.not_lt_zero _)⟩) (by exact ⟨rfl, rfl, rfl, rfl, rfl, trivial⟩) ?_ ?_
  · exact fun w hs => ((hs.less (by simp)).rowS0 2 72).perm (perm2.trans ((List.Perm.swap _ _ _).cons _))
  · intro ⟨i, aO⟩ base0 ⟨hi, hok⟩ next0
    dsimp only at hi hok next0 ⊢
    refine go_seq ?_
    refine go_region ⟨_, Try.func93⟩ rfl ?_
    refine q0 rfl (o_lss ?_)
    refine rg_nil ?_
    refine go_seq ?_
    refine go_condI (fun h16 => ?_) (fun h16 => ?_)
    · have hlt : i < l.length := by have := of_decide_eq_true h16; omega
      obtain ⟨bk, o, hav⟩ := hA1 (by omega)
      have hu := hU1 _ (getD_mem (d := cl0) hlt)
      have hol := once_take_len l i
      refine go_skip ?_
      refine go_seq ?_
      refine go_block ?_
      refine go_seq ?_
      refine go_region ⟨_, Try.func93⟩ rfl ?_
      refine q0 rfl (o_ixN ?_)
      refine q0 rfl (o_ldC ?_)
      refine q0 rfl (o_new fun b7 => ?_)
      refine q0 rfl (o_st ?_)
      refine rg_nil ?_
      refine go_seq ?_
      refine go_seq ?_
      refine go_region ⟨_, Try.func93⟩ rfl ?_
      refine q0 rfl (o_lds ?_)
      refine q0 rfl (o_call Try.call101 (clauseRight_spec (l.getD i cl0) hu) (fun x20 => ?_))
      refine q0 rfl (o_not ?_)
      refine rg_nil ?_
      refine go_condI (fun h21 => ?_) (fun h21 => ?_)
      · have hr : right24 (l.getD i cl0) = false := by simpa using h21
        refine go_seq ?_
        refine go_region ⟨_, Try.func93⟩ rfl ?_
        refine q0 rfl (o_assign ?_)
        refine q0 rfl (o_assign ?_)
        refine rg_nil ?_
        refine ret2 Try.func93 Try.results93 (by first | ((conv => lhs; whnf); done) | rfl) (by first | ((conv => lhs; whnf); done) | rfl) ⟨((none, 0), 2, []), by (unfold LeastIs; rw [all_not hlt hr]; rfl)⟩ rfl (fun w hs => (hs.nilCL 0).bare.less (by simp))
      · have hr : right24 (l.getD i cl0) = true := by simpa using h21
        refine go_skip ?_
        refine go_seq ?_
        refine go_region ⟨_, Try.func93⟩ rfl ?_
        refine q0 rfl (o_move ?_)
        refine q0 rfl (o_lds ?_)
        refine q0 rfl (o_lookupM ?_)
        refine q0 rfl (o_not ?_)
        refine rg_nil ?_
        refine go_condI (fun h25 => ?_) (fun h25 => ?_)
        · have hnin : l.getD i cl0 ∉ once (l.take i) := by simpa using h25
          refine go_seq ?_
          refine go_region ⟨_, Try.func93⟩ rfl ?_
          refine q0 rfl (o_move ?_)
          refine q0 rfl (o_lds ?_)
          refine q0 rfl (o_mapUpd ?_)
          refine rg_nil ?_
          refine go_region ⟨_, Try.func93⟩ rfl ?_
          refine q0 rfl (o_ld ?_)
          refine q0 rfl (o_lds ?_)
          refine q0 rfl (o_lit1 fun b30 => ?_)
          refine q0 rfl (o_appS (fun a31 => ?_)  )
          refine q0 rfl (o_st ?_)
          refine rg_nil ?_
          refine go_inBlock ?_
          refine go_region ⟨_, Try.func93⟩ rfl ?_
          refine q0 rfl (o_add ?_)
          refine q0 rfl (o_move ?_)
          refine rg_nil ?_
          have hst := once_take_succ hlt
          rw [if_neg hnin] at hst
          have hlen' : (once (l.take (i + 1))).length = (once (l.take i)).length + 1 := by rw [hst]; simp
          refine go_state (fun w hs => ?_) (next0 (i + 1, a31) _ ⟨hlt, fun j hj => (by rcases Nat.lt_succ_iff_lt_or_eq.mp hj with h | h; exact hok j h; subst h; exact hr)⟩ (by simp only; omega) ⟨rfl, rfl, rfl, rfl, rfl, trivial⟩)
          dsimp only
          rw [hlen', hst, clFlat_snoc]
          exact ((hs.less (by simp)).perm perm3).dropR (A := [_, _, _])
        · refine go_skip ?_
          refine go_inBlock ?_
          refine go_region ⟨_, Try.func93⟩ rfl ?_
          refine q0 rfl (o_add ?_)
          refine q0 rfl (o_move ?_)
          refine rg_nil ?_
          have hin : l.getD i cl0 ∈ once (l.take i) := by simpa using h25
          have hst := once_take_succ hlt
          rw [if_pos hin] at hst
          refine go_state (fun w hs => ?_) (next0 (i + 1, aO) _ ⟨hlt, fun j hj => (by rcases Nat.lt_succ_iff_lt_or_eq.mp hj with h | h; exact hok j h; subst h; exact hr)⟩ (by simp only; omega) ⟨rfl, rfl, rfl, rfl, rfl, trivial⟩)
          dsimp only
          rw [hst]
          exact (hs.less (by simp)).drop
    · have hge : i = l.length := by have := of_decide_eq_false h16; omega
      have hall : l.all right24 = true := all_of (by rw [← hge]; exact hok)
      subst hge
      rw [List.take_length]
      have hUo : ∀ c, c ∈ once l → u32 c := fun c hc => hU1 c ((once_mem c l).mp hc)
      have hol := once_len l
      refine go_state (fun w hs => ((hs.perm perm2).settleCL hB rfl rfl (by omega) hUo)) ?_
      refine go_exit rfl ?_
      refine go_seq ?_
      refine go_region ⟨_, Try.func93⟩ rfl ?_
      refine q0 rfl (o_func ?_)
      refine q0 rfl (o_assign ?_)
      refine rg_nil ?_
      refine go_seq ?_
      refine go_region ⟨_, Try.func93⟩ rfl ?_
      refine q0 rfl (o_assign ?_)
      refine rg_nil ?_
      refine go_seq ?_
      refine go_seq ?_
      refine go_region ⟨_, Try.func93⟩ rfl ?_
      refine q0 rfl (o_ld ?_)
      refine q0 rfl (o_len ?_)
      refine q0 rfl (o_move ?_)
      refine rg_nil ?_
      refine go_block ?_
      refine go_loopI (X := Nat × SH) (fun s => s.1 ≤ (once l).length) (fun s => [(8, .func (.func 102) #[] [.pointer (some ⟨b5, 0, none⟩)].toArray), (9, sl s.2 (keptUpto l s.1).length), (34, sl aO (once l).length), (35, .int .i64 ((once l).length : Int)), (36, .int .i64 (s.1 : Int))]) (fun s => [CL (once l) aO]) (fun s => [boxR b5 [sl aO (once l).length] 27, rowS 2 72 s.2 (keptUpto l s.1).length (clFlat (keptUpto l s.1))]) (fun s => (once l).length - s.1) ((0, (none, 0))) (Nat.zero_le _) (by exact ⟨rfl, rfl, rfl, rfl, rfl, trivial⟩) ?_ ?_
      · exact fun w hs => (((hs.less (by simp +contextual)).rowS0 2 72).perm perm2).dropR (A := [_, _])
      · intro ⟨i, aK⟩ base1 hi next1
        dsimp only at hi next1 ⊢
        refine go_seq ?_
        refine go_region ⟨_, Try.func93⟩ rfl ?_
        refine q0 rfl (o_lss ?_)
        refine rg_nil ?_
        refine go_seq ?_
        refine go_condI (fun h37 => ?_) (fun h37 => ?_)
        · have hlt : i < (once l).length := by have := of_decide_eq_true h37; omega
          refine go_openCL (l := once l) (a := aO) (fun _ hA2 _ => ?_)
          obtain ⟨bk, o, hav⟩ := hA2 (by omega)
          have hu := hUo _ (getD_mem (d := cl0) hlt)
          have hkl := keptUpto_len l i
          refine go_skip ?_
          refine go_seq ?_
          refine go_block ?_
          refine go_seq ?_
          refine go_region ⟨_, Try.func93⟩ rfl ?_
          refine q0 rfl (o_ixN ?_)
          refine q0 rfl (o_ldC ?_)
          refine q0 rfl (o_new fun b11 => ?_)
          refine q0 rfl (o_st ?_)
          refine rg_nil ?_
          refine go_seq ?_
          refine go_region ⟨_, Try.func93⟩ rfl ?_
          refine q0 rfl (o_move ?_)
          refine q0 rfl (o_lds ?_)
          refine q0 rfl (o_callC Try.call102 (least1_spec (once l) aO ((once l).getD i cl0) hu b5) (cap := [.pointer (some ⟨b5, 0, none⟩)]) (fun x42 => ?_))
          refine q0 rfl (o_not ?_)
          refine rg_nil ?_
          refine go_condI (fun h43 => ?_) (fun h43 => ?_)
          · refine go_region ⟨_, Try.func93⟩ rfl ?_
            refine q0 rfl (o_move ?_)
            refine q0 rfl (o_lds ?_)
            refine q0 rfl (o_lit1 fun b46 => ?_)
            refine q0 rfl (o_appS (fun a47 => ?_)  )
            refine q0 rfl (o_assign ?_)
            refine rg_nil ?_
            refine go_inBlock ?_
            refine go_region ⟨_, Try.func93⟩ rfl ?_
            refine q0 rfl (o_add ?_)
            refine q0 rfl (o_move ?_)
            refine rg_nil ?_
            have hnd : needless (once l) ((once l).getD i cl0) = false := by simpa using h43
            have hst := keptUpto_succ hlt
            rw [hnd, if_neg (by decide)] at hst
            have hlen' : (keptUpto l (i + 1)).length = (keptUpto l i).length + 1 := by rw [hst]; simp
            refine go_state (fun w hs => ?_) (next1 (i + 1, a47) _ hlt (by simp only; omega) ⟨rfl, by rw [hlen']; rfl, rfl, rfl, rfl, trivial⟩)
            dsimp only
            rw [hlen', hst, clFlat_snoc]
            exact ((hs.less (by simp)).perm perm2).dropR (A := [_, _])
          · refine go_skip ?_
            refine go_inBlock ?_
            refine go_region ⟨_, Try.func93⟩ rfl ?_
            refine q0 rfl (o_add ?_)
            refine q0 rfl (o_move ?_)
            refine rg_nil ?_
            have hnd : needless (once l) ((once l).getD i cl0) = true := by simpa using h43
            have hst := keptUpto_succ hlt
            rw [hnd, if_pos rfl] at hst
            refine go_state (fun w hs => ?_) (next1 (i + 1, aK) _ hlt (by simp only; omega) ⟨rfl, by rw [hst]; rfl, rfl, rfl, rfl, trivial⟩)
            dsimp only
            rw [hst]
            exact (hs.less (by simp)).dropR (A := [_, _])
        · have hge2 : i = (once l).length := by have := of_decide_eq_false h37; omega
          subst hge2
          rw [keptUpto_all]
          refine go_exit rfl ?_
          refine go_seq ?_
          refine go_seq ?_
          refine go_region ⟨_, Try.func93⟩ rfl ?_
          refine q0 rfl (o_move ?_)
          refine q0 rfl (o_len ?_)
          refine q0 rfl (o_gtr ?_)
          refine rg_nil ?_
          refine go_condI (fun h51 => ?_) (fun h51 => ?_)
          · have h64 : 64 < (kept l).length := by have := of_decide_eq_true h51; omega
            refine go_seq ?_
            refine go_region ⟨_, Try.func93⟩ rfl ?_
            refine q0 rfl (o_assign ?_)
            refine q0 rfl (o_assign ?_)
            refine rg_nil ?_
            refine ret2 Try.func93 Try.results93 (by first | ((conv => lhs; whnf); done) | rfl) (by first | ((conv => lhs; whnf); done) | rfl) ⟨((none, 0), 3, []), by (unfold LeastIs; rw [hall, if_neg (by decide), if_pos h64])⟩ rfl (fun w hs => (hs.nilCL 0).bare.less (by simp))
          · have h64 : ¬ 64 < (kept l).length := by have := of_decide_eq_false h51; omega
            refine go_skip ?_
            refine go_seq ?_
            refine go_region ⟨_, Try.func93⟩ rfl ?_
            refine q0 rfl (o_move ?_)
            refine q0 rfl (o_call Try.call105 (sortRow_spec (kept l) aK (kept l).length rfl (by unfold reach; omega)) (fun x53 => ?_))
            refine rg_nil ?_
            refine go_seq ?_
            refine go_region ⟨_, Try.func93⟩ rfl ?_
            refine q0 rfl (o_move ?_)
            refine q0 rfl (o_assign ?_)
            refine q0 rfl (o_assign ?_)
            refine rg_nil ?_
            have hpl : x53.1.length = (kept l).length := x53.2.1.length_eq
            refine ret2 Try.func93 Try.results93 (by first | ((conv => lhs; whnf); done) | rfl) (by first | ((conv => lhs; whnf); done) | rfl) ⟨(aK, 0, x53.1), by (unfold LeastIs; rw [hall, if_neg (by decide), if_neg h64]; exact ⟨rfl, x53.2⟩)⟩ (by rw [hpl]; rfl) (fun w hs => ?_)
            exact ((hs.settleCL (l := x53.1) hB rfl hpl.symm (by unfold reach; omega) (fun c hc => hU1 c (kept_mem (x53.2.1.mem_iff.mp hc)))).bare.less (by simp))
end Go.Hy
namespace Go.Hy
set_option linter.unusedVariables false
set_option linter.unusedSimpArgs false
set_option linter.unusedSectionVars false
open Go.Proofs
set_option linter.unusedVariables false
set_option linter.unusedSimpArgs false
set_option maxRecDepth 100000
theorem formRight_spec : FRight := by
  intro l a
  refine spec_go (args := [sl a l.length]) Try.func86 Try.ntmps86 rfl (by exact Nat.le_of_ble_eq_true rfl) fun B hB => ?_
  refine go_know (p := True) (fun _ _ => trivial) (fun _ => ?_)
  refine go_seq ?_
  refine go_region ⟨_, Try.func86⟩ rfl ?_
  refine q0 rfl (o_assign ?_)
  refine rg_nil ?_
  refine go_seq ?_
  refine go_region ⟨_, Try.func86⟩ rfl ?_
  refine q0 rfl (o_move ?_)
  refine q0 rfl (o_call Try.call93 (least_spec l a) (fun x7 => ?_))
  refine q0 rfl (o_move ?_)
  refine q0 rfl (o_extract ?_)
  refine q0 rfl (o_extract ?_)
  refine q0 rfl (o_assign ?_)
  refine q0 rfl (o_assign ?_)
  refine rg_nil ?_
  refine go_seq ?_
  refine go_region ⟨_, Try.func86⟩ rfl ?_
  refine q0 rfl (o_move ?_)
  refine q0 rfl (o_eqI ?_)
  refine q0 rfl (o_move ?_)
  refine qI rfl rfl rfl (by conv => lhs; whnf) (fun hg12 => o_move ?_) (fun hg12 => ?_)
  · refine qT rfl rfl rfl (o_move ?_)
    refine qT rfl rfl rfl (o_call Try.call48 (equal_spec x7.1.2.2 l x7.1.1 a) (fun x15 => ?_))
    refine q0 rfl (o_pickT ?_)
    refine q0 rfl (o_assign ?_)
    refine rg_nil ?_
    have hlr := least_right x7.2
    refine ret1 Try.func86 Try.results86 (by first | ((conv => lhs; whnf); done) | rfl) () (by rw [← hlr]; simp_all) (fun w hs => hs.none)
  · refine qF rfl rfl rfl ?_
    refine qF rfl rfl rfl ?_
    refine q0 rfl (o_pickF ?_)
    refine q0 rfl (o_assign ?_)
    refine rg_nil ?_
    have hlr := least_right x7.2
    refine ret1 Try.func86 Try.results86 (by first | ((conv => lhs; whnf); done) | rfl) () (by rw [← hlr]; simp_all) (fun w hs => hs.none)
theorem faceRight_spec : FaceRight := by
  intro l a
  refine spec_go (args := [sl a l.length]) Try.func88 Try.ntmps88 rfl (by exact Nat.le_of_ble_eq_true rfl) fun B hB => ?_
  refine go_openCL (l := l) (a := a) (fun hl1 hA1 hU1 => ?_)
  refine go_seq ?_
  refine go_region ⟨_, Try.func88⟩ rfl ?_
  refine q0 rfl (o_assign ?_)
  refine rg_nil ?_
  refine go_seq ?_
  refine go_region ⟨_, Try.func88⟩ rfl ?_
  refine q0 rfl (o_move ?_)
  refine q0 rfl (o_call Try.call86 (formRight_spec l a) (fun x4 => ?_))
  refine q0 rfl (o_move ?_)
  refine qI rfl rfl rfl (by conv => lhs; whnf) (fun hg5 => o_move ?_) (fun hg5 => ?_)
  · refine qT rfl rfl rfl (o_call Try.call94 (contains_spec l a 95 [] [] [] clash Try.call95 (fun x hx => clash_spec x (hU1 x hx))) (fun x7 => ?_))
    refine qT rfl rfl rfl (o_not ?_)
    refine q0 rfl (o_pickT ?_)
    refine q0 rfl (o_assign ?_)
    refine rg_nil ?_
    refine ret1 Try.func88 Try.results88 (by first | ((conv => lhs; whnf); done) | rfl) () (by simp_all [faceRight]) (fun w hs => hs.none)
  · refine qF rfl rfl rfl ?_
    refine qF rfl rfl rfl ?_
    refine q0 rfl (o_pickF ?_)
    refine q0 rfl (o_assign ?_)
    refine rg_nil ?_
    refine ret1 Try.func88 Try.results88 (by first | ((conv => lhs; whnf); done) | rfl) () (by simp_all [faceRight]) (fun w hs => hs.none)
theorem form_spec : FORM := ⟨formRight_spec, faceRight_spec, fDims_spec⟩
end Go.Hy
