/- Contracts of this program's functions and the laws that they need. -/
import Derived.Tactics2
import Derived.Shelf.SlSortCmp.NoneTotal
import Derived.Test.YtibignmpjeemeaaGreatDoorP7
set_option linter.unusedVariables false
set_option linter.unusedSimpArgs false
set_option linter.unusedSectionVars false
namespace Go.Hy
open Go.Proofs Go.Proofs.Tryz
set_option maxRecDepth 100000
attribute [local go_sem] Oper.semAt_some
open Go.RowKit Go.Shelf
set_option maxHeartbeats 1000000
theorem D2m (F : Fence) (n : Nat) (hF : F.fn 258) (hro : F.round = none) (r : Nat) (k idx : Nat) (hk : k < 24) (h0 : ((r : Int) == 0) = false)
  (key : bits BinOp.and IntKind.u32 (r : Int) (-(r : Int) % 4294967296) * 125613361 % 4294967296 / 134217728 = (idx : Int)) (hi : idx < 32) (W : World) (hc : W.cell? ⟨0, idx, none⟩ = some (.int .u8 (k : Int))) :
  CallsIn F n prog 258 #[.int .u32 (r : Int)] W fun e w' => e = .returned (iv (k : Int)) ∧ w' = W := by
 refine callsIn_of_wp func258 rfl hF ?_ hro; simp only [ntmps258, List.size_toArray, List.length_cons, List.length_nil, Nat.reduceAdd, Nat.reduceSub, Array.replicate_succ, Array.replicate_zero, List.push_toArray, List.append_toArray, List.nil_append, List.cons_append]
 gi_wp2_with (simp only [key])
 go_ret
 exact ⟨rfl, rfl⟩
theorem tz32' (F : Fence) (n : Nat) (hF : F.fn 258) (hro : F.round = none) (r : Nat) (h0 : ¬ r = 0) (hr : r < 16777216) (W : World) (hT : TabAt 0 Lib.deBruijn32tab W) :
  CallsIn F n prog 258 #[.int .u32 (r : Int)] W fun e w' => e = .returned (iv (Lib.ctz 32 r : Int)) ∧ w' = W := by
 obtain ⟨hlow, hk⟩ := Lib.lowest_bit 32 r h0 A3; obtain ⟨hi, htab⟩ := Lib.deBruijn32_at _ hk; have hcell := hT _ hi; rw [htab] at hcell; exact D2m F n hF hro r _ _ (Xq h0 hr).1 (by simp; omega) (tz32_key r _ A3 h0 hlow) hi W hcell
theorem in1 (F : Fence) (n : Nat) (h208 : F.fn 257) (h209 : F.fn 258) (hro : F.round = none) (hn : 1 ≤ n) (l g : Nat) (s : Nat) (J : List Int → World → Prop)
  (hY : ∀ pre x W, J pre W → pre.length < 24 → (0 ≤ x ∧ x < 24) → YieldAt F (n - 1) prog l #[iv x] W fun e W' => e = .returned (.bool true) ∧ J (pre ++ [x]) W' ∧ W'.heap[g]? = W.heap[g]?)
  (hT : ∀ pre W, J pre W → TabAt 0 Lib.deBruijn32tab W)
  (hJ : ∀ pre W v, J pre W → J pre (W.setCell ⟨g, 0, none⟩ v))
  (hs : s < 4294967296) (W : World) (hg : Boxed W g 89 (.int .u32 (s : Int))) (h0 : J [] W) :
  CallsIn F n prog 257 #[.func (.yield l) #[] #[], pz g] W fun e W' => (∃ v, e = .returned v) ∧ J (Aj s) W' := by
 refine callsIn_of_wp func257 rfl h208 ?_ hro; simp only [ntmps257, List.size_toArray, List.length_cons, List.length_nil, Nat.reduceAdd, Nat.reduceSub, Array.replicate_succ, Array.replicate_zero, List.push_toArray, List.append_toArray, List.nil_append, List.cons_append]; have hc := hg.cell; have hf := hg.frozen
 gi_wp2
 gi_loopw [] (fun wr => ∃ (pre : List Int) (r : Nat), Aj s = pre ++ Aj r ∧ r < 16777216 ∧ Boxed wr g 89 (.int .u32 (r : Int)) ∧ J pre wr)
  (fun wr => match wr.cell? ⟨g, 0, none⟩ with | some (.int _ v) => v.toNat | _ => 0)
 case atStart =>
  refine ⟨[], s &&& 16777215, by rw [List.nil_append, B2h], by rw [Vs]; exact Nat.mod_lt _ I4, ?_, hJ _ _ _ h0⟩; rw [← bits_and_u32_nat s 16777215 hs I4]; exact hg.set _
 case round =>
  obtain ⟨pre, r, hx, hr, hb, hj⟩ := hrel; have hc2 := hb.cell; have hf2 := hb.frozen; by_cases hr0 : r = 0
  ·subst hr0
   gi_wp2
   go_end0
   exact ⟨⟨_, rfl⟩, by rw [hx, show Aj 0 = [] from by decide, List.append_nil]; exact hj⟩
  ·obtain ⟨hk, hlist⟩ := Xq hr0 hr
   have hlen : pre.length < 24 := by
    have h1 := congrArg List.length hx; have h2 : (Aj s).length ≤ 24 := Hk s 24; rw [List.length_append, hlist, List.length_cons] at h1; omega
   obtain ⟨fn, tmps, assign, body, hy, hR⟩ := hY pre (Lib.ctz 32 r : Int) wr hj hlen A3; have hbe : ((r : Int) != 0) = true := by simp; omega
   gi_wp2_with (gi_at_call 258; refine (tz32' F (n - 1) h209 hro r hr0 hr wr (hT _ _ hj)).mono ?_; rintro e w' ⟨rfl, rfl⟩)
   refine hR.mono ?_; rintro e W3 ⟨rfl, hJ3, hg3⟩; have hb3 : Boxed W3 g 89 (.int .u32 (r : Int)) := hg3.trans hb; have hc3 := hb3.cell; have hf3 := hb3.frozen
   gi_wp2
   have e1 : bits BinOp.and IntKind.u32 (r : Int) ((r : Int) - 1) = ((r &&& (r - 1) : Nat) : Int) := by
    rw [show (r : Int) - 1 = ((r - 1 : Nat) : Int) by omega]; exact bits_and_u32_nat r (r - 1) A3 A3
   rw [e1]; have hb4 := hb3.set (.int .u32 ((r &&& (r - 1) : Nat) : Int)); have hlt := C5o hr0
   go_roundw
   case rel => exact ⟨pre ++ [(Lib.ctz 32 r : Int)], r &&& (r - 1), by rw [hx, hlist, List.append_assoc]; rfl, by omega, hb4, hJ _ _ _ hJ3⟩
   case measure =>
    rw [hb4.cell, hc2]; simp only [Int.toNat_natCast]; exact hlt
theorem D0c (F : Fence) (n : Nat) (h : F.fn 206) (hro : F.round = none) (s : Nat) (w : World) :
  CallsIn F n prog 206 #[.int .u32 (s : Int)] w fun e w' => e = .returned (.func (.func 257) #[] #[.pointer (some ⟨w.heap.size, 0, none⟩)]) ∧ w' = w.alloc (.cells #[.int .u32 (s : Int)] 89) := by
 refine callsIn_of_wp func206 rfl h ?_ hro; simp only [ntmps206, List.size_toArray, List.length_cons, List.length_nil, Nat.reduceAdd, Nat.reduceSub, Array.replicate_succ, Array.replicate_zero, List.push_toArray, List.append_toArray, List.nil_append, List.cons_append]
 gi_wp2
 go_ret
 exact ⟨rfl, rfl⟩
theorem C1n : (prog.info? 3).map (fun i => (i.zero, i.size, i.bytes)) = some (some (iv 0), 1, 8) := by kernel_rfl
theorem C1e (F : Fence) (n : Nat) (h81 : F.fn 123) (h156 : F.fn 206) (h208 : F.fn 257) (h209 : F.fn 258) (hro : F.round = none) (hn : 3 ≤ n) (s : Nat) (hs : s < 4294967296) (w : World) (hw : 0 < w.heap.size) (hT : TabAt 0 Lib.deBruijn32tab w) :
  CallsIn F n prog 123 #[.int .u32 (s : Int)] w fun e W' => ∃ v, e = .returned v ∧ W'.ownsRow w.heap.size 3 1 v (Aj s).length ((Aj s).map (Value.int .i64)) ∧ Below w.heap.size w W' := by
 have h1 : 1 ≤ n := by omega
 obtain ⟨i0, hi, hz0, hz1, hz2⟩ := info_parts C1n; refine callsIn_of_wp_marks func123 rfl h81 ?_ hro; simp only [ntmps123, List.size_toArray, List.length_cons, List.length_nil, Nat.reduceAdd, Nat.reduceSub, Array.replicate_succ, Array.replicate_zero, List.push_toArray, List.append_toArray, List.nil_append, List.cons_append]
 gi_wp2_with (gi_at_call 206; refine (D0c F (n - 1) h156 hro _ _).mono ?_; rintro e w' ⟨rfl, rfl⟩)
 obtain ⟨w2, hw2⟩ : ∃ w2, (w.alloc (.cells #[.slice none 0 0] 140)).alloc (.cells #[.int .u32 (s : Int)] 89) = w2 := ⟨_, rfl⟩; have bO : Boxed w2 w.heap.size 140 (.slice none 0 0) := by rw [← hw2]; exact (Boxed.new w 140 (.slice none 0 0)).alloc _
 have bS : Boxed w2 (w.heap.size + 1) 89 (.int .u32 (s : Int)) := by rw [← hw2]; have := Boxed.new (w.alloc (.cells #[.slice none 0 0] 140)) 89 (.int .u32 (s : Int)); rwa [World.size_alloc] at this
 have hsz2 : w2.heap.size = w.heap.size + 2 := by rw [← hw2]; simp
 have hB2 : Below w.heap.size w w2 := by rw [← hw2]; exact ((Below.refl _ w).alloc (Nat.le_refl _) _).alloc D4 _
 have hrw : ∀ {A B : World}, B.heap[w.heap.size + 1]? = A.heap[w.heap.size + 1]? → ∀ u, Boxed A (w.heap.size + 1) 89 u → Boxed B (w.heap.size + 1) 89 u := fun h u hu => h.trans hu
 simp only [World.size_alloc, hw2]
 refine B1h hro h1 (gf := 257) (lb := #[.pointer (some ⟨w.heap.size + 1, 0, none⟩)]) rfl h208 (enters_of func257 (by kernel_rfl) rfl) (encs := fun x : Int => #[iv x]) (fun _ => rfl)
  (fun pre W => (∃ v, Boxed W w.heap.size 140 v ∧ W.ownsRow w.heap.size 3 1 v pre.length (pre.map (Value.int .i64))) ∧ (∃ u, Boxed W (w.heap.size + 1) 89 u) ∧ Below w.heap.size w W)
  (fun pre x => pre.length < 24 ∧ (0 ≤ x ∧ x < 24)) (fun W W' => W'.heap[w.heap.size + 1]? = W.heap[w.heap.size + 1]?)
  ?ip ?ia ⟨⟨_, bO, World.ownsRow_nil _ _ _ _⟩, ⟨_, bS⟩, hB2⟩ (fun h k => k.trans h) ?kp (Aj s) ?it
  (fun x => { tmps := #[.int .u32 (s : Int), undef, .slice none 0 0, .pointer (some ⟨w.heap.size, 0, none⟩), iv x, .int .u32 (s : Int), .func (.func 257) #[] #[.pointer (some ⟨w.heap.size + 1, 0, none⟩)], iv x, undef, undef, undef, undef, undef], defers := [] }) ?assign ?body ?done
 case ip =>
  rintro pre A l o o0 ⟨⟨v, hv, hr⟩, ⟨u, hu⟩, hB⟩ hl hc hle; refine ⟨⟨v, (World.putObj_heap_other A3).trans hv, ownsRow_putObj hr o hl hc⟩, ⟨u, (World.putObj_heap_other A3).trans hu⟩, hB.trans ⟨rfl, rfl, rfl, by simp, fun k hk => World.putObj_heap_other A3⟩⟩
 case ia =>
  rintro pre A o ⟨⟨v, hv, hr⟩, ⟨u, hu⟩, hB⟩ hle; exact ⟨⟨v, hv.alloc o, hr.kept (World.grownBy_alloc A o none) (by rcases hr.2 with ⟨rfl, _⟩ | ⟨g, cap, cur, rfl, _⟩; exact .inl rfl; exact .inr (by simp [Value.ownBlock]))⟩, ⟨u, hu.alloc o⟩, hB.alloc A3 o⟩
 case kp =>
  intro A l o o0 hl hc hle; exact World.putObj_heap_other A3
 case it =>
  intro l J W1 hJI hJk hY h0 hk1; refine in1 F (n - 1) h208 h209 hro A3 l (w.heap.size + 1) s J (fun pre x W hj hl hx => hY pre x W hj ⟨hl, hx⟩) (fun pre W hj => ?_) (fun pre W v hj => ?_) hs W1 ?_ h0
  ·intro i hi; exact ((hJI _ _ hj).2.2.cell (p := ⟨0, i, none⟩) hw).trans (hT i hi)
  ·obtain ⟨⟨v0, hv0, hr⟩, ⟨u, hu⟩, hB⟩ := hJI _ _ hj; refine hJk pre W _ hj ⟨⟨v0, hv0.other A3 v, hr.kept (grownBy_setCell' W (w.heap.size + 1) v) (.inr (hu.not_row I4 hr).symm)⟩, ⟨_, hu.set v⟩, hB.setCell (p := ⟨w.heap.size + 1, 0, none⟩) D4 v⟩ (fun k o hk ho => (KeepsOthers.setCell W _ v).same k o hk ho)
  ·exact (hk1 _ A3).trans bS
 case assign =>
  intro l x W K hK
  gi_wp2
  exact hK
 case body =>
  rintro l pre x W ⟨⟨v, hv, hrow⟩, ⟨u, hu⟩, hB⟩ ⟨hlt, hx⟩; have hc := hv.cell
  gi_wp2_with (gi_at_builtin; refine wpListIn_append_own _ rfl _ _ 140 rfl w.heap.size 3 i0 (iv 0) 1 8 Tryz.underlying140 hi hz0 hz1 hz2 rfl I4 _ _ _ rfl (hrow.alloc _) ⟨W.heap.size, 0, none⟩ 1 1 [iv x] rfl rfl (cell_one_new _ _ _) (by simp [Value.oneCell']) (by unfold maxLen; omega) A3 (by have := hB.size; simp; omega) ?_; intro v' w1 hown' hgrow _; obtain ⟨g', cap', rfl⟩ := ownsRow_succ hown'; obtain ⟨hv1, hv2, hr2, hk2, hb2⟩ := hv.appended I4 hrow hB.size (Nat.le_refl _) hown' hgrow; have hc1 := hv1.cell; have hf1 := hv1.frozen)
  have hu1 := ((hu.alloc (.cells #[iv x] 3)).kept hgrow (hu.not_row I4 hrow)).other (B' := w.heap.size) A3 (.slice (some ⟨g', 0, none⟩) (pre.length + 1) cap'); exact ⟨hu1.trans hu.symm, ⟨_, hv2, by simpa using hr2⟩, ⟨u, hu1⟩, hB.trans hb2⟩
 case done =>
  rintro D W hD ⟨⟨v, hv, hrow⟩, _, hB⟩ hK; have hc := hv.cell
  gi_wp2
  refine ⟨by simp, .inl ⟨_, _, rfl, run_takeDeferred hK, ?_⟩⟩; exact ⟨_, results_tmp rfl _ _ _, v, rfl, ownsRow_putObj hrow _ hK rfl, hB.trans ⟨rfl, rfl, rfl, by simp, fun k hk => World.putObj_heap_other A3⟩⟩
abbrev Nw : Fact := At 0 0 (Lib.deBruijn32tab.map fun (v : Nat) => Value.int .u8 (v : Int))
theorem C4d {ok : Nat → Prop} {w : World} (h : Nw.f ok w) (hk : ∀ b, ok b → b < w.heap.size) : TabAt 0 Lib.deBruijn32tab w ∧ 0 < w.heap.size := by
 refine ⟨fun j hj => ?_, hk _ h.1⟩; have h1 := h.2 j (.int .u8 (Lib.deBruijn32tab.getD j 0 : Nat)) (by rw [List.getElem?_map, List.getD_eq_getElem?_getD, List.getElem?_eq_getElem hj]; rfl)
 rwa [Nat.zero_add] at h1
theorem B2d (s : Nat) (hs : s < 4294967296) : Spec prog 123 #[.int .u32 (s : Int)] [Nw] [] (fun x : SH => sl x (Aj s).length) (fun _ => []) (fun x => [Al 1 3 x (Aj s).length (Oa (Aj s))]) := fun ok w hok hst => by
 obtain ⟨hT, hw⟩ := C4d (hst.facts Nw List.mem_cons_self) (fun b hb => hb.2.1); refine (callsIn_wide.mp (C1e Fence.wide 3 trivial trivial trivial trivial rfl (Nat.le_refl _) s hs w hw hT)).mono fun e w' hh => ?_
 obtain ⟨v, rfl, hrow, hB⟩ := hh; obtain ⟨a, rfl⟩ := A8s hrow
 have hrow0 : w'.ownsRow 0 3 1 (sl a (Aj s).length) (Aj s).length (Oa (Aj s)) := by
  have h1 : w'.ownsRow 0 3 1 (sl a (Aj s).length) (Aj s).length ((Aj s).map (Value.int .i64)) := ⟨hrow.1, hrow.2.imp id (fun ⟨g, cap, cur, q1, q2, q3⟩ => ⟨g, cap, cur, q1, Nat.zero_le _, q3⟩)⟩
  rwa [show (Aj s).map (Value.int .i64) = Oa (Aj s) from by induction (Aj s) with | nil => rfl | cons y ys ih => (simp only [List.map_cons, Oa, List.flatMap_cons, Ni, List.singleton_append] at ih ⊢; rw [ih])] at h1
 refine ⟨a, rfl, ⟨hB.os, hB.tape, hB.output, hB.size, fun b hb _ => hB.block b hb⟩, fun _ hF => (by cases hF), ?_, ?_, List.pairwise_singleton _ _⟩
 ·intro m hm w2 hw2; rw [List.mem_singleton] at hm; subst hm; exact U5 hrow0 (fun b hb => hw2 b hb)
 ·intro m hm b hb; rw [List.mem_singleton] at hm; subst hm; have := hrow.lt b hb; exact ⟨this.2, .inr this.1⟩
theorem Iv (s : Nat) (hs : s < 4294967296) : Spec prog 123 #[.int .u32 (s : Int)] [Nw] [] (fun x : SH => sl x (Aj s).length) (fun x => [IL (Aj s) x]) (fun _ => []) := fun ok w hok hst => (B2d s hs ok w hok hst).mono fun e w' hh => by
 obtain ⟨x, he, h⟩ := hh; have hl : (Aj s).length ≤ 24 := Hk s 24; exact ⟨x, he, h.A1d trivial rfl rfl (by unfold reach; omega) (fun c hc => by have := Xp hc; unfold Aq; omega)⟩
end Go.Hy
namespace Go.Hy
open Go.Proofs Go.Proofs.Tryz
set_option maxRecDepth 100000
theorem Nl (i : Int) : Spec prog 195 #[iv i] [] [] (fun _ : Unit => .bool (decide (0 ≤ i) && decide (i < 24))) (fun _ => []) (fun _ => []) := by
 refine D8 ntmps195 fun B hB => ?_
 refine Oo ?_; refine A0u ?_; refine E1 ?_; refine qI rfl rfl rfl J1 (fun hg5 => E2 ?_) (fun hg5 => ?_)
 ·refine A4v ?_; refine G1 ?_; refine Ao f_ rfl A7 () (by first | (simp_all; done) | (simp_all; omega)) (fun w hs => hs.none)
 ·refine Od ?_; refine G6 ?_; refine Ao f_ rfl A7 () (by first | (simp_all; done) | (simp_all; omega)) (fun w hs => hs.none)
theorem Nc (s : Nat) (hs : s < 4294967296) : Spec prog 249 #[.int .u32 (s : Int)] [] [] (fun _ : Unit => .bool (decide (s < 16777216))) (fun _ => []) (fun _ => []) := by
 refine D8 ntmps249 fun B hB => ?_
 refine Oo ?_; refine q0 rfl (Sn ?_ (b := 16777215)); refine q0 rfl (A2h ?_ (b := 0)); refine Ci ?_; refine Ao f_ rfl A7 () (by rw [A4i hs]) (fun w hs => hs.none)
theorem R7 (s : Nat) (hs : s < 4294967296) : Spec prog 112 #[.int .u32 (s : Int), iv (-1)] [] [] (fun _ : Unit => .int .u32 ((s &&& 16777215 : Nat) : Int)) (fun _ => []) (fun _ => []) := by
 refine D8 ntmps112 fun B hB => ?_
 refine Oo ?_; refine q0 rfl (Ky ?_ (b := 16777215)); refine Ci ?_; refine Gt ?_; refine q0 rfl (A0 call195 (Nl (-1)) (fun x8 => ?_)); refine Iz ?_; refine A1 (fun h9 => ?_) (fun h9 => ?_)
 ·refine I8 ?_; refine Ao f_ rfl A7 () rfl (fun w hs => hs.none)
 ·exact absurd h9 I4
theorem A6s : B9i := by
 intro l a; refine D8 ntmps64 fun B hB => ?_
 refine A6 (l := l) (a := a) (fun hl1 hA1 hU1 => ?_); refine C9 ?_; refine Mu ?_; refine Dm (X := Nat) (fun i => i ≤ l.length) (fun i => [(3, .int .u32 (Ln l i : Int)), (6, sl a l.length), (7, iv (l.length : Int)), (8, iv (i : Int))]) (fun i => [CL l a]) (fun i => []) (fun i => l.length - i) (0) (Nat.zero_le _) (by exact Dk) ?_ ?_
 ·exact fun w hs => hs.l8
 ·intro i base0 hi next0; refine E0 ?_; refine A1 (fun h9 => ?_) (fun h9 => ?_)
  ·have hlt : i < l.length := by have := of_decide_eq_true h9; omega
   obtain ⟨bk, o, hav⟩ := hA1 A3; have hu := hU1 _ (Ae (d := Bm) hlt); have hup := Xf hU1 i; have hor : (l.getD i Bm).pos ||| (l.getD i Bm).neg < 4294967296 := Nat.or_lt_two_pow (n := 32) hu.1 hu.2; refine Ic ?_; refine Oe ?_; refine R6 ?_; refine q0 rfl (B5 fun b5 => ?_); refine Ey ?_; refine Dj ?_; refine Ho ?_; refine Ho ?_; refine q0 rfl (O5 ?_ (a := (l.getD i Bm).pos) (b := (l.getD i Bm).neg) (ha := hu.1) (hb := hu.2)); refine q0 rfl (O5 ?_ (a := Ln l i) (b := (l.getD i Bm).pos ||| (l.getD i Bm).neg)); refine Ot ?_; refine A2 (fun w hs => ?_) (next0 (i + 1) _ hlt A3 ⟨by rw [A1t hlt]; rfl, rfl, rfl, rfl, trivial⟩); exact (hs.l8).bare
  ·have hge : i = l.length := by have := of_decide_eq_false h9; omega
   refine En ?_; refine Ef ?_; refine q0 rfl (A0 call112 (R7 (Ln l i) (Xf hU1 i)) (fun x21 => ?_)); refine Ci ?_; refine Ao f_ rfl A7 () (by rw [A3v, ← hge]) (fun w hs => hs.none)
theorem L8 (c : Cl) (hc : u32 c) : Spec prog 196 #[.agg (Ai c).toArray] [] [] (fun _ : Unit => .bool (Ap c)) (fun _ => []) (fun _ => []) := by
 refine D8 ntmps196 fun B hB => ?_
 refine B2 ?_; refine q0 rfl (Az fun b1 => ?_); refine Ci ?_; refine K3 ?_; refine q0 rfl (A0 call249 (Nc c.pos hc.1) (fun x5 => ?_)); refine E1 ?_; refine qI rfl rfl rfl J1 (fun hg6 => Jb ?_) (fun hg6 => ?_)
 ·refine Hp ?_; refine qT rfl rfl rfl (A0 call249 (Nc c.neg hc.2) (fun x9 => ?_)); refine G1 ?_; refine Ao f_ rfl A7 () (by first | (simp_all [Ap]; done) | (simp_all [Ap]; intros; omega)) (fun w hs => hs.none)
 ·refine Fg ?_; refine G6 ?_; refine Ao f_ rfl A7 () (by first | (simp_all [Ap]; done) | (simp_all [Ap]; intros; omega)) (fun w hs => hs.none)
theorem Vh (c : Cl) (hc : u32 c) : Spec prog 248 #[.agg (Ai c).toArray] [] [] (fun _ : Unit => .bool (I2 c)) (fun _ => []) (fun _ => []) := by
 refine D8 ntmps248 fun B hB => ?_
 refine B2 ?_; refine q0 rfl (Az fun b1 => ?_); refine Ci ?_; refine K3 ?_; refine Ho ?_; refine q0 rfl (Ky ?_ (a := c.pos) (b := c.neg) (ha := hc.1) (hb := hc.2)); refine q0 rfl (A2f ?_ (b := 0)); refine Ci ?_; refine Ao f_ rfl A7 () (by simp only [I2]; congr 1; apply decide_eq_decide.mpr; omega) (fun w hs => hs.none)
theorem Rr (c d : Cl) (hc : u32 c) (hd : u32 d) : Spec prog 251 #[.agg (Ai c).toArray, .agg (Ai d).toArray] [] [] (fun _ : Unit => .agg (Ai (D0 c d)).toArray) (fun _ => []) (fun _ => []) := by
 refine D8 ntmps251 fun B hB => ?_
 refine B2 ?_; refine q0 rfl (Az fun b2 => ?_); refine q0 rfl (Az fun b3 => ?_); refine q0 rfl (B5 fun b4 => ?_); refine Jj ?_; refine K3 ?_; refine Ho ?_; refine q0 rfl (O5 ?_ (a := c.pos) (b := d.pos) (ha := hc.1) (hb := hd.1)); refine Ho ?_; refine Ho ?_; refine q0 rfl (O5 ?_ (a := c.neg) (b := d.neg) (ha := hc.2) (hb := hd.2)); refine q0 rfl (B8 (cs := Ai (D0 c d)) ?_); refine Ey ?_; refine Z1 f_ rfl () rfl Ds rfl rfl rfl rfl (fun w hs => hs.none)
theorem A7i (c d : Cl) (hc : u32 c) (hd : u32 d) : Spec prog 200 #[.agg (Ai c).toArray, .agg (Ai d).toArray] [] [] (fun _ : Unit => .bool (below c d)) (fun _ => []) (fun _ => []) := by
 refine D8 ntmps200 fun B hB => ?_
 refine B2 ?_; refine q0 rfl (Az fun b2 => ?_); refine q0 rfl (Az fun b3 => ?_); refine Ff ?_; refine Ca (pn := 1000000) (tn := false) (A := [0, 0, 3, 0, 15, 31]) (l := [0, 1, 3, 2, 4, 5]) (fin := []) Tab.mixed ⟨_, func200⟩ (by rfl) ?_; refine P6 ?_; refine P6 ?_; refine P6 ?_; refine n0 rfl (Bo call251 (Rr c d hc hd) (fun x7 => ?_)); refine n0 rfl (C9c ?_ (c := D0 c d) (c' := c)); refine A0y ?_; refine Ao f_ rfl A7 () (by rw [A7k]) (fun w hs => hs.none)
end Go.Hy
namespace Go.Hy
open Go.Proofs Go.Proofs.Tryz
set_option maxRecDepth 100000
open Go.Shelf Go.RowKit Go.Lib Go.Sort
theorem C1m (a : Int) (W : World) : Calls prog 291 #[.int .u32 a] W fun e w' => e = .returned (.bool false) ∧ w' = W := by
 go_enter func291, ntmps291
 go_wp2
 go_ret
 exact ⟨by simp, rfl⟩
theorem B3l (a b : Int) (W : World) : Calls prog 254 #[.int .u32 a, .int .u32 b] W fun e w' => e = .returned (iv (compareInt a b)) ∧ w' = W := by
 go_enter func254, ntmps254
 go_wp2_with (go_at_call 291; refine (C1m _ _).mono ?_; rintro e w' ⟨rfl, rfl⟩)
 all_goals (go_ret; refine ⟨?_, rfl⟩; unfold Lib.compareInt; (repeat' split) <;> first | rfl | (exfalso; omega))
def A3y (c d : Cl) : Int := if c.pos = d.pos then compareInt c.neg d.neg else compareInt c.pos d.pos
set_option maxHeartbeats 1000000 in
theorem D2f (c d : Cl) (W : World) : Calls prog 202 #[.agg #[.int .u32 c.pos, .int .u32 c.neg], .agg #[.int .u32 d.pos, .int .u32 d.neg]] W fun e w' => e = .returned (iv (A3y c d)) ∧ ∃ q os', w' = grow (W.drewN q) os' := by
 have hcon := fun a b W' => B3l a b W'
 have e1 : A3y c d = if (c.pos : Int) = d.pos then compareInt c.neg d.neg else compareInt c.pos d.pos := by unfold A3y; simp only [Int.ofNat_inj]
 generalize hr : A3y c d = r at e1 ⊢
 go_enter func202, ntmps202
 go_wp2_with (go_at_call 254; refine (hcon _ _ _).mono ?_; rintro e w' ⟨rfl, rfl⟩)
 all_goals (go_ret; refine ⟨?_, 0, _, by rw [alloc_eq_grow, alloc_eq_grow, grow_grow]; rfl⟩)
 all_goals (rw [e1]; simp_all)
instance : Inhabited Cl := ⟨Bm⟩
theorem A0e (c d : Cl) : ltOf A3y c d = Cm c d := by
 unfold ltOf A3y Cm compareInt; by_cases h : c.pos = d.pos
 ·simp only [h, if_true]; by_cases h2 : c.neg < d.neg
  ·rw [if_pos A3]; simp [h2]
  ·rw [if_neg A3]; split <;> simp [h2]
 ·simp only [h, if_false]; by_cases h2 : c.pos < d.pos
  ·rw [if_pos A3]; simp [h2]
  ·rw [if_neg A3, if_pos A3]; simp [h2]
theorem C2f : SWO (ltOf A3y) where
 irrefl x := by rw [A0e]; simp [Cm]
 trans x y z h1 h2 := by
  rw [A0e] at *; simp only [Cm, Bool.or_eq_true, Bool.and_eq_true, decide_eq_true_eq] at *; omega
 ntrans x y z h1 h2 := by
  rw [A0e] at *; simp only [Cm, Bool.or_eq_false_iff, Bool.and_eq_false_iff, decide_eq_false_iff_not] at *; omega
theorem Qw (d : Array Cl) : (flatK Ai 2 d).toList = A5 d.toList := by
 apply List.ext_getElem?; intro t; have hl : (A5 d.toList).length = d.size * 2 := by rw [Jf De]; simp
 by_cases ht : t < d.size * 2
 ·have h1 : (flatK Ai 2 d).toList[t]? = some (Ai d[t / 2]!)[t % 2]! := by
   have hs : t < (flatK Ai 2 d).size := by rw [size_flatK]; exact ht
   rw [Array.getElem?_toList, Array.getElem?_eq_getElem hs]; have := get_flatK Ai 2 d t ht; rw [getElem!_pos _ t hs] at this; rw [this]
  rw [h1]; have hd : t / 2 < d.toList.length := by simp; omega
  have e : d.toList.getD (t / 2) Bm = d[t / 2]! := by
   have : t / 2 < d.size := by simpa using hd
   rw [getElem!_pos d (t / 2) this, List.getD_eq_getElem?_getD, List.getElem?_eq_getElem hd]; simp
  have h2 : (Ai (d.toList.getD (t / 2) Bm))[t % 2]? = some (Ai d[t / 2]!)[t % 2]! := by
   rw [e]; have : t % 2 < (Ai d[t / 2]!).length := by rw [De]; omega
   rw [List.getElem?_eq_getElem this, getElem!_pos (Ai d[t / 2]!) (t % 2) this]
  have := Zu De Bm d.toList (t / 2) (t % 2) _ hd h2; rw [show t / 2 * 2 + t % 2 = t by omega] at this; exact this.symm
 ·rw [List.getElem?_eq_none (by simp; omega), List.getElem?_eq_none A3]
theorem B1i (d : Array Cl) (l : List Cl) (rest : List Value) (hs : d.size = l.length) : putCells id 0 (flatK Ai 2 d) (A5 l ++ rest).toArray = (A5 d.toList ++ rest).toArray := by
 apply Array.ext_getElem?; intro t; have hl : (A5 l).length = d.size * 2 := by rw [Jf De, hs]
 have hl2 : (A5 d.toList).length = d.size * 2 := by rw [Jf De]; simp
 simp only [putCells, Array.getElem?_mapIdx, List.getElem?_toArray, size_flatK, Nat.zero_add, Nat.zero_le, true_and, Nat.sub_zero, id]; by_cases ht : t < d.size * 2
 ·rw [List.getElem?_append_left A3, List.getElem?_append_left A3]
  have h1 : (A5 d.toList)[t]? = some (flatK Ai 2 d)[t]! := by
   rw [← Qw, Array.getElem?_toList]; have hsz : t < (flatK Ai 2 d).size := by rw [size_flatK]; exact ht
   rw [Array.getElem?_eq_getElem hsz, getElem!_pos _ t hsz]
  rw [h1]; obtain ⟨v, hv⟩ : ∃ v, (A5 l)[t]? = some v := ⟨_, List.getElem?_eq_getElem A3⟩; rw [hv, Option.map_some, if_pos ht]
 ·rw [List.getElem?_append_right A3, List.getElem?_append_right A3, hl, hl2]; cases rest[t - d.size * 2]? with
  | none => rfl
  | some v => rw [Option.map_some, if_neg ht]
theorem B1d (l : List Cl) (g cap : Nat) (rest : List Value) (hn : l.length < 4611686018427387904) :
  Spec prog 201 #[.slice (some ⟨g, 0, none⟩) l.length cap, .func (.func 202) #[] #[]] [] [Ac g (A5 l ++ rest) 107] (fun _ : {l' : List Cl // l'.Perm l ∧ l'.Pairwise fun a b => Cm b a = false} => .tuple #[]) (fun _ => []) (fun x => [Ac g (A5 x.1 ++ rest) 107]) := by
 intro ok w hok hs; have hg : w.heap[g]? = some (.cells (A5 l ++ rest).toArray 107 (0, 0)) := hs.res _ List.mem_cons_self w (fun _ _ => rfl); have hlt : g < w.heap.size := (Array.getElem?_eq_some_iff.mp hg).1; have hu : prog.underlying 107 = some (.struct (TyF.fC prog)) := TyF.uC
 have aE : ∀ w, (isAgg (Tryz.Rf.t 24)).run prog w = .ok true w := fun w => by
  show (isAgg 107).run prog w = _; simp [isAgg, run_underlying hu]
 have zE : ∀ w, (Go.sizeOf (Tryz.Rf.t 24)).run prog w = .ok 2 w := fun w => Gh (P := prog) (t := 107) rfl w
 have hH : HoldsK Ai 2 w g 0 l.toArray := by
  intro j hj; rw [size_flatK] at hj; have e : (flatK Ai 2 l.toArray).toList = A5 l := by rw [Qw]
  have hsz : j < (flatK Ai 2 l.toArray).size := by rw [size_flatK]; exact hj
  have h1 : (A5 l)[j]? = some (flatK Ai 2 l.toArray)[j]! := by
   rw [← e, Array.getElem?_toList, Array.getElem?_eq_getElem hsz, getElem!_pos _ j hsz]
  refine ⟨?_, by simp [World.frozen?, hg]⟩; have hlen : j < (A5 l).length := (List.getElem?_eq_some_iff.mp h1).1; simp only [World.cell?, hg, Nat.zero_add, Option.isSome_none, Bool.false_eq_true, if_false, List.getElem?_toArray, id]; rw [List.getElem?_append_left hlen]; exact h1
 have hc := AnyQ.slices_SortFunc (P := prog) Tryz.C2x 2 aE zE Ai De (fun x v hv => by
   simp only [Ai, List.mem_cons, List.not_mem_nil, or_false] at hv; rcases hv with rfl | rfl <;> rfl) A3y C2f 202 #[] g 0 cap l.toArray w call202
  (fun m os dk hsz x y => D2f x y _) hH hlt (by simpa using hn)
 have hc2 : Calls prog 201 #[.slice (some ⟨g, 0, none⟩) l.length cap, .func (.func 202) #[] #[]] w _ := hc; refine hc2.mono ?_; rintro e w' ⟨he, d', n, os, hp, hsd, hw⟩; have hsize : d'.size = l.length := by simpa using hp.1
 have hperm : d'.toList.Perm l := by
  have := hp.2.2; have e1 : d'.extract 0 l.toArray.size = d' := by rw [show l.toArray.size = d'.size by simp [hsize]]; simp
  have e2 : l.toArray.extract 0 l.toArray.size = l.toArray := by simp
  rw [e1, e2] at this; exact this
 have hsorted : d'.toList.Pairwise fun a b => Cm b a = false := by
  rw [List.pairwise_iff_getElem]; intro i j hi hj hij; have hi' : i < d'.size := by simpa using hi
  have hj' : j < d'.size := by simpa using hj
  have := hsd i j (Nat.zero_le _) hij (by simp; omega); rw [A0e, getElem!_pos d' j hj', getElem!_pos d' i hi'] at this; simpa using this
 have hg' : w'.heap[g]? = some (.cells (A5 d'.toList ++ rest).toArray 107 (0, 0)) := by
  rw [hw]; show ((mapBlock (Go.Sort.ahead w n) g (putCells id 0 (flatK Ai 2 d'))).heap ++ os)[g]? = _; rw [Array.getElem?_append_left (by simp [mapBlock, Go.Sort.ahead]; exact hlt)]; simp only [mapBlock, Go.Sort.ahead, Array.getElem?_modify, if_true, hg, Option.map_some, onCells]; rw [B1i d' l rest hsize]
 have hold : ∀ b, b < w.heap.size → b ≠ g → w'.heap[b]? = w.heap[b]? := by
  intro b hb hne; rw [hw]; show ((mapBlock (Go.Sort.ahead w n) g (putCells id 0 (flatK Ai 2 d'))).heap ++ os)[b]? = _; rw [Array.getElem?_append_left (by simp [mapBlock, Go.Sort.ahead]; exact hb)]; simp only [mapBlock, Go.Sort.ahead, Array.getElem?_modify, if_neg (Ne.symm hne)]
 have hsz' : w.heap.size ≤ w'.heap.size := by rw [hw]; simp [sortWorldK, putRowK, Go.Sort.ahead]
 refine ⟨⟨d'.toList, hperm, hsorted⟩, he, ?_⟩; have h0 : St ⟨ok, B4 [Ac g (A5 l ++ rest) 107], w⟩ [] ([Ac g (A5 l ++ rest) 107]) w := hs
 refine h0.Dc (m' := Ac g (A5 d'.toList ++ rest) 107) ⟨by rw [hw]; rfl, by rw [hw]; rfl, by rw [hw]; rfl, hsz', fun b hb hn => hold b hb hn⟩ (fun w2 hw2 => by
  show w2.heap[g]? = _; rw [hw2 g rfl]; exact hg') (fun b hb => ?_)
 have hb : b = g := hb; subst hb; exact ⟨by omega, .inl rfl⟩
end Go.Hy
namespace Go.Hy
open Go.Proofs Go.Proofs.Tryz
set_option maxRecDepth 100000
theorem A8m {M : List Aw} : M.Perm (M ++ []) := by rw [List.append_nil]
theorem A6m (l : List Cl) (a : SH) (c : FuncId) (cap : List Value) (FΓ : List Fact) (M : List Aw) (g : Cl → Bool) (hc : ∀ (args : Array Value) (w : World), (callFunc c args).run prog w = .ok (.enter c args) w) (hcl : ∀ x, x ∈ l → Spec prog c (Fb x :: cap).toArray FΓ M (fun _ : Unit => .bool (g x)) (fun _ => []) (fun _ => M)) : Spec prog 250 #[sl a l.length, .func (.func c) #[] cap.toArray] (CL l a :: FΓ) M (fun _ : Unit => iv (A6n g l)) (fun _ => []) (fun _ => M) := by
 refine D8 ntmps250 fun B hB => ?_
 refine A6 (l := l) (a := a) (fun hl1 hA1 hU1 => ?_); refine Mu ?_; refine Dm (X := Nat) (fun i => i ≤ l.length ∧ ∀ j, j < i → g (l.getD j Bm) = false) (fun i => [(0, sl a l.length), (1, .func (.func c) #[] cap.toArray), (7, iv (l.length : Int)), (8, iv (i : Int))]) (fun i => CL l a :: FΓ) (fun i => M) (fun i => l.length - i) (0) (⟨Nat.zero_le _, fun j hj => by omega⟩) (by exact Dk) ?_ ?_
 ·exact fun w hs => hs
 ·intro i base0 ⟨hi, hok⟩ next0; refine E0 ?_; refine A1 (fun h9 => ?_) (fun h9 => ?_)
  ·have hlt : i < l.length := by have := of_decide_eq_true h9; omega
   obtain ⟨bk, o, hav⟩ := hA1 A3; refine T9 ?_; refine I8 ?_; refine R5 ?_; refine E1 ?_; refine Oe ?_; refine R6 ?_; refine q0 rfl (C7 hc (hcl _ (Ae hlt)) (cap := cap) (fun x16 => ?_) (hm := A8m)); refine Jj ?_; refine A1 (fun h16 => ?_) (fun h16 => ?_)
   ·refine I8 ?_; refine Ao f_ rfl A7 () (by rw [C1o hlt h16 hok]) (fun w hs => (hs.l8).Bw)
   ·refine Hr ?_; refine A2 (fun w hs => ?_) (next0 (i + 1) _ ⟨hlt, fun j hj => (by rcases Nat.lt_succ_iff_lt_or_eq.mp hj with h | h; exact hok j h; subst h; exact h16)⟩ A3 Dk); exact (hs.l9).Bw
  ·have hge : i = l.length := by have := of_decide_eq_false h9; omega
   refine Km ?_; refine Ao f_ rfl A7 () (by rw [B2o (by rw [← hge]; exact hok)]) (fun w hs => hs.l8)
theorem P2 (l : List Cl) (a : SH) (c : FuncId) (cap : List Value) (FΓ : List Fact) (M : List Aw) (g : Cl → Bool) (hc : ∀ (args : Array Value) (w : World), (callFunc c args).run prog w = .ok (.enter c args) w) (hcl : ∀ x, x ∈ l → Spec prog c (Fb x :: cap).toArray FΓ M (fun _ : Unit => .bool (g x)) (fun _ => []) (fun _ => M)) : Spec prog 198 #[sl a l.length, .func (.func c) #[] cap.toArray] (CL l a :: FΓ) M (fun _ : Unit => .bool (l.any g)) (fun _ => []) (fun _ => M) := by
 refine D8 ntmps198 fun B hB => ?_
 refine A7s ?_; refine q0 rfl (A0 call250 (A6m l a c cap FΓ M g hc hcl) (fun x7 => ?_) (hm := A8m)); refine A0u ?_; refine Ci ?_; refine Ao f_ rfl A7 () (by rw [A3k]) (fun w hs => (hs.l8).Bw)
theorem Zm (c d : Cl) (hc : u32 c) (hd : u32 d) (b : Nat) : Spec prog 199 #[Fb d, pz b] [] [Ac b (Ai c) 107] (fun _ : Unit => .bool (!decide (c = d) && below c d)) (fun _ => []) (fun _ => [Ac b (Ai c) 107]) := by
 refine D8 ntmps199 fun B hB => ?_
 refine B2 ?_; refine q0 rfl (Az fun b2 => ?_); refine Ci ?_; refine F7 ?_; refine Fs ?_; refine q0 rfl (C9q ?_ (c := c) (c' := d)); refine E1 ?_; refine qI rfl rfl rfl J1 (fun hg7 => Na ?_) (fun hg7 => ?_)
 ·refine qT rfl rfl rfl (Na ?_); refine qT rfl rfl rfl (A0 call200 (A7i c d hc hd) (fun x10 => ?_)); refine G1 ?_; refine Ao f_ rfl A7 () (by simp_all) (fun w hs => (hs.l8).drop)
 ·refine Fg ?_; refine G6 ?_; refine Ao f_ rfl A7 () (by simp_all) (fun w hs => (hs.l8).drop)
theorem A3d (l : List Cl) (a : SH) (c : Cl) (hc : u32 c) (b : Nat) : Spec prog 197 #[Fb c, pz b] [CL l a] [Ac b [sl a l.length] 22] (fun _ : Unit => .bool (Bt l c)) (fun _ => []) (fun _ => [Ac b [sl a l.length] 22]) := by
 refine D8 ntmps197 fun B hB => ?_
 refine A6 (l := l) (a := a) (fun hl1 hA1 hU1 => ?_); refine B2 ?_; refine q0 rfl (Az fun b2 => ?_); refine Mb ?_; refine P9 ?_; refine Mo ?_; refine q0 rfl (A0 call198 (P2 l a 199 [pz b2] [] [Ac b2 (Ai c) 107] (fun d => !decide (c = d) && below c d) call199 (fun d hd => Zm c d hc (hU1 d hd) b2)) (fun x6 => ?_)); refine Ci ?_; refine Ao f_ rfl A7 () rfl (fun w hs => (hs.l8).drop)
theorem T1 (l : List Cl) (c : Cl) : A5 (l ++ [c]) = A5 l ++ Ai c := by simp [A5]
theorem Yr (l : List Cl) (a : SH) (n : Nat) (hn : n = l.length) (hb : n * 8 ≤ reach) :
  Spec prog 201 #[sl a n, .func (.func 202) #[] #[]] [] [Al 2 107 a n (A5 l)] (fun _ : {l' : List Cl // A0n l l'} => .tuple #[]) (fun _ => []) (fun x => [Al 2 107 a n (A5 x.1)]) := by
 subst hn; intro ok w hok hs; have hown : w.ownsRow 0 107 2 (sl a l.length) l.length (A5 l) := hs.res _ List.mem_cons_self w (fun _ _ => rfl); rcases hown.2 with ⟨h1, h2⟩ | ⟨g, cap, cur, h1, h2, h3, h4, h5, h6, h7⟩
 ·have hl : l = [] := List.eq_nil_of_length_eq_zero h2; subst hl; have hc := AnyF.slices_SortFunc_none (P := prog) Tryz.C2x a.1 a.2 (.func (.func 202) #[] #[]) w; have hc2 : Calls prog 201 #[sl a 0, .func (.func 202) #[] #[]] w _ := hc; refine hc2.mono ?_; rintro e w' ⟨he, hw⟩; subst hw; exact ⟨⟨[], List.Perm.refl _, List.Pairwise.nil⟩, he, hs⟩
 ·obtain ⟨ao, ac⟩ := a; have e1 : ao = some ⟨g, 0, none⟩ := by injection h1
  have e2 : ac = cap := by injection h1
  subst e1; subst e2
  have hfl : cur.toList = A5 l ++ cur.toList.drop (l.length * 2) := by
   have := List.take_append_drop (l.length * 2) cur.toList; rw [h7] at this; exact this.symm
  have hbox : St ⟨ok, B4 [Al 2 107 (some ⟨g, 0, none⟩, ac) l.length (A5 l)], w⟩ [] [Ac g (A5 l ++ cur.toList.drop (l.length * 2)) 107] w := by
   refine hs.Dc (m' := Ac g (A5 l ++ cur.toList.drop (l.length * 2)) 107) (Pv.refl _ _) (fun w2 hw2 => ?_) (fun b hb => ?_)
   ·show w2.heap[g]? = _; rw [hw2 g rfl, ← hfl, Array.toArray_toList]; exact h3
   ·have hb : b = g := hb; subst hb; exact ⟨(Array.getElem?_eq_some_iff.mp h3).1, .inl rfl⟩
  have hdom : ∀ b, B4 [Al 2 107 (some ⟨g, 0, none⟩, ac) l.length (A5 l)] b ↔ B4 [Ac g (A5 l ++ cur.toList.drop (l.length * 2)) 107] b := by
   intro b; rw [E9, E9]
   have : (Al 2 107 (some ⟨g, 0, none⟩, ac) l.length (A5 l)).dom b ↔ b = g := by
    show (sl (some ⟨g, 0, none⟩, ac) l.length).ownBlock = some b ↔ b = g; simp only [sl, Value.ownBlock, Option.some.injEq]; exact eq_comm
   rw [this]; rfl
  have hd2 : B4 [Al 2 107 (some ⟨g, 0, none⟩, ac) l.length (A5 l)] = B4 [Ac g (A5 l ++ cur.toList.drop (l.length * 2)) 107] := funext fun b => propext (hdom b)
  rw [hd2] at hbox; refine (B1d l g ac (cur.toList.drop (l.length * 2)) (by unfold reach at hb; omega) ok w (fun b hb => ⟨(hok b hb).1, by rw [← hd2]; exact (hok b hb).2⟩) hbox).mono ?_; rintro e w' ⟨x, he, hs'⟩; refine ⟨⟨x.1, x.2.1, x.2.2⟩, he, ?_⟩; rw [hd2]; have hlen : x.1.length = l.length := x.2.1.length_eq; have hg : w'.heap[g]? = some (.cells (A5 x.1 ++ cur.toList.drop (l.length * 2)).toArray 107 (0, 0)) := hs'.res _ List.mem_cons_self w' (fun _ _ => rfl); have hfl2 : (A5 x.1).length = l.length * 2 := by rw [Jf De, hlen]
  refine hs'.Dc (m' := Al 2 107 (some ⟨g, 0, none⟩, ac) l.length (A5 x.1)) (Pv.refl _ _) (fun w2 hw2 => ⟨hfl2, .inr ⟨g, ac, (A5 x.1 ++ cur.toList.drop (l.length * 2)).toArray, rfl, Nat.zero_le _, ?_, h4, h5, ?_, ?_⟩⟩) (fun b hb => ?_)
  ·rw [hw2 g rfl]; exact hg
  ·have h8 : cur.toList.length = ac * 2 := by simpa using h6
   simp only [List.size_toArray, List.length_append, List.length_drop, hfl2, h8]; omega
  ·rw [← hfl2, List.take_left]
  ·have hb : (sl (some ⟨g, 0, none⟩, ac) l.length).ownBlock = some b := hb; simp only [sl, Value.ownBlock, Option.some.injEq] at hb; subst hb; exact ⟨(Array.getElem?_eq_some_iff.mp hg).1, .inl rfl⟩
theorem Xt (l : List Cl) (a : SH) : Spec prog 110 #[sl a l.length] [CL l a] [] (fun x : {x : SH × Int × List Cl // Gc l x.2} => .tuple #[sl x.1.1 x.1.2.2.length, iv x.1.2.1]) (fun _ => []) (fun x => [Al 2 107 x.1.1 x.1.2.2.length (A5 x.1.2.2)]) := by
 refine D8 ntmps110 fun B hB => ?_
 refine A6 (l := l) (a := a) (fun hl1 hA1 hU1 => ?_); refine F0 ?_; refine B2 ?_; refine q0 rfl (B1v fun b12 => ?_); refine Mb ?_; refine q0 rfl (B5 fun b5 => ?_); refine Jj ?_; refine B3t ?_; refine Dm (X := Nat × SH) (fun s => s.1 ≤ l.length ∧ ∀ j, j < s.1 → Ap (l.getD j Bm) = true) (fun s => [(4, .map (some b12)), (5, pz b5), (13, sl a l.length), (14, iv (l.length : Int)), (15, iv (s.1 : Int))]) (fun s => [CL l a]) (fun s => [Us b12 (once (l.take s.1)), Ac b5 [sl s.2 (once (l.take s.1)).length] 22, Al 2 107 s.2 (once (l.take s.1)).length (A5 (once (l.take s.1)))]) (fun s => l.length - s.1) ((0, (none, 0))) (⟨Nat.zero_le _, fun j hj => absurd hj (Nat.not_lt_zero _)⟩) (by exact Dk) ?_ ?_
 ·exact fun w hs => ((hs.l8).C3 2 107).perm (Bf.trans ((List.Perm.swap _ _ _).cons _))
 ·intro ⟨i, aO⟩ base0 ⟨hi, hok⟩ next0; dsimp only at hi hok next0 ⊢; refine E0 ?_; refine A1 (fun h16 => ?_) (fun h16 => ?_)
  ·have hlt : i < l.length := by have := of_decide_eq_true h16; omega
   obtain ⟨bk, o, hav⟩ := hA1 A3; have hu := hU1 _ (Ae (d := Bm) hlt); have hol := W8 l i; refine Ic ?_; refine Oe ?_; refine R6 ?_; refine q0 rfl (B5 fun b7 => ?_); refine Jq ?_; refine F7 ?_; refine q0 rfl (A0 call196 (L8 (l.getD i Bm) hu) (fun x20 => ?_)); refine Iz ?_; refine A1 (fun h21 => ?_) (fun h21 => ?_)
   ·have hr : Ap (l.getD i Bm) = false := by simpa using h21
    refine F0 ?_; refine Bh f_ rfl A7 A7 ⟨((none, 0), 2, []), by (unfold Gc; rw [C2p hlt hr]; rfl)⟩ rfl (fun w hs => (hs.l7).bare.C3 2 107)
   ·have hr : Ap (l.getD i Bm) = true := by simpa using h21
    refine Gu ?_; refine Oq ?_; refine q0 rfl (B1w ?_); refine Iz ?_; refine A1 (fun h25 => ?_) (fun h25 => ?_)
    ·have hnin : l.getD i Bm ∉ once (l.take i) := by simpa using h25
     refine Oq ?_; refine q0 rfl (B6l ?_); refine Jj ?_; refine Iy ?_; refine P9 ?_; refine Fs ?_; refine q0 rfl (Dd fun b30 => ?_); refine q0 rfl (Ed (fun a31 => ?_)  ); refine Ey ?_; refine P5 ?_; have hst := N8 hlt; rw [if_neg hnin] at hst; have hlen' : (once (l.take (i + 1))).length = (once (l.take i)).length + 1 := by rw [hst]; simp
     refine A2 (fun w hs => ?_) (next0 (i + 1, a31) _ ⟨hlt, fun j hj => (by rcases Nat.lt_succ_iff_lt_or_eq.mp hj with h | h; exact hok j h; subst h; exact hr)⟩ (by simp only; omega) Dk); dsimp only; rw [hlen', hst, T1]; exact ((hs.l8).perm Dw).Bw (A := [_, _, _])
    ·refine Hr ?_; have hin : l.getD i Bm ∈ once (l.take i) := by simpa using h25
     have hst := N8 hlt; rw [if_pos hin] at hst; refine A2 (fun w hs => ?_) (next0 (i + 1, aO) _ ⟨hlt, fun j hj => (by rcases Nat.lt_succ_iff_lt_or_eq.mp hj with h | h; exact hok j h; subst h; exact hr)⟩ (by simp only; omega) Dk); dsimp only; rw [hst]; exact (hs.l8).drop
  ·have hge : i = l.length := by have := of_decide_eq_false h16; omega
   have hall : l.all Ap = true := C8p (by rw [← hge]; exact hok); subst hge; rw [List.take_length]; have hUo : ∀ c, c ∈ once l → u32 c := fun c hc => hU1 c ((Kv c l).mp hc)
   have hol := Qe l; refine A2 (fun w hs => ((hs.perm Bf).D7 hB rfl rfl A3 hUo)) ?_; refine En ?_; refine B2 ?_; refine Mo ?_; refine Ci ?_; refine C9 ?_; refine F9 ?_; refine B2 ?_; refine P9 ?_; refine B0m ?_; refine Dm (X := Nat × SH) (fun s => s.1 ≤ (once l).length) (fun s => [(8, .func (.func 197) #[] [pz b5].toArray), (9, sl s.2 (Em l s.1).length), (34, sl aO (once l).length), (35, iv ((once l).length : Int)), (36, iv (s.1 : Int))]) (fun s => [CL (once l) aO]) (fun s => [Ac b5 [sl aO (once l).length] 22, Al 2 107 s.2 (Em l s.1).length (A5 (Em l s.1))]) (fun s => (once l).length - s.1) ((0, (none, 0))) (Nat.zero_le _) (by exact Dk) ?_ ?_
   ·exact fun w hs => (((hs.l9).C3 2 107).perm Bf).Bw (A := [_, _])
   ·intro ⟨i, aK⟩ base1 hi next1; dsimp only at hi next1 ⊢; refine E0 ?_; refine A1 (fun h37 => ?_) (fun h37 => ?_)
    ·have hlt : i < (once l).length := by have := of_decide_eq_true h37; omega
     refine A6 (l := once l) (a := aO) (fun _ hA2 _ => ?_); obtain ⟨bk, o, hav⟩ := hA2 A3; have hu := hUo _ (Ae (d := Bm) hlt); have hkl := Zo l i; refine Ic ?_; refine Oe ?_; refine R6 ?_; refine q0 rfl (B5 fun b11 => ?_); refine Ey ?_; refine Oq ?_; refine q0 rfl (C7 call197 (A3d (once l) aO ((once l).getD i Bm) hu b5) (cap := [pz b5]) (fun x42 => ?_)); refine Iz ?_; refine A1 (fun h43 => ?_) (fun h43 => ?_)
     ·refine Dj ?_; refine Fs ?_; refine q0 rfl (Dd fun b46 => ?_); refine q0 rfl (Ed (fun a47 => ?_)  ); refine Ot ?_; have hnd : Bt (once l) ((once l).getD i Bm) = false := by simpa using h43
      have hst := Oy hlt; rw [hnd, if_neg I4] at hst; have hlen' : (Em l (i + 1)).length = (Em l i).length + 1 := by rw [hst]; simp
      refine A2 (fun w hs => ?_) (next1 (i + 1, a47) _ hlt (by simp only; omega) ⟨rfl, by rw [hlen']; rfl, rfl, rfl, rfl, trivial⟩); dsimp only; rw [hlen', hst, T1]; exact ((hs.l8).perm Bf).Bw (A := [_, _])
     ·refine Hr ?_; have hnd : Bt (once l) ((once l).getD i Bm) = true := by simpa using h43
      have hst := Oy hlt; rw [hnd, if_pos rfl] at hst; refine A2 (fun w hs => ?_) (next1 (i + 1, aK) _ hlt (by simp only; omega) ⟨rfl, by rw [hst]; rfl, rfl, rfl, rfl, trivial⟩); dsimp only; rw [hst]; exact (hs.l8).Bw (A := [_, _])
    ·have hge2 : i = (once l).length := by have := of_decide_eq_false h37; omega
     subst hge2; rw [Zp]; refine En ?_; refine Gt ?_; refine H6 ?_; refine B0p ?_; refine Jj ?_; refine A1 (fun h51 => ?_) (fun h51 => ?_)
     ·have h64 : 64 < (kept l).length := by have := of_decide_eq_true h51; omega
      refine F0 ?_; refine Bh f_ rfl A7 A7 ⟨((none, 0), 3, []), by (unfold Gc; rw [hall, if_neg I4, if_pos h64])⟩ rfl (fun w hs => (hs.l7).bare.C3 2 107)
     ·have h64 : ¬ 64 < (kept l).length := by have := of_decide_eq_false h51; omega
      refine Gu ?_; refine Ef ?_; refine q0 rfl (A0 call201 (Yr (kept l) aK (kept l).length rfl (by unfold reach; omega)) (fun x53 => ?_)); refine Jj ?_; refine Ki ?_; have hpl : x53.1.length = (kept l).length := x53.2.1.length_eq; refine Bh f_ rfl A7 A7 ⟨(aK, 0, x53.1), by (unfold Gc; rw [hall, if_neg I4, if_neg h64]; exact ⟨rfl, x53.2⟩)⟩ (by rw [hpl]; rfl) (fun w hs => ?_); have h := (hs.l7).Bw (A := [_]); rw [← hpl] at h; exact h
theorem A6j (l : List Cl) (a : SH) : Spec prog 110 #[sl a l.length] [CL l a] [] (fun x : {x : SH × Int × List Cl // Gc l x.2} => .tuple #[sl x.1.1 x.1.2.2.length, iv x.1.2.1]) (fun x => [CL x.1.2.2 x.1.1]) (fun _ => []) := fun ok w hok hs => (Xt l a ok w hok hs).mono fun e w' h => by
 obtain ⟨x, he, hs'⟩ := h; have hu := (hs.facts _ List.mem_cons_self).2
 have hx : x.1.2.2.length ≤ 64 ∧ ∀ c, c ∈ x.1.2.2 → u32 c := by
  have h := x.2; unfold Gc at h; split at h
  ·rw [h]; exact ⟨Nat.zero_le _, fun c hc => by cases hc⟩
  ·split at h
   ·rw [h]; exact ⟨Nat.zero_le _, fun c hc => by cases hc⟩
   ·rename_i h64; exact ⟨by rw [h.2.1.length_eq]; omega, fun c hc => hu c (B7m (h.2.1.mem_iff.mp hc))⟩
 exact ⟨x, he, (hs'.D7 trivial rfl rfl (by unfold reach; omega) hx.2).l8⟩
theorem A6t (l m : List Cl) (a b : SH) : Spec prog 111 #[sl a l.length, sl b m.length] [CL l a, CL m b] [] (fun _ : Unit => .bool (decide (l = m))) (fun _ => []) (fun _ => []) := by
 refine D8 ntmps111 fun B hB => ?_
 refine A6 (l := l) (a := a) (fun hl1 hA1 hU1 => ?_); refine A6 (l := m) (a := b) (fun hl2 hA2 hU2 => ?_); refine C9 ?_; refine Gt ?_; refine H6 ?_; refine E1 ?_; refine H6 ?_; refine A4q ?_; refine A1 (fun h10 => ?_) (fun h10 => ?_)
 ·have hne : ¬ l = m := fun e => by subst e; simp at h10
  refine C9 ?_; refine Ao f_ rfl A7 () (by rw [decide_eq_false hne]) (fun w hs => hs.none)
 ·have hlen : l.length = m.length := by simp at h10; omega
  refine Gu ?_; refine B3t ?_; refine Dm (X := Nat) (fun i => i ≤ l.length ∧ ∀ j, j < i → l.getD j Bm = m.getD j Bm) (fun i => [(0, sl a l.length), (1, sl b m.length), (12, iv (l.length : Int)), (13, iv (i : Int))]) (fun i => [CL l a, CL m b]) (fun i => []) (fun i => l.length - i) (0) (⟨Nat.zero_le _, fun j hj => by omega⟩) (by exact Dk) ?_ ?_
  ·exact fun w hs => hs.l9
  ·intro i base0 ⟨hi, hok⟩ next0; refine E0 ?_; refine A1 (fun h14 => ?_) (fun h14 => ?_)
   ·have hlt : i < l.length := by have := of_decide_eq_true h14; omega
    have hlt2 : i < m.length := by omega
    obtain ⟨bk, o, hav⟩ := hA1 A3; obtain ⟨bk2, o2, hav2⟩ := hA2 A3; refine T9 ?_; refine Ef ?_; refine Ff ?_; refine Ca (pn := 1000000) (tn := false) (A := [0, 0, 3, 7, 0, 0, 48, 112, 255]) (l := [0, 1, 2, 3, 4, 5, 6, 7, 8]) (fin := []) Tab.mixed ⟨_, func111⟩ (by rfl) ?_; refine Jp ?_; refine n0 rfl (Jr ?_); refine n0 rfl (A7z ?_); refine Jp ?_; refine n0 rfl (Jr ?_); refine n0 rfl (A7z ?_); refine n0 rfl (C2s ?_); refine T7 ?_; refine A1 (fun h24 => ?_) (fun h24 => ?_)
    ·refine C9 ?_; refine Ao f_ rfl A7 () (by rw [decide_eq_false (fun e => by subst e; simp at h24)]) (fun w hs => hs.none)
    ·refine Hr ?_; have hb : l.getD i Bm = m.getD i Bm := by simpa using h24
     refine A2 (fun w hs => ?_) (next0 (i + 1) _ ⟨hlt, fun j hj => (by rcases Nat.lt_succ_iff_lt_or_eq.mp hj with h | h; exact hok j h; subst h; exact hb)⟩ A3 Dk); exact hs
   ·have hge : i = l.length := by have := of_decide_eq_false h14; omega
    refine Km ?_; refine Ao f_ rfl A7 () (by rw [decide_eq_true (Lv hlen (by rw [← hge]; exact hok))]) (fun w hs => hs.none)
theorem Fp : B9h := by
 intro l a; refine D8 ntmps63 fun B hB => ?_
 refine Bx (p := True) (fun _ _ => trivial) (fun _ => ?_); refine Oo ?_; refine q0 rfl (A0 call110 (A6j l a) (fun x7 => ?_)); refine Tl ?_; refine Ef ?_; refine A0x ?_; refine E1 ?_; refine qI rfl rfl rfl J1 (fun hg12 => E2 ?_) (fun hg12 => ?_)
 ·refine Hq ?_; refine qT rfl rfl rfl (A0 call111 (A6t x7.1.2.2 l x7.1.1 a) (fun x15 => ?_)); refine G1 ?_; have hlr := Nh x7.2; refine Ao f_ rfl A7 () (by rw [← hlr]; simp_all) (fun w hs => hs.none)
 ·refine Fg ?_; refine G6 ?_; have hlr := Nh x7.2; refine Ao f_ rfl A7 () (by rw [← hlr]; simp_all) (fun w hs => hs.none)
theorem Nk : Yf := by
 intro l a; refine D8 ntmps193 fun B hB => ?_
 refine A6 (l := l) (a := a) (fun hl1 hA1 hU1 => ?_); refine Oo ?_; refine q0 rfl (A0 call63 (Fp l a) (fun x4 => ?_)); refine E1 ?_; refine qI rfl rfl rfl J1 (fun hg5 => E2 ?_) (fun hg5 => ?_)
 ·refine qT rfl rfl rfl (A0 call198 (P2 l a 248 [] [] [] I2 call248 (fun x hx => Vh x (hU1 x hx))) (fun x7 => ?_)); refine qT rfl rfl rfl (Xj ?_); refine G1 ?_; refine Ao f_ rfl A7 () (by simp_all [A4]) (fun w hs => hs.none)
 ·refine Fg ?_; refine G6 ?_; refine Ao f_ rfl A7 () (by simp_all [A4]) (fun w hs => hs.none)
theorem L3 : A7q := ⟨Fp, Nk, A6s⟩
theorem A8l {m : Nat} (h : m ≤ 24) : 2 ^ m ≤ 16777216 := Nat.pow_le_pow_right (n := 2) (j := 24) A3 h
theorem B0c (i : Int) (h0 : 0 ≤ i) : Spec prog 239 #[iv (i)] [] [] (fun _ : Unit => .int .u32 (((2 ^ (min i.toNat 24) - 1) : Nat) : Int)) (fun _ => []) (fun _ => []) := by
 refine D8 ntmps239 fun B hB => ?_
 have hp := A8l (m := min i.toNat 24) A3; have hpos : 0 < 2 ^ (min i.toNat 24) := Nat.pow_pos A3; refine Oo ?_; refine q0 rfl (A2g ?_); refine q0 rfl (Qg ?_ (m := min i.toNat 24) (ha := by split <;> omega)); refine q0 rfl (A5z ?_ (a := 1) (m := min i.toNat 24) (hm := by omega) (hb := by omega)); refine q0 rfl (C5e ?_ (a := 1 * 2 ^ (min i.toNat 24)) (b := 1) (h := by omega) (ha := by omega)); refine q0 rfl (A2i ?_ (a := 1 * 2 ^ (min i.toNat 24) - 1) (ha := by omega)); refine Ci ?_; refine Ao f_ rfl A7 () (by rw [Nat.one_mul]) (fun w hs => hs.none)
theorem Ox (s : Nat) (f : Int) (b : Int) (hs : s < 4294967296) (hi : Aq f) (hib : Aq b) : Spec prog 238 #[.int .u32 ((s : Nat) : Int), iv (f), iv (b)] [] [] (fun _ : Unit => .tuple #[.int .u32 (((Ah s f b).2 : Nat) : Int), iv ((Ah s f b).1)]) (fun _ => []) (fun _ => []) := by
 refine D8 ntmps238 fun B hB => ?_
 have hs24 := Jh s; have hp := A8l (m := min f.toNat 24) A3; have hpos : 0 < 2 ^ (min f.toNat 24) := Nat.pow_pos A3; have hhi : Ax (s &&& 16777215) (2 ^ (min f.toNat 24) - 1) < 16777216 := Yd hs24; have hlo : (s &&& 16777215) &&& (2 ^ (min f.toNat 24) - 1) < 16777216 := Nat.lt_of_le_of_lt Nat.and_le_left hs24; refine F0 ?_; refine F9 ?_; refine F9 ?_; refine By ([(0, .int .u32 ((s : Nat) : Int)), (1, iv (f)), (2, iv (b)), (15, .bool ((decide (f < 0)) || (decide (b < 0))))]) (fun hK => ?_) (fun base => ?_)
 ·refine Dj ?_; refine Ta ?_; refine E1 ?_; refine Xa rfl (decide (f < 0)) (fun hg12 g12 => ?_) (fun hg12 g12 => ?_)
  ·refine Yi ?_; refine A4v ?_; refine I6 ?_; exact hK _ ⟨rfl, rfl, rfl, P0, trivial⟩
  ·refine Od ?_; refine Hn ?_; exact hK _ ⟨rfl, rfl, rfl, P0, trivial⟩
 ·refine D2 ((decide (f < 0)) || (decide (b < 0))) (fun h15 c15 => ?_) (fun h15 c15 => ?_)
  ·have hg : Ah s f b = (2, 0) := by rw [Ah, if_pos A3]
   refine F0 ?_; refine Bh f_ rfl A7 A7 () (by first | (rw [hg]; done) | (rw [hg]; rfl)) (fun w hs => hs.none)
  ·have hfb : 0 ≤ f ∧ 0 ≤ b := by omega
   refine Gu ?_; refine Ef ?_; refine q0 rfl (Ky ?_ (a := s) (b := 16777215)); refine Ci ?_; refine R5 ?_; refine q0 rfl (A0 call239 (B0c f O4) (fun x20 => ?_)); refine q0 rfl (Ky ?_ (a := s &&& 16777215) (b := 2 ^ (min f.toNat 24) - 1) (ha := by omega) (hb := by omega)); refine Ci ?_; refine R5 ?_; refine q0 rfl (A0 call239 (B0c f O4) (fun x24 => ?_)); refine q0 rfl (Sn ?_ (a := (s &&& 16777215)) (b := (2 ^ (min f.toNat 24) - 1))); refine q0 rfl (B6n ?_ (a := Ax (s &&& 16777215) (2 ^ (min f.toNat 24) - 1))); refine Ci ?_; refine Gt ?_; refine q0 rfl (A2h ?_ (a := ((Ax (s &&& 16777215) (2 ^ (min f.toNat 24) - 1) : Nat) : Int)) (b := 0)); refine Jj ?_; refine D2 (decide (((Ax (s &&& 16777215) (2 ^ (min f.toNat 24) - 1) : Nat) : Int) = 0)) (fun h28 c28 => ?_) (fun h28 c28 => ?_)
   ·have hz : Ax (s &&& 16777215) (2 ^ (min f.toNat 24) - 1) = 0 := by omega
    have hg : Ah s f b = (0, (s &&& 16777215) &&& (2 ^ (min f.toNat 24) - 1)) := by rw [Ah, if_neg A3, if_pos hz]
    refine Ki ?_; refine Bh f_ rfl A7 A7 () (by first | (rw [hg]; done) | (rw [hg]; rfl)) (fun w hs => hs.none)
   ·have hz : ¬ Ax (s &&& 16777215) (2 ^ (min f.toNat 24) - 1) = 0 := by omega
    refine K4 ?_; refine F9 ?_; refine By ([(2, iv (b)), (8, .int .u32 ((((s &&& 16777215) &&& (2 ^ (min f.toNat 24) - 1)) : Nat) : Int)), (9, .int .u64 (((Ax (s &&& 16777215) (2 ^ (min f.toNat 24) - 1) : Nat) : Int))), (38, .bool ((decide (24 ≤ b)) || (decide (16777215 < ((Ax (s &&& 16777215) (2 ^ (min f.toNat 24) - 1) * 2 ^ b.toNat : Nat) : Int)))))]) (fun hK => ?_) (fun base => ?_)
    ·refine Dj ?_; refine A0u ?_; refine E1 ?_; refine Xa rfl (decide (24 ≤ b)) (fun hg32 g32 => ?_) (fun hg32 g32 => ?_)
     ·refine Yi ?_; refine Hq ?_; refine qT rfl rfl rfl (Qg ?_ (m := b.toNat) (ha := by omega)); refine qT rfl rfl rfl (A5z ?_ (a := Ax (s &&& 16777215) (2 ^ (min f.toNat 24) - 1)) (m := b.toNat) (hm := by omega) (hb := by have := A8l (m := b.toNat) A3; have h9 := Nat.mul_le_mul (Nat.le_of_lt hhi) this; omega)); refine qT rfl rfl rfl (B6m ?_ (a := ((Ax (s &&& 16777215) (2 ^ (min f.toNat 24) - 1) * 2 ^ b.toNat : Nat) : Int)) (b := 16777215)); refine I6 ?_; exact hK _ ⟨rfl, rfl, rfl, P0, trivial⟩
     ·refine N0 ?_; refine Hn ?_; exact hK _ ⟨rfl, rfl, rfl, P0, trivial⟩
    ·refine D2 ((decide (24 ≤ b)) || (decide (16777215 < ((Ax (s &&& 16777215) (2 ^ (min f.toNat 24) - 1) * 2 ^ b.toNat : Nat) : Int)))) (fun h38 c38 => ?_) (fun h38 c38 => ?_)
     ·have hg : Ah s f b = (10, 0) := by rw [Ah, if_neg A3, if_neg hz, if_pos A3]
      refine F0 ?_; refine Bh f_ rfl A7 A7 () (by first | (rw [hg]; done) | (rw [hg]; rfl)) (fun w hs => hs.none)
     ·have hbig : ¬ (24 ≤ b ∨ 16777215 < Ax (s &&& 16777215) (2 ^ (min f.toNat 24) - 1) * 2 ^ b.toNat) := by omega
      have hg : Ah s f b = (0, ((s &&& 16777215) &&& (2 ^ (min f.toNat 24) - 1)) ||| (Ax (s &&& 16777215) (2 ^ (min f.toNat 24) - 1) * 2 ^ b.toNat)) := by rw [Ah, if_neg A3, if_neg hz, if_neg hbig]
      refine Om ?_; refine E1 ?_; refine q0 rfl (Qg ?_ (m := b.toNat) (ha := by omega)); refine q0 rfl (A5z ?_ (a := Ax (s &&& 16777215) (2 ^ (min f.toNat 24) - 1)) (m := b.toNat) (hm := by omega) (hb := by omega)); refine q0 rfl (A2i ?_ (a := Ax (s &&& 16777215) (2 ^ (min f.toNat 24) - 1) * 2 ^ b.toNat) (ha := by omega)); refine q0 rfl (O5 ?_ (a := (s &&& 16777215) &&& (2 ^ (min f.toNat 24) - 1)) (b := Ax (s &&& 16777215) (2 ^ (min f.toNat 24) - 1) * 2 ^ b.toNat) (ha := by omega) (hb := by omega)); refine Kk ?_; refine Bh f_ rfl A7 A7 () (by first | (rw [hg]; done) | (rw [hg]; rfl)) (fun w hs => hs.none)
theorem A3z (c : Cl) (f : Int) (b : Int) (hc : u32 c) (hi : Aq f) (hib : Aq b) : Spec prog 169 #[Fb c, iv (f), iv (b)] [] [] (fun _ : Unit => .tuple #[Fb ((B6 c f b).2), iv ((B6 c f b).1)]) (fun _ => []) (fun _ => []) := by
 refine D8 ntmps169 fun B hB => ?_
 have hcp := hc.1; have hcn := hc.2; have hp1 := Hw c.pos f b; have hp2 := Hw c.neg f b; refine B2 ?_; refine q0 rfl (Az fun b3 => ?_); refine q0 rfl (B5 fun b6 => ?_); refine Ff ?_; refine F7 ?_; refine q0 rfl (A0 call196 (L8 c O4) (fun x12 => ?_)); refine Iz ?_; refine D2 (!(Ap c)) (fun h13 c13 => ?_) (fun h13 c13 => ?_)
 ·have hg : B6 c f b = (2, Bm) := by rw [B6, if_pos (by simpa using h13)]
  refine B2 ?_; refine q0 rfl (B8 (cs := [.int .u32 ((((⟨0, 0⟩ : Cl)).pos : Nat) : Int), .int .u32 ((((⟨0, 0⟩ : Cl)).neg : Nat) : Int)]) ?_); refine G5 ?_; refine Dv f_ rfl () rfl mf_ rfl rfl rfl rfl (by rw [hg]; rfl) (fun w hs => hs.none)
 ·have hr : ¬ Ap c = false := by simpa using h13
  refine Gu ?_; refine K3 ?_; refine Gf ?_; refine q0 rfl (A0 call238 (Ox ((c).pos) f b O4 O4 O4) (fun x20 => ?_)); refine H8 ?_; refine D2 (decide (((Ah ((c).pos) f b).1) ≠ 0)) (fun h24 c24 => ?_) (fun h24 c24 => ?_)
  ·have hg : B6 c f b = ((Ah c.pos f b).1, Bm) := by rw [B6, if_neg hr, if_pos (by simpa using h24)]
   refine B2 ?_; refine q0 rfl (B8 (cs := [.int .u32 ((((⟨0, 0⟩ : Cl)).pos : Nat) : Int), .int .u32 ((((⟨0, 0⟩ : Cl)).neg : Nat) : Int)]) ?_); refine Kl ?_; refine Dv f_ rfl () rfl mf_ rfl rfl rfl rfl (by rw [hg]; rfl) (fun w hs => hs.none)
  ·have hr2 : ¬ (Ah c.pos f b).1 ≠ 0 := by simpa using h24
   refine Gu ?_; refine K3 ?_; refine Gf ?_; refine q0 rfl (A0 call238 (Ox ((c).neg) f b O4 O4 O4) (fun x32 => ?_)); refine H8 ?_; refine D2 (decide (((Ah ((c).neg) f b).1) ≠ 0)) (fun h36 c36 => ?_) (fun h36 c36 => ?_)
   ·have hg : B6 c f b = ((Ah c.neg f b).1, Bm) := by rw [B6, if_neg hr, if_neg hr2, if_pos (by simpa using h36)]
    refine B2 ?_; refine q0 rfl (B8 (cs := [.int .u32 ((((⟨0, 0⟩ : Cl)).pos : Nat) : Int), .int .u32 ((((⟨0, 0⟩ : Cl)).neg : Nat) : Int)]) ?_); refine Kl ?_; refine Dv f_ rfl () rfl mf_ rfl rfl rfl rfl (by rw [hg]; rfl) (fun w hs => hs.none)
   ·have hg : B6 c f b = (0, ⟨(Ah c.pos f b).2, (Ah c.neg f b).2⟩) := by rw [B6, if_neg hr, if_neg hr2, if_neg (by simpa using h36)]
    refine Om ?_; refine q0 rfl (B8 (cs := [.int .u32 ((((⟨(Ah ((c).pos) f b).2, (Ah ((c).neg) f b).2⟩ : Cl)).pos : Nat) : Int), .int .u32 ((((⟨(Ah ((c).pos) f b).2, (Ah ((c).neg) f b).2⟩ : Cl)).neg : Nat) : Int)]) ?_); refine G5 ?_; refine Dv f_ rfl () rfl mf_ rfl rfl rfl rfl (by rw [hg]; rfl) (fun w hs => hs.none)
theorem M0 (l : List CP) (a_l : SH)  : Spec prog 166 #[sl a_l (l.length)] [Jn l a_l] [] (fun _ : Unit => iv ((if l.all (fun p => Ab p.1) then 0 else 2))) (fun _ => []) (fun _ => []) := by
 refine D8 ntmps166 fun B hB => ?_
 refine Mu ?_; refine B3 (X := Nat) (fun s_ => s_ ≤ l.length ∧ ∀ j, j < s_ → Ab (l.getD j Cw).1 = true) (fun s_ => [(5, sl a_l (l.length)), (6, iv ((l.length : Int))), (7, iv ((s_ : Int)))]) (fun s_ G_ => G_) (fun s_ => []) (fun s_ => l.length - s_) (0) (⟨Nat.zero_le _, fun j hj => absurd hj (Nat.not_lt_zero _)⟩) (by exact Dk) ?_ ?_
 ·exact fun w hs => hs
 ·intro i base0 ⟨hi, hok⟩ next0; refine E0 ?_; refine D2 (decide ((i : Int) < (l.length : Int))) (fun h8 c8 => ?_) (fun h8 c8 => ?_)
  ·refine H9 ?_; refine Fm (l := l) (a := a_l) (bt := 24) (F := Cb) (E := Mn) (d := Cw) Ds (fun hl1 hA1 => ?_); refine K1 (l := l) (a := a_l) (bt := 24) (F := Cb) (E := Mn) (d := Cw) Ds i A3 ?_; refine Iy ?_; obtain ⟨bk2, o2, hav2⟩ := hA1 A3; refine q0 rfl (Dg ?_ (j := i)); refine q0 rfl (Zb ?_); refine A7t ?_; refine q0 rfl (A0 call63 (Fp (((l).getD i Cw).1) (((l).getD i Cw).2) ) (fun x12 => ?_)); refine Iz ?_; refine D2 (!(Ab (((l).getD i Cw).1))) (fun h13 c13 => ?_) (fun h13 c13 => ?_)
   ·refine C9 ?_; refine Ao f_ rfl A7 () (by rw [if_neg (by rw [M5 (d := Cw) (i := i) A3 (by simpa using h13)]; decide)]) (fun w hs => hs.none)
   ·refine Hr ?_; refine A2 (fun w hs => ?_) (next0 (i + 1) _ (⟨by omega, fun j hj => by rcases Nat.lt_succ_iff_lt_or_eq.mp hj with h | h; exact hok j h; subst h; simpa using h13⟩) A3 Dk); exact (hs.l9)
  ·refine Km ?_; refine Ao f_ rfl A7 () (by rw [if_pos (Nt (d := Cw) (fun j hj => hok j A3))]) (fun w hs => hs.none)
theorem Pm   : Spec prog 118 #[] [] [] (fun _ : Unit => sl (none, 0) 0) (fun _ => []) (fun _ => []) := by
 refine D8 ntmps118 fun B hB => ?_
 refine C9 ?_; refine C9 ?_; refine Ao f_ rfl A7 () (by first | rfl | (simp_all; done) | (simp_all; omega)) (fun w hs => hs.none)
theorem V5 (l : List Cl) (a : SH) (c : Cl) (g4 : Nat) (f : Int) (g5 : Nat) (b : Int) (hc : u32 c) (hi : Aq f) (hib : Aq b) (hl : l.length * 8 ≤ reach) : Spec prog 168 #[sl a (l.length), Fb c, pz g4, pz g5] [At g4 0 [iv (f)], At g5 0 [iv (b)]] [Al 2 107 a (l.length) (A5 l)] (fun x : SH => .tuple #[sl x (l.length + 1), iv (B6 c f b).1]) (fun x : SH => []) (fun x : SH => [Al 2 107 x (l.length + 1) (A5 (l ++ [(B6 c f b).2]))]) := by
 refine D8 ntmps168 fun B hB => ?_
 have hu9 := Pp c f b; refine B2 ?_; refine q0 rfl (Az fun b5 => ?_); refine Kk ?_; refine F7 ?_; refine Of ?_; refine Of ?_; refine q0 rfl (A0 call169 (A3z c f b O4 O4 O4) (fun x14 => ?_)); refine Jo ?_; refine q0 rfl (B5 fun b8 => ?_); refine G5 ?_; refine Oq ?_; refine q0 rfl (Dd fun b19 => ?_); refine q0 rfl (Ed (fun a20 => ?_) (a := a) (n' := l.length)); refine An (fun w hs => ((hs.perm Ar).drop).X6 (c := ((B6 c f b).2))) ?_; refine E1 ?_; refine Kk ?_; refine Bh f_ rfl A7 A7 a20 rfl (fun w hs => ((hs.l8).Bw (A := [_])))
set_option maxHeartbeats 4000000 in
theorem Wj (l : List Cl) (a_l : SH) (f b : Int) (g4 g5 : Nat) (hi : Aq f) (hib : Aq b) : Spec prog 167 #[sl a_l (l.length), sl (none, 0) (0), .func (.func 168) #[] [pz g4, pz g5].toArray] [CL l a_l, At g4 0 [iv f], At g5 0 [iv b]] [Al 2 107 (none, 0) (0) (A5 ([]))] (fun x : SH => .tuple #[sl x (Dy (fun c => B6 c f b) l).2.length, iv (Dy (fun c => B6 c f b) l).1]) (fun x : SH => []) (fun x : SH => [Al 2 107 x (Dy (fun c => B6 c f b) l).2.length (A5 (Dy (fun c => B6 c f b) l).2)]) := by
 rw [show (#[sl a_l (l.length), sl (none, 0) (0), .func (.func 168) #[] [pz g4, pz g5].toArray] : Array Value) = ([sl a_l (l.length), sl (none, 0) (0), .func (.func 168) #[] [pz g4, pz g5].toArray] : List Value).toArray from rfl]; refine Et func167 ntmps167 rfl Xw fun B hB => ?_
 refine A6 (l := l) (a := a_l) (fun hl1 hA1 hU1 => ?_); refine Mt ?_; refine B3 (X := Nat × SH) (fun s_ => s_.1 ≤ l.length ∧ ∀ j, j < s_.1 → (B6 (l.getD j Bm) f b).1 = 0) (fun s_ => [(1, sl s_.2 (s_.1)), (2, .func (.func 168) #[] [pz g4, pz g5].toArray), (13, sl a_l (l.length)), (14, iv ((l.length : Int))), (15, iv ((s_.1 : Int)))]) (fun s_ G_ => G_) (fun s_ => [Al 2 107 s_.2 (s_.1) (A5 ((l.take s_.1).map fun c => (B6 c f b).2))]) (fun s_ => l.length - s_.1) (0, (none, 0)) (⟨Nat.zero_le _, fun j hj => absurd hj (Nat.not_lt_zero _)⟩) (by exact Dk) ?_ ?_
 ·exact fun w hs => hs
 ·intro ⟨i, a⟩ base0 ⟨hi9, hok⟩ next0; dsimp only at  hi9  hok  next0 ⊢; refine E0 ?_; refine D2 (decide ((i : Int) < (l.length : Int))) (fun h16 c16 => ?_) (fun h16 c16 => ?_)
  ·have hlt9 : ((l.take i).map fun c => (B6 c f b).2).length = i := by rw [List.length_map, List.length_take]; omega
   refine Ic ?_; obtain ⟨bk2, o2, hav2⟩ := hA1 A3; refine q0 rfl (Dg ?_ (j := i)); refine R6 ?_; refine q0 rfl (B5 fun b9 => ?_); refine Ey ?_; refine R5 ?_; refine Fs ?_; refine q0 rfl (C7 call168 ((by have h := V5 ((l.take i).map fun c => (B6 c f b).2) a (l.getD i Bm) g4 f g5 b (hU1 _ (Ae A3)) hi hib (by rw [hlt9]; unfold reach at *; omega); rw [hlt9] at h; exact h)) (cap := [pz g4, pz g5]) (fun x23 => ?_)); refine H8 ?_; refine D2 (decide (((B6 (l.getD i Bm) f b).1) ≠ 0)) (fun h27 c27 => ?_) (fun h27 c27 => ?_)
   ·refine Mr ?_; have hg : (Dy (fun c => B6 c f b) l) = ((B6 (l.getD i Bm) f b).1, []) := B2w A3 hok (by simpa using h27); refine Bh f_ rfl A7 A7 (none, 0) (by rw [hg]; rfl) (fun w hs => by rw [hg]; exact ((hs.l7).bare.C3 2 107))
   ·refine Mq ?_; have hst : (l.take (i + 1)).map (fun c => (B6 c f b).2) = (l.take i).map (fun c => (B6 c f b).2) ++ [(B6 (l.getD i Bm) f b).2] := by rw [Ad (d := Bm) A3, List.map_append]; rfl
    refine A2 (fun w hs => ?_) (next0 (i + 1, x23) _ (⟨by omega, fun j hj => by rcases Nat.lt_succ_iff_lt_or_eq.mp hj with h | h; exact hok j h; subst h; simpa using h27⟩) A3 Dk); rw [hst]; exact ((hs.l9).Bw (A := [_]))
  ·refine Mp ?_; have he : i = l.length := by omega
   have hg : (Dy (fun c => B6 c f b) l) = (0, l.map fun c => (B6 c f b).2) := V8 (fun j hj => hok j A3); refine Bh f_ rfl A7 A7 a (by rw [hg, List.length_map, ← he]; rfl) (fun w hs => by rw [hg]; have h := (hs.l7); rw [he, List.take_length] at h; dsimp only; rw [List.length_map]; exact h)
theorem Je (l : List Cl) (a : SH) : Spec prog 110 #[sl a l.length] [CL l a] [] (fun x : SH => .tuple #[sl x (Ay l).2.length, iv (Ay l).1]) (fun _ => []) (fun x => [Al 2 107 x (Ay l).2.length (A5 (Ay l).2)]) := fun ok w hok hs => (Xt l a ok w hok hs).mono fun e w' h => by
 obtain ⟨x, he, hs'⟩ := h; have hx := Uz x.2; exact ⟨x.1.1, by rw [he]; show Ending.returned (.tuple #[sl x.1.1 x.1.2.2.length, iv x.1.2.1]) = Ending.returned (.tuple #[sl x.1.1 (Ay l).2.length, iv (Ay l).1]); rw [hx], by rw [← hx]; exact hs'⟩
theorem Oz (l : List Cl) (a_l : SH) (f : Int) (b : Int) (hi : Aq f) (hib : Aq b) : Spec prog 89 #[sl a_l (l.length), iv (f), iv (b)] [CL l a_l] [] (fun x : SH => .tuple #[sl x (A8 l f b).2.length, iv (A8 l f b).1]) (fun x : SH => []) (fun x : SH => [Al 2 107 x (A8 l f b).2.length (A5 (A8 l f b).2)]) := by
 refine D8 ntmps89 fun B hB => ?_
 refine A6 (l := l) (a := a_l) (fun hl1 hA1 hU1 => ?_); refine B2 ?_; refine q0 rfl (Az fun b4 => ?_); refine q0 rfl (Az fun b5 => ?_); refine Kk ?_; refine Gt ?_; refine q0 rfl (Dd fun b12 => ?_); refine An (fun w hs => ((((hs.perm Bf).perm Bf).perm Bf).C3i hB mf_)) ?_; refine q0 rfl (A0 call166 (M0 [(l, a_l)] (some ⟨b12, 0, none⟩, 1)) (fun x13 => ?_)); refine Mw ?_; refine D2 (decide ((if [(l, a_l)].all (fun p => Ab p.1) then (0 : Int) else 2) ≠ 0)) (fun h15 c15 => ?_) (fun h15 c15 => ?_)
 ·have hg : A8 l f b = (2, []) := by rw [A8, if_pos (by simpa using h15)]
  have h9 : (if [(l, a_l)].all (fun p => Ab p.1) then (0 : Int) else 2) = 2 := by simpa using h15
  refine Ki ?_; refine Bh f_ rfl A7 A7 (none, 0) (by rw [hg]; (conv => lhs; whnf; rw [h9]); rfl) (fun w hs => by rw [hg]; exact ((hs.l7).bare.C3 2 107))
 ·have hr : ¬ Ab l = false := by simpa using h15
  refine K4 ?_; refine Me (Ms' := [Ac b5 [iv (b)] 3, Ac b4 [iv (f)] 3]) (by rfl) ?_; refine A2 (fun w hs => ((hs.perm Ar).C1 hB)) ?_; refine A2 (fun w hs => (hs.C1 hB)) ?_; refine A2 (fun w hs => hs.C3 2 107) ?_; refine Dj ?_; refine q0 rfl (A0 call118 (Pm ) (fun x19 => ?_)); refine Mo ?_; refine q0 rfl (A0 call167 (Wj l a_l f b b4 b5 hi hib) (fun x21 => ?_)); refine H8 ?_; refine D2 (decide (((Dy (fun c => B6 c f b) l).1) ≠ 0)) (fun h25 c25 => ?_) (fun h25 c25 => ?_)
  ·have hg : A8 l f b = ((Dy (fun c => B6 c f b) l).1, []) := by rw [A8, if_neg hr, if_pos (by simpa using h25)]
   refine Ki ?_; refine Bh f_ rfl A7 A7 (none, 0) (by rw [hg]; rfl) (fun w hs => by rw [hg]; exact ((hs.l7).bare.C3 2 107))
  ·have hg : A8 l f b = Ay (Dy (fun c => B6 c f b) l).2 := by rw [A8, if_neg hr, if_neg (by simpa using h25)]
   refine K4 ?_; refine A2 (fun w hs => (hs.D7 hB rfl rfl (by have := B2v (g := fun c => B6 c f b) (l := l); omega) (Xz (fun c => Pp c f b)))) ?_; refine Dj ?_; refine q0 rfl (A0 call110 (Je (Dy (fun c => B6 c f b) l).2 x21) (fun x28 => ?_)); refine Ie ?_; refine Bh f_ rfl A7 A7 x28 (by rw [hg]; rfl) (fun w hs => by rw [hg]; exact (hs.l8))
theorem B1p (s : Nat) (hs : s < 4294967296) : Spec prog 194 #[.int .u32 ((s : Nat) : Int)] [] [] (fun _ : Unit => iv (((Qb s : Nat) : Int))) (fun _ => []) (fun _ => []) := by
 refine D8 ntmps194 fun B hB => ?_
 have p1 := (U9 (s / 2 ^ min 24 32) (by simp; omega)).2; have p2 := (U9 (s / 2 ^ min 16 32 &&& 255) (A0i _)).2; have p3 := (U9 (s / 2 ^ min 8 32 &&& 255) (A0i _)).2; have p4 := (U9 (s &&& 255) (A0i _)).2; refine C9 ?_; refine F9 ?_; refine Ca (pn := 1000000) (tn := false) (A := [0, 1, 3, 0, 8, 24, 56, 127, 0, 256, 768, 1792, 4095, 0, 8192, 24576, 65535, 131071, 262143]) (l := [0, 1, 2, 3, 4, 5, 6, 7, 8, 9, 10, 11, 12, 13, 14, 15, 16, 17, 18]) (fin := []) Tab.mixed ⟨_, func194⟩ (by decide +kernel) ?_; refine F8 ?_; refine n0 rfl (Tp ?_); refine n0 rfl (Tf ?_ (j := s / 2 ^ min 24 32) (hj := by simp; omega)); refine F8 ?_; refine n0 rfl (Tp ?_); refine n0 rfl (Tq ?_ (a := s / 2 ^ min 16 32) (b := 255) (ha := by simp; omega) (hb := by omega)); refine n0 rfl (Tf ?_ (j := s / 2 ^ min 16 32 &&& 255)); refine n0 rfl (Ym ?_ (a := pop8 (s / 2 ^ min 24 32)) (b := pop8 (s / 2 ^ min 16 32 &&& 255)) (h := by omega)); refine F8 ?_; refine n0 rfl (Tp ?_); refine n0 rfl (Tq ?_ (a := s / 2 ^ min 8 32) (b := 255) (ha := by simp; omega) (hb := by omega)); refine n0 rfl (Tf ?_ (j := s / 2 ^ min 8 32 &&& 255)); refine n0 rfl (Ym ?_ (a := pop8 (s / 2 ^ min 24 32) + pop8 (s / 2 ^ min 16 32 &&& 255)) (b := pop8 (s / 2 ^ min 8 32 &&& 255)) (h := by omega)); refine F8 ?_; refine n0 rfl (Tq ?_ (a := s) (b := 255) (ha := by omega) (hb := by omega)); refine n0 rfl (Tf ?_ (j := s &&& 255)); refine n0 rfl (Ym ?_ (a := pop8 (s / 2 ^ min 24 32) + pop8 (s / 2 ^ min 16 32 &&& 255) + pop8 (s / 2 ^ min 8 32 &&& 255)) (b := pop8 (s &&& 255)) (h := by omega)); refine n0 rfl (B4f ?_ (a := pop8 (s / 2 ^ min 24 32) + pop8 (s / 2 ^ min 16 32 &&& 255) + pop8 (s / 2 ^ min 8 32 &&& 255) + pop8 (s &&& 255)) (ha := by omega)); refine A0y ?_; refine Ao f_ rfl A7 () rfl (fun w hs => hs.none)
theorem Ur (s : Nat) (hs : s < 4294967296) : Spec prog 108 #[.int .u32 ((s : Nat) : Int)] [] [] (fun _ : Unit => iv (((Qb (s &&& 16777215) : Nat) : Int))) (fun _ => []) (fun _ => []) := by
 refine D8 ntmps108 fun B hB => ?_
 have h24 := Jh s; refine Oo ?_; refine q0 rfl (Ky ?_ (a := s) (b := 16777215)); refine q0 rfl (A0 call194 (B1p (s &&& 16777215) A3) (fun x5 => ?_)); refine Ci ?_; refine Ao f_ rfl A7 () (by first | rfl | (simp_all; done) | (simp_all; omega)) (fun w hs => hs.none)
theorem Nx (s : Nat) (i : Int) (hs : s < 4294967296) (hi : Aq i) : Spec prog 109 #[.int .u32 ((s : Nat) : Int), iv (i)] [] [] (fun _ : Unit => .int .u32 (((A0z s i) : Nat) : Int)) (fun _ => []) (fun _ => []) := by
 refine D8 ntmps109 fun B hB => ?_
 have hs24 := Jh s; refine Oo ?_; refine q0 rfl (Ky ?_ (a := s) (b := 16777215)); refine Ci ?_; refine Gt ?_; refine q0 rfl (A0 call195 (Nl i ) (fun x8 => ?_)); refine Iz ?_; refine D2 (!(decide (0 ≤ i) && decide (i < 24))) (fun h9 c9 => ?_) (fun h9 c9 => ?_)
 ·refine I8 ?_; refine Ao f_ rfl A7 () (by rw [A0z, if_neg (by simp at h9; omega)]) (fun w hs => hs.none)
 ·have hp := A8l (m := i.toNat) A3; refine Om ?_; refine q0 rfl (Qg ?_ (m := i.toNat) (ha := by omega)); refine q0 rfl (B6j ?_ (a := 1) (m := i.toNat)); refine q0 rfl (O5 ?_ (a := s &&& 16777215) (b := 1 * 2 ^ (min i.toNat 32) % 4294967296) (ha := by omega) (hb := by exact Nat.mod_lt _ A3)); refine Ci ?_; refine Ao f_ rfl A7 () (by rw [A0z, if_pos A3, show min i.toNat 32 = i.toNat by omega, Nat.one_mul, Nat.mod_eq_of_lt A3]) (fun w hs => hs.none)
theorem C9n   : Spec prog 124 #[] [] [] (fun x : SH => sl x 1) (fun x : SH => []) (fun x : SH => [Al 2 107 x 1 (A5 [Bm])]) := by
 refine D8 ntmps124 fun B hB => ?_
 refine C9 ?_; refine B2 ?_; refine q0 rfl (B8 (cs := [.int .u32 ((((⟨0, 0⟩ : Cl)).pos : Nat) : Int), .int .u32 ((((⟨0, 0⟩ : Cl)).neg : Nat) : Int)]) ?_); refine q0 rfl (Dd fun b2 => ?_); refine Ci ?_; refine Ao f_ rfl A7 (some ⟨b2, 0, none⟩, 1) rfl (fun w hs => (((hs.l7)).I5 (sz := 2) (m := 1) rfl I4))
theorem D2e (i : Int) (hi : Aq i) : Spec prog 61 #[iv (i)] [] [] (fun x : SH => .tuple #[sl x (Po i).2.length, iv (Po i).1]) (fun x : SH => []) (fun x : SH => [Al 2 107 x (Po i).2.length (A5 (Po i).2)]) := by
 refine D8 ntmps61 fun B hB => ?_
 have hbl := Il i; refine F0 ?_; refine Gt ?_; refine q0 rfl (A0 call109 ((by have h := Nx 0 i A3 hi; rw [Ld] at h; exact h)) (fun x5 => ?_)); refine q0 rfl (A0 call108 (Ur (Dp i) A3) (fun x6 => ?_)); refine q0 rfl (A2h ?_ (a := ((Qb (Dp i &&& 16777215) : Nat) : Int)) (b := 0)); refine Jj ?_; refine D2 (decide (((Qb (Dp i &&& 16777215) : Nat) : Int) = 0)) (fun h7 c7 => ?_) (fun h7 c7 => ?_)
 ·have hg : Po i = (2, []) := by rw [Po, if_neg (by rw [A1j] at h7; simp at h7; simp [h7])]
  refine F0 ?_; refine Bh f_ rfl A7 A7 (none, 0) (by rw [hg]; rfl) (fun w hs => by rw [hg]; exact ((hs.l7).bare.C3 2 107))
 ·have hg : Po i = (0, [⟨Dp i, 0⟩]) := by rw [Po, if_pos (by rw [A1j] at h7; simpa using h7)]
  refine Gu ?_; refine Ef ?_; refine q0 rfl (A0 call109 ((by have h := Nx 0 i A3 hi; rw [Ld] at h; exact h)) (fun x9 => ?_)); refine q0 rfl (B8 (cs := [.int .u32 ((((⟨(Dp i), 0⟩ : Cl)).pos : Nat) : Int), .int .u32 ((((⟨(Dp i), 0⟩ : Cl)).neg : Nat) : Int)]) ?_); refine q0 rfl (Dd fun b11 => ?_); refine Kk ?_; refine Bh f_ rfl A7 A7 (some ⟨b11, 0, none⟩, 1) (by rw [hg]; rfl) (fun w hs => by rw [hg]; exact (((hs.l7)).I5 (sz := 2) (m := 1) rfl I4))
theorem C3h (f : List Cl) (a_f : SH) (g : List Cl) (a_g : SH) (hlf : f.length ≤ 1000) (hlg : g.length ≤ 1000) : Spec prog 204 #[sl a_f (f.length), sl a_g (g.length)] [CL f a_f, CL g a_g] [] (fun x : SH => .tuple #[sl x (Hu f g).2.length, iv (Hu f g).1]) (fun x : SH => []) (fun x : SH => [Al 2 107 x (Hu f g).2.length (A5 (Hu f g).2)]) := by
 refine D8 ntmps204 fun B hB => ?_
 refine A6 (l := f) (a := a_f) (fun hl1 hA1 hU1 => ?_); refine A6 (l := g) (a := a_g) (fun hl2 hA2 hU2 => ?_); refine Bx (p := Af f) (fun w hs => Bs (hs.facts (CL f a_f) D4)) (fun hk_f => ?_); refine Bx (p := Af g) (fun w hs => Bs (hs.facts (CL g a_g) D4)) (fun hk_g => ?_); refine F0 ?_; refine Mu ?_; refine B3 (X := Nat × SH × List Cl) (fun s_ => s_.1 ≤ f.length ∧ s_.2.2 = Hb (f.take s_.1) g) (fun s_ => [(1, sl a_g (g.length)), (6, sl s_.2.1 (s_.2.2.length)), (11, sl a_f (f.length)), (12, iv ((f.length : Int))), (13, iv ((s_.1 : Int)))]) (fun s_ G_ => G_) (fun s_ => [Al 2 107 s_.2.1 (s_.2.2.length) (A5 s_.2.2)]) (fun s_ => f.length - s_.1) (0, (none, 0), []) (⟨Nat.zero_le _, rfl⟩) (by exact Dk) ?_ ?_
 ·exact fun w hs => (hs.C3 2 107)
 ·intro ⟨i, a, l⟩ base0 ⟨hi, hl9⟩ next0; dsimp only at  hi  hl9  next0 ⊢; refine E0 ?_; refine D2 (decide ((i : Int) < (f.length : Int))) (fun h14 c14 => ?_) (fun h14 c14 => ?_)
  ·have hui := hk_f.1 _ (Ae (d := Bm) (show i < f.length by omega)); refine Ic ?_; obtain ⟨bk3, o3, hav3⟩ := hA1 (by (first | assumption | omega)); refine q0 rfl (Dg ?_ (j := i)); refine R6 ?_; refine q0 rfl (B5 fun b8 => ?_); refine Ey ?_; refine Ef ?_; refine B0m ?_; refine B3 (X := Nat × SH × List Cl) (fun s_ => s_.1 ≤ g.length ∧ s_.2.2 = Hb (f.take i) g ++ (g.take s_.1).map fun b => D0 (f.getD i Bm) b) (fun s_ => [(1, sl a_g (g.length)), (6, sl s_.2.1 (s_.2.2.length)), (8, pz b8), (11, sl a_f (f.length)), (12, iv ((f.length : Int))), (13, iv ((i : Int))), (17, sl a_g (g.length)), (18, iv ((g.length : Int))), (19, iv ((s_.1 : Int)))]) (fun s_ G_ => G_) (fun s_ => [Ac b8 (Ai (f.getD i Bm)) 107, Al 2 107 s_.2.1 (s_.2.2.length) (A5 s_.2.2)]) (fun s_ => g.length - s_.1) (0, a, l) (⟨Nat.zero_le _, by rw [hl9]; simp⟩) (by exact Dk) ?_ ?_
   ·exact fun w hs => hs
   ·intro ⟨k, a2, l2⟩ base1 ⟨hk, hl8⟩ next1; dsimp only at  hk  hl8  next1 ⊢; refine E0 ?_; refine D2 (decide ((k : Int) < (g.length : Int))) (fun h20 c20 => ?_) (fun h20 c20 => ?_)
    ·have huk := hk_g.1 _ (Ae (d := Bm) (show k < g.length by omega)); have hum := J2 hui huk; have hll : l2.length ≤ 1001000 := by rw [hl8, List.length_append, Rs, List.length_map, List.length_take, List.length_take]; have h9 := Nat.mul_le_mul (show min i f.length ≤ 999 by omega) hlg; omega
     refine Ic ?_; obtain ⟨bk4, o4, hav4⟩ := hA2 (by (first | assumption | omega)); refine q0 rfl (Dg ?_ (j := k)); refine R6 ?_; refine q0 rfl (B5 fun b10 => ?_); refine Ey ?_; refine Dj ?_; refine Fs ?_; refine Fs ?_; refine q0 rfl (A0 call251 (Rr (f.getD i Bm) (g.getD k Bm) O4 O4) (fun x26 => ?_)); refine q0 rfl (Dd fun b27 => ?_); refine q0 rfl (Ed (fun a28 => ?_) (a := a2) (n' := l2.length)); refine An (fun w hs => ((hs.perm Ar).drop).X6 (c := (D0 (f.getD i Bm) (g.getD k Bm)))) ?_; refine Ot ?_; refine A2 (fun w hs => ?_) (next1 (k + 1, a28, l2 ++ [D0 (f.getD i Bm) (g.getD k Bm)]) _ (⟨by omega, by rw [hl8, Ad (d := Bm) (l := g) A3, List.map_append, List.append_assoc]; rfl⟩) (by (try simp only); omega) ⟨rfl, (by rw [List.length_append]; rfl), rfl, rfl, rfl, rfl, rfl, rfl, rfl, trivial⟩); have e1 : (l2 ++ [D0 (f.getD i Bm) (g.getD k Bm)]).length = l2.length + 1 := by simp
     rw [e1]; exact (((hs.l9).perm Bf).Bw (A := [_, _]))
    ·have hk9 : k = g.length := by omega
     refine En ?_; refine P5 ?_; refine A2 (fun w hs => ?_) (next0 (i + 1, a2, l2) _ (⟨by omega, by rw [hl8, Ad (d := Bm) A3, A6g, hk9, List.take_length]⟩) (by (try simp only); omega) Dk); exact (((hs.l9).perm Ar).Bw (A := [_]))
  ·have hi9 : i = f.length := by omega
   have hlm : l = Hb f g := by rw [hl9, hi9, List.take_length]
   have hlen : l.length ≤ 1000000 := by rw [hlm, Rs]; have h9 := Nat.mul_le_mul hlf hlg; omega
   refine En ?_; refine F9 ?_; refine A2 (fun w hs => (hs.D7 hB rfl (rfl) (by unfold reach; omega) (fun c hc => Wu hk_f.1 hk_g.1 c (by rw [← hlm]; exact hc)))) ?_; refine Dj ?_; refine q0 rfl (A0 call110 (Je (l) a) (fun x32 => ?_)); refine Ie ?_; have hg : Hu f g = Ay l := by rw [hlm]; rfl
   refine Bh f_ rfl A7 A7 x32 (by rw [hg]; rfl) (fun w hs => by rw [hg]; exact (hs.l7))
theorem D0r (f : List Cl) (a_f : SH) (g : List Cl) (a_g : SH) (hlf : f.length ≤ 1000000) (hlg : g.length ≤ 1000000) : Spec prog 205 #[sl a_f (f.length), sl a_g (g.length)] [CL f a_f, CL g a_g] [] (fun x : SH => .tuple #[sl x (Gk f g).2.length, iv (Gk f g).1]) (fun x : SH => []) (fun x : SH => [Al 2 107 x (Gk f g).2.length (A5 (Gk f g).2)]) := by
 refine D8 ntmps205 fun B hB => ?_
 refine A6 (l := f) (a := a_f) (fun hl1 hA1 hU1 => ?_); refine A6 (l := g) (a := a_g) (fun hl2 hA2 hU2 => ?_); refine Bx (p := Af f) (fun w hs => Bs (hs.facts (CL f a_f) D4)) (fun hk_f => ?_); refine Bx (p := Af g) (fun w hs => Bs (hs.facts (CL g a_g) D4)) (fun hk_g => ?_); refine F0 ?_; refine B2 ?_; refine q0 rfl (A6a fun b6 => ?_); refine E1 ?_; refine An (fun w hs => hs.I5 (sz := 2) (m := 0) rfl I4) ?_; refine q0 rfl (Lp (fun a8 => ?_) D4 (a := (some ⟨b6, 0, none⟩, 0)) (n' := 0) (b := a_f) (ls := f)); refine An (fun w hs => hs.L9 (l := []) (m := f)) ?_; refine E1 ?_; refine q0 rfl (Lp (fun a10 => ?_) D4 (a := a8) (n' := 0 + f.length) (b := a_g) (ls := g)); refine An (fun w hs => hs.L9 (l := ([] ++ f)) (m := g)) ?_; refine An (fun w hs => (hs.D7 (l := f ++ g) hB rfl D4 (by unfold reach; omega) (Ts hk_f.1 hk_g.1))) ?_; refine q0 rfl (A0 call110 ((by have h := Je (f ++ g) a10; rw [show (f ++ g).length = 0 + f.length + g.length by simp] at h; exact h)) (fun x11 => ?_)); refine Ie ?_; refine Bh f_ rfl A7 A7 x11 rfl (fun w hs => (hs.l7))
theorem C8i (f : List Cl) (a_f : SH) (g : List Cl) (a_g : SH) (hlf : f.length ≤ 1000000) (hlg : g.length ≤ 1000000) : Spec prog 237 #[sl a_f (f.length), sl a_g (g.length)] [CL f a_f, CL g a_g] [] (fun x : SH => .tuple #[sl x (Gk f g).2.length, iv (Gk f g).1]) (fun x : SH => []) (fun x : SH => [Al 2 107 x (Gk f g).2.length (A5 (Gk f g).2)]) := by
 refine D8 ntmps237 fun B hB => ?_
 refine A6 (l := f) (a := a_f) (fun hl1 hA1 hU1 => ?_); refine A6 (l := g) (a := a_g) (fun hl2 hA2 hU2 => ?_); refine Bx (p := Af f) (fun w hs => Bs (hs.facts (CL f a_f) D4)) (fun hk_f => ?_); refine Bx (p := Af g) (fun w hs => Bs (hs.facts (CL g a_g) D4)) (fun hk_g => ?_); refine F0 ?_; refine B2 ?_; refine q0 rfl (A6a fun b6 => ?_); refine E1 ?_; refine An (fun w hs => hs.I5 (sz := 2) (m := 0) rfl I4) ?_; refine q0 rfl (Lp (fun a8 => ?_) D4 (a := (some ⟨b6, 0, none⟩, 0)) (n' := 0) (b := a_f) (ls := f)); refine An (fun w hs => hs.L9 (l := []) (m := f)) ?_; refine E1 ?_; refine q0 rfl (Lp (fun a10 => ?_) D4 (a := a8) (n' := 0 + f.length) (b := a_g) (ls := g)); refine An (fun w hs => hs.L9 (l := ([] ++ f)) (m := g)) ?_; refine An (fun w hs => (hs.D7 (l := f ++ g) hB rfl D4 (by unfold reach; omega) (Ts hk_f.1 hk_g.1))) ?_; refine q0 rfl (A0 call110 ((by have h := Je (f ++ g) a10; rw [show (f ++ g).length = 0 + f.length + g.length by simp] at h; exact h)) (fun x11 => ?_)); refine Ie ?_; refine Bh f_ rfl A7 A7 x11 rfl (fun w hs => (hs.l7))
theorem D2y (c : Cl) (hc : u32 c) : Spec prog 256 #[Fb c] [Nw] [] (fun x : SH => .tuple #[sl x (Z7 c).2.length, iv (Z7 c).1]) (fun x : SH => []) (fun x : SH => [Al 2 107 x (Z7 c).2.length (A5 (Z7 c).2)]) := by
 refine D8 ntmps256 fun B hB => ?_
 have hc1 := hc.1; have hc2 := hc.2; have hl1 : (Aj c.pos).length ≤ 24 := Hk _ _; have hl2 : (Aj c.neg).length ≤ 24 := Hk _ _; refine B2 ?_; refine q0 rfl (Az fun b1 => ?_); refine Kk ?_; refine C9 ?_; refine F9 ?_; refine K3 ?_; refine q0 rfl (A0 call123 (Iv c.pos hc1) (fun x11 => ?_)); refine H6 ?_; refine B9q ?_; refine Hl (l := (Aj c.pos)) (a := x11) (fun hl1 hA1 hU1 => ?_); refine W0 ?_; refine B3 (X := Nat × SH × List Cl) (fun s_ => s_.1 ≤ (Aj c.pos).length ∧ s_.2.2 = (((Aj c.pos).take s_.1).map fun j => (⟨0, Dp j⟩ : Cl))) (fun s_ => [(1, pz b1), (4, sl s_.2.1 (s_.2.2.length)), (11, sl x11 (((Aj c.pos)).length)), (12, iv ((((Aj c.pos)).length : Int))), (13, iv ((s_.1 : Int)))]) (fun s_ G_ => G_) (fun s_ => [Al 2 107 s_.2.1 (s_.2.2.length) (A5 s_.2.2), Ac b1 (Ai c) 107]) (fun s_ => (Aj c.pos).length - s_.1) (0, (none, 0), []) (⟨Nat.zero_le _, rfl⟩) (by exact Dk) ?_ ?_
 ·exact fun w hs => (hs.C3 2 107)
 ·intro ⟨i, a, l⟩ base0 ⟨hi, hl9⟩ next0; dsimp only at  hi  hl9  next0 ⊢; refine E0 ?_; refine D2 (decide ((i : Int) < (((Aj c.pos)).length : Int))) (fun h14 c14 => ?_) (fun h14 c14 => ?_)
  ·have hll : l.length ≤ 24 := by rw [hl9, List.length_map, List.length_take]; omega
   have hbl := Il ((Aj c.pos).getD i 0); refine Ic ?_; obtain ⟨bk2, o2, hav2⟩ := hA1 (by (first | assumption | omega)); refine q0 rfl (Dg ?_ (j := i)); refine A4r ?_; refine Ci ?_; refine Dj ?_; refine E1 ?_; refine q0 rfl (A0 call109 ((by have h := Nx 0 ((Aj c.pos).getD i 0) A3 (A2y (s := c.pos) (i := i) A3); rw [Ld] at h; exact h)) (fun x19 => ?_)); refine q0 rfl (B8 (cs := [.int .u32 ((((⟨0, (Dp ((Aj c.pos).getD i 0))⟩ : Cl)).pos : Nat) : Int), .int .u32 ((((⟨0, (Dp ((Aj c.pos).getD i 0))⟩ : Cl)).neg : Nat) : Int)]) ?_); refine q0 rfl (Dd fun b21 => ?_); refine q0 rfl (Ed (fun a22 => ?_) (a := a) (n' := l.length)); refine An (fun w hs => ((hs.perm Ar).drop).X6 (c := (⟨0, (Dp ((Aj c.pos).getD i 0))⟩ : Cl))) ?_; refine Ot ?_; refine A2 (fun w hs => ?_) (next0 (i + 1, a22, l ++ [(⟨0, Dp ((Aj c.pos).getD i 0)⟩ : Cl)]) _ (⟨by omega, by rw [hl9, Ad (d := 0) A3, List.map_append]; rfl⟩) (by (try simp only); omega) ⟨rfl, (by rw [List.length_append]; rfl), rfl, rfl, rfl, trivial⟩); have e1 : (l ++ [(⟨0, Dp ((Aj c.pos).getD i 0)⟩ : Cl)]).length = l.length + 1 := by simp
   rw [e1]; exact (((hs.l9).perm Ar).perm Ar)
  ·have hi9 : i = (Aj c.pos).length := by omega
   rw [hi9, List.take_length] at hl9; subst hl9; refine En ?_; refine F9 ?_; refine K3 ?_; refine q0 rfl (A0 call123 (Iv c.neg hc2) (fun x26 => ?_)); refine H6 ?_; refine B9q ?_; refine Hl (l := (Aj c.neg)) (a := x26) (fun hl3 hA3 hU3 => ?_); refine W0 ?_; refine B3 (X := Nat × SH × List Cl) (fun s_ => s_.1 ≤ (Aj c.neg).length ∧ s_.2.2 = ((Aj c.pos).map fun j => (⟨0, Dp j⟩ : Cl)) ++ (((Aj c.neg).take s_.1).map fun j => (⟨Dp j, 0⟩ : Cl))) (fun s_ => [(4, sl s_.2.1 (s_.2.2.length)), (26, sl x26 (((Aj c.neg)).length)), (27, iv ((((Aj c.neg)).length : Int))), (28, iv ((s_.1 : Int)))]) (fun s_ G_ => G_) (fun s_ => [Al 2 107 s_.2.1 (s_.2.2.length) (A5 s_.2.2), Ac b1 (Ai c) 107]) (fun s_ => (Aj c.neg).length - s_.1) (0, a, ((Aj c.pos).map fun j => (⟨0, Dp j⟩ : Cl))) (⟨Nat.zero_le _, by simp⟩) (by exact Dk) ?_ ?_
   ·exact fun w hs => hs
   ·intro ⟨i, a2, l⟩ base1 ⟨hi, hl8⟩ next1; dsimp only at  hi  hl8  next1 ⊢; refine E0 ?_; refine D2 (decide ((i : Int) < (((Aj c.neg)).length : Int))) (fun h29 c29 => ?_) (fun h29 c29 => ?_)
    ·have hll : l.length ≤ 48 := by rw [hl8, List.length_append, List.length_map, List.length_map, List.length_take]; omega
     have hbl := Il ((Aj c.neg).getD i 0); refine Ic ?_; obtain ⟨bk4, o4, hav4⟩ := hA3 (by (first | assumption | omega)); refine q0 rfl (Dg ?_ (j := i)); refine A4r ?_; refine Ci ?_; refine Dj ?_; refine E1 ?_; refine q0 rfl (A0 call109 ((by have h := Nx 0 ((Aj c.neg).getD i 0) A3 (A2y (s := c.neg) (i := i) A3); rw [Ld] at h; exact h)) (fun x34 => ?_)); refine q0 rfl (B8 (cs := [.int .u32 ((((⟨(Dp ((Aj c.neg).getD i 0)), 0⟩ : Cl)).pos : Nat) : Int), .int .u32 ((((⟨(Dp ((Aj c.neg).getD i 0)), 0⟩ : Cl)).neg : Nat) : Int)]) ?_); refine q0 rfl (Dd fun b36 => ?_); refine q0 rfl (Ed (fun a37 => ?_) (a := a2) (n' := l.length)); refine An (fun w hs => ((hs.perm Ar).drop).X6 (c := (⟨(Dp ((Aj c.neg).getD i 0)), 0⟩ : Cl))) ?_; refine Ot ?_; refine A2 (fun w hs => ?_) (next1 (i + 1, a37, l ++ [(⟨Dp ((Aj c.neg).getD i 0), 0⟩ : Cl)]) _ (⟨by omega, by rw [hl8, Ad (d := 0) A3, List.map_append, List.append_assoc]; rfl⟩) (by (try simp only); omega) ⟨(by rw [List.length_append]; rfl), rfl, rfl, rfl, trivial⟩); have e1 : (l ++ [(⟨Dp ((Aj c.neg).getD i 0), 0⟩ : Cl)]).length = l.length + 1 := by simp
     rw [e1]; exact (((hs.l9).perm Ar).perm Ar)
    ·have hi8 : i = (Aj c.neg).length := by omega
     have hlo : l = Rq c := by rw [hl8, hi8, List.take_length]; rfl
     have hlen := B6a c; refine En ?_; refine F9 ?_; refine A2 (fun w hs => (((hs.perm Ar).perm Ar).D7 hB rfl (rfl) (by rw [hlo]; unfold reach; omega) (fun d hd => A8c c d (by rw [← hlo]; exact hd)))) ?_; refine Dj ?_; refine q0 rfl (A0 call110 (Je (l) a2) (fun x40 => ?_)); refine Ie ?_; have hg : Z7 c = Ay l := by rw [hlo]; rfl
     refine Bh f_ rfl A7 A7 x40 (by rw [hg]; rfl) (fun w hs => by rw [hg]; exact ((hs.l7).Bw (A := [_])))
theorem D0a (h : List Cl) (a_h : SH) (c : Cl) (hc : u32 c) (hlh : h.length ≤ 64) : Spec prog 255 #[sl a_h (h.length), Fb c] [Nw, CL h a_h] [] (fun x : SH => .tuple #[sl x (Ce h c).2.length, iv (Ce h c).1]) (fun x : SH => []) (fun x : SH => [Al 2 107 x (Ce h c).2.length (A5 (Ce h c).2)]) := by
 refine D8 ntmps255 fun B hB => ?_
 refine A6 (l := h) (a := a_h) (fun hl1 hA1 hU1 => ?_); refine Bx (p := Af h) (fun w hs => Bs (hs.facts (CL h a_h) D4)) (fun hk_h => ?_); refine B2 ?_; refine q0 rfl (Az fun b3 => ?_); refine Kk ?_; refine F7 ?_; obtain ⟨r1, hr1⟩ : ∃ q9 : EL, q9 = Z7 c := ⟨_, rfl⟩; refine q0 rfl (A0 call256 (Spec.N3 hr1 (D2y c hc) (A8x c)) (fun x10 => ?_)); refine H8 ?_; refine D2 (decide (r1.1 ≠ 0)) (fun h14 c14 => ?_) (fun h14 c14 => ?_)
 ·have hg : Ce h c = (r1.1, []) := by unfold Ce; rw [← hr1]; exact Be (by simpa using h14)
  refine Ki ?_; refine Bh f_ rfl A7 A7 (none, 0) (by rw [hg]; rfl) (fun w hs => by rw [hg]; exact ((hs.l7).bare.C3 2 107))
 ·have hg2 : Ce h c = Hu h r1.2 := by unfold Ce; rw [← hr1]; exact Ba (by simpa using h14)
  refine Om ?_; obtain ⟨r2, hr2⟩ : ∃ q9 : EL, q9 = Hu h r1.2 := ⟨_, rfl⟩; refine q0 rfl (A0 call204 (Spec.Oi hr2 (C3h h a_h r1.2 x10 A3 (by rw [hr1]; exact Nat.le_trans (Iw (Rq c)) I4))) (fun x18 => ?_)); refine Ie ?_; have hg := hg2.trans hr2.symm; refine Bh f_ rfl A7 A7 x18 (by rw [hg]; rfl) (fun w hs => by rw [hg]; exact ((hs.l7).Bw (A := [_])))
set_option maxHeartbeats 4000000 in
theorem B8f (l : List Cl) (a_l : SH) (z : List Cl) (a_z : SH) (hkz : Af z) (hlz : z.length ≤ 64) : Spec prog 167 #[sl a_l (l.length), sl a_z (z.length), .func (.func 255) #[] #[]] [Nw, CL l a_l] [Al 2 107 a_z (z.length) (A5 z)] (fun x : SH => .tuple #[sl x (C5 (Ce) z l).2.length, iv (C5 (Ce) z l).1]) (fun x : SH => []) (fun x : SH => [Al 2 107 x (C5 (Ce) z l).2.length (A5 (C5 (Ce) z l).2)]) := by
 rw [show (#[sl a_l (l.length), sl a_z (z.length), .func (.func 255) #[] #[]] : Array Value) = ([sl a_l (l.length), sl a_z (z.length), .func (.func 255) #[] #[]] : List Value).toArray from rfl]; refine Et func167 ntmps167 rfl Xw fun B hB => ?_
 refine A6 (l := l) (a := a_l) (fun hl1 hA1 hU1 => ?_); refine Bx (p := Af l) (fun w hs => Bs (hs.facts (CL l a_l) D4)) (fun hk_l => ?_); refine Mt ?_; refine B3 (X := Nat × SH × List Cl) (fun s_ => s_.1 ≤ l.length ∧ C5 (Ce) z (l.take s_.1) = (0, s_.2.2) ∧ Af s_.2.2 ∧ s_.2.2.length ≤ 64) (fun s_ => [(1, sl s_.2.1 (s_.2.2.length)), (2, .func (.func 255) #[] #[]), (13, sl a_l (l.length)), (14, iv ((l.length : Int))), (15, iv ((s_.1 : Int)))]) (fun s_ G_ => G_) (fun s_ => [Al 2 107 s_.2.1 (s_.2.2.length) (A5 s_.2.2)]) (fun s_ => l.length - s_.1) (0, a_z, z) (⟨Nat.zero_le _, rfl, hkz, hlz⟩) (by exact Dk) ?_ ?_
 ·exact fun w hs => hs
 ·intro ⟨i, a, hv⟩ base0 ⟨hi9, hf9, hk9, hl9⟩ next0; dsimp only at  hi9  hf9  hk9  hl9  next0 ⊢; refine E0 ?_; refine D2 (decide ((i : Int) < (l.length : Int))) (fun h16 c16 => ?_) (fun h16 c16 => ?_)
  ·have hui := hk_l.1 _ (Ae (d := Bm) (show i < l.length by omega)); refine Ic ?_; obtain ⟨bk2, o2, hav2⟩ := hA1 (by (first | assumption | omega)); refine q0 rfl (Dg ?_ (j := i)); refine R6 ?_; refine q0 rfl (B5 fun b9 => ?_); refine Jq ?_; refine A2 (fun w hs => ((hs.perm Ar).D7 hB rfl (rfl) (hk9.2) (hk9.1))) ?_; refine Dj ?_; refine E1 ?_; refine Fs ?_; obtain ⟨r3, hr3⟩ : ∃ q9 : EL, q9 = (Ce) hv (l.getD i Bm) := ⟨_, rfl⟩; refine q0 rfl (C7 call255 (Spec.Oi hr3 (D0a hv a (l.getD i Bm) hui hl9)) (cap := []) (fun x23 => ?_)); refine H8 ?_; refine D2 (decide (r3.1 ≠ 0)) (fun h27 c27 => ?_) (fun h27 c27 => ?_)
   ·refine Mr ?_; have hg : (C5 (Ce) z l) = (r3.1, []) := by rw [Ru A3 hf9 (by rw [← hr3]; simpa using h27), ← hr3]
    refine Bh f_ rfl A7 A7 (none, 0) (by rw [hg]; rfl) (fun w hs => by rw [hg]; exact ((hs.l7).bare.C3 2 107))
   ·refine Mq ?_; refine A2 (fun w hs => ?_) (next0 (i + 1, x23, r3.2) _ (⟨by omega, by rw [V7 A3 hf9 (by rw [← hr3]; simpa using h27), ← hr3], by rw [hr3]; exact Sl hk9, by rw [hr3]; exact A3c _ _⟩) (by (try simp only); omega) Dk); exact ((hs.l9).Bw (A := [_]))
  ·refine Mp ?_; have hg : (C5 (Ce) z l) = (0, hv) := Rv A3 hf9; refine Bh f_ rfl A7 A7 a (by rw [hg]; rfl) (fun w hs => by rw [hg]; exact (hs.l7))
theorem D3c (l : List Cl) (a_l : SH)  : Spec prog 203 #[sl a_l (l.length)] [Nw, CL l a_l] [] (fun x : SH => .tuple #[sl x (Nb l).2.length, iv (Nb l).1]) (fun x : SH => []) (fun x : SH => [Al 2 107 x (Nb l).2.length (A5 (Nb l).2)]) := by
 refine D8 ntmps203 fun B hB => ?_
 refine A6 (l := l) (a := a_l) (fun hl1 hA1 hU1 => ?_); refine F0 ?_; refine Ef ?_; refine q0 rfl (A0 call124 (C9n) (fun x5 => ?_)); refine q0 rfl (A0 call167 (B8f l a_l [Bm] x5 Hf I4) (fun x6 => ?_)); refine Ie ?_; refine Bh f_ rfl A7 A7 x6 rfl (fun w hs => (hs.l7))
theorem C3g (l : List Cl) (a_l : SH)  : Spec prog 114 #[sl a_l (l.length)] [Nw, CL l a_l] [] (fun x : SH => .tuple #[sl x (Jm l).2.length, iv (Jm l).1]) (fun x : SH => []) (fun x : SH => [Al 2 107 x (Jm l).2.length (A5 (Jm l).2)]) := by
 refine D8 ntmps114 fun B hB => ?_
 refine A6 (l := l) (a := a_l) (fun hl1 hA1 hU1 => ?_); refine F0 ?_; refine Gt ?_; refine q0 rfl (Dd fun b6 => ?_); refine An (fun w hs => (hs.C3i hB Ds)) ?_; refine q0 rfl (A0 call166 (M0 [(l, a_l)] (some ⟨b6, 0, none⟩, 1)) (fun x7 => ?_)); refine Mw ?_; refine D2 (decide ((if [(l, a_l)].all (fun p => Ab p.1) then (0 : Int) else 2) ≠ 0)) (fun h9 c9 => ?_) (fun h9 c9 => ?_)
 ·have hg : Jm l = (2, []) := by rw [Jm, if_neg (by simpa using h9)]
  have h8 : (if [(l, a_l)].all (fun p => Ab p.1) then (0 : Int) else 2) = 2 := by simpa using h9
  refine Ki ?_; refine Bh f_ rfl A7 A7 (none, 0) (by rw [hg]; (conv => lhs; whnf; rw [h8]); rfl) (fun w hs => by rw [hg]; exact ((hs.l7).bare.C3 2 107))
 ·have hg2 : Jm l = Nb l := by rw [Jm, if_pos (by simpa using h9)]
  refine Gu ?_; refine Ef ?_; obtain ⟨r2, hr2⟩ : ∃ q9 : EL, q9 = Nb l := ⟨_, rfl⟩; refine q0 rfl (A0 call203 (Spec.Oi hr2 (D3c l a_l)) (fun x12 => ?_)); refine Ie ?_; have hg := hg2.trans hr2.symm; refine Bh f_ rfl A7 A7 x12 (by rw [hg]; rfl) (fun w hs => by rw [hg]; exact (hs.l7))
theorem Vb (l : List CP) (a_l : SH)  : Spec prog 242 #[sl a_l (l.length)] [Jn l a_l] [] (fun _ : Unit => iv ((if l.all (fun p => A4 p.1) then 0 else 2))) (fun _ => []) (fun _ => []) := by
 refine D8 ntmps242 fun B hB => ?_
 refine Mu ?_; refine B3 (X := Nat) (fun s_ => s_ ≤ l.length ∧ ∀ j, j < s_ → A4 (l.getD j Cw).1 = true) (fun s_ => [(5, sl a_l (l.length)), (6, iv ((l.length : Int))), (7, iv ((s_ : Int)))]) (fun s_ G_ => G_) (fun s_ => []) (fun s_ => l.length - s_) (0) (⟨Nat.zero_le _, fun j hj => absurd hj (Nat.not_lt_zero _)⟩) (by exact Dk) ?_ ?_
 ·exact fun w hs => hs
 ·intro i base0 ⟨hi, hok⟩ next0; refine E0 ?_; refine D2 (decide ((i : Int) < (l.length : Int))) (fun h8 c8 => ?_) (fun h8 c8 => ?_)
  ·refine H9 ?_; refine Fm (l := l) (a := a_l) (bt := 24) (F := Cb) (E := Mn) (d := Cw) Ds (fun hl1 hA1 => ?_); refine K1 (l := l) (a := a_l) (bt := 24) (F := Cb) (E := Mn) (d := Cw) Ds i A3 ?_; refine Iy ?_; obtain ⟨bk2, o2, hav2⟩ := hA1 A3; refine q0 rfl (Dg ?_ (j := i)); refine q0 rfl (Zb ?_); refine A7t ?_; refine q0 rfl (A0 call193 (Nk (((l).getD i Cw).1) (((l).getD i Cw).2) ) (fun x12 => ?_)); refine Iz ?_; refine D2 (!(A4 (((l).getD i Cw).1))) (fun h13 c13 => ?_) (fun h13 c13 => ?_)
   ·refine C9 ?_; refine Ao f_ rfl A7 () (by rw [if_neg (by rw [M5 (d := Cw) (i := i) A3 (by simpa using h13)]; decide)]) (fun w hs => hs.none)
   ·refine Hr ?_; refine A2 (fun w hs => ?_) (next0 (i + 1) _ (⟨by omega, fun j hj => by rcases Nat.lt_succ_iff_lt_or_eq.mp hj with h | h; exact hok j h; subst h; simpa using h13⟩) A3 Dk); exact (hs.l9)
  ·refine Km ?_; refine Ao f_ rfl A7 () (by rw [if_pos (Nt (d := Cw) (fun j hj => hok j A3))]) (fun w hs => hs.none)
theorem Y9 (c : Cl) (hc : u32 c) : Spec prog 241 #[Fb c] [] [] (fun _ : Unit => .tuple #[Fb c, .bool (!I2 c)]) (fun _ => []) (fun _ => []) := by
 refine D8 ntmps241 fun B hB => ?_
 refine B2 ?_; refine q0 rfl (Az fun b1 => ?_); refine q0 rfl (B5 fun b2 => ?_); refine Ff ?_; refine Ca (pn := 1000000) (tn := false) (A := [0, 0, 2, 6, 7, 31]) (l := [0, 1, 2, 3, 4, 5]) (fin := []) Tab.mixed ⟨_, func241⟩ (by rfl) ?_; refine P6 ?_; refine P6 ?_; refine n0 rfl (Bo call248 (Vh c O4) (fun x6 => ?_)); refine n0 rfl (Wq ?_); refine n0 rfl (D2l ?_); refine A0y ?_; refine Dv f_ rfl () rfl Ds rfl rfl rfl rfl rfl (fun w hs => hs.none)
theorem A3r (d : Cl) (g1 : Nat) (c : Cl) (hd : u32 d) (hc : u32 c) : Spec prog 272 #[Fb d, pz g1] [At g1 0 (Ai c)] [] (fun _ : Unit => .tuple #[Fb (D0 c d), .bool (!I2 (D0 c d))]) (fun _ => []) (fun _ => []) := by
 refine D8 ntmps272 fun B hB => ?_
 have hm := J2 hc hd; refine B2 ?_; refine q0 rfl (Az fun b2 => ?_); refine q0 rfl (B5 fun b3 => ?_); refine Mb ?_; refine Tm ?_; refine Fs ?_; refine q0 rfl (A0 call251 (Rr c d O4 O4) (fun x7 => ?_)); refine q0 rfl (A0 call241 (Y9 (D0 c d) O4) (fun x8 => ?_)); refine Yh ?_; refine G5 ?_; refine Dv f_ rfl () rfl Ds rfl rfl rfl rfl rfl (fun w hs => hs.none)
theorem B7o (l : List Cl) (a_l : SH)  : Spec prog 240 #[sl a_l (l.length), .func (.func 241) #[] #[]] [CL l a_l] [] (fun x : SH => sl x (Da l).length) (fun x : SH => []) (fun x : SH => [Al 2 107 x (Da l).length (A5 (Da l))]) := by
 rw [show (#[sl a_l (l.length), .func (.func 241) #[] #[]] : Array Value) = ([sl a_l (l.length), .func (.func 241) #[] #[]] : List Value).toArray from rfl]; refine Et func240 ntmps240 rfl Xw fun B hB => ?_
 refine A6 (l := l) (a := a_l) (fun hl1 hA1 hU1 => ?_); refine Bx (p := Af l) (fun w hs => Bs (hs.facts (CL l a_l) D4)) (fun hk_l => ?_); refine C9 ?_; refine Mu ?_; refine B3 (X := Nat × SH × List Cl) (fun s_ => s_.1 ≤ l.length ∧ s_.2.2 = (Da (l.take s_.1)) ∧ s_.2.2.length ≤ s_.1) (fun s_ => [(1, .func (.func 241) #[] #[]), (5, sl s_.2.1 (s_.2.2.length)), (10, sl a_l (l.length)), (11, iv ((l.length : Int))), (12, iv ((s_.1 : Int)))]) (fun s_ G_ => G_) (fun s_ => [Al 2 107 s_.2.1 (s_.2.2.length) (A5 s_.2.2)]) (fun s_ => l.length - s_.1) (0, (none, 0), []) (⟨Nat.zero_le _, rfl, Nat.le_refl _⟩) (by exact Dk) ?_ ?_
 ·exact fun w hs => (hs.C3 2 107)
 ·intro ⟨i, a, m⟩ base0 ⟨hi9, hm9, hn9⟩ next0; dsimp only at  hi9  hm9  hn9  next0 ⊢; refine E0 ?_; refine D2 (decide ((i : Int) < (l.length : Int))) (fun h13 c13 => ?_) (fun h13 c13 => ?_)
  ·have hui := hk_l.1 _ (Ae (d := Bm) (show i < l.length by omega)); have hll := hk_l.2; have huq : u32 (l.getD i Bm) := hui; refine Ic ?_; obtain ⟨bk2, o2, hav2⟩ := hA1 (by (first | assumption | omega)); refine q0 rfl (Dg ?_ (j := i)); refine R6 ?_; refine q0 rfl (B5 fun b7 => ?_); refine Ey ?_; refine Oq ?_; refine q0 rfl (C7 call241 (Y9 (l.getD i Bm) hui) (cap := []) (fun x19 => ?_)); refine Jo ?_; refine q0 rfl (B5 fun b8 => ?_); refine G5 ?_; refine Ef ?_; refine Jj ?_; refine D2 (!I2 (l.getD i Bm)) (fun h22 c22 => ?_) (fun h22 c22 => ?_)
   ·refine Dj ?_; refine Fs ?_; refine q0 rfl (Dd fun b25 => ?_); refine q0 rfl (Ed (fun a26 => ?_) (a := a) (n' := m.length)); refine An (fun w hs => ((hs.perm Ar).drop).X6 (c := (l.getD i Bm))) ?_; refine Ot ?_; refine A2 (fun w hs => ?_) (next0 (i + 1, a26, m ++ [(l.getD i Bm)]) _ (⟨by omega, by rw [hm9, Ad (d := Bm) A3]; generalize l.getD i Bm = x at h22 ⊢; simp [Da, h22], by simp; omega⟩) (by (try simp only); omega) ⟨rfl, (by rw [List.length_append]; rfl), rfl, rfl, rfl, trivial⟩); have e1 : (m ++ [(l.getD i Bm)]).length = m.length + 1 := by simp
    rw [e1]; exact ((hs.l9).Bw (A := [_]))
   ·refine Hr ?_; refine A2 (fun w hs => ?_) (next0 (i + 1, a, m) _ (⟨by omega, by rw [hm9, Ad (d := Bm) A3]; generalize l.getD i Bm = x at h22 ⊢; simp [Da, h22], by (try simp only); omega⟩) (by (try simp only); omega) Dk); exact (((hs.l9).perm Bf).Bw (A := [_]))
  ·refine En ?_; refine I8 ?_; have he : m = (Da l) := by rw [hm9, show i = l.length by omega, List.take_length]
   refine Ao f_ rfl A7 a (by rw [← he]; rfl) (fun w hs => by rw [← he]; exact (hs.l7))
theorem B7n (l : List Cl) (a_l : SH) (c : Cl) (g1 : Nat) (hc : u32 c) : Spec prog 240 #[sl a_l (l.length), .func (.func 272) #[] [pz g1].toArray] [CL l a_l, At g1 0 (Ai c)] [] (fun x : SH => sl x (Da (l.map fun b => D0 c b)).length) (fun x : SH => []) (fun x : SH => [Al 2 107 x (Da (l.map fun b => D0 c b)).length (A5 (Da (l.map fun b => D0 c b)))]) := by
 rw [show (#[sl a_l (l.length), .func (.func 272) #[] [pz g1].toArray] : Array Value) = ([sl a_l (l.length), .func (.func 272) #[] [pz g1].toArray] : List Value).toArray from rfl]; refine Et func240 ntmps240 rfl Xw fun B hB => ?_
 refine A6 (l := l) (a := a_l) (fun hl1 hA1 hU1 => ?_); refine Bx (p := Af l) (fun w hs => Bs (hs.facts (CL l a_l) D4)) (fun hk_l => ?_); refine C9 ?_; refine Mu ?_; refine B3 (X := Nat × SH × List Cl) (fun s_ => s_.1 ≤ l.length ∧ s_.2.2 = (Da ((l.take s_.1).map fun b => D0 c b)) ∧ s_.2.2.length ≤ s_.1) (fun s_ => [(1, .func (.func 272) #[] [pz g1].toArray), (5, sl s_.2.1 (s_.2.2.length)), (10, sl a_l (l.length)), (11, iv ((l.length : Int))), (12, iv ((s_.1 : Int)))]) (fun s_ G_ => G_) (fun s_ => [Al 2 107 s_.2.1 (s_.2.2.length) (A5 s_.2.2)]) (fun s_ => l.length - s_.1) (0, (none, 0), []) (⟨Nat.zero_le _, rfl, Nat.le_refl _⟩) (by exact Dk) ?_ ?_
 ·exact fun w hs => (hs.C3 2 107)
 ·intro ⟨i, a, m⟩ base0 ⟨hi9, hm9, hn9⟩ next0; dsimp only at  hi9  hm9  hn9  next0 ⊢; refine E0 ?_; refine D2 (decide ((i : Int) < (l.length : Int))) (fun h13 c13 => ?_) (fun h13 c13 => ?_)
  ·have hui := hk_l.1 _ (Ae (d := Bm) (show i < l.length by omega)); have hll := hk_l.2; have huq : u32 (D0 c (l.getD i Bm)) := J2 hc hui; refine Ic ?_; obtain ⟨bk2, o2, hav2⟩ := hA1 (by (first | assumption | omega)); refine q0 rfl (Dg ?_ (j := i)); refine R6 ?_; refine q0 rfl (B5 fun b7 => ?_); refine Ey ?_; refine Oq ?_; refine q0 rfl (C7 call272 (A3r (l.getD i Bm) g1 c hui hc) (cap := [pz g1]) (fun x19 => ?_)); refine Jo ?_; refine q0 rfl (B5 fun b8 => ?_); refine G5 ?_; refine Ef ?_; refine Jj ?_; refine D2 (!I2 (D0 c (l.getD i Bm))) (fun h22 c22 => ?_) (fun h22 c22 => ?_)
   ·refine Dj ?_; refine Fs ?_; refine q0 rfl (Dd fun b25 => ?_); refine q0 rfl (Ed (fun a26 => ?_) (a := a) (n' := m.length)); refine An (fun w hs => ((hs.perm Ar).drop).X6 (c := (D0 c (l.getD i Bm)))) ?_; refine Ot ?_; refine A2 (fun w hs => ?_) (next0 (i + 1, a26, m ++ [(D0 c (l.getD i Bm))]) _ (⟨by omega, by rw [hm9, Ad (d := Bm) A3]; generalize l.getD i Bm = x at h22 ⊢; simp [Da, h22], by simp; omega⟩) (by (try simp only); omega) ⟨rfl, (by rw [List.length_append]; rfl), rfl, rfl, rfl, trivial⟩); have e1 : (m ++ [(D0 c (l.getD i Bm))]).length = m.length + 1 := by simp
    rw [e1]; exact ((hs.l9).Bw (A := [_]))
   ·refine Hr ?_; refine A2 (fun w hs => ?_) (next0 (i + 1, a, m) _ (⟨by omega, by rw [hm9, Ad (d := Bm) A3]; generalize l.getD i Bm = x at h22 ⊢; simp [Da, h22], by (try simp only); omega⟩) (by (try simp only); omega) Dk); exact (((hs.l9).perm Bf).Bw (A := [_]))
  ·refine En ?_; refine I8 ?_; have he : m = (Da (l.map fun b => D0 c b)) := by rw [hm9, show i = l.length by omega, List.take_length]
   refine Ao f_ rfl A7 a (by rw [← he]; rfl) (fun w hs => by rw [← he]; exact (hs.l7))
theorem ofO (f : List Cl) (a_f : SH)  : Spec prog 173 #[sl a_f (f.length)] [CL f a_f] [] (fun x : SH => .tuple #[sl x (Sm f).2.length, iv (Sm f).1]) (fun x : SH => []) (fun x : SH => [Al 2 107 x (Sm f).2.length (A5 (Sm f).2)]) := by
 refine D8 ntmps173 fun B hB => ?_
 refine A6 (l := f) (a := a_f) (fun hl1 hA1 hU1 => ?_); refine Bx (p := Af f) (fun w hs => Bs (hs.facts (CL f a_f) D4)) (fun hk_f => ?_); refine F0 ?_; refine Gt ?_; refine q0 rfl (A0 call63 (Fp f a_f ) (fun x5 => ?_)); refine Iz ?_; refine D2 (!(Ab f)) (fun h6 c6 => ?_) (fun h6 c6 => ?_)
 ·have hg : Sm f = (2, []) := by rw [Sm, if_neg (by simp at h6; simp [h6])]
  refine F0 ?_; refine Bh f_ rfl A7 A7 (none, 0) (by rw [hg]; rfl) (fun w hs => by rw [hg]; exact ((hs.l7).bare.C3 2 107))
 ·have hg : Sm f = Ay (Da f) := by rw [Sm, if_pos (by simpa using h6)]
  refine Gu ?_; refine Ef ?_; refine q0 rfl (A0 call240 (B7o f a_f) (fun x8 => ?_)); refine An (fun w hs => (hs.D7 hB rfl (rfl) ((Pe hk_f).2) ((Pe hk_f).1))) ?_; refine q0 rfl (A0 call110 (Je (Da f) x8) (fun x9 => ?_)); refine Ie ?_; refine Bh f_ rfl A7 A7 x9 (by rw [hg]; rfl) (fun w hs => by rw [hg]; exact (hs.l7))
theorem C0v (r : List Cl) (a_r : SH)  : Spec prog 174 #[sl a_r (r.length)] [Nw, CL r a_r] [] (fun x : SH => .tuple #[sl x (Ej r).2.length, iv (Ej r).1]) (fun x : SH => []) (fun x : SH => [Al 2 107 x (Ej r).2.length (A5 (Ej r).2)]) := by
 refine D8 ntmps174 fun B hB => ?_
 refine A6 (l := r) (a := a_r) (fun hl1 hA1 hU1 => ?_); refine Bx (p := Af r) (fun w hs => Bs (hs.facts (CL r a_r) D4)) (fun hk_r => ?_); refine F0 ?_; refine Ef ?_; obtain ⟨r1, hr1⟩ : ∃ q9 : EL, q9 = Jm r := ⟨_, rfl⟩; refine q0 rfl (A0 call114 (Spec.N3 hr1 (C3g r a_r) (A1x r)) (fun x8 => ?_)); refine H8 ?_; refine D2 (decide (r1.1 ≠ 0)) (fun h12 c12 => ?_) (fun h12 c12 => ?_)
 ·have hg : Ej r = (r1.1, []) := by unfold Ej; rw [← hr1]; exact Be (by simpa using h12)
  refine Ki ?_; refine Bh f_ rfl A7 A7 (none, 0) (by rw [hg]; rfl) (fun w hs => by rw [hg]; exact ((hs.l7).bare.C3 2 107))
 ·have hg2 : Ej r = Sm r1.2 := by unfold Ej; rw [← hr1]; exact Ba (by simpa using h12)
  refine Gu ?_; refine Ef ?_; obtain ⟨r2, hr2⟩ : ∃ q9 : EL, q9 = Sm r1.2 := ⟨_, rfl⟩; refine q0 rfl (A0 call173 (Spec.Oi hr2 (ofO r1.2 x8)) (fun x15 => ?_)); refine Ie ?_; have hg := hg2.trans hr2.symm; refine Bh f_ rfl A7 A7 x15 (by rw [hg]; rfl) (fun w hs => by rw [hg]; exact (hs.l7))
theorem C8h (f : List Cl) (a_f : SH) (g : List Cl) (a_g : SH) (hlf : f.length ≤ 1000) (hlg : g.length ≤ 1000) : Spec prog 236 #[sl a_f (f.length), sl a_g (g.length)] [CL f a_f, CL g a_g] [] (fun x : SH => .tuple #[sl x (L0 f g).2.length, iv (L0 f g).1]) (fun x : SH => []) (fun x : SH => [Al 2 107 x (L0 f g).2.length (A5 (L0 f g).2)]) := by
 refine D8 ntmps236 fun B hB => ?_
 refine A6 (l := f) (a := a_f) (fun hl1 hA1 hU1 => ?_); refine A6 (l := g) (a := a_g) (fun hl2 hA2 hU2 => ?_); refine Bx (p := Af f) (fun w hs => Bs (hs.facts (CL f a_f) D4)) (fun hk_f => ?_); refine Bx (p := Af g) (fun w hs => Bs (hs.facts (CL g a_g) D4)) (fun hk_g => ?_); refine F0 ?_; refine Mu ?_; refine B3 (X := Nat × SH × List Cl) (fun s_ => s_.1 ≤ f.length ∧ s_.2.2 = ((f.take s_.1).flatMap fun q => Da (g.map fun b => D0 q b)) ∧ s_.2.2.length ≤ s_.1 * g.length ∧ ∀ c, c ∈ s_.2.2 → u32 c) (fun s_ => [(1, sl a_g (g.length)), (6, sl s_.2.1 (s_.2.2.length)), (9, sl a_f (f.length)), (10, iv ((f.length : Int))), (11, iv ((s_.1 : Int)))]) (fun s_ G_ => G_) (fun s_ => [Al 2 107 s_.2.1 (s_.2.2.length) (A5 s_.2.2)]) (fun s_ => f.length - s_.1) (0, (none, 0), []) (⟨Nat.zero_le _, rfl, Nat.zero_le _, fun c hc => (by cases hc)⟩) (by exact Dk) ?_ ?_
 ·exact fun w hs => (hs.C3 2 107)
 ·intro ⟨i, a, l⟩ base0 ⟨hi, hl9, hn9, hu9⟩ next0; dsimp only at  hi  hl9  hn9  hu9  next0 ⊢; refine E0 ?_; refine D2 (decide ((i : Int) < (f.length : Int))) (fun h12 c12 => ?_) (fun h12 c12 => ?_)
  ·have hui := hk_f.1 _ (Ae (d := Bm) (show i < f.length by omega)); have hml : (Da (g.map fun b => D0 (f.getD i Bm) b)).length ≤ g.length := Nat.le_trans (List.length_filter_le _ _) (by rw [List.length_map]; exact Nat.le_refl _); have hll : l.length ≤ 1000000 := Nat.le_trans hn9 (Nat.mul_le_mul (show i ≤ 1000 by omega) hlg); refine Ic ?_; obtain ⟨bk3, o3, hav3⟩ := hA1 (by (first | assumption | omega)); refine q0 rfl (Dg ?_ (j := i)); refine R6 ?_; refine q0 rfl (B5 fun b8 => ?_); refine Ey ?_; refine Me (Ms' := [Ac b8 (Ai (f.getD i Bm)) 107, Al 2 107 a (l.length) (A5 l)]) (by rfl) ?_; refine A2 (fun w hs => (((hs.perm Ar).perm Ar).C1 hB)) ?_; refine Dj ?_; refine E1 ?_; refine Mo ?_; refine q0 rfl (A0 call240 (B7n g a_g (f.getD i Bm) b8 hui) (fun x18 => ?_)); refine An (fun w hs => (((hs.perm Ar).perm Ar).D7 hB rfl (rfl) (by unfold reach; omega) (fun d hd => by obtain ⟨b, hb, rfl⟩ := List.mem_map.mp (List.mem_filter.mp hd).1; exact J2 hui (hk_g.1 b hb)))) ?_; refine q0 rfl (Lp (fun a19 => ?_) D4 (a := a) (n' := l.length) (b := x18) (ls := (Da (g.map fun b => D0 (f.getD i Bm) b)))); refine An (fun w hs => hs.L9 (l := l) (m := (Da (g.map fun b => D0 (f.getD i Bm) b)))) ?_; refine Ot ?_; refine A2 (fun w hs => ?_) (next0 (i + 1, a19, l ++ (Da (g.map fun b => D0 (f.getD i Bm) b))) _ (⟨by omega, by rw [hl9, Ad (d := Bm) A3, List.flatMap_append]; simp, by rw [List.length_append, Nat.succ_mul]; omega, fun c hc => (List.mem_append.mp hc).elim (hu9 c) (fun hd => by obtain ⟨b, hb, rfl⟩ := List.mem_map.mp (List.mem_filter.mp hd).1; exact J2 hui (hk_g.1 b hb))⟩) (by (try simp only); omega) ⟨rfl, (by rw [List.length_append]; rfl), rfl, rfl, rfl, trivial⟩); have e1 : (l ++ (Da (g.map fun b => D0 (f.getD i Bm) b))).length = l.length + (Da (g.map fun b => D0 (f.getD i Bm) b)).length := List.length_append; rw [e1]; exact (hs.l9)
  ·have hlm : l = (f.flatMap fun q => Da (g.map fun b => D0 q b)) := by rw [hl9, show i = f.length by omega, List.take_length]
   have hll : l.length ≤ 1000000 := Nat.le_trans hn9 (Nat.mul_le_mul (show i ≤ 1000 by omega) hlg); have hg : L0 f g = Ay l := by rw [hlm]; rfl
   refine En ?_; refine F9 ?_; refine A2 (fun w hs => (hs.D7 hB rfl (rfl) (by unfold reach; omega) (hu9))) ?_; refine Dj ?_; refine q0 rfl (A0 call110 (Je l a) (fun x22 => ?_)); refine Ie ?_; refine Bh f_ rfl A7 A7 x22 (by rw [hg]; rfl) (fun w hs => by rw [hg]; exact (hs.l7))
theorem C6o (f : List Cl) (a_f : SH) (g : List Cl) (a_g : SH) (hlf : f.length ≤ 1000000) (hlg : g.length ≤ 1000000) : Spec prog 176 #[sl a_f (f.length), sl a_g (g.length)] [CL f a_f, CL g a_g] [] (fun x : SH => .tuple #[sl x (Hx f g).2.length, iv (Hx f g).1]) (fun x : SH => []) (fun x : SH => [Al 2 107 x (Hx f g).2.length (A5 (Hx f g).2)]) := by
 refine D8 ntmps176 fun B hB => ?_
 refine A6 (l := f) (a := a_f) (fun hl1 hA1 hU1 => ?_); refine A6 (l := g) (a := a_g) (fun hl2 hA2 hU2 => ?_); refine F0 ?_; refine Gt ?_; refine E1 ?_; refine q0 rfl (N9 fun b9 => ?_); refine An (fun w hs => (hs.Zi hB Ds Ds)) ?_; refine q0 rfl (A0 call242 (Vb [(f, a_f), (g, a_g)] (some ⟨b9, 0, none⟩, 2)) (fun x10 => ?_)); refine Mw ?_; refine D2 (decide ((if [(f, a_f), (g, a_g)].all (fun p => A4 p.1) then (0 : Int) else 2) ≠ 0)) (fun h12 c12 => ?_) (fun h12 c12 => ?_)
 ·have hfr : (A4 f && A4 g) = false := by cases hq : A4 f <;> cases hq2 : A4 g <;> simp [hq, hq2] at h12 ⊢
  have h8 : (if [(f, a_f), (g, a_g)].all (fun p => A4 p.1) then (0 : Int) else 2) = 2 := by cases hq : A4 f <;> cases hq2 : A4 g <;> simp [hq, hq2] at h12 ⊢
  have hg : Hx f g = (2, []) := by rw [Hx, if_pos hfr]
  refine Ki ?_; refine Bh f_ rfl A7 A7 (none, 0) (by rw [hg]; (conv => lhs; whnf; rw [h8]); rfl) (fun w hs => by rw [hg]; exact ((hs.l7).bare.C3 2 107))
 ·have hfr : ¬ (A4 f && A4 g) = false := by cases hq : A4 f <;> cases hq2 : A4 g <;> simp [hq, hq2] at h12 ⊢
  have hg2 : Hx f g = Gk f g := by rw [Hx, if_neg hfr]
  refine Om ?_; obtain ⟨r1, hr1⟩ : ∃ q9 : EL, q9 = Gk f g := ⟨_, rfl⟩; refine q0 rfl (A0 call237 (Spec.Oi hr1 (C8i f a_f g a_g hlf hlg)) (fun x16 => ?_)); refine Ie ?_; have hg := hg2.trans hr1.symm; refine Bh f_ rfl A7 A7 x16 (by rw [hg]; rfl) (fun w hs => by rw [hg]; exact (hs.l7))
theorem B6t (f : List Cl) (a_f : SH) (g : List Cl) (a_g : SH)  : Spec prog 115 #[sl a_f (f.length), sl a_g (g.length)] [CL f a_f, CL g a_g] [] (fun x : SH => .tuple #[sl x (Kz f g).2.length, iv (Kz f g).1]) (fun x : SH => []) (fun x : SH => [Al 2 107 x (Kz f g).2.length (A5 (Kz f g).2)]) := by
 refine D8 ntmps115 fun B hB => ?_
 refine A6 (l := f) (a := a_f) (fun hl1 hA1 hU1 => ?_); refine A6 (l := g) (a := a_g) (fun hl2 hA2 hU2 => ?_); refine F0 ?_; refine Gt ?_; refine E1 ?_; refine q0 rfl (N9 fun b9 => ?_); refine An (fun w hs => (hs.Zi hB Ds Ds)) ?_; refine q0 rfl (A0 call166 (M0 [(f, a_f), (g, a_g)] (some ⟨b9, 0, none⟩, 2)) (fun x10 => ?_)); refine Mw ?_; refine D2 (decide ((if [(f, a_f), (g, a_g)].all (fun p => Ab p.1) then (0 : Int) else 2) ≠ 0)) (fun h12 c12 => ?_) (fun h12 c12 => ?_)
 ·have hfr : (Ab f && Ab g) = false := by cases hq : Ab f <;> cases hq2 : Ab g <;> simp [hq, hq2] at h12 ⊢
  have h8 : (if [(f, a_f), (g, a_g)].all (fun p => Ab p.1) then (0 : Int) else 2) = 2 := by cases hq : Ab f <;> cases hq2 : Ab g <;> simp [hq, hq2] at h12 ⊢
  have hg : Kz f g = (2, []) := by unfold Kz; rw [if_pos hfr]
  refine Ki ?_; refine Bh f_ rfl A7 A7 (none, 0) (by rw [hg]; (conv => lhs; whnf; rw [h8]); rfl) (fun w hs => by rw [hg]; exact ((hs.l7).bare.C3 2 107))
 ·have hfr : ¬ (Ab f && Ab g) = false := by cases hq : Ab f <;> cases hq2 : Ab g <;> simp [hq, hq2] at h12 ⊢
  have hlf : f.length ≤ 64 := by simp at hfr; exact Fv hfr.1
  have hlg : g.length ≤ 64 := by simp at hfr; exact Fv hfr.2
  have hg2 : Kz f g = Hu f g := by unfold Kz; rw [if_neg hfr]
  refine Om ?_; obtain ⟨r1, hr1⟩ : ∃ q9 : EL, q9 = Hu f g := ⟨_, rfl⟩; refine q0 rfl (A0 call204 (Spec.Oi hr1 (C3h f a_f g a_g A3 A3)) (fun x16 => ?_)); refine Ie ?_; have hg := hg2.trans hr1.symm; refine Bh f_ rfl A7 A7 x16 (by rw [hg]; rfl) (fun w hs => by rw [hg]; exact (hs.l7))
theorem C6n (f : List Cl) (a_f : SH) (g : List Cl) (a_g : SH)  : Spec prog 116 #[sl a_f (f.length), sl a_g (g.length)] [CL f a_f, CL g a_g] [] (fun x : SH => .tuple #[sl x (L2 f g).2.length, iv (L2 f g).1]) (fun x : SH => []) (fun x : SH => [Al 2 107 x (L2 f g).2.length (A5 (L2 f g).2)]) := by
 refine D8 ntmps116 fun B hB => ?_
 refine A6 (l := f) (a := a_f) (fun hl1 hA1 hU1 => ?_); refine A6 (l := g) (a := a_g) (fun hl2 hA2 hU2 => ?_); refine F0 ?_; refine Gt ?_; refine E1 ?_; refine q0 rfl (N9 fun b9 => ?_); refine An (fun w hs => (hs.Zi hB Ds Ds)) ?_; refine q0 rfl (A0 call166 (M0 [(f, a_f), (g, a_g)] (some ⟨b9, 0, none⟩, 2)) (fun x10 => ?_)); refine Mw ?_; refine D2 (decide ((if [(f, a_f), (g, a_g)].all (fun p => Ab p.1) then (0 : Int) else 2) ≠ 0)) (fun h12 c12 => ?_) (fun h12 c12 => ?_)
 ·have hfr : (Ab f && Ab g) = false := by cases hq : Ab f <;> cases hq2 : Ab g <;> simp [hq, hq2] at h12 ⊢
  have h8 : (if [(f, a_f), (g, a_g)].all (fun p => Ab p.1) then (0 : Int) else 2) = 2 := by cases hq : Ab f <;> cases hq2 : Ab g <;> simp [hq, hq2] at h12 ⊢
  have hg : L2 f g = (2, []) := by unfold L2; rw [if_pos hfr]
  refine Ki ?_; refine Bh f_ rfl A7 A7 (none, 0) (by rw [hg]; (conv => lhs; whnf; rw [h8]); rfl) (fun w hs => by rw [hg]; exact ((hs.l7).bare.C3 2 107))
 ·have hfr : ¬ (Ab f && Ab g) = false := by cases hq : Ab f <;> cases hq2 : Ab g <;> simp [hq, hq2] at h12 ⊢
  have hlf : f.length ≤ 64 := by simp at hfr; exact Fv hfr.1
  have hlg : g.length ≤ 64 := by simp at hfr; exact Fv hfr.2
  have hg2 : L2 f g = Gk f g := by unfold L2; rw [if_neg hfr]
  refine Om ?_; obtain ⟨r1, hr1⟩ : ∃ q9 : EL, q9 = Gk f g := ⟨_, rfl⟩; refine q0 rfl (A0 call205 (Spec.Oi hr1 (D0r f a_f g a_g A3 A3)) (fun x16 => ?_)); refine Ie ?_; have hg := hg2.trans hr1.symm; refine Bh f_ rfl A7 A7 x16 (by rw [hg]; rfl) (fun w hs => by rw [hg]; exact (hs.l7))
theorem A9u (f : List Cl) (a_f : SH) (g : List Cl) (a_g : SH)  : Spec prog 175 #[sl a_f (f.length), sl a_g (g.length)] [CL f a_f, CL g a_g] [] (fun x : SH => .tuple #[sl x (E8 f g).2.length, iv (E8 f g).1]) (fun x : SH => []) (fun x : SH => [Al 2 107 x (E8 f g).2.length (A5 (E8 f g).2)]) := by
 refine D8 ntmps175 fun B hB => ?_
 refine A6 (l := f) (a := a_f) (fun hl1 hA1 hU1 => ?_); refine A6 (l := g) (a := a_g) (fun hl2 hA2 hU2 => ?_); refine F0 ?_; refine Gt ?_; refine E1 ?_; refine q0 rfl (N9 fun b9 => ?_); refine An (fun w hs => (hs.Zi hB Ds Ds)) ?_; refine q0 rfl (A0 call242 (Vb [(f, a_f), (g, a_g)] (some ⟨b9, 0, none⟩, 2)) (fun x10 => ?_)); refine Mw ?_; refine D2 (decide ((if [(f, a_f), (g, a_g)].all (fun p => A4 p.1) then (0 : Int) else 2) ≠ 0)) (fun h12 c12 => ?_) (fun h12 c12 => ?_)
 ·have hfr : (A4 f && A4 g) = false := by cases hq : A4 f <;> cases hq2 : A4 g <;> simp [hq, hq2] at h12 ⊢
  have h8 : (if [(f, a_f), (g, a_g)].all (fun p => A4 p.1) then (0 : Int) else 2) = 2 := by cases hq : A4 f <;> cases hq2 : A4 g <;> simp [hq, hq2] at h12 ⊢
  have hg : E8 f g = (2, []) := by unfold E8; rw [if_pos hfr]
  refine Ki ?_; refine Bh f_ rfl A7 A7 (none, 0) (by rw [hg]; (conv => lhs; whnf; rw [h8]); rfl) (fun w hs => by rw [hg]; exact ((hs.l7).bare.C3 2 107))
 ·have hfr : ¬ (A4 f && A4 g) = false := by cases hq : A4 f <;> cases hq2 : A4 g <;> simp [hq, hq2] at h12 ⊢
  have hlf : f.length ≤ 64 := by simp at hfr; exact Fv (Cx hfr.1).1
  have hlg : g.length ≤ 64 := by simp at hfr; exact Fv (Cx hfr.2).1
  have hg2 : E8 f g = L0 f g := (Kd (by simp at hfr; exact hfr.1) (by simp at hfr; exact hfr.2)); refine Om ?_; obtain ⟨r1, hr1⟩ : ∃ q9 : EL, q9 = L0 f g := ⟨_, rfl⟩; refine q0 rfl (A0 call236 (Spec.Oi hr1 (C8h f a_f g a_g A3 A3)) (fun x16 => ?_)); refine Ie ?_; have hg := hg2.trans hr1.symm; refine Bh f_ rfl A7 A7 x16 (by rw [hg]; rfl) (fun w hs => by rw [hg]; exact (hs.l7))
def Tt : Tys := ⟨107, 26, 77⟩
theorem Vg (l : List Cl) (a : SH) : Spec prog 139 #[sl a l.length] [CL l a] [] (fun x : SH => sl x l.length) (fun x => [CL l x]) (fun _ => []) := by
 refine D8 ntmps139 fun B hB => ?_
 refine A6 (l := l) (a := a) (fun hl1 hA1 hU1 => ?_); refine C9 ?_; refine Gt ?_; refine q0 rfl (C0y ?_); refine Jj ?_; refine A1 (fun h4 => ?_) (fun h4 => ?_)
 ·refine C9 ?_; have hl : l = [] := by (rcases Nat.eq_zero_or_pos l.length with h | h; exact List.eq_nil_of_length_eq_zero h; obtain ⟨bk, o, hav⟩ := hA1 h; rw [hav] at h4; cases h4)
  subst hl; refine Ao f_ rfl A7 (none, 0) rfl (fun w hs => (hs.Sp 0).l8)
 ·refine Gu ?_; refine B2 ?_; refine q0 rfl (A6a fun b5 => ?_); refine E1 ?_; refine An (fun w hs => hs.I5 (sz := 2) (m := 0) rfl I4) ?_; refine q0 rfl (Lp (fun a7 => ?_) (by exact List.mem_cons_self)); refine Ci ?_; have e0 : 0 + l.length = l.length := by omega
  rw [e0]; refine Ao f_ rfl A7 a7 rfl (fun w hs => ((hs.D7 hB D4 A3 (by unfold reach at *; omega) hU1).l8))
abbrev A7r (t : T) : Prop := ∀ vr vk vs, Spec prog 76 #[.agg (tc t vr vk vs).toArray] [RT t vr vk vs] [] (fun x : SH × SH × SH => .agg (tc t x.1 x.2.1 x.2.2).toArray) (fun x => [RT t x.1 x.2.1 x.2.2]) (fun _ => [])
theorem T0 (ts : List T) (a : SH) (ih : ∀ t, t ∈ ts → A7r t) : Spec prog 140 #[sl a ts.length] [TL ts a] [] (fun x : SH => sl x ts.length) (fun x => [TL ts x]) (fun _ => []) := by
 refine D8 ntmps140 fun B hB => ?_
 refine B1 (ts := ts) (a := a) (fun VR VK VS hl1 hA1 => ?_); refine C9 ?_; refine Mu ?_; refine Dm (X := Nat × SH × List TP) (fun s => s.1 ≤ ts.length ∧ s.2.2.length = s.1 ∧ s.2.2.map (·.1) = ts.take s.1) (fun s => [(3, sl s.2.1 s.1), (6, sl a ts.length), (7, iv (ts.length : Int)), (8, iv (s.1 : Int))]) (fun s => [AP s.2.2, TLx ts a VR VK VS]) (fun s => [Al 6 26 s.2.1 s.1 (Bp s.2.2)]) (fun s => ts.length - s.1) ((0, (none, 0), [])) (⟨Nat.zero_le _, rfl, rfl⟩) (by exact Dk) ?_ ?_
 ·exact fun w hs => ((hs.C3 6 26).P4).l9
 ·intro ⟨i, a3, ps⟩ base0 ⟨hi, hpl, hpm⟩ next0; dsimp only at hi hpl hpm next0 ⊢; refine E0 ?_; refine A1 (fun h9 => ?_) (fun h9 => ?_)
  ·have hlt : i < ts.length := by have := of_decide_eq_true h9; omega
   obtain ⟨bk, o, hav⟩ := hA1 A3; refine Fo (ts := ts) (a := a) (VR := VR) (VK := VK) (VS := VS) i hlt ?_; refine Ic ?_; refine Oe ?_; refine P7 ?_; refine q0 rfl (B5 fun b5 => ?_); refine Ey ?_; refine Dj ?_; refine Fs ?_; refine q0 rfl (A0 call76 (ih _ (Ae hlt) (VR i) (VK i) (VS i)) (fun x14 => ?_)); refine q0 rfl (Dd fun b15 => ?_); refine q0 rfl (Ed (fun a16 => ?_)  ); refine Ot ?_; refine A2 (fun w hs => ?_) (next0 (i + 1, a16, ps ++ [(ts.getD i t0, x14)]) _ ⟨hlt, by simp [hpl], by simp only [List.map_append, List.map_cons, List.map_nil, hpm]; exact (Ad hlt).symm⟩ (by simp only; omega) Dk); have h1 := hs.Nr (ps := ps) (t := ts.getD i t0) (vr := x14.1) (vk := x14.2.1) (vs := x14.2.2) D4 D4; have e1 : Bp (ps ++ [(ts.getD i t0, x14)]) = Bp ps ++ tc (ts.getD i t0) x14.1 x14.2.1 x14.2.2 := by simp [Bp, Fu]
   rw [e1]; exact (h1.l9).Bw (A := [_])
  ·have hge : i = ts.length := by have := of_decide_eq_false h9; omega
   refine En ?_; refine I8 ?_; have hm2 : ps.map (·.1) = ts := by rw [hpm, hge, List.take_length]
   rw [hge]; refine Ao f_ rfl A7 a3 rfl (fun w hs => (hs.G8 hB D4 rfl hm2 A3 (by unfold reach at *; omega)).l8)
theorem B3j (t : T) (ih : ∀ p, p ∈ parts t → A7r p.1) (vr vk vs : SH) : Spec prog 76 #[.agg (tc t vr vk vs).toArray] [RT t vr vk vs] [] (fun x : SH × SH × SH => .agg (tc t x.1 x.2.1 x.2.2).toArray) (fun x => [RT t x.1 x.2.1 x.2.2]) (fun _ => []) := by
 refine D8 ntmps76 fun B hB => ?_
 refine go_open (t := t) (vr := vr) (vk := vk) (vs := vs) (fun hk hn hnm => ?_); refine E6 (bs := t.sys) (a := vs) (fun VF VK hl1 hA1 => ?_); refine B2 ?_; refine q0 rfl (Az fun b1 => ?_); refine q0 rfl (B5 fun b2 => ?_); refine A0q ?_; refine Ca (pn := 1000000) (tn := false) (A := [0, 1, 0, 4, 0, 16, 0, 64, 192, 0, 512, 1984, 4095, 0, 16383]) (l := [0, 1, 2, 3, 4, 5, 6, 7, 9, 10, 8, 11, 12, 13]) (fin := [14]) Tab.mixed ⟨_, func76⟩ (by rfl) ?_; refine Gd ?_; refine Gd ?_; refine Gd ?_; refine Gd ?_; refine Gd ?_; refine n0 rfl (Bo call139 (Vg t.r vr) (fun x14 => ?_)); refine n0 rfl (Bo call140 (T0 t.kids vk (fun k hk => (by obtain ⟨p, hp, e⟩ := G9 hk; exact e ▸ ih p hp))) (fun x17 => ?_)); refine n0 rfl (Yl (cs := [iv t.kind, iv t.n, .string t.name, sl x14 t.r.length, sl x17 t.kids.length, .slice none 0 0]) ?_); refine n0 rfl (B4b fun b3 => ?_); refine B0r ?_; refine Jq ?_; refine Mc ?_; refine Dm (X := Nat × SH × List BP) (fun s => s.1 ≤ t.sys.length ∧ s.2.2.length = s.1 ∧ s.2.2.map (·.1) = t.sys.take s.1) (fun s => [(2, pz b2), (3, pz b3), (20, sl vs t.sys.length), (21, iv (t.sys.length : Int)), (22, iv (s.1 : Int))]) (fun s => [BPs s.2.2, BLx t.sys vs VF VK, CL t.r x14, TL t.kids x17]) (fun s => [Ac b3 [iv t.kind, iv t.n, .string t.name, sl x14 t.r.length, sl x17 t.kids.length, sl s.2.1 s.1] 26, Al 2 77 s.2.1 s.1 (Ew s.2.2), Ac b2 [iv 0, iv 0, .string ⟨#[]⟩, .slice none 0 0, .slice none 0 0, .slice none 0 0] 26]) (fun s => t.sys.length - s.1) ((0, (none, 0), [])) (⟨Nat.zero_le _, rfl, rfl⟩) (by exact Dk) ?_ ?_
 ·exact fun w hs => (((hs.C3 2 77).B8u).l9).perm Ar |>.Bw (A := [_, _, _])
 ·intro ⟨i, a3, ps⟩ base0 ⟨hi, hpl, hpm⟩ next0; dsimp only at hi hpl hpm next0 ⊢; refine E0 ?_; refine A1 (fun h23 => ?_) (fun h23 => ?_)
  ·have hlt : i < t.sys.length := by have := of_decide_eq_true h23; omega
   obtain ⟨bk, o, hav⟩ := hA1 A3; refine Ic ?_; refine Oe ?_; refine B0q ?_; refine q0 rfl (B5 fun b5 => ?_); refine Ey ?_; refine Fx (bs := t.sys) (a := vs) (VF := VF) (VK := VK) i hlt ?_; refine Ca (pn := 1000000) (tn := false) (A := [0, 1, 0, 4, 12, 0, 32, 124, 252, 508, 1023, 2047, 4095]) (l := [0, 1, 2, 3, 5, 6, 4, 7, 8, 9]) (fin := [10, 11, 12]) Tab.mixed ⟨_, func76⟩ (by rfl) ?_; refine Gd ?_; refine Gd ?_; refine Gd ?_; refine n0 rfl (Bo call139 (Vg (t.sys.getD i Bi).B0 (VF i)) (fun x30 => ?_)); refine n0 rfl (Bo call140 (T0 (t.sys.getD i Bi).kids (VK i) (fun k hk => (by obtain ⟨p, hp, e⟩ := G7 (Ae hlt) hk; exact e ▸ ih p hp))) (fun x33 => ?_)); refine n0 rfl (Yl (cs := bc (t.sys.getD i Bi) x30 x33) ?_); refine n0 rfl (A4z fun b35 => ?_); refine B0r ?_; refine q0 rfl (Ed (fun a36 => ?_)  ); refine Pz ?_; refine P5 ?_; refine A2 (fun w hs => ?_) (next0 (i + 1, a36, ps ++ [(t.sys.getD i Bi, x30, x33)]) _ ⟨hlt, by simp [hpl], by simp only [List.map_append, List.map_cons, List.map_nil, hpm]; exact (Ad hlt).symm⟩ (by simp only; omega) Dk); have h1 := hs.B8v (ps := ps) (f := (t.sys.getD i Bi).B0) (ks := (t.sys.getD i Bi).kids) (vf := x30) (vk := x33) D4 D4 D4; rw [Br.eta] at h1; have e1 : Ew (ps ++ [(t.sys.getD i Bi, x30, x33)]) = Ew ps ++ bc (t.sys.getD i Bi) x30 x33 := by simp [Ew, H3]
   rw [e1]; have h2 := h1.less (Γ' := [BPs (ps ++ [(t.sys.getD i Bi, x30, x33)]), BLx t.sys vs VF VK, CL t.r x14, TL t.kids x17]) sx_; exact ((h2.perm (F1.trans (Bf.trans Bf))).Bw (A := [_, _, _]))
  ·have hge : i = t.sys.length := by have := of_decide_eq_false h23; omega
   refine En ?_; refine F7 ?_; refine Ey ?_; have hm2 : ps.map (·.1) = t.sys := by rw [hpm, hge, List.take_length]
   refine Z1 f_ rfl (x14, x17, a3) rfl Ds rfl rfl rfl (by simp only [tc, hge]; rfl) (fun w hs => ?_); have h2 := (hs.perm Bf).U3 hB D4 rfl hm2 A3 (by unfold reach at *; omega); have h3 := h2.B2c hk hn hnm (r := t.r) (vr := x14) (ks := t.kids) (vk := x17) (ss := t.sys) (vs := a3) D4 D4 D4; rw [T.eta] at h3; exact (h3.bare).l8
theorem B3k : ∀ t : T, A7r t := T.ind fun t ih vr vk vs => B3j t ih vr vk vs
theorem C0 {n : Int} (h : 0 ≤ n) (h2 : n ≤ 1000) : Aq n := by unfold Aq; omega
abbrev B9k (t : T) : Prop := ∀ (C8 : Int) vr vk vs, 0 ≤ C8 → C8 ≤ 1000000 → Spec prog 24 #[.agg (tc t vr vk vs).toArray, iv C8] [RT t vr vk vs] [] (fun x : {x : Int // E3 t (H2 t) C8 x} => iv x.1) (fun _ => []) (fun _ => [])
theorem B3n (t : T) (ih : ∀ p, p ∈ parts t → B9k p.1) (C8 : Int) (vr vk vs : SH) (h0 : 0 ≤ C8) (hm : C8 ≤ 1000000) : Spec prog 24 #[.agg (tc t vr vk vs).toArray, iv C8] [RT t vr vk vs] [] (fun x : {x : Int // E3 t (H2 t) C8 x} => iv x.1) (fun _ => []) (fun _ => []) := by
 refine D8 ntmps24 fun B hB => ?_
 refine go_open (fun hk hn hnm => ?_); refine A6 (l := t.r) (a := vr) (fun hlr hAr hUr => ?_); refine B1 (ts := t.kids) (fun VR VK VS hl1 hA1 => ?_); refine E6 (bs := t.sys) (fun VF VK2 hl2 hA2 => ?_); refine B2 ?_; refine q0 rfl (Az fun b2 => ?_); refine Ff ?_; refine F9 ?_; refine By ([(1, iv C8), (2, pz b2), (20, .bool (decide (C8 < (t.r.length : Int)) || decide (C8 < (t.name.size : Int))))]) (fun hK => ?_) (fun base => ?_)
 ·refine Ha ?_; refine H6 ?_; refine E1 ?_; refine B0p ?_; refine E1 ?_; refine qI rfl rfl rfl J1 (fun hg14 => Jb ?_) (fun hg14 => ?_)
  ·refine Hp ?_; refine qT rfl rfl rfl (Un ?_); refine Hq ?_; refine A4u ?_; refine I6 ?_; exact hK _ ⟨rfl, rfl, (by (conv => lhs; whnf); first | (simp_all [Bool.and_assoc]; done) | (simp_all [Bool.and_assoc]; omega)), trivial⟩
  ·refine N0 ?_; refine Hn ?_; exact hK _ ⟨rfl, rfl, (by (conv => lhs; whnf); first | (simp_all [Bool.and_assoc]; done) | (simp_all [Bool.and_assoc]; omega)), trivial⟩
 ·refine A1 (fun h20 => ?_) (fun h20 => ?_)
  ·have hb : C8 < (t.r.length : Int) ∨ C8 < (t.name.size : Int) := by simpa using h20
   refine Ef ?_; refine Mv ?_; refine Ao f_ rfl A7 ⟨C8 + 1, by unfold E3; have h9 := B0d t 0; rw [A0g] at h9; omega⟩ rfl (fun w hs => hs.none)
  ·have hb : (t.r.length : Int) ≤ C8 ∧ (t.name.size : Int) ≤ C8 := by simpa using h20
   have hge1 := B0d t 0; rw [A0g] at hge1; refine Gu ?_; refine K3 ?_; refine H6 ?_; refine A4y ?_; refine Ho ?_; refine q0 rfl (Un ?_); refine A4y ?_; refine Ff ?_; refine C9 ?_; refine W0 ?_; refine Dm (X := Nat × Int) (fun s => s.1 ≤ t.kids.length ∧ E3 t (bK t s.1) C8 s.2) (fun s => [(1, iv C8), (2, pz b2), (5, iv s.2), (6, iv (s.1 : Int))]) (fun s => [TLx t.kids vk VR VK VS, BLx t.sys vs VF VK2]) (fun s => [Ac b2 (tc t vr vk vs) 26]) (fun s => t.kids.length - s.1) ((0, 1 + (t.r.length : Int) + (t.name.size : Int))) (⟨Nat.zero_le _, by unfold E3; rw [A0g]; simp only; omega⟩) (by exact Dk) ?_ ?_
   ·exact fun w hs => hs.l9
   ·intro ⟨i, n⟩ base0 ⟨hi, hn0⟩ next0; dsimp only at hi hn0 next0 ⊢; refine F9 ?_; refine F9 ?_; refine By ([(1, iv C8), (2, pz b2), (5, iv n), (6, iv (i : Int)), (40, .bool (decide ((i : Int) < (t.kids.length : Int)) && decide (n ≤ C8)))]) (fun hK => ?_) (fun base => ?_)
    ·refine Dj ?_; refine Ho ?_; refine H6 ?_; refine Ta ?_; refine E1 ?_; refine qI rfl rfl rfl J1 (fun hg36 => E2 ?_) (fun hg36 => ?_)
     ·refine Hq ?_; refine A4w ?_; refine Hn ?_; exact hK _ ⟨rfl, rfl, rfl, rfl, (by (conv => lhs; whnf); first | (simp_all [Bool.and_assoc]; done) | (simp_all [Bool.and_assoc]; omega)), trivial⟩
     ·refine Fg ?_; refine I6 ?_; exact hK _ ⟨rfl, rfl, rfl, rfl, (by (conv => lhs; whnf); first | (simp_all [Bool.and_assoc]; done) | (simp_all [Bool.and_assoc]; omega)), trivial⟩
    ·refine A1 (fun h40 => ?_) (fun h40 => ?_)
     ·have hlt' : (i : Int) < (t.kids.length : Int) ∧ n ≤ C8 := by simpa using h40
      have hlt : i < t.kids.length := by omega
      obtain ⟨bk, o, hav⟩ := hA1 A3; refine Fo (ts := t.kids) (a := vk) i hlt ?_; obtain ⟨hz1, hz2, hz3⟩ := hn0; refine T9 ?_; refine Dj ?_; refine Ho ?_; refine E1 ?_; refine Oe ?_; refine P7 ?_; refine Gf ?_; refine q0 rfl (A2e ?_); refine q0 rfl (A0 call24 (ih (t.kids.getD i t0, _, _) (Ir (It t i hlt)) (C8 - n) _ _ _ A3 A3) (fun x52 => ?_)); have hx := x52.2; unfold E3 at hx; refine Mv ?_; refine P8 ?_; refine Dj ?_; refine Mv ?_; have hnn : E3 t (bK t (i + 1)) C8 (n + x52.1) := by (have h9 := B0d t (i + 1); rw [C2m hlt] at h9 ⊢; unfold E3; simp only at hx; omega)
      refine A2 (fun w hs => ?_) (next0 (i + 1, n + x52.1) _ ⟨hlt, hnn⟩ (by simp only; omega) Dk); exact (hs.l9)
     ·have hge : ¬ ((i : Int) < (t.kids.length : Int) ∧ n ≤ C8) := by simpa using h40
      have hnS : E3 t (bS t 0) C8 n := by (unfold E3 at hn0 ⊢; rw [C2l]; have h9 := B0d t t.kids.length; rcases Nat.lt_or_ge i t.kids.length with h | h; omega; rw [show i = t.kids.length by omega] at hn0; exact hn0)
      refine En ?_; refine F9 ?_; refine C9 ?_; refine W0 ?_; refine Dm (X := Nat × Int) (fun s => s.1 ≤ t.sys.length ∧ E3 t (bS t s.1) C8 s.2) (fun s => [(1, iv C8), (2, pz b2), (5, iv s.2), (7, iv (s.1 : Int))]) (fun s => [TLx t.kids vk VR VK VS, BLx t.sys vs VF VK2]) (fun s => [Ac b2 (tc t vr vk vs) 26]) (fun s => t.sys.length - s.1) ((0, n)) (⟨Nat.zero_le _, hnS⟩) (by exact Dk) ?_ ?_
      ·exact fun w hs => hs.l9
      ·intro ⟨i2, n⟩ base1 ⟨hi2, hn2⟩ next1; dsimp only at hi2 hn2 next1 ⊢; refine F9 ?_; refine F9 ?_; refine By ([(1, iv C8), (2, pz b2), (5, iv n), (7, iv (i2 : Int)), (63, .bool (decide ((i2 : Int) < (t.sys.length : Int)) && decide (n ≤ C8)))]) (fun hK => ?_) (fun base => ?_)
       ·refine Dj ?_; refine Ho ?_; refine H6 ?_; refine Ta ?_; refine E1 ?_; refine qI rfl rfl rfl J1 (fun hg59 => E2 ?_) (fun hg59 => ?_)
        ·refine Hq ?_; refine A4w ?_; refine Hn ?_; exact hK _ ⟨rfl, rfl, rfl, rfl, (by (conv => lhs; whnf); first | (simp_all [Bool.and_assoc]; done) | (simp_all [Bool.and_assoc]; omega)), trivial⟩
        ·refine Fg ?_; refine I6 ?_; exact hK _ ⟨rfl, rfl, rfl, rfl, (by (conv => lhs; whnf); first | (simp_all [Bool.and_assoc]; done) | (simp_all [Bool.and_assoc]; omega)), trivial⟩
       ·refine A1 (fun h63 => ?_) (fun h63 => ?_)
        ·have hlt' : (i2 : Int) < (t.sys.length : Int) ∧ n ≤ C8 := by simpa using h63
         have hlt2 : i2 < t.sys.length := by omega
         obtain ⟨bk2, o2, hav2⟩ := hA2 A3; refine Fx (bs := t.sys) (a := vs) i2 hlt2 ?_; refine A6 (l := (t.sys.getD i2 Bi).B0) (a := VF i2) (fun hlf hAf hUf => ?_); refine B1 (ts := (t.sys.getD i2 Bi).kids) (a := VK2 i2) (fun VR3 VK3 VS3 hl3 hA3 => ?_); obtain ⟨hz1, hz2, hz3⟩ := hn2; have hj0 := C3v (j := 0) hlt2; rw [B0e] at hj0; refine H9 ?_; refine K3 ?_; refine E1 ?_; refine Oe ?_; refine zq8 ?_; refine q0 rfl (Zc ?_); refine H6 ?_; refine E1 ?_; refine B0p ?_; refine Jj ?_; refine A1 (fun h74 => ?_) (fun h74 => ?_)
         ·have hbf := of_decide_eq_true h74; refine Ef ?_; refine Mv ?_; refine Ao f_ rfl A7 ⟨C8 + 1, by unfold E3; omega⟩ rfl (fun w hs => hs.none)
         ·have hbf := of_decide_eq_false h74; refine Gu ?_; refine Ef ?_; refine A4y ?_; refine Ho ?_; refine E1 ?_; refine Oe ?_; refine zq8 ?_; refine q0 rfl (Zc ?_); refine H6 ?_; refine Mv ?_; refine C9 ?_; refine W0 ?_; refine Dm (X := Nat × Int) (fun s => s.1 ≤ (t.sys.getD i2 Bi).kids.length ∧ E3 t (bJ t i2 s.1) C8 s.2) (fun s => [(1, iv C8), (2, pz b2), (5, iv s.2), (7, iv (i2 : Int)), (8, iv (s.1 : Int))]) (fun s => TLx (t.sys.getD i2 Bi).kids (VK2 i2) VR3 VK3 VS3 :: [TLx t.kids vk VR VK VS, BLx t.sys vs VF VK2]) (fun s => [Ac b2 (tc t vr vk vs) 26]) (fun s => (t.sys.getD i2 Bi).kids.length - s.1) ((0, n + 1 + ((t.sys.getD i2 Bi).B0.length : Int))) (⟨Nat.zero_le _, by (unfold E3; rw [B0e]; simp only; omega)⟩) (by exact Dk) ?_ ?_
          ·exact fun w hs => hs.l9
          ·intro ⟨j, n⟩ base2 ⟨hj, hn3⟩ next2; dsimp only at hj hn3 next2 ⊢; refine F9 ?_; refine F9 ?_; refine By ([(1, iv C8), (2, pz b2), (5, iv n), (7, iv (i2 : Int)), (8, iv (j : Int)), (100, .bool (decide ((j : Int) < ((t.sys.getD i2 Bi).kids.length : Int)) && decide (n ≤ C8)))]) (fun hK => ?_) (fun base => ?_)
           ·refine Dj ?_; refine Ho ?_; refine E1 ?_; refine Oe ?_; refine zq8 ?_; refine q0 rfl (Zc ?_); refine H6 ?_; refine Ta ?_; refine E1 ?_; refine qI rfl rfl rfl J1 (fun hg96 => E2 ?_) (fun hg96 => ?_)
            ·refine Hq ?_; refine A4w ?_; refine Hn ?_; exact hK _ ⟨rfl, rfl, rfl, rfl, rfl, (by (conv => lhs; whnf); first | (simp_all [Bool.and_assoc]; done) | (simp_all [Bool.and_assoc]; omega)), trivial⟩
            ·refine Fg ?_; refine I6 ?_; exact hK _ ⟨rfl, rfl, rfl, rfl, rfl, (by (conv => lhs; whnf); first | (simp_all [Bool.and_assoc]; done) | (simp_all [Bool.and_assoc]; omega)), trivial⟩
           ·refine A1 (fun h100 => ?_) (fun h100 => ?_)
            ·have hlt3' : (j : Int) < ((t.sys.getD i2 Bi).kids.length : Int) ∧ n ≤ C8 := by simpa using h100
             have hlt3 : j < (t.sys.getD i2 Bi).kids.length := by omega
             obtain ⟨bk3, o3, hav3⟩ := hA3 A3; refine Fo (ts := (t.sys.getD i2 Bi).kids) (a := VK2 i2) j hlt3 ?_; obtain ⟨hy1, hy2, hy3⟩ := hn3; refine T9 ?_; refine Dj ?_; refine Ho ?_; refine E1 ?_; refine Oe ?_; refine zq8 ?_; refine q0 rfl (Zc ?_); refine E1 ?_; refine Oe ?_; refine P7 ?_; refine Gf ?_; refine q0 rfl (A2e ?_); refine q0 rfl (A0 call24 (ih ((t.sys.getD i2 Bi).kids.getD j t0, _, _) (Ir (Iq t i2 j hlt2 hlt3)) (C8 - n) _ _ _ A3 A3) (fun x116 => ?_)); have hx := x116.2; unfold E3 at hx; refine Mv ?_; refine P8 ?_; refine Dj ?_; refine Mv ?_; have hnn : E3 t (bJ t i2 (j + 1)) C8 (n + x116.1) := by (have h9 := C3v (j := j + 1) hlt2; rw [C2n hlt3] at h9 ⊢; unfold E3; simp only at hx; omega)
             refine A2 (fun w hs => ?_) (next2 (j + 1, n + x116.1) _ ⟨hlt3, hnn⟩ (by simp only; omega) Dk); exact (hs.l9)
            ·have hge3 : ¬ ((j : Int) < ((t.sys.getD i2 Bi).kids.length : Int) ∧ n ≤ C8) := by simpa using h100
             have hnS2 : E3 t (bS t (i2 + 1)) C8 n := by (unfold E3 at hn3 ⊢; rw [A0f hlt2]; have h9 := C3u t (i2 + 1); rw [A0f hlt2] at h9; rcases Nat.lt_or_ge j (t.sys.getD i2 Bi).kids.length with h | h; omega; rw [show j = (t.sys.getD i2 Bi).kids.length by omega] at hn3; exact hn3)
             refine En ?_; refine P8 ?_; refine Dj ?_; refine Mv ?_; refine A2 (fun w hs => ?_) (next1 (i2 + 1, n) _ ⟨hlt2, hnS2⟩ (by simp only; omega) Dk); exact (hs.l9)
        ·have hge2 : ¬ ((i2 : Int) < (t.sys.length : Int) ∧ n ≤ C8) := by simpa using h63
         have hfin : E3 t (H2 t) C8 n := by (unfold E3 at hn2 ⊢; rcases Nat.lt_or_ge i2 t.sys.length with h | h; omega; rw [show i2 = t.sys.length by omega, C8n] at hn2; exact hn2)
         refine En ?_; refine I8 ?_; refine Ao f_ rfl A7 ⟨n, hfin⟩ rfl (fun w hs => hs.none)
theorem B3o : ∀ t : T, B9k t := T.ind fun t ih C8 vr vk vs h0 hm => B3n t ih C8 vr vk vs h0 hm
theorem C9o : Spec prog 124 #[] [] [] (fun x : SH => sl x 1) (fun x => [CL [Bm] x]) (fun _ => []) := fun ok w hok hst => (C9n ok w hok hst).mono fun e w' hh => by
 obtain ⟨x, he, h⟩ := hh; exact ⟨x, he, h.D7 (l := [Bm]) trivial rfl rfl (by unfold reach; decide) Hf.1⟩
end Go.Hy
