/- Contracts of this program's functions and the laws that they need. -/
import Derived.RangeFuncNested
import Derived.RangeFuncBound
import Derived.RangeFuncCalls
import Derived.RangeFuncLeaves
import Derived.RangeFuncBox
import Derived.Shelf.Abstract
import Derived.Shelf.RegionOpen
import Derived.WalkKit
import Derived.OwnWalkIn
import Derived.TacticsInMore
import Derived.LoopNIn
import Derived.LoopIn
import Derived.Tactics2
import Derived.Shelf.SlSortCmp.NoneTotal
import Derived.Test.YtibignmpjeemeaaGreatDoorP7
set_option linter.unusedVariables false
set_option linter.unusedSimpArgs false
set_option linter.unusedSectionVars false
namespace Go.Hy
theorem Vy {k : Int} {t : T} : ∀ {ts : List T} {i : Nat}, Dg k i (ts ++ [t]) = Dg k i ts + ((binds k ((i + ts.length : Nat) : Int)).2 + E0 t)
 | [], i => by simp [Dg]
 | u :: ts, i => by
  rw [List.cons_append, Dg, Dg, Vy, List.length_cons, show i + 1 + ts.length = i + (ts.length + 1) by omega]
  omega
theorem Vx {t : T} : ∀ {ts : List T}, Eb (ts ++ [t]) = Eb ts + (1 + E0 t)
 | [] => by simp [Eb]
 | u :: ts => by
  rw [List.cons_append, Eb, Eb, Vx]
  omega
theorem Pz {b : Br} : ∀ {bs : List Br}, Dw (bs ++ [b]) = Dw bs + Eb b.kids
 | [] => by obtain ⟨f, ks⟩ := b; simp [Dw, Br.kids]
 | .mk f ks :: bs => by
  rw [List.cons_append, Dw, Dw, Pz]
  omega
mutual
theorem L8 : ∀ t : T, E0 t + 1 ≤ size t
 | .mk k n nm r ks ss => by
  have h1 := A5u (k := k) ks 0
  have h2 := A5v ss
  have h3 : size (.mk k n nm r ks ss) = 1 + Fo ks + Ks ss := Pn _
  rw [h3]
  show Dg k 0 ks + Dw ss + 1 ≤ _
  omega
theorem A5u {k : Int} : ∀ (ts : List T) (i : Nat), Dg k i ts ≤ Fo ts
 | [], i => by simp [Dg, Fo]
 | t :: ts, i => by
  have h1 := L8 t
  have h2 := A5u (k := k) ts (i + 1)
  have h3 := Sp k i
  rw [Dg, show Fo (t :: ts) = size t + Fo ts from rfl]
  omega
theorem A5s : ∀ (ts : List T), Eb ts ≤ Fo ts
 | [] => by simp [Eb, Fo]
 | t :: ts => by
  have h1 := L8 t
  have h2 := A5s ts
  rw [Eb, show Fo (t :: ts) = size t + Fo ts from rfl]
  omega
theorem A5v : ∀ (bs : List Br), Dw bs ≤ Ks bs
 | [] => by simp [Dw, Ks]
 | .mk f ks :: bs => by
  have h1 := A5s ks
  have h2 := A5v bs
  rw [Dw, show Ks (.mk f ks :: bs) = Fo ks + Ks bs from rfl]
  omega
end
theorem A1i {k : Int} (ts : List T) (i j : Nat) : Dg k i (ts.take j) ≤ Dg k i ts := by
 induction ts generalizing i j with
 | nil => simp
 | cons t ts ih =>
  cases j with
  | zero => rw [List.take_zero]; exact J2
  | succ j => rw [List.take_succ_cons, Dg, Dg]; have := ih (i + 1) j; omega
theorem A1h (ts : List T) (j : Nat) : Eb (ts.take j) ≤ Eb ts := by
 induction ts generalizing j with
 | nil => simp
 | cons t ts ih =>
  cases j with
  | zero => rw [List.take_zero]; exact J1
  | succ j => rw [List.take_succ_cons, Eb, Eb]; have := ih j; omega
theorem A1j (bs : List Br) (j : Nat) : Dw (bs.take j) ≤ Dw bs := by
 induction bs generalizing j with
 | nil => simp
 | cons b bs ih =>
  obtain ⟨f, ks⟩ := b
  cases j with
  | zero => rw [List.take_zero]; exact J3
  | succ j => rw [List.take_succ_cons, Dw, Dw]; have := ih j; omega
def dpA (t : T) (i : Nat) : Int := Dg t.kind 0 (t.kids.take i)
def dpB (t : T) (s : Nat) : Int := Dg t.kind 0 t.kids + Dw (t.sys.take s)
def dpC (t : T) (s k : Nat) : Int := dpB t s + Eb ((t.sys.getD s Bd).kids.take k)
theorem C0f (t : T) : dpA t 0 = 0 := by simp [dpA, Dg]
theorem A5r {t : T} {i : Nat} (h : i < t.kids.length) : dpA t (i + 1) = dpA t i + ((binds t.kind (i : Int)).2 + E0 (t.kids.getD i t0)) := by
 unfold dpA
 rw [Ac (d := t0) h, Vy, List.length_take, Nat.min_eq_left A4, Nat.zero_add]
theorem C0e (t : T) : dpB t 0 = dpA t t.kids.length := by
 unfold dpB dpA
 rw [List.take_length, List.take_zero, show Dw [] = 0 from rfl]; omega
theorem C3y (t : T) : dpB t t.sys.length = E0 t := by unfold dpB; rw [List.take_length, L9]
theorem C0b (t : T) (s : Nat) : dpC t s 0 = dpB t s := by
 unfold dpC
 rw [List.take_zero, show Eb [] = 0 from rfl]; omega
theorem A5q {t : T} {s k : Nat} (h : k < (t.sys.getD s Bd).kids.length) : dpC t s (k + 1) = dpC t s k + (1 + E0 ((t.sys.getD s Bd).kids.getD k t0)) := by
 unfold dpC
 rw [Ac (d := t0) h, Vx]; omega
theorem C3x {t : T} {s : Nat} (h : s < t.sys.length) : dpC t s (t.sys.getD s Bd).kids.length = dpB t (s + 1) := by
 unfold dpC dpB
 rw [List.take_length, Ac (d := Bd) h, Pz]; omega
theorem C0g (t : T) (i : Nat) : 0 ≤ dpA t i ∧ dpA t i ≤ size t := by
 have h1 := J2 (k := t.kind) (ts := t.kids.take i) (i := 0)
 have h2 := A1i (k := t.kind) t.kids 0 i
 have h3 := L8 t
 have h4 := L9 t
 have h5 := J3 (bs := t.sys)
 unfold dpA
 omega
theorem C0c {t : T} {s : Nat} (hs : s < t.sys.length) (k : Nat) : 0 ≤ dpC t s k ∧ dpC t s k ≤ size t := by
 have h1 := J2 (k := t.kind) (ts := t.kids) (i := 0)
 have h2 := J3 (bs := t.sys.take s)
 have h3 := J1 (ts := (t.sys.getD s Bd).kids.take k)
 have h4 := A1h (t.sys.getD s Bd).kids k
 have h5 := Pz (b := t.sys.getD s Bd) (bs := t.sys.take s)
 rw [← Ac (d := Bd) hs] at h5
 have h6 := A1j t.sys (s + 1)
 have h7 := L8 t
 have h8 := L9 t
 unfold dpC dpB
 omega
theorem C2m {ok : Nat → Prop} {w : World} {ts : List T} {a : SH} (h : (TL ts a).f ok w) : ∀ x, x ∈ ts → Lr x := by
 obtain ⟨VR, VK, VS, _, h2⟩ := h
 exact B0x.mp (A0j h2)
theorem A2p : ∀ {l : List Nat} {x : Nat}, x ∈ l → x ≤ l.sum
 | [], x, h => by cases h
 | a :: l, x, h => by
  rw [List.sum_cons]
  rcases List.mem_cons.mp h with rfl | h
  ·omega
  ·have := A2p h; omega
theorem C0n {ts : List T} {x : T} (hx : x ∈ ts) : Fm x ≤ Fm (.mk 0 0 ⟨#[]⟩ [] ts []) := by
 have h := A2p (l := ts.map Fm) (x := Fm x) (List.mem_map.mpr ⟨x, hx, rfl⟩)
 have e := Rl (.mk 0 0 ⟨#[]⟩ [] ts [])
 simp only [T.kids, T.sys, T.r, T.name] at e
 omega
theorem A5a {ts : List T} {l : List CP} (h : Ge ts l = false) : ∀ t, t ∈ ts → Fm t ≤ 150 := fun t ht => Nat.le_trans (C0n ht) (A4z h).2.2.2
theorem Ta {ts : List T} {l : List CP} (h : Ge ts l = false) : ∀ t, t ∈ ts → size t ≤ 1152921504606846 := fun t ht => by
 have h1 := A5a h t ht
 have h2 := Ln t
 omega
theorem A8u {ts : List T} {l : List CP} (h : Ge ts l = false) : size (.mk 0 0 ⟨#[]⟩ [] ts []) ≤ 1000000000 := by
 have h1 := (A4z h).2.2.2
 have h2 := Ln (.mk 0 0 ⟨#[]⟩ [] ts [])
 omega
theorem B5g (ts : List T) : E0 (.mk 0 0 ⟨#[]⟩ [] ts []) = Dg 0 0 ts := by rw [L9]; show Dg 0 0 ts + Dw [] = _; simp [Dw]
theorem Xb {t : T} {e : Ev} (h : (Ae t e).1 ≠ 0) : (Ae t e).2 = t0 := by
 unfold Ae at h ⊢
 split
 ·rfl
 ·rename_i h1
  rw [if_neg h1] at h
  split
  ·rfl
  ·rename_i h2
   rw [if_neg h2] at h
   split
   ·rfl
   ·rename_i h3
    rw [if_neg h3] at h
    cases h5 : Ce Bu t e with
    | ok x =>
     rw [h5] at h
     simp only at h ⊢
     split
     ·rfl
     ·rename_i h6
      rw [if_neg h6] at h
      exact absurd rfl h
    | bad e => rfl
theorem Xc (t : T) (e : Ev) : size (Ae t e).2 ≤ 20000 := by
 by_cases h : (Ae t e).1 = 0
 ·exact I6 (Pc h).2.2.2.2.2
 ·rw [Xb h, Zq]; decide
end Go.Hy
namespace Go.Hy
open Go.RowKit Go.Shelf
theorem B3e {F : Fence} {n : Nat} {P : Program} {α : Type} {g : Operand} {ps : Array Tmp} {assign body : Code} {Q : Exit → Act → World → Prop} {a : Act} {w : World}
  (hro : F.round = none) (h1 : 1 ≤ n) {gf : Nat} {lb : Array Value} (hg : a.eval g = .func (.func gf) #[] lb) (hFg : F.fn gf) (eg : ∀ args w, (callFunc gf args).run P w = .ok (.enter gf args) w)
  {encs : α → Array Value} (hps : ∀ x, (encs x).size = ps.size) (I : List α → World → Prop) (Px : List α → α → Prop) (Kp : World → World → Prop)
  (hIp : ∀ (pre : List α) (A : World) (l : Nat) (o o0 : Obj), I pre A → A.heap[l]? = some o0 → o0.isCells = false → w.heap.size ≤ l → I pre (A.putObj l o)) (hIa : ∀ (pre : List α) (A : World) (o : Obj), I pre A → w.heap.size ≤ A.heap.size → I pre (A.alloc o)) (h0 : I [] w)
  (hKt : ∀ {A B C : World}, Kp A B → Kp B C → Kp A C) (hKp : ∀ (A : World) (l : Nat) (o o0 : Obj), A.heap[l]? = some o0 → o0.isCells = false → w.heap.size ≤ l → Kp A (A.putObj l o))
  (xs : List α)
  (hit : ∀ (l : Nat) (J : List α → World → Prop) (W1 : World), (∀ pre W, J pre W → I pre W) →
   (∀ pre A B, J pre A → I pre B → (∀ (k : Nat) (o : Obj), A.heap[k]? = some o → o.isCells = false → B.heap[k]? = some o) → J pre B) →
   (∀ pre x W, J pre W → Px pre x → YieldAt F (n - 1 - 1) P l (encs x) W fun e W' => e = .returned (.bool true) ∧ J (pre ++ [x]) W' ∧ Kp W W') → J [] W1 → (∀ (k : Nat), k < w.heap.size → W1.heap[k]? = w.heap[k]?) →
   CallsIn F (n - 1) P gf (#[.func (.yield l) #[] #[]] ++ lb) W1 fun e W' => (∃ v, e = .returned v) ∧ J xs W')
  (a₁ : α → Act)
  (hassign : ∀ (l : Nat) (x : α) (W : World) (K : Act → World → Prop), K (a₁ x) W →
   assign.wpIn (F.inRound l) (n - 1 - 1) P (Exit.then K (fun _ _ _ => False)) { tmps := (ps.zip (encs x)).foldl (fun t (p, v) => t.setIfInBounds p v) a.tmps, defers := [] } W)
  (hbody : ∀ (l : Nat) (pre : List α) (x : α) (W : World), I pre W → Px pre x →
   body.wpIn (F.inRound l) (n - 1 - 1) P (fun e _ W' => e = .normal ∧ KeepsOthers W W' ∧ Kp W W' ∧ I (pre ++ [x]) W') (a₁ x) W)
  (hdone : ∀ (D : Nat) (W : World), w.heap.size ≤ D → I xs W → W.heap[D]? = some (.deferred (some [])) → Q .normal { a with defers := { target := .collected D, args := #[] } :: a.defers } W) :
  (Code.rangeFunc g ps assign body).wpIn F n P Q a w := by
 refine wpIn_rangeFunc ?_
 intro fn hfn
 rw [hro]
 obtain ⟨rec, hrec⟩ : ∃ rec : LoopState → Option Code → Loop, rec = fun st pe => { state := st, pending := pe, fn, tmps := a.tmps, params := ps, assign, body, defers := w.heap.size } := ⟨_, rfl⟩
 obtain ⟨W1, hW1⟩ : ∃ W1, (w.alloc (.deferred (some []))).alloc (.loop (rec .ready none)) = W1 := ⟨_, rfl⟩
 have hL1 : W1.heap[w.heap.size + 1]? = some (.loop (rec .ready none)) := by
  rw [← hW1]; have := World.alloc_heap_new (w.alloc (.deferred (some []))) (.loop (rec .ready none)); rwa [World.size_alloc] at this
 have hK1 : W1.heap[w.heap.size]? = some (.deferred (some [])) := by
  rw [← hW1]; exact (Below.heap_alloc _ _ _ Cq).trans (World.alloc_heap_new w _)
 have hI1 : I [] W1 := by rw [← hW1]; exact hIa _ _ _ (hIa _ _ _ h0 (Nat.le_refl _)) Cq
 refine ⟨w.heap.size + 1, [{ target := .collected w.heap.size, args := #[] }], W1, { target := .fn (.func gf) lb, args := #[.func (.yield (w.heap.size + 1)) #[] #[]] }, W1, gf,
  #[.func (.yield (w.heap.size + 1)) #[] #[]] ++ lb, W1, ?_, ?_, ?_, ?_, fun _ => h1, ?_⟩
 ·rw [← hW1, hrec]; exact run_enterLoop_outer _ _ _ _ _
 ·simp only [resolve, hg]
  simp [go_sem]
 ·intro f' hf'; simp [Target.leads] at hf'; subst hf'; exact hFg
 ·simp [invoke, go_sem, eg]
 ·refine (hit (w.heap.size + 1) (fun pre W => I pre W ∧ W.heap[w.heap.size + 1]? = some (.loop (rec .ready none)) ∧ W.heap[w.heap.size]? = some (.deferred (some []))) W1
   (fun pre W h => h.1) (fun pre A B hA hB hk => ⟨hB, hk _ _ hA.2.1 rfl, hk _ _ hA.2.2 rfl⟩) ?_ ⟨hI1, hL1, hK1⟩ (fun k hk => by rw [← hW1]; exact (Below.heap_alloc _ _ _ (by simp; omega)).trans (Below.heap_alloc _ _ _ hk))).mono ?_
  ·rintro pre x W ⟨hi, hl, hk⟩ hpx
   have hlt : w.heap.size + 1 < W.heap.size := (Array.getElem?_eq_some_iff.1 hl).1
   have hy := run_yield (P := P) (args := encs x) hl (by rw [hrec]; exact hps x)
   rw [hrec] at hy
   refine ⟨fn, _, assign, body, hy, roundIn_of_wpIn hfn (hassign _ x W _ ⟨_, run_beginRound hl (by rw [hrec]), ?_⟩)⟩
   have hl2 : (W.putObj (w.heap.size + 1) (.loop { rec .ready none with state := .busy })).heap[w.heap.size + 1]? = some (.loop { rec .ready none with state := .busy }) := World.putObj_heap_same hlt
   have hk2 : (W.putObj (w.heap.size + 1) (.loop { rec .ready none with state := .busy })).heap[w.heap.size]? = some (.deferred (some [])) := (World.putObj_heap_other A4).trans hk
   refine wpIn_mono (hbody _ pre x _ (hIp _ _ _ _ _ hi hl rfl A4) hpx) ?_
   rintro e a3 W3 ⟨rfl, hk3, hkp3, hi3⟩
   have hl3 := hk3.same _ _ hl2 rfl
   have hend := run_endRound (P := P) none hl3
   rw [hrec] at hl3 hend
   refine ⟨_, _, hend, rfl, ⟨hIp _ _ _ _ _ hi3 hl3 rfl A4, ?_, ?_⟩, hKt (hKt (hKp _ _ _ _ hl rfl A4) hkp3) (hKp _ _ _ _ hl3 rfl A4)⟩
   ·rw [hrec]; exact World.putObj_heap_same (Array.getElem?_eq_some_iff.1 hl3).1
   ·exact (World.putObj_heap_other A4).trans (hk3.same _ _ hk2 rfl)
  ·rintro e W2 ⟨⟨v, rfl⟩, hi, hl, hk⟩
   exact ⟨none, _, by have := run_endLoop (P := P) hl (by rw [hrec]; simp); rw [hrec] at this; exact this, hdone _ _ (Nat.le_refl _) (hIp _ _ _ _ _ hi hl rfl A4) ((World.putObj_heap_other A4).trans hk)⟩
end Go.Hy
namespace Go.Hy
open Go.Proofs Go.Proofs.Tryz
set_option maxRecDepth 100000
theorem B6w (l : List Cl) (a_l : SH) (m : List Cl) (a_m : SH)  : Spec prog 31 #[sl a_l (l.length), sl a_m (m.length)] [CL l a_l, CL m a_m] [] (fun _ : Unit => .bool ((decide (l = m)))) (fun _ => []) (fun _ => []) := by
 refine D7 ntmps31 fun B hB => ?_
 refine A6 (l := l) (a := a_l) (fun hl1 hA1 hU1 => ?_); refine A6 (l := m) (a := a_m) (fun hl2 hA2 hU2 => ?_); refine Ca ?_; refine Hd ?_; refine Hf ?_; refine Dd ?_; refine Hf ?_; refine A6r ?_; refine Cz (decide ((l.length : Int) ≠ (m.length : Int))) (fun h10 c10 => ?_) (fun h10 c10 => ?_)
 ·have hne : ¬ l = m := fun e => by subst e; simp at h10
  refine Ca ?_; refine An f_ rfl A7 () (by rw [decide_eq_false hne]) (fun w hs => hs.none)
 ·have hlen : l.length = m.length := by simp at h10; omega
  refine J5 ?_; refine Ca ?_; refine Wl ?_; refine Az (X := Nat) (fun s_ => s_ ≤ l.length ∧ ∀ j, j < s_ → l.getD j Bw = m.getD j Bw) (fun s_ => [(0, sl a_l (l.length)), (1, sl a_m (m.length)), (5, iv ((s_ : Int)))]) (fun s_ G_ => G_) (fun s_ => []) (fun s_ => l.length - s_) (0) (⟨by omega, fun j hj => by omega⟩) (by exact Dr) ?_ ?_
  ·exact fun w hs => hs
  ·intro i base0 ⟨hi, hok⟩ next0; refine Hd ?_; refine Dd ?_; refine Hf ?_; refine Tm ?_; refine Jv ?_; refine Cz (decide ((i : Int) < (l.length : Int))) (fun h14 c14 => ?_) (fun h14 c14 => ?_)
   ·refine G3 ?_; refine Cc (pn := 1000000) (tn := false) (A := [0, 0, 3, 7, 0, 0, 48, 112, 255]) (l := [0, 1, 2, 3, 4, 5, 6, 7, 8]) (fin := []) Tab.mixed ⟨_, func31⟩ (by rfl) ?_; refine Jy ?_; obtain ⟨bk3, o3, hav3⟩ := hA1 A4; refine n0 rfl (Jz ?_ (j := i)); refine n0 rfl (B0c ?_); refine Jy ?_; obtain ⟨bk4, o4, hav4⟩ := hA2 A4; refine n0 rfl (Jz ?_ (j := i)); refine n0 rfl (B0c ?_); refine n0 rfl (C4l ?_ (c := (l.getD i Bw)) (c' := (m.getD i Bw))); refine Tk ?_; refine Cz (!decide ((l.getD i Bw) = (m.getD i Bw))) (fun h25 c25 => ?_) (fun h25 c25 => ?_)
    ·refine Ca ?_; refine An f_ rfl A7 () (by rw [decide_eq_false (fun e => by subst e; simp at h25)]) (fun w hs => hs.none)
    ·refine H4 ?_; refine Pj ?_; refine D9 ?_; refine N7 ?_; have hb : l.getD i Bw = m.getD i Bw := by simpa using h25
     refine A2 (fun w hs => ?_) (next0 (i + 1) _ (⟨by omega, B6m hok hb⟩) A4 Dr); exact (hs.l9)
   ·refine Kn ?_; refine An f_ rfl A7 () (by rw [decide_eq_true (Lx hlen (fun j hj => hok j A4))]) (fun w hs => hs.none)
end Go.Hy
namespace Go.Hy
open Go.Proofs Go.Proofs.Tryz
set_option maxRecDepth 100000
attribute [local go_sem] Oper.semAt_some
open Go.RowKit Go.Shelf
set_option maxHeartbeats 1000000
theorem D4c (F : Fence) (n : Nat) (hF : F.fn 258) (hro : F.round = none) (r : Nat) (k idx : Nat) (hk : k < 24) (h0 : ((r : Int) == 0) = false)
  (key : bits BinOp.and IntKind.u32 (r : Int) (-(r : Int) % 4294967296) * 125613361 % 4294967296 / 134217728 = (idx : Int)) (hi : idx < 32) (W : World) (hc : W.cell? ⟨0, idx, none⟩ = some (.int .u8 (k : Int))) :
  CallsIn F n prog 258 #[.int .u32 (r : Int)] W fun e w' => e = .returned (iv (k : Int)) ∧ w' = W := by
 refine callsIn_of_wp func258 rfl hF ?_ hro; simp only [ntmps258, List.size_toArray, List.length_cons, List.length_nil, Nat.reduceAdd, Nat.reduceSub, Array.replicate_succ, Array.replicate_zero, List.push_toArray, List.append_toArray, List.nil_append, List.cons_append]
 gi_wp2_with (simp only [key])
 go_ret
 exact ⟨rfl, rfl⟩
theorem tz32' (F : Fence) (n : Nat) (hF : F.fn 258) (hro : F.round = none) (r : Nat) (h0 : ¬ r = 0) (hr : r < 16777216) (W : World) (hT : TabAt 0 Lib.deBruijn32tab W) :
  CallsIn F n prog 258 #[.int .u32 (r : Int)] W fun e w' => e = .returned (iv (Lib.ctz 32 r : Int)) ∧ w' = W := by
 obtain ⟨hlow, hk⟩ := Lib.lowest_bit 32 r h0 A4; obtain ⟨hi, htab⟩ := Lib.deBruijn32_at _ hk; have hcell := hT _ hi; rw [htab] at hcell; exact D4c F n hF hro r _ _ (Yi h0 hr).1 (by simp; omega) (tz32_key r _ A4 h0 hlow) hi W hcell
theorem in1 (F : Fence) (n : Nat) (h208 : F.fn 257) (h209 : F.fn 258) (hro : F.round = none) (hn : 1 ≤ n) (l g : Nat) (s : Nat) (J : List Int → World → Prop)
  (hY : ∀ pre x W, J pre W → pre.length < 24 → (0 ≤ x ∧ x < 24) → YieldAt F (n - 1) prog l #[iv x] W fun e W' => e = .returned (.bool true) ∧ J (pre ++ [x]) W' ∧ W'.heap[g]? = W.heap[g]?)
  (hT : ∀ pre W, J pre W → TabAt 0 Lib.deBruijn32tab W)
  (hJ : ∀ pre W v, J pre W → J pre (W.setCell ⟨g, 0, none⟩ v))
  (hs : s < 4294967296) (W : World) (hg : Boxed W g 89 (.int .u32 (s : Int))) (h0 : J [] W) :
  CallsIn F n prog 257 #[.func (.yield l) #[] #[], pz g] W fun e W' => (∃ v, e = .returned v) ∧ J (Ar s) W' := by
 refine callsIn_of_wp func257 rfl h208 ?_ hro; simp only [ntmps257, List.size_toArray, List.length_cons, List.length_nil, Nat.reduceAdd, Nat.reduceSub, Array.replicate_succ, Array.replicate_zero, List.push_toArray, List.append_toArray, List.nil_append, List.cons_append]; have hc := hg.cell; have hf := hg.frozen
 gi_wp2
 gi_loopw [] (fun wr => ∃ (pre : List Int) (r : Nat), Ar s = pre ++ Ar r ∧ r < 16777216 ∧ Boxed wr g 89 (.int .u32 (r : Int)) ∧ J pre wr)
  (fun wr => match wr.cell? ⟨g, 0, none⟩ with | some (.int _ v) => v.toNat | _ => 0)
 case atStart =>
  refine ⟨[], s &&& 16777215, by rw [List.nil_append, B4b], by rw [A6l]; exact Nat.mod_lt _ Ii, ?_, hJ _ _ _ h0⟩; rw [← bits_and_u32_nat s 16777215 hs Ii]; exact hg.set _
 case round =>
  obtain ⟨pre, r, hx, hr, hb, hj⟩ := hrel; have hc2 := hb.cell; have hf2 := hb.frozen; by_cases hr0 : r = 0
  ·subst hr0
   gi_wp2
   go_end0
   exact ⟨⟨_, rfl⟩, by rw [hx, show Ar 0 = [] from by decide, List.append_nil]; exact hj⟩
  ·obtain ⟨hk, hlist⟩ := Yi hr0 hr
   have hlen : pre.length < 24 := by
    have h1 := congrArg List.length hx; have h2 : (Ar s).length ≤ 24 := Hq s 24; rw [List.length_append, hlist, List.length_cons] at h1; omega
   obtain ⟨fn, tmps, assign, body, hy, hR⟩ := hY pre (Lib.ctz 32 r : Int) wr hj hlen A4; have hbe : ((r : Int) != 0) = true := by simp; omega
   gi_wp2_with (gi_at_call 258; refine (tz32' F (n - 1) h209 hro r hr0 hr wr (hT _ _ hj)).mono ?_; rintro e w' ⟨rfl, rfl⟩)
   refine hR.mono ?_; rintro e W3 ⟨rfl, hJ3, hg3⟩; have hb3 : Boxed W3 g 89 (.int .u32 (r : Int)) := hg3.trans hb; have hc3 := hb3.cell; have hf3 := hb3.frozen
   gi_wp2
   have e1 : bits BinOp.and IntKind.u32 (r : Int) ((r : Int) - 1) = ((r &&& (r - 1) : Nat) : Int) := by
    rw [show (r : Int) - 1 = ((r - 1 : Nat) : Int) by omega]; exact bits_and_u32_nat r (r - 1) A4 A4
   rw [e1]; have hb4 := hb3.set (.int .u32 ((r &&& (r - 1) : Nat) : Int)); have hlt := C7j hr0
   go_roundw
   case rel => exact ⟨pre ++ [(Lib.ctz 32 r : Int)], r &&& (r - 1), by rw [hx, hlist, List.append_assoc]; rfl, by omega, hb4, hJ _ _ _ hJ3⟩
   case measure =>
    rw [hb4.cell, hc2]; simp only [Int.toNat_natCast]; exact hlt
theorem D1v (F : Fence) (n : Nat) (h : F.fn 206) (hro : F.round = none) (s : Nat) (w : World) :
  CallsIn F n prog 206 #[.int .u32 (s : Int)] w fun e w' => e = .returned (.func (.func 257) #[] #[.pointer (some ⟨w.heap.size, 0, none⟩)]) ∧ w' = w.alloc (.cells #[.int .u32 (s : Int)] 89) := by
 refine callsIn_of_wp func206 rfl h ?_ hro; simp only [ntmps206, List.size_toArray, List.length_cons, List.length_nil, Nat.reduceAdd, Nat.reduceSub, Array.replicate_succ, Array.replicate_zero, List.push_toArray, List.append_toArray, List.nil_append, List.cons_append]
 gi_wp2
 go_ret
 exact ⟨rfl, rfl⟩
theorem C3g : (prog.info? 3).map (fun i => (i.zero, i.size, i.bytes)) = some (some (iv 0), 1, 8) := by kernel_rfl
theorem C2y (F : Fence) (n : Nat) (h81 : F.fn 123) (h156 : F.fn 206) (h208 : F.fn 257) (h209 : F.fn 258) (hro : F.round = none) (hn : 3 ≤ n) (s : Nat) (hs : s < 4294967296) (w : World) (hw : 0 < w.heap.size) (hT : TabAt 0 Lib.deBruijn32tab w) :
  CallsIn F n prog 123 #[.int .u32 (s : Int)] w fun e W' => ∃ v, e = .returned v ∧ W'.ownsRow w.heap.size 3 1 v (Ar s).length ((Ar s).map (Value.int .i64)) ∧ Below w.heap.size w W' := by
 have h1 : 1 ≤ n := by omega
 obtain ⟨i0, hi, hz0, hz1, hz2⟩ := info_parts C3g; refine callsIn_of_wp_marks func123 rfl h81 ?_ hro; simp only [ntmps123, List.size_toArray, List.length_cons, List.length_nil, Nat.reduceAdd, Nat.reduceSub, Array.replicate_succ, Array.replicate_zero, List.push_toArray, List.append_toArray, List.nil_append, List.cons_append]
 gi_wp2_with (gi_at_call 206; refine (D1v F (n - 1) h156 hro _ _).mono ?_; rintro e w' ⟨rfl, rfl⟩)
 obtain ⟨w2, hw2⟩ : ∃ w2, (w.alloc (.cells #[.slice none 0 0] 140)).alloc (.cells #[.int .u32 (s : Int)] 89) = w2 := ⟨_, rfl⟩; have bO : Boxed w2 w.heap.size 140 (.slice none 0 0) := by rw [← hw2]; exact (Boxed.new w 140 (.slice none 0 0)).alloc _
 have bS : Boxed w2 (w.heap.size + 1) 89 (.int .u32 (s : Int)) := by rw [← hw2]; have := Boxed.new (w.alloc (.cells #[.slice none 0 0] 140)) 89 (.int .u32 (s : Int)); rwa [World.size_alloc] at this
 have hsz2 : w2.heap.size = w.heap.size + 2 := by rw [← hw2]; simp
 have hB2 : Below w.heap.size w w2 := by rw [← hw2]; exact ((Below.refl _ w).alloc (Nat.le_refl _) _).alloc Cq _
 have hrw : ∀ {A B : World}, B.heap[w.heap.size + 1]? = A.heap[w.heap.size + 1]? → ∀ u, Boxed A (w.heap.size + 1) 89 u → Boxed B (w.heap.size + 1) 89 u := fun h u hu => h.trans hu
 simp only [World.size_alloc, hw2]
 refine B3e hro h1 (gf := 257) (lb := #[.pointer (some ⟨w.heap.size + 1, 0, none⟩)]) rfl h208 (enters_of func257 (by kernel_rfl) rfl) (encs := fun x : Int => #[iv x]) (fun _ => rfl)
  (fun pre W => (∃ v, Boxed W w.heap.size 140 v ∧ W.ownsRow w.heap.size 3 1 v pre.length (pre.map (Value.int .i64))) ∧ (∃ u, Boxed W (w.heap.size + 1) 89 u) ∧ Below w.heap.size w W)
  (fun pre x => pre.length < 24 ∧ (0 ≤ x ∧ x < 24)) (fun W W' => W'.heap[w.heap.size + 1]? = W.heap[w.heap.size + 1]?)
  ?ip ?ia ⟨⟨_, bO, World.ownsRow_nil _ _ _ _⟩, ⟨_, bS⟩, hB2⟩ (fun h k => k.trans h) ?kp (Ar s) ?it
  (fun x => { tmps := #[.int .u32 (s : Int), undef, .slice none 0 0, .pointer (some ⟨w.heap.size, 0, none⟩), iv x, .int .u32 (s : Int), .func (.func 257) #[] #[.pointer (some ⟨w.heap.size + 1, 0, none⟩)], iv x, undef, undef, undef, undef, undef], defers := [] }) ?assign ?body ?done
 case ip =>
  rintro pre A l o o0 ⟨⟨v, hv, hr⟩, ⟨u, hu⟩, hB⟩ hl hc hle; refine ⟨⟨v, (World.putObj_heap_other A4).trans hv, ownsRow_putObj hr o hl hc⟩, ⟨u, (World.putObj_heap_other A4).trans hu⟩, hB.trans ⟨rfl, rfl, rfl, by simp, fun k hk => World.putObj_heap_other A4⟩⟩
 case ia =>
  rintro pre A o ⟨⟨v, hv, hr⟩, ⟨u, hu⟩, hB⟩ hle; exact ⟨⟨v, hv.alloc o, hr.kept (World.grownBy_alloc A o none) (by rcases hr.2 with ⟨rfl, _⟩ | ⟨g, cap, cur, rfl, _⟩; exact .inl rfl; exact .inr (by simp [Value.ownBlock]))⟩, ⟨u, hu.alloc o⟩, hB.alloc A4 o⟩
 case kp =>
  intro A l o o0 hl hc hle; exact World.putObj_heap_other A4
 case it =>
  intro l J W1 hJI hJk hY h0 hk1; refine in1 F (n - 1) h208 h209 hro A4 l (w.heap.size + 1) s J (fun pre x W hj hl hx => hY pre x W hj ⟨hl, hx⟩) (fun pre W hj => ?_) (fun pre W v hj => ?_) hs W1 ?_ h0
  ·intro i hi; exact ((hJI _ _ hj).2.2.cell (p := ⟨0, i, none⟩) hw).trans (hT i hi)
  ·obtain ⟨⟨v0, hv0, hr⟩, ⟨u, hu⟩, hB⟩ := hJI _ _ hj; refine hJk pre W _ hj ⟨⟨v0, hv0.other A4 v, hr.kept (grownBy_setCell' W (w.heap.size + 1) v) (.inr (hu.not_row Ii hr).symm)⟩, ⟨_, hu.set v⟩, hB.setCell (p := ⟨w.heap.size + 1, 0, none⟩) Cq v⟩ (fun k o hk ho => (KeepsOthers.setCell W _ v).same k o hk ho)
  ·exact (hk1 _ A4).trans bS
 case assign =>
  intro l x W K hK
  gi_wp2
  exact hK
 case body =>
  rintro l pre x W ⟨⟨v, hv, hrow⟩, ⟨u, hu⟩, hB⟩ ⟨hlt, hx⟩; have hc := hv.cell
  gi_wp2_with (gi_at_builtin; refine wpListIn_append_own _ rfl _ _ 140 rfl w.heap.size 3 i0 (iv 0) 1 8 Tryz.underlying140 hi hz0 hz1 hz2 rfl Ii _ _ _ rfl (hrow.alloc _) ⟨W.heap.size, 0, none⟩ 1 1 [iv x] rfl rfl (cell_one_new _ _ _) (by simp [Value.oneCell']) (by unfold maxLen; omega) A4 (by have := hB.size; simp; omega) ?_; intro v' w1 hown' hgrow _; obtain ⟨g', cap', rfl⟩ := ownsRow_succ hown'; obtain ⟨hv1, hv2, hr2, hk2, hb2⟩ := hv.appended Ii hrow hB.size (Nat.le_refl _) hown' hgrow; have hc1 := hv1.cell; have hf1 := hv1.frozen)
  have hu1 := ((hu.alloc (.cells #[iv x] 3)).kept hgrow (hu.not_row Ii hrow)).other (B' := w.heap.size) A4 (.slice (some ⟨g', 0, none⟩) (pre.length + 1) cap'); exact ⟨hu1.trans hu.symm, ⟨_, hv2, by simpa using hr2⟩, ⟨u, hu1⟩, hB.trans hb2⟩
 case done =>
  rintro D W hD ⟨⟨v, hv, hrow⟩, _, hB⟩ hK; have hc := hv.cell
  gi_wp2
  refine ⟨by simp, .inl ⟨_, _, rfl, run_takeDeferred hK, ?_⟩⟩; exact ⟨_, results_tmp rfl _ _ _, v, rfl, ownsRow_putObj hrow _ hK rfl, hB.trans ⟨rfl, rfl, rfl, by simp, fun k hk => World.putObj_heap_other A4⟩⟩
abbrev O4 : Fact := At 0 0 (Lib.deBruijn32tab.map fun (v : Nat) => Value.int .u8 (v : Int))
theorem C5x {ok : Nat → Prop} {w : World} (h : O4.f ok w) (hk : ∀ b, ok b → b < w.heap.size) : TabAt 0 Lib.deBruijn32tab w ∧ 0 < w.heap.size := by
 refine ⟨fun j hj => ?_, hk _ h.1⟩; have h1 := h.2 j (.int .u8 (Lib.deBruijn32tab.getD j 0 : Nat)) (by rw [List.getElem?_map, List.getD_eq_getElem?_getD, List.getElem?_eq_getElem hj]; rfl)
 rwa [Nat.zero_add] at h1
theorem B3x (s : Nat) (hs : s < 4294967296) : Spec prog 123 #[.int .u32 (s : Int)] [O4] [] (fun x : SH => sl x (Ar s).length) (fun _ => []) (fun x => [Am 1 3 x (Ar s).length (Oj (Ar s))]) := fun ok w hok hst => by
 obtain ⟨hT, hw⟩ := C5x (hst.facts O4 List.mem_cons_self) (fun b hb => hb.2.1); refine (callsIn_wide.mp (C2y Fence.wide 3 trivial trivial trivial trivial rfl (Nat.le_refl _) s hs w hw hT)).mono fun e w' hh => ?_
 obtain ⟨v, rfl, hrow, hB⟩ := hh; obtain ⟨a, rfl⟩ := B0t hrow
 have hrow0 : w'.ownsRow 0 3 1 (sl a (Ar s).length) (Ar s).length (Oj (Ar s)) := by
  have h1 : w'.ownsRow 0 3 1 (sl a (Ar s).length) (Ar s).length ((Ar s).map (Value.int .i64)) := ⟨hrow.1, hrow.2.imp id (fun ⟨g, cap, cur, q1, q2, q3⟩ => ⟨g, cap, cur, q1, Nat.zero_le _, q3⟩)⟩
  rwa [show (Ar s).map (Value.int .i64) = Oj (Ar s) from by induction (Ar s) with | nil => rfl | cons y ys ih => (simp only [List.map_cons, Oj, List.flatMap_cons, Nq, List.singleton_append] at ih ⊢; rw [ih])] at h1
 refine ⟨a, rfl, ⟨hB.os, hB.tape, hB.output, hB.size, fun b hb _ => hB.block b hb⟩, fun _ hF => (by cases hF), ?_, ?_, List.pairwise_singleton _ _⟩
 ·intro m hm w2 hw2; rw [List.mem_singleton] at hm; subst hm; exact Ul hrow0 (fun b hb => hw2 b hb)
 ·intro m hm b hb; rw [List.mem_singleton] at hm; subst hm; have := hrow.lt b hb; exact ⟨this.2, .inr this.1⟩
theorem Ix (s : Nat) (hs : s < 4294967296) : Spec prog 123 #[.int .u32 (s : Int)] [O4] [] (fun x : SH => sl x (Ar s).length) (fun x => [IL (Ar s) x]) (fun _ => []) := fun ok w hok hst => (B3x s hs ok w hok hst).mono fun e w' hh => by
 obtain ⟨x, he, h⟩ := hh; have hl : (Ar s).length ≤ 24 := Hq s 24; exact ⟨x, he, h.A2r trivial rfl rfl (by unfold reach; omega) (fun c hc => by have := Yh hc; unfold Ap; omega)⟩
end Go.Hy
namespace Go.Hy
open Go.Proofs Go.Proofs.Tryz
set_option maxRecDepth 100000
theorem Nv (i : Int) : Spec prog 195 #[iv i] [] [] (fun _ : Unit => .bool (decide (0 ≤ i) && decide (i < 24))) (fun _ => []) (fun _ => []) := by
 refine D7 ntmps195 fun B hB => ?_
 refine P2 ?_; refine A2d ?_; refine Dd ?_; refine qI rfl rfl rfl Jb (fun hg5 => E1 ?_) (fun hg5 => ?_)
 ·refine A6x ?_; refine I0 ?_; refine An f_ rfl A7 () (by first | (simp_all; done) | (simp_all; omega)) (fun w hs => hs.none)
 ·refine Wp ?_; refine G4 ?_; refine An f_ rfl A7 () (by first | (simp_all; done) | (simp_all; omega)) (fun w hs => hs.none)
theorem Nl (s : Nat) (hs : s < 4294967296) : Spec prog 249 #[.int .u32 (s : Int)] [] [] (fun _ : Unit => .bool (decide (s < 16777216))) (fun _ => []) (fun _ => []) := by
 refine D7 ntmps249 fun B hB => ?_
 refine P2 ?_; refine q0 rfl (T4 ?_ (b := 16777215)); refine q0 rfl (A3w ?_ (b := 0)); refine Cg ?_; refine An f_ rfl A7 () (by rw [A6j hs]) (fun w hs => hs.none)
theorem Rt (s : Nat) (hs : s < 4294967296) : Spec prog 112 #[.int .u32 (s : Int), iv (-1)] [] [] (fun _ : Unit => .int .u32 ((s &&& 16777215 : Nat) : Int)) (fun _ => []) (fun _ => []) := by
 refine D7 ntmps112 fun B hB => ?_
 refine P2 ?_; refine q0 rfl (L0 ?_ (b := 16777215)); refine Cg ?_; refine Hd ?_; refine q0 rfl (A0 call195 (Nv (-1)) (fun x8 => ?_)); refine J8 ?_; refine A1 (fun h9 => ?_) (fun h9 => ?_)
 ·refine Ic ?_; refine An f_ rfl A7 () rfl (fun w hs => hs.none)
 ·exact absurd h9 Ii
theorem Vq : C1f := by
 intro l a; refine D7 ntmps64 fun B hB => ?_
 refine A6 (l := l) (a := a) (fun hl1 hA1 hU1 => ?_); refine Ca ?_; refine N6 ?_; refine Dl (X := Nat) (fun i => i ≤ l.length) (fun i => [(3, .int .u32 (Lq l i : Int)), (6, sl a l.length), (7, iv (l.length : Int)), (8, iv (i : Int))]) (fun i => [CL l a]) (fun i => []) (fun i => l.length - i) (0) (Nat.zero_le _) (by exact Dr) ?_ ?_
 ·exact fun w hs => hs.l8
 ·intro i base0 hi next0; refine Ds ?_; refine A1 (fun h9 => ?_) (fun h9 => ?_)
  ·have hlt : i < l.length := by have := of_decide_eq_true h9; omega
   obtain ⟨bk, o, hav⟩ := hA1 A4; have hu := hU1 _ (Ad (d := Bw) hlt); have hup := Ya hU1 i; have hor : (l.getD i Bw).pos ||| (l.getD i Bw).neg < 4294967296 := Nat.or_lt_two_pow (n := 32) hu.1 hu.2; refine Fk ?_; refine Ot ?_; refine Rs ?_; refine q0 rfl (B3 fun b5 => ?_); refine Er ?_; refine D9 ?_; refine Hx ?_; refine Hx ?_; refine q0 rfl (Og ?_ (a := (l.getD i Bw).pos) (b := (l.getD i Bw).neg) (ha := hu.1) (hb := hu.2)); refine q0 rfl (Og ?_ (a := Lq l i) (b := (l.getD i Bw).pos ||| (l.getD i Bw).neg)); refine Mj ?_; refine A2 (fun w hs => ?_) (next0 (i + 1) _ hlt A4 ⟨by rw [A3h hlt]; rfl, rfl, rfl, rfl, trivial⟩); exact (hs.l8).bare
  ·have hge : i = l.length := by have := of_decide_eq_false h9; omega
   refine Ef ?_; refine Ee ?_; refine q0 rfl (A0 call112 (Rt (Lq l i) (Ya hU1 i)) (fun x21 => ?_)); refine Cg ?_; refine An f_ rfl A7 () (by rw [A5m, ← hge]) (fun w hs => hs.none)
theorem La (c : Cl) (hc : u32 c) : Spec prog 196 #[.agg (Aj c).toArray] [] [] (fun _ : Unit => .bool (B8 c)) (fun _ => []) (fun _ => []) := by
 refine D7 ntmps196 fun B hB => ?_
 refine B1 ?_; refine q0 rfl (Ax fun b1 => ?_); refine Cg ?_; refine Ju ?_; refine q0 rfl (A0 call249 (Nl c.pos hc.1) (fun x5 => ?_)); refine Dd ?_; refine qI rfl rfl rfl Jb (fun hg6 => Oz ?_) (fun hg6 => ?_)
 ·refine Le ?_; refine qT rfl rfl rfl (A0 call249 (Nl c.neg hc.2) (fun x9 => ?_)); refine I0 ?_; refine An f_ rfl A7 () (by first | (simp_all [B8]; done) | (simp_all [B8]; intros; omega)) (fun w hs => hs.none)
 ·refine Es ?_; refine G4 ?_; refine An f_ rfl A7 () (by first | (simp_all [B8]; done) | (simp_all [B8]; intros; omega)) (fun w hs => hs.none)
theorem W4 (c : Cl) (hc : u32 c) : Spec prog 248 #[.agg (Aj c).toArray] [] [] (fun _ : Unit => .bool (I7 c)) (fun _ => []) (fun _ => []) := by
 refine D7 ntmps248 fun B hB => ?_
 refine B1 ?_; refine q0 rfl (Ax fun b1 => ?_); refine Cg ?_; refine Ju ?_; refine Hx ?_; refine q0 rfl (L0 ?_ (a := c.pos) (b := c.neg) (ha := hc.1) (hb := hc.2)); refine q0 rfl (A3t ?_ (b := 0)); refine Cg ?_; refine An f_ rfl A7 () (by simp only [I7]; congr 1; apply decide_eq_decide.mpr; omega) (fun w hs => hs.none)
theorem Sc (c d : Cl) (hc : u32 c) (hd : u32 d) : Spec prog 251 #[.agg (Aj c).toArray, .agg (Aj d).toArray] [] [] (fun _ : Unit => .agg (Aj (Cr c d)).toArray) (fun _ => []) (fun _ => []) := by
 refine D7 ntmps251 fun B hB => ?_
 refine B1 ?_; refine q0 rfl (Ax fun b2 => ?_); refine q0 rfl (Ax fun b3 => ?_); refine q0 rfl (B3 fun b4 => ?_); refine Jv ?_; refine Ju ?_; refine Hx ?_; refine q0 rfl (Og ?_ (a := c.pos) (b := d.pos) (ha := hc.1) (hb := hd.1)); refine Hx ?_; refine Hx ?_; refine q0 rfl (Og ?_ (a := c.neg) (b := d.neg) (ha := hc.2) (hb := hd.2)); refine q0 rfl (B5 (cs := Aj (Cr c d)) ?_); refine Er ?_; refine A0a f_ rfl () rfl Dz rfl rfl rfl rfl (fun w hs => hs.none)
theorem A9p (c d : Cl) (hc : u32 c) (hd : u32 d) : Spec prog 200 #[.agg (Aj c).toArray, .agg (Aj d).toArray] [] [] (fun _ : Unit => .bool (below c d)) (fun _ => []) (fun _ => []) := by
 refine D7 ntmps200 fun B hB => ?_
 refine B1 ?_; refine q0 rfl (Ax fun b2 => ?_); refine q0 rfl (Ax fun b3 => ?_); refine H5 ?_; refine Cc (pn := 1000000) (tn := false) (A := [0, 0, 3, 0, 15, 31]) (l := [0, 1, 3, 2, 4, 5]) (fin := []) Tab.mixed ⟨_, func200⟩ (by rfl) ?_; refine Ph ?_; refine Ph ?_; refine Ph ?_; refine n0 rfl (Bo call251 (Sc c d hc hd) (fun x7 => ?_)); refine n0 rfl (D0u ?_ (c := Cr c d) (c' := c)); refine A2h ?_; refine An f_ rfl A7 () (by rw [A9r]) (fun w hs => hs.none)
end Go.Hy
namespace Go.Hy
open Go.Proofs Go.Proofs.Tryz
set_option maxRecDepth 100000
open Go.Shelf Go.RowKit Go.Lib Go.Sort
theorem C3f (a : Int) (W : World) : Calls prog 291 #[.int .u32 a] W fun e w' => e = .returned (.bool false) ∧ w' = W := by
 go_enter func291, ntmps291
 go_wp2
 go_ret
 exact ⟨by simp, rfl⟩
theorem B5j (a b : Int) (W : World) : Calls prog 254 #[.int .u32 a, .int .u32 b] W fun e w' => e = .returned (iv (compareInt a b)) ∧ w' = W := by
 go_enter func254, ntmps254
 go_wp2_with (go_at_call 291; refine (C3f _ _).mono ?_; rintro e w' ⟨rfl, rfl⟩)
 all_goals (go_ret; refine ⟨?_, rfl⟩; unfold Lib.compareInt; (repeat' split) <;> first | rfl | (exfalso; omega))
def A5y (c d : Cl) : Int := if c.pos = d.pos then compareInt c.neg d.neg else compareInt c.pos d.pos
set_option maxHeartbeats 1000000 in
theorem D3t (c d : Cl) (W : World) : Calls prog 202 #[.agg #[.int .u32 c.pos, .int .u32 c.neg], .agg #[.int .u32 d.pos, .int .u32 d.neg]] W fun e w' => e = .returned (iv (A5y c d)) ∧ ∃ q os', w' = grow (W.drewN q) os' := by
 have hcon := fun a b W' => B5j a b W'
 have e1 : A5y c d = if (c.pos : Int) = d.pos then compareInt c.neg d.neg else compareInt c.pos d.pos := by unfold A5y; simp only [Int.ofNat_inj]
 generalize hr : A5y c d = r at e1 ⊢
 go_enter func202, ntmps202
 go_wp2_with (go_at_call 254; refine (hcon _ _ _).mono ?_; rintro e w' ⟨rfl, rfl⟩)
 all_goals (go_ret; refine ⟨?_, 0, _, by rw [alloc_eq_grow, alloc_eq_grow, grow_grow]; rfl⟩)
 all_goals (rw [e1]; simp_all)
instance : Inhabited Cl := ⟨Bw⟩
theorem A1l (c d : Cl) : ltOf A5y c d = Cm c d := by
 unfold ltOf A5y Cm compareInt; by_cases h : c.pos = d.pos
 ·simp only [h, if_true]; by_cases h2 : c.neg < d.neg
  ·rw [if_pos A4]; simp [h2]
  ·rw [if_neg A4]; split <;> simp [h2]
 ·simp only [h, if_false]; by_cases h2 : c.pos < d.pos
  ·rw [if_pos A4]; simp [h2]
  ·rw [if_neg A4, if_pos A4]; simp [h2]
theorem C3z : SWO (ltOf A5y) where
 irrefl x := by rw [A1l]; simp [Cm]
 trans x y z h1 h2 := by
  rw [A1l] at *; simp only [Cm, Bool.or_eq_true, Bool.and_eq_true, decide_eq_true_eq] at *; omega
 ntrans x y z h1 h2 := by
  rw [A1l] at *; simp only [Cm, Bool.or_eq_false_iff, Bool.and_eq_false_iff, decide_eq_false_iff_not] at *; omega
theorem Rf (d : Array Cl) : (flatK Aj 2 d).toList = A5 d.toList := by
 apply List.ext_getElem?; intro t; have hl : (A5 d.toList).length = d.size * 2 := by rw [Jp Db]; simp
 by_cases ht : t < d.size * 2
 ·have h1 : (flatK Aj 2 d).toList[t]? = some (Aj d[t / 2]!)[t % 2]! := by
   have hs : t < (flatK Aj 2 d).size := by rw [size_flatK]; exact ht
   rw [Array.getElem?_toList, Array.getElem?_eq_getElem hs]; have := get_flatK Aj 2 d t ht; rw [getElem!_pos _ t hs] at this; rw [this]
  rw [h1]; have hd : t / 2 < d.toList.length := by simp; omega
  have e : d.toList.getD (t / 2) Bw = d[t / 2]! := by
   have : t / 2 < d.size := by simpa using hd
   rw [getElem!_pos d (t / 2) this, List.getD_eq_getElem?_getD, List.getElem?_eq_getElem hd]; simp
  have h2 : (Aj (d.toList.getD (t / 2) Bw))[t % 2]? = some (Aj d[t / 2]!)[t % 2]! := by
   rw [e]; have : t % 2 < (Aj d[t / 2]!).length := by rw [Db]; omega
   rw [List.getElem?_eq_getElem this, getElem!_pos (Aj d[t / 2]!) (t % 2) this]
  have := A0z Db Bw d.toList (t / 2) (t % 2) _ hd h2; rw [show t / 2 * 2 + t % 2 = t by omega] at this; exact this.symm
 ·rw [List.getElem?_eq_none (by simp; omega), List.getElem?_eq_none A4]
theorem B3f (d : Array Cl) (l : List Cl) (rest : List Value) (hs : d.size = l.length) : putCells id 0 (flatK Aj 2 d) (A5 l ++ rest).toArray = (A5 d.toList ++ rest).toArray := by
 apply Array.ext_getElem?; intro t; have hl : (A5 l).length = d.size * 2 := by rw [Jp Db, hs]
 have hl2 : (A5 d.toList).length = d.size * 2 := by rw [Jp Db]; simp
 simp only [putCells, Array.getElem?_mapIdx, List.getElem?_toArray, size_flatK, Nat.zero_add, Nat.zero_le, true_and, Nat.sub_zero, id]; by_cases ht : t < d.size * 2
 ·rw [List.getElem?_append_left A4, List.getElem?_append_left A4]
  have h1 : (A5 d.toList)[t]? = some (flatK Aj 2 d)[t]! := by
   rw [← Rf, Array.getElem?_toList]; have hsz : t < (flatK Aj 2 d).size := by rw [size_flatK]; exact ht
   rw [Array.getElem?_eq_getElem hsz, getElem!_pos _ t hsz]
  rw [h1]; obtain ⟨v, hv⟩ : ∃ v, (A5 l)[t]? = some v := ⟨_, List.getElem?_eq_getElem A4⟩; rw [hv, Option.map_some, if_pos ht]
 ·rw [List.getElem?_append_right A4, List.getElem?_append_right A4, hl, hl2]; cases rest[t - d.size * 2]? with
  | none => rfl
  | some v => rw [Option.map_some, if_neg ht]
theorem B2w (l : List Cl) (g cap : Nat) (rest : List Value) (hn : l.length < 4611686018427387904) :
  Spec prog 201 #[.slice (some ⟨g, 0, none⟩) l.length cap, .func (.func 202) #[] #[]] [] [Af g (A5 l ++ rest) 107] (fun _ : {l' : List Cl // l'.Perm l ∧ l'.Pairwise fun a b => Cm b a = false} => .tuple #[]) (fun _ => []) (fun x => [Af g (A5 x.1 ++ rest) 107]) := by
 intro ok w hok hs; have hg : w.heap[g]? = some (.cells (A5 l ++ rest).toArray 107 (0, 0)) := hs.res _ List.mem_cons_self w (fun _ _ => rfl); have hlt : g < w.heap.size := (Array.getElem?_eq_some_iff.mp hg).1; have hu : prog.underlying 107 = some (.struct (TyF.fC prog)) := TyF.uC
 have aE : ∀ w, (isAgg (Tryz.S1.t 24)).run prog w = .ok true w := fun w => by
  show (isAgg 107).run prog w = _; simp [isAgg, run_underlying hu]
 have zE : ∀ w, (Go.sizeOf (Tryz.S1.t 24)).run prog w = .ok 2 w := fun w => Gg (P := prog) (t := 107) rfl w
 have hH : HoldsK Aj 2 w g 0 l.toArray := by
  intro j hj; rw [size_flatK] at hj; have e : (flatK Aj 2 l.toArray).toList = A5 l := by rw [Rf]
  have hsz : j < (flatK Aj 2 l.toArray).size := by rw [size_flatK]; exact hj
  have h1 : (A5 l)[j]? = some (flatK Aj 2 l.toArray)[j]! := by
   rw [← e, Array.getElem?_toList, Array.getElem?_eq_getElem hsz, getElem!_pos _ j hsz]
  refine ⟨?_, by simp [World.frozen?, hg]⟩; have hlen : j < (A5 l).length := (List.getElem?_eq_some_iff.mp h1).1; simp only [World.cell?, hg, Nat.zero_add, Option.isSome_none, Bool.false_eq_true, if_false, List.getElem?_toArray, id]; rw [List.getElem?_append_left hlen]; exact h1
 have hc := AnyQ.slices_SortFunc (P := prog) Tryz.C4r 2 aE zE Aj Db (fun x v hv => by
   simp only [Aj, List.mem_cons, List.not_mem_nil, or_false] at hv; rcases hv with rfl | rfl <;> rfl) A5y C3z 202 #[] g 0 cap l.toArray w call202
  (fun m os dk hsz x y => D3t x y _) hH hlt (by simpa using hn)
 have hc2 : Calls prog 201 #[.slice (some ⟨g, 0, none⟩) l.length cap, .func (.func 202) #[] #[]] w _ := hc; refine hc2.mono ?_; rintro e w' ⟨he, d', n, os, hp, hsd, hw⟩; have hsize : d'.size = l.length := by simpa using hp.1
 have hperm : d'.toList.Perm l := by
  have := hp.2.2; have e1 : d'.extract 0 l.toArray.size = d' := by rw [show l.toArray.size = d'.size by simp [hsize]]; simp
  have e2 : l.toArray.extract 0 l.toArray.size = l.toArray := by simp
  rw [e1, e2] at this; exact this
 have hsorted : d'.toList.Pairwise fun a b => Cm b a = false := by
  rw [List.pairwise_iff_getElem]; intro i j hi hj hij; have hi' : i < d'.size := by simpa using hi
  have hj' : j < d'.size := by simpa using hj
  have := hsd i j (Nat.zero_le _) hij (by simp; omega); rw [A1l, getElem!_pos d' j hj', getElem!_pos d' i hi'] at this; simpa using this
 have hg' : w'.heap[g]? = some (.cells (A5 d'.toList ++ rest).toArray 107 (0, 0)) := by
  rw [hw]; show ((mapBlock (Go.Sort.ahead w n) g (putCells id 0 (flatK Aj 2 d'))).heap ++ os)[g]? = _; rw [Array.getElem?_append_left (by simp [mapBlock, Go.Sort.ahead]; exact hlt)]; simp only [mapBlock, Go.Sort.ahead, Array.getElem?_modify, if_true, hg, Option.map_some, onCells]; rw [B3f d' l rest hsize]
 have hold : ∀ b, b < w.heap.size → b ≠ g → w'.heap[b]? = w.heap[b]? := by
  intro b hb hne; rw [hw]; show ((mapBlock (Go.Sort.ahead w n) g (putCells id 0 (flatK Aj 2 d'))).heap ++ os)[b]? = _; rw [Array.getElem?_append_left (by simp [mapBlock, Go.Sort.ahead]; exact hb)]; simp only [mapBlock, Go.Sort.ahead, Array.getElem?_modify, if_neg (Ne.symm hne)]
 have hsz' : w.heap.size ≤ w'.heap.size := by rw [hw]; simp [sortWorldK, putRowK, Go.Sort.ahead]
 refine ⟨⟨d'.toList, hperm, hsorted⟩, he, ?_⟩; have h0 : St ⟨ok, B0 [Af g (A5 l ++ rest) 107], w⟩ [] ([Af g (A5 l ++ rest) 107]) w := hs
 refine h0.Da (m' := Af g (A5 d'.toList ++ rest) 107) ⟨by rw [hw]; rfl, by rw [hw]; rfl, by rw [hw]; rfl, hsz', fun b hb hn => hold b hb hn⟩ (fun w2 hw2 => by
  show w2.heap[g]? = _; rw [hw2 g rfl]; exact hg') (fun b hb => ?_)
 have hb : b = g := hb; subst hb; exact ⟨by omega, .inl rfl⟩
end Go.Hy
namespace Go.Hy
open Go.Proofs Go.Proofs.Tryz
set_option maxRecDepth 100000
theorem B0n {M : List Aw} : M.Perm (M ++ []) := by rw [List.append_nil]
theorem A8r (l : List Cl) (a : SH) (c : FuncId) (cap : List Value) (FΓ : List Fact) (M : List Aw) (g : Cl → Bool) (hc : ∀ (args : Array Value) (w : World), (callFunc c args).run prog w = .ok (.enter c args) w) (hcl : ∀ x, x ∈ l → Spec prog c (Fh x :: cap).toArray FΓ M (fun _ : Unit => .bool (g x)) (fun _ => []) (fun _ => M)) : Spec prog 250 #[sl a l.length, .func (.func c) #[] cap.toArray] (CL l a :: FΓ) M (fun _ : Unit => iv (A8s g l)) (fun _ => []) (fun _ => M) := by
 refine D7 ntmps250 fun B hB => ?_
 refine A6 (l := l) (a := a) (fun hl1 hA1 hU1 => ?_); refine N6 ?_; refine Dl (X := Nat) (fun i => i ≤ l.length ∧ ∀ j, j < i → g (l.getD j Bw) = false) (fun i => [(0, sl a l.length), (1, .func (.func c) #[] cap.toArray), (7, iv (l.length : Int)), (8, iv (i : Int))]) (fun i => CL l a :: FΓ) (fun i => M) (fun i => l.length - i) (0) (⟨Nat.zero_le _, fun j hj => by omega⟩) (by exact Dr) ?_ ?_
 ·exact fun w hs => hs
 ·intro i base0 ⟨hi, hok⟩ next0; refine Ds ?_; refine A1 (fun h9 => ?_) (fun h9 => ?_)
  ·have hlt : i < l.length := by have := of_decide_eq_true h9; omega
   obtain ⟨bk, o, hav⟩ := hA1 A4; refine Wo ?_; refine Ic ?_; refine Rq ?_; refine Dd ?_; refine Ot ?_; refine Rs ?_; refine q0 rfl (C9 hc (hcl _ (Ad hlt)) (cap := cap) (fun x16 => ?_) (hm := B0n)); refine Jv ?_; refine A1 (fun h16 => ?_) (fun h16 => ?_)
   ·refine Ic ?_; refine An f_ rfl A7 () (by rw [C3h hlt h16 hok]) (fun w hs => (hs.l8).Bv)
   ·refine H9 ?_; refine A2 (fun w hs => ?_) (next0 (i + 1) _ ⟨hlt, fun j hj => (by rcases Nat.lt_succ_iff_lt_or_eq.mp hj with h | h; exact hok j h; subst h; exact h16)⟩ A4 Dr); exact (hs.l9).Bv
  ·have hge : i = l.length := by have := of_decide_eq_false h9; omega
   refine Kn ?_; refine An f_ rfl A7 () (by rw [B4j (by rw [← hge]; exact hok)]) (fun w hs => hs.l8)
theorem Pe (l : List Cl) (a : SH) (c : FuncId) (cap : List Value) (FΓ : List Fact) (M : List Aw) (g : Cl → Bool) (hc : ∀ (args : Array Value) (w : World), (callFunc c args).run prog w = .ok (.enter c args) w) (hcl : ∀ x, x ∈ l → Spec prog c (Fh x :: cap).toArray FΓ M (fun _ : Unit => .bool (g x)) (fun _ => []) (fun _ => M)) : Spec prog 198 #[sl a l.length, .func (.func c) #[] cap.toArray] (CL l a :: FΓ) M (fun _ : Unit => .bool (l.any g)) (fun _ => []) (fun _ => M) := by
 refine D7 ntmps198 fun B hB => ?_
 refine A9x ?_; refine q0 rfl (A0 call250 (A8r l a c cap FΓ M g hc hcl) (fun x7 => ?_) (hm := B0n)); refine A2d ?_; refine Cg ?_; refine An f_ rfl A7 () (by rw [A4x]) (fun w hs => (hs.l8).Bv)
theorem A0u (c d : Cl) (hc : u32 c) (hd : u32 d) (b : Nat) : Spec prog 199 #[Fh d, pz b] [] [Af b (Aj c) 107] (fun _ : Unit => .bool (!decide (c = d) && below c d)) (fun _ => []) (fun _ => [Af b (Aj c) 107]) := by
 refine D7 ntmps199 fun B hB => ?_
 refine B1 ?_; refine q0 rfl (Ax fun b2 => ?_); refine Cg ?_; refine Fu ?_; refine Fl ?_; refine q0 rfl (D1j ?_ (c := c) (c' := d)); refine Dd ?_; refine qI rfl rfl rfl Jb (fun hg7 => Mm ?_) (fun hg7 => ?_)
 ·refine qT rfl rfl rfl (Mm ?_); refine qT rfl rfl rfl (A0 call200 (A9p c d hc hd) (fun x10 => ?_)); refine I0 ?_; refine An f_ rfl A7 () (by simp_all) (fun w hs => (hs.l8).drop)
 ·refine Es ?_; refine G4 ?_; refine An f_ rfl A7 () (by simp_all) (fun w hs => (hs.l8).drop)
theorem A4s (l : List Cl) (a : SH) (c : Cl) (hc : u32 c) (b : Nat) : Spec prog 197 #[Fh c, pz b] [CL l a] [Af b [sl a l.length] 22] (fun _ : Unit => .bool (C5 l c)) (fun _ => []) (fun _ => [Af b [sl a l.length] 22]) := by
 refine D7 ntmps197 fun B hB => ?_
 refine A6 (l := l) (a := a) (fun hl1 hA1 hU1 => ?_); refine B1 ?_; refine q0 rfl (Ax fun b2 => ?_); refine Mi ?_; refine Pk ?_; refine N1 ?_; refine q0 rfl (A0 call198 (Pe l a 199 [pz b2] [] [Af b2 (Aj c) 107] (fun d => !decide (c = d) && below c d) call199 (fun d hd => A0u c d hc (hU1 d hd) b2)) (fun x6 => ?_)); refine Cg ?_; refine An f_ rfl A7 () rfl (fun w hs => (hs.l8).drop)
theorem Tg (l : List Cl) (c : Cl) : A5 (l ++ [c]) = A5 l ++ Aj c := by simp [A5]
theorem Zo (l : List Cl) (a : SH) (n : Nat) (hn : n = l.length) (hb : n * 8 ≤ reach) :
  Spec prog 201 #[sl a n, .func (.func 202) #[] #[]] [] [Am 2 107 a n (A5 l)] (fun _ : {l' : List Cl // A1x l l'} => .tuple #[]) (fun _ => []) (fun x => [Am 2 107 a n (A5 x.1)]) := by
 subst hn; intro ok w hok hs; have hown : w.ownsRow 0 107 2 (sl a l.length) l.length (A5 l) := hs.res _ List.mem_cons_self w (fun _ _ => rfl); rcases hown.2 with ⟨h1, h2⟩ | ⟨g, cap, cur, h1, h2, h3, h4, h5, h6, h7⟩
 ·have hl : l = [] := List.eq_nil_of_length_eq_zero h2; subst hl; have hc := AnyF.slices_SortFunc_none (P := prog) Tryz.C4r a.1 a.2 (.func (.func 202) #[] #[]) w; have hc2 : Calls prog 201 #[sl a 0, .func (.func 202) #[] #[]] w _ := hc; refine hc2.mono ?_; rintro e w' ⟨he, hw⟩; subst hw; exact ⟨⟨[], List.Perm.refl _, List.Pairwise.nil⟩, he, hs⟩
 ·obtain ⟨ao, ac⟩ := a; have e1 : ao = some ⟨g, 0, none⟩ := by injection h1
  have e2 : ac = cap := by injection h1
  subst e1; subst e2
  have hfl : cur.toList = A5 l ++ cur.toList.drop (l.length * 2) := by
   have := List.take_append_drop (l.length * 2) cur.toList; rw [h7] at this; exact this.symm
  have hbox : St ⟨ok, B0 [Am 2 107 (some ⟨g, 0, none⟩, ac) l.length (A5 l)], w⟩ [] [Af g (A5 l ++ cur.toList.drop (l.length * 2)) 107] w := by
   refine hs.Da (m' := Af g (A5 l ++ cur.toList.drop (l.length * 2)) 107) (Q6.refl _ _) (fun w2 hw2 => ?_) (fun b hb => ?_)
   ·show w2.heap[g]? = _; rw [hw2 g rfl, ← hfl, Array.toArray_toList]; exact h3
   ·have hb : b = g := hb; subst hb; exact ⟨(Array.getElem?_eq_some_iff.mp h3).1, .inl rfl⟩
  have hdom : ∀ b, B0 [Am 2 107 (some ⟨g, 0, none⟩, ac) l.length (A5 l)] b ↔ B0 [Af g (A5 l ++ cur.toList.drop (l.length * 2)) 107] b := by
   intro b; rw [E8, E8]
   have : (Am 2 107 (some ⟨g, 0, none⟩, ac) l.length (A5 l)).dom b ↔ b = g := by
    show (sl (some ⟨g, 0, none⟩, ac) l.length).ownBlock = some b ↔ b = g; simp only [sl, Value.ownBlock, Option.some.injEq]; exact eq_comm
   rw [this]; rfl
  have hd2 : B0 [Am 2 107 (some ⟨g, 0, none⟩, ac) l.length (A5 l)] = B0 [Af g (A5 l ++ cur.toList.drop (l.length * 2)) 107] := funext fun b => propext (hdom b)
  rw [hd2] at hbox; refine (B2w l g ac (cur.toList.drop (l.length * 2)) (by unfold reach at hb; omega) ok w (fun b hb => ⟨(hok b hb).1, by rw [← hd2]; exact (hok b hb).2⟩) hbox).mono ?_; rintro e w' ⟨x, he, hs'⟩; refine ⟨⟨x.1, x.2.1, x.2.2⟩, he, ?_⟩; rw [hd2]; have hlen : x.1.length = l.length := x.2.1.length_eq; have hg : w'.heap[g]? = some (.cells (A5 x.1 ++ cur.toList.drop (l.length * 2)).toArray 107 (0, 0)) := hs'.res _ List.mem_cons_self w' (fun _ _ => rfl); have hfl2 : (A5 x.1).length = l.length * 2 := by rw [Jp Db, hlen]
  refine hs'.Da (m' := Am 2 107 (some ⟨g, 0, none⟩, ac) l.length (A5 x.1)) (Q6.refl _ _) (fun w2 hw2 => ⟨hfl2, .inr ⟨g, ac, (A5 x.1 ++ cur.toList.drop (l.length * 2)).toArray, rfl, Nat.zero_le _, ?_, h4, h5, ?_, ?_⟩⟩) (fun b hb => ?_)
  ·rw [hw2 g rfl]; exact hg
  ·have h8 : cur.toList.length = ac * 2 := by simpa using h6
   simp only [List.size_toArray, List.length_append, List.length_drop, hfl2, h8]; omega
  ·rw [← hfl2, List.take_left]
  ·have hb : (sl (some ⟨g, 0, none⟩, ac) l.length).ownBlock = some b := hb; simp only [sl, Value.ownBlock, Option.some.injEq] at hb; subst hb; exact ⟨(Array.getElem?_eq_some_iff.mp hg).1, .inl rfl⟩
theorem Ym (l : List Cl) (a : SH) : Spec prog 110 #[sl a l.length] [CL l a] [] (fun x : {x : SH × Int × List Cl // Ga l x.2} => .tuple #[sl x.1.1 x.1.2.2.length, iv x.1.2.1]) (fun _ => []) (fun x => [Am 2 107 x.1.1 x.1.2.2.length (A5 x.1.2.2)]) := by
 refine D7 ntmps110 fun B hB => ?_
 refine A6 (l := l) (a := a) (fun hl1 hA1 hU1 => ?_); refine F8 ?_; refine B1 ?_; refine q0 rfl (B3t fun b12 => ?_); refine Mi ?_; refine q0 rfl (B3 fun b5 => ?_); refine Jv ?_; refine A2j ?_; refine Dl (X := Nat × SH) (fun s => s.1 ≤ l.length ∧ ∀ j, j < s.1 → B8 (l.getD j Bw) = true) (fun s => [(4, .map (some b12)), (5, pz b5), (13, sl a l.length), (14, iv (l.length : Int)), (15, iv (s.1 : Int))]) (fun s => [CL l a]) (fun s => [V5 b12 (once (l.take s.1)), Af b5 [sl s.2 (once (l.take s.1)).length] 22, Am 2 107 s.2 (once (l.take s.1)).length (A5 (once (l.take s.1)))]) (fun s => l.length - s.1) ((0, (none, 0))) (⟨Nat.zero_le _, fun j hj => absurd hj (Nat.not_lt_zero _)⟩) (by exact Dr) ?_ ?_
 ·exact fun w hs => ((hs.l8).C7 2 107).perm (Bj.trans ((List.Perm.swap _ _ _).cons _))
 ·intro ⟨i, aO⟩ base0 ⟨hi, hok⟩ next0; dsimp only at hi hok next0 ⊢; refine Ds ?_; refine A1 (fun h16 => ?_) (fun h16 => ?_)
  ·have hlt : i < l.length := by have := of_decide_eq_true h16; omega
   obtain ⟨bk, o, hav⟩ := hA1 A4; have hu := hU1 _ (Ad (d := Bw) hlt); have hol := Ww l i; refine Fk ?_; refine Ot ?_; refine Rs ?_; refine q0 rfl (B3 fun b7 => ?_); refine Ko ?_; refine Fu ?_; refine q0 rfl (A0 call196 (La (l.getD i Bw) hu) (fun x20 => ?_)); refine J8 ?_; refine A1 (fun h21 => ?_) (fun h21 => ?_)
   ·have hr : B8 (l.getD i Bw) = false := by simpa using h21
    refine F8 ?_; refine Bg f_ rfl A7 A7 ⟨((none, 0), 2, []), by (unfold Ga; rw [C4i hlt hr]; rfl)⟩ rfl (fun w hs => (hs.l7).bare.C7 2 107)
   ·have hr : B8 (l.getD i Bw) = true := by simpa using h21
    refine H4 ?_; refine P3 ?_; refine q0 rfl (B3u ?_); refine J8 ?_; refine A1 (fun h25 => ?_) (fun h25 => ?_)
    ·have hnin : l.getD i Bw ∉ once (l.take i) := by simpa using h25
     refine P3 ?_; refine q0 rfl (B8e ?_); refine Jv ?_; refine Ih ?_; refine Pk ?_; refine Fl ?_; refine q0 rfl (Dp fun b30 => ?_); refine q0 rfl (F4 (fun a31 => ?_)  ); refine Er ?_; refine Rr ?_; have hst := Ni hlt; rw [if_neg hnin] at hst; have hlen' : (once (l.take (i + 1))).length = (once (l.take i)).length + 1 := by rw [hst]; simp
     refine A2 (fun w hs => ?_) (next0 (i + 1, a31) _ ⟨hlt, fun j hj => (by rcases Nat.lt_succ_iff_lt_or_eq.mp hj with h | h; exact hok j h; subst h; exact hr)⟩ (by simp only; omega) Dr); dsimp only; rw [hlen', hst, Tg]; exact ((hs.l8).perm Eu).Bv (A := [_, _, _])
    ·refine H9 ?_; have hin : l.getD i Bw ∈ once (l.take i) := by simpa using h25
     have hst := Ni hlt; rw [if_pos hin] at hst; refine A2 (fun w hs => ?_) (next0 (i + 1, aO) _ ⟨hlt, fun j hj => (by rcases Nat.lt_succ_iff_lt_or_eq.mp hj with h | h; exact hok j h; subst h; exact hr)⟩ (by simp only; omega) Dr); dsimp only; rw [hst]; exact (hs.l8).drop
  ·have hge : i = l.length := by have := of_decide_eq_false h16; omega
   have hall : l.all B8 = true := D0h (by rw [← hge]; exact hok); subst hge; rw [List.take_length]; have hUo : ∀ c, c ∈ once l → u32 c := fun c hc => hU1 c ((Kx c l).mp hc)
   have hol := Qy l; refine A2 (fun w hs => ((hs.perm Bj).D4 hB rfl rfl A4 hUo)) ?_; refine Ef ?_; refine B1 ?_; refine N1 ?_; refine Cg ?_; refine Ca ?_; refine Ft ?_; refine B1 ?_; refine Pk ?_; refine B2g ?_; refine Dl (X := Nat × SH) (fun s => s.1 ≤ (once l).length) (fun s => [(8, .func (.func 197) #[] [pz b5].toArray), (9, sl s.2 (Em l s.1).length), (34, sl aO (once l).length), (35, iv ((once l).length : Int)), (36, iv (s.1 : Int))]) (fun s => [CL (once l) aO]) (fun s => [Af b5 [sl aO (once l).length] 22, Am 2 107 s.2 (Em l s.1).length (A5 (Em l s.1))]) (fun s => (once l).length - s.1) ((0, (none, 0))) (Nat.zero_le _) (by exact Dr) ?_ ?_
   ·exact fun w hs => (((hs.l9).C7 2 107).perm Bj).Bv (A := [_, _])
   ·intro ⟨i, aK⟩ base1 hi next1; dsimp only at hi next1 ⊢; refine Ds ?_; refine A1 (fun h37 => ?_) (fun h37 => ?_)
    ·have hlt : i < (once l).length := by have := of_decide_eq_true h37; omega
     refine A6 (l := once l) (a := aO) (fun _ hA2 _ => ?_); obtain ⟨bk, o, hav⟩ := hA2 A4; have hu := hUo _ (Ad (d := Bw) hlt); have hkl := A0w l i; refine Fk ?_; refine Ot ?_; refine Rs ?_; refine q0 rfl (B3 fun b11 => ?_); refine Er ?_; refine P3 ?_; refine q0 rfl (C9 call197 (A4s (once l) aO ((once l).getD i Bw) hu b5) (cap := [pz b5]) (fun x42 => ?_)); refine J8 ?_; refine A1 (fun h43 => ?_) (fun h43 => ?_)
     ·refine D9 ?_; refine Fl ?_; refine q0 rfl (Dp fun b46 => ?_); refine q0 rfl (F4 (fun a47 => ?_)  ); refine Mj ?_; have hnd : C5 (once l) ((once l).getD i Bw) = false := by simpa using h43
      have hst := Pa hlt; rw [hnd, if_neg Ii] at hst; have hlen' : (Em l (i + 1)).length = (Em l i).length + 1 := by rw [hst]; simp
      refine A2 (fun w hs => ?_) (next1 (i + 1, a47) _ hlt (by simp only; omega) ⟨rfl, by rw [hlen']; rfl, rfl, rfl, rfl, trivial⟩); dsimp only; rw [hlen', hst, Tg]; exact ((hs.l8).perm Bj).Bv (A := [_, _])
     ·refine H9 ?_; have hnd : C5 (once l) ((once l).getD i Bw) = true := by simpa using h43
      have hst := Pa hlt; rw [hnd, if_pos rfl] at hst; refine A2 (fun w hs => ?_) (next1 (i + 1, aK) _ hlt (by simp only; omega) ⟨rfl, by rw [hst]; rfl, rfl, rfl, rfl, trivial⟩); dsimp only; rw [hst]; exact (hs.l8).Bv (A := [_, _])
    ·have hge2 : i = (once l).length := by have := of_decide_eq_false h37; omega
     subst hge2; rw [A0x]; refine Ef ?_; refine Hd ?_; refine Hf ?_; refine Zf ?_; refine Jv ?_; refine A1 (fun h51 => ?_) (fun h51 => ?_)
     ·have h64 : 64 < (kept l).length := by have := of_decide_eq_true h51; omega
      refine F8 ?_; refine Bg f_ rfl A7 A7 ⟨((none, 0), 3, []), by (unfold Ga; rw [hall, if_neg Ii, if_pos h64])⟩ rfl (fun w hs => (hs.l7).bare.C7 2 107)
     ·have h64 : ¬ 64 < (kept l).length := by have := of_decide_eq_false h51; omega
      refine H4 ?_; refine Ee ?_; refine q0 rfl (A0 call201 (Zo (kept l) aK (kept l).length rfl (by unfold reach; omega)) (fun x53 => ?_)); refine Jv ?_; refine Ki ?_; have hpl : x53.1.length = (kept l).length := x53.2.1.length_eq; refine Bg f_ rfl A7 A7 ⟨(aK, 0, x53.1), by (unfold Ga; rw [hall, if_neg Ii, if_neg h64]; exact ⟨rfl, x53.2⟩)⟩ (by rw [hpl]; rfl) (fun w hs => ?_); have h := (hs.l7).Bv (A := [_]); rw [← hpl] at h; exact h
theorem A8o (l : List Cl) (a : SH) : Spec prog 110 #[sl a l.length] [CL l a] [] (fun x : {x : SH × Int × List Cl // Ga l x.2} => .tuple #[sl x.1.1 x.1.2.2.length, iv x.1.2.1]) (fun x => [CL x.1.2.2 x.1.1]) (fun _ => []) := fun ok w hok hs => (Ym l a ok w hok hs).mono fun e w' h => by
 obtain ⟨x, he, hs'⟩ := h; have hu := (hs.facts _ List.mem_cons_self).2
 have hx : x.1.2.2.length ≤ 64 ∧ ∀ c, c ∈ x.1.2.2 → u32 c := by
  have h := x.2; unfold Ga at h; split at h
  ·rw [h]; exact ⟨Nat.zero_le _, fun c hc => by cases hc⟩
  ·split at h
   ·rw [h]; exact ⟨Nat.zero_le _, fun c hc => by cases hc⟩
   ·rename_i h64; exact ⟨by rw [h.2.1.length_eq]; omega, fun c hc => hu c (B9h (h.2.1.mem_iff.mp hc))⟩
 exact ⟨x, he, (hs'.D4 trivial rfl rfl (by unfold reach; omega) hx.2).l8⟩
theorem A9a (l m : List Cl) (a b : SH) : Spec prog 111 #[sl a l.length, sl b m.length] [CL l a, CL m b] [] (fun _ : Unit => .bool (decide (l = m))) (fun _ => []) (fun _ => []) := by
 refine D7 ntmps111 fun B hB => ?_
 refine A6 (l := l) (a := a) (fun hl1 hA1 hU1 => ?_); refine A6 (l := m) (a := b) (fun hl2 hA2 hU2 => ?_); refine Ca ?_; refine Hd ?_; refine Hf ?_; refine Dd ?_; refine Hf ?_; refine A6r ?_; refine A1 (fun h10 => ?_) (fun h10 => ?_)
 ·have hne : ¬ l = m := fun e => by subst e; simp at h10
  refine Ca ?_; refine An f_ rfl A7 () (by rw [decide_eq_false hne]) (fun w hs => hs.none)
 ·have hlen : l.length = m.length := by simp at h10; omega
  refine H4 ?_; refine A2j ?_; refine Dl (X := Nat) (fun i => i ≤ l.length ∧ ∀ j, j < i → l.getD j Bw = m.getD j Bw) (fun i => [(0, sl a l.length), (1, sl b m.length), (12, iv (l.length : Int)), (13, iv (i : Int))]) (fun i => [CL l a, CL m b]) (fun i => []) (fun i => l.length - i) (0) (⟨Nat.zero_le _, fun j hj => by omega⟩) (by exact Dr) ?_ ?_
  ·exact fun w hs => hs.l9
  ·intro i base0 ⟨hi, hok⟩ next0; refine Ds ?_; refine A1 (fun h14 => ?_) (fun h14 => ?_)
   ·have hlt : i < l.length := by have := of_decide_eq_true h14; omega
    have hlt2 : i < m.length := by omega
    obtain ⟨bk, o, hav⟩ := hA1 A4; obtain ⟨bk2, o2, hav2⟩ := hA2 A4; refine Wo ?_; refine Ee ?_; refine H5 ?_; refine Cc (pn := 1000000) (tn := false) (A := [0, 0, 3, 7, 0, 0, 48, 112, 255]) (l := [0, 1, 2, 3, 4, 5, 6, 7, 8]) (fin := []) Tab.mixed ⟨_, func111⟩ (by rfl) ?_; refine Jy ?_; refine n0 rfl (Jz ?_); refine n0 rfl (B0c ?_); refine Jy ?_; refine n0 rfl (Jz ?_); refine n0 rfl (B0c ?_); refine n0 rfl (C4l ?_); refine Tk ?_; refine A1 (fun h24 => ?_) (fun h24 => ?_)
    ·refine Ca ?_; refine An f_ rfl A7 () (by rw [decide_eq_false (fun e => by subst e; simp at h24)]) (fun w hs => hs.none)
    ·refine H9 ?_; have hb : l.getD i Bw = m.getD i Bw := by simpa using h24
     refine A2 (fun w hs => ?_) (next0 (i + 1) _ ⟨hlt, fun j hj => (by rcases Nat.lt_succ_iff_lt_or_eq.mp hj with h | h; exact hok j h; subst h; exact hb)⟩ A4 Dr); exact hs
   ·have hge : i = l.length := by have := of_decide_eq_false h14; omega
    refine Kn ?_; refine An f_ rfl A7 () (by rw [decide_eq_true (Lx hlen (by rw [← hge]; exact hok))]) (fun w hs => hs.none)
theorem Eo : C1e := by
 intro l a; refine D7 ntmps63 fun B hB => ?_
 refine Bm (p := True) (fun _ _ => trivial) (fun _ => ?_); refine P2 ?_; refine q0 rfl (A0 call110 (A8o l a) (fun x7 => ?_)); refine Tx ?_; refine Ee ?_; refine A7a ?_; refine Dd ?_; refine qI rfl rfl rfl Jb (fun hg12 => E1 ?_) (fun hg12 => ?_)
 ·refine He ?_; refine qT rfl rfl rfl (A0 call111 (A9a x7.1.2.2 l x7.1.1 a) (fun x15 => ?_)); refine I0 ?_; have hlr := Np x7.2; refine An f_ rfl A7 () (by rw [← hlr]; simp_all) (fun w hs => hs.none)
 ·refine Es ?_; refine G4 ?_; have hlr := Np x7.2; refine An f_ rfl A7 () (by rw [← hlr]; simp_all) (fun w hs => hs.none)
theorem Nt : Zb := by
 intro l a; refine D7 ntmps193 fun B hB => ?_
 refine A6 (l := l) (a := a) (fun hl1 hA1 hU1 => ?_); refine P2 ?_; refine q0 rfl (A0 call63 (Eo l a) (fun x4 => ?_)); refine Dd ?_; refine qI rfl rfl rfl Jb (fun hg5 => E1 ?_) (fun hg5 => ?_)
 ·refine qT rfl rfl rfl (A0 call198 (Pe l a 248 [] [] [] I7 call248 (fun x hx => W4 x (hU1 x hx))) (fun x7 => ?_)); refine B2j ?_; refine I0 ?_; refine An f_ rfl A7 () (by simp_all [A8]) (fun w hs => hs.none)
 ·refine Es ?_; refine G4 ?_; refine An f_ rfl A7 () (by simp_all [A8]) (fun w hs => hs.none)
theorem Iz : A9v := ⟨Eo, Nt, Vq⟩
theorem B0m {m : Nat} (h : m ≤ 24) : 2 ^ m ≤ 16777216 := Nat.pow_le_pow_right (n := 2) (j := 24) A4 h
theorem B1x (i : Int) (h0 : 0 ≤ i) : Spec prog 239 #[iv (i)] [] [] (fun _ : Unit => .int .u32 (((2 ^ (min i.toNat 24) - 1) : Nat) : Int)) (fun _ => []) (fun _ => []) := by
 refine D7 ntmps239 fun B hB => ?_
 have hp := B0m (m := min i.toNat 24) A4; have hpos : 0 < 2 ^ (min i.toNat 24) := Nat.pow_pos A4; refine P2 ?_; refine q0 rfl (A3u ?_); refine q0 rfl (Nk ?_ (m := min i.toNat 24) (ha := by split <;> omega)); refine q0 rfl (A8c ?_ (a := 1) (m := min i.toNat 24) (hm := by omega) (hb := by omega)); refine q0 rfl (C6y ?_ (a := 1 * 2 ^ (min i.toNat 24)) (b := 1) (h := by omega) (ha := by omega)); refine q0 rfl (A3x ?_ (a := 1 * 2 ^ (min i.toNat 24) - 1) (ha := by omega)); refine Cg ?_; refine An f_ rfl A7 () (by rw [Nat.one_mul]) (fun w hs => hs.none)
theorem P8 (s : Nat) (f : Int) (b : Int) (hs : s < 4294967296) (hi : Ap f) (hib : Ap b) : Spec prog 238 #[.int .u32 ((s : Nat) : Int), iv (f), iv (b)] [] [] (fun _ : Unit => .tuple #[.int .u32 (((Ak s f b).2 : Nat) : Int), iv ((Ak s f b).1)]) (fun _ => []) (fun _ => []) := by
 refine D7 ntmps238 fun B hB => ?_
 have hs24 := Js s; have hp := B0m (m := min f.toNat 24) A4; have hpos : 0 < 2 ^ (min f.toNat 24) := Nat.pow_pos A4; have hhi : B9 (s &&& 16777215) (2 ^ (min f.toNat 24) - 1) < 16777216 := Z8 hs24; have hlo : (s &&& 16777215) &&& (2 ^ (min f.toNat 24) - 1) < 16777216 := Nat.lt_of_le_of_lt Nat.and_le_left hs24; refine F8 ?_; refine Ft ?_; refine Ft ?_; refine Bn ([(0, .int .u32 ((s : Nat) : Int)), (1, iv (f)), (2, iv (b)), (15, .bool ((decide (f < 0)) || (decide (b < 0))))]) (fun hK => ?_) (fun base => ?_)
 ·refine D9 ?_; refine Tm ?_; refine Dd ?_; refine Wn rfl (decide (f < 0)) (fun hg12 g12 => ?_) (fun hg12 g12 => ?_)
  ·refine A6u ?_; refine A6x ?_; refine H7 ?_; exact hK _ ⟨rfl, rfl, rfl, Mz, trivial⟩
  ·refine J6 ?_; exact hK _ ⟨rfl, rfl, rfl, Mz, trivial⟩
 ·refine Cz ((decide (f < 0)) || (decide (b < 0))) (fun h15 c15 => ?_) (fun h15 c15 => ?_)
  ·have hg : Ak s f b = (2, 0) := by rw [Ak, if_pos A4]
   refine F8 ?_; refine Bg f_ rfl A7 A7 () (by first | (rw [hg]; done) | (rw [hg]; rfl)) (fun w hs => hs.none)
  ·have hfb : 0 ≤ f ∧ 0 ≤ b := by omega
   refine H4 ?_; refine Ee ?_; refine q0 rfl (L0 ?_ (a := s) (b := 16777215)); refine Cg ?_; refine Rq ?_; refine q0 rfl (A0 call239 (B1x f P6) (fun x20 => ?_)); refine q0 rfl (L0 ?_ (a := s &&& 16777215) (b := 2 ^ (min f.toNat 24) - 1) (ha := by omega) (hb := by omega)); refine Cg ?_; refine Rq ?_; refine q0 rfl (A0 call239 (B1x f P6) (fun x24 => ?_)); refine q0 rfl (T4 ?_ (a := (s &&& 16777215)) (b := (2 ^ (min f.toNat 24) - 1))); refine q0 rfl (B8g ?_ (a := B9 (s &&& 16777215) (2 ^ (min f.toNat 24) - 1))); refine Cg ?_; refine Hd ?_; refine q0 rfl (A3w ?_ (a := ((B9 (s &&& 16777215) (2 ^ (min f.toNat 24) - 1) : Nat) : Int)) (b := 0)); refine Jv ?_; refine Cz (decide (((B9 (s &&& 16777215) (2 ^ (min f.toNat 24) - 1) : Nat) : Int) = 0)) (fun h28 c28 => ?_) (fun h28 c28 => ?_)
   ·have hz : B9 (s &&& 16777215) (2 ^ (min f.toNat 24) - 1) = 0 := by omega
    have hg : Ak s f b = (0, (s &&& 16777215) &&& (2 ^ (min f.toNat 24) - 1)) := by rw [Ak, if_neg A4, if_pos hz]
    refine Ki ?_; refine Bg f_ rfl A7 A7 () (by first | (rw [hg]; done) | (rw [hg]; rfl)) (fun w hs => hs.none)
   ·have hz : ¬ B9 (s &&& 16777215) (2 ^ (min f.toNat 24) - 1) = 0 := by omega
    refine J5 ?_; refine Ft ?_; refine Bn ([(2, iv (b)), (8, .int .u32 ((((s &&& 16777215) &&& (2 ^ (min f.toNat 24) - 1)) : Nat) : Int)), (9, .int .u64 (((B9 (s &&& 16777215) (2 ^ (min f.toNat 24) - 1) : Nat) : Int))), (38, .bool ((decide (24 ≤ b)) || (decide (16777215 < ((B9 (s &&& 16777215) (2 ^ (min f.toNat 24) - 1) * 2 ^ b.toNat : Nat) : Int)))))]) (fun hK => ?_) (fun base => ?_)
    ·refine D9 ?_; refine A2d ?_; refine Dd ?_; refine Wn rfl (decide (24 ≤ b)) (fun hg32 g32 => ?_) (fun hg32 g32 => ?_)
     ·refine A6u ?_; refine He ?_; refine qT rfl rfl rfl (Nk ?_ (m := b.toNat) (ha := by omega)); refine qT rfl rfl rfl (A8c ?_ (a := B9 (s &&& 16777215) (2 ^ (min f.toNat 24) - 1)) (m := b.toNat) (hm := by omega) (hb := by have := B0m (m := b.toNat) A4; have h9 := Nat.mul_le_mul (Nat.le_of_lt hhi) this; omega)); refine qT rfl rfl rfl (B8f ?_ (a := ((B9 (s &&& 16777215) (2 ^ (min f.toNat 24) - 1) * 2 ^ b.toNat : Nat) : Int)) (b := 16777215)); refine H7 ?_; exact hK _ ⟨rfl, rfl, rfl, Mz, trivial⟩
     ·refine Q7 ?_; refine J7 ?_; exact hK _ ⟨rfl, rfl, rfl, Mz, trivial⟩
    ·refine Cz ((decide (24 ≤ b)) || (decide (16777215 < ((B9 (s &&& 16777215) (2 ^ (min f.toNat 24) - 1) * 2 ^ b.toNat : Nat) : Int)))) (fun h38 c38 => ?_) (fun h38 c38 => ?_)
     ·have hg : Ak s f b = (10, 0) := by rw [Ak, if_neg A4, if_neg hz, if_pos A4]
      refine F8 ?_; refine Bg f_ rfl A7 A7 () (by first | (rw [hg]; done) | (rw [hg]; rfl)) (fun w hs => hs.none)
     ·have hbig : ¬ (24 ≤ b ∨ 16777215 < B9 (s &&& 16777215) (2 ^ (min f.toNat 24) - 1) * 2 ^ b.toNat) := by omega
      have hg : Ak s f b = (0, ((s &&& 16777215) &&& (2 ^ (min f.toNat 24) - 1)) ||| (B9 (s &&& 16777215) (2 ^ (min f.toNat 24) - 1) * 2 ^ b.toNat)) := by rw [Ak, if_neg A4, if_neg hz, if_neg hbig]
      refine Qc ?_; refine Dd ?_; refine q0 rfl (Nk ?_ (m := b.toNat) (ha := by omega)); refine q0 rfl (A8c ?_ (a := B9 (s &&& 16777215) (2 ^ (min f.toNat 24) - 1)) (m := b.toNat) (hm := by omega) (hb := by omega)); refine q0 rfl (A3x ?_ (a := B9 (s &&& 16777215) (2 ^ (min f.toNat 24) - 1) * 2 ^ b.toNat) (ha := by omega)); refine q0 rfl (Og ?_ (a := (s &&& 16777215) &&& (2 ^ (min f.toNat 24) - 1)) (b := B9 (s &&& 16777215) (2 ^ (min f.toNat 24) - 1) * 2 ^ b.toNat) (ha := by omega) (hb := by omega)); refine Kk ?_; refine Bg f_ rfl A7 A7 () (by first | (rw [hg]; done) | (rw [hg]; rfl)) (fun w hs => hs.none)
theorem A5z (c : Cl) (f : Int) (b : Int) (hc : u32 c) (hi : Ap f) (hib : Ap b) : Spec prog 169 #[Fh c, iv (f), iv (b)] [] [] (fun _ : Unit => .tuple #[Fh ((B4 c f b).2), iv ((B4 c f b).1)]) (fun _ => []) (fun _ => []) := by
 refine D7 ntmps169 fun B hB => ?_
 have hcp := hc.1; have hcn := hc.2; have hp1 := K5 c.pos f b; have hp2 := K5 c.neg f b; refine B1 ?_; refine q0 rfl (Ax fun b3 => ?_); refine q0 rfl (B3 fun b6 => ?_); refine H5 ?_; refine Fu ?_; refine q0 rfl (A0 call196 (La c P6) (fun x12 => ?_)); refine J8 ?_; refine Cz (!(B8 c)) (fun h13 c13 => ?_) (fun h13 c13 => ?_)
 ·have hg : B4 c f b = (2, Bw) := by rw [B4, if_pos (by simpa using h13)]
  refine B1 ?_; refine q0 rfl (B5 (cs := [.int .u32 ((((⟨0, 0⟩ : Cl)).pos : Nat) : Int), .int .u32 ((((⟨0, 0⟩ : Cl)).neg : Nat) : Int)]) ?_); refine Gs ?_; refine E4 f_ rfl () rfl mf_ rfl rfl rfl rfl (by rw [hg]; rfl) (fun w hs => hs.none)
 ·have hr : ¬ B8 c = false := by simpa using h13
  refine H4 ?_; refine Ju ?_; refine G5 ?_; refine q0 rfl (A0 call238 (P8 ((c).pos) f b P6 P6 P6) (fun x20 => ?_)); refine H6 ?_; refine Cz (decide (((Ak ((c).pos) f b).1) ≠ 0)) (fun h24 c24 => ?_) (fun h24 c24 => ?_)
  ·have hg : B4 c f b = ((Ak c.pos f b).1, Bw) := by rw [B4, if_neg hr, if_pos (by simpa using h24)]
   refine B1 ?_; refine q0 rfl (B5 (cs := [.int .u32 ((((⟨0, 0⟩ : Cl)).pos : Nat) : Int), .int .u32 ((((⟨0, 0⟩ : Cl)).neg : Nat) : Int)]) ?_); refine Km ?_; refine E4 f_ rfl () rfl mf_ rfl rfl rfl rfl (by rw [hg]; rfl) (fun w hs => hs.none)
  ·have hr2 : ¬ (Ak c.pos f b).1 ≠ 0 := by simpa using h24
   refine H4 ?_; refine Ju ?_; refine G5 ?_; refine q0 rfl (A0 call238 (P8 ((c).neg) f b P6 P6 P6) (fun x32 => ?_)); refine H6 ?_; refine Cz (decide (((Ak ((c).neg) f b).1) ≠ 0)) (fun h36 c36 => ?_) (fun h36 c36 => ?_)
   ·have hg : B4 c f b = ((Ak c.neg f b).1, Bw) := by rw [B4, if_neg hr, if_neg hr2, if_pos (by simpa using h36)]
    refine B1 ?_; refine q0 rfl (B5 (cs := [.int .u32 ((((⟨0, 0⟩ : Cl)).pos : Nat) : Int), .int .u32 ((((⟨0, 0⟩ : Cl)).neg : Nat) : Int)]) ?_); refine Km ?_; refine E4 f_ rfl () rfl mf_ rfl rfl rfl rfl (by rw [hg]; rfl) (fun w hs => hs.none)
   ·have hg : B4 c f b = (0, ⟨(Ak c.pos f b).2, (Ak c.neg f b).2⟩) := by rw [B4, if_neg hr, if_neg hr2, if_neg (by simpa using h36)]
    refine Qc ?_; refine q0 rfl (B5 (cs := [.int .u32 ((((⟨(Ak ((c).pos) f b).2, (Ak ((c).neg) f b).2⟩ : Cl)).pos : Nat) : Int), .int .u32 ((((⟨(Ak ((c).pos) f b).2, (Ak ((c).neg) f b).2⟩ : Cl)).neg : Nat) : Int)]) ?_); refine Gs ?_; refine E4 f_ rfl () rfl mf_ rfl rfl rfl rfl (by rw [hg]; rfl) (fun w hs => hs.none)
theorem M3 (l : List CP) (a_l : SH)  : Spec prog 166 #[sl a_l (l.length)] [J4 l a_l] [] (fun _ : Unit => iv ((if l.all (fun p => Ab p.1) then 0 else 2))) (fun _ => []) (fun _ => []) := by
 refine D7 ntmps166 fun B hB => ?_
 refine N6 ?_; refine Az (X := Nat) (fun s_ => s_ ≤ l.length ∧ ∀ j, j < s_ → Ab (l.getD j C6).1 = true) (fun s_ => [(5, sl a_l (l.length)), (6, iv ((l.length : Int))), (7, iv ((s_ : Int)))]) (fun s_ G_ => G_) (fun s_ => []) (fun s_ => l.length - s_) (0) (⟨Nat.zero_le _, fun j hj => absurd hj (Nat.not_lt_zero _)⟩) (by exact Dr) ?_ ?_
 ·exact fun w hs => hs
 ·intro i base0 ⟨hi, hok⟩ next0; refine Ds ?_; refine Cz (decide ((i : Int) < (l.length : Int))) (fun h8 c8 => ?_) (fun h8 c8 => ?_)
  ·refine G3 ?_; refine Ea (l := l) (a := a_l) (bt := 24) (F := By) (E := N0) (d := C6) Dz (fun hl1 hA1 => ?_); refine Hw (l := l) (a := a_l) (bt := 24) (F := By) (E := N0) (d := C6) Dz i A4 ?_; refine Ih ?_; obtain ⟨bk2, o2, hav2⟩ := hA1 A4; refine q0 rfl (D5 ?_ (j := i)); refine B2i ?_; refine A2i ?_; refine q0 rfl (A0 call63 (Eo (((l).getD i C6).1) (((l).getD i C6).2) ) (fun x12 => ?_)); refine J8 ?_; refine Cz (!(Ab (((l).getD i C6).1))) (fun h13 c13 => ?_) (fun h13 c13 => ?_)
   ·refine Ca ?_; refine An f_ rfl A7 () (by rw [if_neg (by rw [Mc (d := C6) (i := i) A4 (by simpa using h13)]; decide)]) (fun w hs => hs.none)
   ·refine H9 ?_; refine A2 (fun w hs => ?_) (next0 (i + 1) _ (⟨by omega, fun j hj => by rcases Nat.lt_succ_iff_lt_or_eq.mp hj with h | h; exact hok j h; subst h; simpa using h13⟩) A4 Dr); exact (hs.l9)
  ·refine Kn ?_; refine An f_ rfl A7 () (by rw [if_pos (O1 (d := C6) (fun j hj => hok j A4))]) (fun w hs => hs.none)
theorem Py   : Spec prog 118 #[] [] [] (fun _ : Unit => sl (none, 0) 0) (fun _ => []) (fun _ => []) := by
 refine D7 ntmps118 fun B hB => ?_
 refine Ca ?_; refine Ca ?_; refine An f_ rfl A7 () (by first | rfl | (simp_all; done) | (simp_all; omega)) (fun w hs => hs.none)
theorem Vk (l : List Cl) (a : SH) (c : Cl) (g4 : Nat) (f : Int) (g5 : Nat) (b : Int) (hc : u32 c) (hi : Ap f) (hib : Ap b) (hl : l.length * 8 ≤ reach) : Spec prog 168 #[sl a (l.length), Fh c, pz g4, pz g5] [At g4 0 [iv (f)], At g5 0 [iv (b)]] [Am 2 107 a (l.length) (A5 l)] (fun x : SH => .tuple #[sl x (l.length + 1), iv (B4 c f b).1]) (fun x : SH => []) (fun x : SH => [Am 2 107 x (l.length + 1) (A5 (l ++ [(B4 c f b).2]))]) := by
 refine D7 ntmps168 fun B hB => ?_
 have hu9 := Q1 c f b; refine B1 ?_; refine q0 rfl (Ax fun b5 => ?_); refine Kk ?_; refine Fu ?_; refine Ou ?_; refine Ou ?_; refine q0 rfl (A0 call169 (A5z c f b P6 P6 P6) (fun x14 => ?_)); refine Kl ?_; refine q0 rfl (B3 fun b8 => ?_); refine Gs ?_; refine P3 ?_; refine q0 rfl (Dp fun b19 => ?_); refine q0 rfl (F4 (fun a20 => ?_) (a := a) (n' := l.length)); refine Ao (fun w hs => ((hs.perm Au).drop).Xw (c := ((B4 c f b).2))) ?_; refine Dd ?_; refine Kk ?_; refine Bg f_ rfl A7 A7 a20 rfl (fun w hs => ((hs.l8).Bv (A := [_])))
set_option maxHeartbeats 4000000 in
theorem X7 (l : List Cl) (a_l : SH) (f b : Int) (g4 g5 : Nat) (hi : Ap f) (hib : Ap b) : Spec prog 167 #[sl a_l (l.length), sl (none, 0) (0), .func (.func 168) #[] [pz g4, pz g5].toArray] [CL l a_l, At g4 0 [iv f], At g5 0 [iv b]] [Am 2 107 (none, 0) (0) (A5 ([]))] (fun x : SH => .tuple #[sl x (E7 (fun c => B4 c f b) l).2.length, iv (E7 (fun c => B4 c f b) l).1]) (fun x : SH => []) (fun x : SH => [Am 2 107 x (E7 (fun c => B4 c f b) l).2.length (A5 (E7 (fun c => B4 c f b) l).2)]) := by
 rw [show (#[sl a_l (l.length), sl (none, 0) (0), .func (.func 168) #[] [pz g4, pz g5].toArray] : Array Value) = ([sl a_l (l.length), sl (none, 0) (0), .func (.func 168) #[] [pz g4, pz g5].toArray] : List Value).toArray from rfl]; refine F3 func167 ntmps167 rfl Yo fun B hB => ?_
 refine A6 (l := l) (a := a_l) (fun hl1 hA1 hU1 => ?_); refine N5 ?_; refine Az (X := Nat × SH) (fun s_ => s_.1 ≤ l.length ∧ ∀ j, j < s_.1 → (B4 (l.getD j Bw) f b).1 = 0) (fun s_ => [(1, sl s_.2 (s_.1)), (2, .func (.func 168) #[] [pz g4, pz g5].toArray), (13, sl a_l (l.length)), (14, iv ((l.length : Int))), (15, iv ((s_.1 : Int)))]) (fun s_ G_ => G_) (fun s_ => [Am 2 107 s_.2 (s_.1) (A5 ((l.take s_.1).map fun c => (B4 c f b).2))]) (fun s_ => l.length - s_.1) (0, (none, 0)) (⟨Nat.zero_le _, fun j hj => absurd hj (Nat.not_lt_zero _)⟩) (by exact Dr) ?_ ?_
 ·exact fun w hs => hs
 ·intro ⟨i, a⟩ base0 ⟨hi9, hok⟩ next0; dsimp only at  hi9  hok  next0 ⊢; refine Ds ?_; refine Cz (decide ((i : Int) < (l.length : Int))) (fun h16 c16 => ?_) (fun h16 c16 => ?_)
  ·have hlt9 : ((l.take i).map fun c => (B4 c f b).2).length = i := by rw [List.length_map, List.length_take]; omega
   refine Fk ?_; obtain ⟨bk2, o2, hav2⟩ := hA1 A4; refine q0 rfl (D5 ?_ (j := i)); refine Rs ?_; refine q0 rfl (B3 fun b9 => ?_); refine Er ?_; refine Rq ?_; refine Fl ?_; refine q0 rfl (C9 call168 ((by have h := Vk ((l.take i).map fun c => (B4 c f b).2) a (l.getD i Bw) g4 f g5 b (hU1 _ (Ad A4)) hi hib (by rw [hlt9]; unfold reach at *; omega); rw [hlt9] at h; exact h)) (cap := [pz g4, pz g5]) (fun x23 => ?_)); refine H6 ?_; refine Cz (decide (((B4 (l.getD i Bw) f b).1) ≠ 0)) (fun h27 c27 => ?_) (fun h27 c27 => ?_)
   ·refine N4 ?_; have hg : (E7 (fun c => B4 c f b) l) = ((B4 (l.getD i Bw) f b).1, []) := B4t A4 hok (by simpa using h27); refine Bg f_ rfl A7 A7 (none, 0) (by rw [hg]; rfl) (fun w hs => by rw [hg]; exact ((hs.l7).bare.C7 2 107))
   ·refine N3 ?_; have hst : (l.take (i + 1)).map (fun c => (B4 c f b).2) = (l.take i).map (fun c => (B4 c f b).2) ++ [(B4 (l.getD i Bw) f b).2] := by rw [Ac (d := Bw) A4, List.map_append]; rfl
    refine A2 (fun w hs => ?_) (next0 (i + 1, x23) _ (⟨by omega, fun j hj => by rcases Nat.lt_succ_iff_lt_or_eq.mp hj with h | h; exact hok j h; subst h; simpa using h27⟩) A4 Dr); rw [hst]; exact ((hs.l9).Bv (A := [_]))
  ·refine N2 ?_; have he : i = l.length := by omega
   have hg : (E7 (fun c => B4 c f b) l) = (0, l.map fun c => (B4 c f b).2) := A5h (fun j hj => hok j A4); refine Bg f_ rfl A7 A7 a (by rw [hg, List.length_map, ← he]; rfl) (fun w hs => by rw [hg]; have h := (hs.l7); rw [he, List.take_length] at h; dsimp only; rw [List.length_map]; exact h)
theorem Jm (l : List Cl) (a : SH) : Spec prog 110 #[sl a l.length] [CL l a] [] (fun x : SH => .tuple #[sl x (Bc l).2.length, iv (Bc l).1]) (fun _ => []) (fun x => [Am 2 107 x (Bc l).2.length (A5 (Bc l).2)]) := fun ok w hok hs => (Ym l a ok w hok hs).mono fun e w' h => by
 obtain ⟨x, he, hs'⟩ := h; have hx := Vg x.2; exact ⟨x.1.1, by rw [he]; show Ending.returned (.tuple #[sl x.1.1 x.1.2.2.length, iv x.1.2.1]) = Ending.returned (.tuple #[sl x.1.1 (Bc l).2.length, iv (Bc l).1]); rw [hx], by rw [← hx]; exact hs'⟩
theorem Pb (l : List Cl) (a_l : SH) (f : Int) (b : Int) (hi : Ap f) (hib : Ap b) : Spec prog 89 #[sl a_l (l.length), iv (f), iv (b)] [CL l a_l] [] (fun x : SH => .tuple #[sl x (Aa l f b).2.length, iv (Aa l f b).1]) (fun x : SH => []) (fun x : SH => [Am 2 107 x (Aa l f b).2.length (A5 (Aa l f b).2)]) := by
 refine D7 ntmps89 fun B hB => ?_
 refine A6 (l := l) (a := a_l) (fun hl1 hA1 hU1 => ?_); refine B1 ?_; refine q0 rfl (Ax fun b4 => ?_); refine q0 rfl (Ax fun b5 => ?_); refine Kk ?_; refine Hd ?_; refine q0 rfl (Dp fun b12 => ?_); refine Ao (fun w hs => ((((hs.perm Bj).perm Bj).perm Bj).C5c hB mf_)) ?_; refine q0 rfl (A0 call166 (M3 [(l, a_l)] (some ⟨b12, 0, none⟩, 1)) (fun x13 => ?_)); refine Mh ?_; refine Cz (decide ((if [(l, a_l)].all (fun p => Ab p.1) then (0 : Int) else 2) ≠ 0)) (fun h15 c15 => ?_) (fun h15 c15 => ?_)
 ·have hg : Aa l f b = (2, []) := by rw [Aa, if_pos (by simpa using h15)]
  have h9 : (if [(l, a_l)].all (fun p => Ab p.1) then (0 : Int) else 2) = 2 := by simpa using h15
  refine Ki ?_; refine Bg f_ rfl A7 A7 (none, 0) (by rw [hg]; (conv => lhs; whnf; rw [h9]); rfl) (fun w hs => by rw [hg]; exact ((hs.l7).bare.C7 2 107))
 ·have hr : ¬ Ab l = false := by simpa using h15
  refine J5 ?_; refine Mn (Ms' := [Af b5 [iv (b)] 3, Af b4 [iv (f)] 3]) (by rfl) ?_; refine A2 (fun w hs => ((hs.perm Au).C3 hB)) ?_; refine A2 (fun w hs => (hs.C3 hB)) ?_; refine A2 (fun w hs => hs.C7 2 107) ?_; refine D9 ?_; refine q0 rfl (A0 call118 (Py ) (fun x19 => ?_)); refine N1 ?_; refine q0 rfl (A0 call167 (X7 l a_l f b b4 b5 hi hib) (fun x21 => ?_)); refine H6 ?_; refine Cz (decide (((E7 (fun c => B4 c f b) l).1) ≠ 0)) (fun h25 c25 => ?_) (fun h25 c25 => ?_)
  ·have hg : Aa l f b = ((E7 (fun c => B4 c f b) l).1, []) := by rw [Aa, if_neg hr, if_pos (by simpa using h25)]
   refine Ki ?_; refine Bg f_ rfl A7 A7 (none, 0) (by rw [hg]; rfl) (fun w hs => by rw [hg]; exact ((hs.l7).bare.C7 2 107))
  ·have hg : Aa l f b = Bc (E7 (fun c => B4 c f b) l).2 := by rw [Aa, if_neg hr, if_neg (by simpa using h25)]
   refine J5 ?_; refine A2 (fun w hs => (hs.D4 hB rfl rfl (by have := B4s (g := fun c => B4 c f b) (l := l); omega) (Yr (fun c => Q1 c f b)))) ?_; refine D9 ?_; refine q0 rfl (A0 call110 (Jm (E7 (fun c => B4 c f b) l).2 x21) (fun x28 => ?_)); refine Ik ?_; refine Bg f_ rfl A7 A7 x28 (by rw [hg]; rfl) (fun w hs => by rw [hg]; exact (hs.l8))
theorem B3m (s : Nat) (hs : s < 4294967296) : Spec prog 194 #[.int .u32 ((s : Nat) : Int)] [] [] (fun _ : Unit => iv (((Qu s : Nat) : Int))) (fun _ => []) (fun _ => []) := by
 refine D7 ntmps194 fun B hB => ?_
 have p1 := (Up (s / 2 ^ min 24 32) (by simp; omega)).2; have p2 := (Up (s / 2 ^ min 16 32 &&& 255) (A1p _)).2; have p3 := (Up (s / 2 ^ min 8 32 &&& 255) (A1p _)).2; have p4 := (Up (s &&& 255) (A1p _)).2; refine Ca ?_; refine Ft ?_; refine Cc (pn := 1000000) (tn := false) (A := [0, 1, 3, 0, 8, 24, 56, 127, 0, 256, 768, 1792, 4095, 0, 8192, 24576, 65535, 131071, 262143]) (l := [0, 1, 2, 3, 4, 5, 6, 7, 8, 9, 10, 11, 12, 13, 14, 15, 16, 17, 18]) (fin := []) Tab.mixed ⟨_, func194⟩ (by decide +kernel) ?_; refine Fg ?_; refine n0 rfl (U4 ?_); refine n0 rfl (Ts ?_ (j := s / 2 ^ min 24 32) (hj := by simp; omega)); refine Fg ?_; refine n0 rfl (U4 ?_); refine n0 rfl (U5 ?_ (a := s / 2 ^ min 16 32) (b := 255) (ha := by simp; omega) (hb := by omega)); refine n0 rfl (Ts ?_ (j := s / 2 ^ min 16 32 &&& 255)); refine n0 rfl (Zk ?_ (a := pop8 (s / 2 ^ min 24 32)) (b := pop8 (s / 2 ^ min 16 32 &&& 255)) (h := by omega)); refine Fg ?_; refine n0 rfl (U4 ?_); refine n0 rfl (U5 ?_ (a := s / 2 ^ min 8 32) (b := 255) (ha := by simp; omega) (hb := by omega)); refine n0 rfl (Ts ?_ (j := s / 2 ^ min 8 32 &&& 255)); refine n0 rfl (Zk ?_ (a := pop8 (s / 2 ^ min 24 32) + pop8 (s / 2 ^ min 16 32 &&& 255)) (b := pop8 (s / 2 ^ min 8 32 &&& 255)) (h := by omega)); refine Fg ?_; refine n0 rfl (U5 ?_ (a := s) (b := 255) (ha := by omega) (hb := by omega)); refine n0 rfl (Ts ?_ (j := s &&& 255)); refine n0 rfl (Zk ?_ (a := pop8 (s / 2 ^ min 24 32) + pop8 (s / 2 ^ min 16 32 &&& 255) + pop8 (s / 2 ^ min 8 32 &&& 255)) (b := pop8 (s &&& 255)) (h := by omega)); refine n0 rfl (B6e ?_ (a := pop8 (s / 2 ^ min 24 32) + pop8 (s / 2 ^ min 16 32 &&& 255) + pop8 (s / 2 ^ min 8 32 &&& 255) + pop8 (s &&& 255)) (ha := by omega)); refine A2h ?_; refine An f_ rfl A7 () rfl (fun w hs => hs.none)
theorem V4 (s : Nat) (hs : s < 4294967296) : Spec prog 108 #[.int .u32 ((s : Nat) : Int)] [] [] (fun _ : Unit => iv (((Qu (s &&& 16777215) : Nat) : Int))) (fun _ => []) (fun _ => []) := by
 refine D7 ntmps108 fun B hB => ?_
 have h24 := Js s; refine P2 ?_; refine q0 rfl (L0 ?_ (a := s) (b := 16777215)); refine q0 rfl (A0 call194 (B3m (s &&& 16777215) A4) (fun x5 => ?_)); refine Cg ?_; refine An f_ rfl A7 () (by first | rfl | (simp_all; done) | (simp_all; omega)) (fun w hs => hs.none)
theorem O7 (s : Nat) (i : Int) (hs : s < 4294967296) (hi : Ap i) : Spec prog 109 #[.int .u32 ((s : Nat) : Int), iv (i)] [] [] (fun _ : Unit => .int .u32 (((A2k s i) : Nat) : Int)) (fun _ => []) (fun _ => []) := by
 refine D7 ntmps109 fun B hB => ?_
 have hs24 := Js s; refine P2 ?_; refine q0 rfl (L0 ?_ (a := s) (b := 16777215)); refine Cg ?_; refine Hd ?_; refine q0 rfl (A0 call195 (Nv i ) (fun x8 => ?_)); refine J8 ?_; refine Cz (!(decide (0 ≤ i) && decide (i < 24))) (fun h9 c9 => ?_) (fun h9 c9 => ?_)
 ·refine Ic ?_; refine An f_ rfl A7 () (by rw [A2k, if_neg (by simp at h9; omega)]) (fun w hs => hs.none)
 ·have hp := B0m (m := i.toNat) A4; refine Qc ?_; refine q0 rfl (Nk ?_ (m := i.toNat) (ha := by omega)); refine q0 rfl (B8c ?_ (a := 1) (m := i.toNat)); refine q0 rfl (Og ?_ (a := s &&& 16777215) (b := 1 * 2 ^ (min i.toNat 32) % 4294967296) (ha := by omega) (hb := by exact Nat.mod_lt _ A4)); refine Cg ?_; refine An f_ rfl A7 () (by rw [A2k, if_pos A4, show min i.toNat 32 = i.toNat by omega, Nat.one_mul, Nat.mod_eq_of_lt A4]) (fun w hs => hs.none)
theorem D1e   : Spec prog 124 #[] [] [] (fun x : SH => sl x 1) (fun x : SH => []) (fun x : SH => [Am 2 107 x 1 (A5 [Bw])]) := by
 refine D7 ntmps124 fun B hB => ?_
 refine Ca ?_; refine B1 ?_; refine q0 rfl (B5 (cs := [.int .u32 ((((⟨0, 0⟩ : Cl)).pos : Nat) : Int), .int .u32 ((((⟨0, 0⟩ : Cl)).neg : Nat) : Int)]) ?_); refine q0 rfl (Dp fun b2 => ?_); refine Cg ?_; refine An f_ rfl A7 (some ⟨b2, 0, none⟩, 1) rfl (fun w hs => (((hs.l7)).Ib (sz := 2) (m := 1) rfl Ii))
theorem D5f (i : Int) (hi : Ap i) : Spec prog 61 #[iv (i)] [] [] (fun x : SH => .tuple #[sl x (Vv i).2.length, iv (Vv i).1]) (fun x : SH => []) (fun x : SH => [Am 2 107 x (Vv i).2.length (A5 (Vv i).2)]) := by
 refine D7 ntmps61 fun B hB => ?_
 have hbl := M9 i; refine F8 ?_; refine Hd ?_; refine q0 rfl (A0 call109 ((by have h := O7 0 i A4 hi; rw [Lg] at h; exact h)) (fun x5 => ?_)); refine q0 rfl (A0 call108 (V4 (Et i) A4) (fun x6 => ?_)); refine q0 rfl (A3w ?_ (a := ((Qu (Et i &&& 16777215) : Nat) : Int)) (b := 0)); refine Jv ?_; refine Cz (decide (((Qu (Et i &&& 16777215) : Nat) : Int) = 0)) (fun h7 c7 => ?_) (fun h7 c7 => ?_)
 ·have hg : Vv i = (2, []) := by rw [Vv, if_neg (by rw [A2w] at h7; simp at h7; simp [h7])]
  refine F8 ?_; refine Bg f_ rfl A7 A7 (none, 0) (by rw [hg]; rfl) (fun w hs => by rw [hg]; exact ((hs.l7).bare.C7 2 107))
 ·have hg : Vv i = (0, [⟨Et i, 0⟩]) := by rw [Vv, if_pos (by rw [A2w] at h7; simpa using h7)]
  refine H4 ?_; refine Ee ?_; refine q0 rfl (A0 call109 ((by have h := O7 0 i A4 hi; rw [Lg] at h; exact h)) (fun x9 => ?_)); refine q0 rfl (B5 (cs := [.int .u32 ((((⟨(Et i), 0⟩ : Cl)).pos : Nat) : Int), .int .u32 ((((⟨(Et i), 0⟩ : Cl)).neg : Nat) : Int)]) ?_); refine q0 rfl (Dp fun b11 => ?_); refine Kk ?_; refine Bg f_ rfl A7 A7 (some ⟨b11, 0, none⟩, 1) (by rw [hg]; rfl) (fun w hs => by rw [hg]; exact (((hs.l7)).Ib (sz := 2) (m := 1) rfl Ii))
theorem C5b (f : List Cl) (a_f : SH) (g : List Cl) (a_g : SH) (hlf : f.length ≤ 1000) (hlg : g.length ≤ 1000) : Spec prog 204 #[sl a_f (f.length), sl a_g (g.length)] [CL f a_f, CL g a_g] [] (fun x : SH => .tuple #[sl x (Jk f g).2.length, iv (Jk f g).1]) (fun x : SH => []) (fun x : SH => [Am 2 107 x (Jk f g).2.length (A5 (Jk f g).2)]) := by
 refine D7 ntmps204 fun B hB => ?_
 refine A6 (l := f) (a := a_f) (fun hl1 hA1 hU1 => ?_); refine A6 (l := g) (a := a_g) (fun hl2 hA2 hU2 => ?_); refine Bm (p := Ag f) (fun w hs => Bq (hs.facts (CL f a_f) Cq)) (fun hk_f => ?_); refine Bm (p := Ag g) (fun w hs => Bq (hs.facts (CL g a_g) Cq)) (fun hk_g => ?_); refine F8 ?_; refine N6 ?_; refine Az (X := Nat × SH × List Cl) (fun s_ => s_.1 ≤ f.length ∧ s_.2.2 = I5 (f.take s_.1) g) (fun s_ => [(1, sl a_g (g.length)), (6, sl s_.2.1 (s_.2.2.length)), (11, sl a_f (f.length)), (12, iv ((f.length : Int))), (13, iv ((s_.1 : Int)))]) (fun s_ G_ => G_) (fun s_ => [Am 2 107 s_.2.1 (s_.2.2.length) (A5 s_.2.2)]) (fun s_ => f.length - s_.1) (0, (none, 0), []) (⟨Nat.zero_le _, rfl⟩) (by exact Dr) ?_ ?_
 ·exact fun w hs => (hs.C7 2 107)
 ·intro ⟨i, a, l⟩ base0 ⟨hi, hl9⟩ next0; dsimp only at  hi  hl9  next0 ⊢; refine Ds ?_; refine Cz (decide ((i : Int) < (f.length : Int))) (fun h14 c14 => ?_) (fun h14 c14 => ?_)
  ·have hui := hk_f.1 _ (Ad (d := Bw) (show i < f.length by omega)); refine Fk ?_; obtain ⟨bk3, o3, hav3⟩ := hA1 (by (first | assumption | omega)); refine q0 rfl (D5 ?_ (j := i)); refine Rs ?_; refine q0 rfl (B3 fun b8 => ?_); refine Er ?_; refine Ee ?_; refine B2g ?_; refine Az (X := Nat × SH × List Cl) (fun s_ => s_.1 ≤ g.length ∧ s_.2.2 = I5 (f.take i) g ++ (g.take s_.1).map fun b => Cr (f.getD i Bw) b) (fun s_ => [(1, sl a_g (g.length)), (6, sl s_.2.1 (s_.2.2.length)), (8, pz b8), (11, sl a_f (f.length)), (12, iv ((f.length : Int))), (13, iv ((i : Int))), (17, sl a_g (g.length)), (18, iv ((g.length : Int))), (19, iv ((s_.1 : Int)))]) (fun s_ G_ => G_) (fun s_ => [Af b8 (Aj (f.getD i Bw)) 107, Am 2 107 s_.2.1 (s_.2.2.length) (A5 s_.2.2)]) (fun s_ => g.length - s_.1) (0, a, l) (⟨Nat.zero_le _, by rw [hl9]; simp⟩) (by exact Dr) ?_ ?_
   ·exact fun w hs => hs
   ·intro ⟨k, a2, l2⟩ base1 ⟨hk, hl8⟩ next1; dsimp only at  hk  hl8  next1 ⊢; refine Ds ?_; refine Cz (decide ((k : Int) < (g.length : Int))) (fun h20 c20 => ?_) (fun h20 c20 => ?_)
    ·have huk := hk_g.1 _ (Ad (d := Bw) (show k < g.length by omega)); have hum := Jc hui huk; have hll : l2.length ≤ 1001000 := by rw [hl8, List.length_append, Yf, List.length_map, List.length_take, List.length_take]; have h9 := Nat.mul_le_mul (show min i f.length ≤ 999 by omega) hlg; omega
     refine Fk ?_; obtain ⟨bk4, o4, hav4⟩ := hA2 (by (first | assumption | omega)); refine q0 rfl (D5 ?_ (j := k)); refine Rs ?_; refine q0 rfl (B3 fun b10 => ?_); refine Er ?_; refine D9 ?_; refine Fl ?_; refine Fl ?_; refine q0 rfl (A0 call251 (Sc (f.getD i Bw) (g.getD k Bw) P6 P6) (fun x26 => ?_)); refine q0 rfl (Dp fun b27 => ?_); refine q0 rfl (F4 (fun a28 => ?_) (a := a2) (n' := l2.length)); refine Ao (fun w hs => ((hs.perm Au).drop).Xw (c := (Cr (f.getD i Bw) (g.getD k Bw)))) ?_; refine Mj ?_; refine A2 (fun w hs => ?_) (next1 (k + 1, a28, l2 ++ [Cr (f.getD i Bw) (g.getD k Bw)]) _ (⟨by omega, by rw [hl8, Ac (d := Bw) (l := g) A4, List.map_append, List.append_assoc]; rfl⟩) (by (try simp only); omega) ⟨rfl, (by rw [List.length_append]; rfl), rfl, rfl, rfl, rfl, rfl, rfl, rfl, trivial⟩); have e1 : (l2 ++ [Cr (f.getD i Bw) (g.getD k Bw)]).length = l2.length + 1 := by simp
     rw [e1]; exact (((hs.l9).perm Bj).Bv (A := [_, _]))
    ·have hk9 : k = g.length := by omega
     refine Ef ?_; refine Rr ?_; refine A2 (fun w hs => ?_) (next0 (i + 1, a2, l2) _ (⟨by omega, by rw [hl8, Ac (d := Bw) A4, A8j, hk9, List.take_length]⟩) (by (try simp only); omega) Dr); exact (((hs.l9).perm Au).Bv (A := [_]))
  ·have hi9 : i = f.length := by omega
   have hlm : l = I5 f g := by rw [hl9, hi9, List.take_length]
   have hlen : l.length ≤ 1000000 := by rw [hlm, Yf]; have h9 := Nat.mul_le_mul hlf hlg; omega
   refine Ef ?_; refine Ft ?_; refine A2 (fun w hs => (hs.D4 hB rfl (rfl) (by unfold reach; omega) (fun c hc => Xl hk_f.1 hk_g.1 c (by rw [← hlm]; exact hc)))) ?_; refine D9 ?_; refine q0 rfl (A0 call110 (Jm (l) a) (fun x32 => ?_)); refine Ik ?_; have hg : Jk f g = Bc l := by rw [hlm]; rfl
   refine Bg f_ rfl A7 A7 x32 (by rw [hg]; rfl) (fun w hs => by rw [hg]; exact (hs.l7))
theorem D2k (f : List Cl) (a_f : SH) (g : List Cl) (a_g : SH) (hlf : f.length ≤ 1000000) (hlg : g.length ≤ 1000000) : Spec prog 205 #[sl a_f (f.length), sl a_g (g.length)] [CL f a_f, CL g a_g] [] (fun x : SH => .tuple #[sl x (Gz f g).2.length, iv (Gz f g).1]) (fun x : SH => []) (fun x : SH => [Am 2 107 x (Gz f g).2.length (A5 (Gz f g).2)]) := by
 refine D7 ntmps205 fun B hB => ?_
 refine A6 (l := f) (a := a_f) (fun hl1 hA1 hU1 => ?_); refine A6 (l := g) (a := a_g) (fun hl2 hA2 hU2 => ?_); refine Bm (p := Ag f) (fun w hs => Bq (hs.facts (CL f a_f) Cq)) (fun hk_f => ?_); refine Bm (p := Ag g) (fun w hs => Bq (hs.facts (CL g a_g) Cq)) (fun hk_g => ?_); refine F8 ?_; refine B1 ?_; refine q0 rfl (A8d fun b6 => ?_); refine Dd ?_; refine Ao (fun w hs => hs.Ib (sz := 2) (m := 0) rfl Ii) ?_; refine q0 rfl (Lt (fun a8 => ?_) Cq (a := (some ⟨b6, 0, none⟩, 0)) (n' := 0) (b := a_f) (ls := f)); refine Ao (fun w hs => hs.Lc (l := []) (m := f)) ?_; refine Dd ?_; refine q0 rfl (Lt (fun a10 => ?_) Cq (a := a8) (n' := 0 + f.length) (b := a_g) (ls := g)); refine Ao (fun w hs => hs.Lc (l := ([] ++ f)) (m := g)) ?_; refine Ao (fun w hs => (hs.D4 (l := f ++ g) hB rfl Cq (by unfold reach; omega) (U6 hk_f.1 hk_g.1))) ?_; refine q0 rfl (A0 call110 ((by have h := Jm (f ++ g) a10; rw [show (f ++ g).length = 0 + f.length + g.length by simp] at h; exact h)) (fun x11 => ?_)); refine Ik ?_; refine Bg f_ rfl A7 A7 x11 rfl (fun w hs => (hs.l7))
theorem D0a (f : List Cl) (a_f : SH) (g : List Cl) (a_g : SH) (hlf : f.length ≤ 1000000) (hlg : g.length ≤ 1000000) : Spec prog 237 #[sl a_f (f.length), sl a_g (g.length)] [CL f a_f, CL g a_g] [] (fun x : SH => .tuple #[sl x (Gz f g).2.length, iv (Gz f g).1]) (fun x : SH => []) (fun x : SH => [Am 2 107 x (Gz f g).2.length (A5 (Gz f g).2)]) := by
 refine D7 ntmps237 fun B hB => ?_
 refine A6 (l := f) (a := a_f) (fun hl1 hA1 hU1 => ?_); refine A6 (l := g) (a := a_g) (fun hl2 hA2 hU2 => ?_); refine Bm (p := Ag f) (fun w hs => Bq (hs.facts (CL f a_f) Cq)) (fun hk_f => ?_); refine Bm (p := Ag g) (fun w hs => Bq (hs.facts (CL g a_g) Cq)) (fun hk_g => ?_); refine F8 ?_; refine B1 ?_; refine q0 rfl (A8d fun b6 => ?_); refine Dd ?_; refine Ao (fun w hs => hs.Ib (sz := 2) (m := 0) rfl Ii) ?_; refine q0 rfl (Lt (fun a8 => ?_) Cq (a := (some ⟨b6, 0, none⟩, 0)) (n' := 0) (b := a_f) (ls := f)); refine Ao (fun w hs => hs.Lc (l := []) (m := f)) ?_; refine Dd ?_; refine q0 rfl (Lt (fun a10 => ?_) Cq (a := a8) (n' := 0 + f.length) (b := a_g) (ls := g)); refine Ao (fun w hs => hs.Lc (l := ([] ++ f)) (m := g)) ?_; refine Ao (fun w hs => (hs.D4 (l := f ++ g) hB rfl Cq (by unfold reach; omega) (U6 hk_f.1 hk_g.1))) ?_; refine q0 rfl (A0 call110 ((by have h := Jm (f ++ g) a10; rw [show (f ++ g).length = 0 + f.length + g.length by simp] at h; exact h)) (fun x11 => ?_)); refine Ik ?_; refine Bg f_ rfl A7 A7 x11 rfl (fun w hs => (hs.l7))
theorem D4o (c : Cl) (hc : u32 c) : Spec prog 256 #[Fh c] [O4] [] (fun x : SH => .tuple #[sl x (A0f c).2.length, iv (A0f c).1]) (fun x : SH => []) (fun x : SH => [Am 2 107 x (A0f c).2.length (A5 (A0f c).2)]) := by
 refine D7 ntmps256 fun B hB => ?_
 have hc1 := hc.1; have hc2 := hc.2; have hl1 : (Ar c.pos).length ≤ 24 := Hq _ _; have hl2 : (Ar c.neg).length ≤ 24 := Hq _ _; refine B1 ?_; refine q0 rfl (Ax fun b1 => ?_); refine Kk ?_; refine Ca ?_; refine Ft ?_; refine Ju ?_; refine q0 rfl (A0 call123 (Ix c.pos hc1) (fun x11 => ?_)); refine C5r ?_; refine Ht (l := (Ar c.pos)) (a := x11) (fun hl1 hA1 hU1 => ?_); refine Wl ?_; refine Az (X := Nat × SH × List Cl) (fun s_ => s_.1 ≤ (Ar c.pos).length ∧ s_.2.2 = (((Ar c.pos).take s_.1).map fun j => (⟨0, Et j⟩ : Cl))) (fun s_ => [(1, pz b1), (4, sl s_.2.1 (s_.2.2.length)), (11, sl x11 (((Ar c.pos)).length)), (12, iv ((((Ar c.pos)).length : Int))), (13, iv ((s_.1 : Int)))]) (fun s_ G_ => G_) (fun s_ => [Am 2 107 s_.2.1 (s_.2.2.length) (A5 s_.2.2), Af b1 (Aj c) 107]) (fun s_ => (Ar c.pos).length - s_.1) (0, (none, 0), []) (⟨Nat.zero_le _, rfl⟩) (by exact Dr) ?_ ?_
 ·exact fun w hs => (hs.C7 2 107)
 ·intro ⟨i, a, l⟩ base0 ⟨hi, hl9⟩ next0; dsimp only at  hi  hl9  next0 ⊢; refine Ds ?_; refine Cz (decide ((i : Int) < (((Ar c.pos)).length : Int))) (fun h14 c14 => ?_) (fun h14 c14 => ?_)
  ·have hll : l.length ≤ 24 := by rw [hl9, List.length_map, List.length_take]; omega
   have hbl := M9 ((Ar c.pos).getD i 0); refine Fk ?_; obtain ⟨bk2, o2, hav2⟩ := hA1 (by (first | assumption | omega)); refine q0 rfl (D5 ?_ (j := i)); refine A6t ?_; refine Cg ?_; refine D9 ?_; refine Dd ?_; refine q0 rfl (A0 call109 ((by have h := O7 0 ((Ar c.pos).getD i 0) A4 (A4l (s := c.pos) (i := i) A4); rw [Lg] at h; exact h)) (fun x19 => ?_)); refine q0 rfl (B5 (cs := [.int .u32 ((((⟨0, (Et ((Ar c.pos).getD i 0))⟩ : Cl)).pos : Nat) : Int), .int .u32 ((((⟨0, (Et ((Ar c.pos).getD i 0))⟩ : Cl)).neg : Nat) : Int)]) ?_); refine q0 rfl (Dp fun b21 => ?_); refine q0 rfl (F4 (fun a22 => ?_) (a := a) (n' := l.length)); refine Ao (fun w hs => ((hs.perm Au).drop).Xw (c := (⟨0, (Et ((Ar c.pos).getD i 0))⟩ : Cl))) ?_; refine Mj ?_; refine A2 (fun w hs => ?_) (next0 (i + 1, a22, l ++ [(⟨0, Et ((Ar c.pos).getD i 0)⟩ : Cl)]) _ (⟨by omega, by rw [hl9, Ac (d := 0) A4, List.map_append]; rfl⟩) (by (try simp only); omega) ⟨rfl, (by rw [List.length_append]; rfl), rfl, rfl, rfl, trivial⟩); have e1 : (l ++ [(⟨0, Et ((Ar c.pos).getD i 0)⟩ : Cl)]).length = l.length + 1 := by simp
   rw [e1]; exact (((hs.l9).perm Au).perm Au)
  ·have hi9 : i = (Ar c.pos).length := by omega
   rw [hi9, List.take_length] at hl9; subst hl9; refine Ef ?_; refine Ft ?_; refine Ju ?_; refine q0 rfl (A0 call123 (Ix c.neg hc2) (fun x26 => ?_)); refine C5r ?_; refine Ht (l := (Ar c.neg)) (a := x26) (fun hl3 hA3 hU3 => ?_); refine Wl ?_; refine Az (X := Nat × SH × List Cl) (fun s_ => s_.1 ≤ (Ar c.neg).length ∧ s_.2.2 = ((Ar c.pos).map fun j => (⟨0, Et j⟩ : Cl)) ++ (((Ar c.neg).take s_.1).map fun j => (⟨Et j, 0⟩ : Cl))) (fun s_ => [(4, sl s_.2.1 (s_.2.2.length)), (26, sl x26 (((Ar c.neg)).length)), (27, iv ((((Ar c.neg)).length : Int))), (28, iv ((s_.1 : Int)))]) (fun s_ G_ => G_) (fun s_ => [Am 2 107 s_.2.1 (s_.2.2.length) (A5 s_.2.2), Af b1 (Aj c) 107]) (fun s_ => (Ar c.neg).length - s_.1) (0, a, ((Ar c.pos).map fun j => (⟨0, Et j⟩ : Cl))) (⟨Nat.zero_le _, by simp⟩) (by exact Dr) ?_ ?_
   ·exact fun w hs => hs
   ·intro ⟨i, a2, l⟩ base1 ⟨hi, hl8⟩ next1; dsimp only at  hi  hl8  next1 ⊢; refine Ds ?_; refine Cz (decide ((i : Int) < (((Ar c.neg)).length : Int))) (fun h29 c29 => ?_) (fun h29 c29 => ?_)
    ·have hll : l.length ≤ 48 := by rw [hl8, List.length_append, List.length_map, List.length_map, List.length_take]; omega
     have hbl := M9 ((Ar c.neg).getD i 0); refine Fk ?_; obtain ⟨bk4, o4, hav4⟩ := hA3 (by (first | assumption | omega)); refine q0 rfl (D5 ?_ (j := i)); refine A6t ?_; refine Cg ?_; refine D9 ?_; refine Dd ?_; refine q0 rfl (A0 call109 ((by have h := O7 0 ((Ar c.neg).getD i 0) A4 (A4l (s := c.neg) (i := i) A4); rw [Lg] at h; exact h)) (fun x34 => ?_)); refine q0 rfl (B5 (cs := [.int .u32 ((((⟨(Et ((Ar c.neg).getD i 0)), 0⟩ : Cl)).pos : Nat) : Int), .int .u32 ((((⟨(Et ((Ar c.neg).getD i 0)), 0⟩ : Cl)).neg : Nat) : Int)]) ?_); refine q0 rfl (Dp fun b36 => ?_); refine q0 rfl (F4 (fun a37 => ?_) (a := a2) (n' := l.length)); refine Ao (fun w hs => ((hs.perm Au).drop).Xw (c := (⟨(Et ((Ar c.neg).getD i 0)), 0⟩ : Cl))) ?_; refine Mj ?_; refine A2 (fun w hs => ?_) (next1 (i + 1, a37, l ++ [(⟨Et ((Ar c.neg).getD i 0), 0⟩ : Cl)]) _ (⟨by omega, by rw [hl8, Ac (d := 0) A4, List.map_append, List.append_assoc]; rfl⟩) (by (try simp only); omega) ⟨(by rw [List.length_append]; rfl), rfl, rfl, rfl, trivial⟩); have e1 : (l ++ [(⟨Et ((Ar c.neg).getD i 0), 0⟩ : Cl)]).length = l.length + 1 := by simp
     rw [e1]; exact (((hs.l9).perm Au).perm Au)
    ·have hi8 : i = (Ar c.neg).length := by omega
     have hlo : l = Wv c := by rw [hl8, hi8, List.take_length]; rfl
     have hlen := B7v c; refine Ef ?_; refine Ft ?_; refine A2 (fun w hs => (((hs.perm Au).perm Au).D4 hB rfl (rfl) (by rw [hlo]; unfold reach; omega) (fun d hd => B0f c d (by rw [← hlo]; exact hd)))) ?_; refine D9 ?_; refine q0 rfl (A0 call110 (Jm (l) a2) (fun x40 => ?_)); refine Ik ?_; have hg : A0f c = Bc l := by rw [hlo]; rfl
     refine Bg f_ rfl A7 A7 x40 (by rw [hg]; rfl) (fun w hs => by rw [hg]; exact ((hs.l7).Bv (A := [_])))
theorem D1t (h : List Cl) (a_h : SH) (c : Cl) (hc : u32 c) (hlh : h.length ≤ 64) : Spec prog 255 #[sl a_h (h.length), Fh c] [O4, CL h a_h] [] (fun x : SH => .tuple #[sl x (Cw h c).2.length, iv (Cw h c).1]) (fun x : SH => []) (fun x : SH => [Am 2 107 x (Cw h c).2.length (A5 (Cw h c).2)]) := by
 refine D7 ntmps255 fun B hB => ?_
 refine A6 (l := h) (a := a_h) (fun hl1 hA1 hU1 => ?_); refine Bm (p := Ag h) (fun w hs => Bq (hs.facts (CL h a_h) Cq)) (fun hk_h => ?_); refine B1 ?_; refine q0 rfl (Ax fun b3 => ?_); refine Kk ?_; refine Fu ?_; obtain ⟨r1, hr1⟩ : ∃ q9 : EL, q9 = A0f c := ⟨_, rfl⟩; refine q0 rfl (A0 call256 (Spec.Oy hr1 (D4o c hc) (B0z c)) (fun x10 => ?_)); refine H6 ?_; refine Cz (decide (r1.1 ≠ 0)) (fun h14 c14 => ?_) (fun h14 c14 => ?_)
 ·have hg : Cw h c = (r1.1, []) := by unfold Cw; rw [← hr1]; exact Bb (by simpa using h14)
  refine Ki ?_; refine Bg f_ rfl A7 A7 (none, 0) (by rw [hg]; rfl) (fun w hs => by rw [hg]; exact ((hs.l7).bare.C7 2 107))
 ·have hg2 : Cw h c = Jk h r1.2 := by unfold Cw; rw [← hr1]; exact Bz (by simpa using h14)
  refine Qc ?_; obtain ⟨r2, hr2⟩ : ∃ q9 : EL, q9 = Jk h r1.2 := ⟨_, rfl⟩; refine q0 rfl (A0 call204 (Spec.Ox hr2 (C5b h a_h r1.2 x10 A4 (by rw [hr1]; exact Nat.le_trans (Iy (Wv c)) Ii))) (fun x18 => ?_)); refine Ik ?_; have hg := hg2.trans hr2.symm; refine Bg f_ rfl A7 A7 x18 (by rw [hg]; rfl) (fun w hs => by rw [hg]; exact ((hs.l7).Bv (A := [_])))
set_option maxHeartbeats 4000000 in
theorem B9s (l : List Cl) (a_l : SH) (z : List Cl) (a_z : SH) (hkz : Ag z) (hlz : z.length ≤ 64) : Spec prog 167 #[sl a_l (l.length), sl a_z (z.length), .func (.func 255) #[] #[]] [O4, CL l a_l] [Am 2 107 a_z (z.length) (A5 z)] (fun x : SH => .tuple #[sl x (C8 (Cw) z l).2.length, iv (C8 (Cw) z l).1]) (fun x : SH => []) (fun x : SH => [Am 2 107 x (C8 (Cw) z l).2.length (A5 (C8 (Cw) z l).2)]) := by
 rw [show (#[sl a_l (l.length), sl a_z (z.length), .func (.func 255) #[] #[]] : Array Value) = ([sl a_l (l.length), sl a_z (z.length), .func (.func 255) #[] #[]] : List Value).toArray from rfl]; refine F3 func167 ntmps167 rfl Yo fun B hB => ?_
 refine A6 (l := l) (a := a_l) (fun hl1 hA1 hU1 => ?_); refine Bm (p := Ag l) (fun w hs => Bq (hs.facts (CL l a_l) Cq)) (fun hk_l => ?_); refine N5 ?_; refine Az (X := Nat × SH × List Cl) (fun s_ => s_.1 ≤ l.length ∧ C8 (Cw) z (l.take s_.1) = (0, s_.2.2) ∧ Ag s_.2.2 ∧ s_.2.2.length ≤ 64) (fun s_ => [(1, sl s_.2.1 (s_.2.2.length)), (2, .func (.func 255) #[] #[]), (13, sl a_l (l.length)), (14, iv ((l.length : Int))), (15, iv ((s_.1 : Int)))]) (fun s_ G_ => G_) (fun s_ => [Am 2 107 s_.2.1 (s_.2.2.length) (A5 s_.2.2)]) (fun s_ => l.length - s_.1) (0, a_z, z) (⟨Nat.zero_le _, rfl, hkz, hlz⟩) (by exact Dr) ?_ ?_
 ·exact fun w hs => hs
 ·intro ⟨i, a, hv⟩ base0 ⟨hi9, hf9, hk9, hl9⟩ next0; dsimp only at  hi9  hf9  hk9  hl9  next0 ⊢; refine Ds ?_; refine Cz (decide ((i : Int) < (l.length : Int))) (fun h16 c16 => ?_) (fun h16 c16 => ?_)
  ·have hui := hk_l.1 _ (Ad (d := Bw) (show i < l.length by omega)); refine Fk ?_; obtain ⟨bk2, o2, hav2⟩ := hA1 (by (first | assumption | omega)); refine q0 rfl (D5 ?_ (j := i)); refine Rs ?_; refine q0 rfl (B3 fun b9 => ?_); refine Ko ?_; refine A2 (fun w hs => ((hs.perm Au).D4 hB rfl (rfl) (hk9.2) (hk9.1))) ?_; refine D9 ?_; refine Dd ?_; refine Fl ?_; obtain ⟨r3, hr3⟩ : ∃ q9 : EL, q9 = (Cw) hv (l.getD i Bw) := ⟨_, rfl⟩; refine q0 rfl (C9 call255 (Spec.Ox hr3 (D1t hv a (l.getD i Bw) hui hl9)) (cap := []) (fun x23 => ?_)); refine H6 ?_; refine Cz (decide (r3.1 ≠ 0)) (fun h27 c27 => ?_) (fun h27 c27 => ?_)
   ·refine N4 ?_; have hg : (C8 (Cw) z l) = (r3.1, []) := by rw [Sf A4 hf9 (by rw [← hr3]; simpa using h27), ← hr3]
    refine Bg f_ rfl A7 A7 (none, 0) (by rw [hg]; rfl) (fun w hs => by rw [hg]; exact ((hs.l7).bare.C7 2 107))
   ·refine N3 ?_; refine A2 (fun w hs => ?_) (next0 (i + 1, x23, r3.2) _ (⟨by omega, by rw [Vm A4 hf9 (by rw [← hr3]; simpa using h27), ← hr3], by rw [hr3]; exact T3 hk9, by rw [hr3]; exact A4r _ _⟩) (by (try simp only); omega) Dr); exact ((hs.l9).Bv (A := [_]))
  ·refine N2 ?_; have hg : (C8 (Cw) z l) = (0, hv) := Sg A4 hf9; refine Bg f_ rfl A7 A7 a (by rw [hg]; rfl) (fun w hs => by rw [hg]; exact (hs.l7))
theorem D4s (l : List Cl) (a_l : SH)  : Spec prog 203 #[sl a_l (l.length)] [O4, CL l a_l] [] (fun x : SH => .tuple #[sl x (R1 l).2.length, iv (R1 l).1]) (fun x : SH => []) (fun x : SH => [Am 2 107 x (R1 l).2.length (A5 (R1 l).2)]) := by
 refine D7 ntmps203 fun B hB => ?_
 refine A6 (l := l) (a := a_l) (fun hl1 hA1 hU1 => ?_); refine F8 ?_; refine Ee ?_; refine q0 rfl (A0 call124 (D1e) (fun x5 => ?_)); refine q0 rfl (A0 call167 (B9s l a_l [Bw] x5 Hh Ii) (fun x6 => ?_)); refine Ik ?_; refine Bg f_ rfl A7 A7 x6 rfl (fun w hs => (hs.l7))
theorem C4z (l : List Cl) (a_l : SH)  : Spec prog 114 #[sl a_l (l.length)] [O4, CL l a_l] [] (fun x : SH => .tuple #[sl x (Jw l).2.length, iv (Jw l).1]) (fun x : SH => []) (fun x : SH => [Am 2 107 x (Jw l).2.length (A5 (Jw l).2)]) := by
 refine D7 ntmps114 fun B hB => ?_
 refine A6 (l := l) (a := a_l) (fun hl1 hA1 hU1 => ?_); refine F8 ?_; refine Hd ?_; refine q0 rfl (Dp fun b6 => ?_); refine Ao (fun w hs => (hs.C5c hB Dz)) ?_; refine q0 rfl (A0 call166 (M3 [(l, a_l)] (some ⟨b6, 0, none⟩, 1)) (fun x7 => ?_)); refine Mh ?_; refine Cz (decide ((if [(l, a_l)].all (fun p => Ab p.1) then (0 : Int) else 2) ≠ 0)) (fun h9 c9 => ?_) (fun h9 c9 => ?_)
 ·have hg : Jw l = (2, []) := by rw [Jw, if_neg (by simpa using h9)]
  have h8 : (if [(l, a_l)].all (fun p => Ab p.1) then (0 : Int) else 2) = 2 := by simpa using h9
  refine Ki ?_; refine Bg f_ rfl A7 A7 (none, 0) (by rw [hg]; (conv => lhs; whnf; rw [h8]); rfl) (fun w hs => by rw [hg]; exact ((hs.l7).bare.C7 2 107))
 ·have hg2 : Jw l = R1 l := by rw [Jw, if_pos (by simpa using h9)]
  refine H4 ?_; refine Ee ?_; obtain ⟨r2, hr2⟩ : ∃ q9 : EL, q9 = R1 l := ⟨_, rfl⟩; refine q0 rfl (A0 call203 (Spec.Ox hr2 (D4s l a_l)) (fun x12 => ?_)); refine Ik ?_; have hg := hg2.trans hr2.symm; refine Bg f_ rfl A7 A7 x12 (by rw [hg]; rfl) (fun w hs => by rw [hg]; exact (hs.l7))
theorem Vp (l : List CP) (a_l : SH)  : Spec prog 242 #[sl a_l (l.length)] [J4 l a_l] [] (fun _ : Unit => iv ((if l.all (fun p => A8 p.1) then 0 else 2))) (fun _ => []) (fun _ => []) := by
 refine D7 ntmps242 fun B hB => ?_
 refine N6 ?_; refine Az (X := Nat) (fun s_ => s_ ≤ l.length ∧ ∀ j, j < s_ → A8 (l.getD j C6).1 = true) (fun s_ => [(5, sl a_l (l.length)), (6, iv ((l.length : Int))), (7, iv ((s_ : Int)))]) (fun s_ G_ => G_) (fun s_ => []) (fun s_ => l.length - s_) (0) (⟨Nat.zero_le _, fun j hj => absurd hj (Nat.not_lt_zero _)⟩) (by exact Dr) ?_ ?_
 ·exact fun w hs => hs
 ·intro i base0 ⟨hi, hok⟩ next0; refine Ds ?_; refine Cz (decide ((i : Int) < (l.length : Int))) (fun h8 c8 => ?_) (fun h8 c8 => ?_)
  ·refine G3 ?_; refine Ea (l := l) (a := a_l) (bt := 24) (F := By) (E := N0) (d := C6) Dz (fun hl1 hA1 => ?_); refine Hw (l := l) (a := a_l) (bt := 24) (F := By) (E := N0) (d := C6) Dz i A4 ?_; refine Ih ?_; obtain ⟨bk2, o2, hav2⟩ := hA1 A4; refine q0 rfl (D5 ?_ (j := i)); refine B2i ?_; refine A2i ?_; refine q0 rfl (A0 call193 (Nt (((l).getD i C6).1) (((l).getD i C6).2) ) (fun x12 => ?_)); refine J8 ?_; refine Cz (!(A8 (((l).getD i C6).1))) (fun h13 c13 => ?_) (fun h13 c13 => ?_)
   ·refine Ca ?_; refine An f_ rfl A7 () (by rw [if_neg (by rw [Mc (d := C6) (i := i) A4 (by simpa using h13)]; decide)]) (fun w hs => hs.none)
   ·refine H9 ?_; refine A2 (fun w hs => ?_) (next0 (i + 1) _ (⟨by omega, fun j hj => by rcases Nat.lt_succ_iff_lt_or_eq.mp hj with h | h; exact hok j h; subst h; simpa using h13⟩) A4 Dr); exact (hs.l9)
  ·refine Kn ?_; refine An f_ rfl A7 () (by rw [if_pos (O1 (d := C6) (fun j hj => hok j A4))]) (fun w hs => hs.none)
theorem Z2 (c : Cl) (hc : u32 c) : Spec prog 241 #[Fh c] [] [] (fun _ : Unit => .tuple #[Fh c, .bool (!I7 c)]) (fun _ => []) (fun _ => []) := by
 refine D7 ntmps241 fun B hB => ?_
 refine B1 ?_; refine q0 rfl (Ax fun b1 => ?_); refine q0 rfl (B3 fun b2 => ?_); refine H5 ?_; refine Cc (pn := 1000000) (tn := false) (A := [0, 0, 2, 6, 7, 31]) (l := [0, 1, 2, 3, 4, 5]) (fin := []) Tab.mixed ⟨_, func241⟩ (by rfl) ?_; refine Ph ?_; refine Ph ?_; refine n0 rfl (Bo call248 (W4 c P6) (fun x6 => ?_)); refine n0 rfl (Xh ?_); refine n0 rfl (D4b ?_); refine A2h ?_; refine E4 f_ rfl () rfl Dz rfl rfl rfl rfl rfl (fun w hs => hs.none)
theorem A5i (d : Cl) (g1 : Nat) (c : Cl) (hd : u32 d) (hc : u32 c) : Spec prog 272 #[Fh d, pz g1] [At g1 0 (Aj c)] [] (fun _ : Unit => .tuple #[Fh (Cr c d), .bool (!I7 (Cr c d))]) (fun _ => []) (fun _ => []) := by
 refine D7 ntmps272 fun B hB => ?_
 have hm := Jc hc hd; refine B1 ?_; refine q0 rfl (Ax fun b2 => ?_); refine q0 rfl (B3 fun b3 => ?_); refine Mi ?_; refine Ty ?_; refine Fl ?_; refine q0 rfl (A0 call251 (Sc c d P6 P6) (fun x7 => ?_)); refine q0 rfl (A0 call241 (Z2 (Cr c d) P6) (fun x8 => ?_)); refine Zd ?_; refine Gs ?_; refine E4 f_ rfl () rfl Dz rfl rfl rfl rfl rfl (fun w hs => hs.none)
theorem B9j (l : List Cl) (a_l : SH)  : Spec prog 240 #[sl a_l (l.length), .func (.func 241) #[] #[]] [CL l a_l] [] (fun x : SH => sl x (Dc l).length) (fun x : SH => []) (fun x : SH => [Am 2 107 x (Dc l).length (A5 (Dc l))]) := by
 rw [show (#[sl a_l (l.length), .func (.func 241) #[] #[]] : Array Value) = ([sl a_l (l.length), .func (.func 241) #[] #[]] : List Value).toArray from rfl]; refine F3 func240 ntmps240 rfl Yo fun B hB => ?_
 refine A6 (l := l) (a := a_l) (fun hl1 hA1 hU1 => ?_); refine Bm (p := Ag l) (fun w hs => Bq (hs.facts (CL l a_l) Cq)) (fun hk_l => ?_); refine Ca ?_; refine N6 ?_; refine Az (X := Nat × SH × List Cl) (fun s_ => s_.1 ≤ l.length ∧ s_.2.2 = (Dc (l.take s_.1)) ∧ s_.2.2.length ≤ s_.1) (fun s_ => [(1, .func (.func 241) #[] #[]), (5, sl s_.2.1 (s_.2.2.length)), (10, sl a_l (l.length)), (11, iv ((l.length : Int))), (12, iv ((s_.1 : Int)))]) (fun s_ G_ => G_) (fun s_ => [Am 2 107 s_.2.1 (s_.2.2.length) (A5 s_.2.2)]) (fun s_ => l.length - s_.1) (0, (none, 0), []) (⟨Nat.zero_le _, rfl, Nat.le_refl _⟩) (by exact Dr) ?_ ?_
 ·exact fun w hs => (hs.C7 2 107)
 ·intro ⟨i, a, m⟩ base0 ⟨hi9, hm9, hn9⟩ next0; dsimp only at  hi9  hm9  hn9  next0 ⊢; refine Ds ?_; refine Cz (decide ((i : Int) < (l.length : Int))) (fun h13 c13 => ?_) (fun h13 c13 => ?_)
  ·have hui := hk_l.1 _ (Ad (d := Bw) (show i < l.length by omega)); have hll := hk_l.2; have huq : u32 (l.getD i Bw) := hui; refine Fk ?_; obtain ⟨bk2, o2, hav2⟩ := hA1 (by (first | assumption | omega)); refine q0 rfl (D5 ?_ (j := i)); refine Rs ?_; refine q0 rfl (B3 fun b7 => ?_); refine Er ?_; refine P3 ?_; refine q0 rfl (C9 call241 (Z2 (l.getD i Bw) hui) (cap := []) (fun x19 => ?_)); refine Kl ?_; refine q0 rfl (B3 fun b8 => ?_); refine Gs ?_; refine Ee ?_; refine Jv ?_; refine Cz (!I7 (l.getD i Bw)) (fun h22 c22 => ?_) (fun h22 c22 => ?_)
   ·refine D9 ?_; refine Fl ?_; refine q0 rfl (Dp fun b25 => ?_); refine q0 rfl (F4 (fun a26 => ?_) (a := a) (n' := m.length)); refine Ao (fun w hs => ((hs.perm Au).drop).Xw (c := (l.getD i Bw))) ?_; refine Mj ?_; refine A2 (fun w hs => ?_) (next0 (i + 1, a26, m ++ [(l.getD i Bw)]) _ (⟨by omega, by rw [hm9, Ac (d := Bw) A4]; generalize l.getD i Bw = x at h22 ⊢; simp [Dc, h22], by simp; omega⟩) (by (try simp only); omega) ⟨rfl, (by rw [List.length_append]; rfl), rfl, rfl, rfl, trivial⟩); have e1 : (m ++ [(l.getD i Bw)]).length = m.length + 1 := by simp
    rw [e1]; exact ((hs.l9).Bv (A := [_]))
   ·refine H9 ?_; refine A2 (fun w hs => ?_) (next0 (i + 1, a, m) _ (⟨by omega, by rw [hm9, Ac (d := Bw) A4]; generalize l.getD i Bw = x at h22 ⊢; simp [Dc, h22], by (try simp only); omega⟩) (by (try simp only); omega) Dr); exact (((hs.l9).perm Bj).Bv (A := [_]))
  ·refine Ef ?_; refine Ic ?_; have he : m = (Dc l) := by rw [hm9, show i = l.length by omega, List.take_length]
   refine An f_ rfl A7 a (by rw [← he]; rfl) (fun w hs => by rw [← he]; exact (hs.l7))
theorem B9i (l : List Cl) (a_l : SH) (c : Cl) (g1 : Nat) (hc : u32 c) : Spec prog 240 #[sl a_l (l.length), .func (.func 272) #[] [pz g1].toArray] [CL l a_l, At g1 0 (Aj c)] [] (fun x : SH => sl x (Dc (l.map fun b => Cr c b)).length) (fun x : SH => []) (fun x : SH => [Am 2 107 x (Dc (l.map fun b => Cr c b)).length (A5 (Dc (l.map fun b => Cr c b)))]) := by
 rw [show (#[sl a_l (l.length), .func (.func 272) #[] [pz g1].toArray] : Array Value) = ([sl a_l (l.length), .func (.func 272) #[] [pz g1].toArray] : List Value).toArray from rfl]; refine F3 func240 ntmps240 rfl Yo fun B hB => ?_
 refine A6 (l := l) (a := a_l) (fun hl1 hA1 hU1 => ?_); refine Bm (p := Ag l) (fun w hs => Bq (hs.facts (CL l a_l) Cq)) (fun hk_l => ?_); refine Ca ?_; refine N6 ?_; refine Az (X := Nat × SH × List Cl) (fun s_ => s_.1 ≤ l.length ∧ s_.2.2 = (Dc ((l.take s_.1).map fun b => Cr c b)) ∧ s_.2.2.length ≤ s_.1) (fun s_ => [(1, .func (.func 272) #[] [pz g1].toArray), (5, sl s_.2.1 (s_.2.2.length)), (10, sl a_l (l.length)), (11, iv ((l.length : Int))), (12, iv ((s_.1 : Int)))]) (fun s_ G_ => G_) (fun s_ => [Am 2 107 s_.2.1 (s_.2.2.length) (A5 s_.2.2)]) (fun s_ => l.length - s_.1) (0, (none, 0), []) (⟨Nat.zero_le _, rfl, Nat.le_refl _⟩) (by exact Dr) ?_ ?_
 ·exact fun w hs => (hs.C7 2 107)
 ·intro ⟨i, a, m⟩ base0 ⟨hi9, hm9, hn9⟩ next0; dsimp only at  hi9  hm9  hn9  next0 ⊢; refine Ds ?_; refine Cz (decide ((i : Int) < (l.length : Int))) (fun h13 c13 => ?_) (fun h13 c13 => ?_)
  ·have hui := hk_l.1 _ (Ad (d := Bw) (show i < l.length by omega)); have hll := hk_l.2; have huq : u32 (Cr c (l.getD i Bw)) := Jc hc hui; refine Fk ?_; obtain ⟨bk2, o2, hav2⟩ := hA1 (by (first | assumption | omega)); refine q0 rfl (D5 ?_ (j := i)); refine Rs ?_; refine q0 rfl (B3 fun b7 => ?_); refine Er ?_; refine P3 ?_; refine q0 rfl (C9 call272 (A5i (l.getD i Bw) g1 c hui hc) (cap := [pz g1]) (fun x19 => ?_)); refine Kl ?_; refine q0 rfl (B3 fun b8 => ?_); refine Gs ?_; refine Ee ?_; refine Jv ?_; refine Cz (!I7 (Cr c (l.getD i Bw))) (fun h22 c22 => ?_) (fun h22 c22 => ?_)
   ·refine D9 ?_; refine Fl ?_; refine q0 rfl (Dp fun b25 => ?_); refine q0 rfl (F4 (fun a26 => ?_) (a := a) (n' := m.length)); refine Ao (fun w hs => ((hs.perm Au).drop).Xw (c := (Cr c (l.getD i Bw)))) ?_; refine Mj ?_; refine A2 (fun w hs => ?_) (next0 (i + 1, a26, m ++ [(Cr c (l.getD i Bw))]) _ (⟨by omega, by rw [hm9, Ac (d := Bw) A4]; generalize l.getD i Bw = x at h22 ⊢; simp [Dc, h22], by simp; omega⟩) (by (try simp only); omega) ⟨rfl, (by rw [List.length_append]; rfl), rfl, rfl, rfl, trivial⟩); have e1 : (m ++ [(Cr c (l.getD i Bw))]).length = m.length + 1 := by simp
    rw [e1]; exact ((hs.l9).Bv (A := [_]))
   ·refine H9 ?_; refine A2 (fun w hs => ?_) (next0 (i + 1, a, m) _ (⟨by omega, by rw [hm9, Ac (d := Bw) A4]; generalize l.getD i Bw = x at h22 ⊢; simp [Dc, h22], by (try simp only); omega⟩) (by (try simp only); omega) Dr); exact (((hs.l9).perm Bj).Bv (A := [_]))
  ·refine Ef ?_; refine Ic ?_; have he : m = (Dc (l.map fun b => Cr c b)) := by rw [hm9, show i = l.length by omega, List.take_length]
   refine An f_ rfl A7 a (by rw [← he]; rfl) (fun w hs => by rw [← he]; exact (hs.l7))
theorem ofO (f : List Cl) (a_f : SH)  : Spec prog 173 #[sl a_f (f.length)] [CL f a_f] [] (fun x : SH => .tuple #[sl x (Tp f).2.length, iv (Tp f).1]) (fun x : SH => []) (fun x : SH => [Am 2 107 x (Tp f).2.length (A5 (Tp f).2)]) := by
 refine D7 ntmps173 fun B hB => ?_
 refine A6 (l := f) (a := a_f) (fun hl1 hA1 hU1 => ?_); refine Bm (p := Ag f) (fun w hs => Bq (hs.facts (CL f a_f) Cq)) (fun hk_f => ?_); refine F8 ?_; refine Hd ?_; refine q0 rfl (A0 call63 (Eo f a_f ) (fun x5 => ?_)); refine J8 ?_; refine Cz (!(Ab f)) (fun h6 c6 => ?_) (fun h6 c6 => ?_)
 ·have hg : Tp f = (2, []) := by rw [Tp, if_neg (by simp at h6; simp [h6])]
  refine F8 ?_; refine Bg f_ rfl A7 A7 (none, 0) (by rw [hg]; rfl) (fun w hs => by rw [hg]; exact ((hs.l7).bare.C7 2 107))
 ·have hg : Tp f = Bc (Dc f) := by rw [Tp, if_pos (by simpa using h6)]
  refine H4 ?_; refine Ee ?_; refine q0 rfl (A0 call240 (B9j f a_f) (fun x8 => ?_)); refine Ao (fun w hs => (hs.D4 hB rfl (rfl) ((Po hk_f).2) ((Po hk_f).1))) ?_; refine q0 rfl (A0 call110 (Jm (Dc f) x8) (fun x9 => ?_)); refine Ik ?_; refine Bg f_ rfl A7 A7 x9 (by rw [hg]; rfl) (fun w hs => by rw [hg]; exact (hs.l7))
theorem C2q (r : List Cl) (a_r : SH)  : Spec prog 174 #[sl a_r (r.length)] [O4, CL r a_r] [] (fun x : SH => .tuple #[sl x (Ej r).2.length, iv (Ej r).1]) (fun x : SH => []) (fun x : SH => [Am 2 107 x (Ej r).2.length (A5 (Ej r).2)]) := by
 refine D7 ntmps174 fun B hB => ?_
 refine A6 (l := r) (a := a_r) (fun hl1 hA1 hU1 => ?_); refine Bm (p := Ag r) (fun w hs => Bq (hs.facts (CL r a_r) Cq)) (fun hk_r => ?_); refine F8 ?_; refine Ee ?_; obtain ⟨r1, hr1⟩ : ∃ q9 : EL, q9 = Jw r := ⟨_, rfl⟩; refine q0 rfl (A0 call114 (Spec.Oy hr1 (C4z r a_r) (A3k r)) (fun x8 => ?_)); refine H6 ?_; refine Cz (decide (r1.1 ≠ 0)) (fun h12 c12 => ?_) (fun h12 c12 => ?_)
 ·have hg : Ej r = (r1.1, []) := by unfold Ej; rw [← hr1]; exact Bb (by simpa using h12)
  refine Ki ?_; refine Bg f_ rfl A7 A7 (none, 0) (by rw [hg]; rfl) (fun w hs => by rw [hg]; exact ((hs.l7).bare.C7 2 107))
 ·have hg2 : Ej r = Tp r1.2 := by unfold Ej; rw [← hr1]; exact Bz (by simpa using h12)
  refine H4 ?_; refine Ee ?_; obtain ⟨r2, hr2⟩ : ∃ q9 : EL, q9 = Tp r1.2 := ⟨_, rfl⟩; refine q0 rfl (A0 call173 (Spec.Ox hr2 (ofO r1.2 x8)) (fun x15 => ?_)); refine Ik ?_; have hg := hg2.trans hr2.symm; refine Bg f_ rfl A7 A7 x15 (by rw [hg]; rfl) (fun w hs => by rw [hg]; exact (hs.l7))
theorem C9z (f : List Cl) (a_f : SH) (g : List Cl) (a_g : SH) (hlf : f.length ≤ 1000) (hlg : g.length ≤ 1000) : Spec prog 236 #[sl a_f (f.length), sl a_g (g.length)] [CL f a_f, CL g a_g] [] (fun x : SH => .tuple #[sl x (L2 f g).2.length, iv (L2 f g).1]) (fun x : SH => []) (fun x : SH => [Am 2 107 x (L2 f g).2.length (A5 (L2 f g).2)]) := by
 refine D7 ntmps236 fun B hB => ?_
 refine A6 (l := f) (a := a_f) (fun hl1 hA1 hU1 => ?_); refine A6 (l := g) (a := a_g) (fun hl2 hA2 hU2 => ?_); refine Bm (p := Ag f) (fun w hs => Bq (hs.facts (CL f a_f) Cq)) (fun hk_f => ?_); refine Bm (p := Ag g) (fun w hs => Bq (hs.facts (CL g a_g) Cq)) (fun hk_g => ?_); refine F8 ?_; refine N6 ?_; refine Az (X := Nat × SH × List Cl) (fun s_ => s_.1 ≤ f.length ∧ s_.2.2 = ((f.take s_.1).flatMap fun q => Dc (g.map fun b => Cr q b)) ∧ s_.2.2.length ≤ s_.1 * g.length ∧ ∀ c, c ∈ s_.2.2 → u32 c) (fun s_ => [(1, sl a_g (g.length)), (6, sl s_.2.1 (s_.2.2.length)), (9, sl a_f (f.length)), (10, iv ((f.length : Int))), (11, iv ((s_.1 : Int)))]) (fun s_ G_ => G_) (fun s_ => [Am 2 107 s_.2.1 (s_.2.2.length) (A5 s_.2.2)]) (fun s_ => f.length - s_.1) (0, (none, 0), []) (⟨Nat.zero_le _, rfl, Nat.zero_le _, fun c hc => (by cases hc)⟩) (by exact Dr) ?_ ?_
 ·exact fun w hs => (hs.C7 2 107)
 ·intro ⟨i, a, l⟩ base0 ⟨hi, hl9, hn9, hu9⟩ next0; dsimp only at  hi  hl9  hn9  hu9  next0 ⊢; refine Ds ?_; refine Cz (decide ((i : Int) < (f.length : Int))) (fun h12 c12 => ?_) (fun h12 c12 => ?_)
  ·have hui := hk_f.1 _ (Ad (d := Bw) (show i < f.length by omega)); have hml : (Dc (g.map fun b => Cr (f.getD i Bw) b)).length ≤ g.length := Nat.le_trans (List.length_filter_le _ _) (by rw [List.length_map]; exact Nat.le_refl _); have hll : l.length ≤ 1000000 := Nat.le_trans hn9 (Nat.mul_le_mul (show i ≤ 1000 by omega) hlg); refine Fk ?_; obtain ⟨bk3, o3, hav3⟩ := hA1 (by (first | assumption | omega)); refine q0 rfl (D5 ?_ (j := i)); refine Rs ?_; refine q0 rfl (B3 fun b8 => ?_); refine Er ?_; refine Mn (Ms' := [Af b8 (Aj (f.getD i Bw)) 107, Am 2 107 a (l.length) (A5 l)]) (by rfl) ?_; refine A2 (fun w hs => (((hs.perm Au).perm Au).C3 hB)) ?_; refine D9 ?_; refine Dd ?_; refine N1 ?_; refine q0 rfl (A0 call240 (B9i g a_g (f.getD i Bw) b8 hui) (fun x18 => ?_)); refine Ao (fun w hs => (((hs.perm Au).perm Au).D4 hB rfl (rfl) (by unfold reach; omega) (fun d hd => by obtain ⟨b, hb, rfl⟩ := List.mem_map.mp (List.mem_filter.mp hd).1; exact Jc hui (hk_g.1 b hb)))) ?_; refine q0 rfl (Lt (fun a19 => ?_) Cq (a := a) (n' := l.length) (b := x18) (ls := (Dc (g.map fun b => Cr (f.getD i Bw) b)))); refine Ao (fun w hs => hs.Lc (l := l) (m := (Dc (g.map fun b => Cr (f.getD i Bw) b)))) ?_; refine Mj ?_; refine A2 (fun w hs => ?_) (next0 (i + 1, a19, l ++ (Dc (g.map fun b => Cr (f.getD i Bw) b))) _ (⟨by omega, by rw [hl9, Ac (d := Bw) A4, List.flatMap_append]; simp, by rw [List.length_append, Nat.succ_mul]; omega, fun c hc => (List.mem_append.mp hc).elim (hu9 c) (fun hd => by obtain ⟨b, hb, rfl⟩ := List.mem_map.mp (List.mem_filter.mp hd).1; exact Jc hui (hk_g.1 b hb))⟩) (by (try simp only); omega) ⟨rfl, (by rw [List.length_append]; rfl), rfl, rfl, rfl, trivial⟩); have e1 : (l ++ (Dc (g.map fun b => Cr (f.getD i Bw) b))).length = l.length + (Dc (g.map fun b => Cr (f.getD i Bw) b)).length := List.length_append; rw [e1]; exact (hs.l9)
  ·have hlm : l = (f.flatMap fun q => Dc (g.map fun b => Cr q b)) := by rw [hl9, show i = f.length by omega, List.take_length]
   have hll : l.length ≤ 1000000 := Nat.le_trans hn9 (Nat.mul_le_mul (show i ≤ 1000 by omega) hlg); have hg : L2 f g = Bc l := by rw [hlm]; rfl
   refine Ef ?_; refine Ft ?_; refine A2 (fun w hs => (hs.D4 hB rfl (rfl) (by unfold reach; omega) (hu9))) ?_; refine D9 ?_; refine q0 rfl (A0 call110 (Jm l a) (fun x22 => ?_)); refine Ik ?_; refine Bg f_ rfl A7 A7 x22 (by rw [hg]; rfl) (fun w hs => by rw [hg]; exact (hs.l7))
theorem C8j (f : List Cl) (a_f : SH) (g : List Cl) (a_g : SH) (hlf : f.length ≤ 1000000) (hlg : g.length ≤ 1000000) : Spec prog 176 #[sl a_f (f.length), sl a_g (g.length)] [CL f a_f, CL g a_g] [] (fun x : SH => .tuple #[sl x (Ha f g).2.length, iv (Ha f g).1]) (fun x : SH => []) (fun x : SH => [Am 2 107 x (Ha f g).2.length (A5 (Ha f g).2)]) := by
 refine D7 ntmps176 fun B hB => ?_
 refine A6 (l := f) (a := a_f) (fun hl1 hA1 hU1 => ?_); refine A6 (l := g) (a := a_g) (fun hl2 hA2 hU2 => ?_); refine F8 ?_; refine Hd ?_; refine Dd ?_; refine q0 rfl (Nj fun b9 => ?_); refine Ao (fun w hs => (hs.A0p hB Dz Dz)) ?_; refine q0 rfl (A0 call242 (Vp [(f, a_f), (g, a_g)] (some ⟨b9, 0, none⟩, 2)) (fun x10 => ?_)); refine Mh ?_; refine Cz (decide ((if [(f, a_f), (g, a_g)].all (fun p => A8 p.1) then (0 : Int) else 2) ≠ 0)) (fun h12 c12 => ?_) (fun h12 c12 => ?_)
 ·have hfr : (A8 f && A8 g) = false := by cases hq : A8 f <;> cases hq2 : A8 g <;> simp [hq, hq2] at h12 ⊢
  have h8 : (if [(f, a_f), (g, a_g)].all (fun p => A8 p.1) then (0 : Int) else 2) = 2 := by cases hq : A8 f <;> cases hq2 : A8 g <;> simp [hq, hq2] at h12 ⊢
  have hg : Ha f g = (2, []) := by rw [Ha, if_pos hfr]
  refine Ki ?_; refine Bg f_ rfl A7 A7 (none, 0) (by rw [hg]; (conv => lhs; whnf; rw [h8]); rfl) (fun w hs => by rw [hg]; exact ((hs.l7).bare.C7 2 107))
 ·have hfr : ¬ (A8 f && A8 g) = false := by cases hq : A8 f <;> cases hq2 : A8 g <;> simp [hq, hq2] at h12 ⊢
  have hg2 : Ha f g = Gz f g := by rw [Ha, if_neg hfr]
  refine Qc ?_; obtain ⟨r1, hr1⟩ : ∃ q9 : EL, q9 = Gz f g := ⟨_, rfl⟩; refine q0 rfl (A0 call237 (Spec.Ox hr1 (D0a f a_f g a_g hlf hlg)) (fun x16 => ?_)); refine Ik ?_; have hg := hg2.trans hr1.symm; refine Bg f_ rfl A7 A7 x16 (by rw [hg]; rfl) (fun w hs => by rw [hg]; exact (hs.l7))
theorem B8m (f : List Cl) (a_f : SH) (g : List Cl) (a_g : SH)  : Spec prog 115 #[sl a_f (f.length), sl a_g (g.length)] [CL f a_f, CL g a_g] [] (fun x : SH => .tuple #[sl x (L1 f g).2.length, iv (L1 f g).1]) (fun x : SH => []) (fun x : SH => [Am 2 107 x (L1 f g).2.length (A5 (L1 f g).2)]) := by
 refine D7 ntmps115 fun B hB => ?_
 refine A6 (l := f) (a := a_f) (fun hl1 hA1 hU1 => ?_); refine A6 (l := g) (a := a_g) (fun hl2 hA2 hU2 => ?_); refine F8 ?_; refine Hd ?_; refine Dd ?_; refine q0 rfl (Nj fun b9 => ?_); refine Ao (fun w hs => (hs.A0p hB Dz Dz)) ?_; refine q0 rfl (A0 call166 (M3 [(f, a_f), (g, a_g)] (some ⟨b9, 0, none⟩, 2)) (fun x10 => ?_)); refine Mh ?_; refine Cz (decide ((if [(f, a_f), (g, a_g)].all (fun p => Ab p.1) then (0 : Int) else 2) ≠ 0)) (fun h12 c12 => ?_) (fun h12 c12 => ?_)
 ·have hfr : (Ab f && Ab g) = false := by cases hq : Ab f <;> cases hq2 : Ab g <;> simp [hq, hq2] at h12 ⊢
  have h8 : (if [(f, a_f), (g, a_g)].all (fun p => Ab p.1) then (0 : Int) else 2) = 2 := by cases hq : Ab f <;> cases hq2 : Ab g <;> simp [hq, hq2] at h12 ⊢
  have hg : L1 f g = (2, []) := by unfold L1; rw [if_pos hfr]
  refine Ki ?_; refine Bg f_ rfl A7 A7 (none, 0) (by rw [hg]; (conv => lhs; whnf; rw [h8]); rfl) (fun w hs => by rw [hg]; exact ((hs.l7).bare.C7 2 107))
 ·have hfr : ¬ (Ab f && Ab g) = false := by cases hq : Ab f <;> cases hq2 : Ab g <;> simp [hq, hq2] at h12 ⊢
  have hlf : f.length ≤ 64 := by simp at hfr; exact Hr hfr.1
  have hlg : g.length ≤ 64 := by simp at hfr; exact Hr hfr.2
  have hg2 : L1 f g = Jk f g := by unfold L1; rw [if_neg hfr]
  refine Qc ?_; obtain ⟨r1, hr1⟩ : ∃ q9 : EL, q9 = Jk f g := ⟨_, rfl⟩; refine q0 rfl (A0 call204 (Spec.Ox hr1 (C5b f a_f g a_g A4 A4)) (fun x16 => ?_)); refine Ik ?_; have hg := hg2.trans hr1.symm; refine Bg f_ rfl A7 A7 x16 (by rw [hg]; rfl) (fun w hs => by rw [hg]; exact (hs.l7))
theorem C8i (f : List Cl) (a_f : SH) (g : List Cl) (a_g : SH)  : Spec prog 116 #[sl a_f (f.length), sl a_g (g.length)] [CL f a_f, CL g a_g] [] (fun x : SH => .tuple #[sl x (L5 f g).2.length, iv (L5 f g).1]) (fun x : SH => []) (fun x : SH => [Am 2 107 x (L5 f g).2.length (A5 (L5 f g).2)]) := by
 refine D7 ntmps116 fun B hB => ?_
 refine A6 (l := f) (a := a_f) (fun hl1 hA1 hU1 => ?_); refine A6 (l := g) (a := a_g) (fun hl2 hA2 hU2 => ?_); refine F8 ?_; refine Hd ?_; refine Dd ?_; refine q0 rfl (Nj fun b9 => ?_); refine Ao (fun w hs => (hs.A0p hB Dz Dz)) ?_; refine q0 rfl (A0 call166 (M3 [(f, a_f), (g, a_g)] (some ⟨b9, 0, none⟩, 2)) (fun x10 => ?_)); refine Mh ?_; refine Cz (decide ((if [(f, a_f), (g, a_g)].all (fun p => Ab p.1) then (0 : Int) else 2) ≠ 0)) (fun h12 c12 => ?_) (fun h12 c12 => ?_)
 ·have hfr : (Ab f && Ab g) = false := by cases hq : Ab f <;> cases hq2 : Ab g <;> simp [hq, hq2] at h12 ⊢
  have h8 : (if [(f, a_f), (g, a_g)].all (fun p => Ab p.1) then (0 : Int) else 2) = 2 := by cases hq : Ab f <;> cases hq2 : Ab g <;> simp [hq, hq2] at h12 ⊢
  have hg : L5 f g = (2, []) := by unfold L5; rw [if_pos hfr]
  refine Ki ?_; refine Bg f_ rfl A7 A7 (none, 0) (by rw [hg]; (conv => lhs; whnf; rw [h8]); rfl) (fun w hs => by rw [hg]; exact ((hs.l7).bare.C7 2 107))
 ·have hfr : ¬ (Ab f && Ab g) = false := by cases hq : Ab f <;> cases hq2 : Ab g <;> simp [hq, hq2] at h12 ⊢
  have hlf : f.length ≤ 64 := by simp at hfr; exact Hr hfr.1
  have hlg : g.length ≤ 64 := by simp at hfr; exact Hr hfr.2
  have hg2 : L5 f g = Gz f g := by unfold L5; rw [if_neg hfr]
  refine Qc ?_; obtain ⟨r1, hr1⟩ : ∃ q9 : EL, q9 = Gz f g := ⟨_, rfl⟩; refine q0 rfl (A0 call205 (Spec.Ox hr1 (D2k f a_f g a_g A4 A4)) (fun x16 => ?_)); refine Ik ?_; have hg := hg2.trans hr1.symm; refine Bg f_ rfl A7 A7 x16 (by rw [hg]; rfl) (fun w hs => by rw [hg]; exact (hs.l7))
theorem B1p (f : List Cl) (a_f : SH) (g : List Cl) (a_g : SH)  : Spec prog 175 #[sl a_f (f.length), sl a_g (g.length)] [CL f a_f, CL g a_g] [] (fun x : SH => .tuple #[sl x (E6 f g).2.length, iv (E6 f g).1]) (fun x : SH => []) (fun x : SH => [Am 2 107 x (E6 f g).2.length (A5 (E6 f g).2)]) := by
 refine D7 ntmps175 fun B hB => ?_
 refine A6 (l := f) (a := a_f) (fun hl1 hA1 hU1 => ?_); refine A6 (l := g) (a := a_g) (fun hl2 hA2 hU2 => ?_); refine F8 ?_; refine Hd ?_; refine Dd ?_; refine q0 rfl (Nj fun b9 => ?_); refine Ao (fun w hs => (hs.A0p hB Dz Dz)) ?_; refine q0 rfl (A0 call242 (Vp [(f, a_f), (g, a_g)] (some ⟨b9, 0, none⟩, 2)) (fun x10 => ?_)); refine Mh ?_; refine Cz (decide ((if [(f, a_f), (g, a_g)].all (fun p => A8 p.1) then (0 : Int) else 2) ≠ 0)) (fun h12 c12 => ?_) (fun h12 c12 => ?_)
 ·have hfr : (A8 f && A8 g) = false := by cases hq : A8 f <;> cases hq2 : A8 g <;> simp [hq, hq2] at h12 ⊢
  have h8 : (if [(f, a_f), (g, a_g)].all (fun p => A8 p.1) then (0 : Int) else 2) = 2 := by cases hq : A8 f <;> cases hq2 : A8 g <;> simp [hq, hq2] at h12 ⊢
  have hg : E6 f g = (2, []) := by unfold E6; rw [if_pos hfr]
  refine Ki ?_; refine Bg f_ rfl A7 A7 (none, 0) (by rw [hg]; (conv => lhs; whnf; rw [h8]); rfl) (fun w hs => by rw [hg]; exact ((hs.l7).bare.C7 2 107))
 ·have hfr : ¬ (A8 f && A8 g) = false := by cases hq : A8 f <;> cases hq2 : A8 g <;> simp [hq, hq2] at h12 ⊢
  have hlf : f.length ≤ 64 := by simp at hfr; exact Hr (Ep hfr.1).1
  have hlg : g.length ≤ 64 := by simp at hfr; exact Hr (Ep hfr.2).1
  have hg2 : E6 f g = L2 f g := (Ke (by simp at hfr; exact hfr.1) (by simp at hfr; exact hfr.2)); refine Qc ?_; obtain ⟨r1, hr1⟩ : ∃ q9 : EL, q9 = L2 f g := ⟨_, rfl⟩; refine q0 rfl (A0 call236 (Spec.Ox hr1 (C9z f a_f g a_g A4 A4)) (fun x16 => ?_)); refine Ik ?_; have hg := hg2.trans hr1.symm; refine Bg f_ rfl A7 A7 x16 (by rw [hg]; rfl) (fun w hs => by rw [hg]; exact (hs.l7))
def U7 : Tys := ⟨107, 26, 77⟩
theorem W0 (l : List Cl) (a : SH) : Spec prog 139 #[sl a l.length] [CL l a] [] (fun x : SH => sl x l.length) (fun x => [CL l x]) (fun _ => []) := by
 refine D7 ntmps139 fun B hB => ?_
 refine A6 (l := l) (a := a) (fun hl1 hA1 hU1 => ?_); refine Ca ?_; refine Hd ?_; refine q0 rfl (C2t ?_); refine Jv ?_; refine A1 (fun h4 => ?_) (fun h4 => ?_)
 ·refine Ca ?_; have hl : l = [] := by (rcases Nat.eq_zero_or_pos l.length with h | h; exact List.eq_nil_of_length_eq_zero h; obtain ⟨bk, o, hav⟩ := hA1 h; rw [hav] at h4; cases h4)
  subst hl; refine An f_ rfl A7 (none, 0) rfl (fun w hs => (hs.P7 0).l8)
 ·refine H4 ?_; refine B1 ?_; refine q0 rfl (A8d fun b5 => ?_); refine Dd ?_; refine Ao (fun w hs => hs.Ib (sz := 2) (m := 0) rfl Ii) ?_; refine q0 rfl (Lt (fun a7 => ?_) (by exact List.mem_cons_self)); refine Cg ?_; have e0 : 0 + l.length = l.length := by omega
  rw [e0]; refine An f_ rfl A7 a7 rfl (fun w hs => ((hs.D4 hB Cq A4 (by unfold reach at *; omega) hU1).l8))
abbrev A9w (t : T) : Prop := ∀ vr vk vs, Spec prog 76 #[.agg (tc t vr vk vs).toArray] [RT t vr vk vs] [] (fun x : SH × SH × SH => .agg (tc t x.1 x.2.1 x.2.2).toArray) (fun x => [RT t x.1 x.2.1 x.2.2]) (fun _ => [])
theorem Tf (ts : List T) (a : SH) (ih : ∀ t, t ∈ ts → A9w t) : Spec prog 140 #[sl a ts.length] [TL ts a] [] (fun x : SH => sl x ts.length) (fun x => [TL ts x]) (fun _ => []) := by
 refine D7 ntmps140 fun B hB => ?_
 refine Av (ts := ts) (a := a) (fun VR VK VS hl1 hA1 => ?_); refine Ca ?_; refine N6 ?_; refine Dl (X := Nat × SH × List TP) (fun s => s.1 ≤ ts.length ∧ s.2.2.length = s.1 ∧ s.2.2.map (·.1) = ts.take s.1) (fun s => [(3, sl s.2.1 s.1), (6, sl a ts.length), (7, iv (ts.length : Int)), (8, iv (s.1 : Int))]) (fun s => [AP s.2.2, TLx ts a VR VK VS]) (fun s => [Am 6 26 s.2.1 s.1 (C0 s.2.2)]) (fun s => ts.length - s.1) ((0, (none, 0), [])) (⟨Nat.zero_le _, rfl, rfl⟩) (by exact Dr) ?_ ?_
 ·exact fun w hs => ((hs.C7 6 26).Rn).l9
 ·intro ⟨i, a3, ps⟩ base0 ⟨hi, hpl, hpm⟩ next0; dsimp only at hi hpl hpm next0 ⊢; refine Ds ?_; refine A1 (fun h9 => ?_) (fun h9 => ?_)
  ·have hlt : i < ts.length := by have := of_decide_eq_true h9; omega
   obtain ⟨bk, o, hav⟩ := hA1 A4; refine Fi (ts := ts) (a := a) (VR := VR) (VK := VK) (VS := VS) i hlt ?_; refine Fk ?_; refine Ot ?_; refine Oq ?_; refine q0 rfl (B3 fun b5 => ?_); refine Er ?_; refine D9 ?_; refine Fl ?_; refine q0 rfl (A0 call76 (ih _ (Ad hlt) (VR i) (VK i) (VS i)) (fun x14 => ?_)); refine q0 rfl (Dp fun b15 => ?_); refine q0 rfl (F4 (fun a16 => ?_)  ); refine Mj ?_; refine A2 (fun w hs => ?_) (next0 (i + 1, a16, ps ++ [(ts.getD i t0, x14)]) _ ⟨hlt, by simp [hpl], by simp only [List.map_append, List.map_cons, List.map_nil, hpm]; exact (Ac hlt).symm⟩ (by simp only; omega) Dr); have h1 := hs.Pg (ps := ps) (t := ts.getD i t0) (vr := x14.1) (vk := x14.2.1) (vs := x14.2.2) Cq Cq; have e1 : C0 (ps ++ [(ts.getD i t0, x14)]) = C0 ps ++ tc (ts.getD i t0) x14.1 x14.2.1 x14.2.2 := by simp [C0, Fw]
   rw [e1]; exact (h1.l9).Bv (A := [_])
  ·have hge : i = ts.length := by have := of_decide_eq_false h9; omega
   refine Ef ?_; refine Ic ?_; have hm2 : ps.map (·.1) = ts := by rw [hpm, hge, List.take_length]
   rw [hge]; refine An f_ rfl A7 a3 rfl (fun w hs => (hs.Gw hB Cq rfl hm2 A4 (by unfold reach at *; omega)).l8)
theorem B5h (t : T) (ih : ∀ p, p ∈ parts t → A9w p.1) (vr vk vs : SH) : Spec prog 76 #[.agg (tc t vr vk vs).toArray] [RT t vr vk vs] [] (fun x : SH × SH × SH => .agg (tc t x.1 x.2.1 x.2.2).toArray) (fun x => [RT t x.1 x.2.1 x.2.2]) (fun _ => []) := by
 refine D7 ntmps76 fun B hB => ?_
 refine go_open (t := t) (vr := vr) (vk := vk) (vs := vs) (fun hk hn hnm => ?_); refine En (bs := t.sys) (a := vs) (fun VF VK hl1 hA1 => ?_); refine B1 ?_; refine q0 rfl (Ax fun b1 => ?_); refine q0 rfl (B3 fun b2 => ?_); refine A2c ?_; refine Cc (pn := 1000000) (tn := false) (A := [0, 1, 0, 4, 0, 16, 0, 64, 192, 0, 512, 1984, 4095, 0, 16383]) (l := [0, 1, 2, 3, 4, 5, 6, 7, 9, 10, 8, 11, 12, 13]) (fin := [14]) Tab.mixed ⟨_, func76⟩ (by rfl) ?_; refine Gb ?_; refine Gb ?_; refine Gb ?_; refine Gb ?_; refine Gb ?_; refine n0 rfl (Bo call139 (W0 t.r vr) (fun x14 => ?_)); refine n0 rfl (Bo call140 (Tf t.kids vk (fun k hk => (by obtain ⟨p, hp, e⟩ := G8 hk; exact e ▸ ih p hp))) (fun x17 => ?_)); refine n0 rfl (Zj (cs := [iv t.kind, iv t.n, .string t.name, sl x14 t.r.length, sl x17 t.kids.length, .slice none 0 0]) ?_); refine n0 rfl (B6a fun b3 => ?_); refine B2n ?_; refine Ko ?_; refine J9 ?_; refine Dl (X := Nat × SH × List BP) (fun s => s.1 ≤ t.sys.length ∧ s.2.2.length = s.1 ∧ s.2.2.map (·.1) = t.sys.take s.1) (fun s => [(2, pz b2), (3, pz b3), (20, sl vs t.sys.length), (21, iv (t.sys.length : Int)), (22, iv (s.1 : Int))]) (fun s => [BPs s.2.2, BLx t.sys vs VF VK, CL t.r x14, TL t.kids x17]) (fun s => [Af b3 [iv t.kind, iv t.n, .string t.name, sl x14 t.r.length, sl x17 t.kids.length, sl s.2.1 s.1] 26, Am 2 77 s.2.1 s.1 (F5 s.2.2), Af b2 [iv 0, iv 0, .string ⟨#[]⟩, .slice none 0 0, .slice none 0 0, .slice none 0 0] 26]) (fun s => t.sys.length - s.1) ((0, (none, 0), [])) (⟨Nat.zero_le _, rfl, rfl⟩) (by exact Dr) ?_ ?_
 ·exact fun w hs => (((hs.C7 2 77).C0o).l9).perm Au |>.Bv (A := [_, _, _])
 ·intro ⟨i, a3, ps⟩ base0 ⟨hi, hpl, hpm⟩ next0; dsimp only at hi hpl hpm next0 ⊢; refine Ds ?_; refine A1 (fun h23 => ?_) (fun h23 => ?_)
  ·have hlt : i < t.sys.length := by have := of_decide_eq_true h23; omega
   obtain ⟨bk, o, hav⟩ := hA1 A4; refine Fk ?_; refine Ot ?_; refine B2m ?_; refine q0 rfl (B3 fun b5 => ?_); refine Er ?_; refine Fx (bs := t.sys) (a := vs) (VF := VF) (VK := VK) i hlt ?_; refine Cc (pn := 1000000) (tn := false) (A := [0, 1, 0, 4, 12, 0, 32, 124, 252, 508, 1023, 2047, 4095]) (l := [0, 1, 2, 3, 5, 6, 4, 7, 8, 9]) (fin := [10, 11, 12]) Tab.mixed ⟨_, func76⟩ (by rfl) ?_; refine Gb ?_; refine Gb ?_; refine Gb ?_; refine n0 rfl (Bo call139 (W0 (t.sys.getD i Bd).Ay (VF i)) (fun x30 => ?_)); refine n0 rfl (Bo call140 (Tf (t.sys.getD i Bd).kids (VK i) (fun k hk => (by obtain ⟨p, hp, e⟩ := G6 (Ad hlt) hk; exact e ▸ ih p hp))) (fun x33 => ?_)); refine n0 rfl (Zj (cs := bc (t.sys.getD i Bd) x30 x33) ?_); refine n0 rfl (A7b fun b35 => ?_); refine B2n ?_; refine q0 rfl (F4 (fun a36 => ?_)  ); refine zq8 ?_; refine Qe ?_; refine Rr ?_; refine A2 (fun w hs => ?_) (next0 (i + 1, a36, ps ++ [(t.sys.getD i Bd, x30, x33)]) _ ⟨hlt, by simp [hpl], by simp only [List.map_append, List.map_cons, List.map_nil, hpm]; exact (Ac hlt).symm⟩ (by simp only; omega) Dr); have h1 := hs.C0p (ps := ps) (f := (t.sys.getD i Bd).Ay) (ks := (t.sys.getD i Bd).kids) (vf := x30) (vk := x33) Cq Cq Cq; rw [Br.eta] at h1; have e1 : F5 (ps ++ [(t.sys.getD i Bd, x30, x33)]) = F5 ps ++ bc (t.sys.getD i Bd) x30 x33 := by simp [F5, H0]
   rw [e1]; have h2 := h1.less (Γ' := [BPs (ps ++ [(t.sys.getD i Bd, x30, x33)]), BLx t.sys vs VF VK, CL t.r x14, TL t.kids x17]) sx_; exact ((h2.perm (Fa.trans (Bj.trans Bj))).Bv (A := [_, _, _]))
  ·have hge : i = t.sys.length := by have := of_decide_eq_false h23; omega
   refine Ef ?_; refine Fu ?_; refine Er ?_; have hm2 : ps.map (·.1) = t.sys := by rw [hpm, hge, List.take_length]
   refine A0a f_ rfl (x14, x17, a3) rfl Dz rfl rfl rfl (by simp only [tc, hge]; rfl) (fun w hs => ?_); have h2 := (hs.perm Bj).Uj hB Cq rfl hm2 A4 (by unfold reach at *; omega); have h3 := h2.A4d hk hn hnm (r := t.r) (vr := x14) (ks := t.kids) (vk := x17) (ss := t.sys) (vs := a3) Cq Cq Cq; rw [T.eta] at h3; exact (h3.bare).l8
theorem B5i : ∀ t : T, A9w t := T.ind fun t ih vr vk vs => B5h t ih vr vk vs
theorem Bt {n : Int} (h : 0 ≤ n) (h2 : n ≤ 1000) : Ap n := by unfold Ap; omega
end Go.Hy
