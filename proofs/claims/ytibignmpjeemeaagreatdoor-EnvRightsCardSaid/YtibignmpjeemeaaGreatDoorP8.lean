/- Contracts of this program's functions and the laws that they need. -/
import Derived.Tactics2
import Derived.Shelf.SlSortCmp.NoneTotal
import Derived.Test.YtibignmpjeemeaaGreatDoorP7
set_option linter.unusedVariables false
set_option linter.unusedSimpArgs false
set_option linter.unusedSectionVars false
namespace Go.Hy
open Go.Proofs Go.Proofs.Tryz
set_option maxRecDepth 100000
theorem C3g (c : Cl) (hc : u32 c) : Spec prog 207 #[Ei c] [] [] (fun _ : Unit => .bool ((B3 c))) (fun _ => []) (fun _ => []) := by
 refine Cp ntmps207 fun B hB => ?_
 have hc1 := hc.1; have hc2 := hc.2; refine Ax ?_; refine q0 rfl (Au fun b1 => ?_); refine Fm ?_; refine Aq ([(2, .bool ((decide (((c).pos) < 16777216)) && (decide (((c).neg) < 16777216))))]) (fun hK => ?_) (fun base => ?_)
 ·refine Fs ?_; refine q0 rfl (A0 call259 (B0q ((c).pos) Hx) (fun x5 => ?_)); refine En ?_; refine I6 rfl ((decide (((c).pos) < 16777216))) (fun hg6 g6 => ?_) (fun hg6 g6 => ?_)
  ·refine H0 ?_; refine qT rfl rfl rfl (A0 call259 (B0q ((c).neg) Hx) (fun x9 => ?_)); refine Eg ?_; exact hK _ ⟨(by first | rfl | ((conv => lhs; whnf); first | (simp_all [B3]; done) | (simp_all [B3]; omega))), trivial⟩
  ·refine P2 ?_; exact hK _ ⟨(by first | rfl | ((conv => lhs; whnf); first | (simp_all [B3]; done) | (simp_all [B3]; omega))), trivial⟩
 ·refine Ad f_ rfl A4 () (by first | rfl | (simp_all [B3]; done) | (simp_all [B3]; omega)) (fun w hs => hs.none)
theorem C7v (c : Cl) (d : Cl) (hc : u32 c) (hd : u32 d) : Spec prog 260 #[Ei c, Ei d] [] [] (fun _ : Unit => .bool ((below c d))) (fun _ => []) (fun _ => []) := by
 refine Cp ntmps260 fun B hB => ?_
 have hc1 := hc.1; have hc2 := hc.2; have hd1 := hd.1; have hd2 := hd.2; refine Ax ?_; refine q0 rfl (Au fun b2 => ?_); refine q0 rfl (Au fun b3 => ?_); refine Fm ?_; refine Aq ([(4, .bool ((decide ((((c).pos) ||| ((d).pos)) = ((c).pos))) && (decide ((((c).neg) ||| ((d).neg)) = ((c).neg)))))]) (fun hK => ?_) (fun base => ?_)
 ·refine Fs ?_; refine Gz ?_; refine q0 rfl (Kh ?_ (a := ((c).pos)) (b := ((d).pos))); refine Gz ?_; refine q0 rfl (B9l ?_ (a := (((c).pos) ||| ((d).pos))) (b := ((c).pos))); refine En ?_; refine I6 rfl (decide ((((c).pos) ||| ((d).pos)) = ((c).pos))) (fun hg13 g13 => ?_) (fun hg13 g13 => ?_)
  ·refine H0 ?_; refine Na ?_; refine qT rfl rfl rfl (Kh ?_ (a := ((c).neg)) (b := ((d).neg))); refine Na ?_; refine qT rfl rfl rfl (B9l ?_ (a := (((c).neg) ||| ((d).neg))) (b := ((c).neg))); refine Eg ?_; exact hK _ ⟨(by first | rfl | ((conv => lhs; whnf); first | (simp_all [below]; done) | (simp_all [below]; omega))), trivial⟩
  ·refine Iw ?_; refine Ew ?_; refine Gu ?_; exact hK _ ⟨(by first | rfl | ((conv => lhs; whnf); first | (simp_all [below]; done) | (simp_all [below]; omega))), trivial⟩
 ·refine Ad f_ rfl A4 () (by first | rfl | (simp_all [below]; done) | (simp_all [below]; omega)) (fun w hs => hs.none)
theorem D2x (c : Cl) (d : Cl) (hc : u32 c) (hd : u32 d) : Spec prog 209 #[Ei c, Ei d] [] [] (fun _ : Unit => .bool ((C0 c d))) (fun _ => []) (fun _ => []) := by
 refine Cp ntmps209 fun B hB => ?_
 have hc1 := hc.1; have hc2 := hc.2; have hd1 := hd.1; have hd2 := hd.2; refine Ax ?_; refine q0 rfl (Au fun b2 => ?_); refine q0 rfl (Au fun b3 => ?_); refine Fm ?_; refine Aq ([(4, .bool ((decide (((c).pos) < ((d).pos))) || ((decide (((c).pos) = ((d).pos))) && (decide (((c).neg) < ((d).neg))))))]) (fun hK => ?_) (fun base => ?_)
 ·refine Fs ?_; refine Gz ?_; refine q0 rfl (B9g ?_ (a := ((c).pos)) (b := ((d).pos))); refine En ?_; refine I6 rfl (decide (((c).pos) < ((d).pos))) (fun hg10 g10 => ?_) (fun hg10 g10 => ?_)
  ·refine H0 ?_; refine Na ?_; refine qT rfl rfl rfl (B9l ?_ (a := ((c).pos)) (b := ((d).pos))); refine D1 ?_; refine I6 rfl (decide (((c).pos) = ((d).pos))) (fun hg16 g16 => ?_) (fun hg16 g16 => ?_)
   ·refine H0 ?_; refine Na ?_; refine qT rfl rfl rfl (B9g ?_ (a := ((c).neg)) (b := ((d).neg))); refine Pg ?_; refine Gu ?_; exact hK _ ⟨(by first | rfl | ((conv => lhs; whnf); first | (simp_all [C0]; done) | (simp_all [C0]; omega))), trivial⟩
   ·refine Iw ?_; refine Rz ?_; refine Gu ?_; exact hK _ ⟨(by first | rfl | ((conv => lhs; whnf); first | (simp_all [C0]; done) | (simp_all [C0]; omega))), trivial⟩
  ·refine Fp ?_; refine Ew ?_; refine Qn ?_; refine Qn ?_; refine C2t ?_; refine U3 ?_; refine Eg ?_; exact hK _ ⟨(by first | rfl | ((conv => lhs; whnf); first | (simp_all [C0]; done) | (simp_all [C0]; omega))), trivial⟩
 ·refine Ad f_ rfl A4 () (by first | rfl | (simp_all [C0]; done) | (simp_all [C0]; omega)) (fun w hs => hs.none)
theorem A3s (c : Cl) (hc : u32 c) : Spec prog 245 #[Ei c] [] [] (fun _ : Unit => .bool ((Pq c))) (fun _ => []) (fun _ => []) := by
 refine Cp ntmps245 fun B hB => ?_
 have hc1 := hc.1; have hc2 := hc.2; refine Ax ?_; refine q0 rfl (Au fun b1 => ?_); refine Fm ?_; refine Jb ?_; refine Aj (X := Nat) (fun s_ => s_ ≤ 24 ∧ ∀ j, j < s_ → (H7 c.pos (j : Int) && H7 c.neg (j : Int)) = false) (fun s_ => [(1, pz b1), (3, iv ((s_ : Int)))]) (fun s_ G_ => G_) (fun s_ => [Aa b1 (Ak c) 107]) (fun s_ => 24 - s_) (0) (⟨by omega, fun j hj => by omega⟩) (by exact Cm) ?_ ?_
 ·exact fun w hs => hs
 ·intro i base0 ⟨hi, hok⟩ next0; refine Hc ?_; refine Tv ?_; refine Bu (decide ((i : Int) < 24)) (fun h5 c5 => ?_) (fun h5 c5 => ?_)
  ·refine Eu ?_; refine Aq ([(1, pz b1), (3, iv ((i : Int))), (17, .bool ((H7 ((c).pos) (i : Int)) && (H7 ((c).neg) (i : Int))))]) (fun hK => ?_) (fun base => ?_)
   ·refine Oy ?_; refine q0 rfl (A0 call210 (B7x ((c).pos) (i : Int) Hx) (fun x11 => ?_)); refine En ?_; refine I6 rfl ((H7 ((c).pos) (i : Int))) (fun hg12 g12 => ?_) (fun hg12 g12 => ?_)
    ·refine H0 ?_; refine D1 ?_; refine qT rfl rfl rfl (A0 call210 (B7x ((c).neg) (i : Int) Hx) (fun x16 => ?_)); refine Fo ?_; exact hK _ ⟨rfl, rfl, E6, trivial⟩
    ·refine Ew ?_; refine Dp ?_; exact hK _ ⟨rfl, rfl, E6, trivial⟩
   ·refine Bu ((H7 ((c).pos) (i : Int)) && (H7 ((c).neg) (i : Int))) (fun h17 c17 => ?_) (fun h17 c17 => ?_)
    ·refine B9 ?_; have hb : (H7 c.pos (i : Int) && H7 c.neg (i : Int)) = true := by simpa using h17
     refine Ad f_ rfl A4 () (by rw [Pq, List.any_eq_true.mpr ⟨i, List.mem_range.mpr A2, hb⟩]) (fun w hs => hs.none)
    ·refine Hf ?_; have hb : (H7 c.pos (i : Int) && H7 c.neg (i : Int)) = false := by simpa using h17
     refine A1 (fun w hs => ?_) (next0 (i + 1) _ (⟨by omega, Gd hok hb⟩) A2 Cm); exact (hs.l9)
  ·refine H3 ?_; refine Ad f_ rfl A4 () (by rw [Pq, List.any_eq_false.mpr (fun j hj => by rw [hok j (by have := List.mem_range.mp hj; omega)]; decide)]) (fun w hs => hs.none)
theorem Ti (l : List Cl) (c : Cl) : Bw l c = l.any fun d => !decide (d = c) && below c d := by
 unfold Bw; congr 1; funext d; rw [show (decide (c = d)) = decide (d = c) from decide_eq_decide.mpr eq_comm]
theorem C3d (l : List Cl) (a_l : SH) (c : Cl) (hc : u32 c) : Spec prog 208 #[sl a_l (l.length), Ei c] [CL l a_l] [] (fun _ : Unit => .bool ((!Bw l c))) (fun _ => []) (fun _ => []) := by
 refine Cp ntmps208 fun B hB => ?_
 refine A5 (l := l) (a := a_l) (fun hl1 hA1 hU1 => ?_); have hc1 := hc.1; have hc2 := hc.2; refine Ax ?_; refine q0 rfl (Au fun b3 => ?_); refine Fm ?_; refine Jb ?_; refine Aj (X := Nat) (fun s_ => s_ ≤ l.length ∧ ∀ j, j < s_ → (!decide (l.getD j B8 = c) && below c (l.getD j B8)) = false) (fun s_ => [(0, sl a_l (l.length)), (3, pz b3), (5, iv ((s_ : Int)))]) (fun s_ G_ => G_) (fun s_ => [Aa b3 (Ak c) 107]) (fun s_ => l.length - s_) (0) (⟨by omega, fun j hj => by omega⟩) (by exact Cm) ?_ ?_
 ·exact fun w hs => hs
 ·intro i base0 ⟨hi, hok⟩ next0; refine Ja ?_; refine Nc ?_; refine Bu (decide ((i : Int) < (l.length : Int))) (fun h9 c9 => ?_) (fun h9 c9 => ?_)
  ·have hu := hU1 _ (A9 (d := B8) (show i < l.length by omega)); have hu1 := hu.1; have hu2 := hu.2; refine Eu ?_; refine Aq ([(0, sl a_l (l.length)), (3, pz b3), (5, iv ((i : Int))), (25, .bool ((!decide ((l.getD i B8) = c)) && (below c (l.getD i B8))))]) (fun hK => ?_) (fun base => ?_)
   ·refine Bo (pn := 1000000) (tn := false) (A := [0, 0, 3, 7, 0, 31, 63, 127, 127, 127, 895, 1919, 4095, 8191]) (l := [0, 1, 2, 3, 4, 5, 6, 7, 8, 9, 10, 11, 12, 13]) (fin := []) Tab.mixed ⟨_, func208⟩ (by rfl) ?_; refine G1 ?_; obtain ⟨bk2, o2, hav2⟩ := hA1 A2; refine n0 rfl (F8 ?_ (j := i)); refine n0 rfl (P6 ?_); refine Mv ?_; refine n0 rfl (B0i ?_ (c := (l.getD i B8)) (c' := c)); refine G9 ?_; refine nI rfl rfl rfl Ex (fun hg18 => ?_) (fun hg18 => ?_)
    ·have g18 := Ry (p := (!decide ((l.getD i B8) = c)) = true) hg18; refine Xu ?_; refine Jh ?_; refine Jh ?_; refine nT rfl rfl rfl (F8 ?_ (j := i)); refine nT rfl rfl rfl (P6 ?_); refine nT rfl rfl rfl (B6 call260 (C7v c (l.getD i B8) Hx Hx) (fun x24 => ?_)); refine Q9 ?_; refine Q8 ?_; exact hK _ ⟨rfl, rfl, rfl, E6, trivial⟩
    ·have g18 := Ry (p := (!decide ((l.getD i B8) = c)) = false) hg18; refine H2 ?_; refine zq9 ?_; refine I9 ?_; exact hK _ ⟨rfl, rfl, rfl, E6, trivial⟩
   ·refine Bu ((!decide ((l.getD i B8) = c)) && (below c (l.getD i B8))) (fun h25 c25 => ?_) (fun h25 c25 => ?_)
    ·refine B9 ?_; have hb : (!decide (l.getD i B8 = c) && below c (l.getD i B8)) = true := by simpa using h25
     refine Ad f_ rfl A4 () (by rw [Ti, Tt (d := B8) (i := i) A2 hb]; rfl) (fun w hs => hs.none)
    ·refine Hf ?_; have hb : (!decide (l.getD i B8 = c) && below c (l.getD i B8)) = false := by simpa using h25
     refine A1 (fun w hs => ?_) (next0 (i + 1) _ (⟨by omega, Gd hok hb⟩) A2 Cm); exact (hs.l9)
  ·refine H3 ?_; refine Ad f_ rfl A4 () (by rw [Ti, Rv (d := B8) (fun j hj => hok j A2)]; rfl) (fun w hs => hs.none)
theorem A0e (l : List Cl) (a_l : SH) (m : List Cl) (a_m : SH)  : Spec prog 31 #[sl a_l (l.length), sl a_m (m.length)] [CL l a_l, CL m a_m] [] (fun _ : Unit => .bool ((decide (l = m)))) (fun _ => []) (fun _ => []) := by
 refine Cp ntmps31 fun B hB => ?_
 refine A5 (l := l) (a := a_l) (fun hl1 hA1 hU1 => ?_); refine A5 (l := m) (a := a_m) (fun hl2 hA2 hU2 => ?_); refine B9 ?_; refine Hc ?_; refine Gk ?_; refine En ?_; refine Gk ?_; refine A2m ?_; refine Bu (decide ((l.length : Int) ≠ (m.length : Int))) (fun h10 c10 => ?_) (fun h10 c10 => ?_)
 ·have hne : ¬ l = m := fun e => by subst e; simp at h10
  refine B9 ?_; refine Ad f_ rfl A4 () (by rw [decide_eq_false hne]) (fun w hs => hs.none)
 ·have hlen : l.length = m.length := by simp at h10; omega
  refine Ho ?_; refine Jb ?_; refine Aj (X := Nat) (fun s_ => s_ ≤ l.length ∧ ∀ j, j < s_ → l.getD j B8 = m.getD j B8) (fun s_ => [(0, sl a_l (l.length)), (1, sl a_m (m.length)), (5, iv ((s_ : Int)))]) (fun s_ G_ => G_) (fun s_ => []) (fun s_ => l.length - s_) (0) (⟨by omega, fun j hj => by omega⟩) (by exact Cm) ?_ ?_
  ·exact fun w hs => hs
  ·intro i base0 ⟨hi, hok⟩ next0; refine Ja ?_; refine Nc ?_; refine Bu (decide ((i : Int) < (l.length : Int))) (fun h14 c14 => ?_) (fun h14 c14 => ?_)
   ·refine Eu ?_; refine Bo (pn := 1000000) (tn := false) (A := [0, 0, 3, 7, 0, 0, 48, 112, 255]) (l := [0, 1, 2, 3, 4, 5, 6, 7, 8]) (fin := []) Tab.mixed ⟨_, func31⟩ (by rfl) ?_; refine G1 ?_; obtain ⟨bk3, o3, hav3⟩ := hA1 A2; refine n0 rfl (F8 ?_ (j := i)); refine n0 rfl (P6 ?_); refine G1 ?_; obtain ⟨bk4, o4, hav4⟩ := hA2 A2; refine n0 rfl (F8 ?_ (j := i)); refine n0 rfl (P6 ?_); refine n0 rfl (B0i ?_ (c := (l.getD i B8)) (c' := (m.getD i B8))); refine Q8 ?_; refine Bu (!decide ((l.getD i B8) = (m.getD i B8))) (fun h25 c25 => ?_) (fun h25 c25 => ?_)
    ·refine B9 ?_; refine Ad f_ rfl A4 () (by rw [decide_eq_false (fun e => by subst e; simp at h25)]) (fun w hs => hs.none)
    ·refine Hf ?_; have hb : l.getD i B8 = m.getD i B8 := by simpa using h25
     refine A1 (fun w hs => ?_) (next0 (i + 1) _ (⟨by omega, Gd hok hb⟩) A2 Cm); exact (hs.l9)
   ·refine H3 ?_; refine Ad f_ rfl A4 () (by rw [decide_eq_true (M9 hlen (fun j hj => hok j A2))]) (fun w hs => hs.none)
theorem C7p (l : List Cl) (a_l : SH)  : Spec prog 125 #[sl a_l (l.length)] [CL l a_l] [] (fun x : SH => .tuple #[sl x (Bc l).2.length, iv (Bc l).1]) (fun x : SH => [CL (Bc l).2 x]) (fun x : SH => []) := by
 refine Cp ntmps125 fun B hB => ?_
 refine A5 (l := l) (a := a_l) (fun hl1 hA1 hU1 => ?_); refine Db ?_; refine I8 ?_; refine Aj (X := Nat) (fun s_ => s_ ≤ l.length ∧ ∀ j, j < s_ → B3 (l.getD j B8) = true) (fun s_ => [(0, sl a_l (l.length)), (4, iv ((s_ : Int)))]) (fun s_ G_ => G_) (fun s_ => []) (fun s_ => l.length - s_) (0) (⟨by omega, fun j hj => by omega⟩) (by exact Cm) ?_ ?_
 ·exact fun w hs => hs
 ·intro i base0 ⟨hi, hok⟩ next0; refine Ja ?_; refine Nc ?_; refine Bu (decide ((i : Int) < (l.length : Int))) (fun h11 c11 => ?_) (fun h11 c11 => ?_)
  ·have hu := hU1 _ (A9 (d := B8) (show i < l.length by omega)); have hu1 := hu.1; have hu2 := hu.2; refine Hn ?_; refine Hg ?_; obtain ⟨bk2, o2, hav2⟩ := hA1 A2; refine q0 rfl (Cq ?_ (j := i)); refine On ?_; refine q0 rfl (A0 call207 (C3g (l.getD i B8) Hx) (fun x18 => ?_)); refine Fq ?_; refine Bu (!(B3 (l.getD i B8))) (fun h19 c19 => ?_) (fun h19 c19 => ?_)
   ·have hlf : Bc l = (2, []) := by rw [Bc, if_pos (I2 (d := B8) (i := i) A2 (by simpa using h19))]
    refine Db ?_; refine B1 f_ rfl A4 A4 (none, 0) (by rw [hlf]; rfl) (fun w hs => by rw [hlf]; exact (hs.Mp 0).bare.l8)
   ·refine Hf ?_; have hb : B3 (l.getD i B8) = true := by simpa using h19
    refine A1 (fun w hs => ?_) (next0 (i + 1) _ (⟨by omega, Gd hok hb⟩) A2 Cm); exact (hs.l9)
  ·have hall : l.all B3 = true := J4 (d := B8) (fun j hj => hok j A2); refine H3 ?_; refine I8 ?_; refine Aj (X := Nat × SH) (fun s_ => s_.1 ≤ l.length) (fun s_ => [(0, sl a_l (l.length)), (5, sl s_.2 (((Ct l s_.1)).length)), (6, iv ((s_.1 : Int)))]) (fun s_ G_ => CL (Ct l s_.1) s_.2 :: G_) (fun s_ => []) (fun s_ => l.length - s_.1) (0, (none, 0)) A2 (by exact ⟨rfl, (by rw [Y9]; rfl), rfl, trivial⟩) ?_ ?_
   ·exact fun w hs => by rw [Y9]; exact hs.Mp 0
   ·intro ⟨i, a⟩ base1 hi1 next1; dsimp only at hi1 next1 ⊢; refine A5 (l := (Ct l i)) (a := a) (fun hl3 hA3 hU3 => ?_); have hrl := A3p l i; refine Ja ?_; refine Nc ?_; refine Bu (decide ((i : Int) < (l.length : Int))) (fun h23 c23 => ?_) (fun h23 c23 => ?_)
    ·have hu := hU1 _ (A9 (d := B8) (show i < l.length by omega)); have hu1 := hu.1; have hu2 := hu.2; refine Hn ?_; refine Hc ?_; refine F7 ?_; obtain ⟨bk4, o4, hav4⟩ := hA1 A2; refine q0 rfl (Cq ?_ (j := i)); refine On ?_; refine q0 rfl (A0 call208 (C3d l a_l (l.getD i B8) Hx) (fun x31 => ?_)); refine Fq ?_; refine Bu (!(!Bw l (l.getD i B8))) (fun h32 c32 => ?_) (fun h32 c32 => ?_)
     ·refine D2 ?_; refine B0b ?_; have hnx : Ct l (i + 1) = Ct l i := by rw [S9 A2, if_pos (by simpa using h32)]
      refine A1 (fun w hs => ?_) (next1 (i + 1, a) _ A2 (by (try simp only); omega) ⟨rfl, (by (conv => lhs; whnf); simp [sl, hnx]), rfl, trivial⟩); rw [hnx]; exact (hs.l9)
     ·refine Ga ?_; refine B9 ?_; refine Ec ?_; refine Zj ?_; refine Aj (X := Nat) (fun s_ => s_ ≤ (Ct l i).length ∧ ∀ j, j < s_ → C0 ((Ct l i).getD j B8) (l.getD i B8) = true) (fun s_ => [(0, sl a_l (l.length)), (5, sl a (((Ct l i)).length)), (6, iv ((i : Int))), (7, iv ((s_ : Int)))]) (fun s_ G_ => G_) (fun s_ => []) (fun s_ => (Ct l i).length - s_) (0) (⟨by omega, fun j hj => by omega⟩) (by exact Cm) ?_ ?_
      ·exact fun w hs => hs
      ·intro k base2 ⟨hk, hk2⟩ next2; have hvo : k < (Ct l i).length → u32 ((Ct l i).getD k B8) := fun h => hU1 _ (B0r (A9 h))
       refine Ec ?_; refine Ec ?_; refine Aq ([(0, sl a_l (l.length)), (5, sl a (((Ct l i)).length)), (6, iv ((i : Int))), (7, iv ((k : Int))), (47, .bool ((decide ((k : Int) < (((Ct l i)).length : Int))) && (C0 (((Ct l i)).getD k B8) (l.getD i B8))))]) (fun hK => ?_) (fun base => ?_)
       ·refine Bo (pn := 1000000) (tn := false) (A := [0, 0, 2, 7, 15, 31, 31, 127, 255, 31, 31, 1567, 3615, 8191, 16383]) (l := [0, 1, 2, 3, 4, 5, 6, 7, 8, 9, 10, 11, 12, 13, 14]) (fin := []) Tab.mixed ⟨_, func125⟩ (by rfl) ?_; refine G1 ?_; refine n0 rfl (Xt ?_); refine n0 rfl (D2m ?_); refine G9 ?_; refine nI rfl rfl rfl Ex (fun hg37 => ?_) (fun hg37 => ?_)
        ·have g37 := Ry (p := (decide ((k : Int) < (((Ct l i)).length : Int))) = true) hg37; refine Ue ?_; refine Jh ?_; obtain ⟨bk5, o5, hav5⟩ := hA3 A2; refine nT rfl rfl rfl (F8 ?_ (j := k)); refine nT rfl rfl rfl (P6 ?_); refine Jh ?_; refine Jh ?_; refine nT rfl rfl rfl (F8 ?_ (j := i)); refine nT rfl rfl rfl (P6 ?_); refine nT rfl rfl rfl (B6 call209 (D2x (((Ct l i)).getD k B8) (l.getD i B8) Hx Hx) (fun x46 => ?_)); refine Q9 ?_; refine Q8 ?_; exact hK _ ⟨rfl, rfl, rfl, rfl, E6, trivial⟩
        ·have g37 := Ry (p := (decide ((k : Int) < (((Ct l i)).length : Int))) = false) hg37; refine H2 ?_; refine H2 ?_; refine I9 ?_; exact hK _ ⟨rfl, rfl, rfl, rfl, E6, trivial⟩
       ·refine Bu ((decide ((k : Int) < (((Ct l i)).length : Int))) && (C0 (((Ct l i)).getD k B8) (l.getD i B8))) (fun h47 c47 => ?_) (fun h47 c47 => ?_)
        ·refine Ga ?_; refine Zj ?_; refine B0b ?_; refine A6t ?_; refine A1 (fun w hs => ?_) (next2 (k + 1) _ (⟨by omega, Gd hk2 c47.2⟩) A2 Cm); exact (hs.l9)
        ·have hlast : k < (Ct l i).length → C0 ((Ct l i).getD k B8) (l.getD i B8) = false := fun hlt => by simpa [hlt] using h47
         refine D2 ?_; refine Ec ?_; refine Aq ([(0, sl a_l (l.length)), (5, sl a (((Ct l i)).length)), (6, iv ((i : Int))), (7, iv ((k : Int))), (64, .bool ((decide ((k : Int) = (((Ct l i)).length : Int))) || (!decide ((((Ct l i)).getD k B8) = (l.getD i B8)))))]) (fun hK => ?_) (fun base => ?_)
         ·refine Bo (pn := 1000000) (tn := false) (A := [0, 0, 2, 7, 15, 31, 31, 127, 255, 31, 31, 1567, 3615, 8191, 16383]) (l := [0, 1, 2, 3, 4, 5, 6, 7, 8, 9, 10, 11, 12, 13, 14]) (fin := []) Tab.mixed ⟨_, func125⟩ (by rfl) ?_; refine G1 ?_; refine n0 rfl (Xt ?_); refine n0 rfl (B7d ?_); refine G9 ?_; refine nI rfl rfl rfl Ex (fun hg54 => ?_) (fun hg54 => ?_)
          ·have g54 := Ry (p := (decide ((k : Int) = (((Ct l i)).length : Int))) = false) hg54; refine Ue ?_; refine Jh ?_; obtain ⟨bk6, o6, hav6⟩ := hA3 A2; refine nT rfl rfl rfl (F8 ?_ (j := k)); refine nT rfl rfl rfl (P6 ?_); refine Jh ?_; refine Jh ?_; refine nT rfl rfl rfl (F8 ?_ (j := i)); refine nT rfl rfl rfl (P6 ?_); refine nT rfl rfl rfl (B0i ?_ (c := (((Ct l i)).getD k B8)) (c' := (l.getD i B8))); refine I9 ?_; exact hK _ ⟨rfl, rfl, rfl, rfl, E6, trivial⟩
          ·have g54 := Ry (p := (decide ((k : Int) = (((Ct l i)).length : Int))) = true) hg54; refine H2 ?_; refine H2 ?_; refine Q9 ?_; refine Q8 ?_; exact hK _ ⟨rfl, rfl, rfl, rfl, E6, trivial⟩
         ·refine Bu ((decide ((k : Int) = (((Ct l i)).length : Int))) || (!decide ((((Ct l i)).getD k B8) = (l.getD i B8)))) (fun h64 c64 => ?_) (fun h64 c64 => ?_)
          ·have hcase : ¬ (k < (Ct l i).length ∧ (Ct l i).getD k B8 = l.getD i B8) := by rintro ⟨h1, h2⟩; rcases c64 with h3 | h3; omega; exact h3 h2
           refine A1 (fun w hs => (hs.C7f (l := Ct l i) (a := a) k D7 A2)) ?_; refine A1 (fun w hs => (hs.D1w (l := Ct l i) (a := a) k D7 A2)) ?_; refine C8 (p := (Ct l i).length ≤ a.2) (fun w hs => hs.D6e D7) (fun hcap => ?_); have htl : ((Ct l i).take k).length = k := by simp; omega
           have hdl : ((Ct l i).drop k).length = (Ct l i).length - k := by simp
           refine Bo (pn := 1000000) (tn := true) (A := [0, 0, 0, 6, 15, 0, 0, 96, 224, 480, 1023, 0, 0, 6144, 16383, 32767]) (l := [1, 2, 3, 5, 6, 7, 8, 11, 12, 13, 0, 4, 9, 10, 14, 15]) (fin := []) Tab.mixed ⟨_, func125⟩ (by rfl) ?_; refine G1 ?_; refine n0 rfl (B3e ?_ (k := k)); refine G1 ?_; refine n0 rfl (F8 ?_ (j := i)); refine n0 rfl (D5z ?_); refine G1 ?_; refine n0 rfl (B3d ?_ (k := k) (a := a)); refine n0 rfl (C7e fun b65 => ?_); refine U6 [_] [_] (fun _ _ _ hs => hs.He (sz := 2) (m := 0) rfl Jk) ?_; refine n0 rfl (B0m (fun a69 => ?_) D7 (a := (some ⟨b65, 0, none⟩, 0)) (n' := 0) (b := a) (ls := ((Ct l i).take k)) (hy := (by rw [List.length_take, Nat.min_eq_left A2]; rfl))); refine U6 [_] [_] (fun _ _ _ hs => hs.J3 (l := []) (m := ((Ct l i).take k))) ?_; refine n0 rfl (Zq fun b74 => ?_); refine n0 rfl (C7k (fun a75 => ?_) (a := a69) (n' := 0 + ((Ct l i).take k).length)); refine U6 [_, _] [_] (fun _ _ _ hs => ((hs.perm Ao).drop).Up (c := (l.getD i B8))) ?_; refine n0 rfl (B0m (fun a79 => ?_) D7 (a := a75) (n' := 0 + ((Ct l i).take k).length + 1) (b := (Pw a 2 k)) (ls := ((Ct l i).drop k)) (hy := (by rw [List.length_drop]; rfl))); refine U6 [_] [_] (fun _ _ _ hs => hs.J3 (l := (([] ++ ((Ct l i).take k)) ++ [(l.getD i B8)])) (m := ((Ct l i).drop k))) ?_; refine Ql ?_; refine Hq ?_; have hnx : Ct l (i + 1) = (Ct l i).take k ++ [l.getD i B8] ++ (Ct l i).drop k := by rw [S9 A2, if_neg (by simpa using h32), A1k (k := k) A2 hk2 hlast, if_neg hcase]
           have hnl := A3p l (i + 1); have hll : (Ct l (i + 1)).length = 0 + ((Ct l i).take k).length + 1 + ((Ct l i).drop k).length := by rw [hnx]; simp; omega
           refine A1 (fun w hs => ?_) (next1 (i + 1, a79) _ A2 (by (try simp only); omega) ⟨rfl, (by (conv => lhs; whnf); rw [hll]; rfl), rfl, trivial⟩); refine ((hs.D5 (l := Ct l (i + 1)) hB (by rw [hnx]; simp) (by rw [hll]) (by unfold reach at *; omega) (fun c hc => hU1 c (B0r hc))).l9)
          ·have hcase : k < (Ct l i).length ∧ (Ct l i).getD k B8 = l.getD i B8 := by have h9 := h64; simp at h9; exact ⟨by omega, h9.2⟩
           refine Hf ?_; have hnx : Ct l (i + 1) = Ct l i := by rw [S9 A2, if_neg (by simpa using h32), A1k (k := k) A2 hk2 hlast, if_pos hcase]
           refine A1 (fun w hs => ?_) (next1 (i + 1, a) _ A2 (by (try simp only); omega) ⟨rfl, (by (conv => lhs; whnf); simp [sl, hnx]), rfl, trivial⟩); rw [hnx]; exact (hs.l9)
    ·have he : i = l.length := by omega
     have hrw : Ct l i = Eh l := by rw [he, B7w]
     refine D2 ?_; refine Hc ?_; refine Gk ?_; refine Ox ?_; refine Bu (decide (64 < (((Ct l i)).length : Int))) (fun h82 c82 => ?_) (fun h82 c82 => ?_)
     ·have hlf : Bc l = (3, []) := by rw [Bc, if_neg (by rw [hall]; decide), if_pos (by rw [← hrw]; omega)]
      refine Db ?_; refine B1 f_ rfl A4 A4 (none, 0) (by rw [hlf]; rfl) (fun w hs => by rw [hlf]; exact (hs.Mp 0).bare.l8)
     ·have hlf : Bc l = (0, Eh l) := by rw [Bc, if_neg (by rw [hall]; decide), if_neg (by rw [← hrw]; omega)]
      refine Ga ?_; refine H4 ?_; refine B1 f_ rfl A4 A4 a (by rw [hlf, ← hrw]; rfl) (fun w hs => by rw [hlf, ← hrw]; exact hs.bare.l8)
theorem Qy (l : List Cl) (a_l : SH)  : Spec prog 67 #[sl a_l (l.length)] [CL l a_l] [] (fun _ : Unit => .bool ((Ab l))) (fun _ => []) (fun _ => []) := by
 refine Cp ntmps67 fun B hB => ?_
 refine A5 (l := l) (a := a_l) (fun hl1 hA1 hU1 => ?_); refine Kb ?_; refine q0 rfl (A0 call125 (C7p l a_l ) (fun x7 => ?_)); refine Kc ?_; refine Ec ?_; refine Aq ([(2, .bool ((decide (((Bc l).1) = 0)) && (decide (((Bc l).2) = l))))]) (fun hK => ?_) (fun base => ?_)
 ·refine Dy ?_; refine P0 ?_; refine I6 rfl (decide (((Bc l).1) = 0)) (fun hg12 g12 => ?_) (fun hg12 g12 => ?_)
  ·refine Qa ?_; refine D1 ?_; refine qT rfl rfl rfl (A0 call31 (A0e ((Bc l).2) x7 l a_l ) (fun x15 => ?_)); refine Eg ?_; exact hK _ ⟨E6, trivial⟩
  ·refine P2 ?_; exact hK _ ⟨E6, trivial⟩
 ·refine Ad f_ rfl A4 () (by rw [← Rg]) (fun w hs => hs.none)
theorem V0 (l : List Cl) (a_l : SH)  : Spec prog 183 #[sl a_l (l.length)] [CL l a_l] [] (fun _ : Unit => .bool ((A7 l))) (fun _ => []) (fun _ => []) := by
 refine Cp ntmps183 fun B hB => ?_
 refine A5 (l := l) (a := a_l) (fun hl1 hA1 hU1 => ?_); refine B9 ?_; refine Hc ?_; refine q0 rfl (A0 call67 (Qy l a_l ) (fun x5 => ?_)); refine Fq ?_; refine Bu (!(Ab l)) (fun h6 c6 => ?_) (fun h6 c6 => ?_)
 ·refine B9 ?_; refine Ad f_ rfl A4 () (by rw [A7, show Ab l = false by simpa using h6]; rfl) (fun w hs => hs.none)
 ·have hfr : Ab l = true := by simpa using h6
  have hal : l.all B3 = true := by unfold Ab at hfr; simp only [Bool.and_eq_true] at hfr; exact hfr.1.1.1
  refine Ho ?_; refine Jb ?_; refine Aj (X := Nat) (fun s_ => s_ ≤ l.length ∧ ∀ j, j < s_ → Je (l.getD j B8) = false) (fun s_ => [(0, sl a_l (l.length)), (3, iv ((s_ : Int)))]) (fun s_ G_ => G_) (fun s_ => []) (fun s_ => l.length - s_) (0) (⟨by omega, fun j hj => by omega⟩) (by exact Cm) ?_ ?_
  ·exact fun w hs => hs
  ·intro i base0 ⟨hi, hok⟩ next0; refine Ja ?_; refine Nc ?_; refine Bu (decide ((i : Int) < (l.length : Int))) (fun h10 c10 => ?_) (fun h10 c10 => ?_)
   ·have hu := hU1 _ (A9 (d := B8) (show i < l.length by omega)); have hu1 := hu.1; have hu2 := hu.2; have hr24 : B3 (l.getD i B8) = true := List.all_eq_true.mp hal _ (A9 A2); refine Hn ?_; refine Hg ?_; obtain ⟨bk2, o2, hav2⟩ := hA1 A2; refine q0 rfl (Cq ?_ (j := i)); refine On ?_; refine q0 rfl (A0 call245 (A3s (l.getD i B8) Hx) (fun x17 => ?_)); refine Ig ?_; refine Bu ((Pq (l.getD i B8))) (fun h17 c17 => ?_) (fun h17 c17 => ?_)
    ·refine B9 ?_; have hb : Je (l.getD i B8) = true := by rw [← Sc hr24]; simpa using h17
     refine Ad f_ rfl A4 () (by rw [A7, Tt (d := B8) (i := i) A2 hb]; simp) (fun w hs => hs.none)
    ·refine Hf ?_; have hb : Je (l.getD i B8) = false := by rw [← Sc hr24]; simpa using h17
     refine A1 (fun w hs => ?_) (next0 (i + 1) _ (⟨by omega, Gd hok hb⟩) A2 Cm); exact (hs.l9)
   ·refine H3 ?_; refine Ad f_ rfl A4 () (by rw [A7, hfr, Rv (d := B8) (fun j hj => hok j A2)]; rfl) (fun w hs => hs.none)
def Rt (l : List Cl) (i k : Nat) : Bool := (Dm l k).testBit i
theorem A9f (l : List Cl) (i : Nat) : Rt l i 0 = false := by simp [Rt, Dm]
theorem A9g {l : List Cl} {i k : Nat} (hi : i < 24) (h : k < l.length) : Rt l i (k + 1) = ((Rt l i k || H7 (l.getD k B8).pos (i : Int)) || H7 (l.getD k B8).neg (i : Int)) := by
 unfold Rt; rw [Tf h, Nat.testBit_or, Nat.testBit_or]; simp only [H7]; rw [decide_eq_true (show (0 : Int) ≤ (i : Int) by omega), decide_eq_true (show (i : Int) < 24 by omega)]; simp [Bool.or_assoc]
theorem B7z (l : List Cl) (a_l : SH)  : Spec prog 127 #[sl a_l (l.length)] [CL l a_l] [] (fun _ : Unit => .int .u32 (((Bj l) : Nat) : Int)) (fun _ => []) (fun _ => []) := by
 refine Cp ntmps127 fun B hB => ?_
 refine A5 (l := l) (a := a_l) (fun hl1 hA1 hU1 => ?_); refine B9 ?_; refine B9 ?_; refine I8 ?_; refine Aj (X := Nat × SH) (fun s_ => s_.1 ≤ 24) (fun s_ => [(0, sl a_l (l.length)), (3, sl s_.2 ((C1 (Dm l l.length) s_.1).length)), (4, iv ((s_.1 : Int)))]) (fun s_ G_ => G_) (fun s_ => [Am 1 3 s_.2 ((C1 (Dm l l.length) s_.1).length) (G4 (C1 (Dm l l.length) s_.1))]) (fun s_ => 24 - s_.1) (0, (none, 0)) A2 (by exact Cm) ?_ ?_
 ·exact fun w hs => (hs.C7 1 3)
 ·intro ⟨i, a⟩ base0 hi0 next0; dsimp only at hi0 next0 ⊢; have hln := Gh (Dm l l.length) i; refine Hc ?_; refine Tv ?_; refine Bu (decide ((i : Int) < 24)) (fun h8 c8 => ?_) (fun h8 c8 => ?_)
  ·refine Hn ?_; refine B9 ?_; refine I8 ?_; refine Aj (X := Nat) (fun s_ => s_ ≤ l.length) (fun s_ => [(0, sl a_l (l.length)), (3, sl a ((C1 (Dm l l.length) i).length)), (4, iv ((i : Int))), (5, .bool ((Rt l i s_))), (6, iv ((s_ : Int)))]) (fun s_ G_ => G_) (fun s_ => [Am 1 3 a ((C1 (Dm l l.length) i).length) (G4 (C1 (Dm l l.length) i))]) (fun s_ => l.length - s_) (0) A2 (by exact ⟨rfl, rfl, rfl, (by rw [A9f]; rfl), rfl, trivial⟩) ?_ ?_
   ·exact fun w hs => hs
   ·intro k base1 hi1 next1; refine Ja ?_; refine Nc ?_; refine Bu (decide ((k : Int) < (l.length : Int))) (fun h14 c14 => ?_) (fun h14 c14 => ?_)
    ·have hu := hU1 _ (A9 (d := B8) (show k < l.length by omega)); have hu1 := hu.1; have hu2 := hu.2; refine Hn ?_; refine Aq ([(0, sl a_l (l.length)), (3, sl a ((C1 (Dm l l.length) i).length)), (4, iv ((i : Int))), (5, .bool (((Rt l i k) || (H7 ((l.getD k B8).pos) (i : Int))) || (H7 ((l.getD k B8).neg) (i : Int)))), (6, iv ((k : Int)))]) (fun hK => ?_) (fun base => ?_)
     ·refine Qc ?_; refine I6 rfl ((Rt l i k)) (fun hg18 g18 => ?_) (fun hg18 g18 => ?_)
      ·refine Qa ?_; refine D1 ?_; obtain ⟨bk2, o2, hav2⟩ := hA1 A2; refine qT rfl rfl rfl (Cq ?_ (j := k)); refine C6z ?_; refine qT rfl rfl rfl (B9j ?_); refine D1 ?_; refine qT rfl rfl rfl (A0 call210 (B7x ((l.getD k B8).pos) (i : Int) Hx) (fun x25 => ?_)); refine Eo ?_; refine I6 rfl ((H7 ((l.getD k B8).pos) (i : Int))) (fun hg27 g27 => ?_) (fun hg27 g27 => ?_)
       ·refine Qa ?_; refine D1 ?_; refine qT rfl rfl rfl (Cq ?_ (j := k)); refine C6z ?_; refine qT rfl rfl rfl (B9j ?_); refine D1 ?_; refine qT rfl rfl rfl (A0 call210 (B7x ((l.getD k B8).neg) (i : Int) Hx) (fun x34 => ?_)); refine Gu ?_; exact hK _ ⟨rfl, rfl, rfl, E6, rfl, trivial⟩
       ·refine Iw ?_; refine Fp ?_; refine Eg ?_; exact hK _ ⟨rfl, rfl, rfl, E6, rfl, trivial⟩
      ·refine Iw ?_; refine Fp ?_; refine Ow ?_; refine Ew ?_; refine Eg ?_; exact hK _ ⟨rfl, rfl, rfl, E6, rfl, trivial⟩
     ·refine Hq ?_; refine A1 (fun w hs => ?_) (next1 (k + 1) _ A2 A2 ⟨rfl, rfl, rfl, (by (conv => lhs; whnf); rw [A9g A2 A2]), rfl, trivial⟩); exact (hs.l9)
    ·have he : k = l.length := by omega
     refine D2 ?_; refine Et ?_; refine Ig ?_; refine Bu ((Rt l i k)) (fun h36 c36 => ?_) (fun h36 c36 => ?_)
     ·refine Qc ?_; refine q0 rfl (D0 fun b39 => ?_); refine q0 rfl (E0 (fun a40 => ?_) (a := a) (n' := (C1 (Dm l l.length) i).length)); refine An (fun w hs => ((hs.perm Ao).drop).C5x) ?_; refine C9 ?_; refine Hq ?_; have hnx : C1 (Dm l l.length) (i + 1) = C1 (Dm l l.length) i ++ [(i : Int)] := by rw [J1, if_pos (show (Dm l l.length).testBit i = true by rw [← he]; exact h36)]
      refine A1 (fun w hs => ?_) (next0 (i + 1, a40) _ A2 (by (try simp only); omega) ⟨rfl, (by (conv => lhs; whnf); simp [sl, hnx]), rfl, trivial⟩); rw [hnx]; simpa using (hs.l9)
     ·refine Hf ?_; have hnx : C1 (Dm l l.length) (i + 1) = C1 (Dm l l.length) i := by rw [J1, if_neg]; rw [show (Dm l l.length).testBit i = false by rw [← he]; exact h36]; decide
      refine A1 (fun w hs => ?_) (next0 (i + 1, a) _ A2 (by (try simp only); omega) ⟨rfl, (by (conv => lhs; whnf); simp [sl, hnx]), rfl, trivial⟩); rw [hnx]; exact (hs.l9)
  ·have he : i = 24 := by omega
   subst he; refine A1 (fun w hs => (hs.Ng hB rfl rfl (by unfold reach; omega) (fun c hc => by have := Ln hc; unfold Ap; omega))) ?_; refine D2 ?_; refine Et ?_; refine q0 rfl (A0 call131 (D2u (C1 (Dm l l.length) 24) a A2 (fun x hx => by have := Ln hx; omega)) (fun x42 => ?_)); refine C9 ?_; refine Ad f_ rfl A4 () (by rw [A7d, Wa]) (fun w hs => hs.none)
end Go.Hy
namespace Go.Hy
open Go.Proofs Go.Proofs.Tryz
set_option maxRecDepth 100000
attribute [local go_sem] Oper.semAt_some
open Go.RowKit Go.Shelf
set_option maxHeartbeats 1000000
theorem D6s (F : Fence) (n : Nat) (hF : F.fn 258) (hro : F.round = none) (r : Nat) (k idx : Nat) (hk : k < 24) (h0 : ((r : Int) == 0) = false)
  (key : bits BinOp.and IntKind.u32 (r : Int) (-(r : Int) % 4294967296) * 125613361 % 4294967296 / 134217728 = (idx : Int)) (hi : idx < 32) (W : World) (hc : W.cell? ⟨0, idx, none⟩ = some (.int .u8 (k : Int))) :
  CallsIn F n prog 258 #[.int .u32 (r : Int)] W fun e w' => e = .returned (iv (k : Int)) ∧ w' = W := by
 refine callsIn_of_wp func258 rfl hF ?_ hro; simp only [ntmps258, List.size_toArray, List.length_cons, List.length_nil, Nat.reduceAdd, Nat.reduceSub, Array.replicate_succ, Array.replicate_zero, List.push_toArray, List.append_toArray, List.nil_append, List.cons_append]
 gi_wp2_with (simp only [key])
 go_ret
 exact ⟨rfl, rfl⟩
theorem tz32' (F : Fence) (n : Nat) (hF : F.fn 258) (hro : F.round = none) (r : Nat) (h0 : ¬ r = 0) (hr : r < 16777216) (W : World) (hT : TabAt 0 Lib.deBruijn32tab W) :
  CallsIn F n prog 258 #[.int .u32 (r : Int)] W fun e w' => e = .returned (iv (Lib.ctz 32 r : Int)) ∧ w' = W := by
 obtain ⟨hlow, hk⟩ := Lib.lowest_bit 32 r h0 A2; obtain ⟨hi, htab⟩ := Lib.deBruijn32_at _ hk; have hcell := hT _ hi; rw [htab] at hcell; exact D6s F n hF hro r _ _ (Ym h0 hr).1 (by simp; omega) (tz32_key r _ A2 h0 hlow) hi W hcell
theorem in1 (F : Fence) (n : Nat) (h208 : F.fn 257) (h209 : F.fn 258) (hro : F.round = none) (hn : 1 ≤ n) (l g : Nat) (s : Nat) (J : List Int → World → Prop)
  (hY : ∀ pre x W, J pre W → pre.length < 24 → (0 ≤ x ∧ x < 24) → YieldAt F (n - 1) prog l #[iv x] W fun e W' => e = .returned (.bool true) ∧ J (pre ++ [x]) W' ∧ W'.heap[g]? = W.heap[g]?)
  (hT : ∀ pre W, J pre W → TabAt 0 Lib.deBruijn32tab W)
  (hJ : ∀ pre W v, J pre W → J pre (W.setCell ⟨g, 0, none⟩ v))
  (hs : s < 4294967296) (W : World) (hg : Boxed W g 89 (.int .u32 (s : Int))) (h0 : J [] W) :
  CallsIn F n prog 257 #[.func (.yield l) #[] #[], pz g] W fun e W' => (∃ v, e = .returned v) ∧ J (Ag s) W' := by
 refine callsIn_of_wp func257 rfl h208 ?_ hro; simp only [ntmps257, List.size_toArray, List.length_cons, List.length_nil, Nat.reduceAdd, Nat.reduceSub, Array.replicate_succ, Array.replicate_zero, List.push_toArray, List.append_toArray, List.nil_append, List.cons_append]; have hc := hg.cell; have hf := hg.frozen
 gi_wp2
 gi_loopw [] (fun wr => ∃ (pre : List Int) (r : Nat), Ag s = pre ++ Ag r ∧ r < 16777216 ∧ Boxed wr g 89 (.int .u32 (r : Int)) ∧ J pre wr)
  (fun wr => match wr.cell? ⟨g, 0, none⟩ with | some (.int _ v) => v.toNat | _ => 0)
 case atStart =>
  refine ⟨[], s &&& 16777215, by rw [List.nil_append, B4z], by rw [Zc]; exact Nat.mod_lt _ Jk, ?_, hJ _ _ _ h0⟩; rw [← bits_and_u32_nat s 16777215 hs Jk]; exact hg.set _
 case round =>
  obtain ⟨pre, r, hx, hr, hb, hj⟩ := hrel; have hc2 := hb.cell; have hf2 := hb.frozen; by_cases hr0 : r = 0
  ·subst hr0
   gi_wp2
   go_end0
   exact ⟨⟨_, rfl⟩, by rw [hx, show Ag 0 = [] from by decide, List.append_nil]; exact hj⟩
  ·obtain ⟨hk, hlist⟩ := Ym hr0 hr
   have hlen : pre.length < 24 := by
    have h1 := congrArg List.length hx; have h2 : (Ag s).length ≤ 24 := Gh s 24; rw [List.length_append, hlist, List.length_cons] at h1; omega
   obtain ⟨fn, tmps, assign, body, hy, hR⟩ := hY pre (Lib.ctz 32 r : Int) wr hj hlen A2; have hbe : ((r : Int) != 0) = true := by simp; omega
   gi_wp2_with (gi_at_call 258; refine (tz32' F (n - 1) h209 hro r hr0 hr wr (hT _ _ hj)).mono ?_; rintro e w' ⟨rfl, rfl⟩)
   refine hR.mono ?_; rintro e W3 ⟨rfl, hJ3, hg3⟩; have hb3 : Boxed W3 g 89 (.int .u32 (r : Int)) := hg3.trans hb; have hc3 := hb3.cell; have hf3 := hb3.frozen
   gi_wp2
   have e1 : bits BinOp.and IntKind.u32 (r : Int) ((r : Int) - 1) = ((r &&& (r - 1) : Nat) : Int) := by
    rw [show (r : Int) - 1 = ((r - 1 : Nat) : Int) by omega]; exact bits_and_u32_nat r (r - 1) A2 A2
   rw [e1]; have hb4 := hb3.set (.int .u32 ((r &&& (r - 1) : Nat) : Int)); have hlt := C9b hr0
   go_roundw
   case rel => exact ⟨pre ++ [(Lib.ctz 32 r : Int)], r &&& (r - 1), by rw [hx, hlist, List.append_assoc]; rfl, by omega, hb4, hJ _ _ _ hJ3⟩
   case measure =>
    rw [hb4.cell, hc2]; simp only [Int.toNat_natCast]; exact hlt
theorem D3v (F : Fence) (n : Nat) (h : F.fn 206) (hro : F.round = none) (s : Nat) (w : World) :
  CallsIn F n prog 206 #[.int .u32 (s : Int)] w fun e w' => e = .returned (.func (.func 257) #[] #[.pointer (some ⟨w.heap.size, 0, none⟩)]) ∧ w' = w.alloc (.cells #[.int .u32 (s : Int)] 89) := by
 refine callsIn_of_wp func206 rfl h ?_ hro; simp only [ntmps206, List.size_toArray, List.length_cons, List.length_nil, Nat.reduceAdd, Nat.reduceSub, Array.replicate_succ, Array.replicate_zero, List.push_toArray, List.append_toArray, List.nil_append, List.cons_append]
 gi_wp2
 go_ret
 exact ⟨rfl, rfl⟩
theorem C4p : (prog.info? 3).map (fun i => (i.zero, i.size, i.bytes)) = some (some (iv 0), 1, 8) := by kernel_rfl
theorem C4g (F : Fence) (n : Nat) (h81 : F.fn 123) (h156 : F.fn 206) (h208 : F.fn 257) (h209 : F.fn 258) (hro : F.round = none) (hn : 3 ≤ n) (s : Nat) (hs : s < 4294967296) (w : World) (hw : 0 < w.heap.size) (hT : TabAt 0 Lib.deBruijn32tab w) :
  CallsIn F n prog 123 #[.int .u32 (s : Int)] w fun e W' => ∃ v, e = .returned v ∧ W'.ownsRow w.heap.size 3 1 v (Ag s).length ((Ag s).map (Value.int .i64)) ∧ Below w.heap.size w W' := by
 have h1 : 1 ≤ n := by omega
 obtain ⟨i0, hi, hz0, hz1, hz2⟩ := info_parts C4p; refine callsIn_of_wp_marks func123 rfl h81 ?_ hro; simp only [ntmps123, List.size_toArray, List.length_cons, List.length_nil, Nat.reduceAdd, Nat.reduceSub, Array.replicate_succ, Array.replicate_zero, List.push_toArray, List.append_toArray, List.nil_append, List.cons_append]
 gi_wp2_with (gi_at_call 206; refine (D3v F (n - 1) h156 hro _ _).mono ?_; rintro e w' ⟨rfl, rfl⟩)
 obtain ⟨w2, hw2⟩ : ∃ w2, (w.alloc (.cells #[.slice none 0 0] 140)).alloc (.cells #[.int .u32 (s : Int)] 89) = w2 := ⟨_, rfl⟩; have bO : Boxed w2 w.heap.size 140 (.slice none 0 0) := by rw [← hw2]; exact (Boxed.new w 140 (.slice none 0 0)).alloc _
 have bS : Boxed w2 (w.heap.size + 1) 89 (.int .u32 (s : Int)) := by rw [← hw2]; have := Boxed.new (w.alloc (.cells #[.slice none 0 0] 140)) 89 (.int .u32 (s : Int)); rwa [World.size_alloc] at this
 have hsz2 : w2.heap.size = w.heap.size + 2 := by rw [← hw2]; simp
 have hB2 : Below w.heap.size w w2 := by rw [← hw2]; exact ((Below.refl _ w).alloc (Nat.le_refl _) _).alloc D7 _
 have hrw : ∀ {A B : World}, B.heap[w.heap.size + 1]? = A.heap[w.heap.size + 1]? → ∀ u, Boxed A (w.heap.size + 1) 89 u → Boxed B (w.heap.size + 1) 89 u := fun h u hu => h.trans hu
 simp only [World.size_alloc, hw2]
 refine B3q hro h1 (gf := 257) (lb := #[.pointer (some ⟨w.heap.size + 1, 0, none⟩)]) rfl h208 (enters_of func257 (by kernel_rfl) rfl) (encs := fun x : Int => #[iv x]) (fun _ => rfl)
  (fun pre W => (∃ v, Boxed W w.heap.size 140 v ∧ W.ownsRow w.heap.size 3 1 v pre.length (pre.map (Value.int .i64))) ∧ (∃ u, Boxed W (w.heap.size + 1) 89 u) ∧ Below w.heap.size w W)
  (fun pre x => pre.length < 24 ∧ (0 ≤ x ∧ x < 24)) (fun W W' => W'.heap[w.heap.size + 1]? = W.heap[w.heap.size + 1]?)
  ?ip ?ia ⟨⟨_, bO, World.ownsRow_nil _ _ _ _⟩, ⟨_, bS⟩, hB2⟩ (fun h k => k.trans h) ?kp (Ag s) ?it
  (fun x => { tmps := #[.int .u32 (s : Int), undef, .slice none 0 0, .pointer (some ⟨w.heap.size, 0, none⟩), iv x, .int .u32 (s : Int), .func (.func 257) #[] #[.pointer (some ⟨w.heap.size + 1, 0, none⟩)], iv x, undef, undef, undef, undef, undef], defers := [] }) ?assign ?body ?done
 case ip =>
  rintro pre A l o o0 ⟨⟨v, hv, hr⟩, ⟨u, hu⟩, hB⟩ hl hc hle; refine ⟨⟨v, (World.putObj_heap_other A2).trans hv, ownsRow_putObj hr o hl hc⟩, ⟨u, (World.putObj_heap_other A2).trans hu⟩, hB.trans ⟨rfl, rfl, rfl, by simp, fun k hk => World.putObj_heap_other A2⟩⟩
 case ia =>
  rintro pre A o ⟨⟨v, hv, hr⟩, ⟨u, hu⟩, hB⟩ hle; exact ⟨⟨v, hv.alloc o, hr.kept (World.grownBy_alloc A o none) (by rcases hr.2 with ⟨rfl, _⟩ | ⟨g, cap, cur, rfl, _⟩; exact .inl rfl; exact .inr (by simp [Value.ownBlock]))⟩, ⟨u, hu.alloc o⟩, hB.alloc A2 o⟩
 case kp =>
  intro A l o o0 hl hc hle; exact World.putObj_heap_other A2
 case it =>
  intro l J W1 hJI hJk hY h0 hk1; refine in1 F (n - 1) h208 h209 hro A2 l (w.heap.size + 1) s J (fun pre x W hj hl hx => hY pre x W hj ⟨hl, hx⟩) (fun pre W hj => ?_) (fun pre W v hj => ?_) hs W1 ?_ h0
  ·intro i hi; exact ((hJI _ _ hj).2.2.cell (p := ⟨0, i, none⟩) hw).trans (hT i hi)
  ·obtain ⟨⟨v0, hv0, hr⟩, ⟨u, hu⟩, hB⟩ := hJI _ _ hj; refine hJk pre W _ hj ⟨⟨v0, hv0.other A2 v, hr.kept (grownBy_setCell' W (w.heap.size + 1) v) (.inr (hu.not_row Jk hr).symm)⟩, ⟨_, hu.set v⟩, hB.setCell (p := ⟨w.heap.size + 1, 0, none⟩) D7 v⟩ (fun k o hk ho => (KeepsOthers.setCell W _ v).same k o hk ho)
  ·exact (hk1 _ A2).trans bS
 case assign =>
  intro l x W K hK
  gi_wp2
  exact hK
 case body =>
  rintro l pre x W ⟨⟨v, hv, hrow⟩, ⟨u, hu⟩, hB⟩ ⟨hlt, hx⟩; have hc := hv.cell
  gi_wp2_with (gi_at_builtin; refine wpListIn_append_own _ rfl _ _ 140 rfl w.heap.size 3 i0 (iv 0) 1 8 Tryz.underlying140 hi hz0 hz1 hz2 rfl Jk _ _ _ rfl (hrow.alloc _) ⟨W.heap.size, 0, none⟩ 1 1 [iv x] rfl rfl (cell_one_new _ _ _) (by simp [Value.oneCell']) (by unfold maxLen; omega) A2 (by have := hB.size; simp; omega) ?_; intro v' w1 hown' hgrow _; obtain ⟨g', cap', rfl⟩ := ownsRow_succ hown'; obtain ⟨hv1, hv2, hr2, hk2, hb2⟩ := hv.appended Jk hrow hB.size (Nat.le_refl _) hown' hgrow; have hc1 := hv1.cell; have hf1 := hv1.frozen)
  have hu1 := ((hu.alloc (.cells #[iv x] 3)).kept hgrow (hu.not_row Jk hrow)).other (B' := w.heap.size) A2 (.slice (some ⟨g', 0, none⟩) (pre.length + 1) cap'); exact ⟨hu1.trans hu.symm, ⟨_, hv2, by simpa using hr2⟩, ⟨u, hu1⟩, hB.trans hb2⟩
 case done =>
  rintro D W hD ⟨⟨v, hv, hrow⟩, _, hB⟩ hK; have hc := hv.cell
  gi_wp2
  refine ⟨by simp, .inl ⟨_, _, rfl, run_takeDeferred hK, ?_⟩⟩; exact ⟨_, results_tmp rfl _ _ _, v, rfl, ownsRow_putObj hrow _ hK rfl, hB.trans ⟨rfl, rfl, rfl, by simp, fun k hk => World.putObj_heap_other A2⟩⟩
abbrev O8 : Fact := At 0 0 (Lib.deBruijn32tab.map fun (v : Nat) => Value.int .u8 (v : Int))
theorem C7g {ok : Nat → Prop} {w : World} (h : O8.f ok w) (hk : ∀ b, ok b → b < w.heap.size) : TabAt 0 Lib.deBruijn32tab w ∧ 0 < w.heap.size := by
 refine ⟨fun j hj => ?_, hk _ h.1⟩; have h1 := h.2 j (.int .u8 (Lib.deBruijn32tab.getD j 0 : Nat)) (by rw [List.getElem?_map, List.getD_eq_getElem?_getD, List.getElem?_eq_getElem hj]; rfl)
 rwa [Nat.zero_add] at h1
theorem B4s (s : Nat) (hs : s < 4294967296) : Spec prog 123 #[.int .u32 (s : Int)] [O8] [] (fun x : SH => sl x (Ag s).length) (fun _ => []) (fun x => [Am 1 3 x (Ag s).length (G4 (Ag s))]) := fun ok w hok hst => by
 obtain ⟨hT, hw⟩ := C7g (hst.facts O8 List.mem_cons_self) (fun b hb => hb.2.1); refine (callsIn_wide.mp (C4g Fence.wide 3 trivial trivial trivial trivial rfl (Nat.le_refl _) s hs w hw hT)).mono fun e w' hh => ?_
 obtain ⟨v, rfl, hrow, hB⟩ := hh; obtain ⟨a, rfl⟩ := B1b hrow
 have hrow0 : w'.ownsRow 0 3 1 (sl a (Ag s).length) (Ag s).length (G4 (Ag s)) := by
  have h1 : w'.ownsRow 0 3 1 (sl a (Ag s).length) (Ag s).length ((Ag s).map (Value.int .i64)) := ⟨hrow.1, hrow.2.imp id (fun ⟨g, cap, cur, q1, q2, q3⟩ => ⟨g, cap, cur, q1, Nat.zero_le _, q3⟩)⟩
  rwa [show (Ag s).map (Value.int .i64) = G4 (Ag s) from by induction (Ag s) with | nil => rfl | cons y ys ih => (simp only [List.map_cons, G4, List.flatMap_cons, Lp, List.singleton_append] at ih ⊢; rw [ih])] at h1
 refine ⟨a, rfl, ⟨hB.os, hB.tape, hB.output, hB.size, fun b hb _ => hB.block b hb⟩, fun _ hF => (by cases hF), ?_, ?_, List.pairwise_singleton _ _⟩
 ·intro m hm w2 hw2; rw [List.mem_singleton] at hm; subst hm; exact Uu hrow0 (fun b hb => hw2 b hb)
 ·intro m hm b hb; rw [List.mem_singleton] at hm; subst hm; have := hrow.lt b hb; exact ⟨this.2, .inr this.1⟩
theorem Jq (s : Nat) (hs : s < 4294967296) : Spec prog 123 #[.int .u32 (s : Int)] [O8] [] (fun x : SH => sl x (Ag s).length) (fun x => [IL (Ag s) x]) (fun _ => []) := fun ok w hok hst => (B4s s hs ok w hok hst).mono fun e w' hh => by
 obtain ⟨x, he, h⟩ := hh; have hl : (Ag s).length ≤ 24 := Gh s 24; exact ⟨x, he, h.Ng trivial rfl rfl (by unfold reach; omega) (fun c hc => by have := Ln hc; unfold Ap; omega)⟩
end Go.Hy
namespace Go.Hy
open Go.Proofs Go.Proofs.Tryz
set_option maxRecDepth 100000
theorem O2 (i : Int) : Spec prog 195 #[iv i] [] [] (fun _ : Unit => .bool (decide (0 ≤ i) && decide (i < 24))) (fun _ => []) (fun _ => []) := by
 refine Cp ntmps195 fun B hB => ?_
 refine Kb ?_; refine X2 ?_; refine En ?_; refine qI rfl rfl rfl Ex (fun hg5 => Bs ?_) (fun hg5 => ?_)
 ·refine Zo ?_; refine Eg ?_; refine Ad f_ rfl A4 () (by first | (simp_all; done) | (simp_all; omega)) (fun w hs => hs.none)
 ·refine U3 ?_; refine Gu ?_; refine Ad f_ rfl A4 () (by first | (simp_all; done) | (simp_all; omega)) (fun w hs => hs.none)
theorem Nu (s : Nat) (hs : s < 4294967296) : Spec prog 249 #[.int .u32 (s : Int)] [] [] (fun _ : Unit => .bool (decide (s < 16777216))) (fun _ => []) (fun _ => []) := by
 refine Cp ntmps249 fun B hB => ?_
 refine Kb ?_; refine q0 rfl (Th ?_ (b := 16777215)); refine q0 rfl (Yi ?_ (b := 0)); refine C9 ?_; refine Ad f_ rfl A4 () (by rw [A6j hs]) (fun w hs => hs.none)
theorem S1 (s : Nat) (hs : s < 4294967296) : Spec prog 112 #[.int .u32 (s : Int), iv (-1)] [] [] (fun _ : Unit => .int .u32 ((s &&& 16777215 : Nat) : Int)) (fun _ => []) (fun _ => []) := by
 refine Cp ntmps112 fun B hB => ?_
 refine Kb ?_; refine q0 rfl (Lj ?_ (b := 16777215)); refine C9 ?_; refine Hc ?_; refine q0 rfl (A0 call195 (O2 (-1)) (fun x8 => ?_)); refine Fq ?_; refine A3 (fun h9 => ?_) (fun h9 => ?_)
 ·refine Gt ?_; refine Ad f_ rfl A4 () rfl (fun w hs => hs.none)
 ·exact absurd h9 Jk
theorem W9 : C2j := by
 intro l a; refine Cp ntmps64 fun B hB => ?_
 refine A5 (l := l) (a := a) (fun hl1 hA1 hU1 => ?_); refine B9 ?_; refine N9 ?_; refine Cv (X := Nat) (fun i => i ≤ l.length) (fun i => [(3, .int .u32 (Dm l i : Int)), (6, sl a l.length), (7, iv (l.length : Int)), (8, iv (i : Int))]) (fun i => [CL l a]) (fun i => []) (fun i => l.length - i) (0) (Nat.zero_le _) (by exact Cm) ?_ ?_
 ·exact fun w hs => hs.l8
 ·intro i base0 hi next0; refine E9 ?_; refine A3 (fun h9 => ?_) (fun h9 => ?_)
  ·have hlt : i < l.length := by have := of_decide_eq_true h9; omega
   obtain ⟨bk, o, hav⟩ := hA1 A2; have hu := hU1 _ (A9 (d := B8) hlt); have hup := Yf hU1 i; have hor : (l.getD i B8).pos ||| (l.getD i B8).neg < 4294967296 := Nat.or_lt_two_pow (n := 32) hu.1 hu.2; refine G3 ?_; refine X4 ?_; refine On ?_; refine q0 rfl (Ba fun b5 => ?_); refine Ff ?_; refine Dy ?_; refine Gz ?_; refine Gz ?_; refine q0 rfl (Kh ?_ (a := (l.getD i B8).pos) (b := (l.getD i B8).neg) (ha := hu.1) (hb := hu.2)); refine q0 rfl (Kh ?_ (a := Dm l i) (b := (l.getD i B8).pos ||| (l.getD i B8).neg)); refine P4 ?_; refine A1 (fun w hs => ?_) (next0 (i + 1) _ hlt A2 ⟨by rw [Tf hlt]; rfl, rfl, rfl, rfl, trivial⟩); exact (hs.l8).bare
  ·have hge : i = l.length := by have := of_decide_eq_false h9; omega
   refine D2 ?_; refine Et ?_; refine q0 rfl (A0 call112 (S1 (Dm l i) (Yf hU1 i)) (fun x21 => ?_)); refine C9 ?_; refine Ad f_ rfl A4 () (by rw [Wa, ← hge]) (fun w hs => hs.none)
theorem Ls (c : Cl) (hc : u32 c) : Spec prog 196 #[.agg (Ak c).toArray] [] [] (fun _ : Unit => .bool (B3 c)) (fun _ => []) (fun _ => []) := by
 refine Cp ntmps196 fun B hB => ?_
 refine Ax ?_; refine q0 rfl (Au fun b1 => ?_); refine C9 ?_; refine E3 ?_; refine q0 rfl (A0 call249 (Nu c.pos hc.1) (fun x5 => ?_)); refine En ?_; refine qI rfl rfl rfl Ex (fun hg6 => Ty ?_) (fun hg6 => ?_)
 ·refine Ph ?_; refine qT rfl rfl rfl (A0 call249 (Nu c.neg hc.2) (fun x9 => ?_)); refine Eg ?_; refine Ad f_ rfl A4 () (by first | (simp_all [B3]; done) | (simp_all [B3]; intros; omega)) (fun w hs => hs.none)
 ·refine P2 ?_; refine Ad f_ rfl A4 () (by first | (simp_all [B3]; done) | (simp_all [B3]; intros; omega)) (fun w hs => hs.none)
theorem Wi (c : Cl) (hc : u32 c) : Spec prog 248 #[.agg (Ak c).toArray] [] [] (fun _ : Unit => .bool (Je c)) (fun _ => []) (fun _ => []) := by
 refine Cp ntmps248 fun B hB => ?_
 refine Ax ?_; refine q0 rfl (Au fun b1 => ?_); refine C9 ?_; refine E3 ?_; refine Gz ?_; refine q0 rfl (Lj ?_ (a := c.pos) (b := c.neg) (ha := hc.1) (hb := hc.2)); refine q0 rfl (Vd ?_ (b := 0)); refine C9 ?_; refine Ad f_ rfl A4 () (by simp only [Je]; congr 1; apply decide_eq_decide.mpr; omega) (fun w hs => hs.none)
theorem Si (c d : Cl) (hc : u32 c) (hd : u32 d) : Spec prog 251 #[.agg (Ak c).toArray, .agg (Ak d).toArray] [] [] (fun _ : Unit => .agg (Ak (Dq c d)).toArray) (fun _ => []) (fun _ => []) := by
 refine Cp ntmps251 fun B hB => ?_
 refine Ax ?_; refine q0 rfl (Au fun b2 => ?_); refine q0 rfl (Au fun b3 => ?_); refine q0 rfl (Ba fun b4 => ?_); refine Ig ?_; refine E3 ?_; refine Gz ?_; refine q0 rfl (Kh ?_ (a := c.pos) (b := d.pos) (ha := hc.1) (hb := hd.1)); refine Gz ?_; refine Gz ?_; refine q0 rfl (Kh ?_ (a := c.neg) (b := d.neg) (ha := hc.2) (hb := hd.2)); refine q0 rfl (B7 (cs := Ak (Dq c d)) ?_); refine Ff ?_; refine A0l f_ rfl () rfl Di rfl rfl rfl rfl (fun w hs => hs.none)
theorem A9s (c d : Cl) (hc : u32 c) (hd : u32 d) : Spec prog 200 #[.agg (Ak c).toArray, .agg (Ak d).toArray] [] [] (fun _ : Unit => .bool (below c d)) (fun _ => []) (fun _ => []) := by
 refine Cp ntmps200 fun B hB => ?_
 refine Ax ?_; refine q0 rfl (Au fun b2 => ?_); refine q0 rfl (Au fun b3 => ?_); refine Fm ?_; refine Bo (pn := 1000000) (tn := false) (A := [0, 0, 3, 0, 15, 31]) (l := [0, 1, 3, 2, 4, 5]) (fin := []) Tab.mixed ⟨_, func200⟩ (by rfl) ?_; refine Mv ?_; refine Mv ?_; refine Mv ?_; refine n0 rfl (B6 call251 (Si c d hc hd) (fun x7 => ?_)); refine n0 rfl (D2p ?_ (c := Dq c d) (c' := c)); refine Ql ?_; refine Ad f_ rfl A4 () (by rw [A9t]) (fun w hs => hs.none)
end Go.Hy
namespace Go.Hy
open Go.Proofs Go.Proofs.Tryz
set_option maxRecDepth 100000
open Go.Shelf Go.RowKit Go.Lib Go.Sort
theorem C4o (a : Int) (W : World) : Calls prog 291 #[.int .u32 a] W fun e w' => e = .returned (.bool false) ∧ w' = W := by
 go_enter func291, ntmps291
 go_wp2
 go_ret
 exact ⟨by simp, rfl⟩
theorem B6g (a b : Int) (W : World) : Calls prog 254 #[.int .u32 a, .int .u32 b] W fun e w' => e = .returned (iv (compareInt a b)) ∧ w' = W := by
 go_enter func254, ntmps254
 go_wp2_with (go_at_call 291; refine (C4o _ _).mono ?_; rintro e w' ⟨rfl, rfl⟩)
 all_goals (go_ret; refine ⟨?_, rfl⟩; unfold Lib.compareInt; (repeat' split) <;> first | rfl | (exfalso; omega))
def A5y (c d : Cl) : Int := if c.pos = d.pos then compareInt c.neg d.neg else compareInt c.pos d.pos
set_option maxHeartbeats 1000000 in
theorem D6d (c d : Cl) (W : World) : Calls prog 202 #[.agg #[.int .u32 c.pos, .int .u32 c.neg], .agg #[.int .u32 d.pos, .int .u32 d.neg]] W fun e w' => e = .returned (iv (A5y c d)) ∧ ∃ q os', w' = grow (W.drewN q) os' := by
 have hcon := fun a b W' => B6g a b W'
 have e1 : A5y c d = if (c.pos : Int) = d.pos then compareInt c.neg d.neg else compareInt c.pos d.pos := by unfold A5y; simp only [Int.ofNat_inj]
 generalize hr : A5y c d = r at e1 ⊢
 go_enter func202, ntmps202
 go_wp2_with (go_at_call 254; refine (hcon _ _ _).mono ?_; rintro e w' ⟨rfl, rfl⟩)
 all_goals (go_ret; refine ⟨?_, 0, _, by rw [alloc_eq_grow, alloc_eq_grow, grow_grow]; rfl⟩)
 all_goals (rw [e1]; simp_all)
instance : Inhabited Cl := ⟨B8⟩
theorem A1y (c d : Cl) : ltOf A5y c d = C0 c d := by
 unfold ltOf A5y C0 compareInt; by_cases h : c.pos = d.pos
 ·simp only [h, if_true]; by_cases h2 : c.neg < d.neg
  ·rw [if_pos A2]; simp [h2]
  ·rw [if_neg A2]; split <;> simp [h2]
 ·simp only [h, if_false]; by_cases h2 : c.pos < d.pos
  ·rw [if_pos A2]; simp [h2]
  ·rw [if_neg A2, if_pos A2]; simp [h2]
theorem C5h : SWO (ltOf A5y) where
 irrefl x := by rw [A1y]; simp [C0]
 trans x y z h1 h2 := by
  rw [A1y] at *; simp only [C0, Bool.or_eq_true, Bool.and_eq_true, decide_eq_true_eq] at *; omega
 ntrans x y z h1 h2 := by
  rw [A1y] at *; simp only [C0, Bool.or_eq_false_iff, Bool.and_eq_false_iff, decide_eq_false_iff_not] at *; omega
theorem Ro (d : Array Cl) : (flatK Ak 2 d).toList = A6 d.toList := by
 apply List.ext_getElem?; intro t; have hl : (A6 d.toList).length = d.size * 2 := by rw [K5 Dv]; simp
 by_cases ht : t < d.size * 2
 ·have h1 : (flatK Ak 2 d).toList[t]? = some (Ak d[t / 2]!)[t % 2]! := by
   have hs : t < (flatK Ak 2 d).size := by rw [size_flatK]; exact ht
   rw [Array.getElem?_toList, Array.getElem?_eq_getElem hs]; have := get_flatK Ak 2 d t ht; rw [getElem!_pos _ t hs] at this; rw [this]
  rw [h1]; have hd : t / 2 < d.toList.length := by simp; omega
  have e : d.toList.getD (t / 2) B8 = d[t / 2]! := by
   have : t / 2 < d.size := by simpa using hd
   rw [getElem!_pos d (t / 2) this, List.getD_eq_getElem?_getD, List.getElem?_eq_getElem hd]; simp
  have h2 : (Ak (d.toList.getD (t / 2) B8))[t % 2]? = some (Ak d[t / 2]!)[t % 2]! := by
   rw [e]; have : t % 2 < (Ak d[t / 2]!).length := by rw [Dv]; omega
   rw [List.getElem?_eq_getElem this, getElem!_pos (Ak d[t / 2]!) (t % 2) this]
  have := A1n Dv B8 d.toList (t / 2) (t % 2) _ hd h2; rw [show t / 2 * 2 + t % 2 = t by omega] at this; exact this.symm
 ·rw [List.getElem?_eq_none (by simp; omega), List.getElem?_eq_none A2]
theorem B3t (d : Array Cl) (l : List Cl) (rest : List Value) (hs : d.size = l.length) : putCells id 0 (flatK Ak 2 d) (A6 l ++ rest).toArray = (A6 d.toList ++ rest).toArray := by
 apply Array.ext_getElem?; intro t; have hl : (A6 l).length = d.size * 2 := by rw [K5 Dv, hs]
 have hl2 : (A6 d.toList).length = d.size * 2 := by rw [K5 Dv]; simp
 simp only [putCells, Array.getElem?_mapIdx, List.getElem?_toArray, size_flatK, Nat.zero_add, Nat.zero_le, true_and, Nat.sub_zero, id]; by_cases ht : t < d.size * 2
 ·rw [List.getElem?_append_left A2, List.getElem?_append_left A2]
  have h1 : (A6 d.toList)[t]? = some (flatK Ak 2 d)[t]! := by
   rw [← Ro, Array.getElem?_toList]; have hsz : t < (flatK Ak 2 d).size := by rw [size_flatK]; exact ht
   rw [Array.getElem?_eq_getElem hsz, getElem!_pos _ t hsz]
  rw [h1]; obtain ⟨v, hv⟩ : ∃ v, (A6 l)[t]? = some v := ⟨_, List.getElem?_eq_getElem A2⟩; rw [hv, Option.map_some, if_pos ht]
 ·rw [List.getElem?_append_right A2, List.getElem?_append_right A2, hl, hl2]; cases rest[t - d.size * 2]? with
  | none => rfl
  | some v => rw [Option.map_some, if_neg ht]
theorem B3l (l : List Cl) (g cap : Nat) (rest : List Value) (hn : l.length < 4611686018427387904) :
  Spec prog 201 #[.slice (some ⟨g, 0, none⟩) l.length cap, .func (.func 202) #[] #[]] [] [Aa g (A6 l ++ rest) 107] (fun _ : {l' : List Cl // l'.Perm l ∧ l'.Pairwise fun a b => C0 b a = false} => .tuple #[]) (fun _ => []) (fun x => [Aa g (A6 x.1 ++ rest) 107]) := by
 intro ok w hok hs; have hg : w.heap[g]? = some (.cells (A6 l ++ rest).toArray 107 (0, 0)) := hs.res _ List.mem_cons_self w (fun _ _ => rfl); have hlt : g < w.heap.size := (Array.getElem?_eq_some_iff.mp hg).1; have hu : prog.underlying 107 = some (.struct (TyF.fC prog)) := TyF.uC
 have aE : ∀ w, (isAgg (Tryz.S8.t 24)).run prog w = .ok true w := fun w => by
  show (isAgg 107).run prog w = _; simp [isAgg, run_underlying hu]
 have zE : ∀ w, (Go.sizeOf (Tryz.S8.t 24)).run prog w = .ok 2 w := fun w => Ey (P := prog) (t := 107) rfl w
 have hH : HoldsK Ak 2 w g 0 l.toArray := by
  intro j hj; rw [size_flatK] at hj; have e : (flatK Ak 2 l.toArray).toList = A6 l := by rw [Ro]
  have hsz : j < (flatK Ak 2 l.toArray).size := by rw [size_flatK]; exact hj
  have h1 : (A6 l)[j]? = some (flatK Ak 2 l.toArray)[j]! := by
   rw [← e, Array.getElem?_toList, Array.getElem?_eq_getElem hsz, getElem!_pos _ j hsz]
  refine ⟨?_, by simp [World.frozen?, hg]⟩; have hlen : j < (A6 l).length := (List.getElem?_eq_some_iff.mp h1).1; simp only [World.cell?, hg, Nat.zero_add, Option.isSome_none, Bool.false_eq_true, if_false, List.getElem?_toArray, id]; rw [List.getElem?_append_left hlen]; exact h1
 have hc := AnyQ.slices_SortFunc (P := prog) Tryz.C5w 2 aE zE Ak Dv (fun x v hv => by
   simp only [Ak, List.mem_cons, List.not_mem_nil, or_false] at hv; rcases hv with rfl | rfl <;> rfl) A5y C5h 202 #[] g 0 cap l.toArray w call202
  (fun m os dk hsz x y => D6d x y _) hH hlt (by simpa using hn)
 have hc2 : Calls prog 201 #[.slice (some ⟨g, 0, none⟩) l.length cap, .func (.func 202) #[] #[]] w _ := hc; refine hc2.mono ?_; rintro e w' ⟨he, d', n, os, hp, hsd, hw⟩; have hsize : d'.size = l.length := by simpa using hp.1
 have hperm : d'.toList.Perm l := by
  have := hp.2.2; have e1 : d'.extract 0 l.toArray.size = d' := by rw [show l.toArray.size = d'.size by simp [hsize]]; simp
  have e2 : l.toArray.extract 0 l.toArray.size = l.toArray := by simp
  rw [e1, e2] at this; exact this
 have hsorted : d'.toList.Pairwise fun a b => C0 b a = false := by
  rw [List.pairwise_iff_getElem]; intro i j hi hj hij; have hi' : i < d'.size := by simpa using hi
  have hj' : j < d'.size := by simpa using hj
  have := hsd i j (Nat.zero_le _) hij (by simp; omega); rw [A1y, getElem!_pos d' j hj', getElem!_pos d' i hi'] at this; simpa using this
 have hg' : w'.heap[g]? = some (.cells (A6 d'.toList ++ rest).toArray 107 (0, 0)) := by
  rw [hw]; show ((mapBlock (Go.Sort.ahead w n) g (putCells id 0 (flatK Ak 2 d'))).heap ++ os)[g]? = _; rw [Array.getElem?_append_left (by simp [mapBlock, Go.Sort.ahead]; exact hlt)]; simp only [mapBlock, Go.Sort.ahead, Array.getElem?_modify, if_true, hg, Option.map_some, onCells]; rw [B3t d' l rest hsize]
 have hold : ∀ b, b < w.heap.size → b ≠ g → w'.heap[b]? = w.heap[b]? := by
  intro b hb hne; rw [hw]; show ((mapBlock (Go.Sort.ahead w n) g (putCells id 0 (flatK Ak 2 d'))).heap ++ os)[b]? = _; rw [Array.getElem?_append_left (by simp [mapBlock, Go.Sort.ahead]; exact hb)]; simp only [mapBlock, Go.Sort.ahead, Array.getElem?_modify, if_neg (Ne.symm hne)]
 have hsz' : w.heap.size ≤ w'.heap.size := by rw [hw]; simp [sortWorldK, putRowK, Go.Sort.ahead]
 refine ⟨⟨d'.toList, hperm, hsorted⟩, he, ?_⟩; have h0 : St ⟨ok, Bb [Aa g (A6 l ++ rest) 107], w⟩ [] ([Aa g (A6 l ++ rest) 107]) w := hs
 refine h0.Dr (m' := Aa g (A6 d'.toList ++ rest) 107) ⟨by rw [hw]; rfl, by rw [hw]; rfl, by rw [hw]; rfl, hsz', fun b hb hn => hold b hb hn⟩ (fun w2 hw2 => by
  show w2.heap[g]? = _; rw [hw2 g rfl]; exact hg') (fun b hb => ?_)
 have hb : b = g := hb; subst hb; exact ⟨by omega, .inl rfl⟩
end Go.Hy
namespace Go.Hy
open Go.Proofs Go.Proofs.Tryz
set_option maxRecDepth 100000
theorem B0v {M : List B2} : M.Perm (M ++ []) := by rw [List.append_nil]
theorem A8r (l : List Cl) (a : SH) (c : FuncId) (cap : List Value) (FΓ : List Fact) (M : List B2) (g : Cl → Bool) (hc : ∀ (args : Array Value) (w : World), (callFunc c args).run prog w = .ok (.enter c args) w) (hcl : ∀ x, x ∈ l → Spec prog c (Ei x :: cap).toArray FΓ M (fun _ : Unit => .bool (g x)) (fun _ => []) (fun _ => M)) : Spec prog 250 #[sl a l.length, .func (.func c) #[] cap.toArray] (CL l a :: FΓ) M (fun _ : Unit => iv (A8s g l)) (fun _ => []) (fun _ => M) := by
 refine Cp ntmps250 fun B hB => ?_
 refine A5 (l := l) (a := a) (fun hl1 hA1 hU1 => ?_); refine N9 ?_; refine Cv (X := Nat) (fun i => i ≤ l.length ∧ ∀ j, j < i → g (l.getD j B8) = false) (fun i => [(0, sl a l.length), (1, .func (.func c) #[] cap.toArray), (7, iv (l.length : Int)), (8, iv (i : Int))]) (fun i => CL l a :: FΓ) (fun i => M) (fun i => l.length - i) (0) (⟨Nat.zero_le _, fun j hj => by omega⟩) (by exact Cm) ?_ ?_
 ·exact fun w hs => hs
 ·intro i base0 ⟨hi, hok⟩ next0; refine E9 ?_; refine A3 (fun h9 => ?_) (fun h9 => ?_)
  ·have hlt : i < l.length := by have := of_decide_eq_true h9; omega
   obtain ⟨bk, o, hav⟩ := hA1 A2; refine Hn ?_; refine Gt ?_; refine Hg ?_; refine Jt ?_; refine On ?_; refine q0 rfl (Cn hc (hcl _ (A9 hlt)) (cap := cap) (fun x16 => ?_) (hm := B0v)); refine Ig ?_; refine A3 (fun h16 => ?_) (fun h16 => ?_)
   ·refine Gt ?_; refine Ad f_ rfl A4 () (by rw [C4q hlt h16 hok]) (fun w hs => (hs.l8).Cb)
   ·refine Ib ?_; refine A1 (fun w hs => ?_) (next0 (i + 1) _ ⟨hlt, fun j hj => (by rcases Nat.lt_succ_iff_lt_or_eq.mp hj with h | h; exact hok j h; subst h; exact h16)⟩ A2 Cm); exact (hs.l9).Cb
  ·have hge : i = l.length := by have := of_decide_eq_false h9; omega
   refine H3 ?_; refine Ad f_ rfl A4 () (by rw [B5h (by rw [← hge]; exact hok)]) (fun w hs => hs.l8)
theorem Pe (l : List Cl) (a : SH) (c : FuncId) (cap : List Value) (FΓ : List Fact) (M : List B2) (g : Cl → Bool) (hc : ∀ (args : Array Value) (w : World), (callFunc c args).run prog w = .ok (.enter c args) w) (hcl : ∀ x, x ∈ l → Spec prog c (Ei x :: cap).toArray FΓ M (fun _ : Unit => .bool (g x)) (fun _ => []) (fun _ => M)) : Spec prog 198 #[sl a l.length, .func (.func c) #[] cap.toArray] (CL l a :: FΓ) M (fun _ : Unit => .bool (l.any g)) (fun _ => []) (fun _ => M) := by
 refine Cp ntmps198 fun B hB => ?_
 refine B0a ?_; refine q0 rfl (A0 call250 (A8r l a c cap FΓ M g hc hcl) (fun x7 => ?_) (hm := B0v)); refine X2 ?_; refine C9 ?_; refine Ad f_ rfl A4 () (by rw [A5j]) (fun w hs => (hs.l8).Cb)
theorem A1f (c d : Cl) (hc : u32 c) (hd : u32 d) (b : Nat) : Spec prog 199 #[Ei d, pz b] [] [Aa b (Ak c) 107] (fun _ : Unit => .bool (!decide (c = d) && below c d)) (fun _ => []) (fun _ => [Aa b (Ak c) 107]) := by
 refine Cp ntmps199 fun B hB => ?_
 refine Ax ?_; refine q0 rfl (Au fun b2 => ?_); refine C9 ?_; refine Dc ?_; refine Gw ?_; refine q0 rfl (D3i ?_ (c := c) (c' := d)); refine En ?_; refine qI rfl rfl rfl Ex (fun hg7 => Nq ?_) (fun hg7 => ?_)
 ·refine qT rfl rfl rfl (Nq ?_); refine qT rfl rfl rfl (A0 call200 (A9s c d hc hd) (fun x10 => ?_)); refine Eg ?_; refine Ad f_ rfl A4 () (by simp_all) (fun w hs => (hs.l8).drop)
 ·refine P2 ?_; refine Ad f_ rfl A4 () (by simp_all) (fun w hs => (hs.l8).drop)
theorem A5c (l : List Cl) (a : SH) (c : Cl) (hc : u32 c) (b : Nat) : Spec prog 197 #[Ei c, pz b] [CL l a] [Aa b [sl a l.length] 22] (fun _ : Unit => .bool (Bw l c)) (fun _ => []) (fun _ => [Aa b [sl a l.length] 22]) := by
 refine Cp ntmps197 fun B hB => ?_
 refine A5 (l := l) (a := a) (fun hl1 hA1 hU1 => ?_); refine Ax ?_; refine q0 rfl (Au fun b2 => ?_); refine Mm ?_; refine Pj ?_; refine N0 ?_; refine q0 rfl (A0 call198 (Pe l a 199 [pz b2] [] [Aa b2 (Ak c) 107] (fun d => !decide (c = d) && below c d) call199 (fun d hd => A1f c d hc (hU1 d hd) b2)) (fun x6 => ?_)); refine C9 ?_; refine Ad f_ rfl A4 () rfl (fun w hs => (hs.l8).drop)
theorem Tq (l : List Cl) (c : Cl) : A6 (l ++ [c]) = A6 l ++ Ak c := by simp [A6]
theorem Zx (l : List Cl) (a : SH) (n : Nat) (hn : n = l.length) (hb : n * 8 ≤ reach) :
  Spec prog 201 #[sl a n, .func (.func 202) #[] #[]] [] [Am 2 107 a n (A6 l)] (fun _ : {l' : List Cl // A2j l l'} => .tuple #[]) (fun _ => []) (fun x => [Am 2 107 a n (A6 x.1)]) := by
 subst hn; intro ok w hok hs; have hown : w.ownsRow 0 107 2 (sl a l.length) l.length (A6 l) := hs.res _ List.mem_cons_self w (fun _ _ => rfl); rcases hown.2 with ⟨h1, h2⟩ | ⟨g, cap, cur, h1, h2, h3, h4, h5, h6, h7⟩
 ·have hl : l = [] := List.eq_nil_of_length_eq_zero h2; subst hl; have hc := AnyF.slices_SortFunc_none (P := prog) Tryz.C5w a.1 a.2 (.func (.func 202) #[] #[]) w; have hc2 : Calls prog 201 #[sl a 0, .func (.func 202) #[] #[]] w _ := hc; refine hc2.mono ?_; rintro e w' ⟨he, hw⟩; subst hw; exact ⟨⟨[], List.Perm.refl _, List.Pairwise.nil⟩, he, hs⟩
 ·obtain ⟨ao, ac⟩ := a; have e1 : ao = some ⟨g, 0, none⟩ := by injection h1
  have e2 : ac = cap := by injection h1
  subst e1; subst e2
  have hfl : cur.toList = A6 l ++ cur.toList.drop (l.length * 2) := by
   have := List.take_append_drop (l.length * 2) cur.toList; rw [h7] at this; exact this.symm
  have hbox : St ⟨ok, Bb [Am 2 107 (some ⟨g, 0, none⟩, ac) l.length (A6 l)], w⟩ [] [Aa g (A6 l ++ cur.toList.drop (l.length * 2)) 107] w := by
   refine hs.Dr (m' := Aa g (A6 l ++ cur.toList.drop (l.length * 2)) 107) (Q6.refl _ _) (fun w2 hw2 => ?_) (fun b hb => ?_)
   ·show w2.heap[g]? = _; rw [hw2 g rfl, ← hfl, Array.toArray_toList]; exact h3
   ·have hb : b = g := hb; subst hb; exact ⟨(Array.getElem?_eq_some_iff.mp h3).1, .inl rfl⟩
  have hdom : ∀ b, Bb [Am 2 107 (some ⟨g, 0, none⟩, ac) l.length (A6 l)] b ↔ Bb [Aa g (A6 l ++ cur.toList.drop (l.length * 2)) 107] b := by
   intro b; rw [Ek, Ek]
   have : (Am 2 107 (some ⟨g, 0, none⟩, ac) l.length (A6 l)).dom b ↔ b = g := by
    show (sl (some ⟨g, 0, none⟩, ac) l.length).ownBlock = some b ↔ b = g; simp only [sl, Value.ownBlock, Option.some.injEq]; exact eq_comm
   rw [this]; rfl
  have hd2 : Bb [Am 2 107 (some ⟨g, 0, none⟩, ac) l.length (A6 l)] = Bb [Aa g (A6 l ++ cur.toList.drop (l.length * 2)) 107] := funext fun b => propext (hdom b)
  rw [hd2] at hbox; refine (B3l l g ac (cur.toList.drop (l.length * 2)) (by unfold reach at hb; omega) ok w (fun b hb => ⟨(hok b hb).1, by rw [← hd2]; exact (hok b hb).2⟩) hbox).mono ?_; rintro e w' ⟨x, he, hs'⟩; refine ⟨⟨x.1, x.2.1, x.2.2⟩, he, ?_⟩; rw [hd2]; have hlen : x.1.length = l.length := x.2.1.length_eq; have hg : w'.heap[g]? = some (.cells (A6 x.1 ++ cur.toList.drop (l.length * 2)).toArray 107 (0, 0)) := hs'.res _ List.mem_cons_self w' (fun _ _ => rfl); have hfl2 : (A6 x.1).length = l.length * 2 := by rw [K5 Dv, hlen]
  refine hs'.Dr (m' := Am 2 107 (some ⟨g, 0, none⟩, ac) l.length (A6 x.1)) (Q6.refl _ _) (fun w2 hw2 => ⟨hfl2, .inr ⟨g, ac, (A6 x.1 ++ cur.toList.drop (l.length * 2)).toArray, rfl, Nat.zero_le _, ?_, h4, h5, ?_, ?_⟩⟩) (fun b hb => ?_)
  ·rw [hw2 g rfl]; exact hg
  ·have h8 : cur.toList.length = ac * 2 := by simpa using h6
   simp only [List.size_toArray, List.length_append, List.length_drop, hfl2, h8]; omega
  ·rw [← hfl2, List.take_left]
  ·have hb : (sl (some ⟨g, 0, none⟩, ac) l.length).ownBlock = some b := hb; simp only [sl, Value.ownBlock, Option.some.injEq] at hb; subst hb; exact ⟨(Array.getElem?_eq_some_iff.mp hg).1, .inl rfl⟩
theorem Yp (l : List Cl) (a : SH) : Spec prog 110 #[sl a l.length] [CL l a] [] (fun x : {x : SH × Int × List Cl // Hb l x.2} => .tuple #[sl x.1.1 x.1.2.2.length, iv x.1.2.1]) (fun _ => []) (fun x => [Am 2 107 x.1.1 x.1.2.2.length (A6 x.1.2.2)]) := by
 refine Cp ntmps110 fun B hB => ?_
 refine A5 (l := l) (a := a) (fun hl1 hA1 hU1 => ?_); refine Db ?_; refine Ax ?_; refine q0 rfl (B4l fun b12 => ?_); refine Mm ?_; refine q0 rfl (Ba fun b5 => ?_); refine Ig ?_; refine A2y ?_; refine Cv (X := Nat × SH) (fun s => s.1 ≤ l.length ∧ ∀ j, j < s.1 → B3 (l.getD j B8) = true) (fun s => [(4, .map (some b12)), (5, pz b5), (13, sl a l.length), (14, iv (l.length : Int)), (15, iv (s.1 : Int))]) (fun s => [CL l a]) (fun s => [Vl b12 (once (l.take s.1)), Aa b5 [sl s.2 (once (l.take s.1)).length] 22, Am 2 107 s.2 (once (l.take s.1)).length (A6 (once (l.take s.1)))]) (fun s => l.length - s.1) ((0, (none, 0))) (⟨Nat.zero_le _, fun j hj => absurd hj (Nat.not_lt_zero _)⟩) (by exact Cm) ?_ ?_
 ·exact fun w hs => ((hs.l8).C7 2 107).perm (Bi.trans ((List.Perm.swap _ _ _).cons _))
 ·intro ⟨i, aO⟩ base0 ⟨hi, hok⟩ next0; dsimp only at hi hok next0 ⊢; refine E9 ?_; refine A3 (fun h16 => ?_) (fun h16 => ?_)
  ·have hlt : i < l.length := by have := of_decide_eq_true h16; omega
   obtain ⟨bk, o, hav⟩ := hA1 A2; have hu := hU1 _ (A9 (d := B8) hlt); have hol := Xb l i; refine G3 ?_; refine X4 ?_; refine On ?_; refine q0 rfl (Ba fun b7 => ?_); refine Ju ?_; refine Dc ?_; refine q0 rfl (A0 call196 (Ls (l.getD i B8) hu) (fun x20 => ?_)); refine Fq ?_; refine A3 (fun h21 => ?_) (fun h21 => ?_)
   ·have hr : B3 (l.getD i B8) = false := by simpa using h21
    refine Db ?_; refine B1 f_ rfl A4 A4 ⟨((none, 0), 2, []), by (unfold Hb; rw [C5p hlt hr]; rfl)⟩ rfl (fun w hs => (hs.l7).bare.C7 2 107)
   ·have hr : B3 (l.getD i B8) = true := by simpa using h21
    refine N8 ?_; refine Gw ?_; refine q0 rfl (B4m ?_); refine Fq ?_; refine A3 (fun h25 => ?_) (fun h25 => ?_)
    ·have hnin : l.getD i B8 ∉ once (l.take i) := by simpa using h25
     refine Qi ?_; refine q0 rfl (B9f ?_); refine Ig ?_; refine L2 ?_; refine Pj ?_; refine Gw ?_; refine q0 rfl (D0 fun b30 => ?_); refine q0 rfl (E0 (fun a31 => ?_)  ); refine Ff ?_; refine Q7 ?_; have hst := Nn hlt; rw [if_neg hnin] at hst; have hlen' : (once (l.take (i + 1))).length = (once (l.take i)).length + 1 := by rw [hst]; simp
     refine A1 (fun w hs => ?_) (next0 (i + 1, a31) _ ⟨hlt, fun j hj => (by rcases Nat.lt_succ_iff_lt_or_eq.mp hj with h | h; exact hok j h; subst h; exact hr)⟩ (by simp only; omega) Cm); dsimp only; rw [hlen', hst, Tq]; exact ((hs.l8).perm Dk).Cb (A := [_, _, _])
    ·refine Ib ?_; have hin : l.getD i B8 ∈ once (l.take i) := by simpa using h25
     have hst := Nn hlt; rw [if_pos hin] at hst; refine A1 (fun w hs => ?_) (next0 (i + 1, aO) _ ⟨hlt, fun j hj => (by rcases Nat.lt_succ_iff_lt_or_eq.mp hj with h | h; exact hok j h; subst h; exact hr)⟩ (by simp only; omega) Cm); dsimp only; rw [hst]; exact (hs.l8).drop
  ·have hge : i = l.length := by have := of_decide_eq_false h16; omega
   have hall : l.all B3 = true := D2a (by rw [← hge]; exact hok); subst hge; rw [List.take_length]; have hUo : ∀ c, c ∈ once l → u32 c := fun c hc => hU1 c ((Lg c l).mp hc)
   have hol := R5 l; refine A1 (fun w hs => ((hs.perm Bi).D5 hB rfl rfl A2 hUo)) ?_; refine D2 ?_; refine Ax ?_; refine N0 ?_; refine C9 ?_; refine B9 ?_; refine Ec ?_; refine Ax ?_; refine Pj ?_; refine Xp ?_; refine Cv (X := Nat × SH) (fun s => s.1 ≤ (once l).length) (fun s => [(8, .func (.func 197) #[] [pz b5].toArray), (9, sl s.2 (F3 l s.1).length), (34, sl aO (once l).length), (35, iv ((once l).length : Int)), (36, iv (s.1 : Int))]) (fun s => [CL (once l) aO]) (fun s => [Aa b5 [sl aO (once l).length] 22, Am 2 107 s.2 (F3 l s.1).length (A6 (F3 l s.1))]) (fun s => (once l).length - s.1) ((0, (none, 0))) (Nat.zero_le _) (by exact Cm) ?_ ?_
   ·exact fun w hs => (((hs.l9).C7 2 107).perm Bi).Cb (A := [_, _])
   ·intro ⟨i, aK⟩ base1 hi next1; dsimp only at hi next1 ⊢; refine E9 ?_; refine A3 (fun h37 => ?_) (fun h37 => ?_)
    ·have hlt : i < (once l).length := by have := of_decide_eq_true h37; omega
     refine A5 (l := once l) (a := aO) (fun _ hA2 _ => ?_); obtain ⟨bk, o, hav⟩ := hA2 A2; have hu := hUo _ (A9 (d := B8) hlt); have hkl := A1h l i; refine G3 ?_; refine X4 ?_; refine On ?_; refine q0 rfl (Ba fun b11 => ?_); refine Ff ?_; refine Qi ?_; refine q0 rfl (Cn call197 (A5c (once l) aO ((once l).getD i B8) hu b5) (cap := [pz b5]) (fun x42 => ?_)); refine Fq ?_; refine A3 (fun h43 => ?_) (fun h43 => ?_)
     ·refine Dy ?_; refine Gw ?_; refine q0 rfl (D0 fun b46 => ?_); refine q0 rfl (E0 (fun a47 => ?_)  ); refine P4 ?_; have hnd : Bw (once l) ((once l).getD i B8) = false := by simpa using h43
      have hst := Pb hlt; rw [hnd, if_neg Jk] at hst; have hlen' : (F3 l (i + 1)).length = (F3 l i).length + 1 := by rw [hst]; simp
      refine A1 (fun w hs => ?_) (next1 (i + 1, a47) _ hlt (by simp only; omega) ⟨rfl, by rw [hlen']; rfl, rfl, rfl, rfl, trivial⟩); dsimp only; rw [hlen', hst, Tq]; exact ((hs.l8).perm Bi).Cb (A := [_, _])
     ·refine Ib ?_; have hnd : Bw (once l) ((once l).getD i B8) = true := by simpa using h43
      have hst := Pb hlt; rw [hnd, if_pos rfl] at hst; refine A1 (fun w hs => ?_) (next1 (i + 1, aK) _ hlt (by simp only; omega) ⟨rfl, by rw [hst]; rfl, rfl, rfl, rfl, trivial⟩); dsimp only; rw [hst]; exact (hs.l8).Cb (A := [_, _])
    ·have hge2 : i = (once l).length := by have := of_decide_eq_false h37; omega
     subst hge2; rw [A1i]; refine D2 ?_; refine Hc ?_; refine Gk ?_; refine Ox ?_; refine A3 (fun h51 => ?_) (fun h51 => ?_)
     ·have h64 : 64 < (kept l).length := by have := of_decide_eq_true h51; omega
      refine Db ?_; refine B1 f_ rfl A4 A4 ⟨((none, 0), 3, []), by (unfold Hb; rw [hall, if_neg Jk, if_pos h64])⟩ rfl (fun w hs => (hs.l7).bare.C7 2 107)
     ·have h64 : ¬ 64 < (kept l).length := by have := of_decide_eq_false h51; omega
      refine N8 ?_; refine q0 rfl (A0 call201 (Zx (kept l) aK (kept l).length rfl (by unfold reach; omega)) (fun x53 => ?_)); refine Ig ?_; refine H4 ?_; have hpl : x53.1.length = (kept l).length := x53.2.1.length_eq; refine B1 f_ rfl A4 A4 ⟨(aK, 0, x53.1), by (unfold Hb; rw [hall, if_neg Jk, if_neg h64]; exact ⟨rfl, x53.2⟩)⟩ (by rw [hpl]; rfl) (fun w hs => ?_); have h := (hs.l7).Cb (A := [_]); rw [← hpl] at h; exact h
theorem A8n (l : List Cl) (a : SH) : Spec prog 110 #[sl a l.length] [CL l a] [] (fun x : {x : SH × Int × List Cl // Hb l x.2} => .tuple #[sl x.1.1 x.1.2.2.length, iv x.1.2.1]) (fun x => [CL x.1.2.2 x.1.1]) (fun _ => []) := fun ok w hok hs => (Yp l a ok w hok hs).mono fun e w' h => by
 obtain ⟨x, he, hs'⟩ := h; have hu := (hs.facts _ List.mem_cons_self).2
 have hx : x.1.2.2.length ≤ 64 ∧ ∀ c, c ∈ x.1.2.2 → u32 c := by
  have h := x.2; unfold Hb at h; split at h
  ·rw [h]; exact ⟨Nat.zero_le _, fun c hc => by cases hc⟩
  ·split at h
   ·rw [h]; exact ⟨Nat.zero_le _, fun c hc => by cases hc⟩
   ·rename_i h64; exact ⟨by rw [h.2.1.length_eq]; omega, fun c hc => hu c (C0s (h.2.1.mem_iff.mp hc))⟩
 exact ⟨x, he, (hs'.D5 trivial rfl rfl (by unfold reach; omega) hx.2).l8⟩
theorem A8z (l m : List Cl) (a b : SH) : Spec prog 111 #[sl a l.length, sl b m.length] [CL l a, CL m b] [] (fun _ : Unit => .bool (decide (l = m))) (fun _ => []) (fun _ => []) := by
 refine Cp ntmps111 fun B hB => ?_
 refine A5 (l := l) (a := a) (fun hl1 hA1 hU1 => ?_); refine A5 (l := m) (a := b) (fun hl2 hA2 hU2 => ?_); refine B9 ?_; refine Hc ?_; refine Gk ?_; refine En ?_; refine Gk ?_; refine A2m ?_; refine A3 (fun h10 => ?_) (fun h10 => ?_)
 ·have hne : ¬ l = m := fun e => by subst e; simp at h10
  refine B9 ?_; refine Ad f_ rfl A4 () (by rw [decide_eq_false hne]) (fun w hs => hs.none)
 ·have hlen : l.length = m.length := by simp at h10; omega
  refine Ga ?_; refine A2y ?_; refine Cv (X := Nat) (fun i => i ≤ l.length ∧ ∀ j, j < i → l.getD j B8 = m.getD j B8) (fun i => [(0, sl a l.length), (1, sl b m.length), (12, iv (l.length : Int)), (13, iv (i : Int))]) (fun i => [CL l a, CL m b]) (fun i => []) (fun i => l.length - i) (0) (⟨Nat.zero_le _, fun j hj => by omega⟩) (by exact Cm) ?_ ?_
  ·exact fun w hs => hs.l9
  ·intro i base0 ⟨hi, hok⟩ next0; refine E9 ?_; refine A3 (fun h14 => ?_) (fun h14 => ?_)
   ·have hlt : i < l.length := by have := of_decide_eq_true h14; omega
    have hlt2 : i < m.length := by omega
    obtain ⟨bk, o, hav⟩ := hA1 A2; obtain ⟨bk2, o2, hav2⟩ := hA2 A2; refine Hn ?_; refine Et ?_; refine Fm ?_; refine Bo (pn := 1000000) (tn := false) (A := [0, 0, 3, 7, 0, 0, 48, 112, 255]) (l := [0, 1, 2, 3, 4, 5, 6, 7, 8]) (fin := []) Tab.mixed ⟨_, func111⟩ (by rfl) ?_; refine G1 ?_; refine n0 rfl (F8 ?_); refine n0 rfl (P6 ?_); refine G1 ?_; refine n0 rfl (F8 ?_); refine n0 rfl (P6 ?_); refine n0 rfl (B0i ?_); refine Q8 ?_; refine A3 (fun h24 => ?_) (fun h24 => ?_)
    ·refine B9 ?_; refine Ad f_ rfl A4 () (by rw [decide_eq_false (fun e => by subst e; simp at h24)]) (fun w hs => hs.none)
    ·refine Ib ?_; have hb : l.getD i B8 = m.getD i B8 := by simpa using h24
     refine A1 (fun w hs => ?_) (next0 (i + 1) _ ⟨hlt, fun j hj => (by rcases Nat.lt_succ_iff_lt_or_eq.mp hj with h | h; exact hok j h; subst h; exact hb)⟩ A2 Cm); exact hs
   ·have hge : i = l.length := by have := of_decide_eq_false h14; omega
    refine H3 ?_; refine Ad f_ rfl A4 () (by rw [decide_eq_true (M9 hlen (by rw [← hge]; exact hok))]) (fun w hs => hs.none)
theorem F5 : C2i := by
 intro l a; refine Cp ntmps63 fun B hB => ?_
 refine C8 (p := True) (fun _ _ => trivial) (fun _ => ?_); refine Kb ?_; refine q0 rfl (A0 call110 (A8n l a) (fun x7 => ?_)); refine Kc ?_; refine Et ?_; refine P0 ?_; refine qI rfl rfl rfl Ex (fun hg12 => Bs ?_) (fun hg12 => ?_)
 ·refine D1 ?_; refine qT rfl rfl rfl (A0 call111 (A8z x7.1.2.2 l x7.1.1 a) (fun x15 => ?_)); refine Eg ?_; have hlr := Nw x7.2; refine Ad f_ rfl A4 () (by rw [← hlr]; simp_all) (fun w hs => hs.none)
 ·refine P2 ?_; have hlr := Nw x7.2; refine Ad f_ rfl A4 () (by rw [← hlr]; simp_all) (fun w hs => hs.none)
theorem O1 : Zf := by
 intro l a; refine Cp ntmps193 fun B hB => ?_
 refine A5 (l := l) (a := a) (fun hl1 hA1 hU1 => ?_); refine Kb ?_; refine q0 rfl (A0 call63 (F5 l a) (fun x4 => ?_)); refine En ?_; refine qI rfl rfl rfl Ex (fun hg5 => Bs ?_) (fun hg5 => ?_)
 ·refine qT rfl rfl rfl (A0 call198 (Pe l a 248 [] [] [] Je call248 (fun x hx => Wi x (hU1 x hx))) (fun x7 => ?_)); refine X1 ?_; refine Eg ?_; refine Ad f_ rfl A4 () (by simp_all [A7]) (fun w hs => hs.none)
 ·refine P2 ?_; refine Ad f_ rfl A4 () (by simp_all [A7]) (fun w hs => hs.none)
theorem Lq : A9y := ⟨F5, O1, W9⟩
theorem B0t {m : Nat} (h : m ≤ 24) : 2 ^ m ≤ 16777216 := Nat.pow_le_pow_right (n := 2) (j := 24) A2 h
theorem B2m (i : Int) (h0 : 0 ≤ i) : Spec prog 239 #[iv (i)] [] [] (fun _ : Unit => .int .u32 (((2 ^ (min i.toNat 24) - 1) : Nat) : Int)) (fun _ => []) (fun _ => []) := by
 refine Cp ntmps239 fun B hB => ?_
 have hp := B0t (m := min i.toNat 24) A2; have hpos : 0 < 2 ^ (min i.toNat 24) := Nat.pow_pos A2; refine Kb ?_; refine q0 rfl (A4m ?_); refine q0 rfl (Nr ?_ (m := min i.toNat 24) (ha := by split <;> omega)); refine q0 rfl (A8g ?_ (a := 1) (m := min i.toNat 24) (hm := by omega) (hb := by omega)); refine q0 rfl (C8p ?_ (a := 1 * 2 ^ (min i.toNat 24)) (b := 1) (h := by omega) (ha := by omega)); refine q0 rfl (A4o ?_ (a := 1 * 2 ^ (min i.toNat 24) - 1) (ha := by omega)); refine C9 ?_; refine Ad f_ rfl A4 () (by rw [Nat.one_mul]) (fun w hs => hs.none)
theorem Pa (s : Nat) (f : Int) (b : Int) (hs : s < 4294967296) (hi : Ap f) (hib : Ap b) : Spec prog 238 #[.int .u32 ((s : Nat) : Int), iv (f), iv (b)] [] [] (fun _ : Unit => .tuple #[.int .u32 (((As s f b).2 : Nat) : Int), iv ((As s f b).1)]) (fun _ => []) (fun _ => []) := by
 refine Cp ntmps238 fun B hB => ?_
 have hs24 := K8 s; have hp := B0t (m := min f.toNat 24) A2; have hpos : 0 < 2 ^ (min f.toNat 24) := Nat.pow_pos A2; have hhi : Bf (s &&& 16777215) (2 ^ (min f.toNat 24) - 1) < 16777216 := Zb hs24; have hlo : (s &&& 16777215) &&& (2 ^ (min f.toNat 24) - 1) < 16777216 := Nat.lt_of_le_of_lt Nat.and_le_left hs24; refine Db ?_; refine Ec ?_; refine Ec ?_; refine Aq ([(0, .int .u32 ((s : Nat) : Int)), (1, iv (f)), (2, iv (b)), (15, .bool ((decide (f < 0)) || (decide (b < 0))))]) (fun hK => ?_) (fun base => ?_)
 ·refine Qe ?_; refine I6 rfl (decide (f < 0)) (fun hg12 g12 => ?_) (fun hg12 g12 => ?_)
  ·refine Qd ?_; refine Dp ?_; exact hK _ ⟨rfl, rfl, rfl, E6, trivial⟩
  ·refine Oz ?_; exact hK _ ⟨rfl, rfl, rfl, E6, trivial⟩
 ·refine Bu ((decide (f < 0)) || (decide (b < 0))) (fun h15 c15 => ?_) (fun h15 c15 => ?_)
  ·have hg : As s f b = (2, 0) := by rw [As, if_pos A2]
   refine Db ?_; refine B1 f_ rfl A4 A4 () (by first | (rw [hg]; done) | (rw [hg]; rfl)) (fun w hs => hs.none)
  ·have hfb : 0 ≤ f ∧ 0 ≤ b := by omega
   refine N8 ?_; refine q0 rfl (Lj ?_ (a := s) (b := 16777215)); refine C9 ?_; refine Hg ?_; refine q0 rfl (A0 call239 (B2m f Hx) (fun x20 => ?_)); refine q0 rfl (Lj ?_ (a := s &&& 16777215) (b := 2 ^ (min f.toNat 24) - 1) (ha := by omega) (hb := by omega)); refine C9 ?_; refine Hg ?_; refine q0 rfl (A0 call239 (B2m f Hx) (fun x24 => ?_)); refine q0 rfl (Th ?_ (a := (s &&& 16777215)) (b := (2 ^ (min f.toNat 24) - 1))); refine q0 rfl (B9m ?_ (a := Bf (s &&& 16777215) (2 ^ (min f.toNat 24) - 1))); refine C9 ?_; refine Hc ?_; refine q0 rfl (Yi ?_ (a := ((Bf (s &&& 16777215) (2 ^ (min f.toNat 24) - 1) : Nat) : Int)) (b := 0)); refine Ig ?_; refine Bu (decide (((Bf (s &&& 16777215) (2 ^ (min f.toNat 24) - 1) : Nat) : Int) = 0)) (fun h28 c28 => ?_) (fun h28 c28 => ?_)
   ·have hz : Bf (s &&& 16777215) (2 ^ (min f.toNat 24) - 1) = 0 := by omega
    have hg : As s f b = (0, (s &&& 16777215) &&& (2 ^ (min f.toNat 24) - 1)) := by rw [As, if_neg A2, if_pos hz]
    refine H4 ?_; refine B1 f_ rfl A4 A4 () (by first | (rw [hg]; done) | (rw [hg]; rfl)) (fun w hs => hs.none)
   ·have hz : ¬ Bf (s &&& 16777215) (2 ^ (min f.toNat 24) - 1) = 0 := by omega
    refine Ho ?_; refine Ec ?_; refine Aq ([(2, iv (b)), (8, .int .u32 ((((s &&& 16777215) &&& (2 ^ (min f.toNat 24) - 1)) : Nat) : Int)), (9, .int .u64 (((Bf (s &&& 16777215) (2 ^ (min f.toNat 24) - 1) : Nat) : Int))), (38, .bool ((decide (24 ≤ b)) || (decide (16777215 < ((Bf (s &&& 16777215) (2 ^ (min f.toNat 24) - 1) * 2 ^ b.toNat : Nat) : Int)))))]) (fun hK => ?_) (fun base => ?_)
    ·refine Dy ?_; refine X2 ?_; refine En ?_; refine I6 rfl (decide (24 ≤ b)) (fun hg32 g32 => ?_) (fun hg32 g32 => ?_)
     ·refine Qa ?_; refine D1 ?_; refine qT rfl rfl rfl (Nr ?_ (m := b.toNat) (ha := by omega)); refine qT rfl rfl rfl (A8g ?_ (a := Bf (s &&& 16777215) (2 ^ (min f.toNat 24) - 1)) (m := b.toNat) (hm := by omega) (hb := by have := B0t (m := b.toNat) A2; have h9 := Nat.mul_le_mul (Nat.le_of_lt hhi) this; omega)); refine qT rfl rfl rfl (B9k ?_ (a := ((Bf (s &&& 16777215) (2 ^ (min f.toNat 24) - 1) * 2 ^ b.toNat : Nat) : Int)) (b := 16777215)); refine Dp ?_; exact hK _ ⟨rfl, rfl, rfl, E6, trivial⟩
     ·refine Iw ?_; refine Fo ?_; exact hK _ ⟨rfl, rfl, rfl, E6, trivial⟩
    ·refine Bu ((decide (24 ≤ b)) || (decide (16777215 < ((Bf (s &&& 16777215) (2 ^ (min f.toNat 24) - 1) * 2 ^ b.toNat : Nat) : Int)))) (fun h38 c38 => ?_) (fun h38 c38 => ?_)
     ·have hg : As s f b = (10, 0) := by rw [As, if_neg A2, if_neg hz, if_pos A2]
      refine Db ?_; refine B1 f_ rfl A4 A4 () (by first | (rw [hg]; done) | (rw [hg]; rfl)) (fun w hs => hs.none)
     ·have hbig : ¬ (24 ≤ b ∨ 16777215 < Bf (s &&& 16777215) (2 ^ (min f.toNat 24) - 1) * 2 ^ b.toNat) := by omega
      have hg : As s f b = (0, ((s &&& 16777215) &&& (2 ^ (min f.toNat 24) - 1)) ||| (Bf (s &&& 16777215) (2 ^ (min f.toNat 24) - 1) * 2 ^ b.toNat)) := by rw [As, if_neg A2, if_neg hz, if_neg hbig]
      refine Ov ?_; refine En ?_; refine q0 rfl (Nr ?_ (m := b.toNat) (ha := by omega)); refine q0 rfl (A8g ?_ (a := Bf (s &&& 16777215) (2 ^ (min f.toNat 24) - 1)) (m := b.toNat) (hm := by omega) (hb := by omega)); refine q0 rfl (A4o ?_ (a := Bf (s &&& 16777215) (2 ^ (min f.toNat 24) - 1) * 2 ^ b.toNat) (ha := by omega)); refine q0 rfl (Kh ?_ (a := (s &&& 16777215) &&& (2 ^ (min f.toNat 24) - 1)) (b := Bf (s &&& 16777215) (2 ^ (min f.toNat 24) - 1) * 2 ^ b.toNat) (ha := by omega) (hb := by omega)); refine Ku ?_; refine B1 f_ rfl A4 A4 () (by first | (rw [hg]; done) | (rw [hg]; rfl)) (fun w hs => hs.none)
theorem A5z (c : Cl) (f : Int) (b : Int) (hc : u32 c) (hi : Ap f) (hib : Ap b) : Spec prog 169 #[Ei c, iv (f), iv (b)] [] [] (fun _ : Unit => .tuple #[Ei ((Bh c f b).2), iv ((Bh c f b).1)]) (fun _ => []) (fun _ => []) := by
 refine Cp ntmps169 fun B hB => ?_
 have hcp := hc.1; have hcn := hc.2; have hp1 := Kk c.pos f b; have hp2 := Kk c.neg f b; refine Ax ?_; refine q0 rfl (Au fun b3 => ?_); refine q0 rfl (Ba fun b6 => ?_); refine Fm ?_; refine Dc ?_; refine q0 rfl (A0 call196 (Ls c Hx) (fun x12 => ?_)); refine Fq ?_; refine Bu (!(B3 c)) (fun h13 c13 => ?_) (fun h13 c13 => ?_)
 ·have hg : Bh c f b = (2, B8) := by rw [Bh, if_pos (by simpa using h13)]
  refine Ax ?_; refine q0 rfl (B7 (cs := [.int .u32 ((((⟨0, 0⟩ : Cl)).pos : Nat) : Int), .int .u32 ((((⟨0, 0⟩ : Cl)).neg : Nat) : Int)]) ?_); refine Gv ?_; refine E4 f_ rfl () rfl mf_ rfl rfl rfl rfl (by rw [hg]; rfl) (fun w hs => hs.none)
 ·have hr : ¬ B3 c = false := by simpa using h13
  refine Ga ?_; refine E3 ?_; refine F7 ?_; refine q0 rfl (A0 call238 (Pa ((c).pos) f b Hx Hx Hx) (fun x20 => ?_)); refine I7 ?_; refine Bu (decide (((As ((c).pos) f b).1) ≠ 0)) (fun h24 c24 => ?_) (fun h24 c24 => ?_)
  ·have hg : Bh c f b = ((As c.pos f b).1, B8) := by rw [Bh, if_neg hr, if_pos (by simpa using h24)]
   refine Ax ?_; refine q0 rfl (B7 (cs := [.int .u32 ((((⟨0, 0⟩ : Cl)).pos : Nat) : Int), .int .u32 ((((⟨0, 0⟩ : Cl)).neg : Nat) : Int)]) ?_); refine L5 ?_; refine E4 f_ rfl () rfl mf_ rfl rfl rfl rfl (by rw [hg]; rfl) (fun w hs => hs.none)
  ·have hr2 : ¬ (As c.pos f b).1 ≠ 0 := by simpa using h24
   refine Ga ?_; refine E3 ?_; refine F7 ?_; refine q0 rfl (A0 call238 (Pa ((c).neg) f b Hx Hx Hx) (fun x32 => ?_)); refine I7 ?_; refine Bu (decide (((As ((c).neg) f b).1) ≠ 0)) (fun h36 c36 => ?_) (fun h36 c36 => ?_)
   ·have hg : Bh c f b = ((As c.neg f b).1, B8) := by rw [Bh, if_neg hr, if_neg hr2, if_pos (by simpa using h36)]
    refine Ax ?_; refine q0 rfl (B7 (cs := [.int .u32 ((((⟨0, 0⟩ : Cl)).pos : Nat) : Int), .int .u32 ((((⟨0, 0⟩ : Cl)).neg : Nat) : Int)]) ?_); refine L5 ?_; refine E4 f_ rfl () rfl mf_ rfl rfl rfl rfl (by rw [hg]; rfl) (fun w hs => hs.none)
   ·have hg : Bh c f b = (0, ⟨(As c.pos f b).2, (As c.neg f b).2⟩) := by rw [Bh, if_neg hr, if_neg hr2, if_neg (by simpa using h36)]
    refine Ov ?_; refine q0 rfl (B7 (cs := [.int .u32 ((((⟨(As ((c).pos) f b).2, (As ((c).neg) f b).2⟩ : Cl)).pos : Nat) : Int), .int .u32 ((((⟨(As ((c).pos) f b).2, (As ((c).neg) f b).2⟩ : Cl)).neg : Nat) : Int)]) ?_); refine Gv ?_; refine E4 f_ rfl () rfl mf_ rfl rfl rfl rfl (by rw [hg]; rfl) (fun w hs => hs.none)
theorem Md (l : List CP) (a_l : SH)  : Spec prog 166 #[sl a_l (l.length)] [Ir l a_l] [] (fun _ : Unit => iv ((if l.all (fun p => Ab p.1) then 0 else 2))) (fun _ => []) (fun _ => []) := by
 refine Cp ntmps166 fun B hB => ?_
 refine N9 ?_; refine Aj (X := Nat) (fun s_ => s_ ≤ l.length ∧ ∀ j, j < s_ → Ab (l.getD j Bv).1 = true) (fun s_ => [(5, sl a_l (l.length)), (6, iv ((l.length : Int))), (7, iv ((s_ : Int)))]) (fun s_ G_ => G_) (fun s_ => []) (fun s_ => l.length - s_) (0) (⟨Nat.zero_le _, fun j hj => absurd hj (Nat.not_lt_zero _)⟩) (by exact Cm) ?_ ?_
 ·exact fun w hs => hs
 ·intro i base0 ⟨hi, hok⟩ next0; refine E9 ?_; refine Bu (decide ((i : Int) < (l.length : Int))) (fun h8 c8 => ?_) (fun h8 c8 => ?_)
  ·refine Eu ?_; refine Dh (l := l) (a := a_l) (bt := 24) (F := Be) (E := J6) (d := Bv) Di (fun hl1 hA1 => ?_); refine G5 (l := l) (a := a_l) (bt := 24) (F := Be) (E := J6) (d := Bv) Di i A2 ?_; refine L2 ?_; obtain ⟨bk2, o2, hav2⟩ := hA1 A2; refine q0 rfl (Cq ?_ (j := i)); refine A2o ?_; refine A2w ?_; refine q0 rfl (A0 call63 (F5 (((l).getD i Bv).1) (((l).getD i Bv).2) ) (fun x12 => ?_)); refine Fq ?_; refine Bu (!(Ab (((l).getD i Bv).1))) (fun h13 c13 => ?_) (fun h13 c13 => ?_)
   ·refine B9 ?_; refine Ad f_ rfl A4 () (by rw [if_neg (by rw [I2 (d := Bv) (i := i) A2 (by simpa using h13)]; decide)]) (fun w hs => hs.none)
   ·refine Ib ?_; refine A1 (fun w hs => ?_) (next0 (i + 1) _ (⟨by omega, fun j hj => by rcases Nat.lt_succ_iff_lt_or_eq.mp hj with h | h; exact hok j h; subst h; simpa using h13⟩) A2 Cm); exact (hs.l9)
  ·refine H3 ?_; refine Ad f_ rfl A4 () (by rw [if_pos (J4 (d := Bv) (fun j hj => hok j A2))]) (fun w hs => hs.none)
theorem Pu   : Spec prog 118 #[] [] [] (fun _ : Unit => sl (none, 0) 0) (fun _ => []) (fun _ => []) := by
 refine Cp ntmps118 fun B hB => ?_
 refine B9 ?_; refine B9 ?_; refine Ad f_ rfl A4 () (by first | rfl | (simp_all; done) | (simp_all; omega)) (fun w hs => hs.none)
theorem Vz (l : List Cl) (a : SH) (c : Cl) (g4 : Nat) (f : Int) (g5 : Nat) (b : Int) (hc : u32 c) (hi : Ap f) (hib : Ap b) (hl : l.length * 8 ≤ reach) : Spec prog 168 #[sl a (l.length), Ei c, pz g4, pz g5] [At g4 0 [iv (f)], At g5 0 [iv (b)]] [Am 2 107 a (l.length) (A6 l)] (fun x : SH => .tuple #[sl x (l.length + 1), iv (Bh c f b).1]) (fun x : SH => []) (fun x : SH => [Am 2 107 x (l.length + 1) (A6 (l ++ [(Bh c f b).2]))]) := by
 refine Cp ntmps168 fun B hB => ?_
 have hu9 := Pz c f b; refine Ax ?_; refine q0 rfl (Au fun b5 => ?_); refine Ku ?_; refine Dc ?_; refine Oq ?_; refine Oq ?_; refine q0 rfl (A0 call169 (A5z c f b Hx Hx Hx) (fun x14 => ?_)); refine Ka ?_; refine q0 rfl (Ba fun b8 => ?_); refine Gv ?_; refine Qi ?_; refine q0 rfl (D0 fun b19 => ?_); refine q0 rfl (E0 (fun a20 => ?_) (a := a) (n' := l.length)); refine An (fun w hs => ((hs.perm Ao).drop).Up (c := ((Bh c f b).2))) ?_; refine En ?_; refine Ku ?_; refine B1 f_ rfl A4 A4 a20 rfl (fun w hs => ((hs.l8).Cb (A := [_])))
set_option maxHeartbeats 4000000 in
theorem Xk (l : List Cl) (a_l : SH) (f b : Int) (g4 g5 : Nat) (hi : Ap f) (hib : Ap b) : Spec prog 167 #[sl a_l (l.length), sl (none, 0) (0), .func (.func 168) #[] [pz g4, pz g5].toArray] [CL l a_l, At g4 0 [iv f], At g5 0 [iv b]] [Am 2 107 (none, 0) (0) (A6 ([]))] (fun x : SH => .tuple #[sl x (Ej (fun c => Bh c f b) l).2.length, iv (Ej (fun c => Bh c f b) l).1]) (fun x : SH => []) (fun x : SH => [Am 2 107 x (Ej (fun c => Bh c f b) l).2.length (A6 (Ej (fun c => Bh c f b) l).2)]) := by
 rw [show (#[sl a_l (l.length), sl (none, 0) (0), .func (.func 168) #[] [pz g4, pz g5].toArray] : Array Value) = ([sl a_l (l.length), sl (none, 0) (0), .func (.func 168) #[] [pz g4, pz g5].toArray] : List Value).toArray from rfl]; refine Fj func167 ntmps167 rfl Yr fun B hB => ?_
 refine A5 (l := l) (a := a_l) (fun hl1 hA1 hU1 => ?_); refine N7 ?_; refine Aj (X := Nat × SH) (fun s_ => s_.1 ≤ l.length ∧ ∀ j, j < s_.1 → (Bh (l.getD j B8) f b).1 = 0) (fun s_ => [(1, sl s_.2 (s_.1)), (2, .func (.func 168) #[] [pz g4, pz g5].toArray), (13, sl a_l (l.length)), (14, iv ((l.length : Int))), (15, iv ((s_.1 : Int)))]) (fun s_ G_ => G_) (fun s_ => [Am 2 107 s_.2 (s_.1) (A6 ((l.take s_.1).map fun c => (Bh c f b).2))]) (fun s_ => l.length - s_.1) (0, (none, 0)) (⟨Nat.zero_le _, fun j hj => absurd hj (Nat.not_lt_zero _)⟩) (by exact Cm) ?_ ?_
 ·exact fun w hs => hs
 ·intro ⟨i, a⟩ base0 ⟨hi9, hok⟩ next0; dsimp only at  hi9  hok  next0 ⊢; refine E9 ?_; refine Bu (decide ((i : Int) < (l.length : Int))) (fun h16 c16 => ?_) (fun h16 c16 => ?_)
  ·have hlt9 : ((l.take i).map fun c => (Bh c f b).2).length = i := by rw [List.length_map, List.length_take]; omega
   refine G3 ?_; obtain ⟨bk2, o2, hav2⟩ := hA1 A2; refine q0 rfl (Cq ?_ (j := i)); refine On ?_; refine q0 rfl (Ba fun b9 => ?_); refine Ff ?_; refine Hg ?_; refine Gw ?_; refine q0 rfl (Cn call168 ((by have h := Vz ((l.take i).map fun c => (Bh c f b).2) a (l.getD i B8) g4 f g5 b (hU1 _ (A9 A2)) hi hib (by rw [hlt9]; unfold reach at *; omega); rw [hlt9] at h; exact h)) (cap := [pz g4, pz g5]) (fun x23 => ?_)); refine I7 ?_; refine Bu (decide (((Bh (l.getD i B8) f b).1) ≠ 0)) (fun h27 c27 => ?_) (fun h27 c27 => ?_)
   ·refine N6 ?_; have hg : (Ej (fun c => Bh c f b) l) = ((Bh (l.getD i B8) f b).1, []) := B5r A2 hok (by simpa using h27); refine B1 f_ rfl A4 A4 (none, 0) (by rw [hg]; rfl) (fun w hs => by rw [hg]; exact ((hs.l7).bare.C7 2 107))
   ·refine N5 ?_; have hst : (l.take (i + 1)).map (fun c => (Bh c f b).2) = (l.take i).map (fun c => (Bh c f b).2) ++ [(Bh (l.getD i B8) f b).2] := by rw [Ah (d := B8) A2, List.map_append]; rfl
    refine A1 (fun w hs => ?_) (next0 (i + 1, x23) _ (⟨by omega, fun j hj => by rcases Nat.lt_succ_iff_lt_or_eq.mp hj with h | h; exact hok j h; subst h; simpa using h27⟩) A2 Cm); rw [hst]; exact ((hs.l9).Cb (A := [_]))
  ·refine N4 ?_; have he : i = l.length := by omega
   have hg : (Ej (fun c => Bh c f b) l) = (0, l.map fun c => (Bh c f b).2) := A5p (fun j hj => hok j A2); refine B1 f_ rfl A4 A4 a (by rw [hg, List.length_map, ← he]; rfl) (fun w hs => by rw [hg]; have h := (hs.l7); rw [he, List.take_length] at h; dsimp only; rw [List.length_map]; exact h)
theorem K4 (l : List Cl) (a : SH) : Spec prog 110 #[sl a l.length] [CL l a] [] (fun x : SH => .tuple #[sl x (Bc l).2.length, iv (Bc l).1]) (fun _ => []) (fun x => [Am 2 107 x (Bc l).2.length (A6 (Bc l).2)]) := fun ok w hok hs => (Yp l a ok w hok hs).mono fun e w' h => by
 obtain ⟨x, he, hs'⟩ := h; have hx := Vs x.2; exact ⟨x.1.1, by rw [he]; show Ending.returned (.tuple #[sl x.1.1 x.1.2.2.length, iv x.1.2.1]) = Ending.returned (.tuple #[sl x.1.1 (Bc l).2.length, iv (Bc l).1]); rw [hx], by rw [← hx]; exact hs'⟩
theorem Pc (l : List Cl) (a_l : SH) (f : Int) (b : Int) (hi : Ap f) (hib : Ap b) : Spec prog 89 #[sl a_l (l.length), iv (f), iv (b)] [CL l a_l] [] (fun x : SH => .tuple #[sl x (Ae l f b).2.length, iv (Ae l f b).1]) (fun x : SH => []) (fun x : SH => [Am 2 107 x (Ae l f b).2.length (A6 (Ae l f b).2)]) := by
 refine Cp ntmps89 fun B hB => ?_
 refine A5 (l := l) (a := a_l) (fun hl1 hA1 hU1 => ?_); refine Ax ?_; refine q0 rfl (Au fun b4 => ?_); refine q0 rfl (Au fun b5 => ?_); refine Ku ?_; refine Hc ?_; refine q0 rfl (D0 fun b12 => ?_); refine An (fun w hs => ((((hs.perm Bi).perm Bi).perm Bi).C6i hB mf_)) ?_; refine q0 rfl (A0 call166 (Md [(l, a_l)] (some ⟨b12, 0, none⟩, 1)) (fun x13 => ?_)); refine L6 ?_; refine Bu (decide ((if [(l, a_l)].all (fun p => Ab p.1) then (0 : Int) else 2) ≠ 0)) (fun h15 c15 => ?_) (fun h15 c15 => ?_)
 ·have hg : Ae l f b = (2, []) := by rw [Ae, if_pos (by simpa using h15)]
  have h9 : (if [(l, a_l)].all (fun p => Ab p.1) then (0 : Int) else 2) = 2 := by simpa using h15
  refine H4 ?_; refine B1 f_ rfl A4 A4 (none, 0) (by rw [hg]; (conv => lhs; whnf; rw [h9]); rfl) (fun w hs => by rw [hg]; exact ((hs.l7).bare.C7 2 107))
 ·have hr : ¬ Ab l = false := by simpa using h15
  refine Ho ?_; refine Mr (Ms' := [Aa b5 [iv (b)] 3, Aa b4 [iv (f)] 3]) (by rfl) ?_; refine A1 (fun w hs => ((hs.perm Ao).Ch hB)) ?_; refine A1 (fun w hs => (hs.Ch hB)) ?_; refine A1 (fun w hs => hs.C7 2 107) ?_; refine Dy ?_; refine q0 rfl (A0 call118 (Pu ) (fun x19 => ?_)); refine N0 ?_; refine q0 rfl (A0 call167 (Xk l a_l f b b4 b5 hi hib) (fun x21 => ?_)); refine I7 ?_; refine Bu (decide (((Ej (fun c => Bh c f b) l).1) ≠ 0)) (fun h25 c25 => ?_) (fun h25 c25 => ?_)
  ·have hg : Ae l f b = ((Ej (fun c => Bh c f b) l).1, []) := by rw [Ae, if_neg hr, if_pos (by simpa using h25)]
   refine H4 ?_; refine B1 f_ rfl A4 A4 (none, 0) (by rw [hg]; rfl) (fun w hs => by rw [hg]; exact ((hs.l7).bare.C7 2 107))
  ·have hg : Ae l f b = Bc (Ej (fun c => Bh c f b) l).2 := by rw [Ae, if_neg hr, if_neg (by simpa using h25)]
   refine Ho ?_; refine A1 (fun w hs => (hs.D5 hB rfl rfl (by have := B5q (g := fun c => Bh c f b) (l := l); omega) (Yt (fun c => Pz c f b)))) ?_; refine Dy ?_; refine q0 rfl (A0 call110 (K4 (Ej (fun c => Bh c f b) l).2 x21) (fun x28 => ?_)); refine Jg ?_; refine B1 f_ rfl A4 A4 x28 (by rw [hg]; rfl) (fun w hs => by rw [hg]; exact (hs.l8))
theorem B4f (s : Nat) (hs : s < 4294967296) : Spec prog 194 #[.int .u32 ((s : Nat) : Int)] [] [] (fun _ : Unit => iv (((R0 s : Nat) : Int))) (fun _ => []) (fun _ => []) := by
 refine Cp ntmps194 fun B hB => ?_
 have p1 := (V1 (s / 2 ^ min 24 32) (by simp; omega)).2; have p2 := (V1 (s / 2 ^ min 16 32 &&& 255) (A2d _)).2; have p3 := (V1 (s / 2 ^ min 8 32 &&& 255) (A2d _)).2; have p4 := (V1 (s &&& 255) (A2d _)).2; refine B9 ?_; refine Ec ?_; refine Bo (pn := 1000000) (tn := false) (A := [0, 1, 3, 0, 8, 24, 56, 127, 0, 256, 768, 1792, 4095, 0, 8192, 24576, 65535, 131071, 262143]) (l := [0, 1, 2, 3, 4, 5, 6, 7, 8, 9, 10, 11, 12, 13, 14, 15, 16, 17, 18]) (fin := []) Tab.mixed ⟨_, func194⟩ (by decide +kernel) ?_; refine G9 ?_; refine n0 rfl (Ud ?_); refine n0 rfl (U5 ?_ (j := s / 2 ^ min 24 32) (hj := by simp; omega)); refine G9 ?_; refine n0 rfl (Ud ?_); refine n0 rfl (Uf ?_ (a := s / 2 ^ min 16 32) (b := 255) (ha := by simp; omega) (hb := by omega)); refine n0 rfl (U5 ?_ (j := s / 2 ^ min 16 32 &&& 255)); refine n0 rfl (Zt ?_ (a := pop8 (s / 2 ^ min 24 32)) (b := pop8 (s / 2 ^ min 16 32 &&& 255)) (h := by omega)); refine G9 ?_; refine n0 rfl (Ud ?_); refine n0 rfl (Uf ?_ (a := s / 2 ^ min 8 32) (b := 255) (ha := by simp; omega) (hb := by omega)); refine n0 rfl (U5 ?_ (j := s / 2 ^ min 8 32 &&& 255)); refine n0 rfl (Zt ?_ (a := pop8 (s / 2 ^ min 24 32) + pop8 (s / 2 ^ min 16 32 &&& 255)) (b := pop8 (s / 2 ^ min 8 32 &&& 255)) (h := by omega)); refine G9 ?_; refine n0 rfl (Uf ?_ (a := s) (b := 255) (ha := by omega) (hb := by omega)); refine n0 rfl (U5 ?_ (j := s &&& 255)); refine n0 rfl (Zt ?_ (a := pop8 (s / 2 ^ min 24 32) + pop8 (s / 2 ^ min 16 32 &&& 255) + pop8 (s / 2 ^ min 8 32 &&& 255)) (b := pop8 (s &&& 255)) (h := by omega)); refine n0 rfl (B7e ?_ (a := pop8 (s / 2 ^ min 24 32) + pop8 (s / 2 ^ min 16 32 &&& 255) + pop8 (s / 2 ^ min 8 32 &&& 255) + pop8 (s &&& 255)) (ha := by omega)); refine Ql ?_; refine Ad f_ rfl A4 () rfl (fun w hs => hs.none)
theorem Vk (s : Nat) (hs : s < 4294967296) : Spec prog 108 #[.int .u32 ((s : Nat) : Int)] [] [] (fun _ : Unit => iv (((R0 (s &&& 16777215) : Nat) : Int))) (fun _ => []) (fun _ => []) := by
 refine Cp ntmps108 fun B hB => ?_
 have h24 := K8 s; refine Kb ?_; refine q0 rfl (Lj ?_ (a := s) (b := 16777215)); refine q0 rfl (A0 call194 (B4f (s &&& 16777215) A2) (fun x5 => ?_)); refine C9 ?_; refine Ad f_ rfl A4 () (by first | rfl | (simp_all; done) | (simp_all; omega)) (fun w hs => hs.none)
theorem O9 (s : Nat) (i : Int) (hs : s < 4294967296) (hi : Ap i) : Spec prog 109 #[.int .u32 ((s : Nat) : Int), iv (i)] [] [] (fun _ : Unit => .int .u32 (((A3a s i) : Nat) : Int)) (fun _ => []) (fun _ => []) := by
 refine Cp ntmps109 fun B hB => ?_
 have hs24 := K8 s; refine Kb ?_; refine q0 rfl (Lj ?_ (a := s) (b := 16777215)); refine C9 ?_; refine Hc ?_; refine q0 rfl (A0 call195 (O2 i ) (fun x8 => ?_)); refine Fq ?_; refine Bu (!(decide (0 ≤ i) && decide (i < 24))) (fun h9 c9 => ?_) (fun h9 c9 => ?_)
 ·refine Gt ?_; refine Ad f_ rfl A4 () (by rw [A3a, if_neg (by simp at h9; omega)]) (fun w hs => hs.none)
 ·have hp := B0t (m := i.toNat) A2; refine Ov ?_; refine q0 rfl (Nr ?_ (m := i.toNat) (ha := by omega)); refine q0 rfl (B9d ?_ (a := 1) (m := i.toNat)); refine q0 rfl (Kh ?_ (a := s &&& 16777215) (b := 1 * 2 ^ (min i.toNat 32) % 4294967296) (ha := by omega) (hb := by exact Nat.mod_lt _ A2)); refine C9 ?_; refine Ad f_ rfl A4 () (by rw [A3a, if_pos A2, show min i.toNat 32 = i.toNat by omega, Nat.one_mul, Nat.mod_eq_of_lt A2]) (fun w hs => hs.none)
theorem D3e   : Spec prog 124 #[] [] [] (fun x : SH => sl x 1) (fun x : SH => []) (fun x : SH => [Am 2 107 x 1 (A6 [B8])]) := by
 refine Cp ntmps124 fun B hB => ?_
 refine B9 ?_; refine Ax ?_; refine q0 rfl (B7 (cs := [.int .u32 ((((⟨0, 0⟩ : Cl)).pos : Nat) : Int), .int .u32 ((((⟨0, 0⟩ : Cl)).neg : Nat) : Int)]) ?_); refine q0 rfl (D0 fun b2 => ?_); refine C9 ?_; refine Ad f_ rfl A4 (some ⟨b2, 0, none⟩, 1) rfl (fun w hs => (((hs.l7)).He (sz := 2) (m := 1) rfl Jk))
theorem D6c (i : Int) (hi : Ap i) : Spec prog 61 #[iv (i)] [] [] (fun x : SH => .tuple #[sl x (Py i).2.length, iv (Py i).1]) (fun x : SH => []) (fun x : SH => [Am 2 107 x (Py i).2.length (A6 (Py i).2)]) := by
 refine Cp ntmps61 fun B hB => ?_
 have hbl := Kr i; refine Db ?_; refine Hc ?_; refine q0 rfl (A0 call109 ((by have h := O9 0 i A2 hi; rw [Lw] at h; exact h)) (fun x5 => ?_)); refine q0 rfl (A0 call108 (Vk (Fl i) A2) (fun x6 => ?_)); refine q0 rfl (Yi ?_ (a := ((R0 (Fl i &&& 16777215) : Nat) : Int)) (b := 0)); refine Ig ?_; refine Bu (decide (((R0 (Fl i &&& 16777215) : Nat) : Int) = 0)) (fun h7 c7 => ?_) (fun h7 c7 => ?_)
 ·have hg : Py i = (2, []) := by rw [Py, if_neg (by rw [A3u] at h7; simp at h7; simp [h7])]
  refine Db ?_; refine B1 f_ rfl A4 A4 (none, 0) (by rw [hg]; rfl) (fun w hs => by rw [hg]; exact ((hs.l7).bare.C7 2 107))
 ·have hg : Py i = (0, [⟨Fl i, 0⟩]) := by rw [Py, if_pos (by rw [A3u] at h7; simpa using h7)]
  refine N8 ?_; refine q0 rfl (A0 call109 ((by have h := O9 0 i A2 hi; rw [Lw] at h; exact h)) (fun x9 => ?_)); refine q0 rfl (B7 (cs := [.int .u32 ((((⟨(Fl i), 0⟩ : Cl)).pos : Nat) : Int), .int .u32 ((((⟨(Fl i), 0⟩ : Cl)).neg : Nat) : Int)]) ?_); refine q0 rfl (D0 fun b11 => ?_); refine Ku ?_; refine B1 f_ rfl A4 A4 (some ⟨b11, 0, none⟩, 1) (by rw [hg]; rfl) (fun w hs => by rw [hg]; exact (((hs.l7)).He (sz := 2) (m := 1) rfl Jk))
theorem C6h (f : List Cl) (a_f : SH) (g : List Cl) (a_g : SH) (hlf : f.length ≤ 1000) (hlg : g.length ≤ 1000) : Spec prog 204 #[sl a_f (f.length), sl a_g (g.length)] [CL f a_f, CL g a_g] [] (fun x : SH => .tuple #[sl x (Kj f g).2.length, iv (Kj f g).1]) (fun x : SH => []) (fun x : SH => [Am 2 107 x (Kj f g).2.length (A6 (Kj f g).2)]) := by
 refine Cp ntmps204 fun B hB => ?_
 refine A5 (l := f) (a := a_f) (fun hl1 hA1 hU1 => ?_); refine A5 (l := g) (a := a_g) (fun hl2 hA2 hU2 => ?_); refine C8 (p := Al f) (fun w hs => C4 (hs.facts (CL f a_f) D7)) (fun hk_f => ?_); refine C8 (p := Al g) (fun w hs => C4 (hs.facts (CL g a_g) D7)) (fun hk_g => ?_); refine Db ?_; refine N9 ?_; refine Aj (X := Nat × SH × List Cl) (fun s_ => s_.1 ≤ f.length ∧ s_.2.2 = Ki (f.take s_.1) g) (fun s_ => [(1, sl a_g (g.length)), (6, sl s_.2.1 (s_.2.2.length)), (11, sl a_f (f.length)), (12, iv ((f.length : Int))), (13, iv ((s_.1 : Int)))]) (fun s_ G_ => G_) (fun s_ => [Am 2 107 s_.2.1 (s_.2.2.length) (A6 s_.2.2)]) (fun s_ => f.length - s_.1) (0, (none, 0), []) (⟨Nat.zero_le _, rfl⟩) (by exact Cm) ?_ ?_
 ·exact fun w hs => (hs.C7 2 107)
 ·intro ⟨i, a, l⟩ base0 ⟨hi, hl9⟩ next0; dsimp only at  hi  hl9  next0 ⊢; refine E9 ?_; refine Bu (decide ((i : Int) < (f.length : Int))) (fun h14 c14 => ?_) (fun h14 c14 => ?_)
  ·have hui := hk_f.1 _ (A9 (d := B8) (show i < f.length by omega)); refine G3 ?_; obtain ⟨bk3, o3, hav3⟩ := hA1 (by (first | assumption | omega)); refine q0 rfl (Cq ?_ (j := i)); refine On ?_; refine q0 rfl (Ba fun b8 => ?_); refine Ff ?_; refine Et ?_; refine Xp ?_; refine Aj (X := Nat × SH × List Cl) (fun s_ => s_.1 ≤ g.length ∧ s_.2.2 = Ki (f.take i) g ++ (g.take s_.1).map fun b => Dq (f.getD i B8) b) (fun s_ => [(1, sl a_g (g.length)), (6, sl s_.2.1 (s_.2.2.length)), (8, pz b8), (11, sl a_f (f.length)), (12, iv ((f.length : Int))), (13, iv ((i : Int))), (17, sl a_g (g.length)), (18, iv ((g.length : Int))), (19, iv ((s_.1 : Int)))]) (fun s_ G_ => G_) (fun s_ => [Aa b8 (Ak (f.getD i B8)) 107, Am 2 107 s_.2.1 (s_.2.2.length) (A6 s_.2.2)]) (fun s_ => g.length - s_.1) (0, a, l) (⟨Nat.zero_le _, by rw [hl9]; simp⟩) (by exact Cm) ?_ ?_
   ·exact fun w hs => hs
   ·intro ⟨k, a2, l2⟩ base1 ⟨hk, hl8⟩ next1; dsimp only at  hk  hl8  next1 ⊢; refine E9 ?_; refine Bu (decide ((k : Int) < (g.length : Int))) (fun h20 c20 => ?_) (fun h20 c20 => ?_)
    ·have huk := hk_g.1 _ (A9 (d := B8) (show k < g.length by omega)); have hum := Jx hui huk; have hll : l2.length ≤ 1001000 := by rw [hl8, List.length_append, Yk, List.length_map, List.length_take, List.length_take]; have h9 := Nat.mul_le_mul (show min i f.length ≤ 999 by omega) hlg; omega
     refine G3 ?_; obtain ⟨bk4, o4, hav4⟩ := hA2 (by (first | assumption | omega)); refine q0 rfl (Cq ?_ (j := k)); refine On ?_; refine q0 rfl (Ba fun b10 => ?_); refine Ff ?_; refine Dy ?_; refine Gw ?_; refine Gw ?_; refine q0 rfl (A0 call251 (Si (f.getD i B8) (g.getD k B8) Hx Hx) (fun x26 => ?_)); refine q0 rfl (D0 fun b27 => ?_); refine q0 rfl (E0 (fun a28 => ?_) (a := a2) (n' := l2.length)); refine An (fun w hs => ((hs.perm Ao).drop).Up (c := (Dq (f.getD i B8) (g.getD k B8)))) ?_; refine P4 ?_; refine A1 (fun w hs => ?_) (next1 (k + 1, a28, l2 ++ [Dq (f.getD i B8) (g.getD k B8)]) _ (⟨by omega, by rw [hl8, Ah (d := B8) (l := g) A2, List.map_append, List.append_assoc]; rfl⟩) (by (try simp only); omega) ⟨rfl, (by rw [List.length_append]; rfl), rfl, rfl, rfl, rfl, rfl, rfl, rfl, trivial⟩); have e1 : (l2 ++ [Dq (f.getD i B8) (g.getD k B8)]).length = l2.length + 1 := by simp
     rw [e1]; exact (((hs.l9).perm Bi).Cb (A := [_, _]))
    ·have hk9 : k = g.length := by omega
     refine D2 ?_; refine Q7 ?_; refine A1 (fun w hs => ?_) (next0 (i + 1, a2, l2) _ (⟨by omega, by rw [hl8, Ah (d := B8) A2, A8k, hk9, List.take_length]⟩) (by (try simp only); omega) Cm); exact (((hs.l9).perm Ao).Cb (A := [_]))
  ·have hi9 : i = f.length := by omega
   have hlm : l = Ki f g := by rw [hl9, hi9, List.take_length]
   have hlen : l.length ≤ 1000000 := by rw [hlm, Yk]; have h9 := Nat.mul_le_mul hlf hlg; omega
   refine D2 ?_; refine Ec ?_; refine A1 (fun w hs => (hs.D5 hB rfl (rfl) (by unfold reach; omega) (fun c hc => Xw hk_f.1 hk_g.1 c (by rw [← hlm]; exact hc)))) ?_; refine Dy ?_; refine q0 rfl (A0 call110 (K4 (l) a) (fun x32 => ?_)); refine Jg ?_; have hg : Kj f g = Bc l := by rw [hlm]; rfl
   refine B1 f_ rfl A4 A4 x32 (by rw [hg]; rfl) (fun w hs => by rw [hg]; exact (hs.l7))
theorem D4n (f : List Cl) (a_f : SH) (g : List Cl) (a_g : SH) (hlf : f.length ≤ 1000000) (hlg : g.length ≤ 1000000) : Spec prog 205 #[sl a_f (f.length), sl a_g (g.length)] [CL f a_f, CL g a_g] [] (fun x : SH => .tuple #[sl x (J2 f g).2.length, iv (J2 f g).1]) (fun x : SH => []) (fun x : SH => [Am 2 107 x (J2 f g).2.length (A6 (J2 f g).2)]) := by
 refine Cp ntmps205 fun B hB => ?_
 refine A5 (l := f) (a := a_f) (fun hl1 hA1 hU1 => ?_); refine A5 (l := g) (a := a_g) (fun hl2 hA2 hU2 => ?_); refine C8 (p := Al f) (fun w hs => C4 (hs.facts (CL f a_f) D7)) (fun hk_f => ?_); refine C8 (p := Al g) (fun w hs => C4 (hs.facts (CL g a_g) D7)) (fun hk_g => ?_); refine Db ?_; refine Ax ?_; refine q0 rfl (A8h fun b6 => ?_); refine En ?_; refine An (fun w hs => hs.He (sz := 2) (m := 0) rfl Jk) ?_; refine q0 rfl (M6 (fun a8 => ?_) D7 (a := (some ⟨b6, 0, none⟩, 0)) (n' := 0) (b := a_f) (ls := f)); refine An (fun w hs => hs.J3 (l := []) (m := f)) ?_; refine En ?_; refine q0 rfl (M6 (fun a10 => ?_) D7 (a := a8) (n' := 0 + f.length) (b := a_g) (ls := g)); refine An (fun w hs => hs.J3 (l := ([] ++ f)) (m := g)) ?_; refine An (fun w hs => (hs.D5 (l := f ++ g) hB rfl D7 (by unfold reach; omega) (Ug hk_f.1 hk_g.1))) ?_; refine q0 rfl (A0 call110 ((by have h := K4 (f ++ g) a10; rw [show (f ++ g).length = 0 + f.length + g.length by simp] at h; exact h)) (fun x11 => ?_)); refine Jg ?_; refine B1 f_ rfl A4 A4 x11 rfl (fun w hs => (hs.l7))
theorem D1t (f : List Cl) (a_f : SH) (g : List Cl) (a_g : SH) (hlf : f.length ≤ 1000000) (hlg : g.length ≤ 1000000) : Spec prog 237 #[sl a_f (f.length), sl a_g (g.length)] [CL f a_f, CL g a_g] [] (fun x : SH => .tuple #[sl x (J2 f g).2.length, iv (J2 f g).1]) (fun x : SH => []) (fun x : SH => [Am 2 107 x (J2 f g).2.length (A6 (J2 f g).2)]) := by
 refine Cp ntmps237 fun B hB => ?_
 refine A5 (l := f) (a := a_f) (fun hl1 hA1 hU1 => ?_); refine A5 (l := g) (a := a_g) (fun hl2 hA2 hU2 => ?_); refine C8 (p := Al f) (fun w hs => C4 (hs.facts (CL f a_f) D7)) (fun hk_f => ?_); refine C8 (p := Al g) (fun w hs => C4 (hs.facts (CL g a_g) D7)) (fun hk_g => ?_); refine Db ?_; refine Ax ?_; refine q0 rfl (A8h fun b6 => ?_); refine En ?_; refine An (fun w hs => hs.He (sz := 2) (m := 0) rfl Jk) ?_; refine q0 rfl (M6 (fun a8 => ?_) D7 (a := (some ⟨b6, 0, none⟩, 0)) (n' := 0) (b := a_f) (ls := f)); refine An (fun w hs => hs.J3 (l := []) (m := f)) ?_; refine En ?_; refine q0 rfl (M6 (fun a10 => ?_) D7 (a := a8) (n' := 0 + f.length) (b := a_g) (ls := g)); refine An (fun w hs => hs.J3 (l := ([] ++ f)) (m := g)) ?_; refine An (fun w hs => (hs.D5 (l := f ++ g) hB rfl D7 (by unfold reach; omega) (Ug hk_f.1 hk_g.1))) ?_; refine q0 rfl (A0 call110 ((by have h := K4 (f ++ g) a10; rw [show (f ++ g).length = 0 + f.length + g.length by simp] at h; exact h)) (fun x11 => ?_)); refine Jg ?_; refine B1 f_ rfl A4 A4 x11 rfl (fun w hs => (hs.l7))
theorem D6y (c : Cl) (hc : u32 c) : Spec prog 256 #[Ei c] [O8] [] (fun x : SH => .tuple #[sl x (A4d c).2.length, iv (A4d c).1]) (fun x : SH => []) (fun x : SH => [Am 2 107 x (A4d c).2.length (A6 (A4d c).2)]) := by
 refine Cp ntmps256 fun B hB => ?_
 have hc1 := hc.1; have hc2 := hc.2; have hl1 : (Ag c.pos).length ≤ 24 := Gh _ _; have hl2 : (Ag c.neg).length ≤ 24 := Gh _ _; refine Ax ?_; refine q0 rfl (Au fun b1 => ?_); refine Ku ?_; refine B9 ?_; refine Ec ?_; refine E3 ?_; refine q0 rfl (A0 call123 (Jq c.pos hc1) (fun x11 => ?_)); refine Gk ?_; refine C2q ?_; refine G0 (l := (Ag c.pos)) (a := x11) (fun hl1 hA1 hU1 => ?_); refine Zj ?_; refine Aj (X := Nat × SH × List Cl) (fun s_ => s_.1 ≤ (Ag c.pos).length ∧ s_.2.2 = (((Ag c.pos).take s_.1).map fun j => (⟨0, Fl j⟩ : Cl))) (fun s_ => [(1, pz b1), (4, sl s_.2.1 (s_.2.2.length)), (11, sl x11 (((Ag c.pos)).length)), (12, iv ((((Ag c.pos)).length : Int))), (13, iv ((s_.1 : Int)))]) (fun s_ G_ => G_) (fun s_ => [Am 2 107 s_.2.1 (s_.2.2.length) (A6 s_.2.2), Aa b1 (Ak c) 107]) (fun s_ => (Ag c.pos).length - s_.1) (0, (none, 0), []) (⟨Nat.zero_le _, rfl⟩) (by exact Cm) ?_ ?_
 ·exact fun w hs => (hs.C7 2 107)
 ·intro ⟨i, a, l⟩ base0 ⟨hi, hl9⟩ next0; dsimp only at  hi  hl9  next0 ⊢; refine E9 ?_; refine Bu (decide ((i : Int) < (((Ag c.pos)).length : Int))) (fun h14 c14 => ?_) (fun h14 c14 => ?_)
  ·have hll : l.length ≤ 24 := by rw [hl9, List.length_map, List.length_take]; omega
   have hbl := Kr ((Ag c.pos).getD i 0); refine G3 ?_; obtain ⟨bk2, o2, hav2⟩ := hA1 (by (first | assumption | omega)); refine q0 rfl (Cq ?_ (j := i)); refine A2p ?_; refine C9 ?_; refine Qc ?_; refine q0 rfl (A0 call109 ((by have h := O9 0 ((Ag c.pos).getD i 0) A2 (A4x (s := c.pos) (i := i) A2); rw [Lw] at h; exact h)) (fun x19 => ?_)); refine q0 rfl (B7 (cs := [.int .u32 ((((⟨0, (Fl ((Ag c.pos).getD i 0))⟩ : Cl)).pos : Nat) : Int), .int .u32 ((((⟨0, (Fl ((Ag c.pos).getD i 0))⟩ : Cl)).neg : Nat) : Int)]) ?_); refine q0 rfl (D0 fun b21 => ?_); refine q0 rfl (E0 (fun a22 => ?_) (a := a) (n' := l.length)); refine An (fun w hs => ((hs.perm Ao).drop).Up (c := (⟨0, (Fl ((Ag c.pos).getD i 0))⟩ : Cl))) ?_; refine P4 ?_; refine A1 (fun w hs => ?_) (next0 (i + 1, a22, l ++ [(⟨0, Fl ((Ag c.pos).getD i 0)⟩ : Cl)]) _ (⟨by omega, by rw [hl9, Ah (d := 0) A2, List.map_append]; rfl⟩) (by (try simp only); omega) ⟨rfl, (by rw [List.length_append]; rfl), rfl, rfl, rfl, trivial⟩); have e1 : (l ++ [(⟨0, Fl ((Ag c.pos).getD i 0)⟩ : Cl)]).length = l.length + 1 := by simp
   rw [e1]; exact (((hs.l9).perm Ao).perm Ao)
  ·have hi9 : i = (Ag c.pos).length := by omega
   rw [hi9, List.take_length] at hl9; subst hl9; refine D2 ?_; refine Ec ?_; refine E3 ?_; refine q0 rfl (A0 call123 (Jq c.neg hc2) (fun x26 => ?_)); refine Gk ?_; refine C2q ?_; refine G0 (l := (Ag c.neg)) (a := x26) (fun hl3 hA3 hU3 => ?_); refine Zj ?_; refine Aj (X := Nat × SH × List Cl) (fun s_ => s_.1 ≤ (Ag c.neg).length ∧ s_.2.2 = ((Ag c.pos).map fun j => (⟨0, Fl j⟩ : Cl)) ++ (((Ag c.neg).take s_.1).map fun j => (⟨Fl j, 0⟩ : Cl))) (fun s_ => [(4, sl s_.2.1 (s_.2.2.length)), (26, sl x26 (((Ag c.neg)).length)), (27, iv ((((Ag c.neg)).length : Int))), (28, iv ((s_.1 : Int)))]) (fun s_ G_ => G_) (fun s_ => [Am 2 107 s_.2.1 (s_.2.2.length) (A6 s_.2.2), Aa b1 (Ak c) 107]) (fun s_ => (Ag c.neg).length - s_.1) (0, a, ((Ag c.pos).map fun j => (⟨0, Fl j⟩ : Cl))) (⟨Nat.zero_le _, by simp⟩) (by exact Cm) ?_ ?_
   ·exact fun w hs => hs
   ·intro ⟨i, a2, l⟩ base1 ⟨hi, hl8⟩ next1; dsimp only at  hi  hl8  next1 ⊢; refine E9 ?_; refine Bu (decide ((i : Int) < (((Ag c.neg)).length : Int))) (fun h29 c29 => ?_) (fun h29 c29 => ?_)
    ·have hll : l.length ≤ 48 := by rw [hl8, List.length_append, List.length_map, List.length_map, List.length_take]; omega
     have hbl := Kr ((Ag c.neg).getD i 0); refine G3 ?_; obtain ⟨bk4, o4, hav4⟩ := hA3 (by (first | assumption | omega)); refine q0 rfl (Cq ?_ (j := i)); refine A2p ?_; refine C9 ?_; refine Qc ?_; refine q0 rfl (A0 call109 ((by have h := O9 0 ((Ag c.neg).getD i 0) A2 (A4x (s := c.neg) (i := i) A2); rw [Lw] at h; exact h)) (fun x34 => ?_)); refine q0 rfl (B7 (cs := [.int .u32 ((((⟨(Fl ((Ag c.neg).getD i 0)), 0⟩ : Cl)).pos : Nat) : Int), .int .u32 ((((⟨(Fl ((Ag c.neg).getD i 0)), 0⟩ : Cl)).neg : Nat) : Int)]) ?_); refine q0 rfl (D0 fun b36 => ?_); refine q0 rfl (E0 (fun a37 => ?_) (a := a2) (n' := l.length)); refine An (fun w hs => ((hs.perm Ao).drop).Up (c := (⟨(Fl ((Ag c.neg).getD i 0)), 0⟩ : Cl))) ?_; refine P4 ?_; refine A1 (fun w hs => ?_) (next1 (i + 1, a37, l ++ [(⟨Fl ((Ag c.neg).getD i 0), 0⟩ : Cl)]) _ (⟨by omega, by rw [hl8, Ah (d := 0) A2, List.map_append, List.append_assoc]; rfl⟩) (by (try simp only); omega) ⟨(by rw [List.length_append]; rfl), rfl, rfl, rfl, trivial⟩); have e1 : (l ++ [(⟨Fl ((Ag c.neg).getD i 0), 0⟩ : Cl)]).length = l.length + 1 := by simp
     rw [e1]; exact (((hs.l9).perm Ao).perm Ao)
    ·have hi8 : i = (Ag c.neg).length := by omega
     have hlo : l = B4e c := by rw [hl8, hi8, List.take_length]; rfl
     have hlen := B8v c; refine D2 ?_; refine Ec ?_; refine A1 (fun w hs => (((hs.perm Ao).perm Ao).D5 hB rfl (rfl) (by rw [hlo]; unfold reach; omega) (fun d hd => B0j c d (by rw [← hlo]; exact hd)))) ?_; refine Dy ?_; refine q0 rfl (A0 call110 (K4 (l) a2) (fun x40 => ?_)); refine Jg ?_; have hg : A4d c = Bc l := by rw [hlo]; rfl
     refine B1 f_ rfl A4 A4 x40 (by rw [hg]; rfl) (fun w hs => by rw [hg]; exact ((hs.l7).Cb (A := [_])))
theorem D3t (h : List Cl) (a_h : SH) (c : Cl) (hc : u32 c) (hlh : h.length ≤ 64) : Spec prog 255 #[sl a_h (h.length), Ei c] [O8, CL h a_h] [] (fun x : SH => .tuple #[sl x (E5 h c).2.length, iv (E5 h c).1]) (fun x : SH => []) (fun x : SH => [Am 2 107 x (E5 h c).2.length (A6 (E5 h c).2)]) := by
 refine Cp ntmps255 fun B hB => ?_
 refine A5 (l := h) (a := a_h) (fun hl1 hA1 hU1 => ?_); refine C8 (p := Al h) (fun w hs => C4 (hs.facts (CL h a_h) D7)) (fun hk_h => ?_); refine Ax ?_; refine q0 rfl (Au fun b3 => ?_); refine Ku ?_; refine Dc ?_; obtain ⟨r1, hr1⟩ : ∃ q9 : EL, q9 = A4d c := ⟨_, rfl⟩; refine q0 rfl (A0 call256 (Spec.Ni hr1 (D6y c hc) (B1e c)) (fun x10 => ?_)); refine I7 ?_; refine Bu (decide (r1.1 ≠ 0)) (fun h14 c14 => ?_) (fun h14 c14 => ?_)
 ·have hg : E5 h c = (r1.1, []) := by unfold E5; rw [← hr1]; exact Bq (by simpa using h14)
  refine H4 ?_; refine B1 f_ rfl A4 A4 (none, 0) (by rw [hg]; rfl) (fun w hs => by rw [hg]; exact ((hs.l7).bare.C7 2 107))
 ·have hg2 : E5 h c = Kj h r1.2 := by unfold E5; rw [← hr1]; exact Cg (by simpa using h14)
  refine Ov ?_; obtain ⟨r2, hr2⟩ : ∃ q9 : EL, q9 = Kj h r1.2 := ⟨_, rfl⟩; refine q0 rfl (A0 call204 (Spec.Ou hr2 (C6h h a_h r1.2 x10 A2 (by rw [hr1]; exact Nat.le_trans (Js (B4e c)) Jk))) (fun x18 => ?_)); refine Jg ?_; have hg := hg2.trans hr2.symm; refine B1 f_ rfl A4 A4 x18 (by rw [hg]; rfl) (fun w hs => by rw [hg]; exact ((hs.l7).Cb (A := [_])))
set_option maxHeartbeats 4000000 in
theorem C1f (l : List Cl) (a_l : SH) (z : List Cl) (a_z : SH) (hkz : Al z) (hlz : z.length ≤ 64) : Spec prog 167 #[sl a_l (l.length), sl a_z (z.length), .func (.func 255) #[] #[]] [O8, CL l a_l] [Am 2 107 a_z (z.length) (A6 z)] (fun x : SH => .tuple #[sl x (Cw (E5) z l).2.length, iv (Cw (E5) z l).1]) (fun x : SH => []) (fun x : SH => [Am 2 107 x (Cw (E5) z l).2.length (A6 (Cw (E5) z l).2)]) := by
 rw [show (#[sl a_l (l.length), sl a_z (z.length), .func (.func 255) #[] #[]] : Array Value) = ([sl a_l (l.length), sl a_z (z.length), .func (.func 255) #[] #[]] : List Value).toArray from rfl]; refine Fj func167 ntmps167 rfl Yr fun B hB => ?_
 refine A5 (l := l) (a := a_l) (fun hl1 hA1 hU1 => ?_); refine C8 (p := Al l) (fun w hs => C4 (hs.facts (CL l a_l) D7)) (fun hk_l => ?_); refine N7 ?_; refine Aj (X := Nat × SH × List Cl) (fun s_ => s_.1 ≤ l.length ∧ Cw (E5) z (l.take s_.1) = (0, s_.2.2) ∧ Al s_.2.2 ∧ s_.2.2.length ≤ 64) (fun s_ => [(1, sl s_.2.1 (s_.2.2.length)), (2, .func (.func 255) #[] #[]), (13, sl a_l (l.length)), (14, iv ((l.length : Int))), (15, iv ((s_.1 : Int)))]) (fun s_ G_ => G_) (fun s_ => [Am 2 107 s_.2.1 (s_.2.2.length) (A6 s_.2.2)]) (fun s_ => l.length - s_.1) (0, a_z, z) (⟨Nat.zero_le _, rfl, hkz, hlz⟩) (by exact Cm) ?_ ?_
 ·exact fun w hs => hs
 ·intro ⟨i, a, hv⟩ base0 ⟨hi9, hf9, hk9, hl9⟩ next0; dsimp only at  hi9  hf9  hk9  hl9  next0 ⊢; refine E9 ?_; refine Bu (decide ((i : Int) < (l.length : Int))) (fun h16 c16 => ?_) (fun h16 c16 => ?_)
  ·have hui := hk_l.1 _ (A9 (d := B8) (show i < l.length by omega)); refine G3 ?_; obtain ⟨bk2, o2, hav2⟩ := hA1 (by (first | assumption | omega)); refine q0 rfl (Cq ?_ (j := i)); refine On ?_; refine q0 rfl (Ba fun b9 => ?_); refine Ju ?_; refine A1 (fun w hs => ((hs.perm Ao).D5 hB rfl (rfl) (hk9.2) (hk9.1))) ?_; refine Qc ?_; refine Gw ?_; obtain ⟨r3, hr3⟩ : ∃ q9 : EL, q9 = (E5) hv (l.getD i B8) := ⟨_, rfl⟩; refine q0 rfl (Cn call255 (Spec.Ou hr3 (D3t hv a (l.getD i B8) hui hl9)) (cap := []) (fun x23 => ?_)); refine I7 ?_; refine Bu (decide (r3.1 ≠ 0)) (fun h27 c27 => ?_) (fun h27 c27 => ?_)
   ·refine N6 ?_; have hg : (Cw (E5) z l) = (r3.1, []) := by rw [Sl A2 hf9 (by rw [← hr3]; simpa using h27), ← hr3]
    refine B1 f_ rfl A4 A4 (none, 0) (by rw [hg]; rfl) (fun w hs => by rw [hg]; exact ((hs.l7).bare.C7 2 107))
   ·refine N5 ?_; refine A1 (fun w hs => ?_) (next0 (i + 1, x23, r3.2) _ (⟨by omega, by rw [W4 A2 hf9 (by rw [← hr3]; simpa using h27), ← hr3], by rw [hr3]; exact Tg hk9, by rw [hr3]; exact A5b _ _⟩) (by (try simp only); omega) Cm); exact ((hs.l9).Cb (A := [_]))
  ·refine N4 ?_; have hg : (Cw (E5) z l) = (0, hv) := Sm A2 hf9; refine B1 f_ rfl A4 A4 a (by rw [hg]; rfl) (fun w hs => by rw [hg]; exact (hs.l7))
theorem D7c (l : List Cl) (a_l : SH)  : Spec prog 203 #[sl a_l (l.length)] [O8, CL l a_l] [] (fun x : SH => .tuple #[sl x (A0v l).2.length, iv (A0v l).1]) (fun x : SH => []) (fun x : SH => [Am 2 107 x (A0v l).2.length (A6 (A0v l).2)]) := by
 refine Cp ntmps203 fun B hB => ?_
 refine A5 (l := l) (a := a_l) (fun hl1 hA1 hU1 => ?_); refine Db ?_; refine Et ?_; refine q0 rfl (A0 call124 (D3e) (fun x5 => ?_)); refine q0 rfl (A0 call167 (C1f l a_l [B8] x5 Ij Jk) (fun x6 => ?_)); refine Jg ?_; refine B1 f_ rfl A4 A4 x6 rfl (fun w hs => (hs.l7))
theorem C6g (l : List Cl) (a_l : SH)  : Spec prog 114 #[sl a_l (l.length)] [O8, CL l a_l] [] (fun x : SH => .tuple #[sl x (Mw l).2.length, iv (Mw l).1]) (fun x : SH => []) (fun x : SH => [Am 2 107 x (Mw l).2.length (A6 (Mw l).2)]) := by
 refine Cp ntmps114 fun B hB => ?_
 refine A5 (l := l) (a := a_l) (fun hl1 hA1 hU1 => ?_); refine Db ?_; refine Hc ?_; refine q0 rfl (D0 fun b6 => ?_); refine An (fun w hs => (hs.C6i hB Di)) ?_; refine q0 rfl (A0 call166 (Md [(l, a_l)] (some ⟨b6, 0, none⟩, 1)) (fun x7 => ?_)); refine L6 ?_; refine Bu (decide ((if [(l, a_l)].all (fun p => Ab p.1) then (0 : Int) else 2) ≠ 0)) (fun h9 c9 => ?_) (fun h9 c9 => ?_)
 ·have hg : Mw l = (2, []) := by rw [Mw, if_neg (by simpa using h9)]
  have h8 : (if [(l, a_l)].all (fun p => Ab p.1) then (0 : Int) else 2) = 2 := by simpa using h9
  refine H4 ?_; refine B1 f_ rfl A4 A4 (none, 0) (by rw [hg]; (conv => lhs; whnf; rw [h8]); rfl) (fun w hs => by rw [hg]; exact ((hs.l7).bare.C7 2 107))
 ·have hg2 : Mw l = A0v l := by rw [Mw, if_pos (by simpa using h9)]
  refine N8 ?_; obtain ⟨r2, hr2⟩ : ∃ q9 : EL, q9 = A0v l := ⟨_, rfl⟩; refine q0 rfl (A0 call203 (Spec.Ou hr2 (D7c l a_l)) (fun x12 => ?_)); refine Jg ?_; have hg := hg2.trans hr2.symm; refine B1 f_ rfl A4 A4 x12 (by rw [hg]; rfl) (fun w hs => by rw [hg]; exact (hs.l7))
theorem W7 (l : List CP) (a_l : SH)  : Spec prog 242 #[sl a_l (l.length)] [Ir l a_l] [] (fun _ : Unit => iv ((if l.all (fun p => A7 p.1) then 0 else 2))) (fun _ => []) (fun _ => []) := by
 refine Cp ntmps242 fun B hB => ?_
 refine N9 ?_; refine Aj (X := Nat) (fun s_ => s_ ≤ l.length ∧ ∀ j, j < s_ → A7 (l.getD j Bv).1 = true) (fun s_ => [(5, sl a_l (l.length)), (6, iv ((l.length : Int))), (7, iv ((s_ : Int)))]) (fun s_ G_ => G_) (fun s_ => []) (fun s_ => l.length - s_) (0) (⟨Nat.zero_le _, fun j hj => absurd hj (Nat.not_lt_zero _)⟩) (by exact Cm) ?_ ?_
 ·exact fun w hs => hs
 ·intro i base0 ⟨hi, hok⟩ next0; refine E9 ?_; refine Bu (decide ((i : Int) < (l.length : Int))) (fun h8 c8 => ?_) (fun h8 c8 => ?_)
  ·refine Eu ?_; refine Dh (l := l) (a := a_l) (bt := 24) (F := Be) (E := J6) (d := Bv) Di (fun hl1 hA1 => ?_); refine G5 (l := l) (a := a_l) (bt := 24) (F := Be) (E := J6) (d := Bv) Di i A2 ?_; refine L2 ?_; obtain ⟨bk2, o2, hav2⟩ := hA1 A2; refine q0 rfl (Cq ?_ (j := i)); refine A2o ?_; refine A2w ?_; refine q0 rfl (A0 call193 (O1 (((l).getD i Bv).1) (((l).getD i Bv).2) ) (fun x12 => ?_)); refine Fq ?_; refine Bu (!(A7 (((l).getD i Bv).1))) (fun h13 c13 => ?_) (fun h13 c13 => ?_)
   ·refine B9 ?_; refine Ad f_ rfl A4 () (by rw [if_neg (by rw [I2 (d := Bv) (i := i) A2 (by simpa using h13)]; decide)]) (fun w hs => hs.none)
   ·refine Ib ?_; refine A1 (fun w hs => ?_) (next0 (i + 1) _ (⟨by omega, fun j hj => by rcases Nat.lt_succ_iff_lt_or_eq.mp hj with h | h; exact hok j h; subst h; simpa using h13⟩) A2 Cm); exact (hs.l9)
  ·refine H3 ?_; refine Ad f_ rfl A4 () (by rw [if_pos (J4 (d := Bv) (fun j hj => hok j A2))]) (fun w hs => hs.none)
theorem Z7 (c : Cl) (hc : u32 c) : Spec prog 241 #[Ei c] [] [] (fun _ : Unit => .tuple #[Ei c, .bool (!Je c)]) (fun _ => []) (fun _ => []) := by
 refine Cp ntmps241 fun B hB => ?_
 refine Ax ?_; refine q0 rfl (Au fun b1 => ?_); refine q0 rfl (Ba fun b2 => ?_); refine Fm ?_; refine Bo (pn := 1000000) (tn := false) (A := [0, 0, 2, 6, 7, 31]) (l := [0, 1, 2, 3, 4, 5]) (fin := []) Tab.mixed ⟨_, func241⟩ (by rfl) ?_; refine Mv ?_; refine Mv ?_; refine n0 rfl (B6 call248 (Wi c Hx) (fun x6 => ?_)); refine B2u ?_; refine n0 rfl (D6r ?_); refine Ql ?_; refine E4 f_ rfl () rfl Di rfl rfl rfl rfl rfl (fun w hs => hs.none)
theorem A5q (d : Cl) (g1 : Nat) (c : Cl) (hd : u32 d) (hc : u32 c) : Spec prog 272 #[Ei d, pz g1] [At g1 0 (Ak c)] [] (fun _ : Unit => .tuple #[Ei (Dq c d), .bool (!Je (Dq c d))]) (fun _ => []) (fun _ => []) := by
 refine Cp ntmps272 fun B hB => ?_
 have hm := Jx hc hd; refine Ax ?_; refine q0 rfl (Au fun b2 => ?_); refine q0 rfl (Ba fun b3 => ?_); refine Mm ?_; refine Ua ?_; refine Gw ?_; refine q0 rfl (A0 call251 (Si c d Hx Hx) (fun x7 => ?_)); refine q0 rfl (A0 call241 (Z7 (Dq c d) Hx) (fun x8 => ?_)); refine Zh ?_; refine Gv ?_; refine E4 f_ rfl () rfl Di rfl rfl rfl rfl rfl (fun w hs => hs.none)
theorem C0u (l : List Cl) (a_l : SH)  : Spec prog 240 #[sl a_l (l.length), .func (.func 241) #[] #[]] [CL l a_l] [] (fun x : SH => sl x (E7 l).length) (fun x : SH => []) (fun x : SH => [Am 2 107 x (E7 l).length (A6 (E7 l))]) := by
 rw [show (#[sl a_l (l.length), .func (.func 241) #[] #[]] : Array Value) = ([sl a_l (l.length), .func (.func 241) #[] #[]] : List Value).toArray from rfl]; refine Fj func240 ntmps240 rfl Yr fun B hB => ?_
 refine A5 (l := l) (a := a_l) (fun hl1 hA1 hU1 => ?_); refine C8 (p := Al l) (fun w hs => C4 (hs.facts (CL l a_l) D7)) (fun hk_l => ?_); refine B9 ?_; refine N9 ?_; refine Aj (X := Nat × SH × List Cl) (fun s_ => s_.1 ≤ l.length ∧ s_.2.2 = (E7 (l.take s_.1)) ∧ s_.2.2.length ≤ s_.1) (fun s_ => [(1, .func (.func 241) #[] #[]), (5, sl s_.2.1 (s_.2.2.length)), (10, sl a_l (l.length)), (11, iv ((l.length : Int))), (12, iv ((s_.1 : Int)))]) (fun s_ G_ => G_) (fun s_ => [Am 2 107 s_.2.1 (s_.2.2.length) (A6 s_.2.2)]) (fun s_ => l.length - s_.1) (0, (none, 0), []) (⟨Nat.zero_le _, rfl, Nat.le_refl _⟩) (by exact Cm) ?_ ?_
 ·exact fun w hs => (hs.C7 2 107)
 ·intro ⟨i, a, m⟩ base0 ⟨hi9, hm9, hn9⟩ next0; dsimp only at  hi9  hm9  hn9  next0 ⊢; refine E9 ?_; refine Bu (decide ((i : Int) < (l.length : Int))) (fun h13 c13 => ?_) (fun h13 c13 => ?_)
  ·have hui := hk_l.1 _ (A9 (d := B8) (show i < l.length by omega)); have hll := hk_l.2; have huq : u32 (l.getD i B8) := hui; refine G3 ?_; obtain ⟨bk2, o2, hav2⟩ := hA1 (by (first | assumption | omega)); refine q0 rfl (Cq ?_ (j := i)); refine On ?_; refine q0 rfl (Ba fun b7 => ?_); refine Ff ?_; refine Qi ?_; refine q0 rfl (Cn call241 (Z7 (l.getD i B8) hui) (cap := []) (fun x19 => ?_)); refine Ka ?_; refine q0 rfl (Ba fun b8 => ?_); refine Gv ?_; refine Et ?_; refine Ig ?_; refine Bu (!Je (l.getD i B8)) (fun h22 c22 => ?_) (fun h22 c22 => ?_)
   ·refine Dy ?_; refine Gw ?_; refine q0 rfl (D0 fun b25 => ?_); refine q0 rfl (E0 (fun a26 => ?_) (a := a) (n' := m.length)); refine An (fun w hs => ((hs.perm Ao).drop).Up (c := (l.getD i B8))) ?_; refine P4 ?_; refine A1 (fun w hs => ?_) (next0 (i + 1, a26, m ++ [(l.getD i B8)]) _ (⟨by omega, by rw [hm9, Ah (d := B8) A2]; generalize l.getD i B8 = x at h22 ⊢; simp [E7, h22], by simp; omega⟩) (by (try simp only); omega) ⟨rfl, (by rw [List.length_append]; rfl), rfl, rfl, rfl, trivial⟩); have e1 : (m ++ [(l.getD i B8)]).length = m.length + 1 := by simp
    rw [e1]; exact ((hs.l9).Cb (A := [_]))
   ·refine Ib ?_; refine A1 (fun w hs => ?_) (next0 (i + 1, a, m) _ (⟨by omega, by rw [hm9, Ah (d := B8) A2]; generalize l.getD i B8 = x at h22 ⊢; simp [E7, h22], by (try simp only); omega⟩) (by (try simp only); omega) Cm); exact (((hs.l9).perm Bi).Cb (A := [_]))
  ·refine D2 ?_; refine Gt ?_; have he : m = (E7 l) := by rw [hm9, show i = l.length by omega, List.take_length]
   refine Ad f_ rfl A4 a (by rw [← he]; rfl) (fun w hs => by rw [← he]; exact (hs.l7))
theorem C0t (l : List Cl) (a_l : SH) (c : Cl) (g1 : Nat) (hc : u32 c) : Spec prog 240 #[sl a_l (l.length), .func (.func 272) #[] [pz g1].toArray] [CL l a_l, At g1 0 (Ak c)] [] (fun x : SH => sl x (E7 (l.map fun b => Dq c b)).length) (fun x : SH => []) (fun x : SH => [Am 2 107 x (E7 (l.map fun b => Dq c b)).length (A6 (E7 (l.map fun b => Dq c b)))]) := by
 rw [show (#[sl a_l (l.length), .func (.func 272) #[] [pz g1].toArray] : Array Value) = ([sl a_l (l.length), .func (.func 272) #[] [pz g1].toArray] : List Value).toArray from rfl]; refine Fj func240 ntmps240 rfl Yr fun B hB => ?_
 refine A5 (l := l) (a := a_l) (fun hl1 hA1 hU1 => ?_); refine C8 (p := Al l) (fun w hs => C4 (hs.facts (CL l a_l) D7)) (fun hk_l => ?_); refine B9 ?_; refine N9 ?_; refine Aj (X := Nat × SH × List Cl) (fun s_ => s_.1 ≤ l.length ∧ s_.2.2 = (E7 ((l.take s_.1).map fun b => Dq c b)) ∧ s_.2.2.length ≤ s_.1) (fun s_ => [(1, .func (.func 272) #[] [pz g1].toArray), (5, sl s_.2.1 (s_.2.2.length)), (10, sl a_l (l.length)), (11, iv ((l.length : Int))), (12, iv ((s_.1 : Int)))]) (fun s_ G_ => G_) (fun s_ => [Am 2 107 s_.2.1 (s_.2.2.length) (A6 s_.2.2)]) (fun s_ => l.length - s_.1) (0, (none, 0), []) (⟨Nat.zero_le _, rfl, Nat.le_refl _⟩) (by exact Cm) ?_ ?_
 ·exact fun w hs => (hs.C7 2 107)
 ·intro ⟨i, a, m⟩ base0 ⟨hi9, hm9, hn9⟩ next0; dsimp only at  hi9  hm9  hn9  next0 ⊢; refine E9 ?_; refine Bu (decide ((i : Int) < (l.length : Int))) (fun h13 c13 => ?_) (fun h13 c13 => ?_)
  ·have hui := hk_l.1 _ (A9 (d := B8) (show i < l.length by omega)); have hll := hk_l.2; have huq : u32 (Dq c (l.getD i B8)) := Jx hc hui; refine G3 ?_; obtain ⟨bk2, o2, hav2⟩ := hA1 (by (first | assumption | omega)); refine q0 rfl (Cq ?_ (j := i)); refine On ?_; refine q0 rfl (Ba fun b7 => ?_); refine Ff ?_; refine Qi ?_; refine q0 rfl (Cn call272 (A5q (l.getD i B8) g1 c hui hc) (cap := [pz g1]) (fun x19 => ?_)); refine Ka ?_; refine q0 rfl (Ba fun b8 => ?_); refine Gv ?_; refine Et ?_; refine Ig ?_; refine Bu (!Je (Dq c (l.getD i B8))) (fun h22 c22 => ?_) (fun h22 c22 => ?_)
   ·refine Dy ?_; refine Gw ?_; refine q0 rfl (D0 fun b25 => ?_); refine q0 rfl (E0 (fun a26 => ?_) (a := a) (n' := m.length)); refine An (fun w hs => ((hs.perm Ao).drop).Up (c := (Dq c (l.getD i B8)))) ?_; refine P4 ?_; refine A1 (fun w hs => ?_) (next0 (i + 1, a26, m ++ [(Dq c (l.getD i B8))]) _ (⟨by omega, by rw [hm9, Ah (d := B8) A2]; generalize l.getD i B8 = x at h22 ⊢; simp [E7, h22], by simp; omega⟩) (by (try simp only); omega) ⟨rfl, (by rw [List.length_append]; rfl), rfl, rfl, rfl, trivial⟩); have e1 : (m ++ [(Dq c (l.getD i B8))]).length = m.length + 1 := by simp
    rw [e1]; exact ((hs.l9).Cb (A := [_]))
   ·refine Ib ?_; refine A1 (fun w hs => ?_) (next0 (i + 1, a, m) _ (⟨by omega, by rw [hm9, Ah (d := B8) A2]; generalize l.getD i B8 = x at h22 ⊢; simp [E7, h22], by (try simp only); omega⟩) (by (try simp only); omega) Cm); exact (((hs.l9).perm Bi).Cb (A := [_]))
  ·refine D2 ?_; refine Gt ?_; have he : m = (E7 (l.map fun b => Dq c b)) := by rw [hm9, show i = l.length by omega, List.take_length]
   refine Ad f_ rfl A4 a (by rw [← he]; rfl) (fun w hs => by rw [← he]; exact (hs.l7))
theorem ofO (f : List Cl) (a_f : SH)  : Spec prog 173 #[sl a_f (f.length)] [CL f a_f] [] (fun x : SH => .tuple #[sl x (ofF f).2.length, iv (ofF f).1]) (fun x : SH => []) (fun x : SH => [Am 2 107 x (ofF f).2.length (A6 (ofF f).2)]) := by
 refine Cp ntmps173 fun B hB => ?_
 refine A5 (l := f) (a := a_f) (fun hl1 hA1 hU1 => ?_); refine C8 (p := Al f) (fun w hs => C4 (hs.facts (CL f a_f) D7)) (fun hk_f => ?_); refine Db ?_; refine Hc ?_; refine q0 rfl (A0 call63 (F5 f a_f ) (fun x5 => ?_)); refine Fq ?_; refine Bu (!(Ab f)) (fun h6 c6 => ?_) (fun h6 c6 => ?_)
 ·have hg : ofF f = (2, []) := by rw [ofF, if_neg (by simp at h6; simp [h6])]
  refine Db ?_; refine B1 f_ rfl A4 A4 (none, 0) (by rw [hg]; rfl) (fun w hs => by rw [hg]; exact ((hs.l7).bare.C7 2 107))
 ·have hg : ofF f = Bc (E7 f) := by rw [ofF, if_pos (by simpa using h6)]
  refine N8 ?_; refine q0 rfl (A0 call240 (C0u f a_f) (fun x8 => ?_)); refine An (fun w hs => (hs.D5 hB rfl (rfl) ((Po hk_f).2) ((Po hk_f).1))) ?_; refine q0 rfl (A0 call110 (K4 (E7 f) x8) (fun x9 => ?_)); refine Jg ?_; refine B1 f_ rfl A4 A4 x9 (by rw [hg]; rfl) (fun w hs => by rw [hg]; exact (hs.l7))
theorem C3z (r : List Cl) (a_r : SH)  : Spec prog 174 #[sl a_r (r.length)] [O8, CL r a_r] [] (fun x : SH => .tuple #[sl x (Hz r).2.length, iv (Hz r).1]) (fun x : SH => []) (fun x : SH => [Am 2 107 x (Hz r).2.length (A6 (Hz r).2)]) := by
 refine Cp ntmps174 fun B hB => ?_
 refine A5 (l := r) (a := a_r) (fun hl1 hA1 hU1 => ?_); refine C8 (p := Al r) (fun w hs => C4 (hs.facts (CL r a_r) D7)) (fun hk_r => ?_); refine Db ?_; refine Et ?_; obtain ⟨r1, hr1⟩ : ∃ q9 : EL, q9 = Mw r := ⟨_, rfl⟩; refine q0 rfl (A0 call114 (Spec.Ni hr1 (C6g r a_r) (A4g r)) (fun x8 => ?_)); refine I7 ?_; refine Bu (decide (r1.1 ≠ 0)) (fun h12 c12 => ?_) (fun h12 c12 => ?_)
 ·have hg : Hz r = (r1.1, []) := by unfold Hz; rw [← hr1]; exact Bq (by simpa using h12)
  refine H4 ?_; refine B1 f_ rfl A4 A4 (none, 0) (by rw [hg]; rfl) (fun w hs => by rw [hg]; exact ((hs.l7).bare.C7 2 107))
 ·have hg2 : Hz r = ofF r1.2 := by unfold Hz; rw [← hr1]; exact Cg (by simpa using h12)
  refine N8 ?_; obtain ⟨r2, hr2⟩ : ∃ q9 : EL, q9 = ofF r1.2 := ⟨_, rfl⟩; refine q0 rfl (A0 call173 (Spec.Ou hr2 (ofO r1.2 x8)) (fun x15 => ?_)); refine Jg ?_; have hg := hg2.trans hr2.symm; refine B1 f_ rfl A4 A4 x15 (by rw [hg]; rfl) (fun w hs => by rw [hg]; exact (hs.l7))
theorem D1s (f : List Cl) (a_f : SH) (g : List Cl) (a_g : SH) (hlf : f.length ≤ 1000) (hlg : g.length ≤ 1000) : Spec prog 236 #[sl a_f (f.length), sl a_g (g.length)] [CL f a_f, CL g a_g] [] (fun x : SH => .tuple #[sl x (Mq f g).2.length, iv (Mq f g).1]) (fun x : SH => []) (fun x : SH => [Am 2 107 x (Mq f g).2.length (A6 (Mq f g).2)]) := by
 refine Cp ntmps236 fun B hB => ?_
 refine A5 (l := f) (a := a_f) (fun hl1 hA1 hU1 => ?_); refine A5 (l := g) (a := a_g) (fun hl2 hA2 hU2 => ?_); refine C8 (p := Al f) (fun w hs => C4 (hs.facts (CL f a_f) D7)) (fun hk_f => ?_); refine C8 (p := Al g) (fun w hs => C4 (hs.facts (CL g a_g) D7)) (fun hk_g => ?_); refine Db ?_; refine N9 ?_; refine Aj (X := Nat × SH × List Cl) (fun s_ => s_.1 ≤ f.length ∧ s_.2.2 = ((f.take s_.1).flatMap fun q => E7 (g.map fun b => Dq q b)) ∧ s_.2.2.length ≤ s_.1 * g.length ∧ ∀ c, c ∈ s_.2.2 → u32 c) (fun s_ => [(1, sl a_g (g.length)), (6, sl s_.2.1 (s_.2.2.length)), (9, sl a_f (f.length)), (10, iv ((f.length : Int))), (11, iv ((s_.1 : Int)))]) (fun s_ G_ => G_) (fun s_ => [Am 2 107 s_.2.1 (s_.2.2.length) (A6 s_.2.2)]) (fun s_ => f.length - s_.1) (0, (none, 0), []) (⟨Nat.zero_le _, rfl, Nat.zero_le _, fun c hc => (by cases hc)⟩) (by exact Cm) ?_ ?_
 ·exact fun w hs => (hs.C7 2 107)
 ·intro ⟨i, a, l⟩ base0 ⟨hi, hl9, hn9, hu9⟩ next0; dsimp only at  hi  hl9  hn9  hu9  next0 ⊢; refine E9 ?_; refine Bu (decide ((i : Int) < (f.length : Int))) (fun h12 c12 => ?_) (fun h12 c12 => ?_)
  ·have hui := hk_f.1 _ (A9 (d := B8) (show i < f.length by omega)); have hml : (E7 (g.map fun b => Dq (f.getD i B8) b)).length ≤ g.length := Nat.le_trans (List.length_filter_le _ _) (by rw [List.length_map]; exact Nat.le_refl _); have hll : l.length ≤ 1000000 := Nat.le_trans hn9 (Nat.mul_le_mul (show i ≤ 1000 by omega) hlg); refine G3 ?_; obtain ⟨bk3, o3, hav3⟩ := hA1 (by (first | assumption | omega)); refine q0 rfl (Cq ?_ (j := i)); refine On ?_; refine q0 rfl (Ba fun b8 => ?_); refine Ff ?_; refine Mr (Ms' := [Aa b8 (Ak (f.getD i B8)) 107, Am 2 107 a (l.length) (A6 l)]) (by rfl) ?_; refine A1 (fun w hs => (((hs.perm Ao).perm Ao).Ch hB)) ?_; refine Qc ?_; refine N0 ?_; refine q0 rfl (A0 call240 (C0t g a_g (f.getD i B8) b8 hui) (fun x18 => ?_)); refine An (fun w hs => (((hs.perm Ao).perm Ao).D5 hB rfl (rfl) (by unfold reach; omega) (fun d hd => by obtain ⟨b, hb, rfl⟩ := List.mem_map.mp (List.mem_filter.mp hd).1; exact Jx hui (hk_g.1 b hb)))) ?_; refine q0 rfl (M6 (fun a19 => ?_) D7 (a := a) (n' := l.length) (b := x18) (ls := (E7 (g.map fun b => Dq (f.getD i B8) b)))); refine An (fun w hs => hs.J3 (l := l) (m := (E7 (g.map fun b => Dq (f.getD i B8) b)))) ?_; refine P4 ?_; refine A1 (fun w hs => ?_) (next0 (i + 1, a19, l ++ (E7 (g.map fun b => Dq (f.getD i B8) b))) _ (⟨by omega, by rw [hl9, Ah (d := B8) A2, List.flatMap_append]; simp, by rw [List.length_append, Nat.succ_mul]; omega, fun c hc => (List.mem_append.mp hc).elim (hu9 c) (fun hd => by obtain ⟨b, hb, rfl⟩ := List.mem_map.mp (List.mem_filter.mp hd).1; exact Jx hui (hk_g.1 b hb))⟩) (by (try simp only); omega) ⟨rfl, (by rw [List.length_append]; rfl), rfl, rfl, rfl, trivial⟩); have e1 : (l ++ (E7 (g.map fun b => Dq (f.getD i B8) b))).length = l.length + (E7 (g.map fun b => Dq (f.getD i B8) b)).length := List.length_append; rw [e1]; exact (hs.l9)
  ·have hlm : l = (f.flatMap fun q => E7 (g.map fun b => Dq q b)) := by rw [hl9, show i = f.length by omega, List.take_length]
   have hll : l.length ≤ 1000000 := Nat.le_trans hn9 (Nat.mul_le_mul (show i ≤ 1000 by omega) hlg); have hg : Mq f g = Bc l := by rw [hlm]; rfl
   refine D2 ?_; refine Ec ?_; refine A1 (fun w hs => (hs.D5 hB rfl (rfl) (by unfold reach; omega) (hu9))) ?_; refine Dy ?_; refine q0 rfl (A0 call110 (K4 l a) (fun x22 => ?_)); refine Jg ?_; refine B1 f_ rfl A4 A4 x22 (by rw [hg]; rfl) (fun w hs => by rw [hg]; exact (hs.l7))
theorem D0c (f : List Cl) (a_f : SH) (g : List Cl) (a_g : SH) (hlf : f.length ≤ 1000000) (hlg : g.length ≤ 1000000) : Spec prog 176 #[sl a_f (f.length), sl a_g (g.length)] [CL f a_f, CL g a_g] [] (fun x : SH => .tuple #[sl x (Ny f g).2.length, iv (Ny f g).1]) (fun x : SH => []) (fun x : SH => [Am 2 107 x (Ny f g).2.length (A6 (Ny f g).2)]) := by
 refine Cp ntmps176 fun B hB => ?_
 refine A5 (l := f) (a := a_f) (fun hl1 hA1 hU1 => ?_); refine A5 (l := g) (a := a_g) (fun hl2 hA2 hU2 => ?_); refine Db ?_; refine Ja ?_; refine q0 rfl (No fun b9 => ?_); refine An (fun w hs => (hs.A1b hB Di Di)) ?_; refine q0 rfl (A0 call242 (W7 [(f, a_f), (g, a_g)] (some ⟨b9, 0, none⟩, 2)) (fun x10 => ?_)); refine L6 ?_; refine Bu (decide ((if [(f, a_f), (g, a_g)].all (fun p => A7 p.1) then (0 : Int) else 2) ≠ 0)) (fun h12 c12 => ?_) (fun h12 c12 => ?_)
 ·have hfr : (A7 f && A7 g) = false := by cases hq : A7 f <;> cases hq2 : A7 g <;> simp [hq, hq2] at h12 ⊢
  have h8 : (if [(f, a_f), (g, a_g)].all (fun p => A7 p.1) then (0 : Int) else 2) = 2 := by cases hq : A7 f <;> cases hq2 : A7 g <;> simp [hq, hq2] at h12 ⊢
  have hg : Ny f g = (2, []) := by rw [Ny, if_pos hfr]
  refine H4 ?_; refine B1 f_ rfl A4 A4 (none, 0) (by rw [hg]; (conv => lhs; whnf; rw [h8]); rfl) (fun w hs => by rw [hg]; exact ((hs.l7).bare.C7 2 107))
 ·have hfr : ¬ (A7 f && A7 g) = false := by cases hq : A7 f <;> cases hq2 : A7 g <;> simp [hq, hq2] at h12 ⊢
  have hg2 : Ny f g = J2 f g := by rw [Ny, if_neg hfr]
  refine Ov ?_; obtain ⟨r1, hr1⟩ : ∃ q9 : EL, q9 = J2 f g := ⟨_, rfl⟩; refine q0 rfl (A0 call237 (Spec.Ou hr1 (D1t f a_f g a_g hlf hlg)) (fun x16 => ?_)); refine Jg ?_; have hg := hg2.trans hr1.symm; refine B1 f_ rfl A4 A4 x16 (by rw [hg]; rfl) (fun w hs => by rw [hg]; exact (hs.l7))
end Go.Hy
