/- Contracts of functions of this program, one theorem each (printed by a program of this repository). -/
import Derived.Test.YtcofpfnnlageaaaHyInt
import Derived.Test.YtcofpfnnlageaaaHyTerm
namespace Go.Hy
set_option linter.unusedVariables false
set_option linter.unusedSimpArgs false
set_option linter.unusedSectionVars false
set_option linter.unusedVariables false
set_option linter.unusedSimpArgs false
/-! ### Several things that are owned, as one -/
def bigR (L : List Res) : Res := ⟨domAll L, fun w => (∀ m, m ∈ L → ∀ w', (∀ b, m.dom b → w'.heap[b]? = w.heap[b]?) → m.holds w') ∧ (L.Pairwise fun m m' => ∀ b, m.dom b → m'.dom b → False)⟩
section
variable {B : Base} {Γ : List Fact} {Ms L L' : List Res} {w : World}
theorem St.pack (hs : St B Γ (L ++ Ms) w) : St B Γ (bigR L :: Ms) w := by
  have hd : ∀ b, domAll (bigR L :: Ms) b ↔ domAll (L ++ Ms) b := fun b => by rw [domAll_cons, domAll_append]; exact Iff.rfl
  refine ⟨hs.chg, fun F hF => F.mono _ _ _ (fun b hb => ⟨hb.1, hb.2.1, fun hc => hb.2.2 ((hd b).mp hc)⟩) (hs.facts F hF), ?_, ?_, ?_⟩
  · intro m hm w' hw
    rcases List.mem_cons.mp hm with e | hm
    · subst e
      exact ⟨fun m hm w2 hw2 => hs.res m (List.mem_append_left _ hm) w2 (fun b hb => (hw2 b hb).trans (hw b ⟨m, hm, hb⟩)), (List.pairwise_append.mp hs.disj).1⟩
    · exact hs.res m (List.mem_append_right _ hm) w' hw
  · intro m hm b hb
    rcases List.mem_cons.mp hm with e | hm
    · subst e
      obtain ⟨m', hm', hb'⟩ := hb
      exact hs.lt m' (List.mem_append_left _ hm') b hb'
    · exact hs.lt m (List.mem_append_right _ hm) b hb
  · refine List.pairwise_cons.mpr ⟨fun m hm b hb hb2 => ?_, (List.pairwise_append.mp hs.disj).2.1⟩
    obtain ⟨m', hm', hb'⟩ := hb
    exact (List.pairwise_append.mp hs.disj).2.2 m' hm' m hm b hb' hb2
theorem St.unpack (hs : St B Γ (bigR L :: Ms) w) : St B Γ (L ++ Ms) w := by
  have hd : ∀ b, domAll (bigR L :: Ms) b ↔ domAll (L ++ Ms) b := fun b => by rw [domAll_cons, domAll_append]; exact Iff.rfl
  have hb0 := hs.res (bigR L) List.mem_cons_self w (fun _ _ => rfl)
  refine ⟨hs.chg, fun F hF => F.mono _ _ _ (fun b hb => ⟨hb.1, hb.2.1, fun hc => hb.2.2 ((hd b).mpr hc)⟩) (hs.facts F hF), ?_, ?_, ?_⟩
  · intro m hm w' hw
    rcases List.mem_append.mp hm with hm | hm
    · exact hb0.1 m hm w' hw
    · exact hs.res m (List.mem_cons_of_mem _ hm) w' hw
  · intro m hm b hb
    rcases List.mem_append.mp hm with hm | hm
    · exact hs.lt (bigR L) List.mem_cons_self b ⟨m, hm, hb⟩
    · exact hs.lt m (List.mem_cons_of_mem _ hm) b hb
  · exact List.pairwise_append.mpr ⟨hb0.2, (List.pairwise_cons.mp hs.disj).2, fun m hm m' hm' b hb hb' => (List.pairwise_cons.mp hs.disj).1 m' hm' b ⟨m, hm, hb⟩ hb'⟩
theorem St.bigNil (hs : St B Γ Ms w) : St B Γ (bigR [] :: Ms) w := St.pack (L := []) hs
theorem St.bigJoin (hs : St B Γ (bigR L :: bigR L' :: Ms) w) : St B Γ (bigR (L' ++ L) :: Ms) w := by
  have h1 := (hs.unpack.perm List.perm_middle).unpack
  exact St.pack (by rw [List.append_assoc]; exact h1)
theorem St.bigPerm (hp : L.Perm L') (hs : St B Γ (bigR L :: Ms) w) : St B Γ (bigR L' :: Ms) w := St.pack (hs.unpack.perm (hp.append_right _))
theorem St.bigSplit (hs : St B Γ (bigR (L ++ L') :: Ms) w) : St B Γ (bigR L :: bigR L' :: Ms) w := by
  have h1 := hs.unpack
  rw [List.append_assoc] at h1
  have h2 : St B Γ (L' ++ (L ++ Ms)) w := h1.perm (by rw [← List.append_assoc, ← List.append_assoc]; exact List.perm_append_comm.append_right _)
  have h3 := h2.pack
  exact (St.pack (h3.perm (by exact List.perm_middle.symm)))
end
/-! ### A term of the call's own: where all its rows lie -/
mutual
inductive HT where
  | mk (kind n : Int) (name : ByteArray) (r : List Cl) (vr : SH) (kids : List HT) (vk : SH) (sys : List HB) (vs : SH)
inductive HB where
  | mk (face : List Cl) (vf : SH) (kids : List HT) (vk : SH)
end
mutual
def HT.er : HT → T
  | .mk k n nm r _ ks _ ss _ => .mk k n nm r (HT.erL ks) (HT.erB ss)
def HT.erL : List HT → List T
  | [] => []
  | h :: hs => h.er :: HT.erL hs
def HT.erB : List HB → List Br
  | [] => []
  | .mk f _ ks _ :: bs => .mk f (HT.erL ks) :: HT.erB bs
end
def HB.er : HB → Br
  | .mk f _ ks _ => .mk f (HT.erL ks)
theorem HT.erL_eq : ∀ l : List HT, HT.erL l = l.map HT.er
  | [] => by simp [HT.erL]
  | h :: hs => by simp [HT.erL, HT.erL_eq hs]
theorem HT.erB_eq : ∀ l : List HB, HT.erB l = l.map HB.er
  | [] => by simp [HT.erB]
  | .mk f v ks u :: bs => by simp [HT.erB, HB.er, HT.erB_eq bs]
namespace HT
set_option linter.unusedVariables false
set_option linter.unusedSimpArgs false
set_option linter.unusedSectionVars false
def vr : HT → SH | .mk _ _ _ _ v _ _ _ _ => v
def vk : HT → SH | .mk _ _ _ _ _ _ v _ _ => v
def vs : HT → SH | .mk _ _ _ _ _ _ _ _ v => v
def kids : HT → List HT | .mk _ _ _ _ _ ks _ _ _ => ks
def sys : HT → List HB | .mk _ _ _ _ _ _ _ ss _ => ss
def tp (h : HT) : TP := (h.er, h.vr, h.vk, h.vs)
end HT
namespace HB
set_option linter.unusedVariables false
set_option linter.unusedSimpArgs false
set_option linter.unusedSectionVars false
def face : HB → List Cl | .mk f _ _ _ => f
def vf : HB → SH | .mk _ v _ _ => v
def kids : HB → List HT | .mk _ _ ks _ => ks
def vk : HB → SH | .mk _ _ _ v => v
def bp (b : HB) : BP := (b.er, b.vf, b.vk)
end HB
/-- The types of the rows' elements. -/
structure Tys where
  c : TypeId
  t : TypeId
  b : TypeId
mutual
def treeR (y : Tys) : HT → List Res
  | .mk _ _ _ r v ks u ss x => rowS 2 y.c v r.length (clFlat r) :: rowS 6 y.t u ks.length (tpFlat (ks.map HT.tp)) :: rowS 2 y.b x ss.length (bpFlat (ss.map HB.bp)) :: (kidsR y ks ++ brsR y ss)
def kidsR (y : Tys) : List HT → List Res
  | [] => []
  | h :: hs => treeR y h ++ kidsR y hs
def brsR (y : Tys) : List HB → List Res
  | [] => []
  | .mk f v ks u :: bs => (rowS 2 y.c v f.length (clFlat f) :: rowS 6 y.t u ks.length (tpFlat (ks.map HT.tp)) :: kidsR y ks) ++ brsR y bs
end
def brR (y : Tys) : HB → List Res
  | .mk f v ks u => rowS 2 y.c v f.length (clFlat f) :: rowS 6 y.t u ks.length (tpFlat (ks.map HT.tp)) :: kidsR y ks
theorem kidsR_eq (y : Tys) : ∀ l, kidsR y l = l.flatMap (treeR y)
  | [] => by simp [kidsR]
  | h :: hs => by simp [kidsR, kidsR_eq y hs]
theorem brsR_eq (y : Tys) : ∀ l, brsR y l = l.flatMap (brR y)
  | [] => by simp [brsR]
  | .mk f v ks u :: bs => by simp [brsR, brR, brsR_eq y bs]
/-! What must be so of a term that lies in memory, of itself. -/
mutual
def okT : T → Prop
  | .mk k n nm r ks ss => in64 k ∧ in64 n ∧ nm.size ≤ cap47 ∧ ((∀ c, c ∈ r → u32 c) ∧ r.length * 8 ≤ reach) ∧ ks.length * 104 ≤ reach ∧ ss.length * 48 ≤ reach ∧ okL ks ∧ okB ss
def okL : List T → Prop
  | [] => True
  | t :: ts => okT t ∧ okL ts
def okB : List Br → Prop
  | [] => True
  | .mk f ks :: bs => ((∀ c, c ∈ f → u32 c) ∧ f.length * 8 ≤ reach) ∧ ks.length * 104 ≤ reach ∧ okL ks ∧ okB bs
end
mutual
theorem ok_of {ok : Nat → Prop} {w : World} : ∀ {t : T} {vr vk vs : SH}, termAt ok t vr vk vs w → okT t
  | .mk k n nm r ks ss, vr, vk, vs, h => by
    simp only [termAt] at h
    simp only [okT]
    obtain ⟨h1, h2, h3, h4, ⟨VR, VK, VS, h6, h7⟩, ⟨VF, VK', h9, h10⟩⟩ := h
    exact ⟨h1, h2, h3, ⟨h4.2, h4.1.2.1⟩, h6.2.1, h9.2.1, okL_of h7, okB_of h10⟩
theorem okL_of {ok : Nat → Prop} {w : World} : ∀ {ts : List T} {VR VK VS : Nat → SH}, allAt ok ts VR VK VS w → okL ts
  | [], _, _, _, _ => by simp only [okL]
  | t :: ts, _, _, _, h => by
    simp only [allAt] at h
    simp only [okL]
    exact ⟨ok_of h.1, okL_of h.2⟩
theorem okB_of {ok : Nat → Prop} {w : World} : ∀ {bs : List Br} {VF VK : Nat → SH}, brsAt ok bs VF VK w → okB bs
  | [], _, _, _ => by simp only [okB]
  | .mk f ks :: bs, _, _, h => by
    simp only [brsAt, brAt] at h
    simp only [okB]
    obtain ⟨⟨h1, ⟨VR, VK, VS, h2, h3⟩⟩, h4⟩ := h
    exact ⟨⟨h1.2, h1.1.2.1⟩, h2.2.1, okL_of h3, okB_of h4⟩
end
theorem okL_iff : ∀ {l : List T}, okL l ↔ ∀ t, t ∈ l → okT t
  | [] => by simp [okL]
  | t :: ts => by simp [okL, okL_iff (l := ts)]
theorem okB_iff : ∀ {l : List Br}, okB l ↔ ∀ b, b ∈ l → ((∀ c, c ∈ b.face → u32 c) ∧ b.face.length * 8 ≤ reach) ∧ b.kids.length * 104 ≤ reach ∧ okL b.kids
  | [] => by simp [okB]
  | .mk f ks :: bs => by simp only [okB, List.mem_cons, forall_eq_or_imp, okB_iff (l := bs), Br.face, Br.kids, and_assoc]
theorem permOut {K S M : List Res} {a : Res} : (K ++ (S ++ a :: M)).Perm (a :: (K ++ (S ++ M))) := (List.perm_middle.append_left K).trans List.perm_middle
/-! A term of the call's own becomes known for good. -/
section
variable {B : Base} {Γ : List Fact} {Ms : List Res} {w : World}
theorem St.keepFacts {F : Fact} (hs : St B (F :: Γ) Ms w) : St B Γ Ms w := hs.less (fun G hG => List.mem_cons_of_mem _ hG)
mutual
theorem St.settleT (y : Tys) (hB : ∀ b, B.S0 b ↔ domAll [] b) : ∀ (h : HT) {Γ : List Fact} {Ms : List Res}, okT h.er → St B Γ (treeR y h ++ Ms) w → St B (RT h.er h.vr h.vk h.vs :: Γ) Ms w
  | .mk k n nm r v ks u ss x, Γ, Ms, hok, hs => by
    simp only [HT.er, okT] at hok
    obtain ⟨o1, o2, o3, o4, o5, o6, o7, o8⟩ := hok
    simp only [treeR, List.cons_append, List.append_assoc] at hs
    have h1 := hs.settleCL (l := r) hB rfl rfl o4.2 o4.1
    -- the rows of kids and branches wait behind the parts
    have h2 : St B (CL r v :: Γ) (kidsR y ks ++ (brsR y ss ++ (rowS 6 y.t u ks.length (tpFlat (ks.map HT.tp)) :: rowS 2 y.b x ss.length (bpFlat (ss.map HB.bp)) :: Ms))) w := by
      exact h1.perm (((permOut.trans (permOut.cons _))).symm)
    have h3 := St.settleKs y hB ks [] (by rw [HT.erL_eq] at o7; exact o7) (by simpa using h2.apNil)
    have h4 := St.settleBs y hB ss [] (by rw [HT.erB_eq] at o8; exact o8) (h3.bpNil)
    have h5 := h4.settleTL (ps := ks.map HT.tp) (ts := ks.map HT.er) hB (by simp) rfl (by simp [HT.tp, Function.comp_def]) (by simp) (by rw [HT.erL_eq, List.length_map] at o5; exact o5)
    have h6 := h5.settleBL (ps := ss.map HB.bp) (bs := ss.map HB.er) hB (by simp) rfl (by simp [HB.bp, Function.comp_def]) (by simp) (by rw [HT.erB_eq, List.length_map] at o6; exact o6)
    have h7 := h6.mkRT (k := k) (n := n) (nm := nm) (r := r) (vr := v) (ks := ks.map HT.er) (vk := u) (ss := ss.map HB.er) (vs := x) o1 o2 o3 (by simp) (by simp) (by simp)
    simp only [HT.er, HT.erL_eq, HT.erB_eq, HT.vr, HT.vk, HT.vs]
    exact h7.less (by simp +contextual)
theorem St.settleKs (y : Tys) (hB : ∀ b, B.S0 b ↔ domAll [] b) : ∀ (ks : List HT) (ps : List TP) {Γ : List Fact} {Ms : List Res}, okL (ks.map HT.er) → St B (AP ps :: Γ) (kidsR y ks ++ Ms) w → St B (AP (ps ++ ks.map HT.tp) :: Γ) Ms w
  | [], ps, Γ, Ms, hok, hs => by simpa [kidsR] using hs
  | h :: hs', ps, Γ, Ms, hok, hs => by
    simp only [List.map_cons, okL] at hok
    simp only [kidsR, List.append_assoc] at hs
    have h1 := St.settleT y hB h hok.1 hs
    have h2 := h1.apAdd (ps := ps) (t := h.er) (vr := h.vr) (vk := h.vk) (vs := h.vs) (by simp) (by simp)
    have h3 := St.settleKs y hB hs' (ps ++ [h.tp]) (Γ := Γ) hok.2 (h2.less (by simp +contextual [HT.tp]))
    simpa using h3
theorem St.settleBs (y : Tys) (hB : ∀ b, B.S0 b ↔ domAll [] b) : ∀ (bs : List HB) (ps : List BP) {Γ : List Fact} {Ms : List Res}, okB (bs.map HB.er) → St B (BPs ps :: Γ) (brsR y bs ++ Ms) w → St B (BPs (ps ++ bs.map HB.bp) :: Γ) Ms w
  | [], ps, Γ, Ms, hok, hs => by simpa [brsR] using hs
  | .mk f v ks u :: bs, ps, Γ, Ms, hok, hs => by
    simp only [List.map_cons, HB.er, okB] at hok
    obtain ⟨o1, o2, o3, o4⟩ := hok
    simp only [brsR, List.cons_append, List.append_assoc] at hs
    have h1 := hs.settleCL (l := f) hB rfl rfl o1.2 o1.1
    have h2 : St B (CL f v :: BPs ps :: Γ) (kidsR y ks ++ (rowS 6 y.t u ks.length (tpFlat (ks.map HT.tp)) :: (brsR y bs ++ Ms))) w := h1.perm (by exact List.perm_middle.symm)
    have h3 := St.settleKs y hB ks [] (by rw [HT.erL_eq] at o3; exact o3) (by simpa using h2.apNil)
    have h4 := h3.settleTL (ps := ks.map HT.tp) (ts := ks.map HT.er) hB (by simp) rfl (by simp [HT.tp, Function.comp_def]) (by simp) (by rw [HT.erL_eq, List.length_map] at o2; exact o2)
    have h5 := h4.bpAdd (ps := ps) (f := f) (ks := ks.map HT.er) (vf := v) (vk := u) (by simp) (by simp) (by simp)
    have h6 := St.settleBs y hB bs (ps ++ [(.mk f (ks.map HT.er), v, u)]) (Γ := Γ) o4 (h5.less (by simp +contextual))
    simpa [HB.bp, HB.er, HB.vf, HB.vk, HT.erL_eq] using h6
end
end
end Go.Hy
namespace Go.Hy
set_option linter.unusedVariables false
set_option linter.unusedSimpArgs false
set_option linter.unusedSectionVars false
section
variable {B : Base} {Γ : List Fact} {Ms K S : List Res} {w : World} {a b c : Res}
theorem St.packT (hs : St B Γ (a :: b :: c :: bigR K :: bigR S :: Ms) w) : St B Γ (bigR (a :: b :: c :: (K ++ S)) :: Ms) w := by
  have h1 : St B Γ (bigR K :: bigR S :: a :: b :: c :: Ms) w := hs.perm (perm3.trans (perm3.cons _))
  have h2 : St B Γ (bigR S :: (K ++ a :: b :: c :: Ms)) w := h1.unpack.perm List.perm_middle
  have h3 : St B Γ (K ++ (S ++ a :: b :: c :: Ms)) w := h2.unpack.perm (by rw [← List.append_assoc, ← List.append_assoc]; exact List.perm_append_comm.append_right _)
  exact St.pack (L := a :: b :: c :: (K ++ S)) (by
    simp only [List.cons_append, List.append_assoc]
    exact h3.perm (permOut.trans ((permOut.trans (permOut.cons _)).cons _)))
theorem St.packB (hs : St B Γ (a :: b :: bigR K :: bigR S :: Ms) w) : St B Γ (bigR (S ++ (a :: b :: K)) :: Ms) w := by
  have h1 : St B Γ (bigR K :: bigR S :: a :: b :: Ms) w := hs.perm (perm2.trans (perm2.cons _))
  have h2 : St B Γ (bigR S :: (K ++ a :: b :: Ms)) w := h1.unpack.perm List.perm_middle
  have h3 : St B Γ (S ++ (K ++ a :: b :: Ms)) w := h2.unpack
  exact St.pack (L := S ++ (a :: b :: K)) (by
    have : (S ++ a :: b :: K) ++ Ms = S ++ (a :: b :: (K ++ Ms)) := by simp
    rw [this]
    exact h3.perm ((List.perm_middle.trans (List.perm_middle.cons _)).append_left S))
theorem St.joinK {y : Tys} {hs : List HT} {h : HT} (h0 : St B Γ (bigR (treeR y h) :: bigR (kidsR y hs) :: Ms) w) : St B Γ (bigR (kidsR y (hs ++ [h])) :: Ms) w := by
  have := h0.bigJoin
  rwa [show kidsR y hs ++ treeR y h = kidsR y (hs ++ [h]) by simp [kidsR_eq]] at this
theorem St.joinB {y : Tys} {bs : List HB} {f : List Cl} {v u : SH} {ks : List HT} {n m : Nat} {fl tl : List Value} (hn : n = f.length) (hm : m = ks.length) (hf : fl = clFlat f) (ht : tl = tpFlat (ks.map HT.tp)) (h0 : St B Γ (rowS 2 y.c v n fl :: rowS 6 y.t u m tl :: bigR (kidsR y ks) :: bigR (brsR y bs) :: Ms) w) : St B Γ (bigR (brsR y (bs ++ [.mk f v ks u])) :: Ms) w := by
  subst hn; subst hm; subst hf; subst ht
  have := h0.packB
  rwa [show brsR y bs ++ (rowS 2 y.c v f.length (clFlat f) :: rowS 6 y.t u ks.length (tpFlat (ks.map HT.tp)) :: kidsR y ks) = brsR y (bs ++ [.mk f v ks u]) by simp [brsR_eq, brR]] at this
theorem St.joinT {y : Tys} {k n : Int} {nm : ByteArray} {r : List Cl} {v u x : SH} {ks : List HT} {ss : List HB} {n1 n2 n3 : Nat} {l1 l2 l3 : List Value} (e1 : n1 = r.length) (e2 : n2 = ks.length) (e3 : n3 = ss.length) (f1 : l1 = clFlat r) (f2 : l2 = tpFlat (ks.map HT.tp)) (f3 : l3 = bpFlat (ss.map HB.bp))
    (h0 : St B Γ (rowS 2 y.c v n1 l1 :: rowS 6 y.t u n2 l2 :: rowS 2 y.b x n3 l3 :: bigR (kidsR y ks) :: bigR (brsR y ss) :: Ms) w) : St B Γ (bigR (treeR y (.mk k n nm r v ks u ss x)) :: Ms) w := by
  subst e1; subst e2; subst e3; subst f1; subst f2; subst f3
  simpa only [treeR] using h0.packT
end
end Go.Hy
