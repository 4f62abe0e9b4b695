/- Contracts of functions of this program, one theorem each (printed by a program of this repository). -/
import Derived.Test.YtcofpfnnlageaaaHyRow2
namespace Go.Hy
set_option linter.unusedVariables false
set_option linter.unusedSimpArgs false
set_option linter.unusedSectionVars false
set_option linter.unusedVariables false
set_option linter.unusedSimpArgs false
set_option linter.unusedSectionVars false
section
variable {P : Program} {f : FuncId} {R : Ending → World → Prop} {B : Base} {n : Nat} {K : List Item} {σ : Nat → Value} {Γ LF : List Fact} {Ms Ms2 Ms' : List Res} {todo : List Item} {w : World}
/-- What is owned, said in other words. -/
theorem go_ms (h : Ms = Ms') (k : GoT P f R B n todo σ Γ Ms') : GoT P f R B n todo σ Γ Ms := h ▸ k
/-- What a thing that is owned tells, while nobody writes to it. -/
def Lends (m : Res) (LF : List Fact) : Prop := ∀ w : World, (∀ w' : World, (∀ b, m.dom b → w'.heap[b]? = w.heap[b]?) → m.holds w') → (∀ b, m.dom b → b < w.heap.size) → ∀ F, F ∈ LF → F.f m.dom w
theorem St.reok {ok ok' S : Nat → Prop} {w0 : World} (h : St ⟨ok, S, w0⟩ Γ Ms w) : St ⟨ok', S, w0⟩ [] Ms w := ⟨h.chg, fun _ hF => (by cases hF), h.res, h.lt, h.disj⟩
/-- One item, while a thing that is owned is known. -/
theorem go_lend {it : Item} (m : Res) (hl : Lends m LF) (hm0 : Ms.Perm (m :: Ms2)) (live : List (Nat × Value))
    (h1 : ∀ B', (∀ σ', LiveL σ' live → GoT P f R B' n K σ' (LF ++ Γ) Ms2) → GoT P f R B' n (it :: K) σ (LF ++ Γ) Ms2) (h2 : ∀ base, GoT P f R B n K (stL base live) Γ Ms) : GoT P f R B n (it :: K) σ Γ Ms := by
  intro a w hr hs
  have hm : Ms.Perm (Ms2 ++ [m]) := hm0.trans (List.perm_append_comm (l₁ := [m]))
  have hs1 := hs.perm hm
  have hmm : m ∈ Ms2 ++ [m] := List.mem_append_right _ List.mem_cons_self
  have hs2 : St ⟨fun b => okOf B (Ms2 ++ [m]) w b ∨ m.dom b, domAll Ms2, w⟩ (LF ++ Γ) Ms2 w := by
    refine ⟨Chg.refl _ _, fun F hF => ?_, fun m' h' => hs1.res m' (List.mem_append_left _ h'), fun m' h' b hb => ⟨(hs1.lt m' (List.mem_append_left _ h') b hb).1, .inl ⟨m', h', hb⟩⟩, (List.pairwise_append.mp hs1.disj).1⟩
    rcases List.mem_append.mp hF with hF | hF
    · refine F.mono _ _ _ (fun b hb => ⟨.inl (.inr hb), (hs1.lt m hmm b hb).1, ?_⟩) (hl w (hs1.res m hmm) (fun b hb => (hs1.lt m hmm b hb).1) F hF)
      rintro ⟨m', h', hb'⟩
      exact (List.pairwise_append.mp hs1.disj).2.2 m' h' m List.mem_cons_self b hb' hb
    · exact F.mono _ _ _ (fun b hb => ⟨.inl (.inl hb), hb.2.1, fun hc => hb.2.2 (domAll_append.2 (.inl hc))⟩) (hs1.facts F hF)
  refine h1 _ (fun σ' hσ a' w' hr' hs' => ?_) a w hr hs2
  have h3 := (hs1.frame (N := []) (St.reok hs')).perm hm.symm
  exact go_slots live hσ h2 a' w' hr' h3
theorem lends_tree (y : Tys) (h : HT) (hok : okT h.er) : Lends (bigR (treeR y h)) [RT h.er h.vr h.vk h.vs] := by
  intro w hh hlt F hF
  rw [List.mem_singleton] at hF
  subst hF
  have hb0 := hh w (fun _ _ => rfl)
  obtain ⟨C, hC⟩ : ∃ C : Res, C = ⟨fun b => b < w.heap.size ∧ ¬ domAll (treeR y h) b, fun _ => True⟩ := ⟨_, rfl⟩
  have hs : St ⟨fun _ => False, fun _ => False, { w with heap := #[] }⟩ [] (treeR y h ++ [C]) w := by
    refine ⟨⟨rfl, rfl, rfl, Nat.zero_le _, fun k hk _ => absurd hk (Nat.not_lt_zero _)⟩, fun _ hF => (by cases hF), ?_, ?_, ?_⟩
    · intro m hm w' hw
      rcases List.mem_append.mp hm with hm | hm
      · exact hb0.1 m hm w' hw
      · rw [List.mem_singleton] at hm; subst hm; subst hC; trivial
    · intro m hm b hb
      rcases List.mem_append.mp hm with hm | hm
      · exact ⟨hlt b ⟨m, hm, hb⟩, .inr (Nat.zero_le _)⟩
      · rw [List.mem_singleton] at hm; subst hm; subst hC; exact ⟨hb.1, .inr (Nat.zero_le _)⟩
    · refine List.pairwise_append.mpr ⟨hb0.2, List.pairwise_singleton _ _, fun m hm m' hm' b hb hb' => ?_⟩
      rw [List.mem_singleton] at hm'; subst hm'; subst hC
      exact hb'.2 ⟨m, hm, hb⟩
  have h1 := St.settleT (B := ⟨fun _ => False, fun _ => False, { w with heap := #[] }⟩) y (fun b => ⟨fun h => h.elim, fun h => (domAll_nil b h).elim⟩) h hok hs
  refine (RT h.er h.vr h.vk h.vs).mono _ _ _ (fun b hb => ?_) (h1.facts _ List.mem_cons_self)
  have hc : ¬ C.dom b := fun hc => hb.2.2 ⟨C, List.mem_cons_self, hc⟩
  subst hC
  exact Classical.byContradiction fun hn => hc ⟨hb.2.1, hn⟩
/-- A variable that is written no more. -/
theorem St.settleBox {b : Nat} {cs : List Value} {T : TypeId} (hB : ∀ b, B.S0 b ↔ domAll [] b) (hs : St B Γ (boxR b cs T :: Ms) w) : St B (At b 0 cs :: Γ) Ms w := by
  refine hs.settle0 hB (fun ok hok hh => ⟨hok b rfl, fun j v hj => ?_⟩)
  have hh : w.heap[b]? = some (.cells cs.toArray T (0, 0)) := hh
  simp [World.cell?, hh, hj]
end
end Go.Hy
namespace Go.Hy
set_option linter.unusedVariables false
set_option linter.unusedSimpArgs false
set_option linter.unusedSectionVars false
section
variable {B : Base} {Γ : List Fact} {Ms K S : List Res} {w : World} {a b c : Res}
theorem St.unpackT (hs : St B Γ (bigR (a :: b :: c :: (K ++ S)) :: Ms) w) : St B Γ (a :: b :: c :: bigR K :: bigR S :: Ms) w := by
  have h1 : St B Γ (a :: b :: c :: (K ++ (S ++ Ms))) w := by simpa only [List.cons_append, List.append_assoc] using hs.unpack
  have h2 : St B Γ (K ++ (S ++ (a :: b :: c :: Ms))) w := h1.perm ((permOut.trans ((permOut.trans (permOut.cons _)).cons _)).symm)
  have h3 : St B Γ (S ++ (bigR K :: a :: b :: c :: Ms)) w := (St.pack h2).perm List.perm_middle.symm
  exact ((((St.pack h3).perm perm1).perm perm4).perm perm4).perm perm4
theorem St.unpackB (hs : St B Γ (bigR (a :: b :: (K ++ S)) :: Ms) w) : St B Γ (a :: b :: bigR K :: bigR S :: Ms) w := by
  have h1 : St B Γ (a :: b :: (K ++ (S ++ Ms))) w := by simpa only [List.cons_append, List.append_assoc] using hs.unpack
  have h2 : St B Γ (K ++ (S ++ (a :: b :: Ms))) w := h1.perm ((permOut.trans (permOut.cons _)).symm)
  have h3 : St B Γ (S ++ (bigR K :: a :: b :: Ms)) w := (St.pack h2).perm List.perm_middle.symm
  exact (((St.pack h3).perm perm1).perm perm3).perm perm3
def h0 : HT := .mk 0 0 (ByteArray.mk #[]) [] (none, 0) [] (none, 0) [] (none, 0)
def hb0 : HB := .mk [] (none, 0) [] (none, 0)
theorem drop_getD {α : Type} (d : α) {l : List α} {i : Nat} (h : i < l.length) : l.drop i = l.getD i d :: l.drop (i + 1) := by
  rw [List.drop_eq_getElem_cons h, List.getD_eq_getElem?_getD, List.getElem?_eq_getElem h]; rfl
theorem getD_set_ne {α : Type} {d u : α} {l : List α} {i j : Nat} (h : i ≠ j) : (l.set i u).getD j d = l.getD j d := by
  rw [List.getD_eq_getElem?_getD, List.getD_eq_getElem?_getD, List.getElem?_set_ne h]
theorem getD_set_eq {α : Type} {d u : α} {l : List α} {i : Nat} (h : i < l.length) : (l.set i u).getD i d = u := by
  rw [List.getD_eq_getElem?_getD, List.getElem?_set_self h]; rfl
theorem getD_map {α β : Type} {d : α} {e : β} {f : α → β} {l : List α} {i : Nat} (h : i < l.length) : (l.map f).getD i e = f (l.getD i d) := by
  rw [List.getD_eq_getElem?_getD, List.getD_eq_getElem?_getD, List.getElem?_map, List.getElem?_eq_getElem h]; rfl
theorem St.openHT {y : Tys} {k n : Int} {nm : ByteArray} {r : List Cl} {v u x : SH} {ks : List HT} {ss : List HB} (hs : St B Γ (bigR (treeR y (.mk k n nm r v ks u ss x)) :: Ms) w) :
    St B Γ (rowS 2 y.c v r.length (clFlat r) :: rowS 6 y.t u ks.length (tpFlat (ks.map HT.tp)) :: rowS 2 y.b x ss.length (bpFlat (ss.map HB.bp)) :: bigR (kidsR y ks) :: bigR (brsR y ss) :: Ms) w := by
  simp only [treeR] at hs
  exact hs.unpackT
theorem St.peelK {y : Tys} {ks : List HT} {i : Nat} (hi : i < ks.length) (hs : St B Γ (bigR (kidsR y (ks.drop i)) :: Ms) w) : St B Γ (bigR (treeR y (ks.getD i h0)) :: bigR (kidsR y (ks.drop (i + 1))) :: Ms) w := by
  rw [drop_getD h0 hi] at hs
  simp only [kidsR] at hs
  exact hs.bigSplit
theorem St.peelB {y : Tys} {ss : List HB} {i : Nat} {f : List Cl} {v u : SH} {ks : List HT} (hi : i < ss.length) (he : ss.getD i hb0 = .mk f v ks u) (hs : St B Γ (bigR (brsR y (ss.drop i)) :: Ms) w) :
    St B Γ (rowS 2 y.c v f.length (clFlat f) :: rowS 6 y.t u ks.length (tpFlat (ks.map HT.tp)) :: bigR (kidsR y ks) :: bigR (brsR y (ss.drop (i + 1))) :: Ms) w := by
  rw [drop_getD hb0 hi, he] at hs
  simp only [brsR, List.cons_append] at hs
  exact hs.unpackB
theorem St.rowLen {sz n : Nat} {e : TypeId} {a : SH} {xs : List Value} (hs : St B Γ Ms w) (hm : rowS sz e a n xs ∈ Ms) : n ≤ 9223372036854775807 := by
  rcases Nat.eq_zero_or_pos n with h | h
  · omega
  · obtain ⟨g, cur, _, _, h3, h4, _⟩ := own_block (hs.res _ hm w (fun _ _ => rfl)) h
    have : maxLen = 9223372036854775807 := rfl
    omega
theorem bigR_dom {L : List Res} {b : Nat} : (bigR L).dom b ↔ domAll L b := Iff.rfl
theorem Spec.conv {P : Program} {k : FuncId} {args args' : Array Value} {pre : List Fact} {Ms0 Ms0' : List Res} {X : Type} {val : X → Value} {N : X → List Fact} {Ms1 : X → List Res} (h : Spec P k args pre Ms0 val N Ms1) (ha : args = args') (hd : ∀ b, domAll Ms0' b ↔ domAll Ms0 b) (hs : ∀ B w, St B pre Ms0' w → St B pre Ms0 w) : Spec P k args' pre Ms0' val N Ms1 := by
  subst ha
  have e : domAll Ms0' = domAll Ms0 := funext fun b => propext (hd b)
  intro ok w hok hst
  rw [e] at hst ⊢
  exact h ok w (fun b hb => ⟨(hok b hb).1, fun hc => (hok b hb).2 ((hd b).2 hc)⟩) (hs _ _ hst)
mutual
theorem HT.indK {P : HT → Prop} (h : ∀ k n nm r v ks u ss x, (∀ c, c ∈ ks → P c) → P (.mk k n nm r v ks u ss x)) : ∀ t, P t
  | .mk k n nm r v ks u ss x => h k n nm r v ks u ss x (HT.indL h ks)
theorem HT.indL {P : HT → Prop} (h : ∀ k n nm r v ks u ss x, (∀ c, c ∈ ks → P c) → P (.mk k n nm r v ks u ss x)) : ∀ ts : List HT, ∀ c, c ∈ ts → P c
  | [], _, hc => by cases hc
  | t :: ts, c, hc => by
    rcases List.mem_cons.mp hc with e | hc
    · rw [e]; exact HT.indK h t
    · exact HT.indL h ts c hc
end
end
end Go.Hy
