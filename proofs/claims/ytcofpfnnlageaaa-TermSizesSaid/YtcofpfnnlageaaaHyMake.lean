/- What a call builds, and how it becomes known for good. -/
import Derived.Test.YtcofpfnnlageaaaHyOps
import Derived.Test.YtcofpfnnlageaaaHyTerm
import Derived.Laws.Append
namespace Go.Hy
set_option linter.unusedVariables false
set_option linter.unusedSimpArgs false
set_option linter.unusedSectionVars false
open Go
set_option linter.unusedVariables false
set_option linter.unusedSectionVars false
/-! ### Rows that grow, with their headers -/
abbrev rowS (sz : Nat) (e : TypeId) (a : SH) (n : Nat) (xs : List Value) : Res := rowR sz e (sl a n) n xs
section
variable {P : Program} [Tab P] {B : Base} {σ : Nat → Value} {Γ : List Fact} {Ms : List Res} {ty : TypeId} {x y : Operand}
theorem St.rowS0 {w : World} (sz : Nat) (e : TypeId) (hs : St B Γ Ms w) : St B Γ (rowS sz e (Option.none, 0) 0 [] :: Ms) w := hs.row0 sz e
theorem owns_sh {w : World} {base : Nat} {e : TypeId} {sz : Nat} {v : Value} {n : Nat} {xs : List Value} (h : w.ownsRow base e sz v n xs) : ∃ a : SH, v = sl a n := by
  rcases h.2 with ⟨rfl, rfl⟩ | ⟨g, cap, cur, rfl, _⟩
  · exact ⟨(none, 0), rfl⟩
  · exact ⟨(some ⟨g, 0, none⟩, cap), rfl⟩
/-- The news: cells that lie somewhere, in a variable of the call's own or as a fact says. -/
theorem te_appendW {t e : TypeId} {ts : Array TypeId} {sz bt n m c : Nat} {zv : Value} {a : SH} {ad : Addr} {xs cs : List Value} {Ms2 : List Res} (hts : ts = #[t, t]) (hu : Tab.und P t = some (.slice e)) (hi : Tab.inf P e = some (sz, bt, zv)) (hzs : zv.cells.size = sz) (hsz : 0 < sz)
    (hx : ev σ x = sl a n) (hy : ev σ y = .slice (some ad) m c) (hm : Ms.Perm (rowS sz e a n xs :: Ms2)) (hnews : ∀ w, St B Γ Ms w → ∀ j u, cs[j]? = some u → w.cell? (ad.add j) = some u) (hl : cs.length = m * sz) (h1 : oneCells cs = true) (hb : (n + m) * bt ≤ 140737488355328) (hnm : n + m ≤ 9223372036854775807) :
    TurnE P B σ Γ Ms (.call { callee := .builtin .append, args := #[x, y], argTypes := ts }) ty (fun a' : SH => sl a' (n + m)) (fun _ => Γ) (fun a' => rowS sz e a' (n + m) (xs ++ cs) :: Ms2) := fun w hs => by
  have hs' := hs.perm hm
  obtain ⟨i, hi1, hi2, hi3, hi4⟩ := Tab.inf_ok e sz bt zv hi
  have hown : w.ownsRow 0 e sz (sl a n) n xs := hs'.res _ List.mem_cons_self w (fun _ _ => rfl)
  obtain ⟨v', w', hr, h2, h3, _, h5⟩ := run_append_own_at (P := P) w 0 t ty e i zv sz bt (Tab.und_ok t _ hu) hi1 hi4 hi2 hi3 hzs hsz (sl a n) n xs hown ad m c cs hl (hnews w hs) (fun u hu => by have := List.all_eq_true.1 h1 u hu; exact this) (by simpa [maxLen] using hnm) hb (Nat.zero_le _)
  obtain ⟨a', rfl⟩ := owns_sh h2
  refine ⟨a', w', ?_, ?_⟩
  · subst hts
    simp [opr, execOp, resolve, invoke, builtin, hx, hy, hr]
  · refine hs'.turn ⟨h3.os, h3.tape, h3.output, h3.size, fun k hk hn => h3.block k hk (fun e => hn e.symm)⟩ (fun w2 hw2 => rowR_keeps h2 hw2) (fun k hk => ?_)
    have hk : (sl a' (n + m)).ownBlock = some k := hk
    refine ⟨(h2.lt k hk).2, ?_⟩
    rcases h5 with h5 | h5
    · exact .inl (h5.symm.trans hk)
    · rw [h5] at hk; injection hk with hk; exact .inr (Nat.le_of_eq hk)
/-- append of a literal's array. -/
theorem te_appS {t e T : TypeId} {ts : Array TypeId} {sz bt n m c b : Nat} {zv : Value} {a : SH} {xs cs : List Value} {Ms2 : List Res} (hm : Ms.Perm (rowS sz e a n xs :: boxR b cs T :: Ms2)) (hx : ev σ x = sl a n) (hy : ev σ y = .slice (some ⟨b, 0, none⟩) m c) (hts : ts = #[t, t]) (hu : Tab.und P t = some (.slice e)) (hi : Tab.inf P e = some (sz, bt, zv)) (hzs : zv.cells.size = sz) (hsz : 0 < sz)
    (hl : cs.length = m * sz) (h1 : oneCells cs = true) (hb : (n + m) * bt ≤ 140737488355328) (hnm : n + m ≤ 9223372036854775807) :
    TurnE P B σ Γ Ms (.call { callee := .builtin .append, args := #[x, y], argTypes := ts }) ty (fun a' : SH => sl a' (n + m)) (fun _ => Γ) (fun a' => rowS sz e a' (n + m) (xs ++ cs) :: boxR b cs T :: Ms2) :=
  te_appendW hts hu hi hzs hsz hx hy hm (fun w hs j u hj => by
    have hbox := box_cell (hs.perm hm) (List.mem_cons_of_mem _ List.mem_cons_self)
    rw [Addr.add_lit, Nat.zero_add]; exact hbox j u hj) hl h1 hb hnm
/-- append of a slice that a fact tells of. -/
theorem flat_get {α : Type} {F : α → List Value} {sz : Nat} (hF : ∀ x, (F x).length = sz) (d : α) : ∀ (l : List α) (j : Nat) (u : Value), (l.flatMap F)[j]? = some u → j / sz < l.length ∧ (F (l.getD (j / sz) d))[j % sz]? = some u
  | [], j, u, h => by simp at h
  | x :: l, j, u, h => by
    rw [List.flatMap_cons] at h
    by_cases hj : j < sz
    · rw [List.getElem?_append_left (by rw [hF]; exact hj)] at h
      rw [Nat.div_eq_of_lt hj, Nat.mod_eq_of_lt hj]
      exact ⟨by simp, by simpa using h⟩
    · rw [List.getElem?_append_right (by rw [hF]; omega), hF] at h
      have hz : 0 < sz := by
        rcases Nat.eq_zero_or_pos sz with h0 | h0
        · subst h0
          have : l.flatMap F = [] := List.flatMap_eq_nil_iff.mpr (fun x _ => List.eq_nil_of_length_eq_zero (hF x))
          rw [this] at h; simp at h
        · exact h0
      obtain ⟨h1, h2⟩ := flat_get hF d l (j - sz) u h
      have e1 : (j - sz) / sz + 1 = j / sz := by conv => rhs; rw [Nat.div_eq_sub_div hz (by omega)]
      have e2 : (j - sz) % sz = j % sz := by conv => rhs; rw [Nat.mod_eq_sub_mod (by omega)]
      rw [← e1, ← e2]
      exact ⟨by simp; omega, by simpa using h2⟩
theorem flat_len {α : Type} {F : α → List Value} {sz : Nat} (hF : ∀ x, (F x).length = sz) : ∀ (l : List α), (l.flatMap F).length = l.length * sz
  | [] => by simp
  | x :: l => by rw [List.flatMap_cons, List.length_append, hF, flat_len hF l, List.length_cons, Nat.add_mul, Nat.one_mul, Nat.add_comm]
theorem flat_at {α : Type} {F : α → List Value} {sz : Nat} (hF : ∀ x, (F x).length = sz) (d : α) : ∀ (l : List α) (i j : Nat) (u : Value), i < l.length → (F (l.getD i d))[j]? = some u → (l.flatMap F)[i * sz + j]? = some u
  | [], i, j, u, h, _ => by simp at h
  | x :: l, 0, j, u, _, hj => by
    have hj' : (F x)[j]? = some u := by simpa using hj
    have : j < (F x).length := (List.getElem?_eq_some_iff.mp hj').1
    rw [List.flatMap_cons, Nat.zero_mul, Nat.zero_add, List.getElem?_append_left this]; exact hj'
  | x :: l, i + 1, j, u, h, hj => by
    have ih := flat_at hF d l i j u (by simpa using h) (by simpa using hj)
    rw [List.flatMap_cons, List.getElem?_append_right (by rw [hF, Nat.add_mul]; omega), hF]
    rw [show (i + 1) * sz + j - sz = i * sz + j by rw [Nat.add_mul, Nat.one_mul]; omega]
    exact ih
abbrev clFlat (l : List Cl) : List Value := l.flatMap clCells
theorem clCells_len (c : Cl) : (clCells c).length = 2 := rfl
theorem clFlat_one (l : List Cl) : oneCells (clFlat l) = true := by
  unfold oneCells
  rw [List.all_eq_true]
  intro v hv
  obtain ⟨c, _, hc⟩ := List.mem_flatMap.mp hv
  simp only [clCells, List.mem_cons, List.not_mem_nil, or_false] at hc
  rcases hc with rfl | rfl <;> rfl
theorem te_appCL {t e : TypeId} {ts : Array TypeId} {bt n : Nat} {zv : Value} {a b : SH} {xs : List Value} {l : List Cl} {Ms2 : List Res} (hm : Ms.Perm (rowS 2 e a n xs :: Ms2)) (hF : CL l b ∈ Γ) (hx : ev σ x = sl a n) (hy : ev σ y = sl b l.length) (hts : ts = #[t, t]) (hu : Tab.und P t = some (.slice e)) (hi : Tab.inf P e = some (2, bt, zv)) (hzs : zv.cells.size = 2)
    (hb : (n + l.length) * bt ≤ 140737488355328) (hnm : n + l.length ≤ 9223372036854775807) :
    TurnE P B σ Γ Ms (.call { callee := .builtin .append, args := #[x, y], argTypes := ts }) ty (fun a' : SH => sl a' (n + l.length)) (fun _ => Γ) (fun a' => rowS 2 e a' (n + l.length) (xs ++ clFlat l) :: Ms2) := by
  obtain ⟨bo, bc⟩ := b
  cases bo with
  | some ad =>
    refine te_appendW hts hu hi hzs (by omega) hx hy hm (fun w hs j u hj => ?_) (flat_len clCells_len l) (clFlat_one l) hb hnm
    obtain ⟨h1, h2⟩ := flat_get clCells_len cl0 l j u hj
    have hcl : clsAt (okOf B Ms w) l (some ad, bc) w := hs.facts _ hF
    obtain ⟨bk, o, hbk, _, hrow⟩ := hcl.1.2.2 (by omega)
    injection hbk with hbk
    subst hbk
    have := hrow (j / 2) h1 (j % 2) u h2
    rw [Addr.add_lit]
    rwa [show o + j / 2 * 2 + j % 2 = o + j by omega] at this
  | none =>
    intro w hs
    have hs' := hs.perm hm
    have hcl : clsAt (okOf B Ms w) l (none, bc) w := hs.facts _ hF
    have hl : l.length = 0 := by
      rcases Nat.eq_zero_or_pos l.length with h | h
      · exact h
      · obtain ⟨bk, o, hbk, _⟩ := hcl.1.2.2 h; cases hbk
    have hown : w.ownsRow 0 e 2 (sl a n) n xs := hs'.res _ List.mem_cons_self w (fun _ _ => rfl)
    have hl2 : l = [] := List.eq_nil_of_length_eq_zero hl
    subst hl2
    refine ⟨a, w, ?_, by simpa using hs'⟩
    subst hts
    have hle : n ≤ a.2 := by
      rcases hown.2 with ⟨h1, h2⟩ | ⟨g, cap, cur, h1, _, _, h3, _⟩
      · omega
      · injection h1 with _ _ h1; omega
    have hst : (storeCells ((a.1.getD ⟨0, 0, none⟩).add (n * 2)) []).run P w = .ok () w := by simp [storeCells]
    obtain ⟨ao, ac⟩ := a
    simp only at hle
    cases ao with
    | none => simp [opr, execOp, resolve, invoke, builtin, hx, hy, sl, Builtin.append_, run_und0 hu, run_size0 hi, Builtin.lenOf, hle, Builtin.firstCells]
    | some ad => simp [opr, execOp, resolve, invoke, builtin, hx, hy, sl, Builtin.append_, run_und0 hu, run_size0 hi, Builtin.lenOf, hle, Builtin.firstCells, storeCells]

/-! ### What was built becomes facts -/
theorem own_rowAt {α : Type} {F : α → List Value} {sz bt n : Nat} (hF : ∀ x, (F x).length = sz) (d : α) {l : List α} {a : SH} {e : TypeId} {ok : Nat → Prop} {w : World} (h : w.ownsRow 0 e sz (sl a n) n (l.flatMap F)) (hn : n = l.length) (hb : n * bt ≤ reach) (hok : ∀ b, (sl a n).ownBlock = some b → ok b) :
    rowAt ok sz bt n a (fun i => F (l.getD i d)) w := by
  obtain ⟨ao, ac⟩ := a
  rcases h.2 with ⟨h1, h2⟩ | ⟨g, cap, cur, h1, h2, h3, h4, h5, h6, h7⟩
  · exact ⟨by omega, hb, fun h => by omega⟩
  · have e1 : ao = some ⟨g, 0, none⟩ := by injection h1
    have e2 : ac = cap := by injection h1
    subst e1; subst e2
    refine ⟨h4, hb, fun _ => ⟨g, 0, rfl, hok g rfl, fun i hi j v hv => ?_⟩⟩
    have h8 := flat_at hF d l i j v (by omega) hv
    have := h.cells (g := g) rfl (i * sz + j) v h8
    rw [Addr.add_lit] at this
    rwa [show 0 + (i * sz + j) = 0 + i * sz + j by omega] at this
theorem St.settle0 {m : Res} {F : Fact} {w : World} (hB : ∀ b, B.S0 b ↔ domAll [] b) (h : St B Γ (m :: Ms) w) (hF : ∀ ok, (∀ b, m.dom b → ok b) → m.holds w → F.f ok w) : St B (F :: Γ) Ms w :=
  h.settle hF (fun b hb => ((h.lt m List.mem_cons_self b hb).2.resolve_left (fun h0 => domAll_nil b ((hB b).1 h0))))
theorem St.settleCL {w : World} {e : TypeId} {a : SH} {n : Nat} {xs : List Value} {l : List Cl} (hs : St B Γ (rowS 2 e a n xs :: Ms) w) (hB : ∀ b, B.S0 b ↔ domAll [] b) (hx : xs = clFlat l) (hn : n = l.length) (hb : n * 8 ≤ reach) (hu : ∀ c, c ∈ l → u32 c) : St B (CL l a :: Γ) Ms w := by
  subst hx
  subst hn
  refine hs.settle0 hB (fun ok hok hh => ⟨?_, hu⟩)
  exact own_rowAt (F := clCells) clCells_len cl0 (hh : World.ownsRow _ _ _ _ _ _ _) rfl hb hok
/-- A term and its headers. -/
abbrev TP := T × SH × SH × SH
def tpCells (p : TP) : List Value := tc p.1 p.2.1 p.2.2.1 p.2.2.2
abbrev tpFlat (ps : List TP) : List Value := ps.flatMap tpCells
def tp0 : TP := (t0, (Option.none, 0), (Option.none, 0), (Option.none, 0))
def apAt (ok : Nat → Prop) (ps : List TP) (w : World) : Prop := ∀ p, p ∈ ps → termAt ok p.1 p.2.1 p.2.2.1 p.2.2.2 w
def AP (ps : List TP) : Fact := ⟨fun ok w => apAt ok ps w, fun _ _ _ hs h p hp => (h p hp).mono hs, fun _ _ _ h hs p hp => (h p hp).loc hs⟩
theorem St.apNil {w : World} (hs : St B Γ Ms w) : St B (AP [] :: Γ) Ms w := hs.add (fun p hp => by cases hp)
theorem St.apAdd {w : World} {ps : List TP} {t : T} {vr vk vs : SH} (hs : St B Γ Ms w) (h1 : AP ps ∈ Γ) (h2 : RT t vr vk vs ∈ Γ) : St B (AP (ps ++ [(t, vr, vk, vs)]) :: Γ) Ms w := by
  refine hs.add (fun p hp => ?_)
  rcases List.mem_append.mp hp with hp | hp
  · exact hs.facts _ h1 p hp
  · rw [List.mem_singleton] at hp; subst hp; exact hs.facts _ h2
theorem getD_map' {α β : Type} (f : α → β) (l : List α) (i : Nat) (d : α) : (l.map f).getD i (f d) = f (l.getD i d) := by
  simp only [List.getD_eq_getElem?_getD, List.getElem?_map]
  cases l[i]? <;> rfl
theorem St.settleTL {w : World} {e : TypeId} {a : SH} {n : Nat} {xs : List Value} {ps : List TP} {ts : List T} (hs : St B Γ (rowS 6 e a n xs :: Ms) w) (hB : ∀ b, B.S0 b ↔ domAll [] b) (hA : AP ps ∈ Γ) (hx : xs = tpFlat ps) (ht : ps.map (·.1) = ts) (hn : n = ps.length) (hb : n * 104 ≤ reach) : St B (TL ts a :: Γ) Ms w := by
  subst hx; subst ht
  have hap : apAt (okOf B (rowS 6 e a n (tpFlat ps) :: Ms) w) ps w := hs.facts _ hA
  have hadd : ∃ m : Res, m = ⟨fun b => (sl a n).ownBlock = some b, fun w => w.ownsRow 0 e 6 (sl a n) n (tpFlat ps)⟩ := ⟨_, rfl⟩
  have h1 : St B (AP ps :: Γ) Ms w := (hs.drop).less (fun F hF => by rcases List.mem_cons.mp hF with h | h; exact h ▸ hA; exact h)
  have hrow := hs.settle0 (F := ⟨fun ok w => rowAt ok 6 104 n a (fun i => tpCells (ps.getD i tp0)) w, fun _ _ _ hs h => h.mono hs, fun _ _ _ h hs => h.loc hs⟩) hB (fun ok hok hh => own_rowAt (F := tpCells) (fun _ => rfl) tp0 (hh : World.ownsRow _ _ _ _ _ _ _) hn hb hok)
  have hr2 := hrow.facts _ List.mem_cons_self
  have ha2 := h1.facts _ List.mem_cons_self
  refine hs.drop.add ?_
  refine ⟨fun i => (ps.getD i tp0).2.1, fun i => (ps.getD i tp0).2.2.1, fun i => (ps.getD i tp0).2.2.2, ?_, ?_⟩
  · have e1 : (ps.map (·.1)).length = n := by rw [List.length_map, hn]
    rw [e1]
    have e2 : (fun i => tc ((ps.map (·.1)).getD i t0) (ps.getD i tp0).2.1 (ps.getD i tp0).2.2.1 (ps.getD i tp0).2.2.2) = fun i => tpCells (ps.getD i tp0) := by
      funext i
      rw [show t0 = (fun p : TP => p.1) tp0 from rfl, getD_map' (fun p : TP => p.1)]
      rfl
    rw [e2]
    exact hr2
  · refine allAt_of fun i t hi => ?_
    rw [List.getElem?_map] at hi
    obtain ⟨p, hp, e⟩ := Option.map_eq_some_iff.mp hi
    have e3 : ps.getD i tp0 = p := by rw [List.getD_eq_getElem?_getD, hp]; rfl
    rw [e3, ← e]
    exact ha2 p (List.mem_of_getElem? hp)
/-- A branch and its headers. -/
abbrev BP := Br × SH × SH
def bpCells (p : BP) : List Value := bc p.1 p.2.1 p.2.2
abbrev bpFlat (ps : List BP) : List Value := ps.flatMap bpCells
def bp0 : BP := (br0, (Option.none, 0), (Option.none, 0))
def bpAt (ok : Nat → Prop) (ps : List BP) (w : World) : Prop := ∀ p, p ∈ ps → brAt ok p.1 p.2.1 p.2.2 w
def BPs (ps : List BP) : Fact := ⟨fun ok w => bpAt ok ps w, fun _ _ _ hs h p hp => (h p hp).mono hs, fun _ _ _ h hs p hp => (h p hp).loc hs⟩
theorem St.bpNil {w : World} (hs : St B Γ Ms w) : St B (BPs [] :: Γ) Ms w := hs.add (fun p hp => by cases hp)
theorem St.bpAdd {w : World} {ps : List BP} {f : List Cl} {ks : List T} {vf vk : SH} (hs : St B Γ Ms w) (h1 : BPs ps ∈ Γ) (h2 : CL f vf ∈ Γ) (h3 : TL ks vk ∈ Γ) : St B (BPs (ps ++ [(.mk f ks, vf, vk)]) :: Γ) Ms w := by
  refine hs.add (fun p hp => ?_)
  rcases List.mem_append.mp hp with hp | hp
  · exact hs.facts _ h1 p hp
  · rw [List.mem_singleton] at hp; subst hp
    exact brAt_mk (hs.facts _ h2) (hs.facts _ h3)
theorem St.settleBL {w : World} {e : TypeId} {a : SH} {n : Nat} {xs : List Value} {ps : List BP} {bs : List Br} (hs : St B Γ (rowS 2 e a n xs :: Ms) w) (hB : ∀ b, B.S0 b ↔ domAll [] b) (hA : BPs ps ∈ Γ) (hx : xs = bpFlat ps) (ht : ps.map (·.1) = bs) (hn : n = ps.length) (hb : n * 48 ≤ reach) : St B (BL bs a :: Γ) Ms w := by
  subst hx; subst ht
  have h1 : St B (BPs ps :: Γ) Ms w := (hs.drop).less (fun F hF => by rcases List.mem_cons.mp hF with h | h; exact h ▸ hA; exact h)
  have hrow := hs.settle0 (F := ⟨fun ok w => rowAt ok 2 48 n a (fun i => bpCells (ps.getD i bp0)) w, fun _ _ _ hs h => h.mono hs, fun _ _ _ h hs => h.loc hs⟩) hB (fun ok hok hh => own_rowAt (F := bpCells) (fun _ => rfl) bp0 (hh : World.ownsRow _ _ _ _ _ _ _) hn hb hok)
  have hr2 := hrow.facts _ List.mem_cons_self
  have ha2 := h1.facts _ List.mem_cons_self
  refine hs.drop.add ?_
  refine ⟨fun i => (ps.getD i bp0).2.1, fun i => (ps.getD i bp0).2.2, ?_, ?_⟩
  · have e1 : (ps.map (·.1)).length = n := by rw [List.length_map, hn]
    rw [e1]
    have e2 : (fun i => bc ((ps.map (·.1)).getD i br0) (ps.getD i bp0).2.1 (ps.getD i bp0).2.2) = fun i => bpCells (ps.getD i bp0) := by
      funext i
      rw [show br0 = (fun p : BP => p.1) bp0 from rfl, getD_map' (fun p : BP => p.1)]
      rfl
    rw [e2]
    exact hr2
  · refine brsAt_of fun i b hi => ?_
    rw [List.getElem?_map] at hi
    obtain ⟨p, hp, e⟩ := Option.map_eq_some_iff.mp hi
    have e3 : ps.getD i bp0 = p := by rw [List.getD_eq_getElem?_getD, hp]; rfl
    rw [e3, ← e]
    exact ha2 p (List.mem_of_getElem? hp)
theorem St.mkRT {w : World} {k n : Int} {nm : ByteArray} {r : List Cl} {ks : List T} {ss : List Br} {vr vk vs : SH} (hs : St B Γ Ms w) (h1 : in64 k) (h2 : in64 n) (h3 : nm.size ≤ cap47) (h4 : CL r vr ∈ Γ) (h5 : TL ks vk ∈ Γ) (h6 : BL ss vs ∈ Γ) : St B (RT (.mk k n nm r ks ss) vr vk vs :: Γ) Ms w :=
  hs.add (termAt_mk h1 h2 h3 (hs.facts _ h4) (hs.facts _ h5) (hs.facts _ h6))
theorem St.nilCL {w : World} (c : Nat) (hs : St B Γ Ms w) : St B (CL [] (Option.none, c) :: Γ) Ms w := hs.add ⟨⟨Nat.zero_le _, by simp, fun h => absurd h (by simp)⟩, fun c hc => by cases hc⟩
theorem St.nilTL {w : World} (c : Nat) (hs : St B Γ Ms w) : St B (TL [] (Option.none, c) :: Γ) Ms w := hs.add ⟨fun _ => (Option.none, 0), fun _ => (Option.none, 0), fun _ => (Option.none, 0), ⟨Nat.zero_le _, by simp, fun h => absurd h (by simp)⟩, by simp [allAt]⟩
theorem St.nilBL {w : World} (c : Nat) (hs : St B Γ Ms w) : St B (BL [] (Option.none, c) :: Γ) Ms w := hs.add ⟨fun _ => (Option.none, 0), fun _ => (Option.none, 0), ⟨Nat.zero_le _, by simp, fun h => absurd h (by simp)⟩, by simp [brsAt]⟩

/-- A literal's array is a row. -/
theorem St.boxRow {w : World} {b sz m : Nat} {e : TypeId} {cs : List Value} (hs : St B Γ (boxR b cs e :: Ms) w) (hl : cs.length = m * sz) (hm : m ≤ maxLen) : St B Γ (rowS sz e (some ⟨b, 0, Option.none⟩, m) m cs :: Ms) w := by
  have hg : w.heap[b]? = some (.cells cs.toArray e (0, 0)) := hs.res _ List.mem_cons_self w (fun _ _ => rfl)
  have hlt := (hs.lt _ List.mem_cons_self b rfl).1
  refine hs.turn (m' := rowS sz e (some ⟨b, 0, Option.none⟩, m) m cs) (Chg.refl _ _) (fun w2 hw2 => ⟨hl, .inr ⟨b, m, cs.toArray, rfl, Nat.zero_le _, ?_, Nat.le_refl _, hm, by simpa using hl, by simp [← hl]⟩⟩) (fun k hk => ?_)
  · rw [hw2 b rfl]; exact hg
  · have hk : Value.ownBlock (sl (some ⟨b, 0, Option.none⟩, m) m) = some k := hk
    simp only [sl, Value.ownBlock, Option.some.injEq] at hk
    subst hk
    exact ⟨hlt, .inl rfl⟩
theorem rg_state {f : FuncId} {R : Ending → World → Prop} {n : Nat} {K : List Item} {ops : Array Oper} {l : List Nat} {Γ' : List Fact} {Ms' : List Res} (hs : ∀ w, St B Γ Ms w → St B Γ' Ms' w) (h : RgT P f R B n K ops l σ Γ' Ms') : RgT P f R B n K ops l σ Γ Ms := fun a w hr h0 => h a w hr (hs w h0)

/-! ### A literal of one element -/
theorem fill_list : ∀ (l : List Value) (k : Nat) (base : Array Value), base.size = k + l.length → (List.foldl (fun (cs : Array Value) (p : Value × Nat) => cs.setIfInBounds (0 + p.2) p.1) base (l.zipIdx k)).toList = base.toList.take k ++ l
  | [], k, base, h => by simp [List.take_of_length_le, h]
  | v :: l, k, base, h => by
    rw [List.zipIdx_cons, List.foldl_cons, fill_list l (k + 1) _ (by simp [h]; omega)]
    have hk : k < base.toList.length := by simp [h]
    simp only [Nat.zero_add, Array.toList_setIfInBounds]
    rw [List.take_succ_eq_append_getElem (by simpa using hk), List.take_set]
    rw [List.set_eq_of_length_le (by simp; omega)]
    simp
theorem fill_one {sz : Nat} {base : Array Value} {v : Value} {cs : List Value} (hv : v.cells = cs.toArray) (hl : cs.length = sz) (hb : base.size = sz) : Instr.fill (fun i => some (i * sz, sz)) base [(0, v)] = some cs.toArray := by
  have hc : ¬ ((decide (v.cells.size ≠ sz) || decide (0 * sz + v.cells.size > base.size)) = true) := by simp [hv, hl, hb]
  simp only [Instr.fill]
  rw [if_neg hc]
  congr 1
  apply Array.ext'
  have := fill_list cs 0 base (by omega)
  rw [List.take_zero, List.nil_append] at this
  rw [hv]
  rw [← Array.foldl_toList, Array.toList_zipIdx]
  simpa using this
theorem ae_lit1 {t e : TypeId} {sz bt : Nat} {zv : Value} {cs : List Value} (hu : Tab.und P t = some (.slice e)) (hi : Tab.inf P e = some (sz, bt, zv)) (hle : sz ≤ 16777216) (hx : (ev σ x).cells = cs.toArray) (hl : cs.length = sz) :
    AllocE P σ (.buildSlice t 1 #[(0, x)]) ty (fun b => .slice (some ⟨b, 0, Option.none⟩) 1 1) cs e :=
  ae_lit (pv := [(0, ev σ x)]) hu hi (by omega) rfl (fill_one hx hl (by simp))
theorem ae_lit0 {t e : TypeId} {sz bt : Nat} {zv : Value} (hu : Tab.und P t = some (.slice e)) (hi : Tab.inf P e = some (sz, bt, zv)) :
    AllocE P σ (.buildSlice t 0 #[]) ty (fun b => .slice (some ⟨b, 0, Option.none⟩) 0 0) [] e :=
  ae_lit (pv := []) hu hi (by omega) rfl (by simp [Instr.fill])

theorem fill_gen : ∀ (l : List Value) (o k : Nat) (base : Array Value), base.size ≥ o + k + l.length → (List.foldl (fun (cs : Array Value) (p : Value × Nat) => cs.setIfInBounds (o + p.2) p.1) base (l.zipIdx k)).toList = base.toList.take (o + k) ++ l ++ base.toList.drop (o + k + l.length)
  | [], o, k, base, h => by simp
  | v :: l, o, k, base, h => by
    rw [List.zipIdx_cons, List.foldl_cons, fill_gen l o (k + 1) _ (by simp at h ⊢; omega)]
    have hk : o + k < base.toList.length := by simp at h ⊢; omega
    simp only [Array.toList_setIfInBounds]
    rw [← Nat.add_assoc, List.take_succ_eq_append_getElem (by simpa using hk), List.take_set]
    rw [List.set_eq_of_length_le (by simp; omega)]
    rw [List.drop_set_of_lt (by omega)]
    simp [Nat.add_assoc, Nat.add_comm 1]
theorem fill_rows {sz : Nat} : ∀ (vs : List Value) (k : Nat) (base : Array Value), base.size = (k + vs.length) * sz → (∀ v, v ∈ vs → v.cells.size = sz) →
    Instr.fill (fun i => some (i * sz, sz)) base ((vs.zipIdx k).map fun p => (p.2, p.1)) = some (base.toList.take (k * sz) ++ vs.flatMap (·.cells.toList)).toArray
  | [], k, base, h, _ => by
    have e : base.toList.take (k * sz) = base.toList := List.take_of_length_le (by simp [h])
    simp [Instr.fill, e]
  | v :: vs, k, base, h, hv => by
    have h1 := hv v List.mem_cons_self
    have hsz : base.size = k * sz + sz + vs.length * sz := by rw [h, List.length_cons]; simp only [Nat.add_mul, Nat.one_mul]; omega
    have hc : ¬ ((decide (v.cells.size ≠ sz) || decide (k * sz + v.cells.size > base.size)) = true) := by
      rw [h1, hsz]; simp
    rw [List.zipIdx_cons, List.map_cons]
    simp only [Instr.fill]
    rw [if_neg hc]
    have hfold : (Array.foldl (fun cs x => match x with | (c, j) => cs.setIfInBounds (k * sz + j) c) base v.cells.zipIdx).toList = base.toList.take (k * sz) ++ v.cells.toList ++ base.toList.drop (k * sz + sz) := by
      have := fill_gen v.cells.toList (k * sz) 0 base (by simp [h1]; omega)
      rw [← Array.foldl_toList, Array.toList_zipIdx]
      simpa [h1] using this
    have hl : (Array.foldl (fun cs x => match x with | (c, j) => cs.setIfInBounds (k * sz + j) c) base v.cells.zipIdx).size = base.size := by
      rw [← Array.length_toList, hfold]; simp [h1]; omega
    rw [fill_rows vs (k + 1) _ (by rw [hl, h, List.length_cons]; congr 1; omega) (fun u hu => hv u (List.mem_cons_of_mem _ hu)), hfold]
    congr 2
    have e1 : (base.toList.take (k * sz) ++ v.cells.toList).length = (k + 1) * sz := by simp [h1, Nat.add_mul]; omega
    rw [← e1, List.take_left, List.flatMap_cons, List.append_assoc]
theorem ae_lit2 {t e : TypeId} {sz bt : Nat} {zv : Value} {y : Operand} {cs cs2 : List Value} (hu : Tab.und P t = some (.slice e)) (hi : Tab.inf P e = some (sz, bt, zv)) (hle : 2 * sz ≤ 16777216) (hx : (ev σ x).cells = cs.toArray) (hy : (ev σ y).cells = cs2.toArray) (hl : cs.length = sz) (hl2 : cs2.length = sz) :
    AllocE P σ (.buildSlice t 2 #[(0, x), (1, y)]) ty (fun b => .slice (some ⟨b, 0, Option.none⟩) 2 2) (cs ++ cs2) e := by
  refine ae_lit (pv := [(0, ev σ x), (1, ev σ y)]) hu hi hle rfl ?_
  have := fill_rows (sz := sz) [ev σ x, ev σ y] 0 ((List.range (2 * sz)).map (zv.cells[· % zv.cells.size]!)).toArray (by simp) (fun v hv => by
    simp only [List.mem_cons, List.not_mem_nil, or_false] at hv
    rcases hv with rfl | rfl
    · rw [hx]; simpa using hl
    · rw [hy]; simpa using hl2)
  simpa [hx, hy] using this
/-! ### Literals of terms become facts -/
abbrev nul : SH := (Option.none, 0)
theorem St.leaf {w : World} (k n : Int) (nm : ByteArray) (hs : St B Γ Ms w) (h1 : in64 k) (h2 : in64 n) (h3 : nm.size ≤ cap47) : St B (RT (.mk k n nm [] [] []) nul nul nul :: Γ) Ms w :=
  ((((hs.nilCL 0).nilTL 0).nilBL 0).mkRT h1 h2 h3 (r := []) (ks := []) (ss := []) (vr := nul) (vk := nul) (vs := nul) (by simp) (by simp) (by simp)).less (by simp +contextual)
theorem St.lit1T {w : World} {b : Nat} {e : TypeId} {cs : List Value} {t : T} {vr vk vs : SH} (hs : St B Γ (boxR b cs e :: Ms) w) (hB : ∀ b, B.S0 b ↔ domAll [] b) (hR : RT t vr vk vs ∈ Γ) (hc : cs = tc t vr vk vs) : St B (TL [t] (some ⟨b, 0, Option.none⟩, 1) :: Γ) Ms w := by
  have h1 := ((hs.boxRow (sz := 6) (m := 1) (by rw [hc]; rfl) (by decide)).apNil).apAdd (ps := []) (t := t) (vr := vr) (vk := vk) (vs := vs) List.mem_cons_self (List.mem_cons_of_mem _ hR)
  exact (h1.settleTL (ps := [(t, vr, vk, vs)]) hB List.mem_cons_self (by rw [hc]; simp [tpFlat, tpCells]) rfl rfl (by decide)).less (by simp +contextual)
theorem St.lit2T {w : World} {b : Nat} {e : TypeId} {cs : List Value} {t u : T} {vr vk vs ur uk us : SH} (hs : St B Γ (boxR b cs e :: Ms) w) (hB : ∀ b, B.S0 b ↔ domAll [] b) (hR : RT t vr vk vs ∈ Γ) (hR2 : RT u ur uk us ∈ Γ) (hc : cs = tc t vr vk vs ++ tc u ur uk us) : St B (TL [t, u] (some ⟨b, 0, Option.none⟩, 2) :: Γ) Ms w := by
  have h1 := ((hs.boxRow (sz := 6) (m := 2) (by rw [hc]; rfl) (by decide)).apNil).apAdd (ps := []) (t := t) (vr := vr) (vk := vk) (vs := vs) List.mem_cons_self (List.mem_cons_of_mem _ hR)
  have h2 := h1.apAdd (ps := [(t, vr, vk, vs)]) (t := u) (vr := ur) (vk := uk) (vs := us) List.mem_cons_self (by simp [hR2])
  exact (h2.settleTL (ps := [(t, vr, vk, vs), (u, ur, uk, us)]) hB List.mem_cons_self (by rw [hc]; simp [tpFlat, tpCells]) rfl rfl (by decide)).less (by simp +contextual)
/-- A node with kids alone. -/
theorem St.node {w : World} (k n : Int) (ks : List T) (vk : SH) (hs : St B Γ Ms w) (h1 : in64 k) (h2 : in64 n) (h5 : TL ks vk ∈ Γ) : St B (RT (.mk k n ⟨#[]⟩ [] ks []) nul vk nul :: Γ) Ms w :=
  (((hs.nilCL 0).nilBL 0).mkRT h1 h2 (nm := ⟨#[]⟩) (by exact Nat.zero_le _) (r := []) (ks := ks) (ss := []) (vr := nul) (vk := vk) (vs := nul) (by simp) (by simp [h5]) (by simp)).less (by simp +contextual)
end
end Go.Hy
