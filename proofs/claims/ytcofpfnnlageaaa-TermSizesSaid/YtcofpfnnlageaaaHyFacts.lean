/- How clauses, terms and branches lie in memory. -/
import Derived.Test.YtcofpfnnlageaaaHyDraw
namespace Go.Hy
set_option linter.unusedVariables false
set_option linter.unusedSimpArgs false
set_option linter.unusedSectionVars false
set_option linter.unusedVariables false
set_option linter.unusedSimpArgs false

/-! ### Data -/
structure Cl where
  pos : Nat
  neg : Nat
deriving DecidableEq

mutual
inductive T where
  | mk (kind n : Int) (name : ByteArray) (r : List Cl) (kids : List T) (sys : List Br)
inductive Br where
  | mk (face : List Cl) (kids : List T)
end
namespace T
set_option linter.unusedVariables false
set_option linter.unusedSimpArgs false
set_option linter.unusedSectionVars false
def kind : T → Int | .mk k _ _ _ _ _ => k
def n : T → Int | .mk _ n _ _ _ _ => n
def name : T → ByteArray | .mk _ _ nm _ _ _ => nm
def r : T → List Cl | .mk _ _ _ r _ _ => r
def kids : T → List T | .mk _ _ _ _ ks _ => ks
def sys : T → List Br | .mk _ _ _ _ _ s => s
end T
namespace Br
set_option linter.unusedVariables false
set_option linter.unusedSimpArgs false
set_option linter.unusedSectionVars false
def face : Br → List Cl | .mk f _ => f
def kids : Br → List T | .mk _ ks => ks
end Br
def cap47 : Nat := 140737488355328
def reach : Nat := 140737488351232
def in64 (n : Int) : Prop := -9223372036854775808 ≤ n ∧ n ≤ 9223372036854775807

/-! ### Facts: cells, slices -/
def cellsAt (ok : Nat → Prop) (b o : Nat) (cs : List Value) (w : World) : Prop := ok b ∧ ∀ j v, cs[j]? = some v → w.cell? ⟨b, o + j, none⟩ = some v
theorem cellsAt.mono {ok ok' : Nat → Prop} {b o : Nat} {cs : List Value} {w : World} (hs : ∀ b, ok b → ok' b) (h : cellsAt ok b o cs w) : cellsAt ok' b o cs w := ⟨hs b h.1, h.2⟩
theorem cell_of_block {w w' : World} {b o : Nat} (h : w'.heap[b]? = w.heap[b]?) : w'.cell? ⟨b, o, none⟩ = w.cell? ⟨b, o, none⟩ := by
  simp only [World.cell?, h]
theorem cellsAt.loc {ok : Nat → Prop} {b o : Nat} {cs : List Value} {w w' : World} (h : cellsAt ok b o cs w) (hs : ∀ b, ok b → w'.heap[b]? = w.heap[b]?) : cellsAt ok b o cs w' :=
  ⟨h.1, fun j v hj => (cell_of_block (hs b h.1)).trans (h.2 j v hj)⟩
def At (b o : Nat) (cs : List Value) : Fact := ⟨fun ok w => cellsAt ok b o cs w, fun _ _ _ hs h => h.mono hs, fun _ _ _ h hs => h.loc hs⟩

/-- A slice's header without its length: where its array lies, and its capacity. -/
abbrev SH := Option Addr × Nat
def sl (a : SH) (n : Nat) : Value := .slice a.1 n a.2
/-- A row of n elements, of sz cells (bt bytes) each: element i has the cells E i. -/
def rowAt (ok : Nat → Prop) (sz bt n : Nat) (a : SH) (E : Nat → List Value) (w : World) : Prop :=
  n ≤ a.2 ∧ n * bt ≤ reach ∧ (0 < n → ∃ b o, a.1 = some ⟨b, o, none⟩ ∧ ok b ∧ ∀ i, i < n → ∀ j v, (E i)[j]? = some v → w.cell? ⟨b, o + i * sz + j, none⟩ = some v)
theorem rowAt.mono {ok ok' : Nat → Prop} {sz bt n : Nat} {a : SH} {E : Nat → List Value} {w : World} (hs : ∀ b, ok b → ok' b) (h : rowAt ok sz bt n a E w) : rowAt ok' sz bt n a E w :=
  ⟨h.1, h.2.1, fun hn => by obtain ⟨b, o, h1, h2, h3⟩ := h.2.2 hn; exact ⟨b, o, h1, hs b h2, h3⟩⟩
theorem rowAt.loc {ok : Nat → Prop} {sz bt n : Nat} {a : SH} {E : Nat → List Value} {w w' : World} (h : rowAt ok sz bt n a E w) (hs : ∀ b, ok b → w'.heap[b]? = w.heap[b]?) : rowAt ok sz bt n a E w' :=
  ⟨h.1, h.2.1, fun hn => by obtain ⟨b, o, h1, h2, h3⟩ := h.2.2 hn; exact ⟨b, o, h1, h2, fun i hi j v hv => (cell_of_block (hs b h2)).trans (h3 i hi j v hv)⟩⟩

def clCells (c : Cl) : List Value := [.int .u32 c.pos, .int .u32 c.neg]
def u32 (c : Cl) : Prop := c.pos < 4294967296 ∧ c.neg < 4294967296
def cl0 : Cl := ⟨0, 0⟩
/-- A list of clauses. -/
def clsAt (ok : Nat → Prop) (l : List Cl) (a : SH) (w : World) : Prop := rowAt ok 2 8 l.length a (fun i => clCells (l.getD i cl0)) w ∧ ∀ c, c ∈ l → u32 c
theorem clsAt.mono {ok ok' : Nat → Prop} {l : List Cl} {a : SH} {w : World} (hs : ∀ b, ok b → ok' b) (h : clsAt ok l a w) : clsAt ok' l a w := ⟨h.1.mono hs, h.2⟩
theorem clsAt.loc {ok : Nat → Prop} {l : List Cl} {a : SH} {w w' : World} (h : clsAt ok l a w) (hs : ∀ b, ok b → w'.heap[b]? = w.heap[b]?) : clsAt ok l a w' := ⟨h.1.loc hs, h.2⟩
def CL (l : List Cl) (a : SH) : Fact := ⟨fun ok w => clsAt ok l a w, fun _ _ _ hs h => h.mono hs, fun _ _ _ h hs => h.loc hs⟩

/-! ### Terms in memory: vr, vk, vs are the headers of the slices in the node's last three cells -/
def tc (t : T) (vr vk vs : SH) : List Value := [.int .i64 t.kind, .int .i64 t.n, .string t.name, sl vr t.r.length, sl vk t.kids.length, sl vs t.sys.length]
def bc (b : Br) (vf vk : SH) : List Value := [sl vf b.face.length, sl vk b.kids.length]
def t0 : T := .mk 0 0 ⟨#[]⟩ [] [] []
def br0 : Br := .mk [] []
mutual
def termAt (ok : Nat → Prop) : T → SH → SH → SH → World → Prop
  | .mk k n nm r ks ss, vr, vk, vs, w => in64 k ∧ in64 n ∧ nm.size ≤ cap47 ∧ clsAt ok r vr w ∧
      (∃ VR VK VS, rowAt ok 6 104 ks.length vk (fun i => tc (ks.getD i t0) (VR i) (VK i) (VS i)) w ∧ allAt ok ks VR VK VS w) ∧
      (∃ VF VK, rowAt ok 2 48 ss.length vs (fun i => bc (ss.getD i br0) (VF i) (VK i)) w ∧ brsAt ok ss VF VK w)
def allAt (ok : Nat → Prop) : List T → (Nat → SH) → (Nat → SH) → (Nat → SH) → World → Prop
  | [], _, _, _, _ => True
  | t :: ts, VR, VK, VS, w => termAt ok t (VR 0) (VK 0) (VS 0) w ∧ allAt ok ts (fun i => VR (i + 1)) (fun i => VK (i + 1)) (fun i => VS (i + 1)) w
def brAt (ok : Nat → Prop) : Br → SH → SH → World → Prop
  | .mk f ks, vf, vk, w => clsAt ok f vf w ∧ (∃ VR VK VS, rowAt ok 6 104 ks.length vk (fun i => tc (ks.getD i t0) (VR i) (VK i) (VS i)) w ∧ allAt ok ks VR VK VS w)
def brsAt (ok : Nat → Prop) : List Br → (Nat → SH) → (Nat → SH) → World → Prop
  | [], _, _, _ => True
  | b :: bs, VF, VK, w => brAt ok b (VF 0) (VK 0) w ∧ brsAt ok bs (fun i => VF (i + 1)) (fun i => VK (i + 1)) w
end
mutual
theorem termAt.mono {ok ok' : Nat → Prop} {w : World} (hs : ∀ b, ok b → ok' b) : ∀ {t : T} {vr vk vs : SH}, termAt ok t vr vk vs w → termAt ok' t vr vk vs w
  | .mk k n nm r ks ss, vr, vk, vs, h => by
    simp only [termAt] at h ⊢
    obtain ⟨h1, h2, h3, h4, ⟨VR, VK, VS, h6, h7⟩, ⟨VF, VK', h9, h10⟩⟩ := h
    exact ⟨h1, h2, h3, h4.mono hs, ⟨VR, VK, VS, h6.mono hs, allAt.mono hs h7⟩, ⟨VF, VK', h9.mono hs, brsAt.mono hs h10⟩⟩
theorem allAt.mono {ok ok' : Nat → Prop} {w : World} (hs : ∀ b, ok b → ok' b) : ∀ {ts : List T} {VR VK VS : Nat → SH}, allAt ok ts VR VK VS w → allAt ok' ts VR VK VS w
  | [], _, _, _, _ => by simp only [allAt]
  | t :: ts, _, _, _, h => by
    simp only [allAt] at h ⊢
    exact ⟨termAt.mono hs h.1, allAt.mono hs h.2⟩
theorem brAt.mono {ok ok' : Nat → Prop} {w : World} (hs : ∀ b, ok b → ok' b) : ∀ {b : Br} {vf vk : SH}, brAt ok b vf vk w → brAt ok' b vf vk w
  | .mk f ks, vf, vk, h => by
    simp only [brAt] at h ⊢
    obtain ⟨h4, ⟨VR, VK, VS, h6, h7⟩⟩ := h
    exact ⟨h4.mono hs, ⟨VR, VK, VS, h6.mono hs, allAt.mono hs h7⟩⟩
theorem brsAt.mono {ok ok' : Nat → Prop} {w : World} (hs : ∀ b, ok b → ok' b) : ∀ {bs : List Br} {VF VK : Nat → SH}, brsAt ok bs VF VK w → brsAt ok' bs VF VK w
  | [], _, _, _ => by simp only [brsAt]
  | b :: bs, _, _, h => by
    simp only [brsAt] at h ⊢
    exact ⟨brAt.mono hs h.1, brsAt.mono hs h.2⟩
end
mutual
theorem termAt.loc {ok : Nat → Prop} {w w' : World} (hs : ∀ b, ok b → w'.heap[b]? = w.heap[b]?) : ∀ {t : T} {vr vk vs : SH}, termAt ok t vr vk vs w → termAt ok t vr vk vs w'
  | .mk k n nm r ks ss, vr, vk, vs, h => by
    simp only [termAt] at h ⊢
    obtain ⟨h1, h2, h3, h4, ⟨VR, VK, VS, h6, h7⟩, ⟨VF, VK', h9, h10⟩⟩ := h
    exact ⟨h1, h2, h3, h4.loc hs, ⟨VR, VK, VS, h6.loc hs, allAt.loc hs h7⟩, ⟨VF, VK', h9.loc hs, brsAt.loc hs h10⟩⟩
theorem allAt.loc {ok : Nat → Prop} {w w' : World} (hs : ∀ b, ok b → w'.heap[b]? = w.heap[b]?) : ∀ {ts : List T} {VR VK VS : Nat → SH}, allAt ok ts VR VK VS w → allAt ok ts VR VK VS w'
  | [], _, _, _, _ => by simp only [allAt]
  | t :: ts, _, _, _, h => by
    simp only [allAt] at h ⊢
    exact ⟨termAt.loc hs h.1, allAt.loc hs h.2⟩
theorem brAt.loc {ok : Nat → Prop} {w w' : World} (hs : ∀ b, ok b → w'.heap[b]? = w.heap[b]?) : ∀ {b : Br} {vf vk : SH}, brAt ok b vf vk w → brAt ok b vf vk w'
  | .mk f ks, vf, vk, h => by
    simp only [brAt] at h ⊢
    obtain ⟨h4, ⟨VR, VK, VS, h6, h7⟩⟩ := h
    exact ⟨h4.loc hs, ⟨VR, VK, VS, h6.loc hs, allAt.loc hs h7⟩⟩
theorem brsAt.loc {ok : Nat → Prop} {w w' : World} (hs : ∀ b, ok b → w'.heap[b]? = w.heap[b]?) : ∀ {bs : List Br} {VF VK : Nat → SH}, brsAt ok bs VF VK w → brsAt ok bs VF VK w'
  | [], _, _, _ => by simp only [brsAt]
  | b :: bs, _, _, h => by
    simp only [brsAt] at h ⊢
    exact ⟨brAt.loc hs h.1, brsAt.loc hs h.2⟩
end
/-- A term; a list of terms, of branches; laid open. -/
def RT (t : T) (vr vk vs : SH) : Fact := ⟨fun ok w => termAt ok t vr vk vs w, fun _ _ _ hs h => h.mono hs, fun _ _ _ h hs => h.loc hs⟩
def tlxAt (ok : Nat → Prop) (ts : List T) (a : SH) (VR VK VS : Nat → SH) (w : World) : Prop := rowAt ok 6 104 ts.length a (fun i => tc (ts.getD i t0) (VR i) (VK i) (VS i)) w ∧ allAt ok ts VR VK VS w
def TLx (ts : List T) (a : SH) (VR VK VS : Nat → SH) : Fact := ⟨fun ok w => tlxAt ok ts a VR VK VS w, fun _ _ _ hs h => ⟨h.1.mono hs, h.2.mono hs⟩, fun _ _ _ h hs => ⟨h.1.loc hs, h.2.loc hs⟩⟩
def tlAt (ok : Nat → Prop) (ts : List T) (a : SH) (w : World) : Prop := ∃ VR VK VS, tlxAt ok ts a VR VK VS w
def TL (ts : List T) (a : SH) : Fact := ⟨fun ok w => tlAt ok ts a w, fun _ _ _ hs ⟨VR, VK, VS, h2⟩ => ⟨VR, VK, VS, h2.1.mono hs, h2.2.mono hs⟩, fun _ _ _ ⟨VR, VK, VS, h2⟩ hs => ⟨VR, VK, VS, h2.1.loc hs, h2.2.loc hs⟩⟩
def blxAt (ok : Nat → Prop) (bs : List Br) (a : SH) (VF VK : Nat → SH) (w : World) : Prop := rowAt ok 2 48 bs.length a (fun i => bc (bs.getD i br0) (VF i) (VK i)) w ∧ brsAt ok bs VF VK w
def BLx (bs : List Br) (a : SH) (VF VK : Nat → SH) : Fact := ⟨fun ok w => blxAt ok bs a VF VK w, fun _ _ _ hs h => ⟨h.1.mono hs, h.2.mono hs⟩, fun _ _ _ h hs => ⟨h.1.loc hs, h.2.loc hs⟩⟩
def blAt (ok : Nat → Prop) (bs : List Br) (a : SH) (w : World) : Prop := ∃ VF VK, blxAt ok bs a VF VK w
def BL (bs : List Br) (a : SH) : Fact := ⟨fun ok w => blAt ok bs a w, fun _ _ _ hs ⟨VF, VK, h2⟩ => ⟨VF, VK, h2.1.mono hs, h2.2.mono hs⟩, fun _ _ _ ⟨VF, VK, h2⟩ hs => ⟨VF, VK, h2.1.loc hs, h2.2.loc hs⟩⟩
def RB (b : Br) (vf vk : SH) : Fact := ⟨fun ok w => brAt ok b vf vk w, fun _ _ _ hs h => h.mono hs, fun _ _ _ h hs => h.loc hs⟩
/-- A fact of no memory. -/
def Pu (p : Prop) : Fact := ⟨fun _ _ => p, fun _ _ _ _ h => h, fun _ _ _ h _ => h⟩

theorem allAt_get {ok : Nat → Prop} {w : World} : ∀ {ts : List T} {VR VK VS : Nat → SH} {i : Nat} {t : T}, allAt ok ts VR VK VS w → ts[i]? = some t → termAt ok t (VR i) (VK i) (VS i) w
  | [], _, _, _, _, _, _, h => by simp at h
  | t :: ts, _, _, _, 0, u, h, hi => by
    simp only [allAt] at h
    simp at hi
    subst hi
    exact h.1
  | t :: ts, VR, VK, VS, i + 1, u, h, hi => by
    simp only [allAt] at h
    exact allAt_get (VR := fun i => VR (i + 1)) (VK := fun i => VK (i + 1)) (VS := fun i => VS (i + 1)) h.2 (by simpa using hi)
theorem brsAt_get {ok : Nat → Prop} {w : World} : ∀ {bs : List Br} {VF VK : Nat → SH} {i : Nat} {b : Br}, brsAt ok bs VF VK w → bs[i]? = some b → brAt ok b (VF i) (VK i) w
  | [], _, _, _, _, _, h => by simp at h
  | b :: bs, _, _, 0, u, h, hi => by
    simp only [brsAt] at h
    simp at hi
    subst hi
    exact h.1
  | b :: bs, VF, VK, i + 1, u, h, hi => by
    simp only [brsAt] at h
    exact brsAt_get (VF := fun i => VF (i + 1)) (VK := fun i => VK (i + 1)) h.2 (by simpa using hi)
theorem allAt_of {ok : Nat → Prop} {w : World} : ∀ {ts : List T} {VR VK VS : Nat → SH}, (∀ i t, ts[i]? = some t → termAt ok t (VR i) (VK i) (VS i) w) → allAt ok ts VR VK VS w
  | [], _, _, _, _ => by simp only [allAt]
  | t :: ts, _, _, _, h => by
    simp only [allAt]
    exact ⟨h 0 t rfl, allAt_of fun i u hi => h (i + 1) u (by simpa using hi)⟩
theorem brsAt_of {ok : Nat → Prop} {w : World} : ∀ {bs : List Br} {VF VK : Nat → SH}, (∀ i b, bs[i]? = some b → brAt ok b (VF i) (VK i) w) → brsAt ok bs VF VK w
  | [], _, _, _ => by simp only [brsAt]
  | b :: bs, _, _, h => by
    simp only [brsAt]
    exact ⟨h 0 b rfl, brsAt_of fun i u hi => h (i + 1) u (by simpa using hi)⟩

/-! Facts out of facts. -/
theorem termAt_parts {ok : Nat → Prop} {t : T} {vr vk vs : SH} {w : World} (h : termAt ok t vr vk vs w) : in64 t.kind ∧ in64 t.n ∧ t.name.size ≤ cap47 ∧ clsAt ok t.r vr w ∧ tlAt ok t.kids vk w ∧ blAt ok t.sys vs w := by
  cases t with
  | mk k n nm r ks ss =>
    simp only [termAt] at h
    obtain ⟨h1, h2, h3, h4, ⟨VR, VK, VS, h6, h7⟩, ⟨VF, VK', h9, h10⟩⟩ := h
    exact ⟨h1, h2, h3, h4, ⟨VR, VK, VS, h6, h7⟩, ⟨VF, VK', h9, h10⟩⟩
theorem termAt_mk {ok : Nat → Prop} {k n : Int} {nm : ByteArray} {r : List Cl} {ks : List T} {ss : List Br} {vr vk vs : SH} {w : World} (h1 : in64 k) (h2 : in64 n) (h3 : nm.size ≤ cap47) (h4 : clsAt ok r vr w) (h5 : tlAt ok ks vk w) (h6 : blAt ok ss vs w) : termAt ok (.mk k n nm r ks ss) vr vk vs w := by
  simp only [termAt]
  obtain ⟨VR, VK, VS, h6', h7⟩ := h5
  obtain ⟨VF, VK', h9, h10⟩ := h6
  exact ⟨h1, h2, h3, h4, ⟨VR, VK, VS, h6', h7⟩, ⟨VF, VK', h9, h10⟩⟩
theorem brAt_parts {ok : Nat → Prop} {b : Br} {vf vk : SH} {w : World} (h : brAt ok b vf vk w) : clsAt ok b.face vf w ∧ tlAt ok b.kids vk w := by
  cases b with
  | mk f ks =>
    simp only [brAt] at h
    obtain ⟨h4, ⟨VR, VK, VS, h6, h7⟩⟩ := h
    exact ⟨h4, VR, VK, VS, h6, h7⟩
theorem brAt_mk {ok : Nat → Prop} {f : List Cl} {ks : List T} {vf vk : SH} {w : World} (h4 : clsAt ok f vf w) (h5 : tlAt ok ks vk w) : brAt ok (.mk f ks) vf vk w := by
  simp only [brAt]
  obtain ⟨VR, VK, VS, h6', h7⟩ := h5
  exact ⟨h4, VR, VK, VS, h6', h7⟩
end Go.Hy
