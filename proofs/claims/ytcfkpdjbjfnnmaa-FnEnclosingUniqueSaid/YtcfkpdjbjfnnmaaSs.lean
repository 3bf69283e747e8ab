/- All lists of at most three ascending indices: the program's walk. -/
import Derived.WalkKit
import Derived.WalkSpells
import Derived.WalkLawsBesides
import Derived.Deep.LoopGhost
import Derived.OwnWalk
import Derived.Maps.AppendAt
import Derived.Test.YtcfkpdjbjfnnmaaTy
set_option linter.unusedSimpArgs false
set_option linter.unusedVariables false
namespace Go.Proofs.Ytcfkpdjbjfnnmaa
open Go.RowKit

theorem hide {p : Prop} (h : p) : Hid p := h
/-- What was there is as it was. -/
structure Kd (w w' : World) : Prop where
  gr : w.grownBy w' none
  dr : w.drawn ≤ w'.drawn
theorem Kd.refl (w : World) : Kd w w := ⟨⟨rfl, rfl, rfl, Nat.le_refl _, fun _ _ _ => rfl⟩, Nat.le_refl _⟩
theorem Kd.trans {a b c : World} (h : Kd a b) (k : Kd b c) : Kd a c :=
  ⟨⟨k.gr.os.trans h.gr.os, k.gr.tape.trans h.gr.tape, k.gr.output.trans h.gr.output, Nat.le_trans h.gr.size k.gr.size, fun i hi hne => (k.gr.block i (Nat.lt_of_lt_of_le hi h.gr.size) hne).trans (h.gr.block i hi hne)⟩, Nat.le_trans h.dr k.dr⟩
theorem Kd.alloc {a b : World} (h : Kd a b) (o : Obj) : Kd a (b.alloc o) := h.trans ⟨World.grownBy_alloc b o none, Nat.le_refl _⟩
theorem Kd.row {a b c : World} (h : Kd a b) {B : Nat} (k : b.grownBy c (some B)) (hB : a.heap.size ≤ B) (hd : b.drawn ≤ c.drawn) : Kd a c :=
  ⟨⟨k.os.trans h.gr.os, k.tape.trans h.gr.tape, k.output.trans h.gr.output, Nat.le_trans h.gr.size k.size, fun i hi hne => (k.block i (Nat.lt_of_lt_of_le hi h.gr.size) (fun e => by cases e; omega)).trans (h.gr.block i hi hne)⟩, Nat.le_trans h.dr hd⟩
theorem Kd.fr {w w' : World} (h : Go.Sym.FrameW w (fun _ => False) w') : Kd w w' := ⟨⟨h.os, h.tape, h.output, h.size, fun k hk _ => h.block k hk (fun x => x)⟩, h.drawn⟩
theorem old_alloc (w : World) (o : Obj) {B : Nat} (h : B < w.heap.size) : (w.alloc o).heap[B]? = w.heap[B]? := (World.grownBy_alloc w o none).block B h (by simp)
theorem Kd.heap {w w' : World} (h : Kd w w') {b : Nat} {o : Obj} (hb : w.heap[b]? = some o) : w'.heap[b]? = some o := by
  rw [h.gr.block b (Array.getElem?_eq_some_iff.1 hb).1 (by simp)]
  exact hb

abbrev TI : TypeId := 3
abbrev TS : TypeId := 34
abbrev TSS : TypeId := 79
/-- A list's numbers in a block. -/
def ints (l : List Int) : Array Value := (l.map (.int .i64)).toArray
/-- Stretches. -/
def seg {α : Type} (s k : Nat) (f : Nat → List α) : List α := (List.range' s (k - s)).flatMap f
theorem seg_self {α : Type} (s : Nat) (f : Nat → List α) : seg s s f = [] := by simp [seg]
theorem seg_succ {α : Type} {s k : Nat} (h : s ≤ k) (f : Nat → List α) : seg s (k + 1) f = seg s k f ++ f k := by
  unfold seg
  rw [show k + 1 - s = (k - s) + 1 by omega, List.range'_1_concat, List.flatMap_append, show s + (k - s) = k by omega]
  simp
/-- Lists that go on with ascending indices. -/
def ext (n : Nat) : Nat → List Int → Nat → List (List Int)
  | 0, pre, _ => [pre]
  | d + 1, pre, next => seg next n fun k => ext n d (pre ++ [(k : Int)]) (k + 1)
/-- The rows are lists that lie in blocks of their own. -/
def InS (w : World) (H0 g1 g2 g3 : Nat) (L : List (List Int)) (xs : List Value) : Prop :=
  ∀ (j : Nat) (u : Value), xs[j]? = some u → ∃ (l : List Int) (B : Nat), L[j]? = some l ∧ u = .slice (some ⟨B, 0, none⟩) l.length l.length ∧ H0 ≤ B ∧ (B ≠ g1 ∧ B ≠ g2 ∧ B ≠ g3) ∧ w.heap[B]? = some (.cells (ints l) TI (0, 0))
theorem InS.keep {w w' : World} {H0 g1 g2 g3 g1' g2' g3' r : Nat} {L : List (List Int)} {xs : List Value} (h : InS w H0 g1 g2 g3 L xs) (hg : w.grownBy w' (some r)) (hr : r = g1 ∨ r = g2 ∨ r = g3)
    (hn : ∀ B, B < w.heap.size → B ≠ g1 ∧ B ≠ g2 ∧ B ≠ g3 → B ≠ g1' ∧ B ≠ g2' ∧ B ≠ g3') : InS w' H0 g1' g2' g3' L xs := by
  intro j u hj
  obtain ⟨l, B, h1, h2, h3, h4, h5⟩ := h j u hj
  have hlt := (Array.getElem?_eq_some_iff.1 h5).1
  refine ⟨l, B, h1, h2, h3, hn B hlt h4, ?_⟩
  rw [hg.block B hlt (by intro e; cases e; omega)]
  exact h5
theorem InS.alloc {w : World} {H0 g1 g2 g3 : Nat} {L : List (List Int)} {xs : List Value} (h : InS w H0 g1 g2 g3 L xs) (o : Obj) : InS (w.alloc o) H0 g1 g2 g3 L xs := by
  intro j u hj
  obtain ⟨l, B, h1, h2, h3, h4, h5⟩ := h j u hj
  refine ⟨l, B, h1, h2, h3, h4, ?_⟩
  rw [old_alloc w o (Array.getElem?_eq_some_iff.1 h5).1]
  exact h5
theorem InS.snoc {w : World} {H0 g1 g2 g3 : Nat} {L : List (List Int)} {xs : List Value} (h : InS w H0 g1 g2 g3 L xs) (hl : xs.length = L.length) {l : List Int} {B : Nat} (h3 : H0 ≤ B) (h4 : B ≠ g1 ∧ B ≠ g2 ∧ B ≠ g3) (h5 : w.heap[B]? = some (.cells (ints l) TI (0, 0))) :
    InS w H0 g1 g2 g3 (L ++ [l]) (xs ++ [.slice (some ⟨B, 0, none⟩) l.length l.length]) := by
  intro j u hj
  by_cases hlt : j < xs.length
  · rw [List.getElem?_append_left hlt] at hj
    obtain ⟨l', B', h1, rest⟩ := h j u hj
    exact ⟨l', B', by rw [List.getElem?_append_left (by omega)]; exact h1, rest⟩
  · rw [List.getElem?_append_right (by omega)] at hj
    have hj0 : j - xs.length = 0 := by
      have := (List.getElem?_eq_some_iff.1 hj).1
      simp at this; omega
    rw [hj0] at hj
    have hj : Value.slice (some ⟨B, 0, none⟩) l.length l.length = u := by simpa using hj
    refine ⟨l, B, ?_, hj.symm, h3, h4, h5⟩
    rw [List.getElem?_append_right (by omega), show j - L.length = 0 by omega]
    rfl
theorem InS.append {w : World} {H0 g1 g2 g3 : Nat} {L L' : List (List Int)} {xs xs' : List Value} (h : InS w H0 g1 g2 g3 L xs) (h' : InS w H0 g1 g2 g3 L' xs') (hl : xs.length = L.length) : InS w H0 g1 g2 g3 (L ++ L') (xs ++ xs') := by
  intro j u hj
  by_cases hlt : j < xs.length
  · rw [List.getElem?_append_left hlt] at hj
    obtain ⟨l', B', h1, rest⟩ := h j u hj
    exact ⟨l', B', by rw [List.getElem?_append_left (by omega)]; exact h1, rest⟩
  · rw [List.getElem?_append_right (by omega)] at hj
    obtain ⟨l', B', h1, rest⟩ := h' _ u hj
    exact ⟨l', B', by rw [List.getElem?_append_right (by omega), ← hl]; exact h1, rest⟩
/-- Three lists of lists. -/
structure S3 (w0 w : World) (g1 n1 c1 g2 n2 c2 g3 n3 c3 : Nat) (L1 L2 L3 : List (List Int)) : Prop where
  kd : Kd w0 w
  ne : g1 ≠ g2 ∧ g1 ≠ g3 ∧ g2 ≠ g3
  ln : n1 = L1.length ∧ n2 = L2.length ∧ n3 = L3.length
  o1 : ∃ xs, w.ownsRow w0.heap.size TS 1 (.slice (some ⟨g1, 0, none⟩) n1 c1) n1 xs ∧ InS w w0.heap.size g1 g2 g3 L1 xs
  o2 : ∃ xs, w.ownsRow w0.heap.size TS 1 (.slice (some ⟨g2, 0, none⟩) n2 c2) n2 xs ∧ InS w w0.heap.size g1 g2 g3 L2 xs
  o3 : ∃ xs, w.ownsRow w0.heap.size TS 1 (.slice (some ⟨g3, 0, none⟩) n3 c3) n3 xs ∧ InS w w0.heap.size g1 g2 g3 L3 xs
theorem InS.perm {w : World} {H0 g1 g2 g3 g1' g2' g3' : Nat} {L : List (List Int)} {xs : List Value} (h : InS w H0 g1 g2 g3 L xs) (hp : ∀ B, B ≠ g1 ∧ B ≠ g2 ∧ B ≠ g3 → B ≠ g1' ∧ B ≠ g2' ∧ B ≠ g3') : InS w H0 g1' g2' g3' L xs := by
  intro j u hj
  obtain ⟨l, B, h1, h2, h3, h4, h5⟩ := h j u hj
  exact ⟨l, B, h1, h2, h3, hp B h4, h5⟩
theorem S3.sw12 {w0 w : World} {g1 n1 c1 g2 n2 c2 g3 n3 c3 : Nat} {L1 L2 L3 : List (List Int)} (h : S3 w0 w g1 n1 c1 g2 n2 c2 g3 n3 c3 L1 L2 L3) : S3 w0 w g2 n2 c2 g1 n1 c1 g3 n3 c3 L2 L1 L3 := by
  obtain ⟨a, b, c, ⟨x1, d1, e1⟩, ⟨x2, d2, e2⟩, ⟨x3, d3, e3⟩⟩ := h
  exact ⟨a, ⟨by omega, by omega, by omega⟩, ⟨by omega, by omega, by omega⟩, ⟨x2, d2, e2.perm fun B h => ⟨h.2.1, h.1, h.2.2⟩⟩, ⟨x1, d1, e1.perm fun B h => ⟨h.2.1, h.1, h.2.2⟩⟩, ⟨x3, d3, e3.perm fun B h => ⟨h.2.1, h.1, h.2.2⟩⟩⟩
theorem S3.sw13 {w0 w : World} {g1 n1 c1 g2 n2 c2 g3 n3 c3 : Nat} {L1 L2 L3 : List (List Int)} (h : S3 w0 w g1 n1 c1 g2 n2 c2 g3 n3 c3 L1 L2 L3) : S3 w0 w g3 n3 c3 g2 n2 c2 g1 n1 c1 L3 L2 L1 := by
  obtain ⟨a, b, c, ⟨x1, d1, e1⟩, ⟨x2, d2, e2⟩, ⟨x3, d3, e3⟩⟩ := h
  exact ⟨a, ⟨by omega, by omega, by omega⟩, ⟨by omega, by omega, by omega⟩, ⟨x3, d3, e3.perm fun B h => ⟨h.2.2, h.2.1, h.1⟩⟩, ⟨x2, d2, e2.perm fun B h => ⟨h.2.2, h.2.1, h.1⟩⟩, ⟨x1, d1, e1.perm fun B h => ⟨h.2.2, h.2.1, h.1⟩⟩⟩
theorem ownsRow_len {w : World} {base : Nat} {e : TypeId} {g n c : Nat} {xs : List Value} (h : w.ownsRow base e 1 (.slice (some ⟨g, 0, none⟩) n c) n xs) : xs.length = n := by have := h.1; omega
theorem ownsRow_in {w : World} {base : Nat} {e : TypeId} {g n c : Nat} {xs : List Value} (h : w.ownsRow base e 1 (.slice (some ⟨g, 0, none⟩) n c) n xs) : base ≤ g ∧ g < w.heap.size := h.lt g rfl
/-- A list that lies in the new block H is put behind the first. -/
theorem S3.push {w0 w w3 : World} {g1 n1 c1 g2 n2 c2 g3 n3 c3 g' c' : Nat} {L1 L2 L3 : List (List Int)} {X1 : List Value} (h : S3 w0 w g1 n1 c1 g2 n2 c2 g3 n3 c3 L1 L2 L3) {l : List Int} {o : Obj}
    (hown1 : w.ownsRow w0.heap.size TS 1 (.slice (some ⟨g1, 0, none⟩) n1 c1) n1 X1) (hin1 : InS w w0.heap.size g1 g2 g3 L1 X1)
    (hown : w3.ownsRow w0.heap.size TS 1 (.slice (some ⟨g', 0, none⟩) (n1 + 1) c') (n1 + 1) (X1 ++ [.slice (some ⟨w.heap.size, 0, none⟩) l.length l.length]))
    (hg : ((w.alloc (.cells (ints l) TI)).alloc o).grownBy w3 (some g1)) (hat : g' = g1 ∨ g' = ((w.alloc (.cells (ints l) TI)).alloc o).heap.size) (hd : ((w.alloc (.cells (ints l) TI)).alloc o).drawn ≤ w3.drawn) :
    S3 w0 w3 g' (n1 + 1) c' g2 n2 c2 g3 n3 c3 (L1 ++ [l]) L2 L3 := by
  obtain ⟨a, b, c, _, ⟨x2, d2, e2⟩, ⟨x3, d3, e3⟩⟩ := h
  have i1 := ownsRow_in hown1
  have i2 := ownsRow_in d2
  have i3 := ownsRow_in d3
  have hs := a.gr.size
  have es : ((w.alloc (.cells (ints l) TI)).alloc o).heap.size = w.heap.size + 2 := by simp
  rw [es] at hat
  have hne : ∀ B, B < w.heap.size → B ≠ g1 ∧ B ≠ g2 ∧ B ≠ g3 → B ≠ g' ∧ B ≠ g2 ∧ B ≠ g3 := fun B hB h => ⟨by omega, h.2.1, h.2.2⟩
  have lift : ∀ {L xs}, InS w w0.heap.size g1 g2 g3 L xs → InS w3 w0.heap.size g' g2 g3 L xs := by
    intro L xs h j u hj
    obtain ⟨l', B, q1, q2, q3, q4, q5⟩ := h j u hj
    have hlt := (Array.getElem?_eq_some_iff.1 q5).1
    refine ⟨l', B, q1, q2, q3, hne B hlt q4, ?_⟩
    rw [hg.block B (by omega) (by intro e; cases e; omega), old_alloc _ _ (by simp; omega), old_alloc _ _ hlt]
    exact q5
  have hnew : w3.heap[w.heap.size]? = some (.cells (ints l) TI (0, 0)) := by
    rw [hg.block w.heap.size (by omega) (by intro e; cases e; omega), old_alloc _ _ (by simp), heap_alloc_new]
  refine ⟨((a.alloc _).alloc _).row hg (by omega) hd, ⟨by omega, by omega, b.2.2⟩, ⟨by simp; omega, c.2.1, c.2.2⟩, ⟨_, hown, ?_⟩, ⟨x2, ?_, lift e2⟩, ⟨x3, ?_, lift e3⟩⟩
  · exact (lift hin1).snoc (by have := ownsRow_len hown1; omega) (by omega) ⟨by omega, by omega, by omega⟩ hnew
  · exact ((d2.alloc _).alloc _).kept hg (by simp [Value.ownBlock]; omega)
  · exact ((d3.alloc _).alloc _).kept hg (by simp [Value.ownBlock]; omega)
theorem info_ts : ∃ i z, Try.prog.info? TS = some i ∧ i.zero = some z ∧ i.size = 1 ∧ i.bytes = 24 ∧ z.cells.size = 1 := by
  obtain ⟨i, h1, h2, h3, h4⟩ := info_parts (P := Try.prog) (e := TS) (z := .slice none 0 0) (size := 1) (bytes := 24) (by kernel_rfl)
  exact ⟨i, _, h1, h2, h3, h4, rfl⟩
/-- Rows put behind rows that the call owns. -/
theorem run_append_sub (w : World) (ty : TypeId) (base g n cap : Nat) (xs : List Value) (hown : w.ownsRow base TS 1 (.slice (some ⟨g, 0, none⟩) n cap) n xs) (ad : Addr) (m c : Nat) (news : List Value)
    (hl : news.length = m) (hnews : ∀ j u, news[j]? = some u → w.cell? (ad.add j) = some u) (h1 : ∀ u ∈ news, u.oneCell' = true) (hb : n + m ≤ 1000000) (hbase : base ≤ w.heap.size) :
    ∃ g' cap' w', (Builtin.append_ #[TSS, TSS] ty #[.slice (some ⟨g, 0, none⟩) n cap, .slice (some ad) m c]).run Try.prog w = .ok (.slice (some ⟨g', 0, none⟩) (n + m) cap') w' ∧
      w'.ownsRow base TS 1 (.slice (some ⟨g', 0, none⟩) (n + m) cap') (n + m) (xs ++ news) ∧ w.grownBy w' (some g) ∧ (g' = g ∨ g' = w.heap.size) ∧ w.drawn ≤ w'.drawn := by
  obtain ⟨i, z, hi, hz, hs, hby, hzs⟩ := info_ts
  obtain ⟨v', w', hr, k2, k3, k4, k5⟩ := run_append_own_at (P := Try.prog) w base TSS ty TS i z 1 24 Try.underlying79 hi hz hs hby hzs (by omega) _ n xs hown ad m c news (by omega) hnews h1 (by unfold maxLen; omega) (by omega) hbase
  obtain ⟨g', cap', rfl⟩ : ∃ g' cap', v' = .slice (some ⟨g', 0, none⟩) (n + m) cap' := by
    rcases k2.2 with ⟨e, _⟩ | ⟨g', cap', _, e, _⟩
    · have := (k4.1 e).1
      cases this
    · exact ⟨g', cap', e⟩
  refine ⟨g', cap', w', hr, k2, k3, ?_, ?_⟩
  · simpa [Value.ownBlock] using k5
  · rcases hown.2 with ⟨e, _⟩ | ⟨g0, cap0, cur, e, hbg, hg, hnc, hcm, hcs, htake⟩
    · cases e
    · cases e
      by_cases hroom : n + m ≤ cap
      · have hfit : n * i.size + news.length ≤ cur.size := by rw [hs]; omega
        have hr2 := run_append_room (P := Try.prog) w TSS ty TS i Try.underlying79 hi g n cap cur hg ad m c news (by rw [hs]; omega) hnews h1 hroom hfit
        rw [hr] at hr2
        injection hr2 with _ e
        rw [e]
        exact Nat.le_refl _
      · have holds : ∀ j u, xs[j]? = some u → w.cell? ((⟨g, 0, none⟩ : Addr).add j) = some u := hown.cells (g := g) rfl
        have hr2 := run_append_grow (P := Try.prog) w TSS ty TS i z Try.underlying79 hi hz ⟨g, 0, none⟩ n cap xs (by rw [hs]; exact hown.1) holds ad m c news (by rw [hs]; omega) hnews (by omega) (by omega) (growslice_fits (by omega) (by rw [hby]; omega))
        rw [hr] at hr2
        injection hr2 with _ e
        rw [e]
        exact Nat.le_succ _
theorem wpList_append_sub {ops : Array Oper} {rest : List Oper} {o : Oper} {a : Act} {Q : Exit → Act → World → Prop} (w : World) (hgd : o.guard = none) (s x : Operand)
    (ho : o.op = .call { callee := .builtin .append, args := #[s, x], argTypes := #[TSS, TSS] }) (base g n cap : Nat) (xs : List Value) (hs : a.eval s = .slice (some ⟨g, 0, none⟩) n cap) (hown : w.ownsRow base TS 1 (.slice (some ⟨g, 0, none⟩) n cap) n xs)
    (ad : Addr) (m c : Nat) (news : List Value) (hx : a.eval x = .slice (some ad) m c)
    (hl : news.length = m) (hnews : ∀ j u, news[j]? = some u → w.cell? (ad.add j) = some u) (h1 : ∀ u ∈ news, u.oneCell' = true) (hb : n + m ≤ 1000000) (hbase : base ≤ w.heap.size)
    (h : ∀ g' cap' w', w'.ownsRow base TS 1 (.slice (some ⟨g', 0, none⟩) (n + m) cap') (n + m) (xs ++ news) → w.grownBy w' (some g) → (g' = g ∨ g' = w.heap.size) → w.drawn ≤ w'.drawn → wpList Try.prog ops Q rest (a.put o.dst (.slice (some ⟨g', 0, none⟩) (n + m) cap')) w') :
    wpList Try.prog ops Q (o :: rest) a w := by
  refine wpList_plain hgd fun K hK => ?_
  obtain ⟨g', cap', w', hr, h2, h3, h4, h5⟩ := run_append_sub w o.type base g n cap xs hown ad m c news hl hnews h1 hb hbase
  unfold Oper.wp execOp
  simp only [ho, resolve, invoke, builtin, Sem.run_bind, Sem.run_pure, Result.andThen_ok, List.map_toArray, List.map_cons, List.map_nil, hs, hx, hr]
  exact hK _ _ (h g' cap' w' h2 h3 h4 h5)
theorem S3.join {w0 w wa wb : World} {g1 n1 c1 g2 n2 c2 g3 n3 c3 g' g'' : Nat} {L1 L2 L3 : List (List Int)} {X1 X2 X3 : List Value} (h : S3 w0 w g1 n1 c1 g2 n2 c2 g3 n3 c3 L1 L2 L3)
    (o1 : w.ownsRow w0.heap.size TS 1 (.slice (some ⟨g1, 0, none⟩) n1 c1) n1 X1) (i1 : InS w w0.heap.size g1 g2 g3 L1 X1) (o2 : w.ownsRow w0.heap.size TS 1 (.slice (some ⟨g2, 0, none⟩) n2 c2) n2 X2) (i2 : InS w w0.heap.size g1 g2 g3 L2 X2) (i3 : InS w w0.heap.size g1 g2 g3 L3 X3)
    (hga : w.grownBy wa (some g1)) (hata : g' = g1 ∨ g' = w.heap.size) (hda : w.drawn ≤ wa.drawn) (hgb : wa.grownBy wb (some g')) (hatb : g'' = g' ∨ g'' = wa.heap.size) (hdb : wa.drawn ≤ wb.drawn) :
    Kd w0 wb ∧ InS wb w0.heap.size g'' g'' g'' (L1 ++ L2 ++ L3) (X1 ++ X2 ++ X3) := by
  have q1 := ownsRow_in o1
  have hs := h.kd.gr.size
  have hsa := hga.size
  have lift : ∀ {L xs}, InS w w0.heap.size g1 g2 g3 L xs → InS wb w0.heap.size g'' g'' g'' L xs := by
    intro L xs h j u hj
    obtain ⟨l', B, p1, p2, p3, p4, p5⟩ := h j u hj
    have hlt := (Array.getElem?_eq_some_iff.1 p5).1
    have hne : B ≠ g'' := by omega
    refine ⟨l', B, p1, p2, p3, ⟨hne, hne, hne⟩, ?_⟩
    rw [hgb.block B (by omega) (by intro e; cases e; omega), hga.block B hlt (by intro e; cases e; omega)]
    exact p5
  refine ⟨(h.kd.row hga (by omega) hda).row hgb (by omega) hdb, ((lift i1).append (lift i2) ?_).append (lift i3) ?_⟩
  · have := ownsRow_len o1; have := h.ln.1; omega
  · have := ownsRow_len o1; have := h.ln.1; have := ownsRow_len o2; have := h.ln.2.1; simp only [List.length_append]; omega
theorem InS.one {w : World} {H0 g1 g2 g3 : Nat} {L : List (List Int)} {xs : List Value} (h : InS w H0 g1 g2 g3 L xs) : ∀ u ∈ xs, u.oneCell' = true := by
  intro u hu
  obtain ⟨j, hj⟩ := List.mem_iff_getElem?.1 hu
  obtain ⟨l, B, _, rfl, _⟩ := h j u hj
  rfl
theorem news1 {W : World} {x : Value} {t : TypeId} {H : Nat} (hH : W.heap.size = H) : ∀ j u, [x][j]? = some u → (W.alloc (.cells #[x] t)).cell? ((⟨H, 0, none⟩ : Addr).add j) = some u := by
  subst hH
  exact cell_one_new W x t
theorem one1 (a : Option Addr) (n c : Nat) : ∀ u ∈ [Value.slice a n c], u.oneCell' = true := by
  intro u hu
  rw [List.mem_singleton.1 hu]
  rfl
end Go.Proofs.Ytcfkpdjbjfnnmaa
