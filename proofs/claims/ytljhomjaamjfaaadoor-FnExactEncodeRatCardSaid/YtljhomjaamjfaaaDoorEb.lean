/- Words on memory: what a call keeps. -/
import Derived.Test.YtljhomjaamjfaaaDoorProg
import Derived.WalkKit
import Derived.WalkSpells
import Derived.WalkLawsBesides
import Derived.BigQuiet
import Derived.Deep.QuietTactic
namespace Go.Proofs.YtljhomjaamjfaaaDoor
open Go.RowKit

theorem hide {p : Prop} (h : p) : Hid p := h

theorem ret_int {k : IntKind} {a b : Int} (h : a = b) : Ending.returned (.int k a) = .returned (.int k b) := by rw [h]
theorem ret_bool {a b : Bool} (h : a = b) : Ending.returned (.bool a) = .returned (.bool b) := by rw [h]
theorem mul_bd (x y m n : Int) (h1 : -m ≤ x) (h2 : x ≤ m) (h3 : -n ≤ y) (h4 : y ≤ n) : -(m * n) ≤ x * y ∧ x * y ≤ m * n := by
  have hm : 0 ≤ m := by omega
  have hn : 0 ≤ n := by omega
  have a1 : 0 ≤ (m - x) * (n + y) := Int.mul_nonneg (by omega) (by omega)
  have a2 : 0 ≤ (m + x) * (n - y) := Int.mul_nonneg (by omega) (by omega)
  have a3 : 0 ≤ (m - x) * (n - y) := Int.mul_nonneg (by omega) (by omega)
  have a4 : 0 ≤ (m + x) * (n + y) := Int.mul_nonneg (by omega) (by omega)
  have e1 : (m - x) * (n + y) = m * n + m * y - x * n - x * y := by rw [Int.sub_mul, Int.mul_add, Int.mul_add]; omega
  have e2 : (m + x) * (n - y) = m * n - m * y + x * n - x * y := by rw [Int.add_mul, Int.mul_sub, Int.mul_sub]; omega
  have e3 : (m - x) * (n - y) = m * n - m * y - x * n + x * y := by rw [Int.sub_mul, Int.mul_sub, Int.mul_sub]; omega
  have e4 : (m + x) * (n + y) = m * n + m * y + x * n + x * y := by rw [Int.add_mul, Int.mul_add, Int.mul_add]; omega
  constructor <;> omega

/-- What was there is as it was. -/
abbrev Kp (w w' : World) : Prop := w.grownBy w' none

theorem gr_refl (w : World) (r : Option Nat) : w.grownBy w r := ⟨rfl, rfl, rfl, Nat.le_refl _, fun _ _ _ => rfl⟩
theorem gr_trans {a b c : World} {r s t : Option Nat} (h : a.grownBy b r) (k : b.grownBy c s) (hr : ∀ x, r = some x → x < a.heap.size → t = some x) (hs : ∀ x, s = some x → x < a.heap.size → t = some x) : a.grownBy c t := by
  refine ⟨k.os.trans h.os, k.tape.trans h.tape, k.output.trans h.output, Nat.le_trans h.size k.size, fun i hi hne => ?_⟩
  have h1 : some i ≠ r := fun e => hne (hr i e.symm hi).symm
  have h2 : some i ≠ s := fun e => hne (hs i e.symm hi).symm
  exact (k.block i (Nat.lt_of_lt_of_le hi h.size) h2).trans (h.block i hi h1)
theorem kp_trans {a b c : World} {t : Option Nat} (h : a.grownBy b t) (k : b.grownBy c none) : a.grownBy c t := gr_trans h k (fun _ e _ => e) (fun _ e => by cases e)
theorem kp_trans' {a b c : World} {t : Option Nat} (h : a.grownBy b none) (k : b.grownBy c t) : a.grownBy c t := gr_trans h k (fun _ e => by cases e) (fun _ e _ => e)
theorem kp_same {a b c : World} {t : Option Nat} (h : a.grownBy b t) (k : b.grownBy c t) : a.grownBy c t := gr_trans h k (fun _ e _ => e) (fun _ e _ => e)
theorem kp_any {a b : World} {t : Option Nat} (h : a.grownBy b none) : a.grownBy b t := gr_trans h (gr_refl b none) (fun _ e => by cases e) (fun _ e => by cases e)
theorem kp_alloc {a b : World} {t : Option Nat} (h : a.grownBy b t) (o : Obj) : a.grownBy (b.alloc o) t := kp_trans h (World.grownBy_alloc b o none)
theorem kp_drew {a b : World} {t : Option Nat} (h : a.grownBy b t) : a.grownBy b.drew t := ⟨h.os, h.tape, h.output, h.size, h.block⟩
theorem kp_drewN {a b : World} {t : Option Nat} (h : a.grownBy b t) (n : Nat) : a.grownBy (b.drewN n) t := ⟨h.os, h.tape, h.output, h.size, h.block⟩
theorem kp_set {a b : World} {t : Option Nat} (h : a.grownBy b t) {p : Addr} (hp : a.heap.size ≤ p.block) (u : Value) : a.grownBy (b.setCell p u) t := by
  refine ⟨h.os, h.tape, h.output, ?_, fun i hi hne => ?_⟩
  · simpa [World.setCell] using h.size
  · exact (Below.heap_setCell _ _ _ _ (by omega)).trans (h.block i hi hne)
theorem kp_set' {a b : World} {t : Option Nat} (h : a.grownBy b t) {p : Addr} (hp : t = some p.block) (u : Value) : a.grownBy (b.setCell p u) t := by
  refine ⟨h.os, h.tape, h.output, ?_, fun i hi hne => ?_⟩
  · simpa [World.setCell] using h.size
  · exact (Below.heap_setCell _ _ _ _ (by intro e; subst e; exact hne hp.symm)).trans (h.block i hi hne)
theorem kp_below {a b : World} (h : a.grownBy b none) : Below a.heap.size a b := ⟨h.os, h.tape, h.output, h.size, fun k hk => h.block k hk (by simp)⟩
theorem kp_of_below {a b : World} (h : Below a.heap.size a b) : a.grownBy b none := ⟨h.os, h.tape, h.output, h.size, fun k hk _ => h.block k hk⟩

/-- The walk's two rules behind a call: old cells read as before. -/
theorem kp_cells {w w' : World} {t : Option Nat} (h : w.grownBy w' t) : (∀ b o, b < w.heap.size → some b ≠ t → w'.cell? ⟨b, o, none⟩ = w.cell? ⟨b, o, none⟩) ∧ (∀ b o, b < w.heap.size → some b ≠ t → w'.frozen? ⟨b, o, none⟩ = w.frozen? ⟨b, o, none⟩) :=
  ⟨fun b o hb hne => World.cell?_of_block (a := ⟨b, o, none⟩) (h.block b hb hne), fun b o hb hne => World.frozen?_of_block (a := ⟨b, o, none⟩) (h.block b hb hne)⟩

/-- Block g is just the cells cs. -/
def Blk (w : World) (g : Nat) (t : TypeId) (cs : Array Value) : Prop := w.heap[g]? = some (.cells cs t (0, 0))
theorem Blk.lt {w : World} {g : Nat} {t : TypeId} {cs : Array Value} (h : Blk w g t cs) : g < w.heap.size := by
  rcases Nat.lt_or_ge g w.heap.size with hlt | hge
  · exact hlt
  · unfold Blk at h; rw [Array.getElem?_eq_none hge] at h; cases h
theorem Blk.cell {w : World} {g : Nat} {t : TypeId} {cs : Array Value} (h : Blk w g t cs) (i : Nat) : w.cell? ⟨g, i, none⟩ = cs[i]? := cell_of_row w g i cs t (0, 0) h
theorem Blk.frozen {w : World} {g : Nat} {t : TypeId} {cs : Array Value} (h : Blk w g t cs) (i : Nat) : w.frozen? ⟨g, i, none⟩ = false := by
  unfold Blk at h
  simp [World.frozen?, h]
theorem Blk.new (w : World) (t : TypeId) (cs : Array Value) : Blk (w.alloc (.cells cs t)) w.heap.size t cs := heap_alloc_new w _
theorem Blk.at_ (w : World) (t : TypeId) (cs : Array Value) (b : Nat) (hb : b = w.heap.size) : Blk (w.alloc (.cells cs t)) b t cs := by subst hb; exact Blk.new w t cs
theorem Blk.alloc {w : World} {g : Nat} {t : TypeId} {cs : Array Value} (h : Blk w g t cs) (o : Obj) : Blk (w.alloc o) g t cs := (Below.heap_alloc w o g h.lt).trans h
theorem Blk.set_ {w : World} {g : Nat} {t : TypeId} {cs : Array Value} (h : Blk w g t cs) (i : Nat) (u : Value) : Blk (w.setCell ⟨g, i, none⟩ u) g t (cs.setIfInBounds i u) := by
  unfold Blk at h ⊢
  simp [World.setCell, Array.getElem?_modify, h]
theorem Blk.far {w : World} {g : Nat} {t : TypeId} {cs : Array Value} (h : Blk w g t cs) {p : Addr} (hp : g ≠ p.block) (u : Value) : Blk (w.setCell p u) g t cs := (Below.heap_setCell w p u g hp).trans h
theorem Blk.kept {w w' : World} {g : Nat} {t : TypeId} {cs : Array Value} {r : Option Nat} (h : Blk w g t cs) (hb : w.grownBy w' r) (hg : some g ≠ r) : Blk w' g t cs := (hb.block g h.lt hg).trans h

theorem two_cells {w : World} {g : Nat} {t : TypeId} {a b : Value} (h : Blk w g t #[a, b]) : w.cell? ⟨g, 0, none⟩ = some a ∧ w.cell? ⟨g, 1, none⟩ = some b ∧ w.frozen? ⟨g, 0, none⟩ = false ∧ w.frozen? ⟨g, 1, none⟩ = false ∧ g < w.heap.size :=
  ⟨h.cell 0, h.cell 1, h.frozen 0, h.frozen 1, h.lt⟩
theorem Blk.kp {w w' : World} {g : Nat} {t : TypeId} {cs : Array Value} (h : Blk w g t cs) (hb : w.grownBy w' none) : Blk w' g t cs := h.kept hb (by simp)
theorem Blk.drew {w : World} {g : Nat} {t : TypeId} {cs : Array Value} (h : Blk w g t cs) : Blk w.drew g t cs := h

theorem Blk.set0 {w : World} {g : Nat} {t : TypeId} {a b : Value} (h : Blk w g t #[a, b]) (u : Value) : Blk (w.setCell ⟨g, 0, none⟩ u) g t #[u, b] := h.set_ 0 u
theorem Blk.set1 {w : World} {g : Nat} {t : TypeId} {a b : Value} (h : Blk w g t #[a, b]) (u : Value) : Blk (w.setCell ⟨g, 1, none⟩ u) g t #[a, u] := h.set_ 1 u
/-- From here on the world is a variable, of which F is known. -/
theorem gen_wp {P : Program} {c : Code} {Q : Exit → Act → World → Prop} {a : Act} {w3 : World} (F : World → Prop) (h : F w3) (k : ∀ w', F w' → c.wp P Q a w') : c.wp P Q a w3 := k _ h
theorem le_of_size {w : World} {o : Obj} {b : Nat} (h : (w.alloc o).heap.size ≤ b) : w.heap.size + 1 ≤ b := by simpa using h

/-! ### A region that draws its order, whose operations read old cells and whose calls keep what was there -/
structure ExtW (w : World) (r : Option Nat) where
  to : World
  ok : w.grownBy to r
instance nonempty_ext (w : World) (r : Option Nat) : Nonempty (ExtW w r) := ⟨⟨w, ⟨rfl, rfl, rfl, Nat.le_refl _, fun _ _ _ => rfl⟩⟩⟩
def exN (w : World) (r : Option Nat) (x : ExtW w r) : World := x.to
theorem exN_kp {w : World} {r : Option Nat} (x : ExtW w r) : w.grownBy (exN w r x) r := x.ok
theorem wp_region_ext {P : Program} {id : Nat} {Q : Exit → Act → World → Prop} {a : Act} {w : World} (r : Option Nat) {l : List Oper} (hm : P.follows .mixedOrders = true) (hB : Region.lexB .any l.toArray = true)
    (h : wpQuiet P l.toArray (fun w' => ∃ x, w' = exN w r x) (fun a' => ∀ w', (∃ x, w' = exN w r x) → Q .normal a' w') l a) : (Code.region id l.toArray true).wp P Q a w :=
  wp_region_quiet (C := fun w' => ∃ x, w' = exN w r x) hm hB ⟨⟨{ w with drawn := w.drawn + 1 }, ⟨rfl, rfl, rfl, Nat.le_refl _, fun _ _ _ => rfl⟩⟩, rfl⟩ (by simpa using h)
theorem ext_call {P : Program} {f : FuncId} {args : Array Value} {w : World} {r : Option Nat} {x : ExtW w r} {v : Value}
    (h : Calls P f args (exN w r x) fun e w' => e = .returned v ∧ (exN w r x).grownBy w' none) : Calls P f args (exN w r x) fun e w'' => e = .returned v ∧ ∃ y, w'' = exN w r y :=
  h.mono fun _ w' ⟨he, hk⟩ => ⟨he, ⟨w', kp_trans x.ok hk⟩, rfl⟩
theorem ext_call_same {P : Program} {f : FuncId} {args : Array Value} {w : World} {r : Option Nat} {x : ExtW w r} {v : Value}
    (h : Calls P f args (exN w r x) fun e w' => e = .returned v ∧ exN w r x = w') : Calls P f args (exN w r x) fun e w'' => e = .returned v ∧ ∃ y, w'' = exN w r y :=
  h.mono fun _ _ ⟨he, hk⟩ => ⟨he, x, hk.symm⟩
theorem exN_cell {w : World} {r : Option Nat} (x : ExtW w r) {b o : Nat} (hb : b < w.heap.size) (hr : some b ≠ r) : (exN w r x).cell? ⟨b, o, none⟩ = w.cell? ⟨b, o, none⟩ :=
  World.cell?_of_block (a := ⟨b, o, none⟩) (x.ok.block b hb hr)
theorem exN_frozen {w : World} {r : Option Nat} (x : ExtW w r) {b o : Nat} (hb : b < w.heap.size) (hr : some b ≠ r) : (exN w r x).frozen? ⟨b, o, none⟩ = w.frozen? ⟨b, o, none⟩ :=
  World.frozen?_of_block (a := ⟨b, o, none⟩) (x.ok.block b hb hr)
theorem lt_exN {w : World} {r : Option Nat} (x : ExtW w r) {b : Nat} (hb : b < w.heap.size) : b < (exN w r x).heap.size := Nat.lt_of_lt_of_le hb x.ok.size
theorem le_exN {w : World} {r : Option Nat} (x : ExtW w r) {b : Nat} (hb : b ≤ w.heap.size) : b ≤ (exN w r x).heap.size := Nat.le_trans hb x.ok.size
theorem lt_exN1 {w : World} {r : Option Nat} (x : ExtW w r) {b : Nat} (hb : b < w.heap.size) : b < (exN w r x).heap.size + 1 := Nat.lt_of_lt_of_le (lt_exN x hb) (by omega)
theorem le_exN1 {w : World} {r : Option Nat} (x : ExtW w r) {b : Nat} (hb : b ≤ w.heap.size) : b ≤ (exN w r x).heap.size + 1 := Nat.le_trans (le_exN x hb) (by omega)
theorem lt_exN2 {w : World} {r : Option Nat} (x : ExtW w r) {b : Nat} (hb : b < w.heap.size) : b < (exN w r x).heap.size + 1 + 1 := Nat.lt_of_lt_of_le (lt_exN x hb) (by omega)
theorem le_exN2 {w : World} {r : Option Nat} (x : ExtW w r) {b : Nat} (hb : b ≤ w.heap.size) : b ≤ (exN w r x).heap.size + 1 + 1 := Nat.le_trans (le_exN x hb) (by omega)
theorem lt_exN3 {w : World} {r : Option Nat} (x : ExtW w r) {b : Nat} (hb : b < w.heap.size) : b < (exN w r x).heap.size + 1 + 1 + 1 := Nat.lt_of_lt_of_le (lt_exN x hb) (by omega)
theorem le_exN3 {w : World} {r : Option Nat} (x : ExtW w r) {b : Nat} (hb : b ≤ w.heap.size) : b ≤ (exN w r x).heap.size + 1 + 1 + 1 := Nat.le_trans (le_exN x hb) (by omega)
theorem lt_exN4 {w : World} {r : Option Nat} (x : ExtW w r) {b : Nat} (hb : b < w.heap.size) : b < (exN w r x).heap.size + 1 + 1 + 1 + 1 := Nat.lt_of_lt_of_le (lt_exN x hb) (by omega)
theorem le_exN4 {w : World} {r : Option Nat} (x : ExtW w r) {b : Nat} (hb : b ≤ w.heap.size) : b ≤ (exN w r x).heap.size + 1 + 1 + 1 + 1 := Nat.le_trans (le_exN x hb) (by omega)
theorem lt_exN5 {w : World} {r : Option Nat} (x : ExtW w r) {b : Nat} (hb : b < w.heap.size) : b < (exN w r x).heap.size + 1 + 1 + 1 + 1 + 1 := Nat.lt_of_lt_of_le (lt_exN x hb) (by omega)
theorem le_exN5 {w : World} {r : Option Nat} (x : ExtW w r) {b : Nat} (hb : b ≤ w.heap.size) : b ≤ (exN w r x).heap.size + 1 + 1 + 1 + 1 + 1 := Nat.le_trans (le_exN x hb) (by omega)
theorem lt_up2 (n : Nat) : n < n + 1 + 1 := by omega
theorem lt_up3 (n : Nat) : n < n + 1 + 1 + 1 := by omega
theorem lt_up4 (n : Nat) : n < n + 1 + 1 + 1 + 1 := by omega
theorem lt_up5 (n : Nat) : n < n + 1 + 1 + 1 + 1 + 1 := by omega
theorem lt_up6 (n : Nat) : n < n + 1 + 1 + 1 + 1 + 1 + 1 := by omega
theorem lt_up7 (n : Nat) : n < n + 1 + 1 + 1 + 1 + 1 + 1 + 1 := by omega
theorem lt_up8 (n : Nat) : n < n + 1 + 1 + 1 + 1 + 1 + 1 + 1 + 1 := by omega
theorem lt_up9 (n : Nat) : n < n + 1 + 1 + 1 + 1 + 1 + 1 + 1 + 1 + 1 := by omega
attribute [go_sem] lt_up2 lt_up3 lt_up4 lt_up5 lt_up6 lt_up7 lt_up8 lt_up9
attribute [go_sem] le_exN lt_exN1 le_exN1 lt_exN2 le_exN2 lt_exN3 le_exN3 lt_exN4 le_exN4 lt_exN5 le_exN5
attribute [go_sem] exN_cell exN_frozen lt_exN
theorem kp_ex {a w : World} {t : Option Nat} (h : a.grownBy w t) (x : ExtW w none) : a.grownBy (exN w none x) t := kp_trans h x.ok
theorem kp_exr {a w : World} {r : Nat} (h : a.grownBy w (some r)) (x : ExtW w (some r)) : a.grownBy (exN w (some r) x) (some r) := kp_same h x.ok
theorem kp_exr' {a w : World} {r : Nat} (h : a.grownBy w none) (x : ExtW w (some r)) : a.grownBy (exN w (some r) x) (some r) := kp_trans' h x.ok
/-- A contract's world behind a name that the walk sees through. -/
theorem to_ex {P : Program} {f : FuncId} {args : Array Value} {w : World} {v : Value} (h : Calls P f args w fun e w' => e = .returned v ∧ w.grownBy w' none) : Calls P f args w fun e w' => e = .returned v ∧ ∃ x, w' = exN w none x :=
  h.mono fun _ w' ⟨he, hk⟩ => ⟨he, ⟨w', hk⟩, rfl⟩
theorem ext_cell {w : World} {r : Option Nat} {b o : Nat} {v : Value} (h : w.cell? ⟨b, o, none⟩ = some v) (hr : some b ≠ r) : ∀ x, (exN w r x).cell? ⟨b, o, none⟩ = some v := fun x => x.ok.cell h hr

theorem kp_rd {w v u : World} {rb : Nat} (h : w.grownBy v none) (hg : v.grownBy u (some rb)) (hrb : w.heap.size ≤ rb) : w.grownBy u none :=
  gr_trans h hg (fun _ e => by cases e) (fun x e hx => by injection e; omega)
theorem ne_of {a b : Nat} (h : a ≠ b) : some a ≠ some b := fun e => h (by injection e)

end Go.Proofs.YtljhomjaamjfaaaDoor
