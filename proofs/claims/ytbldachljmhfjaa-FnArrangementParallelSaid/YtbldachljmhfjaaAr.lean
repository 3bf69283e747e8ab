/- Arrangement: the program's walk, with its maps. -/
import Derived.WalkKit
import Derived.WalkSpells
import Derived.WalkLawsBesides
import Derived.Deep.LoopGhost
import Derived.Maps.OwnSet
import Derived.DeepKeys4
import Derived.Test.YtbldachljmhfjaaK51
set_option linter.unusedSimpArgs false
set_option linter.unusedVariables false
namespace Go.Proofs.Ytbldachljmhfjaa
open Go.RowKit Go.Maps Go.WideMaps

theorem hide {p : Prop} (h : p) : Hid p := h
/-- What was there is as it was. -/
structure Kd (w w' : World) : Prop where
  gr : w.grownBy w' none
  dr : w.drawn ≤ w'.drawn
theorem Kd.refl (w : World) : Kd w w := ⟨⟨rfl, rfl, rfl, Nat.le_refl _, fun _ _ _ => rfl⟩, Nat.le_refl _⟩
theorem Kd.trans {a b c : World} (h : Kd a b) (k : Kd b c) : Kd a c :=
  ⟨⟨k.gr.os.trans h.gr.os, k.gr.tape.trans h.gr.tape, k.gr.output.trans h.gr.output, Nat.le_trans h.gr.size k.gr.size, fun i hi hne => (k.gr.block i (Nat.lt_of_lt_of_le hi h.gr.size) hne).trans (h.gr.block i hi hne)⟩, Nat.le_trans h.dr k.dr⟩
theorem Kd.alloc {a b : World} (h : Kd a b) (o : Obj) : Kd a (b.alloc o) := h.trans ⟨World.grownBy_alloc b o none, Nat.le_refl _⟩
theorem Kd.row {a b c : World} (h : Kd a b) {B : Nat} (k : b.grownBy c (some B)) (hB : a.heap.size ≤ B) (hd : b.drawn ≤ c.drawn) : Kd a c :=
  ⟨⟨k.os.trans h.gr.os, k.tape.trans h.gr.tape, k.output.trans h.gr.output, Nat.le_trans h.gr.size k.size, fun i hi hne => (k.block i (Nat.lt_of_lt_of_le hi h.gr.size) (fun e => by cases e; omega)).trans (h.gr.block i hi hne)⟩, Nat.le_trans h.dr hd⟩
theorem Kd.fr {w w' : World} (h : Go.Sym.FrameW w (fun _ => False) w') : Kd w w' := ⟨⟨h.os, h.tape, h.output, h.size, fun k hk _ => h.block k hk (fun x => x)⟩, h.drawn⟩

abbrev Pt := Int × Int
/-- A slice reads as a list of pairs. -/
def Pts (w : World) (A : Option Addr) (l : List Pt) : Prop :=
  ∀ (j : Nat) (p : Pt), l[j]? = some p → ∃ b off, A = some ⟨b, off, none⟩ ∧ b < w.heap.size ∧ w.cell? ⟨b, off + j * 2, none⟩ = some (.int .i64 p.1) ∧ w.cell? ⟨b, off + j * 2 + 1, none⟩ = some (.int .i64 p.2)
theorem Pts.kd {w w' : World} {A : Option Addr} {l : List Pt} (h : Pts w A l) (hk : Kd w w') : Pts w' A l := by
  intro j p hj
  obtain ⟨b, off, rfl, hb, c0, c1⟩ := h j p hj
  exact ⟨b, off, rfl, Nat.lt_of_lt_of_le hb hk.gr.size, (World.cell?_of_block (hk.gr.block b hb (by simp))).trans c0, (World.cell?_of_block (hk.gr.block b hb (by simp))).trans c1⟩
def okG (p : Pt) : Prop := (-1000 ≤ p.1 ∧ p.1 ≤ 1000) ∧ -1000 ≤ p.2 ∧ p.2 ≤ 1000
def key4 (p q : Pt) : Value := .agg #[.int .i64 (mxN p.1 p.2 q.1 q.2), .int .i64 (mxD p.1 p.2 q.1 q.2), .int .i64 (myN p.1 p.2 q.1 q.2), .int .i64 (myD p.1 p.2 q.1 q.2)]
theorem meet_calls {p q : Pt} (hp : okG p) (hq : okG q) (w : World) : Calls Try.prog 28 #[.agg #[.int .i64 p.1, .int .i64 p.2], .agg #[.int .i64 q.1, .int .i64 q.2]] w fun e w' =>
    e = .returned (.tuple #[key4 p q, .bool (!(decide (p.1 = q.1)))]) ∧ Kd w w' := by
  let ρ : Go.Sym.Rho := ⟨fun _ => 0, fun _ => 0, fun _ => False, fun _ => 0⟩
  have hblk : ∀ i b, Go.Sym.blkOf ([] : List (Option Go.Sym.Blk)) i = some b → False := fun i b hb => by simp [Go.Sym.blkOf] at hb
  have hM : Go.Sym.MRel w (fun _ => False) ρ [] w := ⟨fun i b hb => (hblk i b hb).elim, fun i j b c hb _ _ _ _ _ => (hblk i b hb).elim, fun i b hb _ _ => (hblk i b hb).elim, Go.Sym.FrameW.refl _ _⟩
  obtain ⟨_, hC⟩ := i_meet p.1 p.2 q.1 q.2 w (fun _ => False) ρ [.agg #[.int .i64 p.1, .int .i64 p.2], .agg #[.int .i64 q.1, .int .i64 q.2]] hM (fun i hi => hi.elim)
    ⟨_, _, rfl, ⟨[.int .i64 p.1, .int .i64 p.2], rfl, _, _, rfl, ⟨rfl, hp.1⟩, _, _, rfl, ⟨rfl, hp.2⟩, rfl⟩, _, _, rfl, ⟨[.int .i64 q.1, .int .i64 q.2], rfl, _, _, rfl, ⟨rfl, hq.1⟩, _, _, rfl, ⟨rfl, hq.2⟩, rfl⟩, rfl⟩
  refine hC.mono ?_
  rintro e w' ⟨r, m', ρ', v, rfl, ⟨rfl, rfl⟩, hrv, hMM, _⟩
  refine ⟨?_, Kd.fr hMM.fr⟩
  obtain ⟨vs, rfl, v0, vs0, rfl, ⟨l0, rfl, x0, y0, rfl, ⟨rfl, _⟩, x1, y1, rfl, ⟨rfl, _⟩, x2, y2, rfl, ⟨rfl, _⟩, x3, y3, rfl, ⟨rfl, _⟩, z1⟩, v1, vs1, rfl, h1, z2⟩ := hrv
  have z1 : y3 = [] := z1
  have z2 : vs1 = [] := z2
  have h1 : v1 = .bool (!(decide (p.1 = q.1))) := h1
  subst z1 z2 h1
  rfl
theorem ar_laid : laidOutB Try.prog = true := by kernel_rfl
/-- A key is told. -/
theorem key_law : Keyed Try.prog 57 := Keyed.of_law (deep_law_laid ar_laid (m := 3) (by omega) (of_decide_eq_true (by kernel_rfl)) (by kernel_rfl) (by rw [Try.underlying57]))
theorem int_wf {n : Int} (h1 : -9223372036854775808 ≤ n) (h2 : n ≤ 9223372036854775807) : (Lit.int .i64 n).wf = true := WalkArith.wf_i64 (by omega)
theorem lits_int {d : Nat} {n : Int} (h : (Lit.int .i64 n).wf = true) : Try.prog.keyLits (d + 1) 3 [.int .i64 n] = some [.int .i64 n] := by
  unfold Program.keyLits
  rw [Try.underlying3]
  simp [h]
theorem lits_rat {d : Nat} {n m : Int} (h : (Lit.int .i64 n).wf = true) (k : (Lit.int .i64 m).wf = true) : Try.prog.keyLits (d + 1 + 1) 54 [.int .i64 n, .int .i64 m] = some [.int .i64 n, .int .i64 m] := by
  have c1 : Try.prog.cellsOf 3 = 1 := by kernel_rfl
  have c2 : Try.prog.cellsOf 54 = 2 := by kernel_rfl
  have e1 := lits_int (d := d) h
  have e2 := lits_int (d := d) k
  unfold Program.keyLits
  rw [Try.underlying54]
  simp [c1, c2, e1, e2]
theorem lits_pt {d : Nat} {a b c e : Int} (h1 : (Lit.int .i64 a).wf = true) (h2 : (Lit.int .i64 b).wf = true) (h3 : (Lit.int .i64 c).wf = true) (h4 : (Lit.int .i64 e).wf = true) :
    Try.prog.keyLits (d + 1 + 1 + 1) 57 [.int .i64 a, .int .i64 b, .int .i64 c, .int .i64 e] = some [.int .i64 a, .int .i64 b, .int .i64 c, .int .i64 e] := by
  have c2 : Try.prog.cellsOf 54 = 2 := by kernel_rfl
  have c4 : Try.prog.cellsOf 57 = 4 := by kernel_rfl
  have e1 := lits_rat (d := d) h1 h2
  have e2 := lits_rat (d := d) h3 h4
  unfold Program.keyLits
  rw [Try.underlying57]
  simp [c2, c4, e1, e2]
noncomputable def klOf (p q : Pt) : Lit := (keyOf Try.prog 57 (key4 p q)).getD (.bool false)
theorem key_ok {p q : Pt} (hp : okG p) (hq : okG q) : keyOf Try.prog 57 (key4 p q) = some (klOf p q) := by
  have hb : (-2000 ≤ mxN p.1 p.2 q.1 q.2 ∧ mxN p.1 p.2 q.1 q.2 ≤ 2000) ∧ (0 ≤ mxD p.1 p.2 q.1 q.2 ∧ mxD p.1 p.2 q.1 q.2 ≤ 2000) ∧ (-5000000 ≤ myN p.1 p.2 q.1 q.2 ∧ myN p.1 p.2 q.1 q.2 ≤ 5000000) ∧ (0 ≤ myD p.1 p.2 q.1 q.2 ∧ myD p.1 p.2 q.1 q.2 ≤ 2000) := by
    by_cases h : p.1 = q.1
    · have := mt_no (aX := p.1) (aY := p.2) (bX := q.1) (bY := q.2) h
      omega
    · have := mx_bd h hp.1 hp.2 hq.1 hq.2
      omega
  have hs : ∃ x, keyOf Try.prog 57 (key4 p q) = some x := by
    obtain ⟨d, hd⟩ : ∃ d, Try.prog.types.size + 1 = d + 1 + 1 + 1 := ⟨Try.prog.types.size - 2, by
      have : 3 ≤ Try.prog.types.size := of_decide_eq_true (by kernel_rfl)
      omega⟩
    have kt : Try.prog.keyType 57 = true := by kernel_rfl
    have c4 : Try.prog.cellsOf 57 = 4 := by kernel_rfl
    have hf : (key4 p q).formed Try.prog 57 = true := by simp [key4, Value.formed, Try.underlying57, c4]
    have hl := lits_pt (d := d) (int_wf (n := mxN p.1 p.2 q.1 q.2) (by omega) (by omega)) (int_wf (n := mxD p.1 p.2 q.1 q.2) (by omega) (by omega)) (int_wf (n := myN p.1 p.2 q.1 q.2) (by omega) (by omega)) (int_wf (n := myD p.1 p.2 q.1 q.2) (by omega) (by omega))
    unfold keyOf
    rw [Try.underlying57]
    simp only [kt, hf, Bool.and_self, if_true, hd]
    rw [show (key4 p q).cells.toList = [.int .i64 (mxN p.1 p.2 q.1 q.2), .int .i64 (mxD p.1 p.2 q.1 q.2), .int .i64 (myN p.1 p.2 q.1 q.2), .int .i64 (myD p.1 p.2 q.1 q.2)] from rfl, hl]
    exact ⟨_, rfl⟩
  obtain ⟨x, hx⟩ := hs
  unfold klOf
  rw [hx]
  rfl
end Go.Proofs.Ytbldachljmhfjaa
