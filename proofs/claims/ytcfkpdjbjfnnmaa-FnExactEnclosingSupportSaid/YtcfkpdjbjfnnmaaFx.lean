/- The frame of an exact law: slices of structs of numbers that came in, as the reckoner has them. -/
import Derived.Test.YtcfkpdjbjfnnmaaFs
import Derived.Deep.Slices
import Derived.ChangeArms
namespace Go.Proofs.Ytcfkpdjbjfnnmaa
open Go.ChangeShapes Go.WideShapes Go.ChangeAt Go.RowKit Go.Sym Go.Deep
set_option linter.unusedVariables false
set_option linter.unusedSimpArgs false

/-- Rows of k numbers each. -/
def IRows (w : World) (a : Option Addr) (len cap k : Nat) (Z : Nat → Nat → Int) : Prop :=
  (a = none ∧ len = 0 ∧ cap = 0) ∨
  ∃ x, a = some x ∧ len ≤ cap ∧ cap ≤ maxLen ∧ ∀ i, i < cap → ∀ j, j < k → w.cell? (x.add (i * k + j)) = some (.int .i64 (Z i j)) ∧ (Lit.int .i64 (Z i j)).wf = true
section
variable {H : Type} {enc : TypeId × Value → H} {w : World} {base : Nat} {held : Bool}
theorem open_rows {P : Program} {t e : TypeId} {fs : Array Field} {k fuel : Nat} {a : Option Addr} {len cap : Nat} {x : DataW H × List MemPlace} (ht : P.underlying t = some (.slice e)) (he : P.underlying e = some (.struct fs)) (hC : P.cellsOf e = k)
    (hf : ∀ j, j < k → ∃ f, fs[j]? = some f ∧ f.offset = j ∧ P.cellsOf f.type = 1 ∧ P.underlying f.type = some (.int .i64))
    (h : DataW.trod enc P w base (fun _ => true) held fuel t [.slice a len cap] = some x) : ∃ Z, IRows w a len cap k Z := by
  rcases open_slice ht h with ⟨h0, _⟩ | ⟨a', len', cap', m, n, D, Pl, hcs, hb, hl, hm, hmm, hx, hi⟩
  · simp only [List.cons.injEq, Value.slice.injEq, and_true] at h0
    exact ⟨fun _ _ => 0, .inl ⟨h0.1, h0.2.1, h0.2.2⟩⟩
  · simp only [List.cons.injEq, Value.slice.injEq, and_true] at hcs
    obtain ⟨rfl, rfl, rfl⟩ := hcs
    have hm' : m = cap := by simpa using hmm
    subst hm'
    have key : ∀ i, i < m → ∀ j, j < k → ∃ z : Int, w.cell? (a'.add (i * k + j)) = some (.int .i64 z) ∧ (Lit.int .i64 z).wf = true := by
      intro i him j hj
      obtain ⟨cs', hc, ht'⟩ := hi i him
      rw [hC] at hc
      obtain ⟨ys, n', _, _, hlen, hyl, hfl⟩ := DataW.trod_struct he ht'
      obtain ⟨_, hcl, hat⟩ := World.cells?_some hc
      obtain ⟨f, hfj, ho, hk1, hu⟩ := hf j hj
      have hjs : j < fs.size := (Array.getElem?_eq_some_iff.1 hfj).1
      have h1 := hfl j f hfj
      rw [ho, hk1, List.getElem?_eq_getElem (by omega)] at h1
      obtain ⟨z, hz, _, hwf⟩ := DataW.trod_int hu h1
      have hv : cs'[j]? = some (.int .i64 z) := by
        have h2 : (cs'.drop j).take 1 = [.int .i64 z] := hz
        rw [List.drop_eq_getElem_cons (by omega)] at h2
        simp only [List.take_succ_cons, List.take_zero, List.cons.injEq, and_true] at h2
        rw [List.getElem?_eq_getElem (by omega), h2]
      refine ⟨z, ?_, hwf⟩
      have := hat j hj
      rw [Go.Addr.add_add] at this
      rw [this, hv]
    classical
    refine ⟨fun i j => if h : i < m ∧ j < k then (key i h.1 j h.2).choose else 0, .inr ⟨a', rfl, hl, hm, fun i hi' j hj => ?_⟩⟩
    dsimp only
    rw [dif_pos ⟨hi', hj⟩]
    exact (key i hi' j hj).choose_spec
/-- A struct of k numbers. -/
theorem open_nums {P : Program} {t : TypeId} {fs : Array Field} {k fuel : Nat} {cs : Array Value} {x : DataW H × List MemPlace} (he : P.underlying t = some (.struct fs)) (hC : cs.size = k)
    (hf : ∀ j, j < k → ∃ f, fs[j]? = some f ∧ f.offset = j ∧ P.cellsOf f.type = 1 ∧ P.underlying f.type = some (.int .i64))
    (h : DataW.trod enc P w base (fun _ => true) held fuel t cs.toList = some x) : ∀ j, j < k → ∃ z : Int, cs[j]? = some (.int .i64 z) ∧ -9223372036854775808 ≤ z ∧ z ≤ 9223372036854775807 := by
  intro j hj
  obtain ⟨ys, n', _, _, hlen, hyl, hfl⟩ := DataW.trod_struct he h
  obtain ⟨f, hfj, ho, hk1, hu⟩ := hf j hj
  have hjs : j < fs.size := (Array.getElem?_eq_some_iff.1 hfj).1
  have h1 := hfl j f hfj
  rw [ho, hk1, List.getElem?_eq_getElem (by omega)] at h1
  obtain ⟨z, hz, _, hwf⟩ := DataW.trod_int hu h1
  have hjl : j < cs.toList.length := by simp; omega
  have h2 : (cs.toList.drop j).take 1 = [.int .i64 z] := hz
  rw [List.drop_eq_getElem_cons hjl] at h2
  simp only [List.take_succ_cons, List.take_zero, List.cons.injEq, and_true] at h2
  refine ⟨z, ?_, by simpa [Lit.wf, IntKind.min, IntKind.max, IntKind.signed, IntKind.bits] using hwf⟩
  rw [← Array.getElem?_toList, List.getElem?_eq_getElem hjl, h2]
/-- A struct of k numbers, as a list. -/
theorem open_numsL {P : Program} {t : TypeId} {fs : Array Field} {k fuel : Nat} {cs : List Value} {x : DataW H × List MemPlace} (he : P.underlying t = some (.struct fs)) (hC : cs.length = k)
    (hf : ∀ j, j < k → ∃ f, fs[j]? = some f ∧ f.offset = j ∧ P.cellsOf f.type = 1 ∧ P.underlying f.type = some (.int .i64))
    (h : DataW.trod enc P w base (fun _ => true) held fuel t cs = some x) : ∀ j, j < k → ∃ z : Int, cs[j]? = some (.int .i64 z) ∧ (Lit.int .i64 z).wf = true := by
  intro j hj
  obtain ⟨ys, n', _, _, hlen, hyl, hfl⟩ := DataW.trod_struct he h
  obtain ⟨f, hfj, ho, hk1, hu⟩ := hf j hj
  have hjs : j < fs.size := (Array.getElem?_eq_some_iff.1 hfj).1
  have h1 := hfl j f hfj
  rw [ho, hk1, List.getElem?_eq_getElem (by omega)] at h1
  obtain ⟨z, hz, _, hwf⟩ := DataW.trod_int hu h1
  have h2 : (cs.drop j).take 1 = [.int .i64 z] := hz
  rw [List.drop_eq_getElem_cons (by omega)] at h2
  simp only [List.take_succ_cons, List.take_zero, List.cons.injEq, and_true] at h2
  exact ⟨z, by rw [List.getElem?_eq_getElem (by omega), h2], hwf⟩
/-- A struct of two structs of two numbers. -/
theorem open_seg {P : Program} {t pt : TypeId} {fs gs : Array Field} {fuel : Nat} {cs : List Value} {x : DataW H × List MemPlace} (he : P.underlying t = some (.struct fs)) (hp : P.underlying pt = some (.struct gs)) (hC : cs.length = 4)
    (hf : ∀ j, j < 2 → ∃ f, fs[j]? = some f ∧ f.offset = 2 * j ∧ P.cellsOf f.type = 2 ∧ f.type = pt)
    (hg : ∀ j, j < 2 → ∃ f, gs[j]? = some f ∧ f.offset = j ∧ P.cellsOf f.type = 1 ∧ P.underlying f.type = some (.int .i64))
    (h : DataW.trod enc P w base (fun _ => true) held fuel t cs = some x) : ∀ j, j < 4 → ∃ z : Int, cs[j]? = some (.int .i64 z) ∧ (Lit.int .i64 z).wf = true := by
  obtain ⟨ys, n', _, _, hlen, hyl, hfl⟩ := DataW.trod_struct he h
  have part : ∀ q, q < 2 → ∀ j, j < 2 → ∃ z : Int, cs[2 * q + j]? = some (.int .i64 z) ∧ (Lit.int .i64 z).wf = true := by
    intro q hq j hj
    obtain ⟨f, hfj, ho, hk1, hu⟩ := hf q hq
    have hjs : q < fs.size := (Array.getElem?_eq_some_iff.1 hfj).1
    have h1 := hfl q f hfj
    rw [ho, hk1, List.getElem?_eq_getElem (by omega), hu] at h1
    obtain ⟨z, hz, hwf⟩ := open_numsL (k := 2) hp (by simp; omega) hg h1 j hj
    refine ⟨z, ?_, hwf⟩
    rw [List.getElem?_take, if_pos hj, List.getElem?_drop] at hz
    exact hz
  intro j hj
  have hj' : j = 2 * 0 + 0 ∨ j = 2 * 0 + 1 ∨ j = 2 * 1 + 0 ∨ j = 2 * 1 + 1 := by omega
  rcases hj' with rfl | rfl | rfl | rfl
  · exact part 0 (by decide) 0 (by decide)
  · exact part 0 (by decide) 1 (by decide)
  · exact part 1 (by decide) 0 (by decide)
  · exact part 1 (by decide) 1 (by decide)
theorem wf_bd {z : Int} (h : (Lit.int .i64 z).wf = true) : -9223372036854775808 ≤ z ∧ z ≤ 9223372036854775807 := by
  simpa [Lit.wf, IntKind.min, IntKind.max, IntKind.signed, IntKind.bits] using h
/-- Rows that open. -/
theorem open_rowsG {P : Program} {t e : TypeId} {k fuel : Nat} {a : Option Addr} {len cap : Nat} {x : DataW H × List MemPlace} (ht : P.underlying t = some (.slice e)) (hC : P.cellsOf e = k)
    (hrow : ∀ (cs : List Value) (fuel : Nat) (x : DataW H × List MemPlace), cs.length = k → DataW.trod enc P w base (fun _ => true) held fuel e cs = some x → ∀ j, j < k → ∃ z : Int, cs[j]? = some (.int .i64 z) ∧ (Lit.int .i64 z).wf = true)
    (h : DataW.trod enc P w base (fun _ => true) held fuel t [.slice a len cap] = some x) : ∃ Z, IRows w a len cap k Z := by
  rcases open_slice ht h with ⟨h0, _⟩ | ⟨a', len', cap', m, n, D, Pl, hcs, hb, hl, hm, hmm, hx, hi⟩
  · simp only [List.cons.injEq, Value.slice.injEq, and_true] at h0
    exact ⟨fun _ _ => 0, .inl ⟨h0.1, h0.2.1, h0.2.2⟩⟩
  · simp only [List.cons.injEq, Value.slice.injEq, and_true] at hcs
    obtain ⟨rfl, rfl, rfl⟩ := hcs
    have hm' : m = cap := by simpa using hmm
    subst hm'
    have key : ∀ i, i < m → ∀ j, j < k → ∃ z : Int, w.cell? (a'.add (i * k + j)) = some (.int .i64 z) ∧ (Lit.int .i64 z).wf = true := by
      intro i him j hj
      obtain ⟨cs', hc, ht'⟩ := hi i him
      rw [hC] at hc
      obtain ⟨_, hcl, hat⟩ := World.cells?_some hc
      obtain ⟨z, hv, hwf⟩ := hrow cs' _ _ hcl ht' j hj
      refine ⟨z, ?_, hwf⟩
      have := hat j hj
      rw [Go.Addr.add_add] at this
      rw [this, hv]
    classical
    refine ⟨fun i j => if h : i < m ∧ j < k then (key i h.1 j h.2).choose else 0, .inr ⟨a', rfl, hl, hm, fun i hi' j hj => ?_⟩⟩
    dsimp only
    rw [dif_pos ⟨hi', hj⟩]
    exact (key i hi' j hj).choose_spec
end
def ptsBlk (ty : TypeId) (X Y : Int → Int) (n : Int) : Go.Sym.Blk := ⟨ty, 2, false, .sym (.v fun _ => n) fun e => [.int .i64 (.v fun _ => X e.den) (-9223372036854775808) 9223372036854775807, .int .i64 (.v fun _ => Y e.den) (-9223372036854775808) 9223372036854775807]⟩
def col (Z : Nat → Nat → Int) (j : Nat) : Int → Int := fun i => Z i.toNat j
theorem intRows2 {ρ : Rho} {w : World} {id : Nat} {ty : TypeId} {a : Option Addr} {len cap : Nat} {Z : Nat → Nat → Int} (h : IRows w a len cap 2 Z) (hb : ρ.β id = blockOf a) (hg : ρ.γ id = cap * 2) (ho : ρ.o id = offOf a) (hal : ρ.al id) :
    VR ρ (.sl id 2 (.lit 0) (.v fun _ => (len : Int)) 9223372036854775807) (.slice a len cap) ∧ MR ρ w id (ptsBlk ty (col Z 0) (col Z 1) len) := by
  rcases h with ⟨rfl, rfl, rfl⟩ | ⟨x, rfl, hl, hm, hcell⟩
  · refine ⟨⟨hal, by simp [E.den], by simp [E.den], by simp [E.den], none, 0, rfl, Nat.le_refl _, Nat.zero_le _, rfl⟩, ?_⟩
    exact ⟨show 0 < 2 by decide, .inl ⟨by rw [hg], rfl⟩⟩
  · have hml : maxLen ≤ 9223372036854775807 := by decide
    have hspot : 0 < cap → x.spot = none := fun h0 => World.cell?_spot (by simpa [Addr.add] using (hcell 0 h0 0 (by decide)).1)
    refine ⟨⟨hal, by simp [E.den], by simp [E.den], by show (len : Int) ≤ _; omega, some x, cap, rfl, hl, hm, ?_⟩, show 0 < 2 by decide, ?_⟩
    · by_cases h0 : cap = 0
      · exact .inl h0
      · refine .inr ⟨?_, by rw [hg]; simp [E.den]⟩
        obtain ⟨b, off, spot⟩ := x
        have := hspot (by omega)
        simp only at this
        subst this
        rw [hb, ho]
        simp [blockOf, offOf, E.den]
    · by_cases h0 : cap = 0
      · exact .inl ⟨by rw [hg, h0], by show ((len : Int)).toNat = 0; omega⟩
      · refine .inr (.inr ⟨rfl, by rw [hg]; omega, ?_, fun i hi => ?_⟩)
        · have hc := (hcell 0 (by omega) 0 (by decide)).1
          rw [hb]
          exact World.block_lt_of_cell? w _ (by simpa [Addr.add, blockOf] using hc)
        · have hi' : i < cap := by
            have : i < ((len : Int)).toNat := hi
            omega
          have b0 := hcell i hi' 0 (by decide)
          have b1 := hcell i hi' 1 (by decide)
          have wfb : ∀ z : Int, (Lit.int .i64 z).wf = true → -9223372036854775808 ≤ z ∧ z ≤ 9223372036854775807 := by
            intro z hz
            simpa [Lit.wf, IntKind.min, IntKind.max, IntKind.signed, IntKind.bits] using hz
          have adr : ∀ k, x.add k = ⟨ρ.β id, ρ.o id + k, none⟩ := by
            intro k
            rw [hb, ho]
            obtain ⟨b, off, spot⟩ := x
            have := hspot (by omega)
            simp only at this
            subst this
            by_cases hk : k = 0
            · subst hk; simp [Addr.add, blockOf, offOf]
            · simp [Addr.add, blockOf, offOf, hk]
          refine ⟨[.int .i64 (Z i 0), .int .i64 (Z i 1)], rfl, fun j v hv => ?_, fun e he => ?_⟩
          · have hj : j = 0 ∨ j = 1 := by
              have := (List.getElem?_eq_some_iff.1 hv).1
              simp at this; omega
            rcases hj with rfl | rfl
            · simp at hv; subst hv; rw [← adr]; exact b0.1
            · simp at hv; subst hv; rw [← adr]; exact b1.1
          · have e1 : col Z 0 e.den = Z i 0 := by unfold col; rw [he, Int.toNat_natCast]
            have e2 : col Z 1 e.den = Z i 1 := by unfold col; rw [he, Int.toNat_natCast]
            refine ⟨_, _, rfl, ⟨by show _ = Value.int .i64 (col Z 0 e.den); rw [e1], ?_⟩, _, [], rfl, ⟨by show _ = Value.int .i64 (col Z 1 e.den); rw [e2], ?_⟩, rfl⟩
            · show _ ≤ col Z 0 e.den ∧ col Z 0 e.den ≤ _; rw [e1]; exact wfb _ b0.2
            · show _ ≤ col Z 1 e.den ∧ col Z 1 e.den ≤ _; rw [e2]; exact wfb _ b1.2
def rowBlk (ty : TypeId) (k : Nat) (Z : Nat → Nat → Int) (n : Nat) : Go.Sym.Blk := ⟨ty, k, false, .sym (.v fun _ => (n : Int)) fun e => (List.range k).map fun j => .int .i64 (.v fun _ => col Z j e.den) (-9223372036854775808) 9223372036854775807⟩
theorem intRowsK {ρ : Rho} {w : World} {id k : Nat} {ty : TypeId} {a : Option Addr} {len cap : Nat} {Z : Nat → Nat → Int} (hk : 0 < k) (h : IRows w a len cap k Z) (hb : ρ.β id = blockOf a) (hg : ρ.γ id = cap * k) (ho : ρ.o id = offOf a) (hal : ρ.al id) :
    VR ρ (.sl id k (.lit 0) (.v fun _ => (len : Int)) 9223372036854775807) (.slice a len cap) ∧ MR ρ w id (rowBlk ty k Z len) := by
  rcases h with ⟨rfl, rfl, rfl⟩ | ⟨x, rfl, hl, hm, hcell⟩
  · refine ⟨⟨hal, by simp [E.den], by simp [E.den], by simp [E.den], none, 0, rfl, Nat.le_refl _, Nat.zero_le _, rfl⟩, ?_⟩
    exact ⟨hk, .inl ⟨by rw [hg, Nat.zero_mul], rfl⟩⟩
  · have hml : maxLen ≤ 9223372036854775807 := by decide
    have hspot : 0 < cap → x.spot = none := fun h0 => World.cell?_spot (by simpa [Addr.add] using (hcell 0 h0 0 hk).1)
    refine ⟨⟨hal, by simp [E.den], by simp [E.den], by show (len : Int) ≤ _; omega, some x, cap, rfl, hl, hm, ?_⟩, hk, ?_⟩
    · by_cases h0 : cap = 0
      · exact .inl h0
      · refine .inr ⟨?_, by rw [hg]; simp [E.den]⟩
        obtain ⟨b, off, spot⟩ := x
        have := hspot (by omega)
        simp only at this
        subst this
        rw [hb, ho]
        simp [blockOf, offOf, E.den]
    · by_cases h0 : cap = 0
      · exact .inl ⟨by rw [hg, h0, Nat.zero_mul], by show ((len : Int)).toNat = 0; omega⟩
      · refine .inr (.inr ⟨rfl, by rw [hg]; exact Nat.pos_iff_ne_zero.1 (Nat.mul_pos (by omega) hk), ?_, fun i hi => ?_⟩)
        · have hc := (hcell 0 (by omega) 0 hk).1
          rw [hb]
          exact World.block_lt_of_cell? w _ (by simpa [Addr.add, blockOf] using hc)
        · have hi' : i < cap := by
            have : i < ((len : Int)).toNat := hi
            omega
          have adr : ∀ k, x.add k = ⟨ρ.β id, ρ.o id + k, none⟩ := by
            intro k
            rw [hb, ho]
            obtain ⟨b, off, spot⟩ := x
            have := hspot (by omega)
            simp only at this
            subst this
            by_cases hk : k = 0
            · subst hk; simp [Addr.add, blockOf, offOf]
            · simp [Addr.add, blockOf, offOf, hk]
          refine ⟨(List.range k).map fun j => .int .i64 (Z i j), by simp [rowBlk], fun j v hv => ?_, fun e he => ?_⟩
          · have hj : j < k := by
              have := (List.getElem?_eq_some_iff.1 hv).1
              simpa using this
            rw [List.getElem?_map, List.getElem?_range hj] at hv
            simp only [Option.map_some, Option.some.injEq] at hv
            rw [← hv]
            show w.cell? ⟨ρ.β id, ρ.o id + (i * k + j), none⟩ = _
            rw [← adr]
            exact (hcell i hi' j hj).1
          · refine VRs.map _ _ (List.range k) fun j hj => ?_
            have hj' : j < k := List.mem_range.1 hj
            have e1 : col Z j e.den = Z i j := by unfold col; rw [he, Int.toNat_natCast]
            have hwf := wf_bd (hcell i hi' j hj').2
            refine ⟨by show _ = Value.int .i64 (col Z j e.den); rw [e1], ?_, ?_⟩
            · show _ ≤ col Z j e.den; rw [e1]; exact hwf.1
            · show col Z j e.den ≤ _; rw [e1]; exact hwf.2
theorem four_of {cs : List Value} (hs : cs.length = 4) (hn : ∀ j, j < 4 → ∃ z : Int, cs[j]? = some (.int .i64 z) ∧ (Lit.int .i64 z).wf = true) :
    ∃ a b c d : Int, cs = [.int .i64 a, .int .i64 b, .int .i64 c, .int .i64 d] ∧ (-9223372036854775808 ≤ a ∧ a ≤ 9223372036854775807) ∧ (-9223372036854775808 ≤ b ∧ b ≤ 9223372036854775807) ∧ (-9223372036854775808 ≤ c ∧ c ≤ 9223372036854775807) ∧ (-9223372036854775808 ≤ d ∧ d ≤ 9223372036854775807) := by
  obtain ⟨z0, c0, l0⟩ := hn 0 (by decide)
  obtain ⟨z1, c1, l1⟩ := hn 1 (by decide)
  obtain ⟨z2, c2, l2⟩ := hn 2 (by decide)
  obtain ⟨z3, c3, l3⟩ := hn 3 (by decide)
  refine ⟨z0, z1, z2, z3, ?_, wf_bd l0, wf_bd l1, wf_bd l2, wf_bd l3⟩
  apply List.ext_getElem?
  intro i
  match i with
  | 0 => exact c0
  | 1 => exact c1
  | 2 => exact c2
  | 3 => exact c3
  | i + 4 => rw [List.getElem?_eq_none (by omega), List.getElem?_eq_none (by simp)]
def I4 (a b c d : Int) : AV := .agg [.int .i64 (.v fun _ => a) (-9223372036854775808) 9223372036854775807, .int .i64 (.v fun _ => b) (-9223372036854775808) 9223372036854775807, .int .i64 (.v fun _ => c) (-9223372036854775808) 9223372036854775807, .int .i64 (.v fun _ => d) (-9223372036854775808) 9223372036854775807]
theorem I4_of {ρ : Rho} {cs : Array Value} {a b c d : Int} (h : cs.toList = [.int .i64 a, .int .i64 b, .int .i64 c, .int .i64 d]) (ha : -9223372036854775808 ≤ a ∧ a ≤ 9223372036854775807) (hb : -9223372036854775808 ≤ b ∧ b ≤ 9223372036854775807) (hc : -9223372036854775808 ≤ c ∧ c ≤ 9223372036854775807) (hd : -9223372036854775808 ≤ d ∧ d ≤ 9223372036854775807) : VR ρ (I4 a b c d) (.agg cs) :=
  ⟨cs.toList, by simp, by rw [h]; exact ⟨_, _, rfl, ⟨rfl, ha⟩, _, _, rfl, ⟨rfl, hb⟩, _, _, rfl, ⟨rfl, hc⟩, _, [], rfl, ⟨rfl, hd⟩, rfl⟩⟩
/-- Two structs of four numbers. -/
theorem lawSS {f : FuncId} {M : Int → Int → Int → Int → Int → Int → Int → Int → List (Option Go.Sym.Blk)}
    (h : ∀ a b c d a' b' c' d' : Int, RunsTo Try.prog f [I4 a b c d, I4 a' b' c' d'] [] (.bool (.lit true)) (M a b c d a' b' c' d'))
    {W : World} {cs cs' : Array Value} (hs : cs.size = 4) (hn : ∀ j, j < 4 → ∃ z : Int, cs.toList[j]? = some (.int .i64 z) ∧ (Lit.int .i64 z).wf = true) (hs' : cs'.size = 4) (hn' : ∀ j, j < 4 → ∃ z : Int, cs'.toList[j]? = some (.int .i64 z) ∧ (Lit.int .i64 z).wf = true) :
    Calls Try.prog f #[.agg cs, .agg cs'] W fun e W' => e = .returned (.bool true) ∧ Below W.heap.size W W' := by
  obtain ⟨a, b, c, d, e1, ha, hb, hc, hd⟩ := four_of (by simpa using hs) hn
  obtain ⟨a', b', c', d', e2, ha', hb', hc', hd'⟩ := four_of (by simpa using hs') hn'
  let ρ : Rho := ⟨fun _ => 0, fun _ => 0, fun _ => False, fun _ => 0⟩
  have hblk : ∀ i b, blkOf ([] : List (Option Go.Sym.Blk)) i = some b → False := fun i b hb => by simp [blkOf] at hb
  have hM : MRel W (fun _ => False) ρ [] W := ⟨fun i b hb => (hblk i b hb).elim, fun i j b c hb _ _ _ _ _ => (hblk i b hb).elim, fun i b hb _ _ => (hblk i b hb).elim, FrameW.refl _ _⟩
  obtain ⟨_, hC⟩ := h a b c d a' b' c' d' W (fun _ => False) ρ [.agg cs, .agg cs'] hM (fun i hi => hi.elim) ⟨_, _, rfl, I4_of e1 ha hb hc hd, _, [], rfl, I4_of e2 ha' hb' hc' hd', rfl⟩
  refine hC.mono ?_
  rintro e W' ⟨r, m', ρ', v, rfl, ⟨rfl, rfl⟩, hrv, hMM, _⟩
  have hrv : v = .bool true := hrv
  subst hrv
  exact ⟨rfl, hMM.fr.os, hMM.fr.tape, hMM.fr.output, hMM.fr.size, fun k hk => hMM.fr.block k hk (fun x => x)⟩
/-- A list of structs of two numbers, and a struct of four. -/
theorem lawPS {f : FuncId} {ty : TypeId} {M : (Int → Int) → (Int → Int) → Int → Int → Int → Int → Int → List (Option Go.Sym.Blk)}
    (h : ∀ (X Y : Int → Int) (n a b c d : Int), RunsTo Try.prog f [.sl 0 2 (.lit 0) (.v fun _ => n) 9223372036854775807, I4 a b c d] [some (ptsBlk ty X Y n)] (.bool (.lit true)) (M X Y n a b c d))
    {W : World} {a : Option Addr} {len cap : Nat} {Z : Nat → Nat → Int} {cs : Array Value} (hr : IRows W a len cap 2 Z) (hs : cs.size = 4) (hn : ∀ j, j < 4 → ∃ z : Int, cs.toList[j]? = some (.int .i64 z) ∧ (Lit.int .i64 z).wf = true) :
    Calls Try.prog f #[.slice a len cap, .agg cs] W fun e W' => e = .returned (.bool true) ∧ Below W.heap.size W W' := by
  obtain ⟨a1, b1, c1, d1, e1, ha, hb, hc, hd⟩ := four_of (by simpa using hs) hn
  let ρ : Rho := ⟨fun _ => blockOf a, fun _ => cap * 2, fun i => i = 0, fun _ => offOf a⟩
  obtain ⟨hv, hm⟩ := intRows2 (ρ := ρ) (id := 0) (ty := ty) hr rfl rfl rfl rfl
  have hblk : ∀ i b, blkOf [some (ptsBlk ty (col Z 0) (col Z 1) len)] i = some b → i = 0 ∧ b = ptsBlk ty (col Z 0) (col Z 1) len := by
    intro i b hb
    cases i with
    | zero => simp [blkOf] at hb; exact ⟨rfl, hb.symm⟩
    | succ i => simp [blkOf] at hb
  have hM : MRel W (fun _ => False) ρ [some (ptsBlk ty (col Z 0) (col Z 1) len)] W := by
    refine ⟨fun i b hb => ?_, fun i j b c hb hc hne _ _ _ => ?_, fun i b hb hw _ => ?_, FrameW.refl _ _⟩
    · obtain ⟨rfl, rfl⟩ := hblk i b hb; exact ⟨rfl, hm⟩
    · exact absurd ((hblk i b hb).1.trans (hblk j c hc).1.symm) hne
    · obtain ⟨rfl, rfl⟩ := hblk i b hb; exact absurd hw (by simp [ptsBlk])
  obtain ⟨_, hC⟩ := h (col Z 0) (col Z 1) len a1 b1 c1 d1 W (fun _ => False) ρ [.slice a len cap, .agg cs] hM (fun i (hi : i = 0) => by rw [hi]; exact Nat.zero_lt_one) ⟨_, _, rfl, hv, _, [], rfl, I4_of e1 ha hb hc hd, rfl⟩
  refine hC.mono ?_
  rintro e W' ⟨r, m', ρ', v, rfl, ⟨rfl, rfl⟩, hrv, hMM, _⟩
  have hrv : v = .bool true := hrv
  subst hrv
  exact ⟨rfl, hMM.fr.os, hMM.fr.tape, hMM.fr.output, hMM.fr.size, fun k hk => hMM.fr.block k hk (fun x => x)⟩
def segBlk (ty : TypeId) (A B C D : Int → Int) (n : Int) : Go.Sym.Blk := ⟨ty, 4, false, .sym (.v fun _ => n) fun e => [.int .i64 (.v fun _ => A e.den) (-9223372036854775808) 9223372036854775807, .int .i64 (.v fun _ => B e.den) (-9223372036854775808) 9223372036854775807, .int .i64 (.v fun _ => C e.den) (-9223372036854775808) 9223372036854775807, .int .i64 (.v fun _ => D e.den) (-9223372036854775808) 9223372036854775807]⟩
/-- A list of structs of four numbers. -/
theorem lawS4 {f : FuncId} {ty : TypeId} {M : (Int → Int) → (Int → Int) → (Int → Int) → (Int → Int) → Int → List (Option Go.Sym.Blk)}
    (h : ∀ (A B C D : Int → Int) (n : Int), RunsTo Try.prog f [.sl 0 4 (.lit 0) (.v fun _ => n) 9223372036854775807] [some (segBlk ty A B C D n)] (.bool (.lit true)) (M A B C D n))
    {W : World} {a : Option Addr} {len cap : Nat} {Z : Nat → Nat → Int} (hr : IRows W a len cap 4 Z) :
    Calls Try.prog f #[.slice a len cap] W fun e W' => e = .returned (.bool true) ∧ Below W.heap.size W W' := by
  let ρ : Rho := ⟨fun _ => blockOf a, fun _ => cap * 4, fun i => i = 0, fun _ => offOf a⟩
  obtain ⟨hv, hm⟩ := intRowsK (ρ := ρ) (id := 0) (ty := ty) (by decide) hr rfl rfl rfl rfl
  have hblk : ∀ i b, blkOf [some (segBlk ty (col Z 0) (col Z 1) (col Z 2) (col Z 3) len)] i = some b → i = 0 ∧ b = segBlk ty (col Z 0) (col Z 1) (col Z 2) (col Z 3) len := by
    intro i b hb
    cases i with
    | zero => simp [blkOf] at hb; exact ⟨rfl, hb.symm⟩
    | succ i => simp [blkOf] at hb
  have hM : MRel W (fun _ => False) ρ [some (segBlk ty (col Z 0) (col Z 1) (col Z 2) (col Z 3) len)] W := by
    refine ⟨fun i b hb => ?_, fun i j b c hb hc hne _ _ _ => ?_, fun i b hb hw _ => ?_, FrameW.refl _ _⟩
    · obtain ⟨rfl, rfl⟩ := hblk i b hb; exact ⟨rfl, hm⟩
    · exact absurd ((hblk i b hb).1.trans (hblk j c hc).1.symm) hne
    · obtain ⟨rfl, rfl⟩ := hblk i b hb; exact absurd hw (by simp [segBlk])
  obtain ⟨_, hC⟩ := h (col Z 0) (col Z 1) (col Z 2) (col Z 3) len W (fun _ => False) ρ [.slice a len cap] hM (fun i (hi : i = 0) => by rw [hi]; exact Nat.zero_lt_one) ⟨_, [], rfl, hv, rfl⟩
  refine hC.mono ?_
  rintro e W' ⟨r, m', ρ', v, rfl, ⟨rfl, rfl⟩, hrv, hMM, _⟩
  have hrv : v = .bool true := hrv
  subst hrv
  exact ⟨rfl, hMM.fr.os, hMM.fr.tape, hMM.fr.output, hMM.fr.size, fun k hk => hMM.fr.block k hk (fun x => x)⟩
/-- A list of structs of four numbers, and a number. -/
theorem lawS4I {f : FuncId} {ty : TypeId} {M : (Int → Int) → (Int → Int) → (Int → Int) → (Int → Int) → Int → Int → List (Option Go.Sym.Blk)}
    (h : ∀ (A B C D : Int → Int) (n d : Int), RunsTo Try.prog f [.sl 0 4 (.lit 0) (.v fun _ => n) 9223372036854775807, .int .i64 (.v fun _ => d) (-9223372036854775808) 9223372036854775807] [some (segBlk ty A B C D n)] (.bool (.lit true)) (M A B C D n d))
    {W : World} {a : Option Addr} {len cap : Nat} {Z : Nat → Nat → Int} {d : Int} (hr : IRows W a len cap 4 Z) (hd : (Lit.int .i64 d).wf = true) :
    Calls Try.prog f #[.slice a len cap, .int .i64 d] W fun e W' => e = .returned (.bool true) ∧ Below W.heap.size W W' := by
  let ρ : Rho := ⟨fun _ => blockOf a, fun _ => cap * 4, fun i => i = 0, fun _ => offOf a⟩
  obtain ⟨hv, hm⟩ := intRowsK (ρ := ρ) (id := 0) (ty := ty) (by decide) hr rfl rfl rfl rfl
  have hblk : ∀ i b, blkOf [some (segBlk ty (col Z 0) (col Z 1) (col Z 2) (col Z 3) len)] i = some b → i = 0 ∧ b = segBlk ty (col Z 0) (col Z 1) (col Z 2) (col Z 3) len := by
    intro i b hb
    cases i with
    | zero => simp [blkOf] at hb; exact ⟨rfl, hb.symm⟩
    | succ i => simp [blkOf] at hb
  have hM : MRel W (fun _ => False) ρ [some (segBlk ty (col Z 0) (col Z 1) (col Z 2) (col Z 3) len)] W := by
    refine ⟨fun i b hb => ?_, fun i j b c hb hc hne _ _ _ => ?_, fun i b hb hw _ => ?_, FrameW.refl _ _⟩
    · obtain ⟨rfl, rfl⟩ := hblk i b hb; exact ⟨rfl, hm⟩
    · exact absurd ((hblk i b hb).1.trans (hblk j c hc).1.symm) hne
    · obtain ⟨rfl, rfl⟩ := hblk i b hb; exact absurd hw (by simp [segBlk])
  obtain ⟨_, hC⟩ := h (col Z 0) (col Z 1) (col Z 2) (col Z 3) len d W (fun _ => False) ρ [.slice a len cap, .int .i64 d] hM (fun i (hi : i = 0) => by rw [hi]; exact Nat.zero_lt_one) ⟨_, _, rfl, hv, _, [], rfl, ⟨rfl, wf_bd hd⟩, rfl⟩
  refine hC.mono ?_
  rintro e W' ⟨r, m', ρ', v, rfl, ⟨rfl, rfl⟩, hrv, hMM, _⟩
  have hrv : v = .bool true := hrv
  subst hrv
  exact ⟨rfl, hMM.fr.os, hMM.fr.tape, hMM.fr.output, hMM.fr.size, fun k hk => hMM.fr.block k hk (fun x => x)⟩
def intBlk (ty : TypeId) (A : Int → Int) (n : Int) : Go.Sym.Blk := ⟨ty, 1, false, .sym (.v fun _ => n) fun e => [.int .i64 (.v fun _ => A e.den) (-9223372036854775808) 9223372036854775807]⟩
/-- A list of structs of two numbers, and a list of numbers. -/
theorem lawPI {f : FuncId} {ty ty' : TypeId} {M : (Int → Int) → (Int → Int) → Int → (Int → Int) → Int → List (Option Go.Sym.Blk)}
    (h : ∀ (X Y : Int → Int) (n : Int) (A : Int → Int) (m : Int), RunsTo Try.prog f [.sl 0 2 (.lit 0) (.v fun _ => n) 9223372036854775807, .sl 1 1 (.lit 0) (.v fun _ => m) 9223372036854775807] [some (ptsBlk ty X Y n), some (intBlk ty' A m)] (.bool (.lit true)) (M X Y n A m))
    {W : World} {a a' : Option Addr} {len cap len' cap' : Nat} {Z Z' : Nat → Nat → Int} (hr : IRows W a len cap 2 Z) (hr' : IRows W a' len' cap' 1 Z') :
    Calls Try.prog f #[.slice a len cap, .slice a' len' cap'] W fun e W' => e = .returned (.bool true) ∧ Below W.heap.size W W' := by
  let ρ : Rho := ⟨fun i => if i = 0 then blockOf a else blockOf a', fun i => if i = 0 then cap * 2 else cap' * 1, fun i => i < 2, fun i => if i = 0 then offOf a else offOf a'⟩
  obtain ⟨hv, hm⟩ := intRows2 (ρ := ρ) (id := 0) (ty := ty) hr rfl rfl rfl (show 0 < 2 by decide)
  obtain ⟨hv', hm'⟩ := intRowsK (ρ := ρ) (id := 1) (ty := ty') (by decide) hr' rfl rfl rfl (show 1 < 2 by decide)
  have hblk : ∀ i b, blkOf [some (ptsBlk ty (col Z 0) (col Z 1) len), some (intBlk ty' (col Z' 0) len')] i = some b → (i = 0 ∧ b = ptsBlk ty (col Z 0) (col Z 1) len) ∨ (i = 1 ∧ b = intBlk ty' (col Z' 0) len') := by
    intro i b hb
    match i with
    | 0 => simp [blkOf] at hb; exact .inl ⟨rfl, hb.symm⟩
    | 1 => simp [blkOf] at hb; exact .inr ⟨rfl, hb.symm⟩
    | i + 2 => simp [blkOf] at hb
  have hnw : ∀ i b, blkOf [some (ptsBlk ty (col Z 0) (col Z 1) len), some (intBlk ty' (col Z' 0) len')] i = some b → b.wr = false := by
    intro i b hb
    rcases hblk i b hb with ⟨_, rfl⟩ | ⟨_, rfl⟩ <;> rfl
  have hM : MRel W (fun _ => False) ρ [some (ptsBlk ty (col Z 0) (col Z 1) len), some (intBlk ty' (col Z' 0) len')] W := by
    refine ⟨fun i b hb => ?_, fun i j b c hb hc _ _ _ hw => ?_, fun i b hb hw _ => ?_, FrameW.refl _ _⟩
    · rcases hblk i b hb with ⟨rfl, rfl⟩ | ⟨rfl, rfl⟩
      · exact ⟨show 0 < 2 by decide, hm⟩
      · exact ⟨show 1 < 2 by decide, hm'⟩
    · rw [hnw i b hb, hnw j c hc] at hw; simp at hw
    · rw [hnw i b hb] at hw; cases hw
  obtain ⟨_, hC⟩ := h (col Z 0) (col Z 1) len (col Z' 0) len' W (fun _ => False) ρ [.slice a len cap, .slice a' len' cap'] hM (fun i (hi : i < 2) => hi) ⟨_, _, rfl, hv, _, [], rfl, hv', rfl⟩
  refine hC.mono ?_
  rintro e W' ⟨r, m', ρ', v, rfl, ⟨rfl, rfl⟩, hrv, hMM, _⟩
  have hrv : v = .bool true := hrv
  subst hrv
  exact ⟨rfl, hMM.fr.os, hMM.fr.tape, hMM.fr.output, hMM.fr.size, fun k hk => hMM.fr.block k hk (fun x => x)⟩
theorem lawP {f : FuncId} {ty : TypeId} {M : (Int → Int) → (Int → Int) → Int → List (Option Go.Sym.Blk)}
    (h : ∀ (X Y : Int → Int) (n : Int), RunsTo Try.prog f [.sl 0 2 (.lit 0) (.v fun _ => n) 9223372036854775807] [some (ptsBlk ty X Y n)] (.bool (.lit true)) (M X Y n))
    {W : World} {a : Option Addr} {len cap : Nat} {Z : Nat → Nat → Int} (hr : IRows W a len cap 2 Z) :
    Calls Try.prog f #[.slice a len cap] W fun e W' => e = .returned (.bool true) ∧ Below W.heap.size W W' := by
  let ρ : Rho := ⟨fun _ => blockOf a, fun _ => cap * 2, fun i => i = 0, fun _ => offOf a⟩
  obtain ⟨hv, hm⟩ := intRows2 (ρ := ρ) (id := 0) (ty := ty) hr rfl rfl rfl rfl
  have hblk : ∀ i b, blkOf [some (ptsBlk ty (col Z 0) (col Z 1) len)] i = some b → i = 0 ∧ b = ptsBlk ty (col Z 0) (col Z 1) len := by
    intro i b hb
    cases i with
    | zero => simp [blkOf] at hb; exact ⟨rfl, hb.symm⟩
    | succ i => simp [blkOf] at hb
  have hM : MRel W (fun _ => False) ρ [some (ptsBlk ty (col Z 0) (col Z 1) len)] W := by
    refine ⟨fun i b hb => ?_, fun i j b c hb hc hne _ _ _ => ?_, fun i b hb hw _ => ?_, FrameW.refl _ _⟩
    · obtain ⟨rfl, rfl⟩ := hblk i b hb; exact ⟨rfl, hm⟩
    · exact absurd ((hblk i b hb).1.trans (hblk j c hc).1.symm) hne
    · obtain ⟨rfl, rfl⟩ := hblk i b hb; exact absurd hw (by simp [ptsBlk])
  obtain ⟨_, hc⟩ := h (col Z 0) (col Z 1) len W (fun _ => False) ρ [.slice a len cap] hM (fun i (hi : i = 0) => by rw [hi]; exact Nat.zero_lt_one) ⟨_, [], rfl, hv, rfl⟩
  refine hc.mono ?_
  rintro e W' ⟨r, m', ρ', v, rfl, ⟨rfl, rfl⟩, hrv, hMM, _⟩
  have hrv : v = .bool true := hrv
  subst hrv
  exact ⟨rfl, hMM.fr.os, hMM.fr.tape, hMM.fr.output, hMM.fr.size, fun k hk => hMM.fr.block k hk (fun x => x)⟩
theorem lawPP {f : FuncId} {ty ty' : TypeId} {M : (Int → Int) → (Int → Int) → Int → (Int → Int) → (Int → Int) → Int → List (Option Go.Sym.Blk)}
    (h : ∀ (X Y : Int → Int) (n : Int) (A B : Int → Int) (m : Int), RunsTo Try.prog f [.sl 0 2 (.lit 0) (.v fun _ => n) 9223372036854775807, .sl 1 2 (.lit 0) (.v fun _ => m) 9223372036854775807] [some (ptsBlk ty X Y n), some (ptsBlk ty' A B m)] (.bool (.lit true)) (M X Y n A B m))
    {W : World} {a a' : Option Addr} {len cap len' cap' : Nat} {Z Z' : Nat → Nat → Int} (hr : IRows W a len cap 2 Z) (hr' : IRows W a' len' cap' 2 Z') :
    Calls Try.prog f #[.slice a len cap, .slice a' len' cap'] W fun e W' => e = .returned (.bool true) ∧ Below W.heap.size W W' := by
  let ρ : Rho := ⟨fun i => if i = 0 then blockOf a else blockOf a', fun i => if i = 0 then cap * 2 else cap' * 2, fun i => i < 2, fun i => if i = 0 then offOf a else offOf a'⟩
  obtain ⟨hv, hm⟩ := intRows2 (ρ := ρ) (id := 0) (ty := ty) hr rfl rfl rfl (show 0 < 2 by decide)
  obtain ⟨hv', hm'⟩ := intRows2 (ρ := ρ) (id := 1) (ty := ty') hr' rfl rfl rfl (show 1 < 2 by decide)
  have hblk : ∀ i b, blkOf [some (ptsBlk ty (col Z 0) (col Z 1) len), some (ptsBlk ty' (col Z' 0) (col Z' 1) len')] i = some b → (i = 0 ∧ b = ptsBlk ty (col Z 0) (col Z 1) len) ∨ (i = 1 ∧ b = ptsBlk ty' (col Z' 0) (col Z' 1) len') := by
    intro i b hb
    match i with
    | 0 => simp [blkOf] at hb; exact .inl ⟨rfl, hb.symm⟩
    | 1 => simp [blkOf] at hb; exact .inr ⟨rfl, hb.symm⟩
    | i + 2 => simp [blkOf] at hb
  have hnw : ∀ i b, blkOf [some (ptsBlk ty (col Z 0) (col Z 1) len), some (ptsBlk ty' (col Z' 0) (col Z' 1) len')] i = some b → b.wr = false := by
    intro i b hb
    rcases hblk i b hb with ⟨_, rfl⟩ | ⟨_, rfl⟩ <;> rfl
  have hM : MRel W (fun _ => False) ρ [some (ptsBlk ty (col Z 0) (col Z 1) len), some (ptsBlk ty' (col Z' 0) (col Z' 1) len')] W := by
    refine ⟨fun i b hb => ?_, fun i j b c hb hc _ _ _ hw => ?_, fun i b hb hw _ => ?_, FrameW.refl _ _⟩
    · rcases hblk i b hb with ⟨rfl, rfl⟩ | ⟨rfl, rfl⟩
      · exact ⟨show 0 < 2 by decide, hm⟩
      · exact ⟨show 1 < 2 by decide, hm'⟩
    · rw [hnw i b hb, hnw j c hc] at hw; simp at hw
    · rw [hnw i b hb] at hw; cases hw
  obtain ⟨_, hc⟩ := h (col Z 0) (col Z 1) len (col Z' 0) (col Z' 1) len' W (fun _ => False) ρ [.slice a len cap, .slice a' len' cap'] hM (fun i (hi : i < 2) => hi) ⟨_, _, rfl, hv, _, [], rfl, hv', rfl⟩
  refine hc.mono ?_
  rintro e W' ⟨r, m', ρ', v, rfl, ⟨rfl, rfl⟩, hrv, hMM, _⟩
  have hrv : v = .bool true := hrv
  subst hrv
  exact ⟨rfl, hMM.fr.os, hMM.fr.tape, hMM.fr.output, hMM.fr.size, fun k hk => hMM.fr.block k hk (fun x => x)⟩
theorem lawMP {f : FuncId} {ty : TypeId} {M : Int → Int → Int → Int → (Int → Int) → (Int → Int) → Int → List (Option Go.Sym.Blk)}
    (h : ∀ (a b c d : Int) (X Y : Int → Int) (n : Int), RunsTo Try.prog f [.agg [.int .i64 (.v fun _ => a) (-9223372036854775808) 9223372036854775807, .int .i64 (.v fun _ => b) (-9223372036854775808) 9223372036854775807, .int .i64 (.v fun _ => c) (-9223372036854775808) 9223372036854775807, .int .i64 (.v fun _ => d) (-9223372036854775808) 9223372036854775807], .sl 0 2 (.lit 0) (.v fun _ => n) 9223372036854775807] [some (ptsBlk ty X Y n)] (.bool (.lit true)) (M a b c d X Y n))
    {W : World} {cs : Array Value} {a : Option Addr} {len cap : Nat} {Z : Nat → Nat → Int} (hs : cs.size = 4) (hn : ∀ j, j < 4 → ∃ z : Int, cs[j]? = some (.int .i64 z) ∧ -9223372036854775808 ≤ z ∧ z ≤ 9223372036854775807) (hr : IRows W a len cap 2 Z) :
    Calls Try.prog f #[.agg cs, .slice a len cap] W fun e W' => e = .returned (.bool true) ∧ Below W.heap.size W W' := by
  obtain ⟨z0, c0, l0⟩ := hn 0 (by decide)
  obtain ⟨z1, c1, l1⟩ := hn 1 (by decide)
  obtain ⟨z2, c2, l2⟩ := hn 2 (by decide)
  obtain ⟨z3, c3, l3⟩ := hn 3 (by decide)
  have ecs : cs = #[.int .i64 z0, .int .i64 z1, .int .i64 z2, .int .i64 z3] := by
    apply Array.ext_getElem?
    intro i
    match i with
    | 0 => exact c0
    | 1 => exact c1
    | 2 => exact c2
    | 3 => exact c3
    | i + 4 => rw [Array.getElem?_eq_none (by omega), Array.getElem?_eq_none (by simp)]
  let ρ : Rho := ⟨fun _ => blockOf a, fun _ => cap * 2, fun i => i = 0, fun _ => offOf a⟩
  obtain ⟨hv, hm⟩ := intRows2 (ρ := ρ) (id := 0) (ty := ty) hr rfl rfl rfl rfl
  have hblk : ∀ i b, blkOf [some (ptsBlk ty (col Z 0) (col Z 1) len)] i = some b → i = 0 ∧ b = ptsBlk ty (col Z 0) (col Z 1) len := by
    intro i b hb
    cases i with
    | zero => simp [blkOf] at hb; exact ⟨rfl, hb.symm⟩
    | succ i => simp [blkOf] at hb
  have hM : MRel W (fun _ => False) ρ [some (ptsBlk ty (col Z 0) (col Z 1) len)] W := by
    refine ⟨fun i b hb => ?_, fun i j b c hb hc hne _ _ _ => ?_, fun i b hb hw _ => ?_, FrameW.refl _ _⟩
    · obtain ⟨rfl, rfl⟩ := hblk i b hb; exact ⟨rfl, hm⟩
    · exact absurd ((hblk i b hb).1.trans (hblk j c hc).1.symm) hne
    · obtain ⟨rfl, rfl⟩ := hblk i b hb; exact absurd hw (by simp [ptsBlk])
  obtain ⟨_, hc⟩ := h z0 z1 z2 z3 (col Z 0) (col Z 1) len W (fun _ => False) ρ [.agg cs, .slice a len cap] hM (fun i (hi : i = 0) => by rw [hi]; exact Nat.zero_lt_one)
    ⟨_, _, rfl, ⟨[.int .i64 z0, .int .i64 z1, .int .i64 z2, .int .i64 z3], by rw [ecs], _, _, rfl, ⟨rfl, l0⟩, _, _, rfl, ⟨rfl, l1⟩, _, _, rfl, ⟨rfl, l2⟩, _, [], rfl, ⟨rfl, l3⟩, rfl⟩, _, [], rfl, hv, rfl⟩
  refine hc.mono ?_
  rintro e W' ⟨r, m', ρ', v, rfl, ⟨rfl, rfl⟩, hrv, hMM, _⟩
  have hrv : v = .bool true := hrv
  subst hrv
  exact ⟨rfl, hMM.fr.os, hMM.fr.tape, hMM.fr.output, hMM.fr.size, fun k hk => hMM.fr.block k hk (fun x => x)⟩
end Go.Proofs.Ytcfkpdjbjfnnmaa
