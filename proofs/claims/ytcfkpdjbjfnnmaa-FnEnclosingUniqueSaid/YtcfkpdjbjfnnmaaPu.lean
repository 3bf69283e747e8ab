/- A call that only reads: what it is given may be a part of what the caller knows, and stays as it was. -/
import Derived.Test.YtcfkpdjbjfnnmaaYg
set_option linter.unusedSimpArgs false
set_option linter.unusedVariables false
namespace Go.Sym
theorem cell_same {w w' : World} {a : Addr} (h : w'.heap[a.block]? = w.heap[a.block]?) : w'.cell? a = w.cell? a := by
  unfold World.cell?
  rw [h]
theorem MR.keep {ρ : Rho} {w w' : World} {id : Nat} {b : Blk} (h : MR ρ w id b) (hf : FrameW w (fun _ => False) w') : MR ρ w' id b := by
  obtain ⟨h0, h1⟩ := h
  refine ⟨h0, ?_⟩
  rcases h1 with h1 | ⟨ho, cs, hh, hs, hr⟩ | ⟨hw, hg, hb, hr⟩
  · exact .inl h1
  · have hb : ρ.β id < w.heap.size := (Array.getElem?_eq_some_iff.1 hh).1
    exact .inr (.inl ⟨ho, cs, by rw [hf.block _ hb (fun x => x)]; exact hh, hs, hr⟩)
  · refine .inr (.inr ⟨hw, hg, Nat.lt_of_lt_of_le hb hf.size, fun i hi => ?_⟩)
    obtain ⟨vs, a, c, d⟩ := hr i hi
    refine ⟨vs, a, fun j v hv => ?_, d⟩
    rw [cell_same (hf.block _ hb (fun x => x))]
    exact c j v hv
/-- A part of the rows, to be read. -/
theorem MR.shift {ρ ρ1 : Rho} {w : World} {id : Nat} {ty : TypeId} {sz : Nat} {wr : Bool} {N n s : Int} {c : Nat} {g g' : E → List AV}
    (h : MR ρ w id ⟨ty, sz, wr, .sym (.v fun _ => N) g⟩) (h0 : 0 ≤ s) (hN : s + n ≤ N) (hn : n.toNat ≤ c) (hc : c = 0 ∨ (s.toNat + c) * sz ≤ ρ.γ id)
    (e1 : ρ1.β id = ρ.β id) (e2 : ρ1.o id = ρ.o id + s.toNat * sz) (e3 : ρ1.γ id = c * sz)
    (hg : ∀ (e : E) vs, 0 ≤ e.den → e.den < n → VRs ρ (g (.v fun _ => s + e.den)) vs → VRs ρ1 (g' e) vs) : MR ρ1 w id ⟨ty, sz, false, .sym (.v fun _ => n) g'⟩ := by
  obtain ⟨hz, h1⟩ := h
  have hz : 0 < sz := hz
  refine ⟨hz, ?_⟩
  by_cases hc0 : c = 0
  · left
    refine ⟨by rw [e3, hc0]; omega, ?_⟩
    show n.toNat = 0
    omega
  have hcg : (s.toNat + c) * sz ≤ ρ.γ id := hc.resolve_left hc0
  have hpos : 0 < (s.toNat + c) * sz := Nat.mul_pos (by omega) hz
  have hg1 : ρ1.γ id ≠ 0 := by
    rw [e3]
    have := Nat.mul_pos (show 0 < c by omega) hz
    omega
  rcases h1 with ⟨hg0, _⟩ | ⟨ho, cs, hh, hs, hr⟩ | ⟨hw, hg2, hb, hr⟩
  · omega
  · refine .inr (.inr ⟨rfl, hg1, by rw [e1]; exact (Array.getElem?_eq_some_iff.1 hh).1, fun i hi => ?_⟩)
    have hi : i < n.toNat := hi
    obtain ⟨k1, k2⟩ := hr (s.toNat + i) (by show s.toNat + i < N.toNat; omega)
    have k1 : (s.toNat + i + 1) * sz ≤ cs.size := k1
    have e4 : (s.toNat + i + 1) * sz = (s.toNat + i) * sz + sz := by rw [Nat.add_mul, Nat.one_mul]
    have hl : cs.toList.length = cs.size := rfl
    refine ⟨(cs.toList.drop ((s.toNat + i) * sz)).take sz, by rw [List.length_take, List.length_drop, hl]; show min sz _ = sz; omega, fun j v hv => ?_, fun e he => ?_⟩
    · have hj : j < sz := by
        have := (List.getElem?_eq_some_iff.1 hv).1
        rw [List.length_take] at this
        omega
      rw [List.getElem?_take, if_pos hj, List.getElem?_drop] at hv
      rw [e1, e2, ho]
      show w.cell? ⟨ρ.β id, 0 + s.toNat * sz + (i * sz + j), none⟩ = some v
      simp only [World.cell?, hh]
      rw [← hv, show 0 + s.toNat * sz + (i * sz + j) = (s.toNat + i) * sz + j by rw [Nat.add_mul]; omega, ← Array.getElem?_toList]
      rfl
    · refine hg e _ (by omega) (by omega) ?_
      exact k2 _ (by show s + e.den = ((s.toNat + i : Nat) : Int); omega)
  · refine .inr (.inr ⟨rfl, hg1, by rw [e1]; exact hb, fun i hi => ?_⟩)
    have hi : i < n.toNat := hi
    obtain ⟨vs, k1, k2, k3⟩ := hr (s.toNat + i) (by show s.toNat + i < N.toNat; omega)
    refine ⟨vs, k1, fun j v hv => ?_, fun e he => ?_⟩
    · have := k2 j v hv
      rw [e1, e2, show ρ.o id + s.toNat * sz + (i * sz + j) = ρ.o id + ((s.toNat + i) * sz + j) by rw [Nat.add_mul]; omega]
      exact this
    · refine hg e _ (by omega) (by omega) ?_
      exact k3 _ (by show s + e.den = ((s.toNat + i : Nat) : Int); omega)
theorem blkOf_all {l : List (Option Blk)} {i : Nat} {b : Blk} (h : blkOf l i = some b) : i < l.length := by
  unfold blkOf at h
  by_cases hi : i < l.length
  · exact hi
  · rw [List.getElem?_eq_none (by omega)] at h
    cases h
/-- A call that is known to only read. -/
theorem RunsTo.pure {P : Program} {f : FuncId} {args args' : List AV} {mem mem' m' : List (Option Blk)} {r : AV} (h : RunsTo P f args' mem' r m')
    (hr : ∀ (ρ ρ' : Rho) v, VR ρ r v → VR ρ' r v) (hro : ∀ i b, blkOf mem' i = some b → b.wr = false)
    (hv : ∀ (w : World) (ρ : Rho) (vs : List Value), (∀ id b, blkOf mem id = some b → ρ.al id ∧ MR ρ w id b) → VRs ρ args vs → ∃ ρ1 : Rho, (∀ id b, blkOf mem' id = some b → ρ1.al id ∧ MR ρ1 w id b) ∧ (∀ id, ρ1.al id → id < mem'.length) ∧ VRs ρ1 args' vs) :
    RunsTo P f args mem r mem := by
  intro w F ρ vs hm hf hvs
  obtain ⟨ρ1, a1, a2, a3⟩ := hv w ρ vs hm.blk hvs
  obtain ⟨h1, h2⟩ := h w (fun _ => False) ρ1 vs ⟨a1, (fun i j b c hb hc _ _ _ hw => by
      exfalso
      rcases hw with hw | hw
      · have e := hro i b hb
        rw [hw] at e; cases e
      · have e := hro j c hc
        rw [hw] at e; cases e), (fun i b hb hw _ => by
      exfalso
      have e := hro i b hb
      rw [hw] at e; cases e), FrameW.refl _ _⟩ a2 a3
  refine ⟨h1, h2.mono ?_⟩
  rintro e w' ⟨r', m'', ρ', v, rfl, ⟨rfl, rfl⟩, hrv, hM, _⟩
  have hfr := hM.fr
  refine ⟨_, _, ρ, v, rfl, ⟨rfl, rfl⟩, hr _ _ _ hrv, ⟨fun id b hb => ⟨(hm.blk id b hb).1, (hm.blk id b hb).2.keep hfr⟩, hm.inj, hm.own, ⟨hfr.os, hfr.tape, hfr.output, hfr.size, fun k hk _ => hfr.block k hk (fun x => x), hfr.drawn⟩⟩, hf, Nat.le_refl _, fun id _ h => ⟨h, rfl, rfl, rfl⟩, fun id b hb => by unfold wrOf; rw [hb]⟩
/-- The first argument is a part of a list. -/
theorem view1 {w : World} {ρ : Rho} {ty : TypeId} {sz : Nat} {wr : Bool} {N n s hi : Int} {g g' : E → List AV} {X : List AV} {vs : List Value}
    (hb : ∀ id b, blkOf [some (⟨ty, sz, wr, .sym (.v fun _ => N) g⟩ : Blk)] id = some b → ρ.al id ∧ MR ρ w id b) (hv : VRs ρ (.sl 0 sz (.v fun _ => s) (.v fun _ => n) hi :: X) vs) (hN : s + n ≤ N)
    (hx : ∀ (ρ ρ' : Rho) vs, VRs ρ X vs → VRs ρ' X vs) (hg : ∀ (ρ ρ' : Rho) (e : E) vs, 0 ≤ e.den → e.den < n → VRs ρ (g (.v fun _ => s + e.den)) vs → VRs ρ' (g' e) vs) :
    ∃ ρ1 : Rho, (∀ id b, blkOf [some (⟨ty, sz, false, .sym (.v fun _ => n) g'⟩ : Blk)] id = some b → ρ1.al id ∧ MR ρ1 w id b) ∧ (∀ id, ρ1.al id → id < 1) ∧ VRs ρ1 (.sl 0 sz (.lit 0) (.v fun _ => n) hi :: X) vs := by
  obtain ⟨v0, ws, rfl, ⟨hal, hs0, hn0, hnh, a, c, rfl, hnc, hcm, hsl⟩, hX⟩ := hv
  have hs0 : 0 ≤ s := hs0
  have hnc : n.toNat ≤ c := hnc
  have hcs : c = 0 ∨ (s.toNat + c) * sz ≤ ρ.γ 0 := by
    cases a with
    | none => exact .inl hsl
    | some x => exact hsl.imp id fun h => h.2
  refine ⟨⟨ρ.β, fun _ => c * sz, fun i => i = 0, fun i => ρ.o i + s.toNat * sz⟩, fun id b hb' => ?_, fun id h => by have h : id = 0 := h; omega, ⟨_, ws, rfl, ⟨rfl, Int.le_refl _, hn0, hnh, a, c, rfl, hnc, hcm, ?_⟩, hx _ _ _ hX⟩⟩
  · cases id with
    | zero =>
      have e : b = ⟨ty, sz, false, .sym (.v fun _ => n) g'⟩ := by simpa [blkOf] using hb'.symm
      subst e
      exact ⟨rfl, MR.shift (hb 0 _ rfl).2 hs0 hN hnc hcs rfl rfl rfl fun e vs h1 h2 h3 => hg _ _ e vs h1 h2 h3⟩
    | succ i => simp [blkOf] at hb'
  · cases a with
    | none => exact hsl
    | some x =>
      refine hsl.imp id fun h => ⟨?_, ?_⟩
      · rw [h.1]
        show (⟨ρ.β 0, ρ.o 0 + s.toNat * sz, none⟩ : Addr) = ⟨ρ.β 0, ρ.o 0 + s.toNat * sz + 0 * sz, none⟩
        rw [Nat.zero_mul, Nat.add_zero]
      · show (0 + c) * sz ≤ c * sz
        rw [Nat.zero_add]; exact Nat.le_refl _
/-- A call on a part of a list, that is known to only read. -/
theorem RunsTo.part {P : Program} {f : FuncId} {ty : TypeId} {sz : Nat} {wr : Bool} {N n s hi : Int} {g g' : E → List AV} {X : List AV} {m' : List (Option Blk)} {r : AV}
    (h : RunsTo P f (.sl 0 sz (.lit 0) (.v fun _ => n) hi :: X) [some ⟨ty, sz, false, .sym (.v fun _ => n) g'⟩] r m')
    (hr : ∀ (ρ ρ' : Rho) v, VR ρ r v → VR ρ' r v) (hx : ∀ (ρ ρ' : Rho) vs, VRs ρ X vs → VRs ρ' X vs) (hN : s + n ≤ N)
    (hg : ∀ (ρ ρ' : Rho) (e : E) vs, 0 ≤ e.den → e.den < n → VRs ρ (g (.v fun _ => s + e.den)) vs → VRs ρ' (g' e) vs) :
    RunsTo P f (.sl 0 sz (.v fun _ => s) (.v fun _ => n) hi :: X) [some ⟨ty, sz, wr, .sym (.v fun _ => N) g⟩] r [some ⟨ty, sz, wr, .sym (.v fun _ => N) g⟩] :=
  RunsTo.pure h hr (fun i b hb => by
    cases i with
    | zero =>
      have e : b = ⟨ty, sz, false, .sym (.v fun _ => n) g'⟩ := by simpa [blkOf] using hb.symm
      rw [e]
    | succ i => simp [blkOf] at hb) fun w ρ vs hb hv => view1 hb hv hN hx hg
end Go.Sym
