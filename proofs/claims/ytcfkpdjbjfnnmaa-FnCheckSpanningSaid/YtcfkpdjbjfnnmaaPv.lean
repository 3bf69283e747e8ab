/- A call that only reads, of two lists: the second is a part of what the caller knows. -/
import Derived.Test.YtcfkpdjbjfnnmaaPu
set_option linter.unusedSimpArgs false
set_option linter.unusedVariables false
namespace Go.Sym
theorem view2 {w : World} {ρ : Rho} {ty0 ty : TypeId} {sz0 sz : Nat} {wr0 wr : Bool} {M N n m s hi0 hi : Int} {g0 g0' g g' : E → List AV} {vs : List Value}
    (hb : ∀ id b, blkOf [some (⟨ty0, sz0, wr0, .sym (.v fun _ => M) g0⟩ : Blk), some (⟨ty, sz, wr, .sym (.v fun _ => N) g⟩ : Blk)] id = some b → ρ.al id ∧ MR ρ w id b)
    (hv : VRs ρ [.sl 0 sz0 (.lit 0) (.v fun _ => n) hi0, .sl 1 sz (.v fun _ => s) (.v fun _ => m) hi] vs) (hM : n ≤ M) (hN : s + m ≤ N)
    (hg0 : ∀ (ρ ρ' : Rho) (e : E) vs, 0 ≤ e.den → e.den < n → VRs ρ (g0 (.v fun _ => 0 + e.den)) vs → VRs ρ' (g0' e) vs)
    (hg : ∀ (ρ ρ' : Rho) (e : E) vs, 0 ≤ e.den → e.den < m → VRs ρ (g (.v fun _ => s + e.den)) vs → VRs ρ' (g' e) vs) :
    ∃ ρ1 : Rho, (∀ id b, blkOf [some (⟨ty0, sz0, false, .sym (.v fun _ => n) g0'⟩ : Blk), some (⟨ty, sz, false, .sym (.v fun _ => m) g'⟩ : Blk)] id = some b → ρ1.al id ∧ MR ρ1 w id b) ∧ (∀ id, ρ1.al id → id < 2) ∧
      VRs ρ1 [.sl 0 sz0 (.lit 0) (.v fun _ => n) hi0, .sl 1 sz (.lit 0) (.v fun _ => m) hi] vs := by
  obtain ⟨v0, ws, rfl, ⟨hal0, _, hn0, hnh0, a0, c0, rfl, hnc0, hcm0, hsl0⟩, v1, ws1, rfl, ⟨hal, hs0, hm0, hmh, a, c, rfl, hmc, hcm, hsl⟩, hX⟩ := hv
  have hX : ws1 = [] := hX
  subst hX
  have hs0 : 0 ≤ s := hs0
  have hnc0 : n.toNat ≤ c0 := hnc0
  have hmc : m.toNat ≤ c := hmc
  have z0 : (E.lit 0).den.toNat = 0 := rfl
  rw [z0] at hsl0
  have hcs0 : c0 = 0 ∨ ((0 : Int).toNat + c0) * sz0 ≤ ρ.γ 0 := by
    cases a0 with
    | none => exact .inl hsl0
    | some x => exact hsl0.imp id fun h => h.2
  have hcs : c = 0 ∨ (s.toNat + c) * sz ≤ ρ.γ 1 := by
    cases a with
    | none => exact .inl hsl
    | some x => exact hsl.imp id fun h => h.2
  let ρ1 : Rho := ⟨ρ.β, fun i => if i = 0 then c0 * sz0 else c * sz, fun i => i < 2, fun i => if i = 0 then ρ.o 0 + (0 : Int).toNat * sz0 else ρ.o i + s.toNat * sz⟩
  refine ⟨ρ1, fun id b hb' => ?_, fun id h => h, ⟨_, _, rfl, ⟨Nat.zero_lt_succ _, Int.le_refl _, hn0, hnh0, a0, c0, rfl, hnc0, hcm0, ?_⟩, _, [], rfl, ⟨Nat.lt_succ_self 1, Int.le_refl _, hm0, hmh, a, c, rfl, hmc, hcm, ?_⟩, rfl⟩⟩
  · match id with
    | 0 =>
      have e : b = ⟨ty0, sz0, false, .sym (.v fun _ => n) g0'⟩ := by simpa [blkOf] using hb'.symm
      subst e
      exact ⟨Nat.zero_lt_succ _, MR.shift (ρ1 := ρ1) (hb 0 _ rfl).2 (Int.le_refl 0) (by omega) hnc0 hcs0 rfl rfl rfl fun e vs h1 h2 h3 => hg0 _ _ e vs h1 h2 h3⟩
    | 1 =>
      have e : b = ⟨ty, sz, false, .sym (.v fun _ => m) g'⟩ := by simpa [blkOf] using hb'.symm
      subst e
      exact ⟨Nat.lt_succ_self 1, MR.shift (ρ1 := ρ1) (hb 1 _ rfl).2 hs0 hN hmc hcs rfl rfl rfl fun e vs h1 h2 h3 => hg _ _ e vs h1 h2 h3⟩
    | i + 2 => simp [blkOf] at hb'
  · cases a0 with
    | none => exact hsl0
    | some x =>
      refine hsl0.imp id fun h => ⟨?_, ?_⟩
      · rw [h.1]
        show (⟨ρ.β 0, ρ.o 0 + 0 * sz0, none⟩ : Addr) = ⟨ρ.β 0, ρ.o 0 + (0 : Int).toNat * sz0 + 0 * sz0, none⟩
        simp
      · show (0 + c0) * sz0 ≤ c0 * sz0
        rw [Nat.zero_add]; exact Nat.le_refl _
  · cases a with
    | none => exact hsl
    | some x =>
      refine hsl.imp id fun h => ⟨?_, ?_⟩
      · rw [h.1]
        show (⟨ρ.β 1, ρ.o 1 + s.toNat * sz, none⟩ : Addr) = ⟨ρ.β 1, ρ.o 1 + s.toNat * sz + 0 * sz, none⟩
        rw [Nat.zero_mul, Nat.add_zero]
      · show (0 + c) * sz ≤ c * sz
        rw [Nat.zero_add]; exact Nat.le_refl _
theorem RunsTo.part2 {P : Program} {f : FuncId} {ty0 ty : TypeId} {sz0 sz : Nat} {wr0 wr : Bool} {M N n m s hi0 hi : Int} {g0 g0' g g' : E → List AV} {m' : List (Option Blk)} {r : AV}
    (h : RunsTo P f [.sl 0 sz0 (.lit 0) (.v fun _ => n) hi0, .sl 1 sz (.lit 0) (.v fun _ => m) hi] [some ⟨ty0, sz0, false, .sym (.v fun _ => n) g0'⟩, some ⟨ty, sz, false, .sym (.v fun _ => m) g'⟩] r m')
    (hr : ∀ (ρ ρ' : Rho) v, VR ρ r v → VR ρ' r v) (hM : n ≤ M) (hN : s + m ≤ N)
    (hg0 : ∀ (ρ ρ' : Rho) (e : E) vs, 0 ≤ e.den → e.den < n → VRs ρ (g0 (.v fun _ => 0 + e.den)) vs → VRs ρ' (g0' e) vs)
    (hg : ∀ (ρ ρ' : Rho) (e : E) vs, 0 ≤ e.den → e.den < m → VRs ρ (g (.v fun _ => s + e.den)) vs → VRs ρ' (g' e) vs) :
    RunsTo P f [.sl 0 sz0 (.lit 0) (.v fun _ => n) hi0, .sl 1 sz (.v fun _ => s) (.v fun _ => m) hi] [some ⟨ty0, sz0, wr0, .sym (.v fun _ => M) g0⟩, some ⟨ty, sz, wr, .sym (.v fun _ => N) g⟩] r [some ⟨ty0, sz0, wr0, .sym (.v fun _ => M) g0⟩, some ⟨ty, sz, wr, .sym (.v fun _ => N) g⟩] :=
  RunsTo.pure h hr (fun i b hb => by
    match i with
    | 0 =>
      have e : b = ⟨ty0, sz0, false, .sym (.v fun _ => n) g0'⟩ := by simpa [blkOf] using hb.symm
      rw [e]
    | 1 =>
      have e : b = ⟨ty, sz, false, .sym (.v fun _ => m) g'⟩ := by simpa [blkOf] using hb.symm
      rw [e]
    | i + 2 => simp [blkOf] at hb) fun w ρ vs hb hv => view2 hb hv hM hN hg0 hg
end Go.Sym
