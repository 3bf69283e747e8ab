/- Arrangement, as the reckoner sees it. -/
import Derived.Test.YtbldachljmhfjaaAw
set_option linter.unusedSimpArgs false
set_option linter.unusedVariables false
namespace Go.Proofs.Ytbldachljmhfjaa
open Go.RowKit Go.Maps Go.WideMaps
theorem arr_bad (A : Option Addr) (n c : Nat) (w : World)
    (HG : Calls Try.prog 27 #[.slice A n c] w fun e w' => e = .returned (.bool false) ∧ Kd w w') :
    Calls Try.prog 11 #[.slice A n c] w fun e w' => e = .returned (.tuple #[.int .i64 (-1), .int .i64 (-1), .int .i64 (-1)]) ∧ Kd w w' := by
  go_enter Try.func11, Try.ntmps11
  go_wp2_with fail
  refine HG.mono ?_
  rintro e w1 ⟨rfl, hk1⟩
  go_wp2_with fail
  exact bodyPost_ret (v := .tuple #[.int .i64 (-1), .int .i64 (-1), .int .i64 (-1)]) (by simp [results, Try.results11, go_sem]) rfl ⟨rfl, hk1⟩
/-- The graphs of a list. -/
def gL (X Y : Int → Int) (n : Int) : List Pt := (List.range n.toNat).map fun (i : Nat) => (X i, Y i)
theorem gL_at (X Y : Int → Int) (n : Int) {j : Nat} {p : Pt} (h : (gL X Y n)[j]? = some p) : j < n.toNat ∧ p = (X j, Y j) := by
  unfold gL at h
  rw [List.getElem?_map] at h
  by_cases hj : j < n.toNat
  · rw [List.getElem?_range hj] at h
    exact ⟨hj, (Option.some.inj h).symm⟩
  · rw [List.getElem?_eq_none (by simp; omega)] at h
    cases h
noncomputable def arV (X Y : Int → Int) (n : Int) : Int := if gok X Y n = true then cntOf (keysAll (gL X Y n) (gL X Y n)) else -1
noncomputable def arE (X Y : Int → Int) (n : Int) : Int := if gok X Y n = true then partsOf (gL X Y n) (gL X Y n) else -1
noncomputable def arF (X Y : Int → Int) (n : Int) : Int := if gok X Y n = true then partsOf (gL X Y n) (gL X Y n) - cntOf (keysAll (gL X Y n) (gL X Y n)) + 1 else -1
abbrev grB (X Y : Int → Int) (n : Int) : Go.Sym.Blk := ⟨35, 2, false, .sym (.v fun _ => n) fun e => [.int .i64 (.v fun _ => X e.den) (-9223372036854775808) 9223372036854775807, .int .i64 (.v fun _ => Y e.den) (-9223372036854775808) 9223372036854775807]⟩
theorem pts_of {ρ : Go.Sym.Rho} {w : World} {X Y : Int → Int} {n : Int} {a : Option Addr} {c : Nat} (hM : Go.Sym.MR ρ w 0 (grB X Y n)) (hnc : n.toNat ≤ c) (hs : Go.Sym.SlAt ρ 0 2 0 c a) : Pts w a (gL X Y n) := by
  intro j p hj0
  obtain ⟨hj, rfl⟩ := gL_at X Y n hj0
  have ha : ∃ x, a = some x := by
    cases a with
    | none => have : c = 0 := hs; omega
    | some x => exact ⟨x, rfl⟩
  obtain ⟨x, rfl⟩ := ha
  rcases hs with hs | ⟨hs, hs2⟩
  · omega
  have hs2 : (0 + c) * 2 ≤ ρ.γ 0 := hs2
  subst hs
  obtain ⟨_, hM⟩ := hM
  rcases hM with ⟨h1, h2⟩ | ⟨ho, cs, hh, hsz, hrow⟩ | ⟨_, _, hb, hrow⟩
  · have h2 : n.toNat = 0 := h2
    omega
  · obtain ⟨h1, h2⟩ := hrow j hj
    have h1 : (j + 1) * 2 ≤ cs.size := h1
    obtain ⟨u0, us, hu, ⟨rfl, _⟩, u1, us1, rfl, ⟨rfl, _⟩, e⟩ := h2 (.lit (j : Int)) rfl
    have e : us1 = [] := e
    subst e
    have hu : (cs.toList.drop (j * 2)).take 2 = [.int .i64 (X j), .int .i64 (Y j)] := hu
    have hl : cs.toList.length = cs.size := rfl
    have a0 := congrArg (fun l : List Value => l[0]?) hu
    have a1 := congrArg (fun l : List Value => l[1]?) hu
    simp only [List.getElem?_take, List.getElem?_drop, List.getElem?_cons_zero, List.getElem?_cons_succ] at a0 a1
    rw [if_pos (by decide)] at a0 a1
    refine ⟨ρ.β 0, ρ.o 0 + 0 * 2, rfl, (Array.getElem?_eq_some_iff.1 hh).1, ?_, ?_⟩
    · rw [ho]
      simp only [World.cell?, hh]
      rw [show 0 + 0 * 2 + j * 2 = j * 2 + 0 by omega, ← Array.getElem?_toList, a0]
      rfl
    · rw [ho]
      simp only [World.cell?, hh]
      rw [show 0 + 0 * 2 + j * 2 + 1 = j * 2 + 1 by omega, ← Array.getElem?_toList, a1]
      rfl
  · obtain ⟨vs, h1, h2, h3⟩ := hrow j hj
    obtain ⟨u0, us, rfl, ⟨rfl, _⟩, u1, us1, rfl, ⟨rfl, _⟩, e⟩ := h3 (.lit (j : Int)) rfl
    refine ⟨ρ.β 0, ρ.o 0 + 0 * 2, rfl, hb, ?_, ?_⟩
    · have := h2 0 _ rfl
      rw [show ρ.o 0 + 0 * 2 + j * 2 = ρ.o 0 + (j * 2 + 0) by omega]
      exact this
    · have := h2 1 _ rfl
      rw [show ρ.o 0 + 0 * 2 + j * 2 + 1 = ρ.o 0 + (j * 2 + 1) by omega]
      exact this
theorem Kd.fw {w w' : World} (h : Kd w w') (F : Nat → Prop) : Go.Sym.FrameW w F w' := ⟨h.gr.os, h.gr.tape, h.gr.output, h.gr.size, fun k hk _ => h.gr.block k hk (by simp), h.dr⟩
theorem arr_runs (X Y : Int → Int) (n : Int) : Go.Sym.RunsTo Try.prog 11 [.sl 0 2 (.lit 0) (.v fun _ => n) 1048576] [some (grB X Y n)]
    (.tup [.int .i64 (.v fun _ => arV X Y n) (-1) 64, .int .i64 (.v fun _ => arE X Y n) (-1) 72, .int .i64 (.v fun _ => arF X Y n) (-100) 100]) [some (grB X Y n)] := by
  intro w F ρ vs hm hf hv
  refine ⟨Try.call11 _ _, ?_⟩
  obtain ⟨hal, hM⟩ := hm.blk 0 _ rfl
  have hblk : ∀ i b, Go.Sym.blkOf [some (grB X Y n)] i = some b → i = 0 ∧ b = grB X Y n := by
    intro i b hb
    cases i with
    | zero => simp [Go.Sym.blkOf] at hb; exact ⟨rfl, hb.symm⟩
    | succ i => simp [Go.Sym.blkOf] at hb
  have hE : Go.Sym.MRel w (fun _ => False) ρ [some (grB X Y n)] w := by
    refine ⟨fun i b hb => ?_, fun i j b c hb hc hne _ _ _ => ?_, fun i b hb hw _ => ?_, Go.Sym.FrameW.refl _ _⟩
    · obtain ⟨rfl, rfl⟩ := hblk i b hb; exact ⟨hal, hM⟩
    · exact absurd ((hblk i b hb).1.trans (hblk j c hc).1.symm) hne
    · obtain ⟨rfl, rfl⟩ := hblk i b hb; exact absurd hw (by simp)
  obtain ⟨_, hG⟩ := i_graphsOk_q X Y n w (fun _ => False) ρ vs hE hf hv
  have hG2 : Calls Try.prog 27 vs.toArray w fun e w' => e = .returned (.bool (gok X Y n)) ∧ Kd w w' := by
    refine hG.mono ?_
    rintro e w' ⟨r, m', ρ', v, rfl, ⟨rfl, rfl⟩, hrv, hMM, _⟩
    have hrv : v = .bool (gok X Y n) := hrv
    subst hrv
    exact ⟨rfl, Kd.fr hMM.fr⟩
  clear hG
  obtain ⟨v0, ws, rfl, ⟨_, _, hn0, hnN, a, c, rfl, hnc, hcm, hs⟩, e2⟩ := hv
  have e2 : ws = [] := e2
  subst e2
  have hn0 : 0 ≤ n := hn0
  have hnc : n.toNat ≤ c := hnc
  have hP := pts_of hM hnc hs
  have hlen : (gL X Y n).length = n.toNat := by simp [gL]
  have tail : ∀ (vV vE vF : Int) w', Kd w w' → vV = arV X Y n → vE = arE X Y n → vF = arF X Y n → (-1 ≤ vV ∧ vV ≤ 64) → (-1 ≤ vE ∧ vE ≤ 72) → (-100 ≤ vF ∧ vF ≤ 100) →
      ∃ r m' ρ' v, Ending.returned (Value.tuple #[.int .i64 vV, .int .i64 vE, .int .i64 vF]) = Ending.returned v ∧ (r = (.tup [.int .i64 (.v fun _ => arV X Y n) (-1) 64, .int .i64 (.v fun _ => arE X Y n) (-1) 72, .int .i64 (.v fun _ => arF X Y n) (-100) 100] : Go.Sym.AV) ∧ m' = [some (grB X Y n)]) ∧ Go.Sym.VR ρ' r v ∧ Go.Sym.MRel w F ρ' m' w' ∧ (∀ id, ρ'.al id → id < m'.length) ∧ [some (grB X Y n)].length ≤ m'.length ∧
        (∀ id, id < [some (grB X Y n)].length → ρ.al id → ρ'.al id ∧ ρ'.β id = ρ.β id ∧ ρ'.γ id = ρ.γ id ∧ ρ'.o id = ρ.o id) ∧ (∀ id b, Go.Sym.blkOf m' id = some b → b.wr = Go.Sym.wrOf [some (grB X Y n)] id) := by
    rintro vV vE vF w' hk rfl rfl rfl b1 b2 b3
    refine ⟨_, _, ρ, _, rfl, ⟨rfl, rfl⟩, ⟨[_, _, _], rfl, _, _, rfl, ⟨rfl, b1⟩, _, _, rfl, ⟨rfl, b2⟩, _, _, rfl, ⟨rfl, b3⟩, rfl⟩, ⟨fun i b hb => ⟨(hm.blk i b hb).1, (hm.blk i b hb).2.keep (hk.fw _)⟩, hm.inj, hm.own, hk.fw F⟩, hf, Nat.le_refl _, fun id _ h => ⟨h, rfl, rfl, rfl⟩, fun id b hb => ?_⟩
    unfold Go.Sym.wrOf
    rw [hb]
  cases hg : gok X Y n with
  | false =>
    rw [hg] at hG2
    refine (arr_bad a n.toNat c w hG2).mono ?_
    rintro e w' ⟨rfl, hk⟩
    exact tail _ _ _ w' hk (by unfold arV; rw [if_neg (by rw [hg]; decide)]) (by unfold arE; rw [if_neg (by rw [hg]; decide)]) (by unfold arF; rw [if_neg (by rw [hg]; decide)]) (by decide) (by decide) (by decide)
  | true =>
    rw [hg] at hG2
    obtain ⟨hok, hn8⟩ := gok_iff.1 hg
    have h := arr_any a (gL X Y n) c w (by omega) (fun p hp => by
      obtain ⟨j, hj⟩ := List.mem_iff_getElem?.1 hp
      obtain ⟨hj, rfl⟩ := gL_at X Y n hj
      have := okP_iff.1 (hok j (by omega) (by omega)).1
      exact ⟨⟨by omega, by omega⟩, by omega, by omega⟩) hP (by rw [hlen]; exact hG2)
    rw [hlen] at h
    refine h.mono ?_
    rintro e w' ⟨rfl, hk, q1, q2, q3⟩
    exact tail _ _ _ w' hk (by unfold arV; rw [if_pos hg]) (by unfold arE; rw [if_pos hg]) (by unfold arF; rw [if_pos hg]) (by omega) (by omega) (by omega)
end Go.Proofs.Ytbldachljmhfjaa
