/- FnCompareToSegment: the walk. -/
import Derived.Test.YtheehhfmdmflmaaK14
import Derived.Test.YtheehhfmdmflmaaK3
set_option linter.unusedSimpArgs false
set_option linter.unusedVariables false
set_option maxRecDepth 100000
namespace Go.Proofs.Ytheehhfmdmflmaa
open Go.Sym
def sd1 (aX aY bX bY pX pY : Int) : Int := (bX - aX) * (pX - aX) + (bY - aY) * (pY - aY)
def sd2 (aX aY bX bY pX pY : Int) : Int := (bX - aX) * (pX - bX) + (bY - aY) * (pY - bY)
def sqd (aX aY bX bY : Int) : Int := if okP aX aY && okP bX bY then dst aX aY bX bY else -1
def awN (aX aY bX bY pX pY : Int) : Int := if sd1 aX aY bX bY pX pY ≤ 0 then dst aX aY pX pY else if 0 ≤ sd2 aX aY bX bY pX pY then dst bX bY pX pY else trn aX aY bX bY pX pY * trn aX aY bX bY pX pY
def awD (aX aY bX bY pX pY : Int) : Int := if sd1 aX aY bX bY pX pY ≤ 0 then 1 else if 0 ≤ sd2 aX aY bX bY pX pY then 1 else dst aX aY bX bY
theorem aw1 {aX aY bX bY pX pY : Int} (h : sd1 aX aY bX bY pX pY ≤ 0) : awN aX aY bX bY pX pY = dst aX aY pX pY ∧ awD aX aY bX bY pX pY = 1 := by unfold awN awD; rw [if_pos h, if_pos h]; exact ⟨rfl, rfl⟩
theorem aw2 {aX aY bX bY pX pY : Int} (h : ¬ sd1 aX aY bX bY pX pY ≤ 0) (h2 : 0 ≤ sd2 aX aY bX bY pX pY) : awN aX aY bX bY pX pY = dst bX bY pX pY ∧ awD aX aY bX bY pX pY = 1 := by unfold awN awD; rw [if_neg h, if_neg h, if_pos h2, if_pos h2]; exact ⟨rfl, rfl⟩
theorem aw3 {aX aY bX bY pX pY : Int} (h : ¬ sd1 aX aY bX bY pX pY ≤ 0) (h2 : ¬ 0 ≤ sd2 aX aY bX bY pX pY) : awN aX aY bX bY pX pY = trn aX aY bX bY pX pY * trn aX aY bX bY pX pY ∧ awD aX aY bX bY pX pY = dst aX aY bX bY := by unfold awN awD; rw [if_neg h, if_neg h, if_neg h2, if_neg h2]; exact ⟨rfl, rfl⟩
def ctsOK (aX aY bX bY pX pY n : Int) : Bool := okS aX aY bX bY && (okP pX pY && (decide (0 ≤ n) && decide (n ≤ 8000000)))
def cts (aX aY bX bY pX pY n : Int) : Int := if ctsOK aX aY bX bY pX pY n = true then sgn (awN aX aY bX bY pX pY - n * awD aX aY bX bY pX pY) else 2
theorem cts_no {aX aY bX bY pX pY n : Int} (h : okS aX aY bX bY = false ∨ okP pX pY = false ∨ (decide (0 ≤ n) && decide (n ≤ 8000000)) = false) : cts aX aY bX bY pX pY n = 2 := by
  have : ctsOK aX aY bX bY pX pY n = false := by
    unfold ctsOK
    rcases h with h | h | h <;> rw [h] <;> simp
  unfold cts; rw [this]; rfl
theorem cts_yes {aX aY bX bY pX pY n : Int} (h1 : okS aX aY bX bY = true) (h2 : okP pX pY = true) (h3 : (decide (0 ≤ n) && decide (n ≤ 8000000)) = true) : cts aX aY bX bY pX pY n = sgn (awN aX aY bX bY pX pY - n * awD aX aY bX bY pX pY) := by
  have : ctsOK aX aY bX bY pX pY n = true := by unfold ctsOK; rw [h1, h2, h3]; rfl
  unfold cts; rw [this]; rfl
theorem sgn_bd9 (n : Int) : -1 ≤ sgn n ∧ sgn n ≤ 1 := by unfold sgn; split <;> (try split) <;> omega
theorem cmp_sgn (x y : Int) : (if x < y then -1 else if x > y then 1 else 0) = sgn (x - y) := by unfold sgn; split <;> (try split) <;> (try split) <;> (try split) <;> omega
theorem sd2_neg (aX aY bX bY pX pY : Int) : (aX - bX) * (pX - bX) + (aY - bY) * (pY - bY) = 0 - sd2 aX aY bX bY pX pY := by unfold sd2; grind
theorem dst_comm (aX aY bX bY : Int) : dst aX aY bX bY = dst bX bY aX aY := by unfold dst; grind
theorem sq_nn' (x : Int) : 0 ≤ x * x := by
  rcases Int.le_total 0 x with h | h
  · exact Int.mul_nonneg h h
  · have := Int.mul_nonneg (show 0 ≤ -x by omega) (show 0 ≤ -x by omega); rwa [Int.neg_mul_neg] at this
theorem sq2_nn (aX aY bX bY : Int) : 0 ≤ dst aX aY bX bY := by
  have := sq_nn' (bX - aX)
  have := sq_nn' (bY - aY)
  unfold dst; omega
theorem sq_z {x : Int} (h : x * x = 0) : x = 0 := by
  rcases Int.mul_eq_zero.1 h with h | h <;> exact h
theorem sq2_zero {aX aY bX bY : Int} (h : dst aX aY bX bY ≤ 0) : aX = bX ∧ aY = bY := by
  have h1 := sq_nn' (bX - aX)
  have h2 := sq_nn' (bY - aY)
  unfold dst at h
  have e1 := sq_z (x := bX - aX) (by omega)
  have e2 := sq_z (x := bY - aY) (by omega)
  omega
theorem sq2_bd {aX aY bX bY M : Int} (hM : 0 ≤ M) (h1 : -M ≤ bX - aX ∧ bX - aX ≤ M) (h2 : -M ≤ bY - aY ∧ bY - aY ≤ M) : dst aX aY bX bY ≤ M * M + M * M := by
  have a := mul_bd (bX - aX) (bX - aX) M M h1.1 h1.2 h1.1 h1.2
  have b := mul_bd (bY - aY) (bY - aY) M M h2.1 h2.2 h2.1 h2.2
  unfold dst; omega
/-- The three laws of the distance from a segment. -/
theorem aw_le (aX aY bX bY pX pY : Int) : awN aX aY bX bY pX pY ≤ dst aX aY pX pY * awD aX aY bX bY pX pY ∧ awN aX aY bX bY pX pY ≤ dst bX bY pX pY * awD aX aY bX bY pX pY := by
  have e1 : dst aX aY pX pY = dst bX bY pX pY + 2 * sd2 aX aY bX bY pX pY + dst aX aY bX bY := by unfold dst sd2; grind
  have e2 : dst bX bY pX pY = dst aX aY pX pY - 2 * sd1 aX aY bX bY pX pY + dst aX aY bX bY := by unfold dst sd1; grind
  have n := sq2_nn aX aY bX bY
  by_cases h1 : sd1 aX aY bX bY pX pY ≤ 0
  · rw [(aw1 h1).1, (aw1 h1).2]; omega
  · by_cases h2 : 0 ≤ sd2 aX aY bX bY pX pY
    · rw [(aw2 h1 h2).1, (aw2 h1 h2).2]; omega
    · rw [(aw3 h1 h2).1, (aw3 h1 h2).2]
      have l1 : dst aX aY pX pY * dst aX aY bX bY = sd1 aX aY bX bY pX pY * sd1 aX aY bX bY pX pY + trn aX aY bX bY pX pY * trn aX aY bX bY pX pY := by unfold dst sd1 trn; grind
      have l2 : dst bX bY pX pY * dst aX aY bX bY = sd2 aX aY bX bY pX pY * sd2 aX aY bX bY pX pY + trn aX aY bX bY pX pY * trn aX aY bX bY pX pY := by unfold dst sd2 trn; grind
      have m1 := sq_nn' (sd1 aX aY bX bY pX pY)
      have m2 := sq_nn' (sd2 aX aY bX bY pX pY)
      omega
theorem aw_zero (aX aY bX bY pX pY : Int) : awN aX aY bX bY pX pY = 0 ↔ onB aX aY bX bY pX pY = true := by
  have on : onB aX aY bX bY pX pY = true ↔ trn aX aY bX bY pX pY = 0 ∧ dotp aX aY bX bY pX pY ≤ 0 := by simp only [onB, Bool.and_eq_true, decide_eq_true_eq]
  rw [on]
  have d1 : dotp aX aY bX bY pX pY = dst aX aY pX pY - sd1 aX aY bX bY pX pY := by unfold dotp dst sd1; grind
  have d2 : dotp aX aY bX bY pX pY = dst bX bY pX pY + sd2 aX aY bX bY pX pY := by unfold dotp dst sd2; grind
  by_cases h1 : sd1 aX aY bX bY pX pY ≤ 0
  · rw [(aw1 h1).1]
    constructor
    · intro h
      obtain ⟨rfl, rfl⟩ := sq2_zero (show dst aX aY pX pY ≤ 0 by omega)
      refine ⟨by unfold trn; grind, by unfold dotp; simp⟩
    · rintro ⟨_, h⟩
      have := sq2_nn aX aY pX pY
      omega
  · by_cases h2 : 0 ≤ sd2 aX aY bX bY pX pY
    · rw [(aw2 h1 h2).1]
      constructor
      · intro h
        obtain ⟨rfl, rfl⟩ := sq2_zero (show dst bX bY pX pY ≤ 0 by omega)
        refine ⟨by unfold trn; grind, by unfold dotp; simp⟩
      · rintro ⟨_, h⟩
        have := sq2_nn bX bY pX pY
        omega
    · rw [(aw3 h1 h2).1]
      constructor
      · intro h
        have h0 := sq_z h
        refine ⟨h0, ?_⟩
        have k : dotp aX aY bX bY pX pY * dst aX aY bX bY = sd1 aX aY bX bY pX pY * sd2 aX aY bX bY pX pY + trn aX aY bX bY pX pY * trn aX aY bX bY pX pY := by unfold dotp dst sd1 sd2 trn; grind
        rw [h0] at k
        have neg := Int.mul_neg_of_pos_of_neg (show 0 < sd1 aX aY bX bY pX pY by omega) (show sd2 aX aY bX bY pX pY < 0 by omega)
        have nn := sq2_nn aX aY bX bY
        rcases (show 0 < dotp aX aY bX bY pX pY ∨ dotp aX aY bX bY pX pY ≤ 0 by omega) with hd | hd
        · have := Int.mul_nonneg (Int.le_of_lt hd) nn; omega
        · exact hd
      · rintro ⟨h, _⟩; rw [h]; rfl
theorem awD_pos {aX aY bX bY pX pY : Int} (h : okS aX aY bX bY = true) : 1 ≤ awD aX aY bX bY pX pY := by
  by_cases h1 : sd1 aX aY bX bY pX pY ≤ 0
  · rw [(aw1 h1).2]; omega
  · by_cases h2 : 0 ≤ sd2 aX aY bX bY pX pY
    · rw [(aw2 h1 h2).2]; omega
    · rw [(aw3 h1 h2).2]
      have nn := sq2_nn aX aY bX bY
      rcases (show 0 < dst aX aY bX bY ∨ dst aX aY bX bY ≤ 0 by omega) with hd | hd
      · omega
      · have e := sq2_zero hd
        simp only [okS, Bool.and_eq_true, Bool.not_eq_true', Bool.and_eq_false_iff, decide_eq_false_iff_not] at h
        omega
theorem sgn_le {x y : Int} (h : x ≤ y) : sgn x ≤ sgn y := by unfold sgn; split <;> split <;> (try split) <;> (try split) <;> omega
theorem cts_law {aX aY bX bY pX pY n : Int} (h : cts aX aY bX bY pX pY n ≠ 2) : cts aX aY bX bY pX pY (sqd aX aY pX pY) ≤ 0 ∧ cts aX aY bX bY pX pY (sqd bX bY pX pY) ≤ 0 ∧ (cts aX aY bX bY pX pY 0 = 0 ↔ onSeg aX aY bX bY pX pY = true) ∧ (n = 8000000 ∨ cts aX aY bX bY pX pY (n + 1) ≤ cts aX aY bX bY pX pY n) ∧ sqd aX aY pX pY ≤ 8000000 ∧ sqd bX bY pX pY ≤ 8000000 := by
  have hk : ctsOK aX aY bX bY pX pY n = true := by
    rcases hb : ctsOK aX aY bX bY pX pY n with _ | _
    · exact absurd (by unfold cts; rw [hb]; rfl) h
    · rfl
  have hk' := hk
  simp only [ctsOK, Bool.and_eq_true, decide_eq_true_eq] at hk'
  obtain ⟨hs, hp, h0, h8⟩ := hk'
  have hs' := hs
  simp only [okS, Bool.and_eq_true] at hs'
  have ba := okP_iff.1 hs'.1.1
  have bb := okP_iff.1 hs'.1.2
  have bp := okP_iff.1 hp
  have s1 := sq2_bd (aX := aX) (aY := aY) (bX := pX) (bY := pY) (M := 2000) (by omega) (by omega) (by omega)
  have s2 := sq2_bd (aX := bX) (aY := bY) (bX := pX) (bY := pY) (M := 2000) (by omega) (by omega) (by omega)
  have n1 := sq2_nn aX aY pX pY
  have n2 := sq2_nn bX bY pX pY
  have ev : ∀ k, 0 ≤ k → k ≤ 8000000 → cts aX aY bX bY pX pY k = sgn (awN aX aY bX bY pX pY - k * awD aX aY bX bY pX pY) := by
    intro k a b
    have : ctsOK aX aY bX bY pX pY k = true := by unfold ctsOK; rw [hs, hp, decide_eq_true a, decide_eq_true b]; rfl
    unfold cts; rw [this]; rfl
  have le := aw_le aX aY bX bY pX pY
  have hd := awD_pos (pX := pX) (pY := pY) hs
  have hz := aw_zero aX aY bX bY pX pY
  have q1 : sqd aX aY pX pY = dst aX aY pX pY := by unfold sqd; rw [hs'.1.1, hp]; rfl
  have q2 : sqd bX bY pX pY = dst bX bY pX pY := by unfold sqd; rw [hs'.1.2, hp]; rfl
  rw [q1, q2]
  refine ⟨?_, ?_, ?_, ?_, by omega, by omega⟩
  · rw [ev _ n1 (by omega)]
    have : sgn (awN aX aY bX bY pX pY - dst aX aY pX pY * awD aX aY bX bY pX pY) ≤ sgn 0 := sgn_le (by omega)
    exact this
  · rw [ev _ n2 (by omega)]
    have : sgn (awN aX aY bX bY pX pY - dst bX bY pX pY * awD aX aY bX bY pX pY) ≤ sgn 0 := sgn_le (by omega)
    exact this
  · rw [ev 0 (by omega) (by omega), Int.zero_mul, Int.sub_zero]
    have : onSeg aX aY bX bY pX pY = onB aX aY bX bY pX pY := by unfold onSeg; rw [hs, hp]; rfl
    rw [this, ← hz]
    generalize awN aX aY bX bY pX pY = x
    unfold sgn; split <;> (try split) <;> constructor <;> intro <;> omega
  · by_cases e : n = 8000000
    · exact Or.inl e
    · right
      rw [ev n h0 h8, ev (n + 1) (by omega) (by omega)]
      refine sgn_le ?_
      have : (n + 1) * awD aX aY bX bY pX pY = n * awD aX aY bX bY pX pY + awD aX aY bX bY pX pY := by grind
      omega
theorem i_away (sAX : Int) (sAY : Int) (sBX : Int) (sBY : Int) (pX : Int) (pY : Int) : RunsTo Try.prog 100 [(.agg [(.int .i64 (.v fun _ => sAX) (-2002) 2002), (.int .i64 (.v fun _ => sAY) (-2002) 2002), (.int .i64 (.v fun _ => sBX) (-2002) 2002), (.int .i64 (.v fun _ => sBY) (-2002) 2002)]), (.agg [(.int .i64 (.v fun _ => pX) (-2002) 2002), (.int .i64 (.v fun _ => pY) (-2002) 2002)])] [] (.agg [(.int .i64 (.v fun _ => awN sAX sAY sBX sBY pX pY) (-20000000000000000) 20000000000000000), (.int .i64 (.v fun _ => awD sAX sAY sBX sBY pX pY) 0 130000000)]) [] := by
  refine RunsTo.go env Try.func100 rfl Try.call100 rfl rfl (fun _ _ => (.call (c_i_minus sBX sBY sAX sAY) (.call (c_i_minus pX pY sAX sAY) (.call (c_i_dot (sBX - sAX) (sBY - sAY) (pX - sAX) (pY - sAY)) (.ite (.call (c_i_far sAX sAY pX pY) .ret) (.call (c_i_minus pX pY sBX sBY) (.call (c_i_dot (sBX - sAX) (sBY - sAY) (pX - sBX) (pY - sBY)) (.ite (.call (c_i_far sBX sBY pX pY) .ret) (.call (c_i_turn sAX sAY sBX sBY pX pY) (.call (c_i_dot (sBX - sAX) (sBY - sAY) (sBX - sAX) (sBY - sAY)) .ret)))))))))) (G := ((((-2002) ≤ sAX ∧ sAX ≤ 2002) ∧ (((-2002) ≤ sAY ∧ sAY ≤ 2002) ∧ (((-2002) ≤ sBX ∧ sBX ≤ 2002) ∧ ((-2002) ≤ sBY ∧ sBY ≤ 2002)))) ∧ (((-2002) ≤ pX ∧ pX ≤ 2002) ∧ ((-2002) ≤ pY ∧ pY ≤ 2002))) → (True) → ((((sBX = sBX) ∧ (sBY = sBY)) ∧ ((sAX = sAX) ∧ (sAY = sAY))) ∧ ((((pX = pX) ∧ (pY = pY)) ∧ ((sAX = sAX) ∧ (sAY = sAY))) ∧ (((((sBX - sAX) = (sBX - sAX)) ∧ ((sBY - sAY) = (sBY - sAY))) ∧ (((pX - sAX) = (pX - sAX)) ∧ ((pY - sAY) = (pY - sAY)))) ∧ (((((sBX - sAX) * (pX - sAX) + (sBY - sAY) * (pY - sAY)) ≤ 0) → ((((sAX = sAX) ∧ (sAY = sAY)) ∧ ((pX = pX) ∧ (pY = pY))) ∧ (((dst sAX sAY pX pY) = (awN sAX sAY sBX sBY pX pY)) ∧ ((1 : Int) = (awD sAX sAY sBX sBY pX pY))))) ∧ ((0 < ((sBX - sAX) * (pX - sAX) + (sBY - sAY) * (pY - sAY))) → ((((pX = pX) ∧ (pY = pY)) ∧ ((sBX = sBX) ∧ (sBY = sBY))) ∧ (((((sBX - sAX) = (sBX - sAX)) ∧ ((sBY - sAY) = (sBY - sAY))) ∧ (((pX - sBX) = (pX - sBX)) ∧ ((pY - sBY) = (pY - sBY)))) ∧ (((0 ≤ ((sBX - sAX) * (pX - sBX) + (sBY - sAY) * (pY - sBY))) → ((((sBX = sBX) ∧ (sBY = sBY)) ∧ ((pX = pX) ∧ (pY = pY))) ∧ (((dst sBX sBY pX pY) = (awN sAX sAY sBX sBY pX pY)) ∧ ((1 : Int) = (awD sAX sAY sBX sBY pX pY))))) ∧ ((((sBX - sAX) * (pX - sBX) + (sBY - sAY) * (pY - sBY)) < 0) → ((((sAX = sAX) ∧ (sAY = sAY)) ∧ (((sBX = sBX) ∧ (sBY = sBY)) ∧ ((pX = pX) ∧ (pY = pY)))) ∧ (((((sBX - sAX) = (sBX - sAX)) ∧ ((sBY - sAY) = (sBY - sAY))) ∧ (((sBX - sAX) = (sBX - sAX)) ∧ ((sBY - sAY) = (sBY - sAY)))) ∧ ((((trn sAX sAY sBX sBY pX pY) * (trn sAX sAY sBX sBY pX pY)) = (awN sAX sAY sBX sBY pX pY)) ∧ ((((sBX - sAX) * (sBX - sAX) + (sBY - sAY) * (sBY - sAY)) = (awD sAX sAY sBX sBY pX pY)) ∧ (((-128000000) ≤ ((sBX - sAX) * (sBX - sAX) + (sBY - sAY) * (sBY - sAY)) ∧ ((sBX - sAX) * (sBX - sAX) + (sBY - sAY) * (sBY - sAY)) ≤ 128000000) → (0 ≤ (awD sAX sAY sBX sBY pX pY) ∧ (awD sAX sAY sBX sBY pX pY) ≤ 130000000)))))))))))))))) (by kernel_rfl) ?_
  intro h1 h2
  refine ⟨⟨⟨rfl, rfl⟩, ⟨rfl, rfl⟩⟩, ⟨⟨rfl, rfl⟩, ⟨rfl, rfl⟩⟩, ⟨⟨rfl, rfl⟩, ⟨rfl, rfl⟩⟩, ?_, ?_⟩
  · intro c1
    refine ⟨⟨⟨rfl, rfl⟩, ⟨rfl, rfl⟩⟩, ?_, ?_⟩
      -- 1: (dst sAX sAY pX pY) = (awN sAX sAY sBX sBY pX pY)
    · first | rfl | omega | (have hn := sd2_neg sAX sAY sBX sBY pX pY; have e1 : sd1 sAX sAY sBX sBY pX pY = (sBX - sAX) * (pX - sAX) + (sBY - sAY) * (pY - sAY) := rfl; have e2 : sd2 sAX sAY sBX sBY pX pY = (sBX - sAX) * (pX - sBX) + (sBY - sAY) * (pY - sBY) := rfl; have e3 : dst sAX sAY sBX sBY = (sBX - sAX) * (sBX - sAX) + (sBY - sAY) * (sBY - sAY) := rfl; have m1 := dst_comm sAX sAY pX pY; have m2 := dst_comm sBX sBY pX pY; have m3 := dst_comm sAX sAY sBX sBY; have b1 := sq2_bd (aX := sAX) (aY := sAY) (bX := pX) (bY := pY) (M := 4004) (by omega) (by omega) (by omega); have b2 := sq2_bd (aX := sBX) (aY := sBY) (bX := pX) (bY := pY) (M := 4004) (by omega) (by omega) (by omega); have b3 := sq2_bd (aX := sAX) (aY := sAY) (bX := sBX) (bY := sBY) (M := 4004) (by omega) (by omega) (by omega); have n1 := sq2_nn sAX sAY pX pY; have n2 := sq2_nn sBX sBY pX pY; have n3 := sq2_nn sAX sAY sBX sBY; first | (have ha := aw1 (aX := sAX) (aY := sAY) (bX := sBX) (bY := sBY) (pX := pX) (pY := pY) (by omega); omega) | (have ha := aw2 (aX := sAX) (aY := sAY) (bX := sBX) (bY := sBY) (pX := pX) (pY := pY) (by omega) (by omega); omega) | (have ha := aw3 (aX := sAX) (aY := sAY) (bX := sBX) (bY := sBY) (pX := pX) (pY := pY) (by omega) (by omega); omega)) | fail
      -- 2: (1 : Int) = (awD sAX sAY sBX sBY pX pY)
    · first | rfl | omega | (have hn := sd2_neg sAX sAY sBX sBY pX pY; have e1 : sd1 sAX sAY sBX sBY pX pY = (sBX - sAX) * (pX - sAX) + (sBY - sAY) * (pY - sAY) := rfl; have e2 : sd2 sAX sAY sBX sBY pX pY = (sBX - sAX) * (pX - sBX) + (sBY - sAY) * (pY - sBY) := rfl; have e3 : dst sAX sAY sBX sBY = (sBX - sAX) * (sBX - sAX) + (sBY - sAY) * (sBY - sAY) := rfl; have m1 := dst_comm sAX sAY pX pY; have m2 := dst_comm sBX sBY pX pY; have m3 := dst_comm sAX sAY sBX sBY; have b1 := sq2_bd (aX := sAX) (aY := sAY) (bX := pX) (bY := pY) (M := 4004) (by omega) (by omega) (by omega); have b2 := sq2_bd (aX := sBX) (aY := sBY) (bX := pX) (bY := pY) (M := 4004) (by omega) (by omega) (by omega); have b3 := sq2_bd (aX := sAX) (aY := sAY) (bX := sBX) (bY := sBY) (M := 4004) (by omega) (by omega) (by omega); have n1 := sq2_nn sAX sAY pX pY; have n2 := sq2_nn sBX sBY pX pY; have n3 := sq2_nn sAX sAY sBX sBY; first | (have ha := aw1 (aX := sAX) (aY := sAY) (bX := sBX) (bY := sBY) (pX := pX) (pY := pY) (by omega); omega) | (have ha := aw2 (aX := sAX) (aY := sAY) (bX := sBX) (bY := sBY) (pX := pX) (pY := pY) (by omega) (by omega); omega) | (have ha := aw3 (aX := sAX) (aY := sAY) (bX := sBX) (bY := sBY) (pX := pX) (pY := pY) (by omega) (by omega); omega)) | fail
  · intro c2
    refine ⟨⟨⟨rfl, rfl⟩, ⟨rfl, rfl⟩⟩, ⟨⟨rfl, rfl⟩, ⟨rfl, rfl⟩⟩, ?_, ?_⟩
    · intro c3
      refine ⟨⟨⟨rfl, rfl⟩, ⟨rfl, rfl⟩⟩, ?_, ?_⟩
        -- 3: (dst sBX sBY pX pY) = (awN sAX sAY sBX sBY pX pY)
      · first | rfl | omega | (have hn := sd2_neg sAX sAY sBX sBY pX pY; have e1 : sd1 sAX sAY sBX sBY pX pY = (sBX - sAX) * (pX - sAX) + (sBY - sAY) * (pY - sAY) := rfl; have e2 : sd2 sAX sAY sBX sBY pX pY = (sBX - sAX) * (pX - sBX) + (sBY - sAY) * (pY - sBY) := rfl; have e3 : dst sAX sAY sBX sBY = (sBX - sAX) * (sBX - sAX) + (sBY - sAY) * (sBY - sAY) := rfl; have m1 := dst_comm sAX sAY pX pY; have m2 := dst_comm sBX sBY pX pY; have m3 := dst_comm sAX sAY sBX sBY; have b1 := sq2_bd (aX := sAX) (aY := sAY) (bX := pX) (bY := pY) (M := 4004) (by omega) (by omega) (by omega); have b2 := sq2_bd (aX := sBX) (aY := sBY) (bX := pX) (bY := pY) (M := 4004) (by omega) (by omega) (by omega); have b3 := sq2_bd (aX := sAX) (aY := sAY) (bX := sBX) (bY := sBY) (M := 4004) (by omega) (by omega) (by omega); have n1 := sq2_nn sAX sAY pX pY; have n2 := sq2_nn sBX sBY pX pY; have n3 := sq2_nn sAX sAY sBX sBY; first | (have ha := aw1 (aX := sAX) (aY := sAY) (bX := sBX) (bY := sBY) (pX := pX) (pY := pY) (by omega); omega) | (have ha := aw2 (aX := sAX) (aY := sAY) (bX := sBX) (bY := sBY) (pX := pX) (pY := pY) (by omega) (by omega); omega) | (have ha := aw3 (aX := sAX) (aY := sAY) (bX := sBX) (bY := sBY) (pX := pX) (pY := pY) (by omega) (by omega); omega)) | fail
        -- 4: (1 : Int) = (awD sAX sAY sBX sBY pX pY)
      · first | rfl | omega | (have hn := sd2_neg sAX sAY sBX sBY pX pY; have e1 : sd1 sAX sAY sBX sBY pX pY = (sBX - sAX) * (pX - sAX) + (sBY - sAY) * (pY - sAY) := rfl; have e2 : sd2 sAX sAY sBX sBY pX pY = (sBX - sAX) * (pX - sBX) + (sBY - sAY) * (pY - sBY) := rfl; have e3 : dst sAX sAY sBX sBY = (sBX - sAX) * (sBX - sAX) + (sBY - sAY) * (sBY - sAY) := rfl; have m1 := dst_comm sAX sAY pX pY; have m2 := dst_comm sBX sBY pX pY; have m3 := dst_comm sAX sAY sBX sBY; have b1 := sq2_bd (aX := sAX) (aY := sAY) (bX := pX) (bY := pY) (M := 4004) (by omega) (by omega) (by omega); have b2 := sq2_bd (aX := sBX) (aY := sBY) (bX := pX) (bY := pY) (M := 4004) (by omega) (by omega) (by omega); have b3 := sq2_bd (aX := sAX) (aY := sAY) (bX := sBX) (bY := sBY) (M := 4004) (by omega) (by omega) (by omega); have n1 := sq2_nn sAX sAY pX pY; have n2 := sq2_nn sBX sBY pX pY; have n3 := sq2_nn sAX sAY sBX sBY; first | (have ha := aw1 (aX := sAX) (aY := sAY) (bX := sBX) (bY := sBY) (pX := pX) (pY := pY) (by omega); omega) | (have ha := aw2 (aX := sAX) (aY := sAY) (bX := sBX) (bY := sBY) (pX := pX) (pY := pY) (by omega) (by omega); omega) | (have ha := aw3 (aX := sAX) (aY := sAY) (bX := sBX) (bY := sBY) (pX := pX) (pY := pY) (by omega) (by omega); omega)) | fail
    · intro c4
      refine ⟨⟨⟨rfl, rfl⟩, ⟨⟨rfl, rfl⟩, ⟨rfl, rfl⟩⟩⟩, ⟨⟨rfl, rfl⟩, ⟨rfl, rfl⟩⟩, ?_, ?_, ?_⟩
        -- 5: ((trn sAX sAY sBX sBY pX pY) * (trn sAX sAY sBX sBY pX pY)) = (awN sAX sAY sBX sBY pX pY)
      · first | rfl | omega | (have hn := sd2_neg sAX sAY sBX sBY pX pY; have e1 : sd1 sAX sAY sBX sBY pX pY = (sBX - sAX) * (pX - sAX) + (sBY - sAY) * (pY - sAY) := rfl; have e2 : sd2 sAX sAY sBX sBY pX pY = (sBX - sAX) * (pX - sBX) + (sBY - sAY) * (pY - sBY) := rfl; have e3 : dst sAX sAY sBX sBY = (sBX - sAX) * (sBX - sAX) + (sBY - sAY) * (sBY - sAY) := rfl; have m1 := dst_comm sAX sAY pX pY; have m2 := dst_comm sBX sBY pX pY; have m3 := dst_comm sAX sAY sBX sBY; have b1 := sq2_bd (aX := sAX) (aY := sAY) (bX := pX) (bY := pY) (M := 4004) (by omega) (by omega) (by omega); have b2 := sq2_bd (aX := sBX) (aY := sBY) (bX := pX) (bY := pY) (M := 4004) (by omega) (by omega) (by omega); have b3 := sq2_bd (aX := sAX) (aY := sAY) (bX := sBX) (bY := sBY) (M := 4004) (by omega) (by omega) (by omega); have n1 := sq2_nn sAX sAY pX pY; have n2 := sq2_nn sBX sBY pX pY; have n3 := sq2_nn sAX sAY sBX sBY; first | (have ha := aw1 (aX := sAX) (aY := sAY) (bX := sBX) (bY := sBY) (pX := pX) (pY := pY) (by omega); omega) | (have ha := aw2 (aX := sAX) (aY := sAY) (bX := sBX) (bY := sBY) (pX := pX) (pY := pY) (by omega) (by omega); omega) | (have ha := aw3 (aX := sAX) (aY := sAY) (bX := sBX) (bY := sBY) (pX := pX) (pY := pY) (by omega) (by omega); omega)) | fail
        -- 6: ((sBX - sAX) * (sBX - sAX) + (sBY - sAY) * (sBY - sAY)) = (awD sAX sAY sBX sBY pX pY)
      · first | rfl | omega | (have hn := sd2_neg sAX sAY sBX sBY pX pY; have e1 : sd1 sAX sAY sBX sBY pX pY = (sBX - sAX) * (pX - sAX) + (sBY - sAY) * (pY - sAY) := rfl; have e2 : sd2 sAX sAY sBX sBY pX pY = (sBX - sAX) * (pX - sBX) + (sBY - sAY) * (pY - sBY) := rfl; have e3 : dst sAX sAY sBX sBY = (sBX - sAX) * (sBX - sAX) + (sBY - sAY) * (sBY - sAY) := rfl; have m1 := dst_comm sAX sAY pX pY; have m2 := dst_comm sBX sBY pX pY; have m3 := dst_comm sAX sAY sBX sBY; have b1 := sq2_bd (aX := sAX) (aY := sAY) (bX := pX) (bY := pY) (M := 4004) (by omega) (by omega) (by omega); have b2 := sq2_bd (aX := sBX) (aY := sBY) (bX := pX) (bY := pY) (M := 4004) (by omega) (by omega) (by omega); have b3 := sq2_bd (aX := sAX) (aY := sAY) (bX := sBX) (bY := sBY) (M := 4004) (by omega) (by omega) (by omega); have n1 := sq2_nn sAX sAY pX pY; have n2 := sq2_nn sBX sBY pX pY; have n3 := sq2_nn sAX sAY sBX sBY; first | (have ha := aw1 (aX := sAX) (aY := sAY) (bX := sBX) (bY := sBY) (pX := pX) (pY := pY) (by omega); omega) | (have ha := aw2 (aX := sAX) (aY := sAY) (bX := sBX) (bY := sBY) (pX := pX) (pY := pY) (by omega) (by omega); omega) | (have ha := aw3 (aX := sAX) (aY := sAY) (bX := sBX) (bY := sBY) (pX := pX) (pY := pY) (by omega) (by omega); omega)) | fail
      · intro c5
        -- 7: 0 ≤ (awD sAX sAY sBX sBY pX pY) ∧ (awD sAX sAY sBX sBY pX pY) ≤ 130000000
        first | rfl | omega | (have hn := sd2_neg sAX sAY sBX sBY pX pY; have e1 : sd1 sAX sAY sBX sBY pX pY = (sBX - sAX) * (pX - sAX) + (sBY - sAY) * (pY - sAY) := rfl; have e2 : sd2 sAX sAY sBX sBY pX pY = (sBX - sAX) * (pX - sBX) + (sBY - sAY) * (pY - sBY) := rfl; have e3 : dst sAX sAY sBX sBY = (sBX - sAX) * (sBX - sAX) + (sBY - sAY) * (sBY - sAY) := rfl; have m1 := dst_comm sAX sAY pX pY; have m2 := dst_comm sBX sBY pX pY; have m3 := dst_comm sAX sAY sBX sBY; have b1 := sq2_bd (aX := sAX) (aY := sAY) (bX := pX) (bY := pY) (M := 4004) (by omega) (by omega) (by omega); have b2 := sq2_bd (aX := sBX) (aY := sBY) (bX := pX) (bY := pY) (M := 4004) (by omega) (by omega) (by omega); have b3 := sq2_bd (aX := sAX) (aY := sAY) (bX := sBX) (bY := sBY) (M := 4004) (by omega) (by omega) (by omega); have n1 := sq2_nn sAX sAY pX pY; have n2 := sq2_nn sBX sBY pX pY; have n3 := sq2_nn sAX sAY sBX sBY; first | (have ha := aw1 (aX := sAX) (aY := sAY) (bX := sBX) (bY := sBY) (pX := pX) (pY := pY) (by omega); omega) | (have ha := aw2 (aX := sAX) (aY := sAY) (bX := sBX) (bY := sBY) (pX := pX) (pY := pY) (by omega) (by omega); omega) | (have ha := aw3 (aX := sAX) (aY := sAY) (bX := sBX) (bY := sBY) (pX := pX) (pY := pY) (by omega) (by omega); omega)) | fail
def c_i_away (sAX : Int) (sAY : Int) (sBX : Int) (sBY : Int) (pX : Int) (pY : Int) : Cn Try.prog := ⟨_, _, _, _, _, i_away sAX sAY sBX sBY pX pY⟩
theorem i_squareOk (n : Int) : RunsTo Try.prog 99 [(.int .i64 (.v fun _ => n) (-9223372036854775808) 9223372036854775807)] [] (.bool (.v fun _ => decide (0 ≤ n) && decide (n ≤ 8000000))) [] := by
  refine RunsTo.go env Try.func99 rfl Try.call99 rfl rfl (fun _ _ => (.call (c_i_within n 0 8000000) .ret)) (G := ((-9223372036854775808) ≤ n ∧ n ≤ 9223372036854775807) → (True) → (((n = n) ∧ (((0 : Int) = 0) ∧ ((8000000 : Int) = 8000000))) ∧ (((decide (0 ≤ n) && decide (n ≤ 8000000)) = true) ↔ ((decide (0 ≤ n) && decide (n ≤ 8000000)) = true)))) (by kernel_rfl) ?_
  intro h1 h2
  exact ⟨⟨rfl, ⟨rfl, rfl⟩⟩, Iff.rfl⟩
def c_i_squareOk (n : Int) : Cn Try.prog := ⟨_, _, _, _, _, i_squareOk n⟩
theorem i_CompareToSegment (sAX : Int) (sAY : Int) (sBX : Int) (sBY : Int) (pX : Int) (pY : Int) (n : Int) : RunsTo Try.prog 38 [(.agg [(.int .i64 (.v fun _ => sAX) (-2002) 2002), (.int .i64 (.v fun _ => sAY) (-2002) 2002), (.int .i64 (.v fun _ => sBX) (-2002) 2002), (.int .i64 (.v fun _ => sBY) (-2002) 2002)]), (.agg [(.int .i64 (.v fun _ => pX) (-2002) 2002), (.int .i64 (.v fun _ => pY) (-2002) 2002)]), (.int .i64 (.v fun _ => n) (-130000000) 130000000)] [] (.int .i64 (.v fun _ => cts sAX sAY sBX sBY pX pY n) (-1) 2) [] := by
  refine RunsTo.go env Try.func38 rfl Try.call38 rfl rfl (fun _ _ => (.call (c_i_Segment_valid sAX sAY sBX sBY) (.ite .ret (.call (c_i_valid pX pY) (.ite .ret (.call (c_i_squareOk n) (.ite .ret (.call (c_i_away sAX sAY sBX sBY pX pY) (.call (c_c_Compare (awN sAX sAY sBX sBY pX pY) (n * (awD sAX sAY sBX sBY pX pY))) .ret))))))))) (G := ((((-2002) ≤ sAX ∧ sAX ≤ 2002) ∧ (((-2002) ≤ sAY ∧ sAY ≤ 2002) ∧ (((-2002) ≤ sBX ∧ sBX ≤ 2002) ∧ ((-2002) ≤ sBY ∧ sBY ≤ 2002)))) ∧ ((((-2002) ≤ pX ∧ pX ≤ 2002) ∧ ((-2002) ≤ pY ∧ pY ≤ 2002)) ∧ ((-130000000) ≤ n ∧ n ≤ 130000000))) → (True) → (((sAX = sAX) ∧ ((sAY = sAY) ∧ ((sBX = sBX) ∧ (sBY = sBY)))) ∧ ((((okS sAX sAY sBX sBY) = false) → ((2 : Int) = (cts sAX sAY sBX sBY pX pY n))) ∧ (((okS sAX sAY sBX sBY) = true) → (((pX = pX) ∧ (pY = pY)) ∧ ((((okP pX pY) = false) → ((2 : Int) = (cts sAX sAY sBX sBY pX pY n))) ∧ (((okP pX pY) = true) → ((n = n) ∧ ((((decide (0 ≤ n) && decide (n ≤ 8000000)) = false) → ((2 : Int) = (cts sAX sAY sBX sBY pX pY n))) ∧ (((decide (0 ≤ n) && decide (n ≤ 8000000)) = true) → ((((sAX = sAX) ∧ ((sAY = sAY) ∧ ((sBX = sBX) ∧ (sBY = sBY)))) ∧ ((pX = pX) ∧ (pY = pY))) ∧ ((((awN sAX sAY sBX sBY pX pY) = (awN sAX sAY sBX sBY pX pY)) ∧ ((n * (awD sAX sAY sBX sBY pX pY)) = (n * (awD sAX sAY sBX sBY pX pY)))) ∧ ((if (awN sAX sAY sBX sBY pX pY) < (n * (awD sAX sAY sBX sBY pX pY)) then -1 else if (awN sAX sAY sBX sBY pX pY) > (n * (awD sAX sAY sBX sBY pX pY)) then 1 else 0) = (cts sAX sAY sBX sBY pX pY n)))))))))))))) (by kernel_rfl) ?_
  intro h1 h2
  refine ⟨⟨rfl, ⟨rfl, ⟨rfl, rfl⟩⟩⟩, ?_, ?_⟩
  · intro c1
    -- 1: (2 : Int) = (cts sAX sAY sBX sBY pX pY n)
    first | rfl | omega | (refine (cts_no ?_).symm; first | exact Or.inl (by assumption) | exact Or.inr (Or.inl (by assumption)) | exact Or.inr (Or.inr (by assumption)) | fail) | (have hy := cts_yes (aX := sAX) (aY := sAY) (bX := sBX) (bY := sBY) (pX := pX) (pY := pY) (n := n) (by assumption) (by assumption) (by assumption); have hb := sgn_bd9 (awN sAX sAY sBX sBY pX pY - n * awD sAX sAY sBX sBY pX pY); first | (rw [hy]; exact cmp_sgn _ _) | (rw [hy]; done) | omega | fail) | (simp_all; done) | (simp_all; omega) | fail
  · intro c2
    refine ⟨⟨rfl, rfl⟩, ?_, ?_⟩
    · intro c3
      -- 2: (2 : Int) = (cts sAX sAY sBX sBY pX pY n)
      first | rfl | omega | (refine (cts_no ?_).symm; first | exact Or.inl (by assumption) | exact Or.inr (Or.inl (by assumption)) | exact Or.inr (Or.inr (by assumption)) | fail) | (have hy := cts_yes (aX := sAX) (aY := sAY) (bX := sBX) (bY := sBY) (pX := pX) (pY := pY) (n := n) (by assumption) (by assumption) (by assumption); have hb := sgn_bd9 (awN sAX sAY sBX sBY pX pY - n * awD sAX sAY sBX sBY pX pY); first | (rw [hy]; exact cmp_sgn _ _) | (rw [hy]; done) | omega | fail) | (simp_all; done) | (simp_all; omega) | fail
    · intro c4
      refine ⟨rfl, ?_, ?_⟩
      · intro c5
        -- 3: (2 : Int) = (cts sAX sAY sBX sBY pX pY n)
        first | rfl | omega | (refine (cts_no ?_).symm; first | exact Or.inl (by assumption) | exact Or.inr (Or.inl (by assumption)) | exact Or.inr (Or.inr (by assumption)) | fail) | (have hy := cts_yes (aX := sAX) (aY := sAY) (bX := sBX) (bY := sBY) (pX := pX) (pY := pY) (n := n) (by assumption) (by assumption) (by assumption); have hb := sgn_bd9 (awN sAX sAY sBX sBY pX pY - n * awD sAX sAY sBX sBY pX pY); first | (rw [hy]; exact cmp_sgn _ _) | (rw [hy]; done) | omega | fail) | (simp_all; done) | (simp_all; omega) | fail
      · intro c6
        refine ⟨⟨⟨rfl, ⟨rfl, ⟨rfl, rfl⟩⟩⟩, ⟨rfl, rfl⟩⟩, ⟨rfl, rfl⟩, ?_⟩
        -- 4: (if (awN sAX sAY sBX sBY pX pY) < (n * (awD sAX sAY sBX sBY pX pY)) then -1 else if (awN sAX sAY sBX
        first | rfl | omega | (refine (cts_no ?_).symm; first | exact Or.inl (by assumption) | exact Or.inr (Or.inl (by assumption)) | exact Or.inr (Or.inr (by assumption)) | fail) | (have hy := cts_yes (aX := sAX) (aY := sAY) (bX := sBX) (bY := sBY) (pX := pX) (pY := pY) (n := n) (by assumption) (by assumption) (by assumption); have hb := sgn_bd9 (awN sAX sAY sBX sBY pX pY - n * awD sAX sAY sBX sBY pX pY); first | (rw [hy]; exact cmp_sgn _ _) | (rw [hy]; done) | omega | fail) | (simp_all; done) | (simp_all; omega) | fail
def c_i_CompareToSegment (sAX : Int) (sAY : Int) (sBX : Int) (sBY : Int) (pX : Int) (pY : Int) (n : Int) : Cn Try.prog := ⟨_, _, _, _, _, i_CompareToSegment sAX sAY sBX sBY pX pY n⟩
theorem s_dot (aX : Int) (aY : Int) (bX : Int) (bY : Int) (cX : Int) (cY : Int) : RunsTo Try.prog 139 [(.agg [(.int .i64 (.v fun _ => aX) (-4000) 4000), (.int .i64 (.v fun _ => aY) (-4000) 4000)]), (.agg [(.int .i64 (.v fun _ => bX) (-4000) 4000), (.int .i64 (.v fun _ => bY) (-4000) 4000)]), (.agg [(.int .i64 (.v fun _ => cX) (-4000) 4000), (.int .i64 (.v fun _ => cY) (-4000) 4000)])] [] (.int .i64 (.v fun _ => (bX - aX) * (cX - aX) + (bY - aY) * (cY - aY)) (-128000000) 128000000) [] := by
  refine RunsTo.go env Try.func139 rfl Try.call139 rfl rfl (fun _ _ => .ret) (G := ((((-4000) ≤ aX ∧ aX ≤ 4000) ∧ ((-4000) ≤ aY ∧ aY ≤ 4000)) ∧ ((((-4000) ≤ bX ∧ bX ≤ 4000) ∧ ((-4000) ≤ bY ∧ bY ≤ 4000)) ∧ (((-4000) ≤ cX ∧ cX ≤ 4000) ∧ ((-4000) ≤ cY ∧ cY ≤ 4000)))) → (True) → ((((bX - aX) * (cX - aX)) + ((bY - aY) * (cY - aY))) = ((bX - aX) * (cX - aX) + (bY - aY) * (cY - aY)))) (by kernel_rfl) ?_
  intro h1 h2
  -- 1: (((bX - aX) * (cX - aX)) + ((bY - aY) * (cY - aY))) = ((bX - aX) * (cX - aX) + (bY - aY) * (cY - aY)
  first | rfl | omega
def c_s_dot (aX : Int) (aY : Int) (bX : Int) (bY : Int) (cX : Int) (cY : Int) : Cn Try.prog := ⟨_, _, _, _, _, s_dot aX aY bX bY cX cY⟩
theorem s_toSegment (sAX : Int) (sAY : Int) (sBX : Int) (sBY : Int) (pX : Int) (pY : Int) : RunsTo Try.prog 103 [(.agg [(.int .i64 (.v fun _ => sAX) (-2002) 2002), (.int .i64 (.v fun _ => sAY) (-2002) 2002), (.int .i64 (.v fun _ => sBX) (-2002) 2002), (.int .i64 (.v fun _ => sBY) (-2002) 2002)]), (.agg [(.int .i64 (.v fun _ => pX) (-2002) 2002), (.int .i64 (.v fun _ => pY) (-2002) 2002)])] [] (.tup [(.int .i64 (.v fun _ => awN sAX sAY sBX sBY pX pY) (-20000000000000000) 20000000000000000), (.int .i64 (.v fun _ => awD sAX sAY sBX sBY pX pY) 0 130000000)]) [] := by
  refine RunsTo.go env Try.func103 rfl Try.call103 rfl rfl (fun _ _ => (.call (c_s_dot sAX sAY sBX sBY pX pY) (.ite (.call (c_s_square sAX sAY pX pY) .ret) (.call (c_s_dot sBX sBY sAX sAY pX pY) (.ite (.call (c_s_square sBX sBY pX pY) .ret) (.call (c_s_cross sAX sAY sBX sBY pX pY) (.call (c_s_square sAX sAY sBX sBY) .ret))))))) (G := ((((-2002) ≤ sAX ∧ sAX ≤ 2002) ∧ (((-2002) ≤ sAY ∧ sAY ≤ 2002) ∧ (((-2002) ≤ sBX ∧ sBX ≤ 2002) ∧ ((-2002) ≤ sBY ∧ sBY ≤ 2002)))) ∧ (((-2002) ≤ pX ∧ pX ≤ 2002) ∧ ((-2002) ≤ pY ∧ pY ≤ 2002))) → (True) → ((((sAX = sAX) ∧ (sAY = sAY)) ∧ (((sBX = sBX) ∧ (sBY = sBY)) ∧ ((pX = pX) ∧ (pY = pY)))) ∧ (((((sBX - sAX) * (pX - sAX) + (sBY - sAY) * (pY - sAY)) ≤ 0) → ((((sAX = sAX) ∧ (sAY = sAY)) ∧ ((pX = pX) ∧ (pY = pY))) ∧ (((dst sAX sAY pX pY) = (awN sAX sAY sBX sBY pX pY)) ∧ ((1 : Int) = (awD sAX sAY sBX sBY pX pY))))) ∧ ((0 < ((sBX - sAX) * (pX - sAX) + (sBY - sAY) * (pY - sAY))) → ((((sBX = sBX) ∧ (sBY = sBY)) ∧ (((sAX = sAX) ∧ (sAY = sAY)) ∧ ((pX = pX) ∧ (pY = pY)))) ∧ (((((sAX - sBX) * (pX - sBX) + (sAY - sBY) * (pY - sBY)) ≤ 0) → ((((sBX = sBX) ∧ (sBY = sBY)) ∧ ((pX = pX) ∧ (pY = pY))) ∧ (((dst sBX sBY pX pY) = (awN sAX sAY sBX sBY pX pY)) ∧ ((1 : Int) = (awD sAX sAY sBX sBY pX pY))))) ∧ ((0 < ((sAX - sBX) * (pX - sBX) + (sAY - sBY) * (pY - sBY))) → ((((sAX = sAX) ∧ (sAY = sAY)) ∧ (((sBX = sBX) ∧ (sBY = sBY)) ∧ ((pX = pX) ∧ (pY = pY)))) ∧ ((((sAX = sAX) ∧ (sAY = sAY)) ∧ ((sBX = sBX) ∧ (sBY = sBY))) ∧ ((((trn sAX sAY sBX sBY pX pY) * (trn sAX sAY sBX sBY pX pY)) = (awN sAX sAY sBX sBY pX pY)) ∧ (((dst sAX sAY sBX sBY) = (awD sAX sAY sBX sBY pX pY)) ∧ (((-128000000) ≤ (dst sAX sAY sBX sBY) ∧ (dst sAX sAY sBX sBY) ≤ 128000000) → (0 ≤ (awD sAX sAY sBX sBY pX pY) ∧ (awD sAX sAY sBX sBY pX pY) ≤ 130000000))))))))))))) (by kernel_rfl) ?_
  intro h1 h2
  refine ⟨⟨⟨rfl, rfl⟩, ⟨⟨rfl, rfl⟩, ⟨rfl, rfl⟩⟩⟩, ?_, ?_⟩
  · intro c1
    refine ⟨⟨⟨rfl, rfl⟩, ⟨rfl, rfl⟩⟩, ?_, ?_⟩
      -- 1: (dst sAX sAY pX pY) = (awN sAX sAY sBX sBY pX pY)
    · first | rfl | omega | (have hn := sd2_neg sAX sAY sBX sBY pX pY; have e1 : sd1 sAX sAY sBX sBY pX pY = (sBX - sAX) * (pX - sAX) + (sBY - sAY) * (pY - sAY) := rfl; have e2 : sd2 sAX sAY sBX sBY pX pY = (sBX - sAX) * (pX - sBX) + (sBY - sAY) * (pY - sBY) := rfl; have e3 : dst sAX sAY sBX sBY = (sBX - sAX) * (sBX - sAX) + (sBY - sAY) * (sBY - sAY) := rfl; have m1 := dst_comm sAX sAY pX pY; have m2 := dst_comm sBX sBY pX pY; have m3 := dst_comm sAX sAY sBX sBY; have b1 := sq2_bd (aX := sAX) (aY := sAY) (bX := pX) (bY := pY) (M := 4004) (by omega) (by omega) (by omega); have b2 := sq2_bd (aX := sBX) (aY := sBY) (bX := pX) (bY := pY) (M := 4004) (by omega) (by omega) (by omega); have b3 := sq2_bd (aX := sAX) (aY := sAY) (bX := sBX) (bY := sBY) (M := 4004) (by omega) (by omega) (by omega); have n1 := sq2_nn sAX sAY pX pY; have n2 := sq2_nn sBX sBY pX pY; have n3 := sq2_nn sAX sAY sBX sBY; first | (have ha := aw1 (aX := sAX) (aY := sAY) (bX := sBX) (bY := sBY) (pX := pX) (pY := pY) (by omega); omega) | (have ha := aw2 (aX := sAX) (aY := sAY) (bX := sBX) (bY := sBY) (pX := pX) (pY := pY) (by omega) (by omega); omega) | (have ha := aw3 (aX := sAX) (aY := sAY) (bX := sBX) (bY := sBY) (pX := pX) (pY := pY) (by omega) (by omega); omega)) | fail
      -- 2: (1 : Int) = (awD sAX sAY sBX sBY pX pY)
    · first | rfl | omega | (have hn := sd2_neg sAX sAY sBX sBY pX pY; have e1 : sd1 sAX sAY sBX sBY pX pY = (sBX - sAX) * (pX - sAX) + (sBY - sAY) * (pY - sAY) := rfl; have e2 : sd2 sAX sAY sBX sBY pX pY = (sBX - sAX) * (pX - sBX) + (sBY - sAY) * (pY - sBY) := rfl; have e3 : dst sAX sAY sBX sBY = (sBX - sAX) * (sBX - sAX) + (sBY - sAY) * (sBY - sAY) := rfl; have m1 := dst_comm sAX sAY pX pY; have m2 := dst_comm sBX sBY pX pY; have m3 := dst_comm sAX sAY sBX sBY; have b1 := sq2_bd (aX := sAX) (aY := sAY) (bX := pX) (bY := pY) (M := 4004) (by omega) (by omega) (by omega); have b2 := sq2_bd (aX := sBX) (aY := sBY) (bX := pX) (bY := pY) (M := 4004) (by omega) (by omega) (by omega); have b3 := sq2_bd (aX := sAX) (aY := sAY) (bX := sBX) (bY := sBY) (M := 4004) (by omega) (by omega) (by omega); have n1 := sq2_nn sAX sAY pX pY; have n2 := sq2_nn sBX sBY pX pY; have n3 := sq2_nn sAX sAY sBX sBY; first | (have ha := aw1 (aX := sAX) (aY := sAY) (bX := sBX) (bY := sBY) (pX := pX) (pY := pY) (by omega); omega) | (have ha := aw2 (aX := sAX) (aY := sAY) (bX := sBX) (bY := sBY) (pX := pX) (pY := pY) (by omega) (by omega); omega) | (have ha := aw3 (aX := sAX) (aY := sAY) (bX := sBX) (bY := sBY) (pX := pX) (pY := pY) (by omega) (by omega); omega)) | fail
  · intro c2
    refine ⟨⟨⟨rfl, rfl⟩, ⟨⟨rfl, rfl⟩, ⟨rfl, rfl⟩⟩⟩, ?_, ?_⟩
    · intro c3
      refine ⟨⟨⟨rfl, rfl⟩, ⟨rfl, rfl⟩⟩, ?_, ?_⟩
        -- 3: (dst sBX sBY pX pY) = (awN sAX sAY sBX sBY pX pY)
      · first | rfl | omega | (have hn := sd2_neg sAX sAY sBX sBY pX pY; have e1 : sd1 sAX sAY sBX sBY pX pY = (sBX - sAX) * (pX - sAX) + (sBY - sAY) * (pY - sAY) := rfl; have e2 : sd2 sAX sAY sBX sBY pX pY = (sBX - sAX) * (pX - sBX) + (sBY - sAY) * (pY - sBY) := rfl; have e3 : dst sAX sAY sBX sBY = (sBX - sAX) * (sBX - sAX) + (sBY - sAY) * (sBY - sAY) := rfl; have m1 := dst_comm sAX sAY pX pY; have m2 := dst_comm sBX sBY pX pY; have m3 := dst_comm sAX sAY sBX sBY; have b1 := sq2_bd (aX := sAX) (aY := sAY) (bX := pX) (bY := pY) (M := 4004) (by omega) (by omega) (by omega); have b2 := sq2_bd (aX := sBX) (aY := sBY) (bX := pX) (bY := pY) (M := 4004) (by omega) (by omega) (by omega); have b3 := sq2_bd (aX := sAX) (aY := sAY) (bX := sBX) (bY := sBY) (M := 4004) (by omega) (by omega) (by omega); have n1 := sq2_nn sAX sAY pX pY; have n2 := sq2_nn sBX sBY pX pY; have n3 := sq2_nn sAX sAY sBX sBY; first | (have ha := aw1 (aX := sAX) (aY := sAY) (bX := sBX) (bY := sBY) (pX := pX) (pY := pY) (by omega); omega) | (have ha := aw2 (aX := sAX) (aY := sAY) (bX := sBX) (bY := sBY) (pX := pX) (pY := pY) (by omega) (by omega); omega) | (have ha := aw3 (aX := sAX) (aY := sAY) (bX := sBX) (bY := sBY) (pX := pX) (pY := pY) (by omega) (by omega); omega)) | fail
        -- 4: (1 : Int) = (awD sAX sAY sBX sBY pX pY)
      · first | rfl | omega | (have hn := sd2_neg sAX sAY sBX sBY pX pY; have e1 : sd1 sAX sAY sBX sBY pX pY = (sBX - sAX) * (pX - sAX) + (sBY - sAY) * (pY - sAY) := rfl; have e2 : sd2 sAX sAY sBX sBY pX pY = (sBX - sAX) * (pX - sBX) + (sBY - sAY) * (pY - sBY) := rfl; have e3 : dst sAX sAY sBX sBY = (sBX - sAX) * (sBX - sAX) + (sBY - sAY) * (sBY - sAY) := rfl; have m1 := dst_comm sAX sAY pX pY; have m2 := dst_comm sBX sBY pX pY; have m3 := dst_comm sAX sAY sBX sBY; have b1 := sq2_bd (aX := sAX) (aY := sAY) (bX := pX) (bY := pY) (M := 4004) (by omega) (by omega) (by omega); have b2 := sq2_bd (aX := sBX) (aY := sBY) (bX := pX) (bY := pY) (M := 4004) (by omega) (by omega) (by omega); have b3 := sq2_bd (aX := sAX) (aY := sAY) (bX := sBX) (bY := sBY) (M := 4004) (by omega) (by omega) (by omega); have n1 := sq2_nn sAX sAY pX pY; have n2 := sq2_nn sBX sBY pX pY; have n3 := sq2_nn sAX sAY sBX sBY; first | (have ha := aw1 (aX := sAX) (aY := sAY) (bX := sBX) (bY := sBY) (pX := pX) (pY := pY) (by omega); omega) | (have ha := aw2 (aX := sAX) (aY := sAY) (bX := sBX) (bY := sBY) (pX := pX) (pY := pY) (by omega) (by omega); omega) | (have ha := aw3 (aX := sAX) (aY := sAY) (bX := sBX) (bY := sBY) (pX := pX) (pY := pY) (by omega) (by omega); omega)) | fail
    · intro c4
      refine ⟨⟨⟨rfl, rfl⟩, ⟨⟨rfl, rfl⟩, ⟨rfl, rfl⟩⟩⟩, ⟨⟨rfl, rfl⟩, ⟨rfl, rfl⟩⟩, ?_, ?_, ?_⟩
        -- 5: ((trn sAX sAY sBX sBY pX pY) * (trn sAX sAY sBX sBY pX pY)) = (awN sAX sAY sBX sBY pX pY)
      · first | rfl | omega | (have hn := sd2_neg sAX sAY sBX sBY pX pY; have e1 : sd1 sAX sAY sBX sBY pX pY = (sBX - sAX) * (pX - sAX) + (sBY - sAY) * (pY - sAY) := rfl; have e2 : sd2 sAX sAY sBX sBY pX pY = (sBX - sAX) * (pX - sBX) + (sBY - sAY) * (pY - sBY) := rfl; have e3 : dst sAX sAY sBX sBY = (sBX - sAX) * (sBX - sAX) + (sBY - sAY) * (sBY - sAY) := rfl; have m1 := dst_comm sAX sAY pX pY; have m2 := dst_comm sBX sBY pX pY; have m3 := dst_comm sAX sAY sBX sBY; have b1 := sq2_bd (aX := sAX) (aY := sAY) (bX := pX) (bY := pY) (M := 4004) (by omega) (by omega) (by omega); have b2 := sq2_bd (aX := sBX) (aY := sBY) (bX := pX) (bY := pY) (M := 4004) (by omega) (by omega) (by omega); have b3 := sq2_bd (aX := sAX) (aY := sAY) (bX := sBX) (bY := sBY) (M := 4004) (by omega) (by omega) (by omega); have n1 := sq2_nn sAX sAY pX pY; have n2 := sq2_nn sBX sBY pX pY; have n3 := sq2_nn sAX sAY sBX sBY; first | (have ha := aw1 (aX := sAX) (aY := sAY) (bX := sBX) (bY := sBY) (pX := pX) (pY := pY) (by omega); omega) | (have ha := aw2 (aX := sAX) (aY := sAY) (bX := sBX) (bY := sBY) (pX := pX) (pY := pY) (by omega) (by omega); omega) | (have ha := aw3 (aX := sAX) (aY := sAY) (bX := sBX) (bY := sBY) (pX := pX) (pY := pY) (by omega) (by omega); omega)) | fail
        -- 6: (dst sAX sAY sBX sBY) = (awD sAX sAY sBX sBY pX pY)
      · first | rfl | omega | (have hn := sd2_neg sAX sAY sBX sBY pX pY; have e1 : sd1 sAX sAY sBX sBY pX pY = (sBX - sAX) * (pX - sAX) + (sBY - sAY) * (pY - sAY) := rfl; have e2 : sd2 sAX sAY sBX sBY pX pY = (sBX - sAX) * (pX - sBX) + (sBY - sAY) * (pY - sBY) := rfl; have e3 : dst sAX sAY sBX sBY = (sBX - sAX) * (sBX - sAX) + (sBY - sAY) * (sBY - sAY) := rfl; have m1 := dst_comm sAX sAY pX pY; have m2 := dst_comm sBX sBY pX pY; have m3 := dst_comm sAX sAY sBX sBY; have b1 := sq2_bd (aX := sAX) (aY := sAY) (bX := pX) (bY := pY) (M := 4004) (by omega) (by omega) (by omega); have b2 := sq2_bd (aX := sBX) (aY := sBY) (bX := pX) (bY := pY) (M := 4004) (by omega) (by omega) (by omega); have b3 := sq2_bd (aX := sAX) (aY := sAY) (bX := sBX) (bY := sBY) (M := 4004) (by omega) (by omega) (by omega); have n1 := sq2_nn sAX sAY pX pY; have n2 := sq2_nn sBX sBY pX pY; have n3 := sq2_nn sAX sAY sBX sBY; first | (have ha := aw1 (aX := sAX) (aY := sAY) (bX := sBX) (bY := sBY) (pX := pX) (pY := pY) (by omega); omega) | (have ha := aw2 (aX := sAX) (aY := sAY) (bX := sBX) (bY := sBY) (pX := pX) (pY := pY) (by omega) (by omega); omega) | (have ha := aw3 (aX := sAX) (aY := sAY) (bX := sBX) (bY := sBY) (pX := pX) (pY := pY) (by omega) (by omega); omega)) | fail
      · intro c5
        -- 7: 0 ≤ (awD sAX sAY sBX sBY pX pY) ∧ (awD sAX sAY sBX sBY pX pY) ≤ 130000000
        first | rfl | omega | (have hn := sd2_neg sAX sAY sBX sBY pX pY; have e1 : sd1 sAX sAY sBX sBY pX pY = (sBX - sAX) * (pX - sAX) + (sBY - sAY) * (pY - sAY) := rfl; have e2 : sd2 sAX sAY sBX sBY pX pY = (sBX - sAX) * (pX - sBX) + (sBY - sAY) * (pY - sBY) := rfl; have e3 : dst sAX sAY sBX sBY = (sBX - sAX) * (sBX - sAX) + (sBY - sAY) * (sBY - sAY) := rfl; have m1 := dst_comm sAX sAY pX pY; have m2 := dst_comm sBX sBY pX pY; have m3 := dst_comm sAX sAY sBX sBY; have b1 := sq2_bd (aX := sAX) (aY := sAY) (bX := pX) (bY := pY) (M := 4004) (by omega) (by omega) (by omega); have b2 := sq2_bd (aX := sBX) (aY := sBY) (bX := pX) (bY := pY) (M := 4004) (by omega) (by omega) (by omega); have b3 := sq2_bd (aX := sAX) (aY := sAY) (bX := sBX) (bY := sBY) (M := 4004) (by omega) (by omega) (by omega); have n1 := sq2_nn sAX sAY pX pY; have n2 := sq2_nn sBX sBY pX pY; have n3 := sq2_nn sAX sAY sBX sBY; first | (have ha := aw1 (aX := sAX) (aY := sAY) (bX := sBX) (bY := sBY) (pX := pX) (pY := pY) (by omega); omega) | (have ha := aw2 (aX := sAX) (aY := sAY) (bX := sBX) (bY := sBY) (pX := pX) (pY := pY) (by omega) (by omega); omega) | (have ha := aw3 (aX := sAX) (aY := sAY) (bX := sBX) (bY := sBY) (pX := pX) (pY := pY) (by omega) (by omega); omega)) | fail
def c_s_toSegment (sAX : Int) (sAY : Int) (sBX : Int) (sBY : Int) (pX : Int) (pY : Int) : Cn Try.prog := ⟨_, _, _, _, _, s_toSegment sAX sAY sBX sBY pX pY⟩
theorem s_CompareToSegment (sAX : Int) (sAY : Int) (sBX : Int) (sBY : Int) (pX : Int) (pY : Int) (n : Int) : RunsTo Try.prog 39 [(.agg [(.int .i64 (.v fun _ => sAX) (-2002) 2002), (.int .i64 (.v fun _ => sAY) (-2002) 2002), (.int .i64 (.v fun _ => sBX) (-2002) 2002), (.int .i64 (.v fun _ => sBY) (-2002) 2002)]), (.agg [(.int .i64 (.v fun _ => pX) (-2002) 2002), (.int .i64 (.v fun _ => pY) (-2002) 2002)]), (.int .i64 (.v fun _ => n) (-130000000) 130000000)] [] (.int .i64 (.v fun _ => cts sAX sAY sBX sBY pX pY n) (-1) 2) [] := by
  refine RunsTo.go env Try.func39 rfl Try.call39 rfl rfl (fun _ _ => (.call (c_s_validSegment sAX sAY sBX sBY) (.ite .ret (.call (c_s_validPoint pX pY) (.ite .ret (.call (c_s_inRange n 0 8000000) (.ite .ret (.call (c_s_toSegment sAX sAY sBX sBY pX pY) (.call (c_s_sign ((awN sAX sAY sBX sBY pX pY) - (n * (awD sAX sAY sBX sBY pX pY)))) .ret))))))))) (G := ((((-2002) ≤ sAX ∧ sAX ≤ 2002) ∧ (((-2002) ≤ sAY ∧ sAY ≤ 2002) ∧ (((-2002) ≤ sBX ∧ sBX ≤ 2002) ∧ ((-2002) ≤ sBY ∧ sBY ≤ 2002)))) ∧ ((((-2002) ≤ pX ∧ pX ≤ 2002) ∧ ((-2002) ≤ pY ∧ pY ≤ 2002)) ∧ ((-130000000) ≤ n ∧ n ≤ 130000000))) → (True) → (((sAX = sAX) ∧ ((sAY = sAY) ∧ ((sBX = sBX) ∧ (sBY = sBY)))) ∧ ((((okS sAX sAY sBX sBY) = false) → ((2 : Int) = (cts sAX sAY sBX sBY pX pY n))) ∧ (((okS sAX sAY sBX sBY) = true) → (((pX = pX) ∧ (pY = pY)) ∧ ((((okP pX pY) = false) → ((2 : Int) = (cts sAX sAY sBX sBY pX pY n))) ∧ (((okP pX pY) = true) → (((n = n) ∧ (((0 : Int) = 0) ∧ ((8000000 : Int) = 8000000))) ∧ ((((decide (0 ≤ n) && decide (n ≤ 8000000)) = false) → ((2 : Int) = (cts sAX sAY sBX sBY pX pY n))) ∧ (((decide (0 ≤ n) && decide (n ≤ 8000000)) = true) → ((((sAX = sAX) ∧ ((sAY = sAY) ∧ ((sBX = sBX) ∧ (sBY = sBY)))) ∧ ((pX = pX) ∧ (pY = pY))) ∧ ((((awN sAX sAY sBX sBY pX pY) - (n * (awD sAX sAY sBX sBY pX pY))) = ((awN sAX sAY sBX sBY pX pY) - (n * (awD sAX sAY sBX sBY pX pY)))) ∧ ((sgn ((awN sAX sAY sBX sBY pX pY) - (n * (awD sAX sAY sBX sBY pX pY)))) = (cts sAX sAY sBX sBY pX pY n)))))))))))))) (by kernel_rfl) ?_
  intro h1 h2
  refine ⟨⟨rfl, ⟨rfl, ⟨rfl, rfl⟩⟩⟩, ?_, ?_⟩
  · intro c1
    -- 1: (2 : Int) = (cts sAX sAY sBX sBY pX pY n)
    first | rfl | omega | (refine (cts_no ?_).symm; first | exact Or.inl (by assumption) | exact Or.inr (Or.inl (by assumption)) | exact Or.inr (Or.inr (by assumption)) | fail) | (have hy := cts_yes (aX := sAX) (aY := sAY) (bX := sBX) (bY := sBY) (pX := pX) (pY := pY) (n := n) (by assumption) (by assumption) (by assumption); have hb := sgn_bd9 (awN sAX sAY sBX sBY pX pY - n * awD sAX sAY sBX sBY pX pY); first | (rw [hy]; exact cmp_sgn _ _) | (rw [hy]; done) | omega | fail) | (simp_all; done) | (simp_all; omega) | fail
  · intro c2
    refine ⟨⟨rfl, rfl⟩, ?_, ?_⟩
    · intro c3
      -- 2: (2 : Int) = (cts sAX sAY sBX sBY pX pY n)
      first | rfl | omega | (refine (cts_no ?_).symm; first | exact Or.inl (by assumption) | exact Or.inr (Or.inl (by assumption)) | exact Or.inr (Or.inr (by assumption)) | fail) | (have hy := cts_yes (aX := sAX) (aY := sAY) (bX := sBX) (bY := sBY) (pX := pX) (pY := pY) (n := n) (by assumption) (by assumption) (by assumption); have hb := sgn_bd9 (awN sAX sAY sBX sBY pX pY - n * awD sAX sAY sBX sBY pX pY); first | (rw [hy]; exact cmp_sgn _ _) | (rw [hy]; done) | omega | fail) | (simp_all; done) | (simp_all; omega) | fail
    · intro c4
      refine ⟨⟨rfl, ⟨rfl, rfl⟩⟩, ?_, ?_⟩
      · intro c5
        -- 3: (2 : Int) = (cts sAX sAY sBX sBY pX pY n)
        first | rfl | omega | (refine (cts_no ?_).symm; first | exact Or.inl (by assumption) | exact Or.inr (Or.inl (by assumption)) | exact Or.inr (Or.inr (by assumption)) | fail) | (have hy := cts_yes (aX := sAX) (aY := sAY) (bX := sBX) (bY := sBY) (pX := pX) (pY := pY) (n := n) (by assumption) (by assumption) (by assumption); have hb := sgn_bd9 (awN sAX sAY sBX sBY pX pY - n * awD sAX sAY sBX sBY pX pY); first | (rw [hy]; exact cmp_sgn _ _) | (rw [hy]; done) | omega | fail) | (simp_all; done) | (simp_all; omega) | fail
      · intro c6
        refine ⟨⟨⟨rfl, ⟨rfl, ⟨rfl, rfl⟩⟩⟩, ⟨rfl, rfl⟩⟩, rfl, ?_⟩
        -- 4: (sgn ((awN sAX sAY sBX sBY pX pY) - (n * (awD sAX sAY sBX sBY pX pY)))) = (cts sAX sAY sBX sBY pX pY
        first | rfl | omega | (refine (cts_no ?_).symm; first | exact Or.inl (by assumption) | exact Or.inr (Or.inl (by assumption)) | exact Or.inr (Or.inr (by assumption)) | fail) | (have hy := cts_yes (aX := sAX) (aY := sAY) (bX := sBX) (bY := sBY) (pX := pX) (pY := pY) (n := n) (by assumption) (by assumption) (by assumption); have hb := sgn_bd9 (awN sAX sAY sBX sBY pX pY - n * awD sAX sAY sBX sBY pX pY); first | (rw [hy]; exact cmp_sgn _ _) | (rw [hy]; done) | omega | fail) | (simp_all; done) | (simp_all; omega) | fail
def c_s_CompareToSegment (sAX : Int) (sAY : Int) (sBX : Int) (sBY : Int) (pX : Int) (pY : Int) (n : Int) : Cn Try.prog := ⟨_, _, _, _, _, s_CompareToSegment sAX sAY sBX sBY pX pY n⟩
theorem i_SquaredDistance (aX : Int) (aY : Int) (bX : Int) (bY : Int) : RunsTo Try.prog 40 [(.agg [(.int .i64 (.v fun _ => aX) (-9223372036854775808) 9223372036854775807), (.int .i64 (.v fun _ => aY) (-9223372036854775808) 9223372036854775807)]), (.agg [(.int .i64 (.v fun _ => bX) (-9223372036854775808) 9223372036854775807), (.int .i64 (.v fun _ => bY) (-9223372036854775808) 9223372036854775807)])] [] (.int .i64 (.v fun _ => sqd aX aY bX bY) (-1) 128000000) [] := by
  refine RunsTo.go env Try.func40 rfl Try.call40 rfl rfl (fun _ _ => (.call (c_i_allValid (selL [aX, bX]) (selL [aY, bY]) 2) (.ite .ret (.call (c_i_far aX aY bX bY) .ret)))) (G := ((((-9223372036854775808) ≤ aX ∧ aX ≤ 9223372036854775807) ∧ ((-9223372036854775808) ≤ aY ∧ aY ≤ 9223372036854775807)) ∧ (((-9223372036854775808) ≤ bX ∧ bX ≤ 9223372036854775807) ∧ ((-9223372036854775808) ≤ bY ∧ bY ≤ 9223372036854775807))) → (True) → (((2 : Int) = 2) ∧ ((((2 : Int) = 2) ∧ ((∀ e2 : E, ((e2.den = 0) → ((aX = (selL [aX, bX] (e2.den))) ∧ (aY = (selL [aY, bY] (e2.den)))))) ∧ (∀ e1 : E, ((e1.den = 1) → ((bX = (selL [aX, bX] (e1.den))) ∧ (bY = (selL [aY, bY] (e1.den)))))))) ∧ ((((allB (fun i => okP (selL [aX, bX] i) (selL [aY, bY] i)) 2) = false) → (((-1) : Int) = (sqd aX aY bX bY))) ∧ (((allB (fun i => okP (selL [aX, bX] i) (selL [aY, bY] i)) 2) = true) → (((((aX = aX) ∧ (((-9223372036854775808) ≤ aX ∧ aX ≤ 9223372036854775807) → ((-4000) ≤ aX ∧ aX ≤ 4000))) ∧ ((aY = aY) ∧ (((-9223372036854775808) ≤ aY ∧ aY ≤ 9223372036854775807) → ((-4000) ≤ aY ∧ aY ≤ 4000)))) ∧ (((bX = bX) ∧ (((-9223372036854775808) ≤ bX ∧ bX ≤ 9223372036854775807) → ((-4000) ≤ bX ∧ bX ≤ 4000))) ∧ ((bY = bY) ∧ (((-9223372036854775808) ≤ bY ∧ bY ≤ 9223372036854775807) → ((-4000) ≤ bY ∧ bY ≤ 4000))))) ∧ (((dst aX aY bX bY) = (sqd aX aY bX bY)) ∧ (((-128000000) ≤ (dst aX aY bX bY) ∧ (dst aX aY bX bY) ≤ 128000000) → ((-1) ≤ (sqd aX aY bX bY) ∧ (sqd aX aY bX bY) ≤ 128000000))))))))) (by kernel_rfl) ?_
  intro h1 h2
  refine ⟨rfl, ?_, ?_, ?_⟩
  · refine ⟨rfl, ?_, ?_⟩
    · intro e2
      intro c3
      refine ⟨?_, ?_⟩
        -- 1: aX = (selL [aX, bX] (e2.den))
      · first | rfl | omega | (intro h; simp [h]) | (simp_all [selL]; done) | (simp_all [allB2, okP_iff, selL]; omega) | (simp_all [sqd, allB2, selL]; done) | (have h9 := sq2_nn aX aY bX bY; simp_all [sqd, allB2, selL]; omega)
        -- 2: aY = (selL [aY, bY] (e2.den))
      · first | rfl | omega | (intro h; simp [h]) | (simp_all [selL]; done) | (simp_all [allB2, okP_iff, selL]; omega) | (simp_all [sqd, allB2, selL]; done) | (have h9 := sq2_nn aX aY bX bY; simp_all [sqd, allB2, selL]; omega)
    · intro e1
      intro c4
      refine ⟨?_, ?_⟩
        -- 3: bX = (selL [aX, bX] (e1.den))
      · first | rfl | omega | (intro h; simp [h]) | (simp_all [selL]; done) | (simp_all [allB2, okP_iff, selL]; omega) | (simp_all [sqd, allB2, selL]; done) | (have h9 := sq2_nn aX aY bX bY; simp_all [sqd, allB2, selL]; omega)
        -- 4: bY = (selL [aY, bY] (e1.den))
      · first | rfl | omega | (intro h; simp [h]) | (simp_all [selL]; done) | (simp_all [allB2, okP_iff, selL]; omega) | (simp_all [sqd, allB2, selL]; done) | (have h9 := sq2_nn aX aY bX bY; simp_all [sqd, allB2, selL]; omega)
  · intro c5
    -- 5: ((-1) : Int) = (sqd aX aY bX bY)
    first | rfl | omega | (intro h; simp [h]) | (simp_all [selL]; done) | (simp_all [allB2, okP_iff, selL]; omega) | (simp_all [sqd, allB2, selL]; done) | (have h9 := sq2_nn aX aY bX bY; simp_all [sqd, allB2, selL]; omega)
  · intro c6
    refine ⟨?_, ?_, ?_⟩
    · refine ⟨?_, ?_, rfl, ?_⟩
      · refine ⟨?_, rfl, ?_⟩
        · refine ⟨rfl, ?_⟩
          intro c7
          -- 6: (-4000) ≤ aX ∧ aX ≤ 4000
          first | rfl | omega | (intro h; simp [h]) | (simp_all [selL]; done) | (simp_all [allB2, okP_iff, selL]; omega) | (simp_all [sqd, allB2, selL]; done) | (have h9 := sq2_nn aX aY bX bY; simp_all [sqd, allB2, selL]; omega)
        · intro c8
          -- 7: (-4000) ≤ aY ∧ aY ≤ 4000
          first | rfl | omega | (intro h; simp [h]) | (simp_all [selL]; done) | (simp_all [allB2, okP_iff, selL]; omega) | (simp_all [sqd, allB2, selL]; done) | (have h9 := sq2_nn aX aY bX bY; simp_all [sqd, allB2, selL]; omega)
      · refine ⟨rfl, ?_⟩
        intro c9
        -- 8: (-4000) ≤ bX ∧ bX ≤ 4000
        first | rfl | omega | (intro h; simp [h]) | (simp_all [selL]; done) | (simp_all [allB2, okP_iff, selL]; omega) | (simp_all [sqd, allB2, selL]; done) | (have h9 := sq2_nn aX aY bX bY; simp_all [sqd, allB2, selL]; omega)
      · intro c10
        -- 9: (-4000) ≤ bY ∧ bY ≤ 4000
        first | rfl | omega | (intro h; simp [h]) | (simp_all [selL]; done) | (simp_all [allB2, okP_iff, selL]; omega) | (simp_all [sqd, allB2, selL]; done) | (have h9 := sq2_nn aX aY bX bY; simp_all [sqd, allB2, selL]; omega)
      -- 10: (dst aX aY bX bY) = (sqd aX aY bX bY)
    · first | rfl | omega | (intro h; simp [h]) | (simp_all [selL]; done) | (simp_all [allB2, okP_iff, selL]; omega) | (simp_all [sqd, allB2, selL]; done) | (have h9 := sq2_nn aX aY bX bY; simp_all [sqd, allB2, selL]; omega)
    · intro c11
      -- 11: (-1) ≤ (sqd aX aY bX bY) ∧ (sqd aX aY bX bY) ≤ 128000000
      first | rfl | omega | (intro h; simp [h]) | (simp_all [selL]; done) | (simp_all [allB2, okP_iff, selL]; omega) | (simp_all [sqd, allB2, selL]; done) | (have h9 := sq2_nn aX aY bX bY; simp_all [sqd, allB2, selL]; omega)
def c_i_SquaredDistance (aX : Int) (aY : Int) (bX : Int) (bY : Int) : Cn Try.prog := ⟨_, _, _, _, _, i_SquaredDistance aX aY bX bY⟩
theorem one_9y (C : Int → Int) (n : Int) (p : Int) (L : Int → Int) : RunsTo Try.prog 98 [(.ptr 0 2 (.lit 0) 0), (.sl 1 1 (.lit 0) (.lit 9) 9)] [some ⟨130, 2, true, (.lit [[(.sl 2 1 (.lit 0) (.v fun _ => n) 2000), (.int .i64 (.v fun _ => p) 0 9999990)]])⟩, some ⟨3, 1, true, (.sym (.lit 9) fun e => [(.int .i64 (.v fun _ => (L (e.den))) (-10000000) 10000000)])⟩, some ⟨5, 1, false, (.sym (.v fun _ => n) fun e => [(.int .u8 (.v fun _ => (C (e.den))) 0 255)])⟩] (.int .i64 (.v fun _ => (L (pk C n p 9))) (-10000000) 10000000) [some ⟨130, 2, true, (.lit [[(.sl 2 1 (.lit 0) (.v fun _ => n) 2000), (.int .i64 (.v fun _ => p + 1) 0 9999991)]])⟩, some ⟨3, 1, true, (.sym (.lit 9) fun e => [(.int .i64 (.v fun _ => (L (e.den))) (-10000000) 10000000)])⟩, some ⟨5, 1, false, (.sym (.v fun _ => n) fun e => [(.int .u8 (.v fun _ => (C (e.den))) 0 255)])⟩] := by
  refine RunsTo.go env Try.func98 rfl Try.call98 rfl rfl (fun _ _ => (.callF (c_pick_9 C n p) (.need (.need .ret)))) (G := (True) → (((0 ≤ n ∧ n ≤ 2000) ∧ (0 ≤ p ∧ p ≤ 9999990)) ∧ ((∀ e5 : E, ((0 ≤ e5.den ∧ e5.den < 9) → ((-10000000) ≤ ((L (e5.den))) ∧ ((L (e5.den))) ≤ 10000000))) ∧ (∀ e4 : E, ((0 ≤ e4.den ∧ e4.den < n) → (0 ≤ ((C (e4.den))) ∧ ((C (e4.den))) ≤ 255))))) → (((0 ≤ (9 : Int) ∧ (9 : Int) ≤ 9) → (9 ≤ (9 : Int) ∧ (9 : Int) ≤ 9)) ∧ ((((n = n) ∧ (p = p)) ∧ ((n ≤ n) ∧ (∀ e1 : E, ((0 ≤ e1.den ∧ e1.den < n) → (((C (e1.den))) = ((C (e1.den)))))))) ∧ ((0 ≤ (pk C n p 9) ∧ (pk C n p 9) ≤ 8) → ((((0 ≤ (pk C n p 9)) ∧ ((pk C n p 9) < 9))) ∧ (((pk C n p 9) < 9) ∧ ((((L (pk C n p 9))) = ((L (pk C n p 9)))) ∧ (((n = n) ∧ (((p + 1) = (p + 1)) ∧ ((0 ≤ (p + 1) ∧ (p + 1) ≤ 10000001) → (0 ≤ (p + 1) ∧ (p + 1) ≤ 9999991)))) ∧ ((((9 : Int) ≤ 9) ∧ (∀ e3 : E, ((0 ≤ e3.den ∧ e3.den < 9) → (((L (e3.den))) = ((L (e3.den))))))) ∧ ((n ≤ n) ∧ (∀ e2 : E, ((0 ≤ e2.den ∧ e2.den < n) → (((C (e2.den))) = ((C (e2.den)))))))))))))))) (by kernel_rfl) ?_
  intro h1 h2
  refine ⟨?_, ⟨⟨rfl, rfl⟩, ⟨Int.le_refl _, fun _ => fun _ => rfl⟩⟩, ?_⟩
  · intro c6
    -- 1: 9 ≤ (9 : Int) ∧ (9 : Int) ≤ 9
    first | rfl | omega
  · intro c7
    refine ⟨?_, ?_, rfl, ?_, ⟨Int.le_refl _, fun _ => fun _ => rfl⟩, Int.le_refl _, fun _ => fun _ => rfl⟩
      -- 2: ((0 ≤ (pk C n p 9)) ∧ ((pk C n p 9) < 9))
    · first | rfl | omega
      -- 3: (pk C n p 9) < 9
    · first | rfl | omega
    · refine ⟨rfl, rfl, ?_⟩
      intro c8
      -- 4: 0 ≤ (p + 1) ∧ (p + 1) ≤ 9999991
      first | rfl | omega
def c_one_9y (C : Int → Int) (n : Int) (p : Int) (L : Int → Int) : Cn Try.prog := ⟨_, _, _, _, _, one_9y C n p L⟩
def z1 (C : Int → Int) (n : Int) : Int := apX C (cut n) 0
def z2 (C : Int → Int) (n : Int) : Int := apY C (cut n) 0
def z3 (C : Int → Int) (n : Int) : Int := sgX C (cut n) 0
def z4 (C : Int → Int) (n : Int) : Int := sgY C (cut n) 0
def z5 (C : Int → Int) (n : Int) : Int := apX C (cut n) (sgP C (cut n) 0)
def z6 (C : Int → Int) (n : Int) : Int := apY C (cut n) (sgP C (cut n) 0)
def z7 (C : Int → Int) (n : Int) : Int := selL [0, 1, 2, 4, 5, 9, 8000000, -1, 8000001] (pk C (cut n) (apP C (cut n) (sgP C (cut n) 0)) 9)
theorem s_DrawCompareToSegment (C : Int → Int) (n : Int) : RunsTo Try.prog 37 [(.sl 0 1 (.lit 0) (.v fun _ => n) 9223372036854775807)] [some ⟨5, 1, false, (.sym (.v fun _ => n) fun e => [(.int .u8 (.v fun _ => (C (e.den))) 0 255)])⟩] (.tup [(.agg [(.int .i64 (.v fun _ => z1 C n) (-1001) 1001), (.int .i64 (.v fun _ => z2 C n) (-1001) 1001), (.int .i64 (.v fun _ => z3 C n) (-1001) 1001), (.int .i64 (.v fun _ => z4 C n) (-1001) 1001)]), (.agg [(.int .i64 (.v fun _ => z5 C n) (-1001) 1001), (.int .i64 (.v fun _ => z6 C n) (-1001) 1001)]), (.int .i64 (.v fun _ => z7 C n) (-10000000) 10000000)]) [some ⟨5, 1, false, (.sym (.v fun _ => cut n) fun e => [(.int .u8 (.v fun _ => (C (e.den))) 0 255)])⟩] := by
  refine RunsTo.go env Try.func37 rfl Try.call37 rfl rfl (fun _ _ => (.call (c_s_newReader C n) (.call (c_anySegment C (cut n) 0) (.call (c_anyPoint C (cut n) (sgP C (cut n) 0)) (.call (c_one_9y C (cut n) (apP C (cut n) (sgP C (cut n) 0)) (selL [0, 1, 2, 4, 5, 9, 8000000, (-1), 8000001])) .ret))))) (G := (0 ≤ n ∧ n ≤ 9223372036854775807) → (∀ e15 : E, ((0 ≤ e15.den ∧ e15.den < n) → (0 ≤ ((C (e15.den))) ∧ ((C (e15.den))) ≤ 255))) → ((n = n) ∧ (((n ≤ n) ∧ (∀ e1 : E, ((0 ≤ e1.den ∧ e1.den < n) → (((C (e1.den))) = ((C (e1.den))))))) ∧ (((((cut n) = (cut n)) ∧ ((0 : Int) = 0)) ∧ (((cut n) ≤ (cut n)) ∧ (∀ e2 : E, ((0 ≤ e2.den ∧ e2.den < (cut n)) → (((C (e2.den))) = ((C (e2.den)))))))) ∧ (((((cut n) = (cut n)) ∧ ((sgP C (cut n) 0) = (sgP C (cut n) 0))) ∧ (((cut n) ≤ (cut n)) ∧ (∀ e3 : E, ((0 ≤ e3.den ∧ e3.den < (cut n)) → (((C (e3.den))) = ((C (e3.den)))))))) ∧ (((((cut n) = (cut n)) ∧ ((apP C (cut n) (sgP C (cut n) 0)) = (apP C (cut n) (sgP C (cut n) 0)))) ∧ (((∀ e13 : E, ((e13.den = 0) → ((0 : Int) = (selL [0, 1, 2, 4, 5, 9, 8000000, (-1), 8000001] (e13.den))))) ∧ ((∀ e12 : E, ((e12.den = 1) → ((1 : Int) = (selL [0, 1, 2, 4, 5, 9, 8000000, (-1), 8000001] (e12.den))))) ∧ ((∀ e11 : E, ((e11.den = 2) → ((2 : Int) = (selL [0, 1, 2, 4, 5, 9, 8000000, (-1), 8000001] (e11.den))))) ∧ ((∀ e10 : E, ((e10.den = 3) → ((4 : Int) = (selL [0, 1, 2, 4, 5, 9, 8000000, (-1), 8000001] (e10.den))))) ∧ ((∀ e9 : E, ((e9.den = 4) → ((5 : Int) = (selL [0, 1, 2, 4, 5, 9, 8000000, (-1), 8000001] (e9.den))))) ∧ ((∀ e8 : E, ((e8.den = 5) → ((9 : Int) = (selL [0, 1, 2, 4, 5, 9, 8000000, (-1), 8000001] (e8.den))))) ∧ ((∀ e7 : E, ((e7.den = 6) → ((8000000 : Int) = (selL [0, 1, 2, 4, 5, 9, 8000000, (-1), 8000001] (e7.den))))) ∧ ((∀ e6 : E, ((e6.den = 7) → (((-1) : Int) = (selL [0, 1, 2, 4, 5, 9, 8000000, (-1), 8000001] (e6.den))))) ∧ (∀ e5 : E, ((e5.den = 8) → ((8000001 : Int) = (selL [0, 1, 2, 4, 5, 9, 8000000, (-1), 8000001] (e5.den))))))))))))) ∧ (((cut n) ≤ (cut n)) ∧ (∀ e4 : E, ((0 ≤ e4.den ∧ e4.den < (cut n)) → (((C (e4.den))) = ((C (e4.den))))))))) ∧ (((((apX C (cut n) 0) = (z1 C n)) ∧ (((apY C (cut n) 0) = (z2 C n)) ∧ (((sgX C (cut n) 0) = (z3 C n)) ∧ ((sgY C (cut n) 0) = (z4 C n))))) ∧ ((((apX C (cut n) (sgP C (cut n) 0)) = (z5 C n)) ∧ ((apY C (cut n) (sgP C (cut n) 0)) = (z6 C n))) ∧ (((selL [0, 1, 2, 4, 5, 9, 8000000, (-1), 8000001] (pk C (cut n) (apP C (cut n) (sgP C (cut n) 0)) 9))) = (z7 C n)))) ∧ (((cut n) ≤ (cut n)) ∧ (∀ e14 : E, ((0 ≤ e14.den ∧ e14.den < (cut n)) → (((C (e14.den))) = ((C (e14.den)))))))))))))) (by kernel_rfl) ?_
  intro h1 h2
  have ha := sgP_bd C (cut n) 0
  have hb := apP_bd C (cut n) (sgP C (cut n) 0)
  refine ⟨rfl, ⟨Int.le_refl _, fun _ => fun _ => rfl⟩, ⟨⟨rfl, rfl⟩, ⟨Int.le_refl _, fun _ => fun _ => rfl⟩⟩, ⟨⟨rfl, rfl⟩, ⟨Int.le_refl _, fun _ => fun _ => rfl⟩⟩, ?_, ?_, Int.le_refl _, fun _ => fun _ => rfl⟩
  · refine ⟨⟨rfl, rfl⟩, ?_, Int.le_refl _, fun _ => fun _ => rfl⟩
    refine ⟨?_, ?_, ?_, ?_, ?_, ?_, ?_, ?_, ?_⟩
    · intro e13
      intro c16
      -- 1: (0 : Int) = (selL [0, 1, 2, 4, 5, 9, 8000000, (-1), 8000001] (e13.den))
      first | rfl | omega | (simp_all [selL]; done) | (simp_all [selL]; omega)
    · intro e12
      intro c17
      -- 2: (1 : Int) = (selL [0, 1, 2, 4, 5, 9, 8000000, (-1), 8000001] (e12.den))
      first | rfl | omega | (simp_all [selL]; done) | (simp_all [selL]; omega)
    · intro e11
      intro c18
      -- 3: (2 : Int) = (selL [0, 1, 2, 4, 5, 9, 8000000, (-1), 8000001] (e11.den))
      first | rfl | omega | (simp_all [selL]; done) | (simp_all [selL]; omega)
    · intro e10
      intro c19
      -- 4: (4 : Int) = (selL [0, 1, 2, 4, 5, 9, 8000000, (-1), 8000001] (e10.den))
      first | rfl | omega | (simp_all [selL]; done) | (simp_all [selL]; omega)
    · intro e9
      intro c20
      -- 5: (5 : Int) = (selL [0, 1, 2, 4, 5, 9, 8000000, (-1), 8000001] (e9.den))
      first | rfl | omega | (simp_all [selL]; done) | (simp_all [selL]; omega)
    · intro e8
      intro c21
      -- 6: (9 : Int) = (selL [0, 1, 2, 4, 5, 9, 8000000, (-1), 8000001] (e8.den))
      first | rfl | omega | (simp_all [selL]; done) | (simp_all [selL]; omega)
    · intro e7
      intro c22
      -- 7: (8000000 : Int) = (selL [0, 1, 2, 4, 5, 9, 8000000, (-1), 8000001] (e7.den))
      first | rfl | omega | (simp_all [selL]; done) | (simp_all [selL]; omega)
    · intro e6
      intro c23
      -- 8: ((-1) : Int) = (selL [0, 1, 2, 4, 5, 9, 8000000, (-1), 8000001] (e6.den))
      first | rfl | omega | (simp_all [selL]; done) | (simp_all [selL]; omega)
    · intro e5
      intro c24
      -- 9: (8000001 : Int) = (selL [0, 1, 2, 4, 5, 9, 8000000, (-1), 8000001] (e5.den))
      first | rfl | omega | (simp_all [selL]; done) | (simp_all [selL]; omega)
  · refine ⟨?_, ?_, ?_⟩
    · refine ⟨?_, ?_, ?_, ?_⟩
        -- 10: (apX C (cut n) 0) = (z1 C n)
      · first | rfl | omega | (simp_all [selL]; done) | (simp_all [selL]; omega)
        -- 11: (apY C (cut n) 0) = (z2 C n)
      · first | rfl | omega | (simp_all [selL]; done) | (simp_all [selL]; omega)
        -- 12: (sgX C (cut n) 0) = (z3 C n)
      · first | rfl | omega | (simp_all [selL]; done) | (simp_all [selL]; omega)
        -- 13: (sgY C (cut n) 0) = (z4 C n)
      · first | rfl | omega | (simp_all [selL]; done) | (simp_all [selL]; omega)
    · refine ⟨?_, ?_⟩
        -- 14: (apX C (cut n) (sgP C (cut n) 0)) = (z5 C n)
      · first | rfl | omega | (simp_all [selL]; done) | (simp_all [selL]; omega)
        -- 15: (apY C (cut n) (sgP C (cut n) 0)) = (z6 C n)
      · first | rfl | omega | (simp_all [selL]; done) | (simp_all [selL]; omega)
      -- 16: ((selL [0, 1, 2, 4, 5, 9, 8000000, (-1), 8000001] (pk C (cut n) (apP C (cut n) (sgP C (cut n) 0)) 9)
    · first | rfl | omega | (simp_all [selL]; done) | (simp_all [selL]; omega)
def c_s_DrawCompareToSegment (C : Int → Int) (n : Int) : Cn Try.prog := ⟨_, _, _, _, _, s_DrawCompareToSegment C n⟩
theorem l_FnCompareToSegment (C : Int → Int) (n : Int) : RunsTo Try.prog 9 [(.sl 0 1 (.lit 0) (.v fun _ => n) 9223372036854775807)] [some ⟨5, 1, false, (.sym (.v fun _ => n) fun e => [(.int .u8 (.v fun _ => (C (e.den))) 0 255)])⟩] (.bool (.lit true)) [none] := by
  refine RunsTo.go env Try.func9 rfl Try.call9 rfl rfl (fun _ _ => (.ite .ret (.callF (c_s_DrawCompareToSegment C n) (.callF (c_i_CompareToSegment (z1 C n) (z2 C n) (z3 C n) (z4 C n) (z5 C n) (z6 C n) (z7 C n)) (.callF (c_s_CompareToSegment (z1 C n) (z2 C n) (z3 C n) (z4 C n) (z5 C n) (z6 C n) (z7 C n)) (.ite (.callF (c_s_CompareToSegment (z1 C n) (z2 C n) (z3 C n) (z4 C n) (z5 C n) (z6 C n) (z7 C n)) .ret) (.ite (.callF (c_s_CompareToSegment (z1 C n) (z2 C n) (z3 C n) (z4 C n) (z5 C n) (z6 C n) (z7 C n)) .ret) (.call (c_i_SquaredDistance (z1 C n) (z2 C n) (z5 C n) (z6 C n)) (.call (c_i_CompareToSegment (z1 C n) (z2 C n) (z3 C n) (z4 C n) (z5 C n) (z6 C n) (sqd (z1 C n) (z2 C n) (z5 C n) (z6 C n))) (.ite (.call (c_i_SquaredDistance (z3 C n) (z4 C n) (z5 C n) (z6 C n)) (.call (c_i_CompareToSegment (z1 C n) (z2 C n) (z3 C n) (z4 C n) (z5 C n) (z6 C n) (sqd (z3 C n) (z4 C n) (z5 C n) (z6 C n))) (.ite (.call (c_i_CompareToSegment (z1 C n) (z2 C n) (z3 C n) (z4 C n) (z5 C n) (z6 C n) 0) (.call (c_i_OnSegment (z1 C n) (z2 C n) (z3 C n) (z4 C n) (z5 C n) (z6 C n)) (.ite (.ite .ret (.call (c_i_CompareToSegment (z1 C n) (z2 C n) (z3 C n) (z4 C n) (z5 C n) (z6 C n) ((z7 C n) + 1)) .ret)) .ret))) .ret))) .ret)))))))))) (G := (0 ≤ n ∧ n ≤ 9223372036854775807) → (∀ e2 : E, ((0 ≤ e2.den ∧ e2.den < n) → (0 ≤ ((C (e2.den))) ∧ ((C (e2.den))) ≤ 255))) → ((n ≤ 1048576) → ((n = n) ∧ (((n ≤ n) ∧ (∀ e1 : E, ((0 ≤ e1.den ∧ e1.den < n) → (((C (e1.den))) = ((C (e1.den))))))) ∧ (((((-1001) ≤ (z1 C n) ∧ (z1 C n) ≤ 1001) ∧ (((-1001) ≤ (z2 C n) ∧ (z2 C n) ≤ 1001) ∧ (((-1001) ≤ (z3 C n) ∧ (z3 C n) ≤ 1001) ∧ ((-1001) ≤ (z4 C n) ∧ (z4 C n) ≤ 1001)))) ∧ ((((-1001) ≤ (z5 C n) ∧ (z5 C n) ≤ 1001) ∧ ((-1001) ≤ (z6 C n) ∧ (z6 C n) ≤ 1001)) ∧ ((-10000000) ≤ (z7 C n) ∧ (z7 C n) ≤ 10000000))) → (((((z1 C n) = (z1 C n)) ∧ (((z2 C n) = (z2 C n)) ∧ (((z3 C n) = (z3 C n)) ∧ ((z4 C n) = (z4 C n))))) ∧ ((((z5 C n) = (z5 C n)) ∧ ((z6 C n) = (z6 C n))) ∧ ((z7 C n) = (z7 C n)))) ∧ (((-1) ≤ (cts (z1 C n) (z2 C n) (z3 C n) (z4 C n) (z5 C n) (z6 C n) (z7 C n)) ∧ (cts (z1 C n) (z2 C n) (z3 C n) (z4 C n) (z5 C n) (z6 C n) (z7 C n)) ≤ 2) → (((((z1 C n) = (z1 C n)) ∧ (((z2 C n) = (z2 C n)) ∧ (((z3 C n) = (z3 C n)) ∧ ((z4 C n) = (z4 C n))))) ∧ ((((z5 C n) = (z5 C n)) ∧ ((z6 C n) = (z6 C n))) ∧ ((z7 C n) = (z7 C n)))) ∧ (((-1) ≤ (cts (z1 C n) (z2 C n) (z3 C n) (z4 C n) (z5 C n) (z6 C n) (z7 C n)) ∧ (cts (z1 C n) (z2 C n) (z3 C n) (z4 C n) (z5 C n) (z6 C n) (z7 C n)) ≤ 2) → ((((cts (z1 C n) (z2 C n) (z3 C n) (z4 C n) (z5 C n) (z6 C n) (z7 C n)) ≠ (cts (z1 C n) (z2 C n) (z3 C n) (z4 C n) (z5 C n) (z6 C n) (z7 C n))) → (((((z1 C n) = (z1 C n)) ∧ (((z2 C n) = (z2 C n)) ∧ (((z3 C n) = (z3 C n)) ∧ ((z4 C n) = (z4 C n))))) ∧ ((((z5 C n) = (z5 C n)) ∧ ((z6 C n) = (z6 C n))) ∧ ((z7 C n) = (z7 C n)))) ∧ (((-1) ≤ (cts (z1 C n) (z2 C n) (z3 C n) (z4 C n) (z5 C n) (z6 C n) (z7 C n)) ∧ (cts (z1 C n) (z2 C n) (z3 C n) (z4 C n) (z5 C n) (z6 C n) (z7 C n)) ≤ 2) → ((cts (z1 C n) (z2 C n) (z3 C n) (z4 C n) (z5 C n) (z6 C n) (z7 C n)) = (cts (z1 C n) (z2 C n) (z3 C n) (z4 C n) (z5 C n) (z6 C n) (z7 C n)))))) ∧ (((cts (z1 C n) (z2 C n) (z3 C n) (z4 C n) (z5 C n) (z6 C n) (z7 C n)) = (cts (z1 C n) (z2 C n) (z3 C n) (z4 C n) (z5 C n) (z6 C n) (z7 C n))) → ((((cts (z1 C n) (z2 C n) (z3 C n) (z4 C n) (z5 C n) (z6 C n) (z7 C n)) = 2) → (((((z1 C n) = (z1 C n)) ∧ (((z2 C n) = (z2 C n)) ∧ (((z3 C n) = (z3 C n)) ∧ ((z4 C n) = (z4 C n))))) ∧ ((((z5 C n) = (z5 C n)) ∧ ((z6 C n) = (z6 C n))) ∧ ((z7 C n) = (z7 C n)))) ∧ (((-1) ≤ (cts (z1 C n) (z2 C n) (z3 C n) (z4 C n) (z5 C n) (z6 C n) (z7 C n)) ∧ (cts (z1 C n) (z2 C n) (z3 C n) (z4 C n) (z5 C n) (z6 C n) (z7 C n)) ≤ 2) → ((cts (z1 C n) (z2 C n) (z3 C n) (z4 C n) (z5 C n) (z6 C n) (z7 C n)) = (cts (z1 C n) (z2 C n) (z3 C n) (z4 C n) (z5 C n) (z6 C n) (z7 C n)))))) ∧ (((cts (z1 C n) (z2 C n) (z3 C n) (z4 C n) (z5 C n) (z6 C n) (z7 C n)) ≠ 2) → (((((z1 C n) = (z1 C n)) ∧ ((z2 C n) = (z2 C n))) ∧ (((z5 C n) = (z5 C n)) ∧ ((z6 C n) = (z6 C n)))) ∧ (((((z1 C n) = (z1 C n)) ∧ (((z2 C n) = (z2 C n)) ∧ (((z3 C n) = (z3 C n)) ∧ ((z4 C n) = (z4 C n))))) ∧ ((((z5 C n) = (z5 C n)) ∧ ((z6 C n) = (z6 C n))) ∧ ((sqd (z1 C n) (z2 C n) (z5 C n) (z6 C n)) = (sqd (z1 C n) (z2 C n) (z5 C n) (z6 C n))))) ∧ ((((cts (z1 C n) (z2 C n) (z3 C n) (z4 C n) (z5 C n) (z6 C n) (sqd (z1 C n) (z2 C n) (z5 C n) (z6 C n))) ≤ 0) → (((((z3 C n) = (z3 C n)) ∧ ((z4 C n) = (z4 C n))) ∧ (((z5 C n) = (z5 C n)) ∧ ((z6 C n) = (z6 C n)))) ∧ (((((z1 C n) = (z1 C n)) ∧ (((z2 C n) = (z2 C n)) ∧ (((z3 C n) = (z3 C n)) ∧ ((z4 C n) = (z4 C n))))) ∧ ((((z5 C n) = (z5 C n)) ∧ ((z6 C n) = (z6 C n))) ∧ ((sqd (z3 C n) (z4 C n) (z5 C n) (z6 C n)) = (sqd (z3 C n) (z4 C n) (z5 C n) (z6 C n))))) ∧ ((((cts (z1 C n) (z2 C n) (z3 C n) (z4 C n) (z5 C n) (z6 C n) (sqd (z3 C n) (z4 C n) (z5 C n) (z6 C n))) ≤ 0) → (((((z1 C n) = (z1 C n)) ∧ (((z2 C n) = (z2 C n)) ∧ (((z3 C n) = (z3 C n)) ∧ ((z4 C n) = (z4 C n))))) ∧ ((((z5 C n) = (z5 C n)) ∧ ((z6 C n) = (z6 C n))) ∧ ((0 : Int) = 0))) ∧ (((((z1 C n) = (z1 C n)) ∧ (((z2 C n) = (z2 C n)) ∧ (((z3 C n) = (z3 C n)) ∧ ((z4 C n) = (z4 C n))))) ∧ (((z5 C n) = (z5 C n)) ∧ ((z6 C n) = (z6 C n)))) ∧ ((((((cts (z1 C n) (z2 C n) (z3 C n) (z4 C n) (z5 C n) (z6 C n) 0) = 0) ↔ ((onSeg (z1 C n) (z2 C n) (z3 C n) (z4 C n) (z5 C n) (z6 C n)) = true))) → (((z7 C n) ≠ 8000000) → (((((z1 C n) = (z1 C n)) ∧ (((z2 C n) = (z2 C n)) ∧ (((z3 C n) = (z3 C n)) ∧ ((z4 C n) = (z4 C n))))) ∧ ((((z5 C n) = (z5 C n)) ∧ ((z6 C n) = (z6 C n))) ∧ (((z7 C n) + 1) = ((z7 C n) + 1)))) ∧ ((cts (z1 C n) (z2 C n) (z3 C n) (z4 C n) (z5 C n) (z6 C n) ((z7 C n) + 1)) ≤ (cts (z1 C n) (z2 C n) (z3 C n) (z4 C n) (z5 C n) (z6 C n) (z7 C n)))))) ∧ (((((cts (z1 C n) (z2 C n) (z3 C n) (z4 C n) (z5 C n) (z6 C n) 0) = 0) ↔ ((onSeg (z1 C n) (z2 C n) (z3 C n) (z4 C n) (z5 C n) (z6 C n)) = false))) → (False)))))) ∧ ((0 < (cts (z1 C n) (z2 C n) (z3 C n) (z4 C n) (z5 C n) (z6 C n) (sqd (z3 C n) (z4 C n) (z5 C n) (z6 C n)))) → (False)))))) ∧ ((0 < (cts (z1 C n) (z2 C n) (z3 C n) (z4 C n) (z5 C n) (z6 C n) (sqd (z1 C n) (z2 C n) (z5 C n) (z6 C n)))) → (False)))))))))))))))))) (by kernel_rfl) ?_
  intro h1 h2
  intro c3
  refine ⟨rfl, ⟨Int.le_refl _, fun _ => fun _ => rfl⟩, ?_⟩
  intro c4
  refine ⟨⟨⟨rfl, ⟨rfl, ⟨rfl, rfl⟩⟩⟩, ⟨⟨rfl, rfl⟩, rfl⟩⟩, ?_⟩
  intro c5
  refine ⟨⟨⟨rfl, ⟨rfl, ⟨rfl, rfl⟩⟩⟩, ⟨⟨rfl, rfl⟩, rfl⟩⟩, ?_⟩
  intro c6
  refine ⟨?_, ?_⟩
  · intro c7
    refine ⟨⟨⟨rfl, ⟨rfl, ⟨rfl, rfl⟩⟩⟩, ⟨⟨rfl, rfl⟩, rfl⟩⟩, ?_⟩
    intro c8
    -- 1: (cts (z1 C n) (z2 C n) (z3 C n) (z4 C n) (z5 C n) (z6 C n) (z7 C n)) = (cts (z1 C n) (z2 C n) (z3 C 
    first | rfl | omega | (have hm := cts_law (aX := z1 C n) (aY := z2 C n) (bX := z3 C n) (bY := z4 C n) (pX := z5 C n) (pY := z6 C n) (n := z7 C n) (by assumption); first | omega | exact hm.1 | exact hm.2.1 | (simp_all; done)) | (simp_all; done)
  · intro c9
    refine ⟨?_, ?_⟩
    · intro c10
      refine ⟨⟨⟨rfl, ⟨rfl, ⟨rfl, rfl⟩⟩⟩, ⟨⟨rfl, rfl⟩, rfl⟩⟩, ?_⟩
      intro c11
      -- 2: (cts (z1 C n) (z2 C n) (z3 C n) (z4 C n) (z5 C n) (z6 C n) (z7 C n)) = (cts (z1 C n) (z2 C n) (z3 C 
      first | rfl | omega | (have hm := cts_law (aX := z1 C n) (aY := z2 C n) (bX := z3 C n) (bY := z4 C n) (pX := z5 C n) (pY := z6 C n) (n := z7 C n) (by assumption); first | omega | exact hm.1 | exact hm.2.1 | (simp_all; done)) | (simp_all; done)
    · intro c12
      refine ⟨⟨⟨rfl, rfl⟩, ⟨rfl, rfl⟩⟩, ⟨⟨rfl, ⟨rfl, ⟨rfl, rfl⟩⟩⟩, ⟨⟨rfl, rfl⟩, rfl⟩⟩, ?_, ?_⟩
      · intro c13
        refine ⟨⟨⟨rfl, rfl⟩, ⟨rfl, rfl⟩⟩, ⟨⟨rfl, ⟨rfl, ⟨rfl, rfl⟩⟩⟩, ⟨⟨rfl, rfl⟩, rfl⟩⟩, ?_, ?_⟩
        · intro c14
          refine ⟨⟨⟨rfl, ⟨rfl, ⟨rfl, rfl⟩⟩⟩, ⟨⟨rfl, rfl⟩, rfl⟩⟩, ⟨⟨rfl, ⟨rfl, ⟨rfl, rfl⟩⟩⟩, ⟨rfl, rfl⟩⟩, ?_, ?_⟩
          · intro c15
            intro c16
            refine ⟨⟨⟨rfl, ⟨rfl, ⟨rfl, rfl⟩⟩⟩, ⟨⟨rfl, rfl⟩, rfl⟩⟩, ?_⟩
            -- 3: (cts (z1 C n) (z2 C n) (z3 C n) (z4 C n) (z5 C n) (z6 C n) ((z7 C n) + 1)) ≤ (cts (z1 C n) (z2 C n) 
            first | rfl | omega | (have hm := cts_law (aX := z1 C n) (aY := z2 C n) (bX := z3 C n) (bY := z4 C n) (pX := z5 C n) (pY := z6 C n) (n := z7 C n) (by assumption); first | omega | exact hm.1 | exact hm.2.1 | (simp_all; done)) | (simp_all; done)
          · intro c17
            -- 4: False
            first | rfl | omega | (have hm := cts_law (aX := z1 C n) (aY := z2 C n) (bX := z3 C n) (bY := z4 C n) (pX := z5 C n) (pY := z6 C n) (n := z7 C n) (by assumption); first | omega | exact hm.1 | exact hm.2.1 | (simp_all; done)) | (simp_all; done)
        · intro c18
          -- 5: False
          first | rfl | omega | (have hm := cts_law (aX := z1 C n) (aY := z2 C n) (bX := z3 C n) (bY := z4 C n) (pX := z5 C n) (pY := z6 C n) (n := z7 C n) (by assumption); first | omega | exact hm.1 | exact hm.2.1 | (simp_all; done)) | (simp_all; done)
      · intro c19
        -- 6: False
        first | rfl | omega | (have hm := cts_law (aX := z1 C n) (aY := z2 C n) (bX := z3 C n) (bY := z4 C n) (pX := z5 C n) (pY := z6 C n) (n := z7 C n) (by assumption); first | omega | exact hm.1 | exact hm.2.1 | (simp_all; done)) | (simp_all; done)
def c_l_FnCompareToSegment (C : Int → Int) (n : Int) : Cn Try.prog := ⟨_, _, _, _, _, l_FnCompareToSegment C n⟩
end Go.Proofs.Ytheehhfmdmflmaa
