/- Segments. -/
import Derived.Test.YtnombddkojljdaaK12
set_option linter.unusedSimpArgs false
set_option linter.unusedVariables false
set_option maxRecDepth 100000
namespace Go.Proofs.Ytnombddkojljdaa
open Go.Sym
def dotp (ax ay bx bY px py : Int) : Int := (ax - px) * (bx - px) + (ay - py) * (bY - py)
/-- A point is on a segment. -/
def onB (ax ay bx bY px py : Int) : Bool := decide (trn ax ay bx bY px py = 0) && decide (dotp ax ay bx bY px py ≤ 0)
def boxB (ax ay bx bY px py : Int) : Bool := (decide (min ax bx ≤ px) && decide (px ≤ max ax bx)) && (decide (min ay bY ≤ py) && decide (py ≤ max ay bY))
theorem ilt_or_ge (a b : Int) : a < b ∨ b ≤ a := by omega
/-- On a line, the inner product is negative exactly between both ends. -/
theorem box_iff (ax ay bx bY px py : Int) (h : trn ax ay bx bY px py = 0) : boxB ax ay bx bY px py = true ↔ dotp ax ay bx bY px py ≤ 0 := by
  have e : (ax - px) * (bY - py) = (ay - py) * (bx - px) := by unfold trn at h; grind
  unfold boxB dotp
  generalize hu : ax - px = u at e ⊢
  generalize hv : bx - px = v at e ⊢
  generalize hs : ay - py = s at e ⊢
  generalize ht : bY - py = t at e ⊢
  have hb : (decide (min ax bx ≤ px) && decide (px ≤ max ax bx) && (decide (min ay bY ≤ py) && decide (py ≤ max ay bY))) = true ↔ ((u ≤ 0 ∧ 0 ≤ v) ∨ (v ≤ 0 ∧ 0 ≤ u)) ∧ ((s ≤ 0 ∧ 0 ≤ t) ∨ (t ≤ 0 ∧ 0 ≤ s)) := by
    simp only [Bool.and_eq_true, decide_eq_true_eq]
    omega
  rw [hb]
  have k1 : ((u ≤ 0 ∧ 0 ≤ v) ∨ (v ≤ 0 ∧ 0 ≤ u)) ↔ u * v ≤ 0 := by
    constructor
    · rintro (⟨h1, h2⟩ | ⟨h1, h2⟩)
      · exact Int.mul_nonpos_of_nonpos_of_nonneg h1 h2
      · rw [Int.mul_comm]; exact Int.mul_nonpos_of_nonpos_of_nonneg h1 h2
    · intro hle
      rcases Int.lt_trichotomy u 0 with h1 | h1 | h1
      · left
        refine ⟨by omega, ?_⟩
        rcases ilt_or_ge v 0 with h2 | h2
        · have := Int.mul_pos_of_neg_of_neg h1 h2; omega
        · exact h2
      · omega
      · right
        refine ⟨?_, by omega⟩
        rcases ilt_or_ge 0 v with h2 | h2
        · have := Int.mul_pos h1 h2; omega
        · exact h2
  have k2 : ((s ≤ 0 ∧ 0 ≤ t) ∨ (t ≤ 0 ∧ 0 ≤ s)) ↔ s * t ≤ 0 := by
    constructor
    · rintro (⟨h1, h2⟩ | ⟨h1, h2⟩)
      · exact Int.mul_nonpos_of_nonpos_of_nonneg h1 h2
      · rw [Int.mul_comm]; exact Int.mul_nonpos_of_nonpos_of_nonneg h1 h2
    · intro hle
      rcases Int.lt_trichotomy s 0 with h1 | h1 | h1
      · left
        refine ⟨by omega, ?_⟩
        rcases ilt_or_ge t 0 with h2 | h2
        · have := Int.mul_pos_of_neg_of_neg h1 h2; omega
        · exact h2
      · omega
      · right
        refine ⟨?_, by omega⟩
        rcases ilt_or_ge 0 t with h2 | h2
        · have := Int.mul_pos h1 h2; omega
        · exact h2
  rw [k1, k2]
  have key : (u * v) * (s * t) = (u * t) * (u * t) := by rw [show (u * v) * (s * t) = (u * t) * (s * v) by grind, e]
  have sq : 0 ≤ (u * t) * (u * t) := by
    rcases Int.le_total 0 (u * t) with h1 | h1
    · exact Int.mul_nonneg h1 h1
    · have := Int.mul_nonneg (show 0 ≤ -(u * t) by omega) (show 0 ≤ -(u * t) by omega)
      rwa [Int.neg_mul_neg] at this
  rw [← key] at sq
  constructor
  · rintro ⟨h1, h2⟩; omega
  · intro hle
    constructor
    · rcases ilt_or_ge 0 (u * v) with h1 | h1
      · rcases ilt_or_ge (s * t) 0 with h2 | h2
        · have := Int.mul_neg_of_pos_of_neg h1 h2; omega
        · omega
      · exact h1
    · rcases ilt_or_ge 0 (s * t) with h1 | h1
      · rcases ilt_or_ge (u * v) 0 with h2 | h2
        · have := Int.mul_neg_of_neg_of_pos h2 h1; omega
        · omega
      · exact h1
theorem onB_box (ax ay bx bY px py : Int) : onB ax ay bx bY px py = (decide (trn ax ay bx bY px py = 0) && boxB ax ay bx bY px py) := by
  unfold onB
  by_cases h : trn ax ay bx bY px py = 0
  · have := box_iff ax ay bx bY px py h
    simp only [h, decide_true, Bool.true_and]
    rw [Bool.eq_iff_iff, decide_eq_true_eq]
    exact this.symm
  · simp [h]
def okS (ax ay bx bY : Int) : Bool := okP ax ay && okP bx bY && !(decide (ax = bx) && decide (ay = bY))
def onSeg (ax ay bx bY px py : Int) : Bool := okS ax ay bx bY && (okP px py && onB ax ay bx bY px py)
theorem i_has (sAX : Int) (sAY : Int) (sBX : Int) (sBY : Int) (pX : Int) (pY : Int) : RunsTo Try.prog 25 [(.agg [(.int .i64 (.v fun _ => sAX) (-2002) 2002), (.int .i64 (.v fun _ => sAY) (-2002) 2002), (.int .i64 (.v fun _ => sBX) (-2002) 2002), (.int .i64 (.v fun _ => sBY) (-2002) 2002)]), (.agg [(.int .i64 (.v fun _ => pX) (-2002) 2002), (.int .i64 (.v fun _ => pY) (-2002) 2002)])] [] (.bool (.v fun _ => onB sAX sAY sBX sBY pX pY)) [] := by
  refine RunsTo.go env Try.func25 rfl Try.call25 rfl rfl (fun _ _ => (.call (c_i_turn sAX sAY sBX sBY pX pY) (.ite (.call (c_i_minus sAX sAY pX pY) (.call (c_i_minus sBX sBY pX pY) (.call (c_i_dot (sAX - pX) (sAY - pY) (sBX - pX) (sBY - pY)) .ret))) .ret))) (G := ((((-2002) ≤ sAX ∧ sAX ≤ 2002) ∧ (((-2002) ≤ sAY ∧ sAY ≤ 2002) ∧ (((-2002) ≤ sBX ∧ sBX ≤ 2002) ∧ ((-2002) ≤ sBY ∧ sBY ≤ 2002)))) ∧ (((-2002) ≤ pX ∧ pX ≤ 2002) ∧ ((-2002) ≤ pY ∧ pY ≤ 2002))) → (True) → ((((sAX = sAX) ∧ (sAY = sAY)) ∧ (((sBX = sBX) ∧ (sBY = sBY)) ∧ ((pX = pX) ∧ (pY = pY)))) ∧ ((((trn sAX sAY sBX sBY pX pY) = 0) → ((((sAX = sAX) ∧ (sAY = sAY)) ∧ ((pX = pX) ∧ (pY = pY))) ∧ ((((sBX = sBX) ∧ (sBY = sBY)) ∧ ((pX = pX) ∧ (pY = pY))) ∧ (((((sAX - pX) = (sAX - pX)) ∧ ((sAY - pY) = (sAY - pY))) ∧ (((sBX - pX) = (sBX - pX)) ∧ ((sBY - pY) = (sBY - pY)))) ∧ ((((sAX - pX) * (sBX - pX) + (sAY - pY) * (sBY - pY)) ≤ 0) ↔ ((onB sAX sAY sBX sBY pX pY) = true)))))) ∧ (((trn sAX sAY sBX sBY pX pY) ≠ 0) → ((onB sAX sAY sBX sBY pX pY) = false))))) (by kernel_rfl) ?_
  intro h1 h2
  refine ⟨⟨⟨rfl, rfl⟩, ⟨⟨rfl, rfl⟩, ⟨rfl, rfl⟩⟩⟩, ?_, ?_⟩
  · intro c1
    refine ⟨⟨⟨rfl, rfl⟩, ⟨rfl, rfl⟩⟩, ⟨⟨rfl, rfl⟩, ⟨rfl, rfl⟩⟩, ⟨⟨rfl, rfl⟩, ⟨rfl, rfl⟩⟩, ?_⟩
    simp only [onB, Bool.and_eq_true, decide_eq_true_eq]; unfold dotp; exact ⟨fun h => ⟨by assumption, h⟩, fun h => h.2⟩
  · intro c2
    simp_all [onB, dotp]; done
def c_i_has (sAX : Int) (sAY : Int) (sBX : Int) (sBY : Int) (pX : Int) (pY : Int) : Cn Try.prog := ⟨_, _, _, _, _, i_has sAX sAY sBX sBY pX pY⟩
theorem i_Segment_valid (sAX : Int) (sAY : Int) (sBX : Int) (sBY : Int) : RunsTo Try.prog 23 [(.agg [(.int .i64 (.v fun _ => sAX) (-2002) 2002), (.int .i64 (.v fun _ => sAY) (-2002) 2002), (.int .i64 (.v fun _ => sBX) (-2002) 2002), (.int .i64 (.v fun _ => sBY) (-2002) 2002)])] [] (.bool (.v fun _ => okS sAX sAY sBX sBY)) [] := by
  refine RunsTo.go env Try.func23 rfl Try.call23 rfl rfl (fun _ _ => (.call (c_i_allValid (selL [sAX, sBX]) (selL [sAY, sBY]) 2) (.ite .ret .ret))) (G := (((-2002) ≤ sAX ∧ sAX ≤ 2002) ∧ (((-2002) ≤ sAY ∧ sAY ≤ 2002) ∧ (((-2002) ≤ sBX ∧ sBX ≤ 2002) ∧ ((-2002) ≤ sBY ∧ sBY ≤ 2002)))) → (True) → (((2 : Int) = 2) ∧ ((((2 : Int) = 2) ∧ ((∀ e2 : E, ((e2.den = 0) → ((sAX = (selL [sAX, sBX] (e2.den))) ∧ (sAY = (selL [sAY, sBY] (e2.den)))))) ∧ (∀ e1 : E, ((e1.den = 1) → ((sBX = (selL [sAX, sBX] (e1.den))) ∧ (sBY = (selL [sAY, sBY] (e1.den)))))))) ∧ ((((allB (fun i => okP (selL [sAX, sBX] i) (selL [sAY, sBY] i)) 2) = true) → ((((sAX ≠ sBX) ∨ (sAY ≠ sBY))) ↔ ((okS sAX sAY sBX sBY) = true))) ∧ (((allB (fun i => okP (selL [sAX, sBX] i) (selL [sAY, sBY] i)) 2) = false) → ((okS sAX sAY sBX sBY) = false)))))) (by kernel_rfl) ?_
  intro h1 h2
  refine ⟨rfl, ?_, ?_, ?_⟩
  · refine ⟨rfl, ?_, ?_⟩
    · intro e2
      intro c3
      refine ⟨?_, ?_⟩
      · simp_all [selL]; done
      · simp_all [selL]; done
    · intro e1
      intro c4
      refine ⟨?_, ?_⟩
      · simp_all [selL]; done
      · simp_all [selL]; done
  · intro c5
    simp_all [okS, al2]; done
  · intro c6
    simp_all [okS, al2]; done
def c_i_Segment_valid (sAX : Int) (sAY : Int) (sBX : Int) (sBY : Int) : Cn Try.prog := ⟨_, _, _, _, _, i_Segment_valid sAX sAY sBX sBY⟩
theorem s_validSegment (sAX : Int) (sAY : Int) (sBX : Int) (sBY : Int) : RunsTo Try.prog 26 [(.agg [(.int .i64 (.v fun _ => sAX) (-2002) 2002), (.int .i64 (.v fun _ => sAY) (-2002) 2002), (.int .i64 (.v fun _ => sBX) (-2002) 2002), (.int .i64 (.v fun _ => sBY) (-2002) 2002)])] [] (.bool (.v fun _ => okS sAX sAY sBX sBY)) [] := by
  refine RunsTo.go env Try.func26 rfl Try.call26 rfl rfl (fun _ _ => (.call (c_s_validPoint sAX sAY) (.ite (.call (c_s_validPoint sBX sBY) (.ite .ret .ret)) .ret))) (G := (((-2002) ≤ sAX ∧ sAX ≤ 2002) ∧ (((-2002) ≤ sAY ∧ sAY ≤ 2002) ∧ (((-2002) ≤ sBX ∧ sBX ≤ 2002) ∧ ((-2002) ≤ sBY ∧ sBY ≤ 2002)))) → (True) → (((sAX = sAX) ∧ (sAY = sAY)) ∧ ((((okP sAX sAY) = true) → (((sBX = sBX) ∧ (sBY = sBY)) ∧ ((((okP sBX sBY) = true) → ((((sAX ≠ sBX) ∨ (sAY ≠ sBY))) ↔ ((okS sAX sAY sBX sBY) = true))) ∧ (((okP sBX sBY) = false) → ((okS sAX sAY sBX sBY) = false))))) ∧ (((okP sAX sAY) = false) → ((okS sAX sAY sBX sBY) = false))))) (by kernel_rfl) ?_
  intro h1 h2
  refine ⟨⟨rfl, rfl⟩, ?_, ?_⟩
  · intro c1
    refine ⟨⟨rfl, rfl⟩, ?_, ?_⟩
    · intro c2
      simp_all [okS, al2]; done
    · intro c3
      simp_all [okS, al2]; done
  · intro c4
    simp_all [okS, al2]; done
def c_s_validSegment (sAX : Int) (sAY : Int) (sBX : Int) (sBY : Int) : Cn Try.prog := ⟨_, _, _, _, _, s_validSegment sAX sAY sBX sBY⟩
theorem i_OnSegment (sAX : Int) (sAY : Int) (sBX : Int) (sBY : Int) (pX : Int) (pY : Int) : RunsTo Try.prog 7 [(.agg [(.int .i64 (.v fun _ => sAX) (-2002) 2002), (.int .i64 (.v fun _ => sAY) (-2002) 2002), (.int .i64 (.v fun _ => sBX) (-2002) 2002), (.int .i64 (.v fun _ => sBY) (-2002) 2002)]), (.agg [(.int .i64 (.v fun _ => pX) (-2002) 2002), (.int .i64 (.v fun _ => pY) (-2002) 2002)])] [] (.bool (.v fun _ => onSeg sAX sAY sBX sBY pX pY)) [] := by
  refine RunsTo.go env Try.func7 rfl Try.call7 rfl rfl (fun _ _ => (.call (c_i_Segment_valid sAX sAY sBX sBY) (.ite (.call (c_i_valid pX pY) (.ite (.call (c_i_has sAX sAY sBX sBY pX pY) .ret) .ret)) .ret))) (G := ((((-2002) ≤ sAX ∧ sAX ≤ 2002) ∧ (((-2002) ≤ sAY ∧ sAY ≤ 2002) ∧ (((-2002) ≤ sBX ∧ sBX ≤ 2002) ∧ ((-2002) ≤ sBY ∧ sBY ≤ 2002)))) ∧ (((-2002) ≤ pX ∧ pX ≤ 2002) ∧ ((-2002) ≤ pY ∧ pY ≤ 2002))) → (True) → (((sAX = sAX) ∧ ((sAY = sAY) ∧ ((sBX = sBX) ∧ (sBY = sBY)))) ∧ ((((okS sAX sAY sBX sBY) = true) → (((pX = pX) ∧ (pY = pY)) ∧ ((((okP pX pY) = true) → ((((sAX = sAX) ∧ ((sAY = sAY) ∧ ((sBX = sBX) ∧ (sBY = sBY)))) ∧ ((pX = pX) ∧ (pY = pY))) ∧ (((onB sAX sAY sBX sBY pX pY) = true) ↔ ((onSeg sAX sAY sBX sBY pX pY) = true)))) ∧ (((okP pX pY) = false) → ((onSeg sAX sAY sBX sBY pX pY) = false))))) ∧ (((okS sAX sAY sBX sBY) = false) → ((onSeg sAX sAY sBX sBY pX pY) = false))))) (by kernel_rfl) ?_
  intro h1 h2
  refine ⟨⟨rfl, ⟨rfl, ⟨rfl, rfl⟩⟩⟩, ?_, ?_⟩
  · intro c1
    refine ⟨⟨rfl, rfl⟩, ?_, ?_⟩
    · intro c2
      refine ⟨⟨⟨rfl, ⟨rfl, ⟨rfl, rfl⟩⟩⟩, ⟨rfl, rfl⟩⟩, ?_⟩
      simp_all [onSeg]; done
    · intro c3
      simp_all [onSeg]; done
  · intro c4
    simp_all [onSeg]; done
def c_i_OnSegment (sAX : Int) (sAY : Int) (sBX : Int) (sBY : Int) (pX : Int) (pY : Int) : Cn Try.prog := ⟨_, _, _, _, _, i_OnSegment sAX sAY sBX sBY pX pY⟩
theorem s_between (sAX : Int) (sAY : Int) (sBX : Int) (sBY : Int) (pX : Int) (pY : Int) : RunsTo Try.prog 49 [(.agg [(.int .i64 (.v fun _ => sAX) (-2002) 2002), (.int .i64 (.v fun _ => sAY) (-2002) 2002), (.int .i64 (.v fun _ => sBX) (-2002) 2002), (.int .i64 (.v fun _ => sBY) (-2002) 2002)]), (.agg [(.int .i64 (.v fun _ => pX) (-2002) 2002), (.int .i64 (.v fun _ => pY) (-2002) 2002)])] [] (.bool (.v fun _ => boxB sAX sAY sBX sBY pX pY)) [] := by
  refine RunsTo.go env Try.func49 rfl Try.call49 rfl rfl (fun _ _ => (.call (c_s_inRange pX (if sBX < sAX then sBX else sAX) (if sBX > sAX then sBX else sAX)) (.ite (.call (c_s_inRange pY (if sBY < sAY then sBY else sAY) (if sBY > sAY then sBY else sAY)) .ret) .ret))) (G := ((((-2002) ≤ sAX ∧ sAX ≤ 2002) ∧ (((-2002) ≤ sAY ∧ sAY ≤ 2002) ∧ (((-2002) ≤ sBX ∧ sBX ≤ 2002) ∧ ((-2002) ≤ sBY ∧ sBY ≤ 2002)))) ∧ (((-2002) ≤ pX ∧ pX ≤ 2002) ∧ ((-2002) ≤ pY ∧ pY ≤ 2002))) → (True) → (((pX = pX) ∧ (((if sBX < sAX then sBX else sAX) = (if sBX < sAX then sBX else sAX)) ∧ ((if sBX > sAX then sBX else sAX) = (if sBX > sAX then sBX else sAX)))) ∧ ((((decide ((if sBX < sAX then sBX else sAX) ≤ pX) && decide (pX ≤ (if sBX > sAX then sBX else sAX))) = true) → (((pY = pY) ∧ (((if sBY < sAY then sBY else sAY) = (if sBY < sAY then sBY else sAY)) ∧ ((if sBY > sAY then sBY else sAY) = (if sBY > sAY then sBY else sAY)))) ∧ (((decide ((if sBY < sAY then sBY else sAY) ≤ pY) && decide (pY ≤ (if sBY > sAY then sBY else sAY))) = true) ↔ ((boxB sAX sAY sBX sBY pX pY) = true)))) ∧ (((decide ((if sBX < sAX then sBX else sAX) ≤ pX) && decide (pX ≤ (if sBX > sAX then sBX else sAX))) = false) → ((boxB sAX sAY sBX sBY pX pY) = false))))) (by kernel_rfl) ?_
  intro h1 h2
  refine ⟨⟨rfl, ⟨rfl, rfl⟩⟩, ?_, ?_⟩
  · intro c1
    refine ⟨⟨rfl, ⟨rfl, rfl⟩⟩, ?_⟩
    simp only [boxB]; simp_all; omega
  · intro c2
    simp only [boxB]; simp_all; omega
def c_s_between (sAX : Int) (sAY : Int) (sBX : Int) (sBY : Int) (pX : Int) (pY : Int) : Cn Try.prog := ⟨_, _, _, _, _, s_between sAX sAY sBX sBY pX pY⟩
theorem s_onSegment (sAX : Int) (sAY : Int) (sBX : Int) (sBY : Int) (pX : Int) (pY : Int) : RunsTo Try.prog 28 [(.agg [(.int .i64 (.v fun _ => sAX) (-2002) 2002), (.int .i64 (.v fun _ => sAY) (-2002) 2002), (.int .i64 (.v fun _ => sBX) (-2002) 2002), (.int .i64 (.v fun _ => sBY) (-2002) 2002)]), (.agg [(.int .i64 (.v fun _ => pX) (-2002) 2002), (.int .i64 (.v fun _ => pY) (-2002) 2002)])] [] (.bool (.v fun _ => onB sAX sAY sBX sBY pX pY)) [] := by
  refine RunsTo.go env Try.func28 rfl Try.call28 rfl rfl (fun _ _ => (.call (c_s_cross sAX sAY sBX sBY pX pY) (.ite (.call (c_s_between sAX sAY sBX sBY pX pY) .ret) .ret))) (G := ((((-2002) ≤ sAX ∧ sAX ≤ 2002) ∧ (((-2002) ≤ sAY ∧ sAY ≤ 2002) ∧ (((-2002) ≤ sBX ∧ sBX ≤ 2002) ∧ ((-2002) ≤ sBY ∧ sBY ≤ 2002)))) ∧ (((-2002) ≤ pX ∧ pX ≤ 2002) ∧ ((-2002) ≤ pY ∧ pY ≤ 2002))) → (True) → ((((sAX = sAX) ∧ (sAY = sAY)) ∧ (((sBX = sBX) ∧ (sBY = sBY)) ∧ ((pX = pX) ∧ (pY = pY)))) ∧ ((((trn sAX sAY sBX sBY pX pY) = 0) → ((((sAX = sAX) ∧ ((sAY = sAY) ∧ ((sBX = sBX) ∧ (sBY = sBY)))) ∧ ((pX = pX) ∧ (pY = pY))) ∧ (((boxB sAX sAY sBX sBY pX pY) = true) ↔ ((onB sAX sAY sBX sBY pX pY) = true)))) ∧ (((trn sAX sAY sBX sBY pX pY) ≠ 0) → ((onB sAX sAY sBX sBY pX pY) = false))))) (by kernel_rfl) ?_
  intro h1 h2
  refine ⟨⟨⟨rfl, rfl⟩, ⟨⟨rfl, rfl⟩, ⟨rfl, rfl⟩⟩⟩, ?_, ?_⟩
  · intro c1
    refine ⟨⟨⟨rfl, ⟨rfl, ⟨rfl, rfl⟩⟩⟩, ⟨rfl, rfl⟩⟩, ?_⟩
    simp_all [onB_box]; done
  · intro c2
    simp_all [onB, dotp]; done
def c_s_onSegment (sAX : Int) (sAY : Int) (sBX : Int) (sBY : Int) (pX : Int) (pY : Int) : Cn Try.prog := ⟨_, _, _, _, _, s_onSegment sAX sAY sBX sBY pX pY⟩
theorem s_OnSegment (sAX : Int) (sAY : Int) (sBX : Int) (sBY : Int) (pX : Int) (pY : Int) : RunsTo Try.prog 8 [(.agg [(.int .i64 (.v fun _ => sAX) (-2002) 2002), (.int .i64 (.v fun _ => sAY) (-2002) 2002), (.int .i64 (.v fun _ => sBX) (-2002) 2002), (.int .i64 (.v fun _ => sBY) (-2002) 2002)]), (.agg [(.int .i64 (.v fun _ => pX) (-2002) 2002), (.int .i64 (.v fun _ => pY) (-2002) 2002)])] [] (.bool (.v fun _ => onSeg sAX sAY sBX sBY pX pY)) [] := by
  refine RunsTo.go env Try.func8 rfl Try.call8 rfl rfl (fun _ _ => (.call (c_s_validSegment sAX sAY sBX sBY) (.ite (.call (c_s_validPoint pX pY) (.ite (.call (c_s_onSegment sAX sAY sBX sBY pX pY) .ret) .ret)) .ret))) (G := ((((-2002) ≤ sAX ∧ sAX ≤ 2002) ∧ (((-2002) ≤ sAY ∧ sAY ≤ 2002) ∧ (((-2002) ≤ sBX ∧ sBX ≤ 2002) ∧ ((-2002) ≤ sBY ∧ sBY ≤ 2002)))) ∧ (((-2002) ≤ pX ∧ pX ≤ 2002) ∧ ((-2002) ≤ pY ∧ pY ≤ 2002))) → (True) → (((sAX = sAX) ∧ ((sAY = sAY) ∧ ((sBX = sBX) ∧ (sBY = sBY)))) ∧ ((((okS sAX sAY sBX sBY) = true) → (((pX = pX) ∧ (pY = pY)) ∧ ((((okP pX pY) = true) → ((((sAX = sAX) ∧ ((sAY = sAY) ∧ ((sBX = sBX) ∧ (sBY = sBY)))) ∧ ((pX = pX) ∧ (pY = pY))) ∧ (((onB sAX sAY sBX sBY pX pY) = true) ↔ ((onSeg sAX sAY sBX sBY pX pY) = true)))) ∧ (((okP pX pY) = false) → ((onSeg sAX sAY sBX sBY pX pY) = false))))) ∧ (((okS sAX sAY sBX sBY) = false) → ((onSeg sAX sAY sBX sBY pX pY) = false))))) (by kernel_rfl) ?_
  intro h1 h2
  refine ⟨⟨rfl, ⟨rfl, ⟨rfl, rfl⟩⟩⟩, ?_, ?_⟩
  · intro c1
    refine ⟨⟨rfl, rfl⟩, ?_, ?_⟩
    · intro c2
      refine ⟨⟨⟨rfl, ⟨rfl, ⟨rfl, rfl⟩⟩⟩, ⟨rfl, rfl⟩⟩, ?_⟩
      -- 1: ((onB sAX sAY sBX sBY pX pY) = true) ↔ ((onSeg sAX sAY sBX sBY pX pY) = true)
      first | rfl | omega | (simp only [onB, Bool.and_eq_true, decide_eq_true_eq]; unfold dotp; exact ⟨fun h => ⟨by assumption, h⟩, fun h => h.2⟩) | (simp_all [selL]; done) | (simp_all [okS, al2]; done) | (simp_all [onB, dotp]; done) | (simp_all [onB, dotp]; omega) | (simp_all [onSeg]; done) | (simp_all [onB_box]; done) | (simp only [boxB]; simp_all; done) | (simp only [boxB]; simp_all; omega)
    · intro c3
      -- 2: (onSeg sAX sAY sBX sBY pX pY) = false
      first | rfl | omega | (simp only [onB, Bool.and_eq_true, decide_eq_true_eq]; unfold dotp; exact ⟨fun h => ⟨by assumption, h⟩, fun h => h.2⟩) | (simp_all [selL]; done) | (simp_all [okS, al2]; done) | (simp_all [onB, dotp]; done) | (simp_all [onB, dotp]; omega) | (simp_all [onSeg]; done) | (simp_all [onB_box]; done) | (simp only [boxB]; simp_all; done) | (simp only [boxB]; simp_all; omega)
  · intro c4
    -- 3: (onSeg sAX sAY sBX sBY pX pY) = false
    first | rfl | omega | (simp only [onB, Bool.and_eq_true, decide_eq_true_eq]; unfold dotp; exact ⟨fun h => ⟨by assumption, h⟩, fun h => h.2⟩) | (simp_all [selL]; done) | (simp_all [okS, al2]; done) | (simp_all [onB, dotp]; done) | (simp_all [onB, dotp]; omega) | (simp_all [onSeg]; done) | (simp_all [onB_box]; done) | (simp only [boxB]; simp_all; done) | (simp only [boxB]; simp_all; omega)
def c_s_OnSegment (sAX : Int) (sAY : Int) (sBX : Int) (sBY : Int) (pX : Int) (pY : Int) : Cn Try.prog := ⟨_, _, _, _, _, s_OnSegment sAX sAY sBX sBY pX pY⟩
def sgE (C : Int → Int) (n p : Int) : Bool := decide (apX C n p = rpX C n (apP C n p)) && decide (apY C n p = rpY C n (apP C n p))
def sgX (C : Int → Int) (n p : Int) : Int := if sgE C n p && decide (0 < pk C n (apP C n p + 1 + 1) 4) then rpX C n (apP C n p) + 1 else rpX C n (apP C n p)
def sgY (C : Int → Int) (n p : Int) : Int := rpY C n (apP C n p)
def sgP (C : Int → Int) (n p : Int) : Int := if sgE C n p then apP C n p + 1 + 1 + 1 else apP C n p + 1 + 1
theorem sgP_bd (C : Int → Int) (n p : Int) : p + 5 ≤ sgP C n p ∧ sgP C n p ≤ p + 7 := by have := apP_bd C n p; unfold sgP; split <;> omega
theorem anySegment (C : Int → Int) (n : Int) (p : Int) : RunsTo Try.prog 20 [(.ptr 0 2 (.lit 0) 0)] [some ⟨57, 2, true, (.lit [[(.sl 1 1 (.lit 0) (.v fun _ => n) 2000), (.int .i64 (.v fun _ => p) 0 9999700)]])⟩, some ⟨5, 1, false, (.sym (.v fun _ => n) fun e => [(.int .u8 (.v fun _ => (C (e.den))) 0 255)])⟩] (.agg [(.int .i64 (.v fun _ => apX C n p) (-1001) 1001), (.int .i64 (.v fun _ => apY C n p) (-1001) 1001), (.int .i64 (.v fun _ => sgX C n p) (-1001) 1001), (.int .i64 (.v fun _ => sgY C n p) (-1001) 1001)]) [some ⟨57, 2, true, (.lit [[(.sl 1 1 (.lit 0) (.v fun _ => n) 2000), (.int .i64 (.v fun _ => sgP C n p) 0 9999720)]])⟩, some ⟨5, 1, false, (.sym (.v fun _ => n) fun e => [(.int .u8 (.v fun _ => (C (e.den))) 0 255)])⟩] := by
  refine RunsTo.go env Try.func20 rfl Try.call20 rfl rfl (fun _ _ => (.callF (c_anyPoint C n p) (.callF (c_randomPoint C n (apP C n p)) (.ite (.callF (c_pick_4 C n ((apP C n p) + 1 + 1)) (.ite .ret .ret)) .ret)))) (G := (True) → (((0 ≤ n ∧ n ≤ 2000) ∧ (0 ≤ p ∧ p ≤ 9999700)) ∧ (∀ e7 : E, ((0 ≤ e7.den ∧ e7.den < n) → (0 ≤ ((C (e7.den))) ∧ ((C (e7.den))) ≤ 255)))) → ((((n = n) ∧ (p = p)) ∧ ((n ≤ n) ∧ (∀ e1 : E, ((0 ≤ e1.den ∧ e1.den < n) → (((C (e1.den))) = ((C (e1.den)))))))) ∧ ((((-1001) ≤ (apX C n p) ∧ (apX C n p) ≤ 1001) ∧ ((-1001) ≤ (apY C n p) ∧ (apY C n p) ≤ 1001)) → ((((n = n) ∧ (((apP C n p) = (apP C n p)) ∧ ((0 ≤ (apP C n p) ∧ (apP C n p) ≤ 9999904) → (0 ≤ (apP C n p) ∧ (apP C n p) ≤ 9999900)))) ∧ ((n ≤ n) ∧ (∀ e2 : E, ((0 ≤ e2.den ∧ e2.den < n) → (((C (e2.den))) = ((C (e2.den)))))))) ∧ ((((-2) ≤ (rpX C n (apP C n p)) ∧ (rpX C n (apP C n p)) ≤ 6) ∧ ((-2) ≤ (rpY C n (apP C n p)) ∧ (rpY C n (apP C n p)) ≤ 6)) → ((((((apX C n p) = (rpX C n (apP C n p))) ∧ ((apY C n p) = (rpY C n (apP C n p))))) → ((((n = n) ∧ (((apP C n p) + 1 + 1) = ((apP C n p) + 1 + 1))) ∧ ((n ≤ n) ∧ (∀ e3 : E, ((0 ≤ e3.den ∧ e3.den < n) → (((C (e3.den))) = ((C (e3.den)))))))) ∧ ((0 ≤ (pk C n ((apP C n p) + 1 + 1) 4) ∧ (pk C n ((apP C n p) + 1 + 1) 4) ≤ 3) → (((0 < (pk C n ((apP C n p) + 1 + 1) 4)) → ((((apX C n p) = (apX C n p)) ∧ (((apY C n p) = (apY C n p)) ∧ ((((rpX C n (apP C n p)) + 1) = (sgX C n p)) ∧ ((rpY C n (apP C n p)) = (sgY C n p))))) ∧ (((n = n) ∧ (((((apP C n p) + 1 + 1) + 1) = (sgP C n p)) ∧ ((0 ≤ (((apP C n p) + 1 + 1) + 1) ∧ (((apP C n p) + 1 + 1) + 1) ≤ 10000001) → (0 ≤ (sgP C n p) ∧ (sgP C n p) ≤ 9999720)))) ∧ ((n ≤ n) ∧ (∀ e4 : E, ((0 ≤ e4.den ∧ e4.den < n) → (((C (e4.den))) = ((C (e4.den)))))))))) ∧ (((pk C n ((apP C n p) + 1 + 1) 4) ≤ 0) → ((((apX C n p) = (apX C n p)) ∧ (((apY C n p) = (apY C n p)) ∧ (((rpX C n (apP C n p)) = (sgX C n p)) ∧ ((rpY C n (apP C n p)) = (sgY C n p))))) ∧ (((n = n) ∧ (((((apP C n p) + 1 + 1) + 1) = (sgP C n p)) ∧ ((0 ≤ (((apP C n p) + 1 + 1) + 1) ∧ (((apP C n p) + 1 + 1) + 1) ≤ 10000001) → (0 ≤ (sgP C n p) ∧ (sgP C n p) ≤ 9999720)))) ∧ ((n ≤ n) ∧ (∀ e5 : E, ((0 ≤ e5.den ∧ e5.den < n) → (((C (e5.den))) = ((C (e5.den)))))))))))))) ∧ (((((apX C n p) ≠ (rpX C n (apP C n p))) ∨ ((apY C n p) ≠ (rpY C n (apP C n p))))) → ((((apX C n p) = (apX C n p)) ∧ (((apY C n p) = (apY C n p)) ∧ (((rpX C n (apP C n p)) = (sgX C n p)) ∧ ((rpY C n (apP C n p)) = (sgY C n p))))) ∧ (((n = n) ∧ ((((apP C n p) + 1 + 1) = (sgP C n p)) ∧ ((0 ≤ ((apP C n p) + 1 + 1) ∧ ((apP C n p) + 1 + 1) ≤ 9999902) → (0 ≤ (sgP C n p) ∧ (sgP C n p) ≤ 9999720)))) ∧ ((n ≤ n) ∧ (∀ e6 : E, ((0 ≤ e6.den ∧ e6.den < n) → (((C (e6.den))) = ((C (e6.den)))))))))))))))) (by kernel_rfl) ?_
  intro h1 h2
  have ha := apP_bd C n p
  refine ⟨⟨⟨rfl, rfl⟩, ⟨Int.le_refl _, fun _ => fun _ => rfl⟩⟩, ?_⟩
  intro c8
  refine ⟨?_, ?_⟩
  · refine ⟨?_, Int.le_refl _, fun _ => fun _ => rfl⟩
    refine ⟨rfl, rfl, ?_⟩
    intro c9
    omega
  · intro c10
    refine ⟨?_, ?_⟩
    · intro c11
      refine ⟨⟨⟨rfl, rfl⟩, ⟨Int.le_refl _, fun _ => fun _ => rfl⟩⟩, ?_⟩
      intro c12
      refine ⟨?_, ?_⟩
      · intro c13
        refine ⟨?_, ?_, Int.le_refl _, fun _ => fun _ => rfl⟩
        · refine ⟨rfl, rfl, ?_, ?_⟩
          · simp_all [sgX, sgY, sgP, sgE]; done
          · rfl
        · refine ⟨rfl, ?_, ?_⟩
          · simp_all [sgX, sgY, sgP, sgE]; done
          · intro c14
            simp_all [sgX, sgY, sgP, sgE]; omega
      · intro c15
        refine ⟨?_, ?_, Int.le_refl _, fun _ => fun _ => rfl⟩
        · refine ⟨rfl, rfl, ?_, ?_⟩
          · simp_all [sgX, sgY, sgP, sgE]; omega
          · rfl
        · refine ⟨rfl, ?_, ?_⟩
          · simp_all [sgX, sgY, sgP, sgE]; done
          · intro c16
            simp_all [sgX, sgY, sgP, sgE]; omega
    · intro c17
      refine ⟨?_, ?_, Int.le_refl _, fun _ => fun _ => rfl⟩
      · refine ⟨rfl, rfl, ?_, ?_⟩
        · simp_all [sgX, sgY, sgP, sgE]; omega
        · rfl
      · refine ⟨rfl, ?_, ?_⟩
        · simp_all [sgX, sgY, sgP, sgE]; omega
        · intro c18
          simp_all [sgX, sgY, sgP, sgE]; omega
def c_anySegment (C : Int → Int) (n : Int) (p : Int) : Cn Try.prog := ⟨_, _, _, _, _, anySegment C n p⟩
def osX (C : Int → Int) (n : Int) : Int := if pk C (cut n) (sgP C (cut n) 0) 2 = 0 then Int.tdiv (apX C (cut n) 0 + sgX C (cut n) 0) 2 else apX C (cut n) (sgP C (cut n) 0 + 1)
def osY (C : Int → Int) (n : Int) : Int := if pk C (cut n) (sgP C (cut n) 0) 2 = 0 then Int.tdiv (apY C (cut n) 0 + sgY C (cut n) 0) 2 else apY C (cut n) (sgP C (cut n) 0 + 1)
def s1 (C : Int → Int) (n : Int) : Int := apX C (cut n) 0
def s2 (C : Int → Int) (n : Int) : Int := apY C (cut n) 0
def s3 (C : Int → Int) (n : Int) : Int := sgX C (cut n) 0
def s4 (C : Int → Int) (n : Int) : Int := sgY C (cut n) 0
theorem s_DrawOnSegment (C : Int → Int) (n : Int) : RunsTo Try.prog 6 [(.sl 0 1 (.lit 0) (.v fun _ => n) 9223372036854775807)] [some ⟨5, 1, false, (.sym (.v fun _ => n) fun e => [(.int .u8 (.v fun _ => (C (e.den))) 0 255)])⟩] (.tup [(.agg [(.int .i64 (.v fun _ => s1 C n) (-1001) 1001), (.int .i64 (.v fun _ => s2 C n) (-1001) 1001), (.int .i64 (.v fun _ => s3 C n) (-1001) 1001), (.int .i64 (.v fun _ => s4 C n) (-1001) 1001)]), (.agg [(.int .i64 (.v fun _ => osX C n) (-2002) 2002), (.int .i64 (.v fun _ => osY C n) (-2002) 2002)])]) [some ⟨5, 1, false, (.sym (.v fun _ => cut n) fun e => [(.int .u8 (.v fun _ => (C (e.den))) 0 255)])⟩] := by
  refine RunsTo.go env Try.func6 rfl Try.call6 rfl rfl (fun _ _ => (.call (c_s_newReader C n) (.call (c_anySegment C (cut n) 0) (.call (c_pick_2 C (cut n) (sgP C (cut n) 0)) (.ite .ret (.call (c_anyPoint C (cut n) ((sgP C (cut n) 0) + 1)) .ret)))))) (G := (0 ≤ n ∧ n ≤ 9223372036854775807) → (∀ e7 : E, ((0 ≤ e7.den ∧ e7.den < n) → (0 ≤ ((C (e7.den))) ∧ ((C (e7.den))) ≤ 255))) → ((n = n) ∧ (((n ≤ n) ∧ (∀ e1 : E, ((0 ≤ e1.den ∧ e1.den < n) → (((C (e1.den))) = ((C (e1.den))))))) ∧ (((((cut n) = (cut n)) ∧ ((0 : Int) = 0)) ∧ (((cut n) ≤ (cut n)) ∧ (∀ e2 : E, ((0 ≤ e2.den ∧ e2.den < (cut n)) → (((C (e2.den))) = ((C (e2.den)))))))) ∧ (((((cut n) = (cut n)) ∧ ((sgP C (cut n) 0) = (sgP C (cut n) 0))) ∧ (((cut n) ≤ (cut n)) ∧ (∀ e3 : E, ((0 ≤ e3.den ∧ e3.den < (cut n)) → (((C (e3.den))) = ((C (e3.den)))))))) ∧ ((((pk C (cut n) (sgP C (cut n) 0) 2) = 0) → (((((apX C (cut n) 0) = (s1 C n)) ∧ (((apY C (cut n) 0) = (s2 C n)) ∧ (((sgX C (cut n) 0) = (s3 C n)) ∧ ((sgY C (cut n) 0) = (s4 C n))))) ∧ (((Int.tdiv ((apX C (cut n) 0) + (sgX C (cut n) 0)) 2) = (osX C n)) ∧ ((Int.tdiv ((apY C (cut n) 0) + (sgY C (cut n) 0)) 2) = (osY C n)))) ∧ (((cut n) ≤ (cut n)) ∧ (∀ e4 : E, ((0 ≤ e4.den ∧ e4.den < (cut n)) → (((C (e4.den))) = ((C (e4.den))))))))) ∧ (((pk C (cut n) (sgP C (cut n) 0) 2) ≠ 0) → (((((cut n) = (cut n)) ∧ ((((sgP C (cut n) 0) + 1) = ((sgP C (cut n) 0) + 1)) ∧ ((0 ≤ ((sgP C (cut n) 0) + 1) ∧ ((sgP C (cut n) 0) + 1) ≤ 10000001) → (0 ≤ ((sgP C (cut n) 0) + 1) ∧ ((sgP C (cut n) 0) + 1) ≤ 9999900)))) ∧ (((cut n) ≤ (cut n)) ∧ (∀ e5 : E, ((0 ≤ e5.den ∧ e5.den < (cut n)) → (((C (e5.den))) = ((C (e5.den)))))))) ∧ (((((apX C (cut n) 0) = (s1 C n)) ∧ (((apY C (cut n) 0) = (s2 C n)) ∧ (((sgX C (cut n) 0) = (s3 C n)) ∧ ((sgY C (cut n) 0) = (s4 C n))))) ∧ (((apX C (cut n) ((sgP C (cut n) 0) + 1)) = (osX C n)) ∧ ((apY C (cut n) ((sgP C (cut n) 0) + 1)) = (osY C n)))) ∧ (((cut n) ≤ (cut n)) ∧ (∀ e6 : E, ((0 ≤ e6.den ∧ e6.den < (cut n)) → (((C (e6.den))) = ((C (e6.den)))))))))))))))) (by kernel_rfl) ?_
  intro h1 h2
  have ha := sgP_bd C (cut n) 0
  refine ⟨rfl, ⟨Int.le_refl _, fun _ => fun _ => rfl⟩, ⟨⟨rfl, rfl⟩, ⟨Int.le_refl _, fun _ => fun _ => rfl⟩⟩, ⟨⟨rfl, rfl⟩, ⟨Int.le_refl _, fun _ => fun _ => rfl⟩⟩, ?_, ?_⟩
  · intro c8
    refine ⟨?_, Int.le_refl _, fun _ => fun _ => rfl⟩
    refine ⟨?_, ?_, ?_⟩
    · refine ⟨?_, ?_, ?_, ?_⟩
        -- 1: (apX C (cut n) 0) = (s1 C n)
      · first | rfl | omega | (simp_all [osX, osY, s1, s2, s3, s4]; done) | (simp_all [osX, osY, s1, s2, s3, s4]; omega)
        -- 2: (apY C (cut n) 0) = (s2 C n)
      · first | rfl | omega | (simp_all [osX, osY, s1, s2, s3, s4]; done) | (simp_all [osX, osY, s1, s2, s3, s4]; omega)
        -- 3: (sgX C (cut n) 0) = (s3 C n)
      · first | rfl | omega | (simp_all [osX, osY, s1, s2, s3, s4]; done) | (simp_all [osX, osY, s1, s2, s3, s4]; omega)
        -- 4: (sgY C (cut n) 0) = (s4 C n)
      · first | rfl | omega | (simp_all [osX, osY, s1, s2, s3, s4]; done) | (simp_all [osX, osY, s1, s2, s3, s4]; omega)
      -- 5: (Int.tdiv ((apX C (cut n) 0) + (sgX C (cut n) 0)) 2) = (osX C n)
    · first | rfl | omega | (simp_all [osX, osY, s1, s2, s3, s4]; done) | (simp_all [osX, osY, s1, s2, s3, s4]; omega)
      -- 6: (Int.tdiv ((apY C (cut n) 0) + (sgY C (cut n) 0)) 2) = (osY C n)
    · first | rfl | omega | (simp_all [osX, osY, s1, s2, s3, s4]; done) | (simp_all [osX, osY, s1, s2, s3, s4]; omega)
  · intro c9
    refine ⟨?_, ?_, Int.le_refl _, fun _ => fun _ => rfl⟩
    · refine ⟨?_, Int.le_refl _, fun _ => fun _ => rfl⟩
      refine ⟨rfl, rfl, ?_⟩
      intro c10
      -- 7: 0 ≤ ((sgP C (cut n) 0) + 1) ∧ ((sgP C (cut n) 0) + 1) ≤ 9999900
      first | rfl | omega | (simp_all [osX, osY, s1, s2, s3, s4]; done) | (simp_all [osX, osY, s1, s2, s3, s4]; omega)
    · refine ⟨?_, ?_, ?_⟩
      · refine ⟨?_, ?_, ?_, ?_⟩
          -- 8: (apX C (cut n) 0) = (s1 C n)
        · first | rfl | omega | (simp_all [osX, osY, s1, s2, s3, s4]; done) | (simp_all [osX, osY, s1, s2, s3, s4]; omega)
          -- 9: (apY C (cut n) 0) = (s2 C n)
        · first | rfl | omega | (simp_all [osX, osY, s1, s2, s3, s4]; done) | (simp_all [osX, osY, s1, s2, s3, s4]; omega)
          -- 10: (sgX C (cut n) 0) = (s3 C n)
        · first | rfl | omega | (simp_all [osX, osY, s1, s2, s3, s4]; done) | (simp_all [osX, osY, s1, s2, s3, s4]; omega)
          -- 11: (sgY C (cut n) 0) = (s4 C n)
        · first | rfl | omega | (simp_all [osX, osY, s1, s2, s3, s4]; done) | (simp_all [osX, osY, s1, s2, s3, s4]; omega)
        -- 12: (apX C (cut n) ((sgP C (cut n) 0) + 1)) = (osX C n)
      · first | rfl | omega | (simp_all [osX, osY, s1, s2, s3, s4]; done) | (simp_all [osX, osY, s1, s2, s3, s4]; omega)
        -- 13: (apY C (cut n) ((sgP C (cut n) 0) + 1)) = (osY C n)
      · first | rfl | omega | (simp_all [osX, osY, s1, s2, s3, s4]; done) | (simp_all [osX, osY, s1, s2, s3, s4]; omega)
def c_s_DrawOnSegment (C : Int → Int) (n : Int) : Cn Try.prog := ⟨_, _, _, _, _, s_DrawOnSegment C n⟩
end Go.Proofs.Ytnombddkojljdaa
