/- FnCrossingLines: the walk. -/
import Derived.Test.YtoielngedkbmbaaK21
import Derived.Test.YtoielngedkbmbaaK16
set_option linter.unusedSimpArgs false
set_option linter.unusedVariables false
set_option maxRecDepth 100000
namespace Go.Proofs.Ytoielngedkbmbaa
open Go.Sym
theorem nz_of_okL {a b c : Int} (h : okL a b c = true) : a ≠ 0 ∨ b ≠ 0 := by have := okL_bd h; omega
theorem cramer {lA lB lC mA mB mC X Y D : Int} (h1 : lA * X + lB * Y = lC * D) (h2 : mA * X + mB * Y = mC * D) : (lC * mB - mC * lB) * D = X * (lA * mB - mA * lB) ∧ (lA * mC - mA * lC) * D = Y * (lA * mB - mA * lB) := by
  constructor
  · have e : (lC * mB - mC * lB) * D = mB * (lC * D) - lB * (mC * D) := by grind
    rw [e, ← h1, ← h2]; grind
  · have e : (lA * mC - mA * lC) * D = lA * (mC * D) - mA * (lC * D) := by grind
    rw [e, ← h1, ← h2]; grind
theorem par_zero {lA lB mA mB p q u v : Int} (z1 : lA * p + lB * q = 0) (z2 : mA * u + mB * v = 0) (e : lA * mB - mA * lB = 0) : (mA * (lB * v + lA * u) = 0 ∧ mB * (lB * v + lA * u) = 0) ∧ (lB * v + lA * u = 0 → lA * (p * v - q * u) = 0 ∧ lB * (p * v - q * u) = 0) := by
  have e' : mA * lB = lA * mB := by omega
  refine ⟨⟨?_, ?_⟩, fun h => ⟨?_, ?_⟩⟩
  · have a : mA * (lB * v + lA * u) = (mA * lB) * v + lA * (mA * u) := by grind
    rw [a, e']
    have b : lA * mB * v + lA * (mA * u) = lA * (mA * u + mB * v) := by grind
    rw [b, z2, Int.mul_zero]
  · have a : mB * (lB * v + lA * u) = lB * (mB * v) + (lA * mB) * u := by grind
    rw [a, ← e']
    have b : lB * (mB * v) + mA * lB * u = lB * (mA * u + mB * v) := by grind
    rw [b, z2, Int.mul_zero]
  · have a : lA * (p * v - q * u) = (lA * p + lB * q) * v - q * (lB * v + lA * u) := by grind
    rw [a, z1, h]; simp
  · have a : lB * (p * v - q * u) = p * (lB * v + lA * u) - u * (lA * p + lB * q) := by grind
    rw [a, z1, h]; simp
theorem frac_uni {n d n' d' p q r s : Int} (hd : d ≠ 0) (hd' : d' ≠ 0) (e1 : p * d = n * q) (e2 : r * d' = n' * s) (e3 : n * d' = n' * d) : p * s = r * q := by
  refine Int.eq_of_mul_eq_mul_right (Int.mul_ne_zero hd hd') ?_
  have a1 : p * s * (d * d') = (p * d) * (s * d') := by grind
  have a2 : r * q * (d * d') = (r * d') * (q * d) := by grind
  rw [a1, a2, e1, e2]
  have a3 : n * q * (s * d') = (n * d') * (q * s) := by grind
  have a4 : n' * s * (q * d) = (n' * d) * (q * s) := by grind
  rw [a3, a4, e3]
/-- Segments that cross lie on lines that meet in one point, where the segments meet. -/
theorem cross_all {sAX sAY sBX sBY tAX tAY tBX tBY : Int} (h : relR sAX sAY sBX sBY tAX tAY tBX tBY = 2) : mpB sAX sAY sBX sBY tAX tAY tBX tBY = true ∧ ltOK sAX sAY sBX sBY = true ∧ ltOK tAX tAY tBX tBY = true ∧ mlH (liA sAX sAY sBX sBY) (liB sAX sAY sBX sBY) (liC sAX sAY sBX sBY) (liA tAX tAY tBX tBY) (liB tAX tAY tBX tBY) (liC tAX tAY tBX tBY) = 1 ∧ mlXN (liA sAX sAY sBX sBY) (liB sAX sAY sBX sBY) (liC sAX sAY sBX sBY) (liA tAX tAY tBX tBY) (liB tAX tAY tBX tBY) (liC tAX tAY tBX tBY) = mpXN sAX sAY sBX sBY tAX tAY tBX tBY ∧ mlXD (liA sAX sAY sBX sBY) (liB sAX sAY sBX sBY) (liC sAX sAY sBX sBY) (liA tAX tAY tBX tBY) (liB tAX tAY tBX tBY) (liC tAX tAY tBX tBY) = mpXD sAX sAY sBX sBY tAX tAY tBX tBY ∧ mlYN (liA sAX sAY sBX sBY) (liB sAX sAY sBX sBY) (liC sAX sAY sBX sBY) (liA tAX tAY tBX tBY) (liB tAX tAY tBX tBY) (liC tAX tAY tBX tBY) = mpYN sAX sAY sBX sBY tAX tAY tBX tBY ∧ mlYD (liA sAX sAY sBX sBY) (liB sAX sAY sBX sBY) (liC sAX sAY sBX sBY) (liA tAX tAY tBX tBY) (liB tAX tAY tBX tBY) (liC tAX tAY tBX tBY) = mpYD sAX sAY sBX sBY tAX tAY tBX tBY ∧
    ((-1000 ≤ sAX ∧ sAX ≤ 1000 ∧ -1000 ≤ sAY ∧ sAY ≤ 1000) ∧ (-1000 ≤ sBX ∧ sBX ≤ 1000 ∧ -1000 ≤ sBY ∧ sBY ≤ 1000)) ∧ ((-1000 ≤ tAX ∧ tAX ≤ 1000 ∧ -1000 ≤ tAY ∧ tAY ≤ 1000) ∧ (-1000 ≤ tBX ∧ tBX ≤ 1000 ∧ -1000 ≤ tBY ∧ tBY ≤ 1000)) := by
  have hy := mp_yes (Or.inr h)
  obtain ⟨hs, ht, hc⟩ := relR_cases (Or.inr h)
  have hx := (hc.resolve_left (by omega)).2.2
  have o1 := okS_ne hs
  have o2 := okS_ne ht
  have l1 := li_ok (okP_iff.2 o1.1) (okP_iff.2 o1.2.1) (show sAX ≠ sBX ∨ sAY ≠ sBY by omega)
  have l2 := li_ok (okP_iff.2 o2.1) (okP_iff.2 o2.2.1) (show tAX ≠ tBX ∨ tAY ≠ tBY by omega)
  have k1 := (lt_law l1.1).1.1
  have k2 := (lt_law l2.1).1.1
  have z1 := lt_line (aX := sAX) (aY := sAY) (bX := sBX) (bY := sBY)
  have z2 := lt_line (aX := tAX) (aY := tAY) (bX := tBX) (bY := tBY)
  have ln := cross_line hs ht
  have t1 := mp_cross h
  have v1 : mtXN sAX sAY sBX sBY tAX tAY tBX tBY = redN (nX sAX sAY sBX sBY tAX tAY tBX tBY) (mtDen sAX sAY sBX sBY tAX tAY tBX tBY) := t1.2.2.1
  have v2 : mtXD sAX sAY sBX sBY tAX tAY tBX tBY = redD (nX sAX sAY sBX sBY tAX tAY tBX tBY) (mtDen sAX sAY sBX sBY tAX tAY tBX tBY) := t1.2.2.2.1
  have v3 : mtYN sAX sAY sBX sBY tAX tAY tBX tBY = redN (nY sAX sAY sBX sBY tAX tAY tBX tBY) (mtDen sAX sAY sBX sBY tAX tAY tBX tBY) := t1.2.2.2.2.1
  have v4 : mtYD sAX sAY sBX sBY tAX tAY tBX tBY = redD (nY sAX sAY sBX sBY tAX tAY tBX tBY) (mtDen sAX sAY sBX sBY tAX tAY tBX tBY) := t1.2.2.2.2.2
  have hD := t1.2.1
  have ax := red_all (n := nX sAX sAY sBX sBY tAX tAY tBX tBY) hD
  have ay := red_all (n := nY sAX sAY sBX sBY tAX tAY tBX tBY) hD
  rw [hy.2.1, hy.2.2.1, hy.2.2.2.1, hy.2.2.2.2, v1, v2, v3, v4]
  have hDe : mtDen sAX sAY sBX sBY tAX tAY tBX tBY = (sBX - sAX) * (tBY - tAY) - (sBY - sAY) * (tBX - tAX) := rfl
  rw [← l1.2.2.1, ← l1.2.2.2.1] at z1
  rw [← l2.2.2.1, ← l2.2.2.2.1] at z2
  generalize liA sAX sAY sBX sBY = lA at *
  generalize liB sAX sAY sBX sBY = lB at *
  generalize liC sAX sAY sBX sBY = lC at *
  generalize liA tAX tAY tBX tBY = mA at *
  generalize liB tAX tAY tBX tBY = mB at *
  generalize liC tAX tAY tBX tBY = mC at *
  generalize nX sAX sAY sBX sBY tAX tAY tBX tBY = X at *
  generalize nY sAX sAY sBX sBY tAX tAY tBX tBY = Y at *
  generalize mtDen sAX sAY sBX sBY tAX tAY tBX tBY = D at *
  have h0 : lA * mB - mA * lB ≠ 0 := by
    intro e
    have pz := par_zero z1 z2 e
    have e3 : lB * (tBY - tAY) + lA * (tBX - tAX) = 0 := by
      rcases nz_of_okL k2 with h | h
      · exact (Int.mul_eq_zero.1 pz.1.1).resolve_left h
      · exact (Int.mul_eq_zero.1 pz.1.2).resolve_left h
    have e4 := pz.2 e3
    rw [← hDe] at e4
    rcases nz_of_okL k1 with h | h
    · exact hD ((Int.mul_eq_zero.1 e4.1).resolve_left h)
    · exact hD ((Int.mul_eq_zero.1 e4.2).resolve_left h)
  have hm := ml_one k1 k2 h0
  have bx := red_all (n := lC * mB - mC * lB) h0
  have b2 := red_all (n := lA * mC - mA * lC) h0
  have cr := cramer ln.1 ln.2
  have fx := same_frac bx.2.2.1 ax.2.2.1 bx.2.1 ax.2.1 (frac_uni h0 hD bx.1 ax.1 cr.1)
  have fy := same_frac b2.2.2.1 ay.2.2.1 b2.2.1 ay.2.1 (frac_uni h0 hD b2.1 ay.1 cr.2)
  exact ⟨hy.1, l1.1, l2.1, hm.1, by rw [hm.2.1]; exact fx.1, by rw [hm.2.2.1]; exact fx.2, by rw [hm.2.2.2.1]; exact fy.1, by rw [hm.2.2.2.2]; exact fy.2, ⟨o1.1, o1.2.1⟩, ⟨o2.1, o2.2.1⟩⟩
theorem l_FnCrossingLines (C : Int → Int) (n : Int) : RunsTo Try.prog 10 [(.sl 0 1 (.lit 0) (.v fun _ => n) 9223372036854775807)] [some ⟨5, 1, false, (.sym (.v fun _ => n) fun e => [(.int .u8 (.v fun _ => (C (e.den))) 0 255)])⟩] (.bool (.lit true)) [none] := by
  refine RunsTo.go env Try.func10 rfl Try.call10 rfl rfl (fun _ _ => (.ite .ret (.callF (c_s_DrawMeetPoint C n) (.callF (c_i_MeetPoint (aAX C n) (aAY C n) (aBX C n) (aBY C n) (bAX C n) (bAY C n) (bBX C n) (bBY C n)) (.callF (c_s_MeetPoint (aAX C n) (aAY C n) (aBX C n) (aBY C n) (bAX C n) (bAY C n) (bBX C n) (bBY C n)) (.ite (.ite .ret .ret) (.ite (.ite .ret .ret) (.ite (.ite .ret .ret) (.callF (c_i_Relation (aAX C n) (aAY C n) (aBX C n) (aBY C n) (bAX C n) (bAY C n) (bBX C n) (bBY C n)) (.ite (.ite .ret .ret) (.callF (c_i_LineThrough (aAX C n) (aAY C n) (aBX C n) (aBY C n)) (.callF (c_i_LineThrough (bAX C n) (bAY C n) (bBX C n) (bBY C n)) (.callF (c_i_MeetLines (liA (aAX C n) (aAY C n) (aBX C n) (aBY C n)) (liB (aAX C n) (aAY C n) (aBX C n) (aBY C n)) (liC (aAX C n) (aAY C n) (aBX C n) (aBY C n)) (liA (bAX C n) (bAY C n) (bBX C n) (bBY C n)) (liB (bAX C n) (bAY C n) (bBX C n) (bBY C n)) (liC (bAX C n) (bAY C n) (bBX C n) (bBY C n))) (.ite (.ite (.ite .ret .ret) .ret) .ret)))))))))))))) (G := (0 ≤ n ∧ n ≤ 9223372036854775807) → (∀ e2 : E, ((0 ≤ e2.den ∧ e2.den < n) → (0 ≤ ((C (e2.den))) ∧ ((C (e2.den))) ≤ 255))) → ((n ≤ 1048576) → ((n = n) ∧ (((n ≤ n) ∧ (∀ e1 : E, ((0 ≤ e1.den ∧ e1.den < n) → (((C (e1.den))) = ((C (e1.den))))))) ∧ (((((-1001) ≤ (aAX C n) ∧ (aAX C n) ≤ 1001) ∧ (((-1001) ≤ (aAY C n) ∧ (aAY C n) ≤ 1001) ∧ (((-1001) ≤ (aBX C n) ∧ (aBX C n) ≤ 1001) ∧ ((-1001) ≤ (aBY C n) ∧ (aBY C n) ≤ 1001)))) ∧ (((-3003) ≤ (bAX C n) ∧ (bAX C n) ≤ 3003) ∧ (((-3003) ≤ (bAY C n) ∧ (bAY C n) ≤ 3003) ∧ (((-3003) ≤ (bBX C n) ∧ (bBX C n) ≤ 3003) ∧ ((-3003) ≤ (bBY C n) ∧ (bBY C n) ≤ 3003))))) → (((((aAX C n) = (aAX C n)) ∧ (((aAY C n) = (aAY C n)) ∧ (((aBX C n) = (aBX C n)) ∧ ((aBY C n) = (aBY C n))))) ∧ (((bAX C n) = (bAX C n)) ∧ (((bAY C n) = (bAY C n)) ∧ (((bBX C n) = (bBX C n)) ∧ ((bBY C n) = (bBY C n)))))) ∧ ((((-4000000000000000000) ≤ (mpXN (aAX C n) (aAY C n) (aBX C n) (aBY C n) (bAX C n) (bAY C n) (bBX C n) (bBY C n)) ∧ (mpXN (aAX C n) (aAY C n) (aBX C n) (aBY C n) (bAX C n) (bAY C n) (bBX C n) (bBY C n)) ≤ 4000000000000000000) ∧ (((-4000000000000000000) ≤ (mpXD (aAX C n) (aAY C n) (aBX C n) (aBY C n) (bAX C n) (bAY C n) (bBX C n) (bBY C n)) ∧ (mpXD (aAX C n) (aAY C n) (aBX C n) (aBY C n) (bAX C n) (bAY C n) (bBX C n) (bBY C n)) ≤ 4000000000000000000) ∧ (((-4000000000000000000) ≤ (mpYN (aAX C n) (aAY C n) (aBX C n) (aBY C n) (bAX C n) (bAY C n) (bBX C n) (bBY C n)) ∧ (mpYN (aAX C n) (aAY C n) (aBX C n) (aBY C n) (bAX C n) (bAY C n) (bBX C n) (bBY C n)) ≤ 4000000000000000000) ∧ ((-4000000000000000000) ≤ (mpYD (aAX C n) (aAY C n) (aBX C n) (aBY C n) (bAX C n) (bAY C n) (bBX C n) (bBY C n)) ∧ (mpYD (aAX C n) (aAY C n) (aBX C n) (aBY C n) (bAX C n) (bAY C n) (bBX C n) (bBY C n)) ≤ 4000000000000000000)))) → (((((aAX C n) = (aAX C n)) ∧ (((aAY C n) = (aAY C n)) ∧ (((aBX C n) = (aBX C n)) ∧ ((aBY C n) = (aBY C n))))) ∧ (((bAX C n) = (bAX C n)) ∧ (((bAY C n) = (bAY C n)) ∧ (((bBX C n) = (bBX C n)) ∧ ((bBY C n) = (bBY C n)))))) ∧ ((((-4000000000000000000) ≤ (mpXN (aAX C n) (aAY C n) (aBX C n) (aBY C n) (bAX C n) (bAY C n) (bBX C n) (bBY C n)) ∧ (mpXN (aAX C n) (aAY C n) (aBX C n) (aBY C n) (bAX C n) (bAY C n) (bBX C n) (bBY C n)) ≤ 4000000000000000000) ∧ (((-4000000000000000000) ≤ (mpXD (aAX C n) (aAY C n) (aBX C n) (aBY C n) (bAX C n) (bAY C n) (bBX C n) (bBY C n)) ∧ (mpXD (aAX C n) (aAY C n) (aBX C n) (aBY C n) (bAX C n) (bAY C n) (bBX C n) (bBY C n)) ≤ 4000000000000000000) ∧ (((-4000000000000000000) ≤ (mpYN (aAX C n) (aAY C n) (aBX C n) (aBY C n) (bAX C n) (bAY C n) (bBX C n) (bBY C n)) ∧ (mpYN (aAX C n) (aAY C n) (aBX C n) (aBY C n) (bAX C n) (bAY C n) (bBX C n) (bBY C n)) ≤ 4000000000000000000) ∧ ((-4000000000000000000) ≤ (mpYD (aAX C n) (aAY C n) (aBX C n) (aBY C n) (bAX C n) (bAY C n) (bBX C n) (bBY C n)) ∧ (mpYD (aAX C n) (aAY C n) (aBX C n) (aBY C n) (bAX C n) (bAY C n) (bBX C n) (bBY C n)) ≤ 4000000000000000000)))) → ((((((mpB (aAX C n) (aAY C n) (aBX C n) (aBY C n) (bAX C n) (bAY C n) (bBX C n) (bBY C n)) = true) ↔ ((mpB (aAX C n) (aAY C n) (aBX C n) (aBY C n) (bAX C n) (bAY C n) (bBX C n) (bBY C n)) = false))) → ((((((mpB (aAX C n) (aAY C n) (aBX C n) (aBY C n) (bAX C n) (bAY C n) (bBX C n) (bBY C n)) = true) ↔ ((mpB (aAX C n) (aAY C n) (aBX C n) (aBY C n) (bAX C n) (bAY C n) (bBX C n) (bBY C n)) = true))) → ((((mpXN (aAX C n) (aAY C n) (aBX C n) (aBY C n) (bAX C n) (bAY C n) (bBX C n) (bBY C n)) = (mpXN (aAX C n) (aAY C n) (aBX C n) (aBY C n) (bAX C n) (bAY C n) (bBX C n) (bBY C n))) ∧ ((((mpXD (aAX C n) (aAY C n) (aBX C n) (aBY C n) (bAX C n) (bAY C n) (bBX C n) (bBY C n)) = (mpXD (aAX C n) (aAY C n) (aBX C n) (aBY C n) (bAX C n) (bAY C n) (bBX C n) (bBY C n))) ∧ ((((mpYN (aAX C n) (aAY C n) (aBX C n) (aBY C n) (bAX C n) (bAY C n) (bBX C n) (bBY C n)) = (mpYN (aAX C n) (aAY C n) (aBX C n) (aBY C n) (bAX C n) (bAY C n) (bBX C n) (bBY C n))) ∧ ((mpYD (aAX C n) (aAY C n) (aBX C n) (aBY C n) (bAX C n) (bAY C n) (bBX C n) (bBY C n)) = (mpYD (aAX C n) (aAY C n) (aBX C n) (aBY C n) (bAX C n) (bAY C n) (bBX C n) (bBY C n)))))))))) ∧ (((((mpB (aAX C n) (aAY C n) (aBX C n) (aBY C n) (bAX C n) (bAY C n) (bBX C n) (bBY C n)) = true) ↔ ((mpB (aAX C n) (aAY C n) (aBX C n) (aBY C n) (bAX C n) (bAY C n) (bBX C n) (bBY C n)) = false))) → (False)))) ∧ (((((mpB (aAX C n) (aAY C n) (aBX C n) (aBY C n) (bAX C n) (bAY C n) (bBX C n) (bBY C n)) = true) ↔ ((mpB (aAX C n) (aAY C n) (aBX C n) (aBY C n) (bAX C n) (bAY C n) (bBX C n) (bBY C n)) = true))) → ((((((mpXN (aAX C n) (aAY C n) (aBX C n) (aBY C n) (bAX C n) (bAY C n) (bBX C n) (bBY C n)) ≠ (mpXN (aAX C n) (aAY C n) (aBX C n) (aBY C n) (bAX C n) (bAY C n) (bBX C n) (bBY C n))) ∨ ((((mpXD (aAX C n) (aAY C n) (aBX C n) (aBY C n) (bAX C n) (bAY C n) (bBX C n) (bBY C n)) ≠ (mpXD (aAX C n) (aAY C n) (aBX C n) (aBY C n) (bAX C n) (bAY C n) (bBX C n) (bBY C n))) ∨ ((((mpYN (aAX C n) (aAY C n) (aBX C n) (aBY C n) (bAX C n) (bAY C n) (bBX C n) (bBY C n)) ≠ (mpYN (aAX C n) (aAY C n) (aBX C n) (aBY C n) (bAX C n) (bAY C n) (bBX C n) (bBY C n))) ∨ ((mpYD (aAX C n) (aAY C n) (aBX C n) (aBY C n) (bAX C n) (bAY C n) (bBX C n) (bBY C n)) ≠ (mpYD (aAX C n) (aAY C n) (aBX C n) (aBY C n) (bAX C n) (bAY C n) (bBX C n) (bBY C n))))))))) → ((((((mpB (aAX C n) (aAY C n) (aBX C n) (aBY C n) (bAX C n) (bAY C n) (bBX C n) (bBY C n)) = true) ↔ ((mpB (aAX C n) (aAY C n) (aBX C n) (aBY C n) (bAX C n) (bAY C n) (bBX C n) (bBY C n)) = true))) → ((((mpXN (aAX C n) (aAY C n) (aBX C n) (aBY C n) (bAX C n) (bAY C n) (bBX C n) (bBY C n)) = (mpXN (aAX C n) (aAY C n) (aBX C n) (aBY C n) (bAX C n) (bAY C n) (bBX C n) (bBY C n))) ∧ ((((mpXD (aAX C n) (aAY C n) (aBX C n) (aBY C n) (bAX C n) (bAY C n) (bBX C n) (bBY C n)) = (mpXD (aAX C n) (aAY C n) (aBX C n) (aBY C n) (bAX C n) (bAY C n) (bBX C n) (bBY C n))) ∧ ((((mpYN (aAX C n) (aAY C n) (aBX C n) (aBY C n) (bAX C n) (bAY C n) (bBX C n) (bBY C n)) = (mpYN (aAX C n) (aAY C n) (aBX C n) (aBY C n) (bAX C n) (bAY C n) (bBX C n) (bBY C n))) ∧ ((mpYD (aAX C n) (aAY C n) (aBX C n) (aBY C n) (bAX C n) (bAY C n) (bBX C n) (bBY C n)) = (mpYD (aAX C n) (aAY C n) (aBX C n) (aBY C n) (bAX C n) (bAY C n) (bBX C n) (bBY C n)))))))))) ∧ (((((mpB (aAX C n) (aAY C n) (aBX C n) (aBY C n) (bAX C n) (bAY C n) (bBX C n) (bBY C n)) = true) ↔ ((mpB (aAX C n) (aAY C n) (aBX C n) (aBY C n) (bAX C n) (bAY C n) (bBX C n) (bBY C n)) = false))) → (False)))) ∧ (((((mpXN (aAX C n) (aAY C n) (aBX C n) (aBY C n) (bAX C n) (bAY C n) (bBX C n) (bBY C n)) = (mpXN (aAX C n) (aAY C n) (aBX C n) (aBY C n) (bAX C n) (bAY C n) (bBX C n) (bBY C n))) ∧ ((((mpXD (aAX C n) (aAY C n) (aBX C n) (aBY C n) (bAX C n) (bAY C n) (bBX C n) (bBY C n)) = (mpXD (aAX C n) (aAY C n) (aBX C n) (aBY C n) (bAX C n) (bAY C n) (bBX C n) (bBY C n))) ∧ ((((mpYN (aAX C n) (aAY C n) (aBX C n) (aBY C n) (bAX C n) (bAY C n) (bBX C n) (bBY C n)) = (mpYN (aAX C n) (aAY C n) (aBX C n) (aBY C n) (bAX C n) (bAY C n) (bBX C n) (bBY C n))) ∧ ((mpYD (aAX C n) (aAY C n) (aBX C n) (aBY C n) (bAX C n) (bAY C n) (bBX C n) (bBY C n)) = (mpYD (aAX C n) (aAY C n) (aBX C n) (aBY C n) (bAX C n) (bAY C n) (bBX C n) (bBY C n))))))))) → ((((mpB (aAX C n) (aAY C n) (aBX C n) (aBY C n) (bAX C n) (bAY C n) (bBX C n) (bBY C n)) = false) → ((((((mpB (aAX C n) (aAY C n) (aBX C n) (aBY C n) (bAX C n) (bAY C n) (bBX C n) (bBY C n)) = true) ↔ ((mpB (aAX C n) (aAY C n) (aBX C n) (aBY C n) (bAX C n) (bAY C n) (bBX C n) (bBY C n)) = true))) → ((((mpXN (aAX C n) (aAY C n) (aBX C n) (aBY C n) (bAX C n) (bAY C n) (bBX C n) (bBY C n)) = (mpXN (aAX C n) (aAY C n) (aBX C n) (aBY C n) (bAX C n) (bAY C n) (bBX C n) (bBY C n))) ∧ ((((mpXD (aAX C n) (aAY C n) (aBX C n) (aBY C n) (bAX C n) (bAY C n) (bBX C n) (bBY C n)) = (mpXD (aAX C n) (aAY C n) (aBX C n) (aBY C n) (bAX C n) (bAY C n) (bBX C n) (bBY C n))) ∧ ((((mpYN (aAX C n) (aAY C n) (aBX C n) (aBY C n) (bAX C n) (bAY C n) (bBX C n) (bBY C n)) = (mpYN (aAX C n) (aAY C n) (aBX C n) (aBY C n) (bAX C n) (bAY C n) (bBX C n) (bBY C n))) ∧ ((mpYD (aAX C n) (aAY C n) (aBX C n) (aBY C n) (bAX C n) (bAY C n) (bBX C n) (bBY C n)) = (mpYD (aAX C n) (aAY C n) (aBX C n) (aBY C n) (bAX C n) (bAY C n) (bBX C n) (bBY C n)))))))))) ∧ (((((mpB (aAX C n) (aAY C n) (aBX C n) (aBY C n) (bAX C n) (bAY C n) (bBX C n) (bBY C n)) = true) ↔ ((mpB (aAX C n) (aAY C n) (aBX C n) (aBY C n) (bAX C n) (bAY C n) (bBX C n) (bBY C n)) = false))) → (False)))) ∧ (((mpB (aAX C n) (aAY C n) (aBX C n) (aBY C n) (bAX C n) (bAY C n) (bBX C n) (bBY C n)) = true) → (((((aAX C n) = (aAX C n)) ∧ (((aAY C n) = (aAY C n)) ∧ (((aBX C n) = (aBX C n)) ∧ ((aBY C n) = (aBY C n))))) ∧ (((bAX C n) = (bAX C n)) ∧ (((bAY C n) = (bAY C n)) ∧ (((bBX C n) = (bBX C n)) ∧ ((bBY C n) = (bBY C n)))))) ∧ (((-1) ≤ (relR (aAX C n) (aAY C n) (aBX C n) (aBY C n) (bAX C n) (bAY C n) (bBX C n) (bBY C n)) ∧ (relR (aAX C n) (aAY C n) (aBX C n) (aBY C n) (bAX C n) (bAY C n) (bBX C n) (bBY C n)) ≤ 3) → ((((relR (aAX C n) (aAY C n) (aBX C n) (aBY C n) (bAX C n) (bAY C n) (bBX C n) (bBY C n)) ≠ 2) → ((((((mpB (aAX C n) (aAY C n) (aBX C n) (aBY C n) (bAX C n) (bAY C n) (bBX C n) (bBY C n)) = true) ↔ ((mpB (aAX C n) (aAY C n) (aBX C n) (aBY C n) (bAX C n) (bAY C n) (bBX C n) (bBY C n)) = true))) → ((((mpXN (aAX C n) (aAY C n) (aBX C n) (aBY C n) (bAX C n) (bAY C n) (bBX C n) (bBY C n)) = (mpXN (aAX C n) (aAY C n) (aBX C n) (aBY C n) (bAX C n) (bAY C n) (bBX C n) (bBY C n))) ∧ ((((mpXD (aAX C n) (aAY C n) (aBX C n) (aBY C n) (bAX C n) (bAY C n) (bBX C n) (bBY C n)) = (mpXD (aAX C n) (aAY C n) (aBX C n) (aBY C n) (bAX C n) (bAY C n) (bBX C n) (bBY C n))) ∧ ((((mpYN (aAX C n) (aAY C n) (aBX C n) (aBY C n) (bAX C n) (bAY C n) (bBX C n) (bBY C n)) = (mpYN (aAX C n) (aAY C n) (aBX C n) (aBY C n) (bAX C n) (bAY C n) (bBX C n) (bBY C n))) ∧ ((mpYD (aAX C n) (aAY C n) (aBX C n) (aBY C n) (bAX C n) (bAY C n) (bBX C n) (bBY C n)) = (mpYD (aAX C n) (aAY C n) (aBX C n) (aBY C n) (bAX C n) (bAY C n) (bBX C n) (bBY C n)))))))))) ∧ (((((mpB (aAX C n) (aAY C n) (aBX C n) (aBY C n) (bAX C n) (bAY C n) (bBX C n) (bBY C n)) = true) ↔ ((mpB (aAX C n) (aAY C n) (aBX C n) (aBY C n) (bAX C n) (bAY C n) (bBX C n) (bBY C n)) = false))) → (False)))) ∧ (((relR (aAX C n) (aAY C n) (aBX C n) (aBY C n) (bAX C n) (bAY C n) (bBX C n) (bBY C n)) = 2) → (((((aAX C n) = (aAX C n)) ∧ ((aAY C n) = (aAY C n))) ∧ (((aBX C n) = (aBX C n)) ∧ ((aBY C n) = (aBY C n)))) ∧ ((((-10000000) ≤ (liA (aAX C n) (aAY C n) (aBX C n) (aBY C n)) ∧ (liA (aAX C n) (aAY C n) (aBX C n) (aBY C n)) ≤ 10000000) ∧ (((-10000000) ≤ (liB (aAX C n) (aAY C n) (aBX C n) (aBY C n)) ∧ (liB (aAX C n) (aAY C n) (aBX C n) (aBY C n)) ≤ 10000000) ∧ ((-10000000) ≤ (liC (aAX C n) (aAY C n) (aBX C n) (aBY C n)) ∧ (liC (aAX C n) (aAY C n) (aBX C n) (aBY C n)) ≤ 10000000))) → ((((((bAX C n) = (bAX C n)) ∧ (((-3003) ≤ (bAX C n) ∧ (bAX C n) ≤ 3003) → ((-1001) ≤ (bAX C n) ∧ (bAX C n) ≤ 1001))) ∧ (((bAY C n) = (bAY C n)) ∧ (((-3003) ≤ (bAY C n) ∧ (bAY C n) ≤ 3003) → ((-1001) ≤ (bAY C n) ∧ (bAY C n) ≤ 1001)))) ∧ ((((bBX C n) = (bBX C n)) ∧ (((-3003) ≤ (bBX C n) ∧ (bBX C n) ≤ 3003) → ((-1001) ≤ (bBX C n) ∧ (bBX C n) ≤ 1001))) ∧ (((bBY C n) = (bBY C n)) ∧ (((-3003) ≤ (bBY C n) ∧ (bBY C n) ≤ 3003) → ((-1001) ≤ (bBY C n) ∧ (bBY C n) ≤ 1001))))) ∧ ((((-10000000) ≤ (liA (bAX C n) (bAY C n) (bBX C n) (bBY C n)) ∧ (liA (bAX C n) (bAY C n) (bBX C n) (bBY C n)) ≤ 10000000) ∧ (((-10000000) ≤ (liB (bAX C n) (bAY C n) (bBX C n) (bBY C n)) ∧ (liB (bAX C n) (bAY C n) (bBX C n) (bBY C n)) ≤ 10000000) ∧ ((-10000000) ≤ (liC (bAX C n) (bAY C n) (bBX C n) (bBY C n)) ∧ (liC (bAX C n) (bAY C n) (bBX C n) (bBY C n)) ≤ 10000000))) → (((((liA (aAX C n) (aAY C n) (aBX C n) (aBY C n)) = (liA (aAX C n) (aAY C n) (aBX C n) (aBY C n))) ∧ (((liB (aAX C n) (aAY C n) (aBX C n) (aBY C n)) = (liB (aAX C n) (aAY C n) (aBX C n) (aBY C n))) ∧ ((liC (aAX C n) (aAY C n) (aBX C n) (aBY C n)) = (liC (aAX C n) (aAY C n) (aBX C n) (aBY C n))))) ∧ (((liA (bAX C n) (bAY C n) (bBX C n) (bBY C n)) = (liA (bAX C n) (bAY C n) (bBX C n) (bBY C n))) ∧ (((liB (bAX C n) (bAY C n) (bBX C n) (bBY C n)) = (liB (bAX C n) (bAY C n) (bBX C n) (bBY C n))) ∧ ((liC (bAX C n) (bAY C n) (bBX C n) (bBY C n)) = (liC (bAX C n) (bAY C n) (bBX C n) (bBY C n)))))) ∧ (((((-4000000000000000000) ≤ (mlXN (liA (aAX C n) (aAY C n) (aBX C n) (aBY C n)) (liB (aAX C n) (aAY C n) (aBX C n) (aBY C n)) (liC (aAX C n) (aAY C n) (aBX C n) (aBY C n)) (liA (bAX C n) (bAY C n) (bBX C n) (bBY C n)) (liB (bAX C n) (bAY C n) (bBX C n) (bBY C n)) (liC (bAX C n) (bAY C n) (bBX C n) (bBY C n))) ∧ (mlXN (liA (aAX C n) (aAY C n) (aBX C n) (aBY C n)) (liB (aAX C n) (aAY C n) (aBX C n) (aBY C n)) (liC (aAX C n) (aAY C n) (aBX C n) (aBY C n)) (liA (bAX C n) (bAY C n) (bBX C n) (bBY C n)) (liB (bAX C n) (bAY C n) (bBX C n) (bBY C n)) (liC (bAX C n) (bAY C n) (bBX C n) (bBY C n))) ≤ 4000000000000000000) ∧ (((-4000000000000000000) ≤ (mlXD (liA (aAX C n) (aAY C n) (aBX C n) (aBY C n)) (liB (aAX C n) (aAY C n) (aBX C n) (aBY C n)) (liC (aAX C n) (aAY C n) (aBX C n) (aBY C n)) (liA (bAX C n) (bAY C n) (bBX C n) (bBY C n)) (liB (bAX C n) (bAY C n) (bBX C n) (bBY C n)) (liC (bAX C n) (bAY C n) (bBX C n) (bBY C n))) ∧ (mlXD (liA (aAX C n) (aAY C n) (aBX C n) (aBY C n)) (liB (aAX C n) (aAY C n) (aBX C n) (aBY C n)) (liC (aAX C n) (aAY C n) (aBX C n) (aBY C n)) (liA (bAX C n) (bAY C n) (bBX C n) (bBY C n)) (liB (bAX C n) (bAY C n) (bBX C n) (bBY C n)) (liC (bAX C n) (bAY C n) (bBX C n) (bBY C n))) ≤ 4000000000000000000) ∧ (((-4000000000000000000) ≤ (mlYN (liA (aAX C n) (aAY C n) (aBX C n) (aBY C n)) (liB (aAX C n) (aAY C n) (aBX C n) (aBY C n)) (liC (aAX C n) (aAY C n) (aBX C n) (aBY C n)) (liA (bAX C n) (bAY C n) (bBX C n) (bBY C n)) (liB (bAX C n) (bAY C n) (bBX C n) (bBY C n)) (liC (bAX C n) (bAY C n) (bBX C n) (bBY C n))) ∧ (mlYN (liA (aAX C n) (aAY C n) (aBX C n) (aBY C n)) (liB (aAX C n) (aAY C n) (aBX C n) (aBY C n)) (liC (aAX C n) (aAY C n) (aBX C n) (aBY C n)) (liA (bAX C n) (bAY C n) (bBX C n) (bBY C n)) (liB (bAX C n) (bAY C n) (bBX C n) (bBY C n)) (liC (bAX C n) (bAY C n) (bBX C n) (bBY C n))) ≤ 4000000000000000000) ∧ ((-4000000000000000000) ≤ (mlYD (liA (aAX C n) (aAY C n) (aBX C n) (aBY C n)) (liB (aAX C n) (aAY C n) (aBX C n) (aBY C n)) (liC (aAX C n) (aAY C n) (aBX C n) (aBY C n)) (liA (bAX C n) (bAY C n) (bBX C n) (bBY C n)) (liB (bAX C n) (bAY C n) (bBX C n) (bBY C n)) (liC (bAX C n) (bAY C n) (bBX C n) (bBY C n))) ∧ (mlYD (liA (aAX C n) (aAY C n) (aBX C n) (aBY C n)) (liB (aAX C n) (aAY C n) (aBX C n) (aBY C n)) (liC (aAX C n) (aAY C n) (aBX C n) (aBY C n)) (liA (bAX C n) (bAY C n) (bBX C n) (bBY C n)) (liB (bAX C n) (bAY C n) (bBX C n) (bBY C n)) (liC (bAX C n) (bAY C n) (bBX C n) (bBY C n))) ≤ 4000000000000000000)))) ∧ ((-1) ≤ (mlH (liA (aAX C n) (aAY C n) (aBX C n) (aBY C n)) (liB (aAX C n) (aAY C n) (aBX C n) (aBY C n)) (liC (aAX C n) (aAY C n) (aBX C n) (aBY C n)) (liA (bAX C n) (bAY C n) (bBX C n) (bBY C n)) (liB (bAX C n) (bAY C n) (bBX C n) (bBY C n)) (liC (bAX C n) (bAY C n) (bBX C n) (bBY C n))) ∧ (mlH (liA (aAX C n) (aAY C n) (aBX C n) (aBY C n)) (liB (aAX C n) (aAY C n) (aBX C n) (aBY C n)) (liC (aAX C n) (aAY C n) (aBX C n) (aBY C n)) (liA (bAX C n) (bAY C n) (bBX C n) (bBY C n)) (liB (bAX C n) (bAY C n) (bBX C n) (bBY C n)) (liC (bAX C n) (bAY C n) (bBX C n) (bBY C n))) ≤ 2)) → ((((ltOK (aAX C n) (aAY C n) (aBX C n) (aBY C n)) = true) → ((((ltOK (bAX C n) (bAY C n) (bBX C n) (bBY C n)) = true) → ((((mlH (liA (aAX C n) (aAY C n) (aBX C n) (aBY C n)) (liB (aAX C n) (aAY C n) (aBX C n) (aBY C n)) (liC (aAX C n) (aAY C n) (aBX C n) (aBY C n)) (liA (bAX C n) (bAY C n) (bBX C n) (bBY C n)) (liB (bAX C n) (bAY C n) (bBX C n) (bBY C n)) (liC (bAX C n) (bAY C n) (bBX C n) (bBY C n))) = 1) → ((((mlXN (liA (aAX C n) (aAY C n) (aBX C n) (aBY C n)) (liB (aAX C n) (aAY C n) (aBX C n) (aBY C n)) (liC (aAX C n) (aAY C n) (aBX C n) (aBY C n)) (liA (bAX C n) (bAY C n) (bBX C n) (bBY C n)) (liB (bAX C n) (bAY C n) (bBX C n) (bBY C n)) (liC (bAX C n) (bAY C n) (bBX C n) (bBY C n))) = (mpXN (aAX C n) (aAY C n) (aBX C n) (aBY C n) (bAX C n) (bAY C n) (bBX C n) (bBY C n))) ∧ ((((mlXD (liA (aAX C n) (aAY C n) (aBX C n) (aBY C n)) (liB (aAX C n) (aAY C n) (aBX C n) (aBY C n)) (liC (aAX C n) (aAY C n) (aBX C n) (aBY C n)) (liA (bAX C n) (bAY C n) (bBX C n) (bBY C n)) (liB (bAX C n) (bAY C n) (bBX C n) (bBY C n)) (liC (bAX C n) (bAY C n) (bBX C n) (bBY C n))) = (mpXD (aAX C n) (aAY C n) (aBX C n) (aBY C n) (bAX C n) (bAY C n) (bBX C n) (bBY C n))) ∧ ((((mlYN (liA (aAX C n) (aAY C n) (aBX C n) (aBY C n)) (liB (aAX C n) (aAY C n) (aBX C n) (aBY C n)) (liC (aAX C n) (aAY C n) (aBX C n) (aBY C n)) (liA (bAX C n) (bAY C n) (bBX C n) (bBY C n)) (liB (bAX C n) (bAY C n) (bBX C n) (bBY C n)) (liC (bAX C n) (bAY C n) (bBX C n) (bBY C n))) = (mpYN (aAX C n) (aAY C n) (aBX C n) (aBY C n) (bAX C n) (bAY C n) (bBX C n) (bBY C n))) ∧ ((mlYD (liA (aAX C n) (aAY C n) (aBX C n) (aBY C n)) (liB (aAX C n) (aAY C n) (aBX C n) (aBY C n)) (liC (aAX C n) (aAY C n) (aBX C n) (aBY C n)) (liA (bAX C n) (bAY C n) (bBX C n) (bBY C n)) (liB (bAX C n) (bAY C n) (bBX C n) (bBY C n)) (liC (bAX C n) (bAY C n) (bBX C n) (bBY C n))) = (mpYD (aAX C n) (aAY C n) (aBX C n) (aBY C n) (bAX C n) (bAY C n) (bBX C n) (bBY C n)))))))))) ∧ (((mlH (liA (aAX C n) (aAY C n) (aBX C n) (aBY C n)) (liB (aAX C n) (aAY C n) (aBX C n) (aBY C n)) (liC (aAX C n) (aAY C n) (aBX C n) (aBY C n)) (liA (bAX C n) (bAY C n) (bBX C n) (bBY C n)) (liB (bAX C n) (bAY C n) (bBX C n) (bBY C n)) (liC (bAX C n) (bAY C n) (bBX C n) (bBY C n))) ≠ 1) → (False)))) ∧ (((ltOK (bAX C n) (bAY C n) (bBX C n) (bBY C n)) = false) → (False)))) ∧ (((ltOK (aAX C n) (aAY C n) (aBX C n) (aBY C n)) = false) → (False)))))))))))))))))))))))))))) (by kernel_rfl) ?_
  intro h1 h2
  intro c3
  refine ⟨rfl, ⟨Int.le_refl _, fun _ => fun _ => rfl⟩, ?_⟩
  intro c4
  refine ⟨⟨⟨rfl, ⟨rfl, ⟨rfl, rfl⟩⟩⟩, ⟨rfl, ⟨rfl, ⟨rfl, rfl⟩⟩⟩⟩, ?_⟩
  intro c5
  refine ⟨⟨⟨rfl, ⟨rfl, ⟨rfl, rfl⟩⟩⟩, ⟨rfl, ⟨rfl, ⟨rfl, rfl⟩⟩⟩⟩, ?_⟩
  intro c6
  refine ⟨?_, ?_⟩
  · intro c7
    refine ⟨?_, ?_⟩
    · intro c8
      -- 1: (((mpXN (aAX C n) (aAY C n) (aBX C n) (aBY C n) (bAX C n) (bAY C n) (bBX C n) (bBY C n)) = (mpXN (aA
      omega
    · intro c9
      -- 2: False
      simp_all; done
  · intro c10
    refine ⟨?_, ?_⟩
    · intro c11
      refine ⟨?_, ?_⟩
      · intro c12
        -- 3: (((mpXN (aAX C n) (aAY C n) (aBX C n) (aBY C n) (bAX C n) (bAY C n) (bBX C n) (bBY C n)) = (mpXN (aA
        omega
      · intro c13
        -- 4: False
        omega
    · intro c14
      refine ⟨?_, ?_⟩
      · intro c15
        refine ⟨?_, ?_⟩
        · intro c16
          -- 5: (((mpXN (aAX C n) (aAY C n) (aBX C n) (aBY C n) (bAX C n) (bAY C n) (bBX C n) (bBY C n)) = (mpXN (aA
          omega
        · intro c17
          -- 6: False
          simp_all; done
      · intro c18
        refine ⟨⟨⟨rfl, ⟨rfl, ⟨rfl, rfl⟩⟩⟩, ⟨rfl, ⟨rfl, ⟨rfl, rfl⟩⟩⟩⟩, ?_⟩
        intro c19
        refine ⟨?_, ?_⟩
        · intro c20
          refine ⟨?_, ?_⟩
          · intro c21
            -- 7: (((mpXN (aAX C n) (aAY C n) (aBX C n) (aBY C n) (bAX C n) (bAY C n) (bBX C n) (bBY C n)) = (mpXN (aA
            omega
          · intro c22
            -- 8: False
            simp_all; done
        · intro c23
          refine ⟨⟨⟨rfl, rfl⟩, ⟨rfl, rfl⟩⟩, ?_⟩
          intro c24
          refine ⟨?_, ?_⟩
          · refine ⟨?_, ?_, rfl, ?_⟩
            · refine ⟨?_, rfl, ?_⟩
              · refine ⟨rfl, ?_⟩
                intro c25
                -- 9: (-1001) ≤ (bAX C n) ∧ (bAX C n) ≤ 1001
                have hm := cross_all (sAX := aAX C n) (sAY := aAY C n) (sBX := aBX C n) (sBY := aBY C n) (tAX := bAX C n) (tAY := bAY C n) (tBX := bBX C n) (tBY := bBY C n) (by assumption); first | omega | (simp_all; done) | (simp_all; omega) | fail
              · intro c26
                -- 10: (-1001) ≤ (bAY C n) ∧ (bAY C n) ≤ 1001
                have hm := cross_all (sAX := aAX C n) (sAY := aAY C n) (sBX := aBX C n) (sBY := aBY C n) (tAX := bAX C n) (tAY := bAY C n) (tBX := bBX C n) (tBY := bBY C n) (by assumption); first | omega | (simp_all; done) | (simp_all; omega) | fail
            · refine ⟨rfl, ?_⟩
              intro c27
              -- 11: (-1001) ≤ (bBX C n) ∧ (bBX C n) ≤ 1001
              have hm := cross_all (sAX := aAX C n) (sAY := aAY C n) (sBX := aBX C n) (sBY := aBY C n) (tAX := bAX C n) (tAY := bAY C n) (tBX := bBX C n) (tBY := bBY C n) (by assumption); first | omega | (simp_all; done) | (simp_all; omega) | fail
            · intro c28
              -- 12: (-1001) ≤ (bBY C n) ∧ (bBY C n) ≤ 1001
              have hm := cross_all (sAX := aAX C n) (sAY := aAY C n) (sBX := aBX C n) (sBY := aBY C n) (tAX := bAX C n) (tAY := bAY C n) (tBX := bBX C n) (tBY := bBY C n) (by assumption); first | omega | (simp_all; done) | (simp_all; omega) | fail
          · intro c29
            refine ⟨⟨⟨rfl, ⟨rfl, rfl⟩⟩, ⟨rfl, ⟨rfl, rfl⟩⟩⟩, ?_⟩
            intro c30
            refine ⟨?_, ?_⟩
            · intro c31
              refine ⟨?_, ?_⟩
              · intro c32
                refine ⟨?_, ?_⟩
                · intro c33
                  -- 13: (((mlXN (liA (aAX C n) (aAY C n) (aBX C n) (aBY C n)) (liB (aAX C n) (aAY C n) (aBX C n) (aBY C n)) 
                  have hm := cross_all (sAX := aAX C n) (sAY := aAY C n) (sBX := aBX C n) (sBY := aBY C n) (tAX := bAX C n) (tAY := bAY C n) (tBX := bBX C n) (tBY := bBY C n) (by assumption); first | omega | (simp_all; done) | (simp_all; omega) | fail
                · intro c34
                  -- 14: False
                  have hm := cross_all (sAX := aAX C n) (sAY := aAY C n) (sBX := aBX C n) (sBY := aBY C n) (tAX := bAX C n) (tAY := bAY C n) (tBX := bBX C n) (tBY := bBY C n) (by assumption); first | omega | (simp_all; done) | (simp_all; omega) | fail
              · intro c35
                -- 15: False
                have hm := cross_all (sAX := aAX C n) (sAY := aAY C n) (sBX := aBX C n) (sBY := aBY C n) (tAX := bAX C n) (tAY := bAY C n) (tBX := bBX C n) (tBY := bBY C n) (by assumption); first | omega | (simp_all; done) | (simp_all; omega) | fail
            · intro c36
              -- 16: False
              have hm := cross_all (sAX := aAX C n) (sAY := aAY C n) (sBX := aBX C n) (sBY := aBY C n) (tAX := bAX C n) (tAY := bAY C n) (tBX := bBX C n) (tBY := bBY C n) (by assumption); first | omega | (simp_all; done) | (simp_all; omega) | fail
def c_l_FnCrossingLines (C : Int → Int) (n : Int) : Cn Try.prog := ⟨_, _, _, _, _, l_FnCrossingLines C n⟩
end Go.Proofs.Ytoielngedkbmbaa
