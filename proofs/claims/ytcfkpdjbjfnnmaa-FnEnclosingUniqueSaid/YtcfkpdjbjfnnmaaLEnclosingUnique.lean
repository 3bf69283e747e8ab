/- FnEnclosingUnique: the walk. -/
import Derived.Test.YtcfkpdjbjfnnmaaR9
import Derived.Test.YtcfkpdjbjfnnmaaK82
set_option linter.unusedSimpArgs false
set_option linter.unusedVariables false
set_option maxRecDepth 100000
namespace Go.Proofs.Ytcfkpdjbjfnnmaa
open Go.Sym
theorem red_flip {a b : Int} (h : b < 0) : redN a b = redN (-a) (-b) ∧ redD a b = redD (-a) (-b) := by
  have e : gcdI (-a) (-b) = gcdI a b := by unfold gcdI; simp [Int.gcd]
  unfold redN redD
  rw [if_pos h, if_neg (by omega), if_pos h, if_neg (by omega), e, Int.neg_ediv_of_dvd (gcdI_left a b), Int.neg_ediv_of_dvd (gcdI_right a b)]
  exact ⟨rfl, rfl⟩
theorem red_all {a b M N : Int} (hb : b ≠ 0) (h1 : -M ≤ a) (h2 : a ≤ M) (h3 : -N ≤ b) (h4 : b ≤ N) : redN a b * b = a * redD a b ∧ (1 ≤ redD a b ∧ redD a b ≤ N) ∧ gcdI (redN a b) (redD a b) = 1 ∧ -M ≤ redN a b ∧ redN a b ≤ M := by
  by_cases h : b < 0
  · obtain ⟨e1, e2⟩ := red_flip (a := a) h
    rw [e1, e2]
    have v := red_val (-a) (-b) (by omega)
    refine ⟨?_, redD_bd (-a) (-b) N (by omega) (by omega), red_cop (-a) (-b) (by omega), redN_bd (-a) (-b) M (by omega) (by omega) (by omega)⟩
    rw [Int.mul_neg, Int.neg_mul] at v
    omega
  · exact ⟨red_val a b (by omega), redD_bd a b N (by omega) h4, red_cop a b (by omega), redN_bd a b M (by omega) h1 h2⟩
def cfF (X Y : Int → Int) (n : Int) (A : Int → Int) (m i : Int) : Int := ((cXN X Y n A m - X (A i) * cXD X Y n A m) * cYD X Y n A m) * ((cXN X Y n A m - X (A i) * cXD X Y n A m) * cYD X Y n A m) + ((cYN X Y n A m - Y (A i) * cYD X Y n A m) * cXD X Y n A m) * ((cYN X Y n A m - Y (A i) * cYD X Y n A m) * cXD X Y n A m)
def cf1 (X Y : Int → Int) (n : Int) (A : Int → Int) (m j : Int) : Int := if j = 0 then 0 else cfF X Y n A m 0
theorem circ_b (e f g h p q d : Int) (hp : p = e * e + f * f) (hd : d = 2 * (e * g - f * h)) : (g * p - f * q) * (g * p - f * q) + (e * q - h * p) * (e * q - h * p) = (g * p - f * q - e * d) * (g * p - f * q - e * d) + (e * q - h * p - f * d) * (e * q - h * p - f * d) := by
  subst hp hd
  grind
theorem circ_c (e f g h p q d : Int) (hq : q = h * h + g * g) (hd : d = 2 * (e * g - f * h)) : (g * p - f * q) * (g * p - f * q) + (e * q - h * p) * (e * q - h * p) = (g * p - f * q - h * d) * (g * p - f * q - h * d) + (e * q - h * p - g * d) * (e * q - h * p - g * d) := by
  subst hq hd
  grind
theorem cn_bd {ax ay bx bY cx cY : Int} (h1 : -1000 ≤ ax ∧ ax ≤ 1000) (h2 : -1000 ≤ ay ∧ ay ≤ 1000) (h3 : -1000 ≤ bx ∧ bx ≤ 1000) (h4 : -1000 ≤ bY ∧ bY ≤ 1000) (h5 : -1000 ≤ cx ∧ cx ≤ 1000) (h6 : -1000 ≤ cY ∧ cY ≤ 1000) :
    (-16000000 ≤ cnD ax ay bx bY cx cY ∧ cnD ax ay bx bY cx cY ≤ 16000000) ∧ (-50000000000 ≤ cnX ax ay bx bY cx cY ∧ cnX ax ay bx bY cx cY ≤ 50000000000) ∧ (-50000000000 ≤ cnY ax ay bx bY cx cY ∧ cnY ax ay bx bY cx cY ≤ 50000000000) := by
  have k1 := mul_bd (bx - ax) (bx - ax) 2000 2000 (by omega) (by omega) (by omega) (by omega)
  have k2 := mul_bd (bY - ay) (bY - ay) 2000 2000 (by omega) (by omega) (by omega) (by omega)
  have k3 := mul_bd (cx - ax) (cx - ax) 2000 2000 (by omega) (by omega) (by omega) (by omega)
  have k4 := mul_bd (cY - ay) (cY - ay) 2000 2000 (by omega) (by omega) (by omega) (by omega)
  have k5 := mul_bd (bx - ax) (cY - ay) 2000 2000 (by omega) (by omega) (by omega) (by omega)
  have k6 := mul_bd (bY - ay) (cx - ax) 2000 2000 (by omega) (by omega) (by omega) (by omega)
  have d1 : -8000000 ≤ dst ax ay bx bY ∧ dst ax ay bx bY ≤ 8000000 := by unfold dst; omega
  have d2 : -8000000 ≤ dst ax ay cx cY ∧ dst ax ay cx cY ≤ 8000000 := by unfold dst; omega
  have d3 : -16000000 ≤ cnD ax ay bx bY cx cY ∧ cnD ax ay bx bY cx cY ≤ 16000000 := by unfold cnD trn; omega
  have m1 := mul_bd (cY - ay) (dst ax ay bx bY) 2000 8000000 (by omega) (by omega) d1.1 d1.2
  have m2 := mul_bd (bY - ay) (dst ax ay cx cY) 2000 8000000 (by omega) (by omega) d2.1 d2.2
  have m3 := mul_bd (bx - ax) (dst ax ay cx cY) 2000 8000000 (by omega) (by omega) d2.1 d2.2
  have m4 := mul_bd (cx - ax) (dst ax ay bx bY) 2000 8000000 (by omega) (by omega) d1.1 d1.2
  have m5 := mul_bd ax (cnD ax ay bx bY cx cY) 1000 16000000 (by omega) (by omega) d3.1 d3.2
  have m6 := mul_bd ay (cnD ax ay bx bY cx cY) 1000 16000000 (by omega) (by omega) d3.1 d3.2
  refine ⟨d3, ?_, ?_⟩
  · unfold cnX; omega
  · unfold cnY; omega
theorem cc_main {X Y : Int → Int} {n : Int} {A : Int → Int} {m : Int} (h : cnB X Y n A m = true) : ∃ PX PY d : Int, d ≠ 0 ∧ cXN X Y n A m * d = PX * cXD X Y n A m ∧ cYN X Y n A m * d = PY * cYD X Y n A m ∧
    ((1 ≤ cXD X Y n A m ∧ cXD X Y n A m ≤ 16000000) ∧ gcdI (cXN X Y n A m) (cXD X Y n A m) = 1 ∧ -50000000000 ≤ cXN X Y n A m ∧ cXN X Y n A m ≤ 50000000000) ∧ ((1 ≤ cYD X Y n A m ∧ cYD X Y n A m ≤ 16000000) ∧ gcdI (cYN X Y n A m) (cYD X Y n A m) = 1 ∧ -50000000000 ≤ cYN X Y n A m ∧ cYN X Y n A m ≤ 50000000000) ∧
    ∀ i, 0 ≤ i → i < m → (PX - X (A 0) * d) * (PX - X (A 0) * d) + (PY - Y (A 0) * d) * (PY - Y (A 0) * d) = (PX - X (A i) * d) * (PX - X (A i) * d) + (PY - Y (A i) * d) * (PY - Y (A i) * d) := by
  have h0 := h
  unfold cnB at h0
  rw [Bool.and_eq_true, Bool.and_eq_true] at h0
  have hp := cn_parts h0.1 h0.2.1 h0.2.2
  have hq := ix_all h0.1 h0.2.1
  have hy := cn_yes h
  rcases hp.2 with e | e | ⟨e, hd⟩
  · obtain ⟨e1, e2, e3, e4⟩ := hy.1 e
    have q0 := hq 0 (by omega) (by omega)
    rw [e1, e2, e3, e4]
    refine ⟨X (A 0), Y (A 0), 1, by omega, by omega, by omega, ⟨⟨by omega, by omega⟩, by unfold gcdI; simp [Int.gcd], by omega, by omega⟩, ⟨⟨by omega, by omega⟩, by unfold gcdI; simp [Int.gcd], by omega, by omega⟩, fun i a b => ?_⟩
    have : i = 0 := by omega
    subst this; rfl
  · obtain ⟨e1, e2, e3, e4⟩ := hy.2.1 e
    have q0 := hq 0 (by omega) (by omega)
    have q1 := hq 1 (by omega) (by omega)
    rw [e1, e2, e3, e4]
    have r1 := red_all (a := X (A 0) + X (A 1)) (b := 2) (M := 50000000000) (N := 16000000) (by omega) (by omega) (by omega) (by omega) (by omega)
    have r2 := red_all (a := Y (A 0) + Y (A 1)) (b := 2) (M := 50000000000) (N := 16000000) (by omega) (by omega) (by omega) (by omega) (by omega)
    refine ⟨_, _, 2, by omega, r1.1, r2.1, r1.2, r2.2, fun i a b => ?_⟩
    have : i = 0 ∨ i = 1 := by omega
    rcases this with rfl | rfl
    · rfl
    · rw [show X (A 0) + X (A 1) - X (A 1) * 2 = -(X (A 0) + X (A 1) - X (A 0) * 2) by omega, show Y (A 0) + Y (A 1) - Y (A 1) * 2 = -(Y (A 0) + Y (A 1) - Y (A 0) * 2) by omega, Int.neg_mul_neg, Int.neg_mul_neg]
  · obtain ⟨e1, e2, e3, e4⟩ := hy.2.2 e
    have q0 := hq 0 (by omega) (by omega)
    have q1 := hq 1 (by omega) (by omega)
    have q2 := hq 2 (by omega) (by omega)
    rw [e1, e2, e3, e4]
    have hb := cn_bd q0.2.1 q0.2.2 q1.2.1 q1.2.2 q2.2.1 q2.2.2
    have r1 := red_all hd hb.2.1.1 hb.2.1.2 hb.1.1 hb.1.2
    have r2 := red_all hd hb.2.2.1 hb.2.2.2 hb.1.1 hb.1.2
    refine ⟨_, _, _, hd, r1.1, r2.1, r1.2, r2.2, fun i a b => ?_⟩
    generalize hax : X (A 0) = ax at *
    generalize hay : Y (A 0) = ay at *
    have : i = 0 ∨ i = 1 ∨ i = 2 := by omega
    have hdd : cnD ax ay (X (A 1)) (Y (A 1)) (X (A 2)) (Y (A 2)) = 2 * ((X (A 1) - ax) * (Y (A 2) - ay) - (Y (A 1) - ay) * (X (A 2) - ax)) := rfl
    have f1 := circ_b (X (A 1) - ax) (Y (A 1) - ay) (Y (A 2) - ay) (X (A 2) - ax) (dst ax ay (X (A 1)) (Y (A 1))) (dst ax ay (X (A 2)) (Y (A 2))) _ rfl hdd
    have f2 := circ_c (X (A 1) - ax) (Y (A 1) - ay) (Y (A 2) - ay) (X (A 2) - ax) (dst ax ay (X (A 1)) (Y (A 1))) (dst ax ay (X (A 2)) (Y (A 2))) _ rfl hdd
    have g1 : cnX ax ay (X (A 1)) (Y (A 1)) (X (A 2)) (Y (A 2)) = (Y (A 2) - ay) * dst ax ay (X (A 1)) (Y (A 1)) - (Y (A 1) - ay) * dst ax ay (X (A 2)) (Y (A 2)) + ax * cnD ax ay (X (A 1)) (Y (A 1)) (X (A 2)) (Y (A 2)) := rfl
    have g2 : cnY ax ay (X (A 1)) (Y (A 1)) (X (A 2)) (Y (A 2)) = (X (A 1) - ax) * dst ax ay (X (A 2)) (Y (A 2)) - (X (A 2) - ax) * dst ax ay (X (A 1)) (Y (A 1)) + ay * cnD ax ay (X (A 1)) (Y (A 1)) (X (A 2)) (Y (A 2)) := rfl
    have y1 : cnX ax ay (X (A 1)) (Y (A 1)) (X (A 2)) (Y (A 2)) - ax * cnD ax ay (X (A 1)) (Y (A 1)) (X (A 2)) (Y (A 2)) = (Y (A 2) - ay) * dst ax ay (X (A 1)) (Y (A 1)) - (Y (A 1) - ay) * dst ax ay (X (A 2)) (Y (A 2)) := by omega
    have y2 : cnY ax ay (X (A 1)) (Y (A 1)) (X (A 2)) (Y (A 2)) - ay * cnD ax ay (X (A 1)) (Y (A 1)) (X (A 2)) (Y (A 2)) = (X (A 1) - ax) * dst ax ay (X (A 2)) (Y (A 2)) - (X (A 2) - ax) * dst ax ay (X (A 1)) (Y (A 1)) := by omega
    rcases this with rfl | rfl | rfl
    · rw [hax, hay]
    · have z1 := Int.sub_mul (X (A 1)) ax (cnD ax ay (X (A 1)) (Y (A 1)) (X (A 2)) (Y (A 2)))
      have z2 := Int.sub_mul (Y (A 1)) ay (cnD ax ay (X (A 1)) (Y (A 1)) (X (A 2)) (Y (A 2)))
      rw [← y1, ← y2, z1, z2] at f1
      rw [show ∀ u a b : Int, u - a - (b - a) = u - b from fun u a b => by omega, show ∀ u a b : Int, u - a - (b - a) = u - b from fun u a b => by omega] at f1
      exact f1
    · have z1 := Int.sub_mul (X (A 2)) ax (cnD ax ay (X (A 1)) (Y (A 1)) (X (A 2)) (Y (A 2)))
      have z2 := Int.sub_mul (Y (A 2)) ay (cnD ax ay (X (A 1)) (Y (A 1)) (X (A 2)) (Y (A 2)))
      rw [← y1, ← y2, z1, z2] at f2
      rw [show ∀ u a b : Int, u - a - (b - a) = u - b from fun u a b => by omega, show ∀ u a b : Int, u - a - (b - a) = u - b from fun u a b => by omega] at f2
      exact f2
theorem cc_sq (N1 D1 N2 D2 PX PY d x y : Int) (h1 : N1 * d = PX * D1) (h2 : N2 * d = PY * D2) :
    (((N1 - x * D1) * D2) * ((N1 - x * D1) * D2) + ((N2 - y * D2) * D1) * ((N2 - y * D2) * D1)) * (d * d) = ((D1 * D2) * (D1 * D2)) * ((PX - x * d) * (PX - x * d) + (PY - y * d) * (PY - y * d)) := by
  have e1 : ((N1 - x * D1) * D2) * d = (D1 * D2) * (PX - x * d) := by grind
  have e2 : ((N2 - y * D2) * D1) * d = (D1 * D2) * (PY - y * d) := by grind
  grind
theorem cc_law {X Y : Int → Int} {n : Int} {A : Int → Int} {m : Int} (h : cnB X Y n A m = true) {i : Int} (h0 : 0 ≤ i) (h1 : i < m) : cfF X Y n A m i = cfF X Y n A m 0 := by
  obtain ⟨PX, PY, d, hd, e1, e2, _, _, hq⟩ := cc_main h
  have a1 := cc_sq _ _ _ _ PX PY d (X (A i)) (Y (A i)) e1 e2
  have a2 := cc_sq _ _ _ _ PX PY d (X (A 0)) (Y (A 0)) e1 e2
  rw [← hq i h0 h1, ← a2] at a1
  exact Int.eq_of_mul_eq_mul_right (Int.mul_ne_zero hd hd) a1
theorem cc_bd {X Y : Int → Int} {n : Int} {A : Int → Int} {m : Int} (h : cnB X Y n A m = true) : ((1 ≤ cXD X Y n A m ∧ cXD X Y n A m ≤ 16000000) ∧ gcdI (cXN X Y n A m) (cXD X Y n A m) = 1 ∧ -50000000000 ≤ cXN X Y n A m ∧ cXN X Y n A m ≤ 50000000000) ∧ ((1 ≤ cYD X Y n A m ∧ cYD X Y n A m ≤ 16000000) ∧ gcdI (cYN X Y n A m) (cYD X Y n A m) = 1 ∧ -50000000000 ≤ cYN X Y n A m ∧ cYN X Y n A m ≤ 50000000000) := by
  obtain ⟨PX, PY, d, hd, e1, e2, b1, b2, hq⟩ := cc_main h
  exact ⟨b1, b2⟩
theorem cc_ok {X Y : Int → Int} {n : Int} {A : Int → Int} {m : Int} (h : cnB X Y n A m = true) : okR (cXN X Y n A m) (cXD X Y n A m) = true ∧ okR (cYN X Y n A m) (cYD X Y n A m) = true := by
  have hb := cc_bd h
  exact ⟨okR_of (by omega) (by omega) hb.1.2.1, okR_of (by omega) (by omega) hb.2.2.1⟩
theorem cc_ix {X Y : Int → Int} {n : Int} {A : Int → Int} {m : Int} (h : cnB X Y n A m = true) {i : Int} (h0 : 0 ≤ i) (h1 : i < m) : (0 ≤ A i ∧ A i < n) ∧ (-1000 ≤ X (A i) ∧ X (A i) ≤ 1000) ∧ (-1000 ≤ Y (A i) ∧ Y (A i) ≤ 1000) := by
  unfold cnB at h
  rw [Bool.and_eq_true, Bool.and_eq_true] at h
  exact ix_all h.1 h.2.1 i h0 h1
theorem cc_w1 {x N D E : Int} (hx : -1000 ≤ x ∧ x ≤ 1000) (hN : -50000000000 ≤ N ∧ N ≤ 50000000000) (hD : 1 ≤ D ∧ D ≤ 2000) (hE : 1 ≤ E ∧ E ≤ 2000) : IntKind.i64.wrap (x * D) = x * D ∧ IntKind.i64.wrap (N - x * D) = N - x * D ∧ IntKind.i64.wrap ((N - x * D) * E) = (N - x * D) * E ∧ (-4000000000000000000 ≤ (N - x * D) * E ∧ (N - x * D) * E ≤ 4000000000000000000) := by
  have h8 : IntKind.i64.min = -9223372036854775808 := by decide
  have h9 : IntKind.i64.max = 9223372036854775807 := by decide
  have b1 := mul_bd x D 1000 2000 (by omega) (by omega) (by omega) (by omega)
  have b2 := mul_bd (N - x * D) E 50002000000 2000 (by omega) (by omega) (by omega) (by omega)
  exact ⟨wrap_in .i64 _ (by omega) (by omega), wrap_in .i64 _ (by omega) (by omega), wrap_in .i64 _ (by omega) (by omega), by omega, by omega⟩
theorem cc_w {X Y : Int → Int} {n : Int} {A : Int → Int} {m : Int} (h : cnB X Y n A m = true) (d1 : cXD X Y n A m ≤ 2000) (d2 : cYD X Y n A m ≤ 2000) {i : Int} (h0 : 0 ≤ i) (h1 : i < m) :
    (IntKind.i64.wrap (X (A i) * cXD X Y n A m) = X (A i) * cXD X Y n A m ∧ IntKind.i64.wrap (cXN X Y n A m - X (A i) * cXD X Y n A m) = cXN X Y n A m - X (A i) * cXD X Y n A m ∧ IntKind.i64.wrap ((cXN X Y n A m - X (A i) * cXD X Y n A m) * cYD X Y n A m) = (cXN X Y n A m - X (A i) * cXD X Y n A m) * cYD X Y n A m ∧
      (-4000000000000000000 ≤ (cXN X Y n A m - X (A i) * cXD X Y n A m) * cYD X Y n A m ∧ (cXN X Y n A m - X (A i) * cXD X Y n A m) * cYD X Y n A m ≤ 4000000000000000000)) ∧
    (IntKind.i64.wrap (Y (A i) * cYD X Y n A m) = Y (A i) * cYD X Y n A m ∧ IntKind.i64.wrap (cYN X Y n A m - Y (A i) * cYD X Y n A m) = cYN X Y n A m - Y (A i) * cYD X Y n A m ∧ IntKind.i64.wrap ((cYN X Y n A m - Y (A i) * cYD X Y n A m) * cXD X Y n A m) = (cYN X Y n A m - Y (A i) * cYD X Y n A m) * cXD X Y n A m ∧
      (-4000000000000000000 ≤ (cYN X Y n A m - Y (A i) * cYD X Y n A m) * cXD X Y n A m ∧ (cYN X Y n A m - Y (A i) * cYD X Y n A m) * cXD X Y n A m ≤ 4000000000000000000)) := by
  have hb := cc_bd h
  have hq := cc_ix h h0 h1
  exact ⟨cc_w1 hq.2.1 (by omega) (by omega) (by omega), cc_w1 hq.2.2 (by omega) (by omega) (by omega)⟩
theorem cc_v1 {x y : Int} (a1 : absI x ≤ 100000000) (a2 : absI y ≤ 100000000) : IntKind.i64.wrap (x * x) = x * x ∧ IntKind.i64.wrap (y * y) = y * y ∧ IntKind.i64.wrap (x * x + y * y) = x * x + y * y ∧ 0 ≤ x * x + y * y ∧ x * x + y * y ≤ 20000000000000000 := by
  have h8 : IntKind.i64.min = -9223372036854775808 := by decide
  have h9 : IntKind.i64.max = 9223372036854775807 := by decide
  unfold absI at a1 a2
  have b1 := mul_bd x x 100000000 100000000 (by omega) (by omega) (by omega) (by omega)
  have b2 := mul_bd y y 100000000 100000000 (by omega) (by omega) (by omega) (by omega)
  have pn : ∀ z : Int, 0 ≤ z * z := fun z => by
    rcases Int.le_total 0 z with h | h
    · exact Int.mul_nonneg h h
    · have := Int.mul_nonneg (show 0 ≤ -z by omega) (show 0 ≤ -z by omega)
      rw [Int.neg_mul_neg] at this
      exact this
  have p1 := pn x
  have p2 := pn y
  exact ⟨wrap_in .i64 _ (by omega) (by omega), wrap_in .i64 _ (by omega) (by omega), wrap_in .i64 _ (by omega) (by omega), by omega, by omega⟩
theorem cc_v {X Y : Int → Int} {n : Int} {A : Int → Int} {m : Int} (h : cnB X Y n A m = true) {i : Int} (h0 : 0 ≤ i) (h1 : i < m) (a1 : absI ((cXN X Y n A m - X (A i) * cXD X Y n A m) * cYD X Y n A m) ≤ 100000000) (a2 : absI ((cYN X Y n A m - Y (A i) * cYD X Y n A m) * cXD X Y n A m) ≤ 100000000) :
    (IntKind.i64.wrap (((cXN X Y n A m - X (A i) * cXD X Y n A m) * cYD X Y n A m) * ((cXN X Y n A m - X (A i) * cXD X Y n A m) * cYD X Y n A m)) = ((cXN X Y n A m - X (A i) * cXD X Y n A m) * cYD X Y n A m) * ((cXN X Y n A m - X (A i) * cXD X Y n A m) * cYD X Y n A m)) ∧
    (IntKind.i64.wrap (((cYN X Y n A m - Y (A i) * cYD X Y n A m) * cXD X Y n A m) * ((cYN X Y n A m - Y (A i) * cYD X Y n A m) * cXD X Y n A m)) = ((cYN X Y n A m - Y (A i) * cYD X Y n A m) * cXD X Y n A m) * ((cYN X Y n A m - Y (A i) * cYD X Y n A m) * cXD X Y n A m)) ∧
    ((cXN X Y n A m - X (A i) * cXD X Y n A m) * cYD X Y n A m) * ((cXN X Y n A m - X (A i) * cXD X Y n A m) * cYD X Y n A m) + ((cYN X Y n A m - Y (A i) * cYD X Y n A m) * cXD X Y n A m) * ((cYN X Y n A m - Y (A i) * cYD X Y n A m) * cXD X Y n A m) = cfF X Y n A m 0 ∧
    IntKind.i64.wrap (cfF X Y n A m 0) = cfF X Y n A m 0 ∧ (0 ≤ cfF X Y n A m 0 ∧ cfF X Y n A m 0 ≤ 20000000000000000) ∧ cf1 X Y n A m (i + 1) = cfF X Y n A m 0 ∧ (i ≠ 0 → cf1 X Y n A m i = cfF X Y n A m 0) := by
  have hv := cc_v1 a1 a2
  have hl := cc_law h h0 h1
  have e : ((cXN X Y n A m - X (A i) * cXD X Y n A m) * cYD X Y n A m) * ((cXN X Y n A m - X (A i) * cXD X Y n A m) * cYD X Y n A m) + ((cYN X Y n A m - Y (A i) * cYD X Y n A m) * cXD X Y n A m) * ((cYN X Y n A m - Y (A i) * cYD X Y n A m) * cXD X Y n A m) = cfF X Y n A m 0 := hl
  rw [e] at hv
  exact ⟨hv.1, hv.2.1, e, hv.2.2.1, hv.2.2.2, by unfold cf1; rw [if_neg (by omega)], fun hi => by unfold cf1; rw [if_neg hi]⟩

theorem cu_nonpos {a b : Int} (ha : 0 ≤ a) (hb : b ≤ 0) : a * b ≤ 0 := by
  have := Int.mul_nonneg ha (show 0 ≤ -b by omega)
  rw [Int.mul_neg] at this
  omega
theorem cu_id1 {PX d QX e ux : Int} (x : Int) (h : QX * d - PX * e = ux) : (QX - x * e) * d = ux + e * (PX - x * d) := by subst h; grind
theorem cu_id2 (wx wy d : Int) : (wx * wx + wy * wy) * (d * d) = (wx * d) * (wx * d) + (wy * d) * (wy * d) := by grind
theorem cu_id3 (vx vy e ux uy : Int) : (ux + e * vx) * (ux + e * vx) + (uy + e * vy) * (uy + e * vy) = ux * ux + uy * uy + e * e * (vx * vx + vy * vy) + 2 * e * (ux * vx + uy * vy) := by grind
theorem cu_id4 (la lb lc Z e ux uy a1 a2 b1 b2 c1 c2 : Int) : la * (Z + 2 * e * (ux * a1 + uy * a2)) + lb * (Z + 2 * e * (ux * b1 + uy * b2)) + lc * (Z + 2 * e * (ux * c1 + uy * c2)) = (la + lb + lc) * Z + 2 * e * (ux * (la * a1 + lb * b1 + lc * c1) + uy * (la * a2 + lb * b2 + lc * c2)) := by grind
theorem cu_id5 (w1 w2 w3 G e h D : Int) : w1 * G + w2 * (G - e * D) + w3 * (G - h * D) = (w1 + w2 + w3) * G - D * (w2 * e + w3 * h) := by grind
theorem cu_id6 (T G : Int) : 2 * (T * T) * G - 2 * T * (T * G) = 0 := by grind
theorem cu_id7 (p q s T : Int) (h : p * q - s * s = T * T) : (p + q - 2 * s) * s + q * (p - s) + p * (q - s) = 2 * (T * T) := by rw [← h]; grind
theorem cu_id8 (G H u v T : Int) : (G - u * (2 * T)) * (G - u * (2 * T)) + (H - v * (2 * T)) * (H - v * (2 * T)) = G * G + H * H - 4 * (T * (u * G + v * H - T * (u * u + v * v))) := by grind
theorem cu_half {PX PY d R QX QY e S ax ay bx bY cx cY la lb lc : Int} (h1 : 0 ≤ la) (h2 : 0 ≤ lb) (h3 : 0 ≤ lc) (h4 : 0 < la + lb + lc)
    (s1 : la * (PX - ax * d) + lb * (PX - bx * d) + lc * (PX - cx * d) = 0) (s2 : la * (PY - ay * d) + lb * (PY - bY * d) + lc * (PY - cY * d) = 0)
    (r1 : (PX - ax * d) * (PX - ax * d) + (PY - ay * d) * (PY - ay * d) = R) (r2 : (PX - bx * d) * (PX - bx * d) + (PY - bY * d) * (PY - bY * d) = R) (r3 : (PX - cx * d) * (PX - cx * d) + (PY - cY * d) * (PY - cY * d) = R)
    (q1 : (QX - ax * e) * (QX - ax * e) + (QY - ay * e) * (QY - ay * e) ≤ S) (q2 : (QX - bx * e) * (QX - bx * e) + (QY - bY * e) * (QY - bY * e) ≤ S) (q3 : (QX - cx * e) * (QX - cx * e) + (QY - cY * e) * (QY - cY * e) ≤ S) :
    (QX * d - PX * e) * (QX * d - PX * e) + (QY * d - PY * e) * (QY * d - PY * e) + e * e * R ≤ d * d * S := by
  have pn : ∀ z : Int, 0 ≤ z * z := fun z => by
    rcases Int.le_total 0 z with h | h
    · exact Int.mul_nonneg h h
    · have := Int.mul_nonneg (show 0 ≤ -z by omega) (show 0 ≤ -z by omega)
      rw [Int.neg_mul_neg] at this
      exact this
  generalize hux : QX * d - PX * e = ux at *
  generalize huy : QY * d - PY * e = uy at *
  have step : ∀ x y : Int, (PX - x * d) * (PX - x * d) + (PY - y * d) * (PY - y * d) = R → (QX - x * e) * (QX - x * e) + (QY - y * e) * (QY - y * e) ≤ S → ux * ux + uy * uy + e * e * R - d * d * S + 2 * e * (ux * (PX - x * d) + uy * (PY - y * d)) ≤ 0 := by
    intro x y hr hq
    have k1 := cu_id1 x hux
    have k2 := cu_id1 y huy
    have k3 : ((QX - x * e) * (QX - x * e) + (QY - y * e) * (QY - y * e)) * (d * d) = ux * ux + uy * uy + e * e * R + 2 * e * (ux * (PX - x * d) + uy * (PY - y * d)) := by rw [cu_id2, k1, k2, cu_id3, hr]
    have k4 := Int.mul_le_mul_of_nonneg_right hq (pn d)
    rw [k3, Int.mul_comm S] at k4
    omega
  have t1 := cu_nonpos h1 (step ax ay r1 q1)
  have t2 := cu_nonpos h2 (step bx bY r2 q2)
  have t3 := cu_nonpos h3 (step cx cY r3 q3)
  generalize hZ : ux * ux + uy * uy + e * e * R - d * d * S = Z at t1 t2 t3
  have sum : la * (Z + 2 * e * (ux * (PX - ax * d) + uy * (PY - ay * d))) + lb * (Z + 2 * e * (ux * (PX - bx * d) + uy * (PY - bY * d))) + lc * (Z + 2 * e * (ux * (PX - cx * d) + uy * (PY - cY * d))) = (la + lb + lc) * Z := by
    rw [cu_id4, s1, s2]
    simp
  have hz : (la + lb + lc) * Z ≤ 0 := by omega
  have : Z ≤ 0 := by
    rcases Int.lt_or_le 0 Z with h | h
    · have := Int.mul_pos h4 h
      omega
    · exact h
  omega
/-- What determines a circle. -/
def Circ (X Y : Int → Int) (n PX PY d : Int) : Prop := ∃ R a b c la lb lc : Int, ((0 ≤ a ∧ a < n) ∧ (0 ≤ b ∧ b < n) ∧ 0 ≤ c ∧ c < n) ∧ 0 ≤ la ∧ 0 ≤ lb ∧ 0 ≤ lc ∧ 0 < la + lb + lc ∧
  la * (PX - X a * d) + lb * (PX - X b * d) + lc * (PX - X c * d) = 0 ∧ la * (PY - Y a * d) + lb * (PY - Y b * d) + lc * (PY - Y c * d) = 0 ∧
  (PX - X a * d) * (PX - X a * d) + (PY - Y a * d) * (PY - Y a * d) = R ∧ (PX - X b * d) * (PX - X b * d) + (PY - Y b * d) * (PY - Y b * d) = R ∧ (PX - X c * d) * (PX - X c * d) + (PY - Y c * d) * (PY - Y c * d) = R ∧
  ∀ j, 0 ≤ j → j < n → (PX - X j * d) * (PX - X j * d) + (PY - Y j * d) * (PY - Y j * d) ≤ R
theorem Circ.same {X Y : Int → Int} {n PX PY d QX QY e : Int} (h : Circ X Y n PX PY d) (k : Circ X Y n QX QY e) : QX * d = PX * e ∧ QY * d = PY * e := by
  obtain ⟨R, a, b, c, la, lb, lc, hi, h1, h2, h3, h4, s1, s2, r1, r2, r3, hq⟩ := h
  obtain ⟨S, a', b', c', la', lb', lc', hi', h1', h2', h3', h4', s1', s2', r1', r2', r3', hq'⟩ := k
  have k1 := cu_half h1 h2 h3 h4 s1 s2 r1 r2 r3 (hq' a (by omega) (by omega)) (hq' b (by omega) (by omega)) (hq' c (by omega) (by omega))
  have k2 := cu_half h1' h2' h3' h4' s1' s2' r1' r2' r3' (hq a' (by omega) (by omega)) (hq b' (by omega) (by omega)) (hq c' (by omega) (by omega))
  have e1 : PX * e - QX * d = -(QX * d - PX * e) := by omega
  have e2 : PY * e - QY * d = -(QY * d - PY * e) := by omega
  rw [e1, e2, Int.neg_mul_neg, Int.neg_mul_neg] at k2
  have sq : ∀ z : Int, 0 ≤ z * z ∧ (z * z = 0 → z = 0) := fun z => by
    refine ⟨?_, fun h => by rcases Int.mul_eq_zero.1 h with h | h <;> exact h⟩
    rcases Int.le_total 0 z with h | h
    · exact Int.mul_nonneg h h
    · have := Int.mul_nonneg (show 0 ≤ -z by omega) (show 0 ≤ -z by omega)
      rw [Int.neg_mul_neg] at this
      exact this
  have g1 := sq (QX * d - PX * e)
  have g2 := sq (QY * d - PY * e)
  have z1 := g1.2 (by omega)
  have z2 := g2.2 (by omega)
  omega
theorem cu_lag (e f g h : Int) : (e * e + f * f) * (h * h + g * g) - (e * h + f * g) * (e * h + f * g) = (e * g - f * h) * (e * g - f * h) := by grind
theorem cu_w1 (e f g h : Int) : ((h * h + g * g) * ((e * e + f * f) - (e * h + f * g))) * e + ((e * e + f * f) * ((h * h + g * g) - (e * h + f * g))) * h = (e * g - f * h) * (g * (e * e + f * f) - f * (h * h + g * g)) := by grind
theorem cu_w2 (e f g h : Int) : ((h * h + g * g) * ((e * e + f * f) - (e * h + f * g))) * f + ((e * e + f * f) * ((h * h + g * g) - (e * h + f * g))) * g = (e * g - f * h) * (e * (h * h + g * g) - h * (e * e + f * f)) := by grind
theorem cu_in (e f g h u v : Int) : circ 0 0 e f h g u v = u * (g * (e * e + f * f) - f * (h * h + g * g)) + v * (e * (h * h + g * g) - h * (e * e + f * f)) - (e * g - f * h) * (u * u + v * v) := by unfold circ; grind
theorem circ_move (ax ay bx bY cx cY qx qy : Int) : circ ax ay bx bY cx cY qx qy = circ 0 0 (bx - ax) (bY - ay) (cx - ax) (cY - ay) (qx - ax) (qy - ay) := by
  unfold circ
  have m : ∀ a b c : Int, a - c - (b - c) = a - b := fun a b c => by omega
  have m0 : ∀ a b : Int, 0 - (a - b) = b - a := fun a b => by omega
  simp only [m, m0]
theorem sgn_mul {x y : Int} (h : 0 ≤ sgn x * sgn y) : 0 ≤ x * y := by
  unfold sgn at h
  rcases Int.lt_trichotomy x 0 with hx | hx | hx
  · rw [if_pos hx] at h
    rcases Int.lt_trichotomy y 0 with hy | hy | hy
    · have := Int.mul_nonneg (show 0 ≤ -x by omega) (show 0 ≤ -y by omega)
      rw [Int.neg_mul_neg] at this
      exact this
    · subst hy; omega
    · rw [if_neg (show ¬ y < 0 by omega), if_pos (show y > 0 by omega)] at h
      omega
  · subst hx; omega
  · rw [if_neg (show ¬ x < 0 by omega), if_pos (show x > 0 by omega)] at h
    rcases Int.lt_trichotomy y 0 with hy | hy | hy
    · rw [if_pos hy] at h
      omega
    · subst hy; omega
    · exact Int.mul_nonneg (by omega) (by omega)
/-- The circle of an acute triangle, from one corner. -/
theorem cu_tri {e f g h T : Int} (hT : T = e * g - f * h) (hs : 0 < e * h + f * g) (hp : e * h + f * g < e * e + f * f) (hq : e * h + f * g < h * h + g * g) :
    ∃ la lb lc R : Int, 0 ≤ la ∧ 0 ≤ lb ∧ 0 ≤ lc ∧ 0 < la + lb + lc ∧
      la * (g * (e * e + f * f) - f * (h * h + g * g)) + lb * (g * (e * e + f * f) - f * (h * h + g * g) - e * (2 * T)) + lc * (g * (e * e + f * f) - f * (h * h + g * g) - h * (2 * T)) = 0 ∧
      la * (e * (h * h + g * g) - h * (e * e + f * f)) + lb * (e * (h * h + g * g) - h * (e * e + f * f) - f * (2 * T)) + lc * (e * (h * h + g * g) - h * (e * e + f * f) - g * (2 * T)) = 0 ∧
      (g * (e * e + f * f) - f * (h * h + g * g)) * (g * (e * e + f * f) - f * (h * h + g * g)) + (e * (h * h + g * g) - h * (e * e + f * f)) * (e * (h * h + g * g) - h * (e * e + f * f)) = R ∧
      (∀ u v : Int, 0 ≤ T * circ 0 0 e f h g u v → (g * (e * e + f * f) - f * (h * h + g * g) - u * (2 * T)) * (g * (e * e + f * f) - f * (h * h + g * g) - u * (2 * T)) + (e * (h * h + g * g) - h * (e * e + f * f) - v * (2 * T)) * (e * (h * h + g * g) - h * (e * e + f * f) - v * (2 * T)) ≤ R) := by
  have w1 := cu_w1 e f g h
  have w2 := cu_w2 e f g h
  have wl := cu_lag e f g h
  have wi := fun u v => cu_in e f g h u v
  rw [← hT] at w1 w2 wl
  generalize hP : e * e + f * f = p at *
  generalize hQ : h * h + g * g = q at *
  generalize hS : e * h + f * g = s at *
  generalize hG : g * p - f * q = G at *
  generalize hH : e * q - h * p = H at *
  have hT2 : ∀ u v, circ 0 0 e f h g u v = u * G + v * H - T * (u * u + v * v) := fun u v => by rw [wi u v, ← hT]
  have a1 : 0 < q * (p - s) := Int.mul_pos (by omega) (by omega)
  have a2 : 0 < p * (q - s) := Int.mul_pos (by omega) (by omega)
  have a3 : 0 < (p + q - 2 * s) * s := Int.mul_pos (by omega) (by omega)
  have L : (p + q - 2 * s) * s + q * (p - s) + p * (q - s) = 2 * (T * T) := cu_id7 p q s T wl
  refine ⟨(p + q - 2 * s) * s, q * (p - s), p * (q - s), _, by omega, by omega, by omega, by omega, ?_, ?_, rfl, ?_⟩
  · rw [cu_id5, w1, L, cu_id6]
  · rw [cu_id5, w2, L, cu_id6]
  · intro u v huv
    rw [hT2 u v] at huv
    rw [cu_id8]
    omega
theorem cu_two {x0 y0 x1 y1 x y : Int} (h : dt3 x y x0 y0 x1 y1 ≤ 0) : (x0 + x1 - x * 2) * (x0 + x1 - x * 2) + (y0 + y1 - y * 2) * (y0 + y1 - y * 2) ≤ (x0 + x1 - x0 * 2) * (x0 + x1 - x0 * 2) + (y0 + y1 - y0 * 2) * (y0 + y1 - y0 * 2) := by
  have e : (x0 + x1 - x * 2) * (x0 + x1 - x * 2) + (y0 + y1 - y * 2) * (y0 + y1 - y * 2) = (x0 + x1 - x0 * 2) * (x0 + x1 - x0 * 2) + (y0 + y1 - y0 * 2) * (y0 + y1 - y0 * 2) + 4 * dt3 x y x0 y0 x1 y1 := by unfold dt3; grind
  omega
theorem ea_at {X Y : Int → Int} {n : Int} {A : Int → Int} {m : Int} (h : eaB X Y n A m = true) {j : Int} (h0 : 0 ≤ j) (h1 : j < n) : enB (fun k => X (A k)) (fun k => Y (A k)) m (X j) (Y j) = true := by
  unfold eaB at h
  exact allB_iff.1 h j h0 h1
theorem cu_main {X Y : Int → Int} {n : Int} {A : Int → Int} {m : Int} (h : cnB X Y n A m = true) (he : eaB X Y n A m = true) :
    ∃ PX PY d : Int, d ≠ 0 ∧ cXN X Y n A m * d = PX * cXD X Y n A m ∧ cYN X Y n A m * d = PY * cYD X Y n A m ∧ Circ X Y n PX PY d := by
  have h0 := h
  unfold cnB at h0
  rw [Bool.and_eq_true, Bool.and_eq_true] at h0
  have hp := cn_parts h0.1 h0.2.1 h0.2.2
  have hq := ix_all h0.1 h0.2.1
  have hy := cn_yes h
  rcases hp.2 with e | e | ⟨e, hd⟩
  · obtain ⟨e1, e2, e3, e4⟩ := hy.1 e
    have q0 := hq 0 (by omega) (by omega)
    rw [e1, e2, e3, e4]
    refine ⟨X (A 0), Y (A 0), 1, by omega, by omega, by omega, 0, A 0, A 0, A 0, 1, 0, 0, ⟨q0.1, q0.1, q0.1⟩, by omega, by omega, by omega, by omega, by omega, by omega, by rw [Int.mul_one, Int.mul_one, Int.sub_self, Int.sub_self]; rfl, by rw [Int.mul_one, Int.mul_one, Int.sub_self, Int.sub_self]; rfl, by rw [Int.mul_one, Int.mul_one, Int.sub_self, Int.sub_self]; rfl, fun j j0 j1 => ?_⟩
    have hj := ea_at he j0 j1
    rw [en_1 e, Bool.and_eq_true, decide_eq_true_eq, decide_eq_true_eq] at hj
    rw [hj.1, hj.2, Int.mul_one, Int.mul_one, Int.sub_self, Int.sub_self]
    decide
  · obtain ⟨e1, e2, e3, e4⟩ := hy.2.1 e
    have q0 := hq 0 (by omega) (by omega)
    have q1 := hq 1 (by omega) (by omega)
    rw [e1, e2, e3, e4]
    have r1 := red_all (a := X (A 0) + X (A 1)) (b := 2) (M := 50000000000) (N := 16000000) (by omega) (by omega) (by omega) (by omega) (by omega)
    have r2 := red_all (a := Y (A 0) + Y (A 1)) (b := 2) (M := 50000000000) (N := 16000000) (by omega) (by omega) (by omega) (by omega) (by omega)
    refine ⟨_, _, 2, by omega, r1.1, r2.1, _, A 0, A 1, A 0, 1, 1, 0, ⟨q0.1, q1.1, q0.1⟩, by omega, by omega, by omega, by omega, by omega, by omega, rfl, ?_, rfl, fun j j0 j1 => ?_⟩
    · rw [show X (A 0) + X (A 1) - X (A 1) * 2 = -(X (A 0) + X (A 1) - X (A 0) * 2) by omega, show Y (A 0) + Y (A 1) - Y (A 1) * 2 = -(Y (A 0) + Y (A 1) - Y (A 0) * 2) by omega, Int.neg_mul_neg, Int.neg_mul_neg]
    · have hj := ea_at he j0 j1
      rw [en_2 e, decide_eq_true_eq] at hj
      exact cu_two hj
  · obtain ⟨e1, e2, e3, e4⟩ := hy.2.2 e
    have q0 := hq 0 (by omega) (by omega)
    have q1 := hq 1 (by omega) (by omega)
    have q2 := hq 2 (by omega) (by omega)
    rw [e1, e2, e3, e4]
    have hb := cn_bd q0.2.1 q0.2.2 q1.2.1 q1.2.2 q2.2.1 q2.2.2
    have r1 := red_all hd hb.2.1.1 hb.2.1.2 hb.1.1 hb.1.2
    have r2 := red_all hd hb.2.2.1 hb.2.2.2 hb.1.1 hb.1.2
    have hac : acB (X (A 0)) (Y (A 0)) (X (A 1)) (Y (A 1)) (X (A 2)) (Y (A 2)) = true := by
      have := h0.2.2
      unfold dtB at this
      rw [if_neg (by omega), if_neg (by omega), if_pos (by omega)] at this
      exact this
    unfold acB at hac
    simp only [Bool.and_eq_true, Bool.not_eq_true', decide_eq_true_eq, decide_eq_false_iff_not] at hac
    obtain ⟨_, k1, k2, k3⟩ := hac
    refine ⟨_, _, _, hd, r1.1, r2.1, ?_⟩
    have hj : ∀ j, 0 ≤ j → j < n → 0 ≤ trn (X (A 0)) (Y (A 0)) (X (A 1)) (Y (A 1)) (X (A 2)) (Y (A 2)) * circ 0 0 (X (A 1) - X (A 0)) (Y (A 1) - Y (A 0)) (X (A 2) - X (A 0)) (Y (A 2) - Y (A 0)) (X j - X (A 0)) (Y j - Y (A 0)) := by
      intro j j0 j1
      have hj := ea_at he j0 j1
      rw [en_3 (by omega) (by omega), decide_eq_true_eq] at hj
      have := sgn_mul hj
      rw [circ_move, Int.mul_comm] at this
      exact this
    have dd : cnD (X (A 0)) (Y (A 0)) (X (A 1)) (Y (A 1)) (X (A 2)) (Y (A 2)) = 2 * trn (X (A 0)) (Y (A 0)) (X (A 1)) (Y (A 1)) (X (A 2)) (Y (A 2)) := rfl
    have xx : cnX (X (A 0)) (Y (A 0)) (X (A 1)) (Y (A 1)) (X (A 2)) (Y (A 2)) = (Y (A 2) - Y (A 0)) * ((X (A 1) - X (A 0)) * (X (A 1) - X (A 0)) + (Y (A 1) - Y (A 0)) * (Y (A 1) - Y (A 0))) - (Y (A 1) - Y (A 0)) * ((X (A 2) - X (A 0)) * (X (A 2) - X (A 0)) + (Y (A 2) - Y (A 0)) * (Y (A 2) - Y (A 0))) + X (A 0) * (2 * trn (X (A 0)) (Y (A 0)) (X (A 1)) (Y (A 1)) (X (A 2)) (Y (A 2))) := rfl
    have yy : cnY (X (A 0)) (Y (A 0)) (X (A 1)) (Y (A 1)) (X (A 2)) (Y (A 2)) = (X (A 1) - X (A 0)) * ((X (A 2) - X (A 0)) * (X (A 2) - X (A 0)) + (Y (A 2) - Y (A 0)) * (Y (A 2) - Y (A 0))) - (X (A 2) - X (A 0)) * ((X (A 1) - X (A 0)) * (X (A 1) - X (A 0)) + (Y (A 1) - Y (A 0)) * (Y (A 1) - Y (A 0))) + Y (A 0) * (2 * trn (X (A 0)) (Y (A 0)) (X (A 1)) (Y (A 1)) (X (A 2)) (Y (A 2))) := rfl
    have tt : trn (X (A 0)) (Y (A 0)) (X (A 1)) (Y (A 1)) (X (A 2)) (Y (A 2)) = (X (A 1) - X (A 0)) * (Y (A 2) - Y (A 0)) - (Y (A 1) - Y (A 0)) * (X (A 2) - X (A 0)) := rfl
    have lin : ∀ u x a D : Int, u + a * D - x * D = u - (x - a) * D := fun u x a D => by rw [Int.sub_mul]; omega
    have lin0 : ∀ u a D : Int, u + a * D - a * D = u := fun u a D => by omega
    obtain ⟨la, lb, lc, R, l1, l2, l3, l4, s1, s2, hR, hin⟩ := cu_tri tt (by unfold dt3 at k1; omega) (by unfold dt3 at k2; rw [show ∀ a b c d e f : Int, (a - b) * (c - b) + (d - e) * (f - e) = (b - c) * (b - c) + (e - f) * (e - f) - ((b - c) * (a - c) + (e - f) * (d - f)) from fun a b c d e f => by grind] at k2; omega) (by unfold dt3 at k3; rw [show ∀ a b c d e f : Int, (a - b) * (c - b) + (d - e) * (f - e) = (b - a) * (b - a) + (e - d) * (e - d) - ((c - a) * (b - a) + (f - d) * (e - d)) from fun a b c d e f => by grind] at k3; omega)
    refine ⟨R, A 0, A 1, A 2, la, lb, lc, ⟨q0.1, q1.1, q2.1⟩, l1, l2, l3, l4, ?_, ?_, ?_, ?_, ?_, fun j j0 j1 => ?_⟩
    · rw [dd, xx, lin0, lin, lin]; exact s1
    · rw [dd, yy, lin0, lin, lin]; exact s2
    · rw [dd, xx, yy, lin0, lin0]; exact hR
    · rw [dd, xx, yy, lin, lin, ← hR]
      exact (circ_b (X (A 1) - X (A 0)) (Y (A 1) - Y (A 0)) (Y (A 2) - Y (A 0)) (X (A 2) - X (A 0)) _ _ _ rfl (by rw [tt])).symm
    · rw [dd, xx, yy, lin, lin, ← hR]
      exact (circ_c (X (A 1) - X (A 0)) (Y (A 1) - Y (A 0)) (Y (A 2) - Y (A 0)) (X (A 2) - X (A 0)) _ _ _ rfl (by rw [tt])).symm
    · rw [dd, xx, yy, lin, lin]
      exact hin _ _ (hj j j0 j1)

theorem cu_z1 (N D d e : Int) : N * D * (d * e) = N * d * (D * e) := by grind
theorem cu_z2 (N D d e : Int) : N * D * (d * e) = N * e * (D * d) := by grind
theorem cu_z3 (P D E e : Int) : P * D * (E * e) = P * e * (D * E) := by grind
theorem cu_z4 (Q E D d : Int) : Q * E * (D * d) = Q * d * (D * E) := by grind
theorem cu_same {X Y : Int → Int} {n : Int} {A : Int → Int} {m : Int} {B : Int → Int} {k : Int} (h1 : cnB X Y n A m = true) (e1 : eaB X Y n A m = true) (h2 : cnB X Y n B k = true) (e2 : eaB X Y n B k = true) :
    cXN X Y n A m = cXN X Y n B k ∧ cXD X Y n A m = cXD X Y n B k ∧ cYN X Y n A m = cYN X Y n B k ∧ cYD X Y n A m = cYD X Y n B k := by
  obtain ⟨PX, PY, d, hd, x1, y1, c1⟩ := cu_main h1 e1
  obtain ⟨QX, QY, e, he, x2, y2, c2⟩ := cu_main h2 e2
  have hs := c1.same c2
  have b1 := cc_bd h1
  have b2 := cc_bd h2
  have cr : ∀ N1 D1 N2 D2 P Q : Int, N1 * d = P * D1 → N2 * e = Q * D2 → Q * d = P * e → N1 * D2 = N2 * D1 := by
    intro N1 D1 N2 D2 P Q k1 k2 k3
    refine Int.eq_of_mul_eq_mul_right (Int.mul_ne_zero hd he) ?_
    rw [cu_z1 N1 D2 d e, cu_z2 N2 D1 d e, k1, k2, cu_z3 P D1 D2 e, cu_z4 Q D2 D1 d, k3]
  have r1 := same_frac b1.1.1.1 b2.1.1.1 b1.1.2.1 b2.1.2.1 (cr _ _ _ _ _ _ x1 x2 hs.1)
  have r2 := same_frac b1.2.1.1 b2.2.1.1 b1.2.2.1 b2.2.2.1 (cr _ _ _ _ _ _ y1 y2 hs.2)
  exact ⟨r1.1, r1.2, r2.1, r2.2⟩
theorem dtB_congr {X Y X' Y' : Int → Int} {m : Int} (h : ∀ i, 0 ≤ i → i < m → X i = X' i ∧ Y i = Y' i) : dtB X Y m = dtB X' Y' m := by
  unfold dtB
  by_cases h1 : m = 1
  · rw [if_pos h1, if_pos h1]
  · rw [if_neg h1, if_neg h1]
    by_cases h2 : m = 2
    · rw [if_pos h2, if_pos h2, (h 0 (by omega) (by omega)).1, (h 0 (by omega) (by omega)).2, (h 1 (by omega) (by omega)).1, (h 1 (by omega) (by omega)).2]
    · rw [if_neg h2, if_neg h2]
      by_cases h3 : m = 3
      · rw [if_pos h3, if_pos h3, (h 0 (by omega) (by omega)).1, (h 0 (by omega) (by omega)).2, (h 1 (by omega) (by omega)).1, (h 1 (by omega) (by omega)).2, (h 2 (by omega) (by omega)).1, (h 2 (by omega) (by omega)).2]
      · rw [if_neg h3, if_neg h3]
theorem enB_congr {X Y X' Y' : Int → Int} {m qx qy : Int} (hm : m = 1 ∨ m = 2 ∨ m = 3) (h : ∀ i, 0 ≤ i → i < m → X i = X' i ∧ Y i = Y' i) : enB X Y m qx qy = enB X' Y' m qx qy := by
  rcases hm with h1 | h1 | h1
  · rw [en_1 h1, en_1 h1, (h 0 (by omega) (by omega)).1, (h 0 (by omega) (by omega)).2]
  · rw [en_2 h1, en_2 h1, (h 0 (by omega) (by omega)).1, (h 0 (by omega) (by omega)).2, (h 1 (by omega) (by omega)).1, (h 1 (by omega) (by omega)).2]
  · rw [en_3 (by omega) (by omega), en_3 (by omega) (by omega), (h 0 (by omega) (by omega)).1, (h 0 (by omega) (by omega)).2, (h 1 (by omega) (by omega)).1, (h 1 (by omega) (by omega)).2, (h 2 (by omega) (by omega)).1, (h 2 (by omega) (by omega)).2]
theorem sups_of {A : Int → Int} {m n : Int} (hm : m = 1 ∨ m = 2 ∨ m = 3) (h : ixB A m n = true) : ∃ l, l ∈ sups n.toNat ∧ (l.length : Int) = m ∧ ∀ i, 0 ≤ i → i < m → lA l i = A i := by
  have h0 := ixB_at h (i := 0) (by omega) (by omega)
  rcases hm with rfl | rfl | rfl
  · refine ⟨[A 0], ?_, rfl, fun i a b => ?_⟩
    · unfold sups
      refine List.mem_append.2 (.inl (List.mem_append.2 (.inl ?_)))
      refine mem_seg.2 ⟨(A 0).toNat, by omega, by omega, ?_⟩
      rw [show (((A 0).toNat : Nat) : Int) = A 0 by omega]
      simp [ext]
    · have : i = 0 := by omega
      subst this; rfl
  · have h1 := ixC_iff.1 (allB_iff.1 h 1 (by omega) (by omega))
    rw [show (1 : Int) - 1 = 0 by rfl] at h1
    refine ⟨[A 0, A 1], ?_, rfl, fun i a b => ?_⟩
    · unfold sups
      refine List.mem_append.2 (.inl (List.mem_append.2 (.inr ?_)))
      refine mem_seg.2 ⟨(A 0).toNat, by omega, by omega, mem_seg.2 ⟨(A 1).toNat, by omega, by omega, ?_⟩⟩
      rw [show (((A 0).toNat : Nat) : Int) = A 0 by omega, show (((A 1).toNat : Nat) : Int) = A 1 by omega]
      simp [ext]
    · have : i = 0 ∨ i = 1 := by omega
      rcases this with rfl | rfl <;> rfl
  · have h1 := ixC_iff.1 (allB_iff.1 h 1 (by omega) (by omega))
    have h2 := ixC_iff.1 (allB_iff.1 h 2 (by omega) (by omega))
    rw [show (1 : Int) - 1 = 0 by rfl] at h1
    rw [show (2 : Int) - 1 = 1 by rfl] at h2
    refine ⟨[A 0, A 1, A 2], ?_, rfl, fun i a b => ?_⟩
    · unfold sups
      refine List.mem_append.2 (.inr ?_)
      refine mem_seg.2 ⟨(A 0).toNat, by omega, by omega, mem_seg.2 ⟨(A 1).toNat, by omega, by omega, mem_seg.2 ⟨(A 2).toNat, by omega, by omega, ?_⟩⟩⟩
      rw [show (((A 0).toNat : Nat) : Int) = A 0 by omega, show (((A 1).toNat : Nat) : Int) = A 1 by omega, show (((A 2).toNat : Nat) : Int) = A 2 by omega]
      simp [ext]
    · have : i = 0 ∨ i = 1 ∨ i = 2 := by omega
      rcases this with rfl | rfl | rfl <;> rfl
theorem cu_found {X Y : Int → Int} {n : Int} {A : Int → Int} {m : Int} (h : ckB X Y n A m = true) : cnB X Y n A m = true ∧ eaB X Y n A m = true ∧ cnB X Y n (esA X Y n) (esM X Y n) = true ∧ eaB X Y n (esA X Y n) (esM X Y n) = true := by
  unfold ckB ecB at h
  rw [Bool.and_eq_true, Bool.and_eq_true, Bool.and_eq_true] at h
  obtain ⟨hl, hi, hd, he⟩ := h
  have hm := ec_m hd
  obtain ⟨l, hmem, hlen, hlA⟩ := sups_of hm hi
  have hn0 := ixB_at hi (i := 0) (by omega) (by omega)
  have hsm := sups_mem hmem
  have ok : okSup X Y n l = true := by
    unfold okSup sup1
    rw [asc_ixB (sups_asc hmem) (fun x hx => by have := hsm.2 x hx; omega), hlen, dtB_congr (X' := fun i => X (A i)) (Y' := fun i => Y (A i)) fun i a b => ⟨by rw [hlA i a b], by rw [hlA i a b]⟩, hd]
    have : eaB X Y n (lA l) m = eaB X Y n A m := by
      rw [he]
      unfold eaB
      refine allB_iff.2 fun j a b => ?_
      rw [enB_congr hm (X' := fun k => X (A k)) (Y' := fun k => Y (A k)) fun i a b => ⟨by rw [hlA i a b], by rw [hlA i a b]⟩]
      exact ea_at he a b
    rw [this, he]; rfl
  have hcn : cnB X Y n A m = true := by unfold cnB; rw [hl, hi, hd]; rfl
  refine ⟨hcn, he, ?_⟩
  cases hf : (sups n.toNat).find? (okSup X Y n) with
  | none =>
    have := List.find?_eq_none.1 hf l hmem
    exact absurd ok this
  | some l2 =>
    have h2 := List.find?_some hf
    have e : esL X Y n = l2 := by unfold esL; rw [if_pos hl, hf]; rfl
    unfold okSup sup1 at h2
    rw [Bool.and_eq_true, Bool.and_eq_true] at h2
    have eA : esA X Y n = lA l2 := by unfold esA; rw [e]
    have eM : esM X Y n = l2.length := by unfold esM; rw [e]
    rw [eA, eM]
    refine ⟨?_, h2.2⟩
    unfold cnB
    rw [hl, h2.1.1, h2.1.2]; rfl
theorem cu_all {X Y : Int → Int} {n : Int} {A : Int → Int} {m : Int} (h : ckB X Y n A m = true) : cnB X Y n A m = true ∧ cnB X Y n (esA X Y n) (esM X Y n) = true ∧
    cXN X Y n A m = cXN X Y n (esA X Y n) (esM X Y n) ∧ cXD X Y n A m = cXD X Y n (esA X Y n) (esM X Y n) ∧ cYN X Y n A m = cYN X Y n (esA X Y n) (esM X Y n) ∧ cYD X Y n A m = cYD X Y n (esA X Y n) (esM X Y n) := by
  have hf := cu_found h
  exact ⟨hf.1, hf.2.2.1, cu_same hf.1 hf.2.1 hf.2.2.1 hf.2.2.2⟩

theorem s_DrawCheckEnclosing (C : Int → Int) (n : Int) : Runs Try.prog 32 [(.sl 0 1 (.lit 0) (.v fun _ => n) 9223372036854775807)] [some ⟨5, 1, false, (.sym (.v fun _ => n) fun e => [(.int .u8 (.v fun _ => (C (e.den))) 0 255)])⟩] fun rr mm => ∃ x : (Int → Int) × Int, (0 ≤ x.2 ∧ x.2 ≤ 3) ∧ rr = (.tup [(.sl 1 2 (.lit 0) (.v fun _ => anN C (cut n) 0 7) 64), (.sl 2 1 (.lit 0) (.v fun _ => x.2) 3)]) ∧ mm = [some ⟨5, 1, false, (.sym (.v fun _ => cut n) fun e => [(.int .u8 (.v fun _ => (C (e.den))) 0 255)])⟩, some ⟨50, 2, true, (.sym (.v fun _ => anN C (cut n) 0 7) fun e => [(.int .i64 (.v fun _ => anX C (cut n) 0 7 (e.den)) (-9223372036854775808) 9223372036854775807), (.int .i64 (.v fun _ => anY C (cut n) 0 7 (e.den)) (-9223372036854775808) 9223372036854775807)])⟩, some ⟨3, 1, true, (.sym (.v fun _ => x.2) fun e => [(.int .i64 (.v fun _ => (x.1 (e.den))) (-9223372036854775808) 9223372036854775807)])⟩] := by
  refine RunsX.go (X := (Int → Int) × Int) (I := (fun x => 0 ≤ x.2 ∧ x.2 ≤ 3)) (R := (fun x => (.tup [(.sl 1 2 (.lit 0) (.v fun _ => anN C (cut n) 0 7) 64), (.sl 2 1 (.lit 0) (.v fun _ => x.2) 3)]))) (M := (fun x => [some ⟨5, 1, false, (.sym (.v fun _ => cut n) fun e => [(.int .u8 (.v fun _ => (C (e.den))) 0 255)])⟩, some ⟨50, 2, true, (.sym (.v fun _ => anN C (cut n) 0 7) fun e => [(.int .i64 (.v fun _ => anX C (cut n) 0 7 (e.den)) (-9223372036854775808) 9223372036854775807), (.int .i64 (.v fun _ => anY C (cut n) 0 7 (e.den)) (-9223372036854775808) 9223372036854775807)])⟩, some ⟨3, 1, true, (.sym (.v fun _ => x.2) fun e => [(.int .i64 (.v fun _ => (x.1 (e.den))) (-9223372036854775808) 9223372036854775807)])⟩])) env Try.func32 rfl Try.call32 rfl rfl (fun _ _ => (.callX (c_someSupport C n) fun x2 => .ret)) (G := (0 ≤ n ∧ n ≤ 9223372036854775807) → (∀ e9 : E, ((0 ≤ e9.den ∧ e9.den < n) → (0 ≤ ((C (e9.den))) ∧ ((C (e9.den))) ≤ 255))) → ((n = n) ∧ (((n ≤ n) ∧ (∀ e1 : E, ((0 ≤ e1.den ∧ e1.den < n) → (((C (e1.den))) = ((C (e1.den))))))) ∧ (∀ x2 : (Int → Int) × Int, ((0 ≤ x2.2 ∧ x2.2 ≤ 3) → (∃ y5 : (Int → Int) × Int, ((0 ≤ y5.2 ∧ y5.2 ≤ 3) ∧ ((((anN C (cut n) 0 7) = (anN C (cut n) 0 7)) ∧ (x2.2 = y5.2)) ∧ ((((cut n) ≤ (cut n)) ∧ (∀ e8 : E, ((0 ≤ e8.den ∧ e8.den < (cut n)) → (((C (e8.den))) = ((C (e8.den))))))) ∧ ((((anN C (cut n) 0 7) ≤ (anN C (cut n) 0 7)) ∧ (∀ e7 : E, ((0 ≤ e7.den ∧ e7.den < (anN C (cut n) 0 7)) → (((anX C (cut n) 0 7 (e7.den)) = (anX C (cut n) 0 7 (e7.den))) ∧ ((anY C (cut n) 0 7 (e7.den)) = (anY C (cut n) 0 7 (e7.den))))))) ∧ ((y5.2 ≤ x2.2) ∧ (∀ e6 : E, ((0 ≤ e6.den ∧ e6.den < y5.2) → (((x2.1 (e6.den))) = ((y5.1 (e6.den))))))))))))))))) (by kernel_rfl) ?_
  intro h1 h2
  refine ⟨rfl, ⟨Int.le_refl _, fun _ => fun _ => rfl⟩, ?_⟩
  rintro ⟨A3, m4⟩
  dsimp only
  intro c10
  refine ⟨(A3, m4), ?_⟩
  try dsimp only
  refine ⟨?_, ?_, ⟨Int.le_refl _, fun _ => fun _ => rfl⟩, ⟨Int.le_refl _, fun _ => fun _ => ⟨rfl, rfl⟩⟩, ?_, ?_⟩
    -- 1: 0 ≤ y5.2 ∧ y5.2 ≤ 3
  · first | omega | rfl | (exact ⟨by omega, by omega⟩) | fail
  · refine ⟨rfl, ?_⟩
    -- 2: x2.2 = y5.2
    first | omega | rfl | (exact ⟨by omega, by omega⟩) | fail
    -- 3: y5.2 ≤ x2.2
  · first | omega | rfl | (exact ⟨by omega, by omega⟩) | fail
  · intro e6
    intro c11
    -- 4: ((x2.1 (e6.den))) = ((y5.1 (e6.den)))
    first | omega | rfl | (exact ⟨by omega, by omega⟩) | fail
def c_s_DrawCheckEnclosing (C : Int → Int) (n : Int) : CnX Try.prog := ⟨_, _, _, (Int → Int) × Int, (fun x => 0 ≤ x.2 ∧ x.2 ≤ 3), (fun x => (.tup [(.sl 1 2 (.lit 0) (.v fun _ => anN C (cut n) 0 7) 64), (.sl 2 1 (.lit 0) (.v fun _ => x.2) 3)])), (fun x => [some ⟨5, 1, false, (.sym (.v fun _ => cut n) fun e => [(.int .u8 (.v fun _ => (C (e.den))) 0 255)])⟩, some ⟨50, 2, true, (.sym (.v fun _ => anN C (cut n) 0 7) fun e => [(.int .i64 (.v fun _ => anX C (cut n) 0 7 (e.den)) (-9223372036854775808) 9223372036854775807), (.int .i64 (.v fun _ => anY C (cut n) 0 7 (e.den)) (-9223372036854775808) 9223372036854775807)])⟩, some ⟨3, 1, true, (.sym (.v fun _ => x.2) fun e => [(.int .i64 (.v fun _ => (x.1 (e.den))) (-9223372036854775808) 9223372036854775807)])⟩]), s_DrawCheckEnclosing C n⟩
theorem l_FnEnclosingUnique (C : Int → Int) (n : Int) : RunsTo Try.prog 6 [(.sl 0 1 (.lit 0) (.v fun _ => n) 9223372036854775807)] [some ⟨5, 1, false, (.sym (.v fun _ => n) fun e => [(.int .u8 (.v fun _ => (C (e.den))) 0 255)])⟩] (.bool (.lit true)) [none] := by
  refine RunsTo.go env Try.func6 rfl Try.call6 rfl rfl (fun _ _ => (.ite .ret (.callX (c_s_DrawCheckEnclosing C n) fun x2 => (.call (c_i_CheckEnclosing (anX C (cut n) 0 7) (anY C (cut n) 0 7) (anN C (cut n) 0 7) x2.1 x2.2) (.call (c_s_CheckEnclosing (anX C (cut n) 0 7) (anY C (cut n) 0 7) (anN C (cut n) 0 7) x2.1 x2.2) (.ite (.call (c_s_CheckEnclosing (anX C (cut n) 0 7) (anY C (cut n) 0 7) (anN C (cut n) 0 7) x2.1 x2.2) .ret) (.ite (.call (c_s_CheckEnclosing (anX C (cut n) 0 7) (anY C (cut n) 0 7) (anN C (cut n) 0 7) x2.1 x2.2) .ret) (.callF (c_i_CircleCenter (anX C (cut n) 0 7) (anY C (cut n) 0 7) (anN C (cut n) 0 7) x2.1 x2.2) (.callF (c_i_EnclosingSupport (anX C (cut n) 0 7) (anY C (cut n) 0 7) (anN C (cut n) 0 7)) (.callF (c_i_CircleCenter (anX C (cut n) 0 7) (anY C (cut n) 0 7) (anN C (cut n) 0 7) (esA (anX C (cut n) 0 7) (anY C (cut n) 0 7) (anN C (cut n) 0 7)) (esM (anX C (cut n) 0 7) (anY C (cut n) 0 7) (anN C (cut n) 0 7))) (.ite (.ite .ret .ret) .ret))))))))))) (G := (0 ≤ n ∧ n ≤ 9223372036854775807) → (∀ e18 : E, ((0 ≤ e18.den ∧ e18.den < n) → (0 ≤ ((C (e18.den))) ∧ ((C (e18.den))) ≤ 255))) → ((n ≤ 1048576) → ((n = n) ∧ (((n ≤ n) ∧ (∀ e1 : E, ((0 ≤ e1.den ∧ e1.den < n) → (((C (e1.den))) = ((C (e1.den))))))) ∧ (∀ x2 : (Int → Int) × Int, ((0 ≤ x2.2 ∧ x2.2 ≤ 3) → ((((anN C (cut n) 0 7) = (anN C (cut n) 0 7)) ∧ (x2.2 = x2.2)) ∧ (((((anN C (cut n) 0 7) ≤ (anN C (cut n) 0 7)) ∧ (∀ e6 : E, ((0 ≤ e6.den ∧ e6.den < (anN C (cut n) 0 7)) → (((anX C (cut n) 0 7 (e6.den)) = (anX C (cut n) 0 7 ((e6.den)))) ∧ ((anY C (cut n) 0 7 (e6.den)) = (anY C (cut n) 0 7 ((e6.den)))))))) ∧ ((x2.2 ≤ x2.2) ∧ (∀ e5 : E, ((0 ≤ e5.den ∧ e5.den < x2.2) → (((x2.1 (e5.den))) = ((x2.1 (e5.den)))))))) ∧ ((((anN C (cut n) 0 7) = (anN C (cut n) 0 7)) ∧ (x2.2 = x2.2)) ∧ (((((anN C (cut n) 0 7) ≤ (anN C (cut n) 0 7)) ∧ (∀ e8 : E, ((0 ≤ e8.den ∧ e8.den < (anN C (cut n) 0 7)) → (((anX C (cut n) 0 7 ((e8.den))) = (((anX C (cut n) 0 7 (((e8.den))))))) ∧ ((anY C (cut n) 0 7 ((e8.den))) = (((anY C (cut n) 0 7 (((e8.den))))))))))) ∧ ((x2.2 ≤ x2.2) ∧ (∀ e7 : E, ((0 ≤ e7.den ∧ e7.den < x2.2) → (((x2.1 (e7.den))) = ((x2.1 (e7.den)))))))) ∧ ((((((ckB (anX C (cut n) 0 7) (anY C (cut n) 0 7) (anN C (cut n) 0 7) x2.1 x2.2) = true) ↔ ((ckB (anX C (cut n) 0 7) (anY C (cut n) 0 7) (anN C (cut n) 0 7) x2.1 x2.2) = false))) → ((((anN C (cut n) 0 7) = (anN C (cut n) 0 7)) ∧ (x2.2 = x2.2)) ∧ (((((anN C (cut n) 0 7) ≤ (anN C (cut n) 0 7)) ∧ (∀ e10 : E, ((0 ≤ e10.den ∧ e10.den < (anN C (cut n) 0 7)) → (((((anX C (cut n) 0 7 (((e10.den)))))) = ((((anX C (cut n) 0 7 ((((e10.den))))))))) ∧ ((((anY C (cut n) 0 7 (((e10.den)))))) = ((((anY C (cut n) 0 7 ((((e10.den))))))))))))) ∧ ((x2.2 ≤ x2.2) ∧ (∀ e9 : E, ((0 ≤ e9.den ∧ e9.den < x2.2) → (((x2.1 (e9.den))) = ((x2.1 (e9.den)))))))) ∧ ((((ckB (anX C (cut n) 0 7) (anY C (cut n) 0 7) (anN C (cut n) 0 7) x2.1 x2.2) = true) ↔ ((ckB (anX C (cut n) 0 7) (anY C (cut n) 0 7) (anN C (cut n) 0 7) x2.1 x2.2) = true)))))) ∧ (((((ckB (anX C (cut n) 0 7) (anY C (cut n) 0 7) (anN C (cut n) 0 7) x2.1 x2.2) = true) ↔ ((ckB (anX C (cut n) 0 7) (anY C (cut n) 0 7) (anN C (cut n) 0 7) x2.1 x2.2) = true))) → ((((ckB (anX C (cut n) 0 7) (anY C (cut n) 0 7) (anN C (cut n) 0 7) x2.1 x2.2) = false) → ((((anN C (cut n) 0 7) = (anN C (cut n) 0 7)) ∧ (x2.2 = x2.2)) ∧ (((((anN C (cut n) 0 7) ≤ (anN C (cut n) 0 7)) ∧ (∀ e12 : E, ((0 ≤ e12.den ∧ e12.den < (anN C (cut n) 0 7)) → (((((anX C (cut n) 0 7 (((e12.den)))))) = ((((anX C (cut n) 0 7 ((((e12.den))))))))) ∧ ((((anY C (cut n) 0 7 (((e12.den)))))) = ((((anY C (cut n) 0 7 ((((e12.den))))))))))))) ∧ ((x2.2 ≤ x2.2) ∧ (∀ e11 : E, ((0 ≤ e11.den ∧ e11.den < x2.2) → (((x2.1 (e11.den))) = ((x2.1 (e11.den)))))))) ∧ ((((ckB (anX C (cut n) 0 7) (anY C (cut n) 0 7) (anN C (cut n) 0 7) x2.1 x2.2) = true) ↔ ((ckB (anX C (cut n) 0 7) (anY C (cut n) 0 7) (anN C (cut n) 0 7) x2.1 x2.2) = true)))))) ∧ (((ckB (anX C (cut n) 0 7) (anY C (cut n) 0 7) (anN C (cut n) 0 7) x2.1 x2.2) = true) → ((((anN C (cut n) 0 7) = (anN C (cut n) 0 7)) ∧ (x2.2 = x2.2)) ∧ (((((anN C (cut n) 0 7) ≤ (anN C (cut n) 0 7)) ∧ (∀ e14 : E, ((0 ≤ e14.den ∧ e14.den < (anN C (cut n) 0 7)) → (((((anX C (cut n) 0 7 (((e14.den)))))) = ((((anX C (cut n) 0 7 ((((e14.den))))))))) ∧ ((((anY C (cut n) 0 7 (((e14.den)))))) = ((((anY C (cut n) 0 7 ((((e14.den))))))))))))) ∧ ((x2.2 ≤ x2.2) ∧ (∀ e13 : E, ((0 ≤ e13.den ∧ e13.den < x2.2) → (((x2.1 (e13.den))) = ((x2.1 (e13.den)))))))) ∧ ((((-4000000000000000000) ≤ (cXN (anX C (cut n) 0 7) (anY C (cut n) 0 7) (anN C (cut n) 0 7) x2.1 x2.2) ∧ (cXN (anX C (cut n) 0 7) (anY C (cut n) 0 7) (anN C (cut n) 0 7) x2.1 x2.2) ≤ 4000000000000000000) ∧ (((-4000000000000000000) ≤ (cXD (anX C (cut n) 0 7) (anY C (cut n) 0 7) (anN C (cut n) 0 7) x2.1 x2.2) ∧ (cXD (anX C (cut n) 0 7) (anY C (cut n) 0 7) (anN C (cut n) 0 7) x2.1 x2.2) ≤ 4000000000000000000) ∧ (((-4000000000000000000) ≤ (cYN (anX C (cut n) 0 7) (anY C (cut n) 0 7) (anN C (cut n) 0 7) x2.1 x2.2) ∧ (cYN (anX C (cut n) 0 7) (anY C (cut n) 0 7) (anN C (cut n) 0 7) x2.1 x2.2) ≤ 4000000000000000000) ∧ ((-4000000000000000000) ≤ (cYD (anX C (cut n) 0 7) (anY C (cut n) 0 7) (anN C (cut n) 0 7) x2.1 x2.2) ∧ (cYD (anX C (cut n) 0 7) (anY C (cut n) 0 7) (anN C (cut n) 0 7) x2.1 x2.2) ≤ 4000000000000000000)))) → (((anN C (cut n) 0 7) = (anN C (cut n) 0 7)) ∧ ((((anN C (cut n) 0 7) ≤ (anN C (cut n) 0 7)) ∧ (∀ e15 : E, ((0 ≤ e15.den ∧ e15.den < (anN C (cut n) 0 7)) → ((((((anX C (cut n) 0 7 ((((e15.den)))))))) = (((((anX C (cut n) 0 7 (((((e15.den))))))))))) ∧ (((((anY C (cut n) 0 7 ((((e15.den)))))))) = (((((anY C (cut n) 0 7 (((((e15.den))))))))))))))) ∧ ((0 ≤ (esM (anX C (cut n) 0 7) (anY C (cut n) 0 7) (anN C (cut n) 0 7)) ∧ (esM (anX C (cut n) 0 7) (anY C (cut n) 0 7) (anN C (cut n) 0 7)) ≤ 3) → ((((anN C (cut n) 0 7) = (anN C (cut n) 0 7)) ∧ ((esM (anX C (cut n) 0 7) (anY C (cut n) 0 7) (anN C (cut n) 0 7)) = (esM (anX C (cut n) 0 7) (anY C (cut n) 0 7) (anN C (cut n) 0 7)))) ∧ (((((anN C (cut n) 0 7) ≤ (anN C (cut n) 0 7)) ∧ (∀ e17 : E, ((0 ≤ e17.den ∧ e17.den < (anN C (cut n) 0 7)) → (((((((anX C (cut n) 0 7 (((((e17.den)))))))))) = ((((((anX C (cut n) 0 7 ((((((e17.den))))))))))))) ∧ ((((((anY C (cut n) 0 7 (((((e17.den)))))))))) = ((((((anY C (cut n) 0 7 ((((((e17.den))))))))))))))))) ∧ (((esM (anX C (cut n) 0 7) (anY C (cut n) 0 7) (anN C (cut n) 0 7)) ≤ (esM (anX C (cut n) 0 7) (anY C (cut n) 0 7) (anN C (cut n) 0 7))) ∧ (∀ e16 : E, ((0 ≤ e16.den ∧ e16.den < (esM (anX C (cut n) 0 7) (anY C (cut n) 0 7) (anN C (cut n) 0 7))) → ((esA (anX C (cut n) 0 7) (anY C (cut n) 0 7) (anN C (cut n) 0 7) (e16.den)) = (esA (anX C (cut n) 0 7) (anY C (cut n) 0 7) (anN C (cut n) 0 7) ((e16.den)))))))) ∧ ((((-4000000000000000000) ≤ (cXN (anX C (cut n) 0 7) (anY C (cut n) 0 7) (anN C (cut n) 0 7) (esA (anX C (cut n) 0 7) (anY C (cut n) 0 7) (anN C (cut n) 0 7)) (esM (anX C (cut n) 0 7) (anY C (cut n) 0 7) (anN C (cut n) 0 7))) ∧ (cXN (anX C (cut n) 0 7) (anY C (cut n) 0 7) (anN C (cut n) 0 7) (esA (anX C (cut n) 0 7) (anY C (cut n) 0 7) (anN C (cut n) 0 7)) (esM (anX C (cut n) 0 7) (anY C (cut n) 0 7) (anN C (cut n) 0 7))) ≤ 4000000000000000000) ∧ (((-4000000000000000000) ≤ (cXD (anX C (cut n) 0 7) (anY C (cut n) 0 7) (anN C (cut n) 0 7) (esA (anX C (cut n) 0 7) (anY C (cut n) 0 7) (anN C (cut n) 0 7)) (esM (anX C (cut n) 0 7) (anY C (cut n) 0 7) (anN C (cut n) 0 7))) ∧ (cXD (anX C (cut n) 0 7) (anY C (cut n) 0 7) (anN C (cut n) 0 7) (esA (anX C (cut n) 0 7) (anY C (cut n) 0 7) (anN C (cut n) 0 7)) (esM (anX C (cut n) 0 7) (anY C (cut n) 0 7) (anN C (cut n) 0 7))) ≤ 4000000000000000000) ∧ (((-4000000000000000000) ≤ (cYN (anX C (cut n) 0 7) (anY C (cut n) 0 7) (anN C (cut n) 0 7) (esA (anX C (cut n) 0 7) (anY C (cut n) 0 7) (anN C (cut n) 0 7)) (esM (anX C (cut n) 0 7) (anY C (cut n) 0 7) (anN C (cut n) 0 7))) ∧ (cYN (anX C (cut n) 0 7) (anY C (cut n) 0 7) (anN C (cut n) 0 7) (esA (anX C (cut n) 0 7) (anY C (cut n) 0 7) (anN C (cut n) 0 7)) (esM (anX C (cut n) 0 7) (anY C (cut n) 0 7) (anN C (cut n) 0 7))) ≤ 4000000000000000000) ∧ ((-4000000000000000000) ≤ (cYD (anX C (cut n) 0 7) (anY C (cut n) 0 7) (anN C (cut n) 0 7) (esA (anX C (cut n) 0 7) (anY C (cut n) 0 7) (anN C (cut n) 0 7)) (esM (anX C (cut n) 0 7) (anY C (cut n) 0 7) (anN C (cut n) 0 7))) ∧ (cYD (anX C (cut n) 0 7) (anY C (cut n) 0 7) (anN C (cut n) 0 7) (esA (anX C (cut n) 0 7) (anY C (cut n) 0 7) (anN C (cut n) 0 7)) (esM (anX C (cut n) 0 7) (anY C (cut n) 0 7) (anN C (cut n) 0 7))) ≤ 4000000000000000000)))) → ((((cnB (anX C (cut n) 0 7) (anY C (cut n) 0 7) (anN C (cut n) 0 7) x2.1 x2.2) = true) → ((((cnB (anX C (cut n) 0 7) (anY C (cut n) 0 7) (anN C (cut n) 0 7) (esA (anX C (cut n) 0 7) (anY C (cut n) 0 7) (anN C (cut n) 0 7)) (esM (anX C (cut n) 0 7) (anY C (cut n) 0 7) (anN C (cut n) 0 7))) = true) → ((((cXN (anX C (cut n) 0 7) (anY C (cut n) 0 7) (anN C (cut n) 0 7) x2.1 x2.2) = (cXN (anX C (cut n) 0 7) (anY C (cut n) 0 7) (anN C (cut n) 0 7) (esA (anX C (cut n) 0 7) (anY C (cut n) 0 7) (anN C (cut n) 0 7)) (esM (anX C (cut n) 0 7) (anY C (cut n) 0 7) (anN C (cut n) 0 7)))) ∧ ((((cXD (anX C (cut n) 0 7) (anY C (cut n) 0 7) (anN C (cut n) 0 7) x2.1 x2.2) = (cXD (anX C (cut n) 0 7) (anY C (cut n) 0 7) (anN C (cut n) 0 7) (esA (anX C (cut n) 0 7) (anY C (cut n) 0 7) (anN C (cut n) 0 7)) (esM (anX C (cut n) 0 7) (anY C (cut n) 0 7) (anN C (cut n) 0 7)))) ∧ ((((cYN (anX C (cut n) 0 7) (anY C (cut n) 0 7) (anN C (cut n) 0 7) x2.1 x2.2) = (cYN (anX C (cut n) 0 7) (anY C (cut n) 0 7) (anN C (cut n) 0 7) (esA (anX C (cut n) 0 7) (anY C (cut n) 0 7) (anN C (cut n) 0 7)) (esM (anX C (cut n) 0 7) (anY C (cut n) 0 7) (anN C (cut n) 0 7)))) ∧ ((cYD (anX C (cut n) 0 7) (anY C (cut n) 0 7) (anN C (cut n) 0 7) x2.1 x2.2) = (cYD (anX C (cut n) 0 7) (anY C (cut n) 0 7) (anN C (cut n) 0 7) (esA (anX C (cut n) 0 7) (anY C (cut n) 0 7) (anN C (cut n) 0 7)) (esM (anX C (cut n) 0 7) (anY C (cut n) 0 7) (anN C (cut n) 0 7))))))))))) ∧ (((cnB (anX C (cut n) 0 7) (anY C (cut n) 0 7) (anN C (cut n) 0 7) (esA (anX C (cut n) 0 7) (anY C (cut n) 0 7) (anN C (cut n) 0 7)) (esM (anX C (cut n) 0 7) (anY C (cut n) 0 7) (anN C (cut n) 0 7))) = false) → (False)))) ∧ (((cnB (anX C (cut n) 0 7) (anY C (cut n) 0 7) (anN C (cut n) 0 7) x2.1 x2.2) = false) → (False)))))))))))))))))))))))))) (by kernel_rfl) ?_
  intro h1 h2
  intro c19
  refine ⟨rfl, ⟨Int.le_refl _, fun _ => fun _ => rfl⟩, ?_⟩
  rintro ⟨A3, m4⟩
  dsimp only
  intro c20
  refine ⟨⟨rfl, rfl⟩, ⟨⟨Int.le_refl _, fun _ => fun _ => ⟨rfl, rfl⟩⟩, ⟨Int.le_refl _, fun _ => fun _ => rfl⟩⟩, ⟨rfl, rfl⟩, ⟨⟨Int.le_refl _, fun _ => fun _ => ⟨rfl, rfl⟩⟩, ⟨Int.le_refl _, fun _ => fun _ => rfl⟩⟩, ?_, ?_⟩
  · intro c21
    refine ⟨⟨rfl, rfl⟩, ⟨⟨Int.le_refl _, fun _ => fun _ => ⟨rfl, rfl⟩⟩, ⟨Int.le_refl _, fun _ => fun _ => rfl⟩⟩, ?_⟩
    -- 1: (((ckB (anX C (cut n) 0 7) (anY C (cut n) 0 7) (anN C (cut n) 0 7) x2.1 x2.2) = true) ↔ ((ckB (anX C
    first | omega | rfl | (have hb : ckB (anX C (cut n) 0 7) (anY C (cut n) 0 7) (anN C (cut n) 0 7) A3 m4 = true := (by assumption); have hu := cu_all hb; first | exact hu.1 | exact hu.2.1 | omega | (exfalso; simp_all; done) | (simp_all; done)) | (exfalso; simp_all; done) | (simp_all; done) | fail
  · intro c22
    refine ⟨?_, ?_⟩
    · intro c23
      refine ⟨⟨rfl, rfl⟩, ⟨⟨Int.le_refl _, fun _ => fun _ => ⟨rfl, rfl⟩⟩, ⟨Int.le_refl _, fun _ => fun _ => rfl⟩⟩, ?_⟩
      -- 2: (((ckB (anX C (cut n) 0 7) (anY C (cut n) 0 7) (anN C (cut n) 0 7) x2.1 x2.2) = true) ↔ ((ckB (anX C
      first | omega | rfl | (have hb : ckB (anX C (cut n) 0 7) (anY C (cut n) 0 7) (anN C (cut n) 0 7) A3 m4 = true := (by assumption); have hu := cu_all hb; first | exact hu.1 | exact hu.2.1 | omega | (exfalso; simp_all; done) | (simp_all; done)) | (exfalso; simp_all; done) | (simp_all; done) | fail
    · intro c24
      refine ⟨⟨rfl, rfl⟩, ⟨⟨Int.le_refl _, fun _ => fun _ => ⟨rfl, rfl⟩⟩, ⟨Int.le_refl _, fun _ => fun _ => rfl⟩⟩, ?_⟩
      intro c25
      refine ⟨rfl, ⟨Int.le_refl _, fun _ => fun _ => ⟨rfl, rfl⟩⟩, ?_⟩
      intro c26
      refine ⟨⟨rfl, rfl⟩, ⟨⟨Int.le_refl _, fun _ => fun _ => ⟨rfl, rfl⟩⟩, ⟨Int.le_refl _, fun _ => fun _ => rfl⟩⟩, ?_⟩
      intro c27
      refine ⟨?_, ?_⟩
      · intro c28
        refine ⟨?_, ?_⟩
        · intro c29
          -- 3: (((cXN (anX C (cut n) 0 7) (anY C (cut n) 0 7) (anN C (cut n) 0 7) x2.1 x2.2) = (cXN (anX C (cut n) 
          first | omega | rfl | (have hb : ckB (anX C (cut n) 0 7) (anY C (cut n) 0 7) (anN C (cut n) 0 7) A3 m4 = true := (by assumption); have hu := cu_all hb; first | exact hu.1 | exact hu.2.1 | omega | (exfalso; simp_all; done) | (simp_all; done)) | (exfalso; simp_all; done) | (simp_all; done) | fail
        · intro c30
          -- 4: False
          first | omega | rfl | (have hb : ckB (anX C (cut n) 0 7) (anY C (cut n) 0 7) (anN C (cut n) 0 7) A3 m4 = true := (by assumption); have hu := cu_all hb; first | exact hu.1 | exact hu.2.1 | omega | (exfalso; simp_all; done) | (simp_all; done)) | (exfalso; simp_all; done) | (simp_all; done) | fail
      · intro c31
        -- 5: False
        first | omega | rfl | (have hb : ckB (anX C (cut n) 0 7) (anY C (cut n) 0 7) (anN C (cut n) 0 7) A3 m4 = true := (by assumption); have hu := cu_all hb; first | exact hu.1 | exact hu.2.1 | omega | (exfalso; simp_all; done) | (simp_all; done)) | (exfalso; simp_all; done) | (simp_all; done) | fail
def c_l_FnEnclosingUnique (C : Int → Int) (n : Int) : Cn Try.prog := ⟨_, _, _, _, _, l_FnEnclosingUnique C n⟩
end Go.Proofs.Ytcfkpdjbjfnnmaa
