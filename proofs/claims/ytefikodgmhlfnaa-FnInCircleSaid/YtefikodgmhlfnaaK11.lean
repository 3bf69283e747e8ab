/- Divisors, fractions. -/
import Derived.Test.YtefikodgmhlfnaaK2
set_option linter.unusedSimpArgs false
set_option linter.unusedVariables false
set_option maxRecDepth 100000
namespace Go.Proofs.Ytefikodgmhlfnaa
open Go.Sym
theorem mul_bd (x y m n : Int) (h1 : -m ≤ x) (h2 : x ≤ m) (h3 : -n ≤ y) (h4 : y ≤ n) : -(m * n) ≤ x * y ∧ x * y ≤ m * n := by
  have hm : 0 ≤ m := by omega
  have hn : 0 ≤ n := by omega
  have a1 : 0 ≤ (m - x) * (n + y) := Int.mul_nonneg (by omega) (by omega)
  have a2 : 0 ≤ (m + x) * (n - y) := Int.mul_nonneg (by omega) (by omega)
  have a3 : 0 ≤ (m - x) * (n - y) := Int.mul_nonneg (by omega) (by omega)
  have a4 : 0 ≤ (m + x) * (n + y) := Int.mul_nonneg (by omega) (by omega)
  have e1 : (m - x) * (n + y) = m * n + m * y - x * n - x * y := by rw [Int.sub_mul, Int.mul_add, Int.mul_add]; omega
  have e2 : (m + x) * (n - y) = m * n - m * y + x * n - x * y := by rw [Int.add_mul, Int.mul_sub, Int.mul_sub]; omega
  have e3 : (m - x) * (n - y) = m * n - m * y - x * n + x * y := by rw [Int.sub_mul, Int.mul_sub, Int.mul_sub]; omega
  have e4 : (m + x) * (n + y) = m * n + m * y + x * n + x * y := by rw [Int.add_mul, Int.mul_add, Int.mul_add]; omega
  constructor <;> omega

/-- What was there is as it was. -/
def absI (a : Int) : Int := (a.natAbs : Int)
def gcdI (a b : Int) : Int := (Int.gcd a b : Nat)
theorem gcdI_step (a b : Int) : gcdI b (a.tmod b) = gcdI a b := by
  unfold gcdI
  congr 1
  show Nat.gcd b.natAbs (a.tmod b).natAbs = Nat.gcd a.natAbs b.natAbs
  rw [Int.natAbs_tmod, Nat.gcd_comm a.natAbs b.natAbs, Nat.gcd_rec b.natAbs a.natAbs, Nat.gcd_comm]
theorem gcdI_zero (a : Int) : gcdI a 0 = (a.natAbs : Int) := by unfold gcdI; simp [Int.gcd]
theorem gcdI_pos (a b : Int) (hb : b ≠ 0) : 1 ≤ gcdI a b := by
  unfold gcdI
  have : 0 < Int.gcd a b := Int.gcd_pos_of_ne_zero_right _ hb
  omega
theorem gcdI_left (a b : Int) : gcdI a b ∣ a := Int.gcd_dvd_left ..
theorem gcdI_right (a b : Int) : gcdI a b ∣ b := Int.gcd_dvd_right ..
/-- A quotient in lowest terms: its numerator and its denominator. -/
def redN (num den : Int) : Int := if den < 0 then -(num / gcdI num den) else num / gcdI num den
def redD (num den : Int) : Int := if den < 0 then -(den / gcdI num den) else den / gcdI num den
theorem ediv_bd (x g M : Int) (hg : 1 ≤ g) (h1 : -M ≤ x) (h2 : x ≤ M) : -M ≤ x / g ∧ x / g ≤ M := by
  have hM : 0 ≤ M := by omega
  constructor
  · rw [Int.le_ediv_iff_mul_le (by omega)]
    have : M * 1 ≤ M * g := Int.mul_le_mul_of_nonneg_left hg hM
    rw [Int.neg_mul]
    omega
  · have : x / g * g ≤ x := Int.ediv_mul_le _ (by omega)
    rcases Int.le_total 0 (x / g) with h | h
    · have : x / g * 1 ≤ x / g * g := Int.mul_le_mul_of_nonneg_left hg h
      omega
    · omega
theorem gcdI_zero' {a b : Int} (h : b = 0) : gcdI a b = absI a := by subst h; exact gcdI_zero a
theorem tmod_nat (a b : Int) (hb : b ≠ 0) : (a.tmod b).natAbs < b.natAbs := by rw [Int.natAbs_tmod]; exact Nat.mod_lt _ (by omega)
def okR (n d : Int) : Bool := decide (-100000000000 ≤ n ∧ n ≤ 100000000000) && (decide (1 ≤ d ∧ d ≤ 20000000) && decide (gcdI n d = 1))
theorem okR_bd {n d : Int} (h : okR n d = true) : (-100000000000 ≤ n ∧ n ≤ 100000000000) ∧ (1 ≤ d ∧ d ≤ 20000000) ∧ gcdI n d = 1 := by
  unfold okR at h
  simpa only [Bool.and_eq_true, decide_eq_true_eq] using h
/-- If it is valid, else 0. -/
def orZ (b : Bool) (n : Int) : Int := if b = true then n else 0
theorem gcdI_natAbs (a b : Int) : gcdI (a.natAbs : Int) b = gcdI a b := by unfold gcdI; simp [Int.gcd]
theorem gcdI_neg_right (a b : Int) : gcdI a (-b) = gcdI a b := by unfold gcdI; simp [Int.gcd]
def addOK (a0 a1 b0 b1 : Int) : Bool := okR a0 a1 && (okR b0 b1 && okR (redN (a0 * b1 + b0 * a1) (a1 * b1)) (redD (a0 * b1 + b0 * a1) (a1 * b1)))
def addN (a0 a1 b0 b1 : Int) : Int := orZ (addOK a0 a1 b0 b1) (redN (a0 * b1 + b0 * a1) (a1 * b1))
def addD (a0 a1 b0 b1 : Int) : Int := orZ (addOK a0 a1 b0 b1) (redD (a0 * b1 + b0 * a1) (a1 * b1))
def mulBad (x y : Int) : Bool := decide (x ≠ 0) && decide (100000000000 / (x.natAbs : Int) < (y.natAbs : Int))
def mulOK (a0 a1 b0 b1 : Int) : Bool := okR a0 a1 && (okR b0 b1 && (!mulBad (redN a0 b1) (redN b0 a1) && okR (redN a0 b1 * redN b0 a1) (redD a0 b1 * redD b0 a1)))
def mulN (a0 a1 b0 b1 : Int) : Int := orZ (mulOK a0 a1 b0 b1) (redN a0 b1 * redN b0 a1)
def mulD (a0 a1 b0 b1 : Int) : Int := orZ (mulOK a0 a1 b0 b1) (redD a0 b1 * redD b0 a1)
theorem redN_bd (a b : Int) (M : Int) (hb : 1 ≤ b) (h1 : -M ≤ a) (h2 : a ≤ M) : -M ≤ redN a b ∧ redN a b ≤ M := by
  unfold redN
  rw [if_neg (by omega)]
  exact ediv_bd _ _ _ (gcdI_pos _ _ (by omega)) h1 h2
theorem redD_bd (a b : Int) (M : Int) (hb : 1 ≤ b) (h2 : b ≤ M) : 1 ≤ redD a b ∧ redD a b ≤ M := by
  unfold redD
  rw [if_neg (by omega)]
  have hp := gcdI_pos a b (by omega)
  have hd := gcdI_right a b
  refine ⟨?_, (ediv_bd _ _ _ hp (by omega) h2).2⟩
  rw [Int.le_ediv_iff_mul_le (by omega)]
  have := Int.le_of_dvd (by omega) hd
  omega
theorem not_bad (x y : Int) (h : mulBad x y = false) (_hy : -100000000000 ≤ y ∧ y ≤ 100000000000) : -100000000000 ≤ x * y ∧ x * y ≤ 100000000000 := by
  unfold mulBad at h
  by_cases hx : x = 0
  · subst hx; simp
  · simp only [ne_eq, hx, not_false_eq_true, decide_true, Bool.true_and, decide_eq_false_iff_not, Int.not_lt] at h
    have hx' : 0 < (x.natAbs : Int) := by omega
    have := (Int.le_ediv_iff_mul_le hx').1 h
    have e : ((x * y).natAbs : Int) = (y.natAbs : Int) * (x.natAbs : Int) := by rw [Int.natAbs_mul, Int.natCast_mul]; exact Int.mul_comm _ _
    omega
theorem dvd_of_cop {d n m : Int} (h : d ∣ n * m) (hg : Int.gcd d n = 1) : d ∣ m := by
  have h1 := Int.natAbs_dvd_natAbs.2 h
  rw [Int.natAbs_mul] at h1
  exact Int.natAbs_dvd_natAbs.1 (Nat.Coprime.dvd_of_dvd_mul_left hg h1)

/-- Two fractions in lowest terms of the same value are the same. -/
theorem same_frac {n d n' d' : Int} (hd : 1 ≤ d) (hd' : 1 ≤ d') (hg : gcdI n d = 1) (hg' : gcdI n' d' = 1) (h : n * d' = n' * d) : n = n' ∧ d = d' := by
  have e1 : Int.gcd d n = 1 := by rw [Int.gcd_comm]; unfold gcdI at hg; omega
  have e2 : Int.gcd d' n' = 1 := by rw [Int.gcd_comm]; unfold gcdI at hg'; omega
  have h1 : d ∣ n * d' := ⟨n', by rw [h, Int.mul_comm]⟩
  have h2 : d' ∣ n' * d := ⟨n, by rw [← h, Int.mul_comm]⟩
  have h3 : d ∣ d' := dvd_of_cop h1 e1
  have h4 : d' ∣ d := dvd_of_cop h2 e2
  have h5 := Int.le_of_dvd (by omega) h3
  have h6 := Int.le_of_dvd (by omega) h4
  have e : d = d' := by omega
  subst e
  exact ⟨Int.eq_of_mul_eq_mul_right (by omega) h, rfl⟩
theorem red_val (a b : Int) (hb : 1 ≤ b) : redN a b * b = a * redD a b := by
  unfold redN redD
  rw [if_neg (by omega), if_neg (by omega)]
  have e1 := Int.mul_ediv_cancel' (gcdI_left a b)
  have e2 := Int.mul_ediv_cancel' (gcdI_right a b)
  generalize gcdI a b = g at *
  generalize a / g = n at *
  generalize b / g = d at *
  grind
theorem red_cop (a b : Int) (hb : 1 ≤ b) : gcdI (redN a b) (redD a b) = 1 := by
  unfold redN redD
  rw [if_neg (by omega), if_neg (by omega)]
  have hp := gcdI_pos a b (by omega)
  unfold gcdI at *
  rw [Int.gcd_ediv_gcd_ediv_gcd (by omega)]
  rfl
theorem mul_val {a0 a1 b0 b1 : Int} (h1 : 1 ≤ a1) (h2 : 1 ≤ b1) : (redN a0 b1 * redN b0 a1) * (a1 * b1) = (a0 * b0) * (redD a0 b1 * redD b0 a1) := by
  have e1 := red_val a0 b1 h2
  have e2 := red_val b0 a1 h1
  generalize redN a0 b1 = x at *
  generalize redN b0 a1 = y at *
  generalize redD a0 b1 = z at *
  generalize redD b0 a1 = u at *
  grind
theorem red_dvd (a b : Int) (hb : 1 ≤ b) : redN a b ∣ a ∧ redD a b ∣ b := by
  unfold redN redD
  rw [if_neg (by omega), if_neg (by omega)]
  exact ⟨⟨gcdI a b, (Int.ediv_mul_cancel (gcdI_left a b)).symm⟩, ⟨gcdI a b, (Int.ediv_mul_cancel (gcdI_right a b)).symm⟩⟩
theorem cop_dvd {a b x y : Int} (h : gcdI a b = 1) (hx : x ∣ a) (hy : y ∣ b) : Nat.Coprime x.natAbs y.natAbs := by
  have hn : Nat.Coprime a.natAbs b.natAbs := by unfold gcdI at h; show Int.gcd a b = 1; omega
  exact (hn.coprime_dvd_left (Int.natAbs_dvd_natAbs.2 hx)).coprime_dvd_right (Int.natAbs_dvd_natAbs.2 hy)
theorem mul_cop {a0 a1 b0 b1 : Int} (h1 : 1 ≤ a1) (h2 : 1 ≤ b1) (ha : gcdI a0 a1 = 1) (hb : gcdI b0 b1 = 1) : gcdI (redN a0 b1 * redN b0 a1) (redD a0 b1 * redD b0 a1) = 1 := by
  have c1 := cop_dvd (red_cop a0 b1 h2) (Int.dvd_refl _) (Int.dvd_refl _)
  have c2 := cop_dvd (red_cop b0 a1 h1) (Int.dvd_refl _) (Int.dvd_refl _)
  have c3 := cop_dvd ha (red_dvd a0 b1 h2).1 (red_dvd b0 a1 h1).2
  have c4 := cop_dvd hb (red_dvd b0 a1 h1).1 (red_dvd a0 b1 h2).2
  have : Nat.Coprime (redN a0 b1 * redN b0 a1).natAbs (redD a0 b1 * redD b0 a1).natAbs := by
    rw [Int.natAbs_mul, Int.natAbs_mul]
    exact (c1.mul_right c3).mul_left (c4.mul_right c2)
  unfold gcdI
  show ((Int.gcd _ _ : Nat) : Int) = 1
  rw [show Int.gcd _ _ = 1 from this]
  rfl
theorem okR_of {n d : Int} (h1 : -100000000000 ≤ n ∧ n ≤ 100000000000) (h2 : 1 ≤ d ∧ d ≤ 20000000) (h3 : gcdI n d = 1) : okR n d = true := by
  unfold okR
  rw [decide_eq_true h1, decide_eq_true h2, decide_eq_true h3]
  rfl
theorem add_ok_of {a0 a1 b0 b1 : Int} (ha : okR a0 a1 = true) (hb : okR b0 b1 = true) (h1 : -100000000000 ≤ a0 * b1 + b0 * a1 ∧ a0 * b1 + b0 * a1 ≤ 100000000000) (h2 : 1 ≤ a1 * b1 ∧ a1 * b1 ≤ 20000000) : addOK a0 a1 b0 b1 = true := by
  unfold addOK
  rw [ha, hb, okR_of (redN_bd _ _ _ h2.1 h1.1 h1.2) (redD_bd _ _ _ h2.1 h2.2) (red_cop _ _ h2.1)]
  rfl
theorem not_bad_of {x y P Q : Int} (hx : -P ≤ x ∧ x ≤ P) (hy : -Q ≤ y ∧ y ≤ Q) (hPQ : P * Q ≤ 100000000000) : mulBad x y = false := by
  unfold mulBad
  by_cases h0 : x = 0
  · subst h0; rfl
  · have hlt : ¬ 100000000000 / (x.natAbs : Int) < (y.natAbs : Int) := by
      rw [Int.ediv_lt_iff_lt_mul (by omega)]
      have h1 : (y.natAbs : Int) * (x.natAbs : Int) ≤ Q * P := Int.mul_le_mul (by omega) (by omega) (by omega) (by omega)
      have h2 := Int.mul_comm P Q
      omega
    rw [decide_eq_false hlt]
    simp
theorem mul_ok_of {a0 a1 b0 b1 P Q : Int} (ha : okR a0 a1 = true) (hb : okR b0 b1 = true) (hp : -P ≤ a0 ∧ a0 ≤ P) (hq : -Q ≤ b0 ∧ b0 ≤ Q) (hP : 0 ≤ P) (hQ : 0 ≤ Q) (hPQ : P * Q ≤ 100000000000) (hd : b1 * a1 ≤ 20000000) : mulOK a0 a1 b0 b1 = true := by
  obtain ⟨_, ⟨a2, a3⟩, a4⟩ := okR_bd ha
  obtain ⟨_, ⟨b2, b3⟩, b4⟩ := okR_bd hb
  have n1 := redN_bd a0 b1 P b2 hp.1 hp.2
  have n2 := redN_bd b0 a1 Q a2 hq.1 hq.2
  have d1 := redD_bd a0 b1 b1 b2 (Int.le_refl _)
  have d2 := redD_bd b0 a1 a1 a2 (Int.le_refl _)
  have m1 := mul_bd _ _ P Q n1.1 n1.2 n2.1 n2.2
  have m2 : redD a0 b1 * redD b0 a1 ≤ b1 * a1 := Int.mul_le_mul d1.2 d2.2 (by omega) (by omega)
  have m3 : 0 < redD a0 b1 * redD b0 a1 := Int.mul_pos (by omega) (by omega)
  unfold mulOK
  rw [ha, hb, not_bad_of n1 n2 hPQ, okR_of ⟨by omega, by omega⟩ ⟨by omega, by omega⟩ (mul_cop a2 b2 a4 b4)]
  rfl
theorem mul_facts {a0 a1 b0 b1 : Int} (h : mulOK a0 a1 b0 b1 = true) : okR (mulN a0 a1 b0 b1) (mulD a0 a1 b0 b1) = true ∧ mulN a0 a1 b0 b1 * (a1 * b1) = (a0 * b0) * mulD a0 a1 b0 b1 := by
  unfold mulN mulD orZ
  rw [if_pos h, if_pos h]
  unfold mulOK at h
  simp only [Bool.and_eq_true] at h
  exact ⟨h.2.2.2, mul_val (okR_bd h.1).2.1.1 (okR_bd h.2.1).2.1.1⟩
theorem add_facts {a0 a1 b0 b1 : Int} (h : addOK a0 a1 b0 b1 = true) : okR (addN a0 a1 b0 b1) (addD a0 a1 b0 b1) = true ∧ addN a0 a1 b0 b1 * (a1 * b1) = (a0 * b1 + b0 * a1) * addD a0 a1 b0 b1 := by
  unfold addN addD orZ
  rw [if_pos h, if_pos h]
  unfold addOK at h
  simp only [Bool.and_eq_true] at h
  have := Int.mul_pos (a := a1) (b := b1) (by have := (okR_bd h.1).2.1.1; omega) (by have := (okR_bd h.2.1).2.1.1; omega)
  exact ⟨h.2.2, red_val _ _ (by omega)⟩
theorem poly (a0 a1 b0 b1 c0 c1 S T L M X Y Z W : Int) (k : a1 * b1 * c1 * T ≠ 0) (e1 : S * (b1 * c1) = (b0 * c1 + c0 * b1) * T) (e2 : L * (a1 * T) = a0 * S * M) (e3 : X * (a1 * b1) = a0 * b0 * Y) (e4 : Z * (a1 * c1) = a0 * c0 * W) :
    (X * W + Z * Y) * M = L * (Y * W) := by
  have f1 : (X * W + Z * Y) * (a1 * b1 * c1) = a0 * (b0 * c1 + c0 * b1) * (Y * W) := by
    have g1 : X * W * (a1 * b1 * c1) = (X * (a1 * b1)) * (W * c1) := by grind
    have g2 : Z * Y * (a1 * b1 * c1) = (Z * (a1 * c1)) * (Y * b1) := by grind
    rw [Int.add_mul, g1, g2, e3, e4]
    grind
  refine Int.eq_of_mul_eq_mul_right k ?_
  have f2 : (X * W + Z * Y) * M * (a1 * b1 * c1 * T) = ((X * W + Z * Y) * (a1 * b1 * c1)) * (M * T) := by grind
  have f3 : L * (Y * W) * (a1 * b1 * c1 * T) = (L * (a1 * T)) * (Y * W * (b1 * c1)) := by grind
  have f4 : a0 * S * M * (Y * W * (b1 * c1)) = (S * (b1 * c1)) * (a0 * M * (Y * W)) := by grind
  rw [f2, f1, f3, e2, f4, e1]
  grind
theorem tdiv_g {x g : Int} (h : g ∣ x) : x.tdiv g = x / g ∧ x.tdiv (0 - g) = -(x / g) ∧ (0 - x).tdiv g = -(x / g) := by
  have e := Int.tdiv_eq_ediv_of_dvd h
  refine ⟨e, ?_, ?_⟩
  · rw [Int.zero_sub, Int.tdiv_neg, e]
  · rw [Int.zero_sub, Int.neg_tdiv, e]
theorem gcdI_abs (a b : Int) : gcdI (absI a) b = gcdI a b := gcdI_natAbs a b
theorem gcdI_neg (a b : Int) : gcdI (0 - a) (0 - b) = gcdI a b := by unfold gcdI; simp [Int.gcd]
def madeN (n d : Int) : Int := orZ (okR n d) n
def madeD (n d : Int) : Int := orZ (okR n d) d
theorem wrap_ok {x : Int} (h1 : -9223372036854775808 ≤ x) (h2 : x ≤ 9223372036854775807) : IntKind.i64.wrap x = x := by
  have e1 : IntKind.i64.min = -9223372036854775808 := by decide
  have e2 : IntKind.i64.max = 9223372036854775807 := by decide
  exact wrap_in .i64 x (by omega) (by omega)
theorem add_wraps {aN aD bN bD : Int} (ha : okR aN aD = true) (hb : okR bN bD = true) : IntKind.i64.wrap (aN * bD) = aN * bD ∧ IntKind.i64.wrap (bN * aD) = bN * aD ∧ IntKind.i64.wrap (aN * bD + bN * aD) = aN * bD + bN * aD ∧ IntKind.i64.wrap (aD * bD) = aD * bD ∧
    (-4000000000000000000 ≤ aN * bD + bN * aD ∧ aN * bD + bN * aD ≤ 4000000000000000000) ∧ 1 ≤ aD * bD ∧ aD * bD ≤ 400000000000000 := by
  have oa := okR_bd ha
  have ob := okR_bd hb
  have m1 := mul_bd aN bD 100000000000 20000000 (by omega) (by omega) (by omega) (by omega)
  have m2 := mul_bd bN aD 100000000000 20000000 (by omega) (by omega) (by omega) (by omega)
  have m3 := mul_bd aD bD 20000000 20000000 (by omega) (by omega) (by omega) (by omega)
  have m4 : 1 * 1 ≤ aD * bD := Int.mul_le_mul oa.2.1.1 ob.2.1.1 (by decide) (by omega)
  refine ⟨wrap_ok (by omega) (by omega), wrap_ok (by omega) (by omega), wrap_ok (by omega) (by omega), wrap_ok (by omega) (by omega), by omega, by omega, by omega⟩
end Go.Proofs.Ytefikodgmhlfnaa
