/- Relations of segments. -/
import Derived.Test.YtoielngedkbmbaaK14
import Derived.Test.YtoielngedkbmbaaK16
import Derived.Test.YtoielngedkbmbaaK6
set_option linter.unusedSimpArgs false
set_option linter.unusedVariables false
set_option maxRecDepth 100000
namespace Go.Proofs.Ytoielngedkbmbaa
open Go.Sym
def ltP (ax ay bx bY : Int) : Bool := decide (ax < bx) || (decide (ax = bx) && decide (ay < bY))
theorem ltP_iff {ax ay bx bY : Int} : ltP ax ay bx bY = true ↔ ax < bx ∨ (ax = bx ∧ ay < bY) := by unfold ltP; simp
theorem ltP_ff {ax ay bx bY : Int} : ltP ax ay bx bY = false ↔ ¬ (ax < bx ∨ (ax = bx ∧ ay < bY)) := by rw [← ltP_iff]; simp
def posF (q : Int → Bool) : Nat → Int → Int
  | 0, j => j
  | f + 1, j => if q j = true then posF q f (j + 1) else j
theorem posF_eq (q : Int → Bool) : ∀ (f : Nat) (j k : Int), j ≤ k → k ≤ j + f → (∀ i, j ≤ i → i < k → q i = true) → (k < j + f → q k = false) → posF q f j = k
  | 0, j, k, h1, h2, _, _ => by rw [posF]; omega
  | f + 1, j, k, h1, h2, h3, h4 => by
    rw [posF]
    by_cases hj : j = k
    · subst hj
      rw [h4 (by omega)]
      rfl
    · rw [if_pos (h3 j (by omega) (by omega))]
      exact posF_eq q f (j + 1) k (by omega) (by omega) (fun i a b => h3 i (by omega) b) (fun h => h4 (by omega))
theorem posF_spec (q : Int → Bool) : ∀ (f : Nat) (j : Int), j ≤ posF q f j ∧ posF q f j ≤ j + f ∧ (∀ i, j ≤ i → i < posF q f j → q i = true) ∧ (posF q f j < j + f → q (posF q f j) = false)
  | 0, j => by rw [posF]; exact ⟨by omega, by omega, fun i a b => by omega, fun h => by omega⟩
  | f + 1, j => by
    rw [posF]
    by_cases hj : q j = true
    · rw [if_pos hj]
      obtain ⟨a, b, c, d⟩ := posF_spec q f (j + 1)
      refine ⟨by omega, by omega, fun i h1 h2 => ?_, fun h => d (by omega)⟩
      by_cases e : i = j
      · rw [e]; exact hj
      · exact c i (by omega) h2
    · rw [if_neg hj]
      exact ⟨by omega, by omega, fun i a b => by omega, fun _ => by simpa using hj⟩
/-- The first place that is not before a point. -/
def ipos (X Y : Int → Int) (n px py : Int) : Int := posF (fun i => ltP (X i) (Y i) px py) n.toNat 0
theorem ipos_eq {X Y : Int → Int} {n px py k : Int} (h0 : 0 ≤ k) (h1 : k ≤ n) (h2 : ∀ i, 0 ≤ i → i < k → ltP (X i) (Y i) px py = true) (h3 : k < n → ltP (X k) (Y k) px py = false) : ipos X Y n px py = k :=
  posF_eq _ _ _ _ h0 (by omega) h2 (fun h => h3 (by omega))
theorem ipos_spec (X Y : Int → Int) {n : Int} (px py : Int) (hn : 0 ≤ n) : 0 ≤ ipos X Y n px py ∧ ipos X Y n px py ≤ n ∧ (∀ i, 0 ≤ i → i < ipos X Y n px py → ltP (X i) (Y i) px py = true) ∧ (ipos X Y n px py < n → ltP (X (ipos X Y n px py)) (Y (ipos X Y n px py)) px py = false) := by
  obtain ⟨a, b, c, d⟩ := posF_spec (fun i => ltP (X i) (Y i) px py) n.toNat 0
  exact ⟨a, by unfold ipos; omega, c, fun h => d (by unfold ipos at h; omega)⟩
def insD (X Y : Int → Int) (n px py : Int) : Bool := decide (ipos X Y n px py < n) && (decide (X (ipos X Y n px py) = px) && decide (Y (ipos X Y n px py) = py))
def insN (X Y : Int → Int) (n px py : Int) : Int := if insD X Y n px py = true then n else n + 1
def insF (D : Bool) (k : Int) (A : Int → Int) (v i : Int) : Int := if D = true then A i else if i < k then A i else if i = k then v else A (i - 1)
def insX (X Y : Int → Int) (n px py i : Int) : Int := insF (insD X Y n px py) (ipos X Y n px py) X px i
def insY (X Y : Int → Int) (n px py i : Int) : Int := insF (insD X Y n px py) (ipos X Y n px py) Y py i
theorem insF_cat {D : Bool} {k : Int} {A : Int → Int} {v i : Int} (hD : D = false) : (if decide (i < k + 1) = true then (if decide (i < k) = true then A i else v) else A (i - (k + 1) + k)) = insF D k A v i := by
  unfold insF
  subst hD
  simp only [Bool.false_eq_true, if_false, decide_eq_true_eq]
  by_cases h1 : i < k
  · rw [if_pos (by omega), if_pos h1, if_pos h1]
  · by_cases h2 : i = k
    · rw [if_pos (by omega), if_neg h1, if_neg h1, if_pos h2]
    · rw [if_neg (by omega), if_neg h1, if_neg h2, show i - (k + 1) + k = i - 1 by omega]
theorem insF_bd {D : Bool} {k n : Int} {A : Int → Int} {v lo hi : Int} (hA : ∀ i, 0 ≤ i → i < n → lo ≤ A i ∧ A i ≤ hi) (hv : lo ≤ v ∧ v ≤ hi) (hk : 0 ≤ k) (i : Int) (h0 : 0 ≤ i) (h1 : i < if D = true then n else n + 1) (hkn : k ≤ n) : lo ≤ insF D k A v i ∧ insF D k A v i ≤ hi := by
  unfold insF
  cases D
  · simp only [Bool.false_eq_true, if_false] at h1 ⊢
    by_cases e : i < k
    · rw [if_pos e]; exact hA i h0 (by omega)
    · rw [if_neg e]
      by_cases e2 : i = k
      · rw [if_pos e2]; exact hv
      · rw [if_neg e2]; exact hA _ (by omega) (by omega)
  · simp only [if_true] at h1 ⊢
    exact hA i h0 h1
/-- In order, each once. -/
def srtP (X Y : Int → Int) (n : Int) : Prop := ∀ i j, 0 ≤ i → i < j → j < n → ltP (X i) (Y i) (X j) (Y j) = true
def memP (X Y : Int → Int) (n px py : Int) : Prop := ∃ i, (0 ≤ i ∧ i < n) ∧ X i = px ∧ Y i = py
theorem insD_iff {X Y : Int → Int} {n : Int} (px py : Int) (hn : 0 ≤ n) (hs : srtP X Y n) : insD X Y n px py = true ↔ memP X Y n px py := by
  obtain ⟨a, b, c, d⟩ := ipos_spec X Y px py hn
  unfold insD
  simp only [Bool.and_eq_true, decide_eq_true_eq]
  constructor
  · rintro ⟨h1, h2, h3⟩
    exact ⟨_, ⟨a, h1⟩, h2, h3⟩
  · rintro ⟨i, ⟨h1, h2⟩, h3, h4⟩
    generalize ipos X Y n px py = k at *
    have hik : ¬ i < k := fun h => by
      have := c i h1 h
      rw [h3, h4, ltP_iff] at this
      omega
    by_cases e : i = k
    · subst e; exact ⟨h2, h3, h4⟩
    · exfalso
      have h5 := hs k i a (by omega) h2
      rw [h3, h4, d (by omega)] at h5
      cases h5
theorem ins_ok {X Y : Int → Int} {n : Int} (px py : Int) (hn : 0 ≤ n) (hs : srtP X Y n) :
    srtP (insX X Y n px py) (insY X Y n px py) (insN X Y n px py) ∧ ∀ qx qy, memP (insX X Y n px py) (insY X Y n px py) (insN X Y n px py) qx qy ↔ memP X Y n qx qy ∨ (qx = px ∧ qy = py) := by
  have hD := insD_iff px py hn hs
  obtain ⟨a, b, c, d⟩ := ipos_spec X Y px py hn
  cases e : insD X Y n px py with
  | true =>
    have ex : insX X Y n px py = X := by funext i; unfold insX insF; rw [e]; rfl
    have ey : insY X Y n px py = Y := by funext i; unfold insY insF; rw [e]; rfl
    have en : insN X Y n px py = n := by unfold insN; rw [e]; rfl
    rw [ex, ey, en]
    refine ⟨hs, fun qx qy => ⟨.inl, ?_⟩⟩
    rintro (h | ⟨rfl, rfl⟩)
    · exact h
    · exact hD.1 e
  | false =>
    have hno : ¬ memP X Y n px py := fun h => by rw [hD.2 h] at e; cases e
    have en : insN X Y n px py = n + 1 := by unfold insN; rw [e]; rfl
    have ex : ∀ i, insX X Y n px py i = if i < ipos X Y n px py then X i else if i = ipos X Y n px py then px else X (i - 1) := fun i => by unfold insX insF; rw [e]; rfl
    have ey : ∀ i, insY X Y n px py i = if i < ipos X Y n px py then Y i else if i = ipos X Y n px py then py else Y (i - 1) := fun i => by unfold insY insF; rw [e]; rfl
    rw [en]
    generalize ipos X Y n px py = k at *
    have x1 : ∀ i, i < k → insX X Y n px py i = X i ∧ insY X Y n px py i = Y i := fun i h => by rw [ex, ey, if_pos h, if_pos h]; exact ⟨rfl, rfl⟩
    have x2 : insX X Y n px py k = px ∧ insY X Y n px py k = py := by rw [ex, ey]; simp
    have x3 : ∀ i, k < i → insX X Y n px py i = X (i - 1) ∧ insY X Y n px py i = Y (i - 1) := fun i h => by rw [ex, ey, if_neg (by omega), if_neg (by omega), if_neg (by omega), if_neg (by omega)]; exact ⟨rfl, rfl⟩
    have up : ∀ i, k ≤ i → i < n → ltP px py (X i) (Y i) = true := by
      intro i h1 h2
      have h3 := d (by omega)
      rw [ltP_ff] at h3
      have hk : ltP px py (X k) (Y k) = true := by
        rw [ltP_iff]
        have h4 : ¬ (X k = px ∧ Y k = py) := fun h => hno ⟨k, ⟨a, by omega⟩, h.1, h.2⟩
        omega
      by_cases e2 : i = k
      · rw [e2]; exact hk
      · have h5 := hs k i a (by omega) h2
        rw [ltP_iff] at hk h5 ⊢
        omega
    refine ⟨fun i j h1 h2 h3 => ?_, fun qx qy => ⟨?_, ?_⟩⟩
    · rcases Int.lt_trichotomy i k with hi | hi | hi
      · rw [(x1 i hi).1, (x1 i hi).2]
        rcases Int.lt_trichotomy j k with hj | hj | hj
        · rw [(x1 j hj).1, (x1 j hj).2]; exact hs i j h1 h2 (by omega)
        · rw [hj, x2.1, x2.2]; exact c i h1 hi
        · rw [(x3 j hj).1, (x3 j hj).2]; exact hs i (j - 1) h1 (by omega) (by omega)
      · rw [hi, x2.1, x2.2, (x3 j (by omega)).1, (x3 j (by omega)).2]
        exact up (j - 1) (by omega) (by omega)
      · rw [(x3 i hi).1, (x3 i hi).2, (x3 j (by omega)).1, (x3 j (by omega)).2]
        exact hs (i - 1) (j - 1) (by omega) (by omega) (by omega)
    · rintro ⟨i, ⟨h1, h2⟩, h3, h4⟩
      rcases Int.lt_trichotomy i k with hi | hi | hi
      · rw [(x1 i hi).1] at h3; rw [(x1 i hi).2] at h4
        exact .inl ⟨i, ⟨h1, by omega⟩, h3, h4⟩
      · rw [hi, x2.1] at h3; rw [hi, x2.2] at h4
        exact .inr ⟨h3.symm, h4.symm⟩
      · rw [(x3 i hi).1] at h3; rw [(x3 i hi).2] at h4
        exact .inl ⟨i - 1, ⟨by omega, by omega⟩, h3, h4⟩
    · rintro (⟨i, ⟨h1, h2⟩, h3, h4⟩ | ⟨rfl, rfl⟩)
      · by_cases hi : i < k
        · exact ⟨i, ⟨h1, by omega⟩, by rw [(x1 i hi).1]; exact h3, by rw [(x1 i hi).2]; exact h4⟩
        · refine ⟨i + 1, ⟨by omega, by omega⟩, ?_, ?_⟩
          · rw [(x3 (i + 1) (by omega)).1, show i + 1 - 1 = i by omega]; exact h3
          · rw [(x3 (i + 1) (by omega)).2, show i + 1 - 1 = i by omega]; exact h4
      · exact ⟨k, ⟨a, by omega⟩, x2.1, x2.2⟩
structure PLs where
  n : Int
  x : Int → Int
  y : Int → Int
/-- Points put in, one by one, if they are so. -/
def ceL (x y : Int → Int) (c : Int → Bool) : Nat → PLs
  | 0 => ⟨0, fun _ => 0, fun _ => 0⟩
  | j + 1 => if c j = true then ⟨insN (ceL x y c j).x (ceL x y c j).y (ceL x y c j).n (x j) (y j), insX (ceL x y c j).x (ceL x y c j).y (ceL x y c j).n (x j) (y j), insY (ceL x y c j).x (ceL x y c j).y (ceL x y c j).n (x j) (y j)⟩ else ceL x y c j
theorem ceL_n (x y : Int → Int) (c : Int → Bool) : ∀ j : Nat, 0 ≤ (ceL x y c j).n ∧ (ceL x y c j).n ≤ j
  | 0 => by rw [ceL]; exact ⟨by decide, by decide⟩
  | j + 1 => by
    have ih := ceL_n x y c j
    rw [ceL]
    split
    · simp only [insN]
      split <;> omega
    · omega
theorem ceL_ok (x y : Int → Int) (c : Int → Bool) : ∀ j : Nat, srtP (ceL x y c j).x (ceL x y c j).y (ceL x y c j).n ∧ ∀ qx qy, memP (ceL x y c j).x (ceL x y c j).y (ceL x y c j).n qx qy ↔ ∃ i : Int, (0 ≤ i ∧ i < j) ∧ c i = true ∧ x i = qx ∧ y i = qy
  | 0 => by
    rw [ceL]
    refine ⟨fun i j h1 h2 h3 => by simp only at h3; omega, fun qx qy => ⟨?_, ?_⟩⟩
    · rintro ⟨i, ⟨h1, h2⟩, _⟩
      simp only at h2; omega
    · rintro ⟨i, ⟨h1, h2⟩, _⟩
      omega
  | j + 1 => by
    obtain ⟨h1, h2⟩ := ceL_ok x y c j
    have hn := (ceL_n x y c j).1
    rw [ceL]
    split
    · rename_i hc
      obtain ⟨g1, g2⟩ := ins_ok (x j) (y j) hn h1
      refine ⟨g1, fun qx qy => ?_⟩
      simp only
      rw [g2, h2]
      constructor
      · rintro (⟨i, a, b⟩ | ⟨rfl, rfl⟩)
        · exact ⟨i, ⟨a.1, by omega⟩, b⟩
        · exact ⟨j, ⟨by omega, by omega⟩, hc, rfl, rfl⟩
      · rintro ⟨i, a, b, d, e⟩
        by_cases hi : i = j
        · subst hi; exact .inr ⟨d.symm, e.symm⟩
        · exact .inl ⟨i, ⟨a.1, by omega⟩, b, d, e⟩
    · rename_i hc
      refine ⟨h1, fun qx qy => ?_⟩
      rw [h2]
      constructor
      · rintro ⟨i, a, b⟩
        exact ⟨i, ⟨a.1, by omega⟩, b⟩
      · rintro ⟨i, a, b, d⟩
        by_cases hi : i = j
        · subst hi; exact absurd b hc
        · exact ⟨i, ⟨a.1, by omega⟩, b, d⟩
theorem ce_len {x y : Int → Int} {c q : Int → Bool} (m : Nat) (h : ∀ j : Nat, j < m → (q j = true ↔ c j = true ∧ ¬ ∃ i : Int, (0 ≤ i ∧ i < j) ∧ c i = true ∧ x i = x j ∧ y i = y j)) : ∀ j : Nat, j ≤ m → (ceL x y c j).n = len' (fl q j)
  | 0, _ => by rw [ceL]; rfl
  | j + 1, hj => by
    have ih := ce_len m h j (by omega)
    obtain ⟨h1, h2⟩ := ceL_ok x y c j
    have hn := (ceL_n x y c j).1
    have hq := h j (by omega)
    rw [← h2] at hq
    have hd := insD_iff (x j) (y j) hn h1
    rw [ceL, show ((j + 1 : Nat) : Int) = (j : Int) + 1 by omega, fl_succ q (by omega)]
    by_cases hc : c j = true
    · rw [if_pos hc]
      simp only [insN]
      by_cases hd2 : insD (ceL x y c j).x (ceL x y c j).y (ceL x y c j).n (x j) (y j) = true
      · rw [if_pos hd2, if_neg (fun hh => (hq.1 hh).2 (hd.1 hd2))]; exact ih
      · rw [if_neg hd2, if_pos (hq.2 ⟨hc, fun hh => hd2 (hd.2 hh)⟩), len'_snoc, ih]
    · rw [if_neg hc, if_neg (fun hh => hc (hq.1 hh).1)]; exact ih
theorem ce_one {x y : Int → Int} {c q : Int → Bool} (m : Nat) (h : ∀ j : Nat, j < m → (q j = true ↔ c j = true ∧ ¬ ∃ i : Int, (0 ≤ i ∧ i < j) ∧ c i = true ∧ x i = x j ∧ y i = y j)) (h1 : len' (fl q m) = 1) :
    (ceL x y c m).x 0 = x (selL (fl q m) 0) ∧ (ceL x y c m).y 0 = y (selL (fl q m) 0) := by
  have hl := ce_len m h m (Nat.le_refl m)
  have hm := selL_mem (l := fl q m) (i := 0) (by omega) (by omega)
  rw [mem_fl] at hm
  obtain ⟨⟨a, b⟩, hq⟩ := hm
  generalize hi : selL (fl q m) 0 = i at *
  have e : ((i.toNat : Nat) : Int) = i := by omega
  have h2 := h i.toNat (by omega)
  rw [e] at h2
  have h3 := ((ceL_ok x y c m).2 (x i) (y i)).2 ⟨i, ⟨a, b⟩, (h2.1 hq).1, rfl, rfl⟩
  obtain ⟨k, ⟨k0, k1⟩, k2, k3⟩ := h3
  have ek : k = 0 := by omega
  subst ek
  exact ⟨k2, k3⟩
theorem insF_at {D : Bool} {k : Int} {A : Int → Int} {v i : Int} (hD : D = true) : insF D k A v i = A i := by subst hD; rfl
theorem sgn_neg {a b : Int} (h : sgn a * sgn b < 0) : (a < 0 ∧ 0 < b) ∨ (0 < a ∧ b < 0) := by
  unfold sgn at h
  (repeat' split at h) <;> omega

theorem s_pointLess (aX : Int) (aY : Int) (bX : Int) (bY : Int) : RunsTo Try.prog 155 [(.agg [(.int .i64 (.v fun _ => aX) (-9223372036854775808) 9223372036854775807), (.int .i64 (.v fun _ => aY) (-9223372036854775808) 9223372036854775807)]), (.agg [(.int .i64 (.v fun _ => bX) (-9223372036854775808) 9223372036854775807), (.int .i64 (.v fun _ => bY) (-9223372036854775808) 9223372036854775807)])] [] (.bool (.v fun _ => ltP aX aY bX bY)) [] := by
  refine RunsTo.go env Try.func155 rfl Try.call155 rfl rfl (fun _ _ => (.ite .ret (.ite .ret .ret))) (G := ((((-9223372036854775808) ≤ aX ∧ aX ≤ 9223372036854775807) ∧ ((-9223372036854775808) ≤ aY ∧ aY ≤ 9223372036854775807)) ∧ (((-9223372036854775808) ≤ bX ∧ bX ≤ 9223372036854775807) ∧ ((-9223372036854775808) ≤ bY ∧ bY ≤ 9223372036854775807))) → (True) → (((aX < bX) → ((ltP aX aY bX bY) = true)) ∧ ((bX ≤ aX) → (((aX = bX) → ((aY < bY) ↔ ((ltP aX aY bX bY) = true))) ∧ ((aX ≠ bX) → ((ltP aX aY bX bY) = false)))))) (by kernel_rfl) ?_
  intro h1 h2
  refine ⟨?_, ?_⟩
  · intro c1
    simp_all [ltP_iff]; done
  · intro c2
    refine ⟨?_, ?_⟩
    · intro c3
      simp_all [ltP_iff]; done
    · intro c4
      simp_all [ltP]; done
def c_s_pointLess (aX : Int) (aY : Int) (bX : Int) (bY : Int) : Cn Try.prog := ⟨_, _, _, _, _, s_pointLess aX aY bX bY⟩
theorem s_addPoint (X : Int → Int) (Y : Int → Int) (n : Int) (pX : Int) (pY : Int) : RunsTo Try.prog 143 [(.sl 0 2 (.lit 0) (.v fun _ => n) 64), (.agg [(.int .i64 (.v fun _ => pX) (-2002) 2002), (.int .i64 (.v fun _ => pY) (-2002) 2002)])] [some ⟨32, 2, true, (.sym (.v fun _ => n) fun e => [(.int .i64 (.v fun _ => (X (e.den))) (-2002) 2002), (.int .i64 (.v fun _ => (Y (e.den))) (-2002) 2002)])⟩] (.sl 1 2 (.lit 0) (.v fun _ => insN X Y n pX pY) 200) [none, some ⟨32, 2, true, (.sym (.v fun _ => insN X Y n pX pY) fun e => [(.int .i64 (.v fun _ => insX X Y n pX pY e.den) (-2002) 2002), (.int .i64 (.v fun _ => insY X Y n pX pY e.den) (-2002) 2002)])⟩] := by
  refine RunsTo.go env Try.func143 rfl Try.call143 rfl rfl (fun _ _ => (.loop [] [0, 1] (Int) (fun x1 => ⟨spl 48 0 [(0, (.sl 0 2 (.lit 0) (.v fun _ => n) 64)), (3, (.ptr 1 2 (.lit 0) 0)), (4, (.raw (.slice none 0 0))), (5, (.int .i64 (.v fun _ => x1) 0 1048576))], [some ⟨32, 2, true, (.sym (.v fun _ => n) fun e => [(.int .i64 (.v fun _ => (X (e.den))) (-2002) 2002), (.int .i64 (.v fun _ => (Y (e.den))) (-2002) 2002)])⟩, some ⟨32, 2, true, (.lit [[(.int .i64 (.v fun _ => pX) (-2002) 2002), (.int .i64 (.v fun _ => pY) (-2002) 2002)]])⟩], 1⟩) (fun x1 => (0 ≤ x1 ∧ x1 ≤ n) ∧ ∀ i, 0 ≤ i → i < x1 → ltP (X (i)) (Y (i)) pX pY = true) (fun x1 => (n - x1).toNat) fun x1 => (.ite (.need (.need (.call (c_s_pointLess ((X (x1))) ((Y (x1))) pX pY) (.ite (.next [0, 1]) (.out (.ite (.need (.need (.ite .ret (.need (.need (.need (.need (.need .ret)))))))) (.need (.need (.need (.need (.need .ret))))))))))) (.out (.ite (.need (.need (.ite .ret (.need (.need (.need (.need (.need .ret)))))))) (.need (.need (.need (.need (.need .ret)))))))))) (G := ((0 ≤ n ∧ n ≤ 64) ∧ (((-2002) ≤ pX ∧ pX ≤ 2002) ∧ ((-2002) ≤ pY ∧ pY ≤ 2002))) → (∀ e12 : E, ((0 ≤ e12.den ∧ e12.den < n) → (((-2002) ≤ ((X (e12.den))) ∧ ((X (e12.den))) ≤ 2002) ∧ ((-2002) ≤ ((Y (e12.den))) ∧ ((Y (e12.den))) ≤ 2002)))) → ((∃ y2 : Int, (((0 ≤ y2 ∧ y2 ≤ n) ∧ ∀ i, 0 ≤ i → i < y2 → ltP (X (i)) (Y (i)) pX pY = true) ∧ (((n = n) ∧ ((((.slice none 0 0) : Value) = (.slice none 0 0)) ∧ ((0 : Int) = y2))) ∧ (((n ≤ n) ∧ (∀ e3 : E, ((0 ≤ e3.den ∧ e3.den < n) → ((((X (e3.den))) = ((X (e3.den)))) ∧ (((Y (e3.den))) = ((Y (e3.den)))))))) ∧ ((pX = pX) ∧ (pY = pY)))))) ∧ (∀ x1 : Int, (((0 ≤ x1 ∧ x1 ≤ n) ∧ ∀ i, 0 ≤ i → i < x1 → ltP (X (i)) (Y (i)) pX pY = true) → (((x1 < n) → ((((0 ≤ x1) ∧ (x1 < n))) ∧ ((x1 < n) ∧ ((((((X (x1))) = ((X (x1)))) ∧ (((Y (x1))) = ((Y (x1))))) ∧ ((pX = pX) ∧ (pY = pY))) ∧ ((((ltP ((X (x1))) ((Y (x1))) pX pY) = true) → (∃ y4 : Int, (((0 ≤ y4 ∧ y4 ≤ n) ∧ ∀ i, 0 ≤ i → i < y4 → ltP (X (i)) (Y (i)) pX pY = true) ∧ ((((n = n) ∧ ((((.slice none 0 0) : Value) = (.slice none 0 0)) ∧ (((x1 + 1) = y4) ∧ ((1 ≤ (x1 + 1) ∧ (x1 + 1) ≤ 1048577) → (0 ≤ y4 ∧ y4 ≤ 1048576))))) ∧ (((n ≤ n) ∧ (∀ e5 : E, ((0 ≤ e5.den ∧ e5.den < n) → ((((X (e5.den))) = ((X (e5.den)))) ∧ (((Y (e5.den))) = ((Y (e5.den)))))))) ∧ ((pX = pX) ∧ (pY = pY)))) ∧ ((n - y4).toNat < (n - x1).toNat))))) ∧ (((ltP ((X (x1))) ((Y (x1))) pX pY) = false) → (((x1 < n) → ((((0 ≤ x1) ∧ (x1 < n))) ∧ ((x1 < n) ∧ (((((((X (x1))) = pX) ∧ (((Y (x1))) = pY))) → ((n = (insN X Y n pX pY)) ∧ (((insN X Y n pX pY) ≤ n) ∧ (∀ e6 : E, ((0 ≤ e6.den ∧ e6.den < (insN X Y n pX pY)) → ((((X (e6.den))) = (insX X Y n pX pY e6.den)) ∧ (((Y (e6.den))) = (insY X Y n pX pY e6.den)))))))) ∧ ((((((X (x1))) ≠ pX) ∨ (((Y (x1))) ≠ pY))) → ((((0 ≤ x1) ∧ (x1 ≤ n))) ∧ (((x1 ≤ n) ∧ ((oneF (.v fun _ => n) (fun e => [(.int .i64 (.v fun _ => (X (e.den))) (-2002) 2002), (.int .i64 (.v fun _ => (Y (e.den))) (-2002) 2002)])) = true)) ∧ ((x1 = x1) ∧ ((((0 ≤ x1) ∧ (x1 ≤ n))) ∧ ((((x1 + 1) = (x1 + 1)) ∧ (((x1 + (n - x1)) ≤ n) ∧ ((oneF (.v fun _ => n) (fun e => [(.int .i64 (.v fun _ => (X (e.den))) (-2002) 2002), (.int .i64 (.v fun _ => (Y (e.den))) (-2002) 2002)])) = true))) ∧ ((((x1 + 1) + (n - x1)) = (insN X Y n pX pY)) ∧ (((insN X Y n pX pY) ≤ ((x1 + 1) + (n - x1))) ∧ (∀ e7 : E, ((0 ≤ e7.den ∧ e7.den < (insN X Y n pX pY)) → (((if decide (e7.den < (x1 + 1)) = true then (if decide (e7.den < x1) = true then ((X (e7.den))) else pX) else ((X ((e7.den - (x1 + 1)) + x1)))) = (insX X Y n pX pY e7.den)) ∧ ((if decide (e7.den < (x1 + 1)) = true then (if decide (e7.den < x1) = true then ((Y (e7.den))) else pY) else ((Y ((e7.den - (x1 + 1)) + x1)))) = (insY X Y n pX pY e7.den))))))))))))))))) ∧ ((n ≤ x1) → ((((0 ≤ x1) ∧ (x1 ≤ n))) ∧ (((x1 ≤ n) ∧ ((oneF (.v fun _ => n) (fun e => [(.int .i64 (.v fun _ => (X (e.den))) (-2002) 2002), (.int .i64 (.v fun _ => (Y (e.den))) (-2002) 2002)])) = true)) ∧ ((x1 = x1) ∧ ((((0 ≤ x1) ∧ (x1 ≤ n))) ∧ ((((x1 + 1) = (x1 + 1)) ∧ (((x1 + (n - x1)) ≤ n) ∧ ((oneF (.v fun _ => n) (fun e => [(.int .i64 (.v fun _ => (X (e.den))) (-2002) 2002), (.int .i64 (.v fun _ => (Y (e.den))) (-2002) 2002)])) = true))) ∧ ((((x1 + 1) + (n - x1)) = (insN X Y n pX pY)) ∧ (((insN X Y n pX pY) ≤ ((x1 + 1) + (n - x1))) ∧ (∀ e8 : E, ((0 ≤ e8.den ∧ e8.den < (insN X Y n pX pY)) → (((if decide (e8.den < (x1 + 1)) = true then (if decide (e8.den < x1) = true then ((X (e8.den))) else pX) else ((X ((e8.den - (x1 + 1)) + x1)))) = (insX X Y n pX pY e8.den)) ∧ ((if decide (e8.den < (x1 + 1)) = true then (if decide (e8.den < x1) = true then ((Y (e8.den))) else pY) else ((Y ((e8.den - (x1 + 1)) + x1)))) = (insY X Y n pX pY e8.den)))))))))))))))))))) ∧ ((n ≤ x1) → (((x1 < n) → ((((0 ≤ x1) ∧ (x1 < n))) ∧ ((x1 < n) ∧ (((((((X (x1))) = pX) ∧ (((Y (x1))) = pY))) → ((n = (insN X Y n pX pY)) ∧ (((insN X Y n pX pY) ≤ n) ∧ (∀ e9 : E, ((0 ≤ e9.den ∧ e9.den < (insN X Y n pX pY)) → ((((X (e9.den))) = (insX X Y n pX pY e9.den)) ∧ (((Y (e9.den))) = (insY X Y n pX pY e9.den)))))))) ∧ ((((((X (x1))) ≠ pX) ∨ (((Y (x1))) ≠ pY))) → ((((0 ≤ x1) ∧ (x1 ≤ n))) ∧ (((x1 ≤ n) ∧ ((oneF (.v fun _ => n) (fun e => [(.int .i64 (.v fun _ => (X (e.den))) (-2002) 2002), (.int .i64 (.v fun _ => (Y (e.den))) (-2002) 2002)])) = true)) ∧ ((x1 = x1) ∧ ((((0 ≤ x1) ∧ (x1 ≤ n))) ∧ ((((x1 + 1) = (x1 + 1)) ∧ (((x1 + (n - x1)) ≤ n) ∧ ((oneF (.v fun _ => n) (fun e => [(.int .i64 (.v fun _ => (X (e.den))) (-2002) 2002), (.int .i64 (.v fun _ => (Y (e.den))) (-2002) 2002)])) = true))) ∧ ((((x1 + 1) + (n - x1)) = (insN X Y n pX pY)) ∧ (((insN X Y n pX pY) ≤ ((x1 + 1) + (n - x1))) ∧ (∀ e10 : E, ((0 ≤ e10.den ∧ e10.den < (insN X Y n pX pY)) → (((if decide (e10.den < (x1 + 1)) = true then (if decide (e10.den < x1) = true then ((X (e10.den))) else pX) else ((X ((e10.den - (x1 + 1)) + x1)))) = (insX X Y n pX pY e10.den)) ∧ ((if decide (e10.den < (x1 + 1)) = true then (if decide (e10.den < x1) = true then ((Y (e10.den))) else pY) else ((Y ((e10.den - (x1 + 1)) + x1)))) = (insY X Y n pX pY e10.den))))))))))))))))) ∧ ((n ≤ x1) → ((((0 ≤ x1) ∧ (x1 ≤ n))) ∧ (((x1 ≤ n) ∧ ((oneF (.v fun _ => n) (fun e => [(.int .i64 (.v fun _ => (X (e.den))) (-2002) 2002), (.int .i64 (.v fun _ => (Y (e.den))) (-2002) 2002)])) = true)) ∧ ((x1 = x1) ∧ ((((0 ≤ x1) ∧ (x1 ≤ n))) ∧ ((((x1 + 1) = (x1 + 1)) ∧ (((x1 + (n - x1)) ≤ n) ∧ ((oneF (.v fun _ => n) (fun e => [(.int .i64 (.v fun _ => (X (e.den))) (-2002) 2002), (.int .i64 (.v fun _ => (Y (e.den))) (-2002) 2002)])) = true))) ∧ ((((x1 + 1) + (n - x1)) = (insN X Y n pX pY)) ∧ (((insN X Y n pX pY) ≤ ((x1 + 1) + (n - x1))) ∧ (∀ e11 : E, ((0 ≤ e11.den ∧ e11.den < (insN X Y n pX pY)) → (((if decide (e11.den < (x1 + 1)) = true then (if decide (e11.den < x1) = true then ((X (e11.den))) else pX) else ((X ((e11.den - (x1 + 1)) + x1)))) = (insX X Y n pX pY e11.den)) ∧ ((if decide (e11.den < (x1 + 1)) = true then (if decide (e11.den < x1) = true then ((Y (e11.den))) else pY) else ((Y ((e11.den - (x1 + 1)) + x1)))) = (insY X Y n pX pY e11.den)))))))))))))))))))) (by kernel_rfl) ?_
  intro h1 h2
  refine ⟨?_, ?_⟩
  · refine ⟨0, ?_⟩
    try dsimp only
    refine ⟨?_, ?_, ⟨Int.le_refl _, fun _ => fun _ => ⟨rfl, rfl⟩⟩, rfl, rfl⟩
    · refine ⟨by omega, fun i a b => ?_⟩; first | (exfalso; omega) | (by_cases e : i = j; (subst e; first | assumption | (simp_all; done) | fail); exact I1.2 i a (by omega))
    · refine ⟨rfl, rfl, ?_⟩
      rfl
  · intro j
    intro I1
    refine ⟨?_, ?_⟩
    · intro c13
      refine ⟨?_, ?_, ⟨⟨rfl, rfl⟩, ⟨rfl, rfl⟩⟩, ?_, ?_⟩
      · omega
      · omega
      · intro c14
        refine ⟨j + 1, ?_⟩
        try dsimp only
        refine ⟨?_, ?_, ?_⟩
        · refine ⟨by omega, fun i a b => ?_⟩; first | (exfalso; omega) | (by_cases e : i = j; (subst e; first | assumption | (simp_all; done) | fail); exact I1.2 i a (by omega))
        · refine ⟨?_, ⟨Int.le_refl _, fun _ => fun _ => ⟨rfl, rfl⟩⟩, rfl, rfl⟩
          refine ⟨rfl, rfl, ?_, ?_⟩
          · rfl
          · intro c15
            omega
        · omega
      · intro c16
        refine ⟨?_, ?_⟩
        · intro c17
          refine ⟨?_, ?_, ?_, ?_⟩
          · omega
          · omega
          · intro c18
            refine ⟨?_, ?_, ?_⟩
            · have hk : ipos X Y n pX pY = j := (by refine ipos_eq (by omega) (by omega) I1.2 ?_; intro hh; first | assumption | (exfalso; omega)); first | (have hd : insD X Y n pX pY = true := (by unfold insD; rw [hk]; simp only [Bool.and_eq_true, decide_eq_true_eq]; omega); first | (unfold insN; rw [if_pos hd]; done) | (unfold insN; rw [if_pos hd]; omega) | (unfold insX; rw [insF_at hd]; done) | (unfold insY; rw [insF_at hd]; done)) | (have hd : insD X Y n pX pY = false := (by rw [← Bool.not_eq_true]; unfold insD; rw [hk]; simp only [Bool.and_eq_true, decide_eq_true_eq]; omega); first | (unfold insN; rw [hd]; simp; omega) | (unfold insX; rw [hk]; exact insF_cat hd) | (unfold insY; rw [hk]; exact insF_cat hd))
            · have hk : ipos X Y n pX pY = j := (by refine ipos_eq (by omega) (by omega) I1.2 ?_; intro hh; first | assumption | (exfalso; omega)); first | (have hd : insD X Y n pX pY = true := (by unfold insD; rw [hk]; simp only [Bool.and_eq_true, decide_eq_true_eq]; omega); first | (unfold insN; rw [if_pos hd]; done) | (unfold insN; rw [if_pos hd]; omega) | (unfold insX; rw [insF_at hd]; done) | (unfold insY; rw [insF_at hd]; done)) | (have hd : insD X Y n pX pY = false := (by rw [← Bool.not_eq_true]; unfold insD; rw [hk]; simp only [Bool.and_eq_true, decide_eq_true_eq]; omega); first | (unfold insN; rw [hd]; simp; omega) | (unfold insX; rw [hk]; exact insF_cat hd) | (unfold insY; rw [hk]; exact insF_cat hd))
            · intro e6
              intro c19
              refine ⟨?_, ?_⟩
              · have hk : ipos X Y n pX pY = j := (by refine ipos_eq (by omega) (by omega) I1.2 ?_; intro hh; first | assumption | (exfalso; omega)); first | (have hd : insD X Y n pX pY = true := (by unfold insD; rw [hk]; simp only [Bool.and_eq_true, decide_eq_true_eq]; omega); first | (unfold insN; rw [if_pos hd]; done) | (unfold insN; rw [if_pos hd]; omega) | (unfold insX; rw [insF_at hd]; done) | (unfold insY; rw [insF_at hd]; done)) | (have hd : insD X Y n pX pY = false := (by rw [← Bool.not_eq_true]; unfold insD; rw [hk]; simp only [Bool.and_eq_true, decide_eq_true_eq]; omega); first | (unfold insN; rw [hd]; simp; omega) | (unfold insX; rw [hk]; exact insF_cat hd) | (unfold insY; rw [hk]; exact insF_cat hd))
              · have hk : ipos X Y n pX pY = j := (by refine ipos_eq (by omega) (by omega) I1.2 ?_; intro hh; first | assumption | (exfalso; omega)); first | (have hd : insD X Y n pX pY = true := (by unfold insD; rw [hk]; simp only [Bool.and_eq_true, decide_eq_true_eq]; omega); first | (unfold insN; rw [if_pos hd]; done) | (unfold insN; rw [if_pos hd]; omega) | (unfold insX; rw [insF_at hd]; done) | (unfold insY; rw [insF_at hd]; done)) | (have hd : insD X Y n pX pY = false := (by rw [← Bool.not_eq_true]; unfold insD; rw [hk]; simp only [Bool.and_eq_true, decide_eq_true_eq]; omega); first | (unfold insN; rw [hd]; simp; omega) | (unfold insX; rw [hk]; exact insF_cat hd) | (unfold insY; rw [hk]; exact insF_cat hd))
          · intro c20
            refine ⟨?_, ?_, ?_, ?_, ?_, ?_, ?_, ?_⟩
            · omega
            · refine ⟨?_, ?_⟩
              · omega
                -- 17: (oneF (.v fun _ => n) (fun e => [(.int .i64 (.v fun _ => (X (e.den))) (-2002) 2002), (.int .i64 (.v 
              · exact oneF_of (fun _ => rfl)
            · rfl
            · omega
            · refine ⟨?_, ?_, ?_⟩
              · rfl
              · omega
                -- 22: (oneF (.v fun _ => n) (fun e => [(.int .i64 (.v fun _ => (X (e.den))) (-2002) 2002), (.int .i64 (.v 
              · exact oneF_of (fun _ => rfl)
            · have hk : ipos X Y n pX pY = j := (by refine ipos_eq (by omega) (by omega) I1.2 ?_; intro hh; first | assumption | (exfalso; omega)); first | (have hd : insD X Y n pX pY = true := (by unfold insD; rw [hk]; simp only [Bool.and_eq_true, decide_eq_true_eq]; omega); first | (unfold insN; rw [if_pos hd]; done) | (unfold insN; rw [if_pos hd]; omega) | (unfold insX; rw [insF_at hd]; done) | (unfold insY; rw [insF_at hd]; done)) | (have hd : insD X Y n pX pY = false := (by rw [← Bool.not_eq_true]; unfold insD; rw [hk]; simp only [Bool.and_eq_true, decide_eq_true_eq]; omega); first | (unfold insN; rw [hd]; simp; omega) | (unfold insX; rw [hk]; exact insF_cat hd) | (unfold insY; rw [hk]; exact insF_cat hd))
            · have hk : ipos X Y n pX pY = j := (by refine ipos_eq (by omega) (by omega) I1.2 ?_; intro hh; first | assumption | (exfalso; omega)); first | (have hd : insD X Y n pX pY = true := (by unfold insD; rw [hk]; simp only [Bool.and_eq_true, decide_eq_true_eq]; omega); first | (unfold insN; rw [if_pos hd]; done) | (unfold insN; rw [if_pos hd]; omega) | (unfold insX; rw [insF_at hd]; done) | (unfold insY; rw [insF_at hd]; done)) | (have hd : insD X Y n pX pY = false := (by rw [← Bool.not_eq_true]; unfold insD; rw [hk]; simp only [Bool.and_eq_true, decide_eq_true_eq]; omega); first | (unfold insN; rw [hd]; simp; omega) | (unfold insX; rw [hk]; exact insF_cat hd) | (unfold insY; rw [hk]; exact insF_cat hd))
            · intro e7
              intro c21
              refine ⟨?_, ?_⟩
              · have hk : ipos X Y n pX pY = j := (by refine ipos_eq (by omega) (by omega) I1.2 ?_; intro hh; first | assumption | (exfalso; omega)); first | (have hd : insD X Y n pX pY = true := (by unfold insD; rw [hk]; simp only [Bool.and_eq_true, decide_eq_true_eq]; omega); first | (unfold insN; rw [if_pos hd]; done) | (unfold insN; rw [if_pos hd]; omega) | (unfold insX; rw [insF_at hd]; done) | (unfold insY; rw [insF_at hd]; done)) | (have hd : insD X Y n pX pY = false := (by rw [← Bool.not_eq_true]; unfold insD; rw [hk]; simp only [Bool.and_eq_true, decide_eq_true_eq]; omega); first | (unfold insN; rw [hd]; simp; omega) | (unfold insX; rw [hk]; exact insF_cat hd) | (unfold insY; rw [hk]; exact insF_cat hd))
              · have hk : ipos X Y n pX pY = j := (by refine ipos_eq (by omega) (by omega) I1.2 ?_; intro hh; first | assumption | (exfalso; omega)); first | (have hd : insD X Y n pX pY = true := (by unfold insD; rw [hk]; simp only [Bool.and_eq_true, decide_eq_true_eq]; omega); first | (unfold insN; rw [if_pos hd]; done) | (unfold insN; rw [if_pos hd]; omega) | (unfold insX; rw [insF_at hd]; done) | (unfold insY; rw [insF_at hd]; done)) | (have hd : insD X Y n pX pY = false := (by rw [← Bool.not_eq_true]; unfold insD; rw [hk]; simp only [Bool.and_eq_true, decide_eq_true_eq]; omega); first | (unfold insN; rw [hd]; simp; omega) | (unfold insX; rw [hk]; exact insF_cat hd) | (unfold insY; rw [hk]; exact insF_cat hd))
        · intro c22
          refine ⟨?_, ?_, ?_, ?_, ?_, ?_, ?_, ?_⟩
          · omega
          · refine ⟨?_, ?_⟩
            · omega
              -- 29: (oneF (.v fun _ => n) (fun e => [(.int .i64 (.v fun _ => (X (e.den))) (-2002) 2002), (.int .i64 (.v 
            · exact oneF_of (fun _ => rfl)
          · rfl
          · omega
          · refine ⟨?_, ?_, ?_⟩
            · rfl
            · omega
              -- 34: (oneF (.v fun _ => n) (fun e => [(.int .i64 (.v fun _ => (X (e.den))) (-2002) 2002), (.int .i64 (.v 
            · exact oneF_of (fun _ => rfl)
          · omega
          · omega
          · intro e8
            intro c23
            refine ⟨?_, ?_⟩
            · omega
            · omega
    · intro c24
      refine ⟨?_, ?_⟩
      · intro c25
        refine ⟨?_, ?_, ?_, ?_⟩
        · omega
        · omega
        · intro c26
          refine ⟨?_, ?_, ?_⟩
          · omega
          · omega
          · intro e9
            intro c27
            refine ⟨?_, ?_⟩
            · omega
            · omega
        · intro c28
          refine ⟨?_, ?_, ?_, ?_, ?_, ?_, ?_, ?_⟩
          · omega
          · refine ⟨?_, ?_⟩
            · omega
              -- 47: (oneF (.v fun _ => n) (fun e => [(.int .i64 (.v fun _ => (X (e.den))) (-2002) 2002), (.int .i64 (.v 
            · exact oneF_of (fun _ => rfl)
          · rfl
          · omega
          · refine ⟨?_, ?_, ?_⟩
            · rfl
            · omega
              -- 52: (oneF (.v fun _ => n) (fun e => [(.int .i64 (.v fun _ => (X (e.den))) (-2002) 2002), (.int .i64 (.v 
            · exact oneF_of (fun _ => rfl)
          · omega
          · omega
          · intro e10
            intro c29
            refine ⟨?_, ?_⟩
            · omega
            · omega
      · intro c30
        refine ⟨?_, ?_, ?_, ?_, ?_, ?_, ?_, ?_⟩
        · omega
        · refine ⟨?_, ?_⟩
          · omega
            -- 59: (oneF (.v fun _ => n) (fun e => [(.int .i64 (.v fun _ => (X (e.den))) (-2002) 2002), (.int .i64 (.v 
          · exact oneF_of (fun _ => rfl)
        · rfl
        · omega
        · refine ⟨?_, ?_, ?_⟩
          · rfl
          · omega
            -- 64: (oneF (.v fun _ => n) (fun e => [(.int .i64 (.v fun _ => (X (e.den))) (-2002) 2002), (.int .i64 (.v 
          · exact oneF_of (fun _ => rfl)
        · have hk : ipos X Y n pX pY = j := (by refine ipos_eq (by omega) (by omega) I1.2 ?_; intro hh; first | assumption | (exfalso; omega)); first | (have hd : insD X Y n pX pY = true := (by unfold insD; rw [hk]; simp only [Bool.and_eq_true, decide_eq_true_eq]; omega); first | (unfold insN; rw [if_pos hd]; done) | (unfold insN; rw [if_pos hd]; omega) | (unfold insX; rw [insF_at hd]; done) | (unfold insY; rw [insF_at hd]; done)) | (have hd : insD X Y n pX pY = false := (by rw [← Bool.not_eq_true]; unfold insD; rw [hk]; simp only [Bool.and_eq_true, decide_eq_true_eq]; omega); first | (unfold insN; rw [hd]; simp; omega) | (unfold insX; rw [hk]; exact insF_cat hd) | (unfold insY; rw [hk]; exact insF_cat hd))
        · have hk : ipos X Y n pX pY = j := (by refine ipos_eq (by omega) (by omega) I1.2 ?_; intro hh; first | assumption | (exfalso; omega)); first | (have hd : insD X Y n pX pY = true := (by unfold insD; rw [hk]; simp only [Bool.and_eq_true, decide_eq_true_eq]; omega); first | (unfold insN; rw [if_pos hd]; done) | (unfold insN; rw [if_pos hd]; omega) | (unfold insX; rw [insF_at hd]; done) | (unfold insY; rw [insF_at hd]; done)) | (have hd : insD X Y n pX pY = false := (by rw [← Bool.not_eq_true]; unfold insD; rw [hk]; simp only [Bool.and_eq_true, decide_eq_true_eq]; omega); first | (unfold insN; rw [hd]; simp; omega) | (unfold insX; rw [hk]; exact insF_cat hd) | (unfold insY; rw [hk]; exact insF_cat hd))
        · intro e11
          intro c31
          refine ⟨?_, ?_⟩
          · have hk : ipos X Y n pX pY = j := (by refine ipos_eq (by omega) (by omega) I1.2 ?_; intro hh; first | assumption | (exfalso; omega)); first | (have hd : insD X Y n pX pY = true := (by unfold insD; rw [hk]; simp only [Bool.and_eq_true, decide_eq_true_eq]; omega); first | (unfold insN; rw [if_pos hd]; done) | (unfold insN; rw [if_pos hd]; omega) | (unfold insX; rw [insF_at hd]; done) | (unfold insY; rw [insF_at hd]; done)) | (have hd : insD X Y n pX pY = false := (by rw [← Bool.not_eq_true]; unfold insD; rw [hk]; simp only [Bool.and_eq_true, decide_eq_true_eq]; omega); first | (unfold insN; rw [hd]; simp; omega) | (unfold insX; rw [hk]; exact insF_cat hd) | (unfold insY; rw [hk]; exact insF_cat hd))
          · have hk : ipos X Y n pX pY = j := (by refine ipos_eq (by omega) (by omega) I1.2 ?_; intro hh; first | assumption | (exfalso; omega)); first | (have hd : insD X Y n pX pY = true := (by unfold insD; rw [hk]; simp only [Bool.and_eq_true, decide_eq_true_eq]; omega); first | (unfold insN; rw [if_pos hd]; done) | (unfold insN; rw [if_pos hd]; omega) | (unfold insX; rw [insF_at hd]; done) | (unfold insY; rw [insF_at hd]; done)) | (have hd : insD X Y n pX pY = false := (by rw [← Bool.not_eq_true]; unfold insD; rw [hk]; simp only [Bool.and_eq_true, decide_eq_true_eq]; omega); first | (unfold insN; rw [hd]; simp; omega) | (unfold insX; rw [hk]; exact insF_cat hd) | (unfold insY; rw [hk]; exact insF_cat hd))
def c_s_addPoint (X : Int → Int) (Y : Int → Int) (n : Int) (pX : Int) (pY : Int) : Cn Try.prog := ⟨_, _, _, _, _, s_addPoint X Y n pX pY⟩
/-- The four ends. -/
def p4X (sAX sBX tAX tBX : Int) (j : Int) : Int := selL [sAX, sBX, tAX, tBX] j
def ccB (sAX sAY sBX sBY tAX tAY tBX tBY j : Int) : Bool := onB sAX sAY sBX sBY (p4X sAX sBX tAX tBX j) (p4X sAY sBY tAY tBY j) && onB tAX tAY tBX tBY (p4X sAX sBX tAX tBX j) (p4X sAY sBY tAY tBY j)
def ceS (sAX sAY sBX sBY tAX tAY tBX tBY j : Int) : PLs := ceL (p4X sAX sBX tAX tBX) (p4X sAY sBY tAY tBY) (ccB sAX sAY sBX sBY tAX tAY tBX tBY) j.toNat
def ceN (sAX sAY sBX sBY tAX tAY tBX tBY j : Int) : Int := (ceS sAX sAY sBX sBY tAX tAY tBX tBY j).n
def ceX (sAX sAY sBX sBY tAX tAY tBX tBY j i : Int) : Int := (ceS sAX sAY sBX sBY tAX tAY tBX tBY j).x i
def ceY (sAX sAY sBX sBY tAX tAY tBX tBY j i : Int) : Int := (ceS sAX sAY sBX sBY tAX tAY tBX tBY j).y i
theorem ceN_bd (sAX sAY sBX sBY tAX tAY tBX tBY : Int) {j : Int} (h : 0 ≤ j) : 0 ≤ ceN sAX sAY sBX sBY tAX tAY tBX tBY j ∧ ceN sAX sAY sBX sBY tAX tAY tBX tBY j ≤ j := by
  have := ceL_n (p4X sAX sBX tAX tBX) (p4X sAY sBY tAY tBY) (ccB sAX sAY sBX sBY tAX tAY tBX tBY) j.toNat
  unfold ceN ceS; omega
theorem ce_yes {sAX sAY sBX sBY tAX tAY tBX tBY j : Int} (h : 0 ≤ j) (hc : ccB sAX sAY sBX sBY tAX tAY tBX tBY j = true) :
    ceN sAX sAY sBX sBY tAX tAY tBX tBY (j + 1) = insN (ceX sAX sAY sBX sBY tAX tAY tBX tBY j) (ceY sAX sAY sBX sBY tAX tAY tBX tBY j) (ceN sAX sAY sBX sBY tAX tAY tBX tBY j) (p4X sAX sBX tAX tBX j) (p4X sAY sBY tAY tBY j) ∧
    (∀ i, ceX sAX sAY sBX sBY tAX tAY tBX tBY (j + 1) i = insX (ceX sAX sAY sBX sBY tAX tAY tBX tBY j) (ceY sAX sAY sBX sBY tAX tAY tBX tBY j) (ceN sAX sAY sBX sBY tAX tAY tBX tBY j) (p4X sAX sBX tAX tBX j) (p4X sAY sBY tAY tBY j) i) ∧
    (∀ i, ceY sAX sAY sBX sBY tAX tAY tBX tBY (j + 1) i = insY (ceX sAX sAY sBX sBY tAX tAY tBX tBY j) (ceY sAX sAY sBX sBY tAX tAY tBX tBY j) (ceN sAX sAY sBX sBY tAX tAY tBX tBY j) (p4X sAX sBX tAX tBX j) (p4X sAY sBY tAY tBY j) i) := by
  obtain ⟨k, rfl⟩ := Int.eq_ofNat_of_zero_le h
  have e : ceS sAX sAY sBX sBY tAX tAY tBX tBY ((k : Int) + 1) = ⟨insN (ceX sAX sAY sBX sBY tAX tAY tBX tBY k) (ceY sAX sAY sBX sBY tAX tAY tBX tBY k) (ceN sAX sAY sBX sBY tAX tAY tBX tBY k) (p4X sAX sBX tAX tBX k) (p4X sAY sBY tAY tBY k), insX (ceX sAX sAY sBX sBY tAX tAY tBX tBY k) (ceY sAX sAY sBX sBY tAX tAY tBX tBY k) (ceN sAX sAY sBX sBY tAX tAY tBX tBY k) (p4X sAX sBX tAX tBX k) (p4X sAY sBY tAY tBY k), insY (ceX sAX sAY sBX sBY tAX tAY tBX tBY k) (ceY sAX sAY sBX sBY tAX tAY tBX tBY k) (ceN sAX sAY sBX sBY tAX tAY tBX tBY k) (p4X sAX sBX tAX tBX k) (p4X sAY sBY tAY tBY k)⟩ := by
    unfold ceS
    rw [show ((k : Int) + 1).toNat = k + 1 by omega, ceL, if_pos hc]
    rfl
  refine ⟨?_, fun i => ?_, fun i => ?_⟩
  · unfold ceN; rw [e]; rfl
  · show (ceS sAX sAY sBX sBY tAX tAY tBX tBY ((k : Int) + 1)).x i = _; rw [e]
  · show (ceS sAX sAY sBX sBY tAX tAY tBX tBY ((k : Int) + 1)).y i = _; rw [e]
theorem ce_no {sAX sAY sBX sBY tAX tAY tBX tBY j : Int} (h : 0 ≤ j) (hc : ccB sAX sAY sBX sBY tAX tAY tBX tBY j = false) : ceS sAX sAY sBX sBY tAX tAY tBX tBY (j + 1) = ceS sAX sAY sBX sBY tAX tAY tBX tBY j := by
  obtain ⟨k, rfl⟩ := Int.eq_ofNat_of_zero_le h
  unfold ceS
  rw [show ((k : Int) + 1).toNat = k + 1 by omega, ceL, if_neg (by show ¬ ccB sAX sAY sBX sBY tAX tAY tBX tBY k = true; rw [hc]; decide)]
  rfl
def isE (ax ay bx bY px py : Int) : Bool := (decide (px = ax) && decide (py = ay)) || (decide (px = bx) && decide (py = bY))
def cmQ (sAX sAY sBX sBY tAX tAY tBX tBY j : Int) : Bool := if j < 2 then onB tAX tAY tBX tBY (p4X sAX sBX tAX tBX j) (p4X sAY sBY tAY tBY j) else onB sAX sAY sBX sBY (p4X sAX sBX tAX tBX j) (p4X sAY sBY tAY tBY j) && !(isE tAX tAY tBX tBY (p4X sAX sBX tAX tBX j) (p4X sAY sBY tAY tBY j) && isE sAX sAY sBX sBY (p4X sAX sBX tAX tBX j) (p4X sAY sBY tAY tBY j))
theorem s_commonEnds (sAX : Int) (sAY : Int) (sBX : Int) (sBY : Int) (tAX : Int) (tAY : Int) (tBX : Int) (tBY : Int) : RunsTo Try.prog 93 [(.agg [(.int .i64 (.v fun _ => sAX) (-2002) 2002), (.int .i64 (.v fun _ => sAY) (-2002) 2002), (.int .i64 (.v fun _ => sBX) (-2002) 2002), (.int .i64 (.v fun _ => sBY) (-2002) 2002)]), (.agg [(.int .i64 (.v fun _ => tAX) (-2002) 2002), (.int .i64 (.v fun _ => tAY) (-2002) 2002), (.int .i64 (.v fun _ => tBX) (-2002) 2002), (.int .i64 (.v fun _ => tBY) (-2002) 2002)])] [] (.sl 0 2 (.lit 0) (.v fun _ => ceN sAX sAY sBX sBY tAX tAY tBX tBY 4) 64) [some ⟨32, 2, true, (.sym (.v fun _ => ceN sAX sAY sBX sBY tAX tAY tBX tBY 4) fun e => [(.int .i64 (.v fun _ => ceX sAX sAY sBX sBY tAX tAY tBX tBY 4 e.den) (-2002) 2002), (.int .i64 (.v fun _ => ceY sAX sAY sBX sBY tAX tAY tBX tBY 4 e.den) (-2002) 2002)])⟩] := by
  refine RunsTo.go env Try.func93 rfl Try.call93 rfl rfl (fun _ _ => (.loop [] [0, 1, 3, 2] (Int) (fun x1 => ⟨spl 45 0 [(2, (.ptr 0 4 (.lit 0) 0)), (3, (.ptr 1 4 (.lit 0) 0)), (4, (.raw (.slice none 0 0))), (5, (.sl 3 2 (.lit 0) (.v fun _ => ceN sAX sAY sBX sBY tAX tAY tBX tBY x1) 64)), (6, (.sl 2 2 (.lit 0) (.lit 4) 4)), (7, (.int .i64 (.v fun _ => x1) 0 4))], [some ⟨45, 4, true, (.lit [[(.int .i64 (.v fun _ => sAX) (-2002) 2002), (.int .i64 (.v fun _ => sAY) (-2002) 2002), (.int .i64 (.v fun _ => sBX) (-2002) 2002), (.int .i64 (.v fun _ => sBY) (-2002) 2002)]])⟩, some ⟨45, 4, true, (.lit [[(.int .i64 (.v fun _ => tAX) (-2002) 2002), (.int .i64 (.v fun _ => tAY) (-2002) 2002), (.int .i64 (.v fun _ => tBX) (-2002) 2002), (.int .i64 (.v fun _ => tBY) (-2002) 2002)]])⟩, some ⟨32, 2, true, (.sym (.lit 4) fun e => [(.int .i64 (.v fun _ => p4X sAX sBX tAX tBX (e.den)) (-2002) 2002), (.int .i64 (.v fun _ => p4X sAY sBY tAY tBY (e.den)) (-2002) 2002)])⟩, some ⟨32, 2, true, (.sym (.v fun _ => ceN sAX sAY sBX sBY tAX tAY tBX tBY x1) fun e => [(.int .i64 (.v fun _ => ceX sAX sAY sBX sBY tAX tAY tBX tBY x1 (e.den)) (-2002) 2002), (.int .i64 (.v fun _ => ceY sAX sAY sBX sBY tAX tAY tBX tBY x1 (e.den)) (-2002) 2002)])⟩], 0⟩) (fun x1 => 0 ≤ x1 ∧ x1 ≤ 4) (fun x1 => (4 - x1).toNat) fun x1 => (.ite (.need (.need (.call (c_s_onSegment sAX sAY sBX sBY (p4X sAX sBX tAX tBX (x1)) (p4X sAY sBY tAY tBY (x1))) (.ite (.need (.need (.call (c_s_onSegment tAX tAY tBX tBY (p4X sAX sBX tAX tBX (x1)) (p4X sAY sBY tAY tBY (x1))) (.ite (.need (.need (.call (c_s_addPoint (ceX sAX sAY sBX sBY tAX tAY tBX tBY x1) (ceY sAX sAY sBX sBY tAX tAY tBX tBY x1) (ceN sAX sAY sBX sBY tAX tAY tBX tBY x1) (p4X sAX sBX tAX tBX (x1)) (p4X sAY sBY tAY tBY (x1))) (.next [0, 1, 2, 4])))) (.next [0, 1, 2, 3]))))) (.next [0, 1, 2, 3]))))) (.out .ret)))) (G := ((((-2002) ≤ sAX ∧ sAX ≤ 2002) ∧ (((-2002) ≤ sAY ∧ sAY ≤ 2002) ∧ (((-2002) ≤ sBX ∧ sBX ≤ 2002) ∧ ((-2002) ≤ sBY ∧ sBY ≤ 2002)))) ∧ (((-2002) ≤ tAX ∧ tAX ≤ 2002) ∧ (((-2002) ≤ tAY ∧ tAY ≤ 2002) ∧ (((-2002) ≤ tBX ∧ tBX ≤ 2002) ∧ ((-2002) ≤ tBY ∧ tBY ≤ 2002))))) → (True) → ((∃ y2 : Int, ((0 ≤ y2 ∧ y2 ≤ 4) ∧ (((((.slice none 0 0) : Value) = (.slice none 0 0)) ∧ (((0 : Int) = (ceN sAX sAY sBX sBY tAX tAY tBX tBY y2)) ∧ ((0 : Int) = y2))) ∧ (((sAX = sAX) ∧ ((sAY = sAY) ∧ ((sBX = sBX) ∧ (sBY = sBY)))) ∧ (((tAX = tAX) ∧ ((tAY = tAY) ∧ ((tBX = tBX) ∧ (tBY = tBY)))) ∧ (((∀ e6 : E, ((e6.den = 0) → ((sAX = (p4X sAX sBX tAX tBX (e6.den))) ∧ (sAY = (p4X sAY sBY tAY tBY (e6.den)))))) ∧ ((∀ e5 : E, ((e5.den = 1) → ((sBX = (p4X sAX sBX tAX tBX (e5.den))) ∧ (sBY = (p4X sAY sBY tAY tBY (e5.den)))))) ∧ ((∀ e4 : E, ((e4.den = 2) → ((tAX = (p4X sAX sBX tAX tBX (e4.den))) ∧ (tAY = (p4X sAY sBY tAY tBY (e4.den)))))) ∧ (∀ e3 : E, ((e3.den = 3) → ((tBX = (p4X sAX sBX tAX tBX (e3.den))) ∧ (tBY = (p4X sAY sBY tAY tBY (e3.den))))))))) ∧ ((ceN sAX sAY sBX sBY tAX tAY tBX tBY y2) = 0))))))) ∧ (∀ x1 : Int, ((0 ≤ x1 ∧ x1 ≤ 4) → (((x1 < 4) → ((((0 ≤ x1) ∧ (x1 < 4))) ∧ ((x1 < 4) ∧ ((((sAX = sAX) ∧ ((sAY = sAY) ∧ ((sBX = sBX) ∧ (sBY = sBY)))) ∧ (((p4X sAX sBX tAX tBX (x1)) = (p4X sAX sBX tAX tBX (x1))) ∧ ((p4X sAY sBY tAY tBY (x1)) = (p4X sAY sBY tAY tBY (x1))))) ∧ ((((onB sAX sAY sBX sBY (p4X sAX sBX tAX tBX (x1)) (p4X sAY sBY tAY tBY (x1))) = true) → ((((0 ≤ x1) ∧ (x1 < 4))) ∧ ((x1 < 4) ∧ ((((tAX = tAX) ∧ ((tAY = tAY) ∧ ((tBX = tBX) ∧ (tBY = tBY)))) ∧ (((p4X sAX sBX tAX tBX (x1)) = (p4X sAX sBX tAX tBX (x1))) ∧ ((p4X sAY sBY tAY tBY (x1)) = (p4X sAY sBY tAY tBY (x1))))) ∧ ((((onB tAX tAY tBX tBY (p4X sAX sBX tAX tBX (x1)) (p4X sAY sBY tAY tBY (x1))) = true) → ((((0 ≤ x1) ∧ (x1 < 4))) ∧ ((x1 < 4) ∧ ((((ceN sAX sAY sBX sBY tAX tAY tBX tBY x1) = (ceN sAX sAY sBX sBY tAX tAY tBX tBY x1)) ∧ (((p4X sAX sBX tAX tBX (x1)) = (p4X sAX sBX tAX tBX (x1))) ∧ ((p4X sAY sBY tAY tBY (x1)) = (p4X sAY sBY tAY tBY (x1))))) ∧ ((((ceN sAX sAY sBX sBY tAX tAY tBX tBY x1) ≤ (ceN sAX sAY sBX sBY tAX tAY tBX tBY x1)) ∧ (∀ e7 : E, ((0 ≤ e7.den ∧ e7.den < (ceN sAX sAY sBX sBY tAX tAY tBX tBY x1)) → (((ceX sAX sAY sBX sBY tAX tAY tBX tBY x1 (e7.den)) = (ceX sAX sAY sBX sBY tAX tAY tBX tBY x1 ((e7.den)))) ∧ ((ceY sAX sAY sBX sBY tAX tAY tBX tBY x1 (e7.den)) = (ceY sAX sAY sBX sBY tAX tAY tBX tBY x1 ((e7.den)))))))) ∧ (∃ y8 : Int, ((0 ≤ y8 ∧ y8 ≤ 4) ∧ ((((((.slice none 0 0) : Value) = (.slice none 0 0)) ∧ ((((insN (ceX sAX sAY sBX sBY tAX tAY tBX tBY x1) (ceY sAX sAY sBX sBY tAX tAY tBX tBY x1) (ceN sAX sAY sBX sBY tAX tAY tBX tBY x1) (p4X sAX sBX tAX tBX (x1)) (p4X sAY sBY tAY tBY (x1))) = (ceN sAX sAY sBX sBY tAX tAY tBX tBY y8)) ∧ (((insN (ceX sAX sAY sBX sBY tAX tAY tBX tBY x1) (ceY sAX sAY sBX sBY tAX tAY tBX tBY x1) (ceN sAX sAY sBX sBY tAX tAY tBX tBY x1) (p4X sAX sBX tAX tBX (x1)) (p4X sAY sBY tAY tBY (x1))) ≤ 200) → ((ceN sAX sAY sBX sBY tAX tAY tBX tBY y8) ≤ 64))) ∧ (((x1 + 1) = y8) ∧ ((1 ≤ (x1 + 1) ∧ (x1 + 1) ≤ 5) → (0 ≤ y8 ∧ y8 ≤ 4))))) ∧ (((sAX = sAX) ∧ ((sAY = sAY) ∧ ((sBX = sBX) ∧ (sBY = sBY)))) ∧ (((tAX = tAX) ∧ ((tAY = tAY) ∧ ((tBX = tBX) ∧ (tBY = tBY)))) ∧ ((((4 : Int) ≤ 4) ∧ (∀ e10 : E, ((0 ≤ e10.den ∧ e10.den < 4) → (((p4X sAX sBX tAX tBX (e10.den)) = (p4X sAX sBX tAX tBX (e10.den))) ∧ ((p4X sAY sBY tAY tBY (e10.den)) = (p4X sAY sBY tAY tBY (e10.den))))))) ∧ (((ceN sAX sAY sBX sBY tAX tAY tBX tBY y8) ≤ (insN (ceX sAX sAY sBX sBY tAX tAY tBX tBY x1) (ceY sAX sAY sBX sBY tAX tAY tBX tBY x1) (ceN sAX sAY sBX sBY tAX tAY tBX tBY x1) (p4X sAX sBX tAX tBX (x1)) (p4X sAY sBY tAY tBY (x1)))) ∧ (∀ e9 : E, ((0 ≤ e9.den ∧ e9.den < (ceN sAX sAY sBX sBY tAX tAY tBX tBY y8)) → (((insX (ceX sAX sAY sBX sBY tAX tAY tBX tBY x1) (ceY sAX sAY sBX sBY tAX tAY tBX tBY x1) (ceN sAX sAY sBX sBY tAX tAY tBX tBY x1) (p4X sAX sBX tAX tBX (x1)) (p4X sAY sBY tAY tBY (x1)) (e9.den)) = (ceX sAX sAY sBX sBY tAX tAY tBX tBY y8 (e9.den))) ∧ ((insY (ceX sAX sAY sBX sBY tAX tAY tBX tBY x1) (ceY sAX sAY sBX sBY tAX tAY tBX tBY x1) (ceN sAX sAY sBX sBY tAX tAY tBX tBY x1) (p4X sAX sBX tAX tBX (x1)) (p4X sAY sBY tAY tBY (x1)) (e9.den)) = (ceY sAX sAY sBX sBY tAX tAY tBX tBY y8 (e9.den))))))))))) ∧ ((4 - y8).toNat < (4 - x1).toNat))))))))) ∧ (((onB tAX tAY tBX tBY (p4X sAX sBX tAX tBX (x1)) (p4X sAY sBY tAY tBY (x1))) = false) → (∃ y11 : Int, ((0 ≤ y11 ∧ y11 ≤ 4) ∧ ((((((.slice none 0 0) : Value) = (.slice none 0 0)) ∧ (((ceN sAX sAY sBX sBY tAX tAY tBX tBY x1) = (ceN sAX sAY sBX sBY tAX tAY tBX tBY y11)) ∧ (((x1 + 1) = y11) ∧ ((1 ≤ (x1 + 1) ∧ (x1 + 1) ≤ 5) → (0 ≤ y11 ∧ y11 ≤ 4))))) ∧ (((sAX = sAX) ∧ ((sAY = sAY) ∧ ((sBX = sBX) ∧ (sBY = sBY)))) ∧ (((tAX = tAX) ∧ ((tAY = tAY) ∧ ((tBX = tBX) ∧ (tBY = tBY)))) ∧ ((((4 : Int) ≤ 4) ∧ (∀ e13 : E, ((0 ≤ e13.den ∧ e13.den < 4) → (((p4X sAX sBX tAX tBX (e13.den)) = (p4X sAX sBX tAX tBX (e13.den))) ∧ ((p4X sAY sBY tAY tBY (e13.den)) = (p4X sAY sBY tAY tBY (e13.den))))))) ∧ (((ceN sAX sAY sBX sBY tAX tAY tBX tBY y11) ≤ (ceN sAX sAY sBX sBY tAX tAY tBX tBY x1)) ∧ (∀ e12 : E, ((0 ≤ e12.den ∧ e12.den < (ceN sAX sAY sBX sBY tAX tAY tBX tBY y11)) → (((ceX sAX sAY sBX sBY tAX tAY tBX tBY x1 (e12.den)) = (ceX sAX sAY sBX sBY tAX tAY tBX tBY y11 (e12.den))) ∧ ((ceY sAX sAY sBX sBY tAX tAY tBX tBY x1 (e12.den)) = (ceY sAX sAY sBX sBY tAX tAY tBX tBY y11 (e12.den))))))))))) ∧ ((4 - y11).toNat < (4 - x1).toNat)))))))))) ∧ (((onB sAX sAY sBX sBY (p4X sAX sBX tAX tBX (x1)) (p4X sAY sBY tAY tBY (x1))) = false) → (∃ y14 : Int, ((0 ≤ y14 ∧ y14 ≤ 4) ∧ ((((((.slice none 0 0) : Value) = (.slice none 0 0)) ∧ (((ceN sAX sAY sBX sBY tAX tAY tBX tBY x1) = (ceN sAX sAY sBX sBY tAX tAY tBX tBY y14)) ∧ (((x1 + 1) = y14) ∧ ((1 ≤ (x1 + 1) ∧ (x1 + 1) ≤ 5) → (0 ≤ y14 ∧ y14 ≤ 4))))) ∧ (((sAX = sAX) ∧ ((sAY = sAY) ∧ ((sBX = sBX) ∧ (sBY = sBY)))) ∧ (((tAX = tAX) ∧ ((tAY = tAY) ∧ ((tBX = tBX) ∧ (tBY = tBY)))) ∧ ((((4 : Int) ≤ 4) ∧ (∀ e16 : E, ((0 ≤ e16.den ∧ e16.den < 4) → (((p4X sAX sBX tAX tBX (e16.den)) = (p4X sAX sBX tAX tBX (e16.den))) ∧ ((p4X sAY sBY tAY tBY (e16.den)) = (p4X sAY sBY tAY tBY (e16.den))))))) ∧ (((ceN sAX sAY sBX sBY tAX tAY tBX tBY y14) ≤ (ceN sAX sAY sBX sBY tAX tAY tBX tBY x1)) ∧ (∀ e15 : E, ((0 ≤ e15.den ∧ e15.den < (ceN sAX sAY sBX sBY tAX tAY tBX tBY y14)) → (((ceX sAX sAY sBX sBY tAX tAY tBX tBY x1 (e15.den)) = (ceX sAX sAY sBX sBY tAX tAY tBX tBY y14 (e15.den))) ∧ ((ceY sAX sAY sBX sBY tAX tAY tBX tBY x1 (e15.den)) = (ceY sAX sAY sBX sBY tAX tAY tBX tBY y14 (e15.den))))))))))) ∧ ((4 - y14).toNat < (4 - x1).toNat)))))))))) ∧ ((4 ≤ x1) → (((ceN sAX sAY sBX sBY tAX tAY tBX tBY x1) = (ceN sAX sAY sBX sBY tAX tAY tBX tBY 4)) ∧ (((ceN sAX sAY sBX sBY tAX tAY tBX tBY 4) ≤ (ceN sAX sAY sBX sBY tAX tAY tBX tBY x1)) ∧ (∀ e17 : E, ((0 ≤ e17.den ∧ e17.den < (ceN sAX sAY sBX sBY tAX tAY tBX tBY 4)) → (((ceX sAX sAY sBX sBY tAX tAY tBX tBY x1 (e17.den)) = (ceX sAX sAY sBX sBY tAX tAY tBX tBY 4 e17.den)) ∧ ((ceY sAX sAY sBX sBY tAX tAY tBX tBY x1 (e17.den)) = (ceY sAX sAY sBX sBY tAX tAY tBX tBY 4 e17.den))))))))))))) (by kernel_rfl) ?_
  intro h1 h2
  refine ⟨?_, ?_⟩
  · refine ⟨0, ?_⟩
    try dsimp only
    refine ⟨?_, ?_, ⟨rfl, ⟨rfl, ⟨rfl, rfl⟩⟩⟩, ⟨rfl, ⟨rfl, ⟨rfl, rfl⟩⟩⟩, ?_, ?_⟩
    · omega
    · refine ⟨rfl, ?_, ?_⟩
      · rfl
      · rfl
    · refine ⟨?_, ?_, ?_, ?_⟩
      · intro e6
        intro c18
        refine ⟨?_, ?_⟩
        · simp_all [selL, p4X]; done
        · simp_all [selL, p4X]; done
      · intro e5
        intro c19
        refine ⟨?_, ?_⟩
        · simp_all [selL, p4X]; done
        · simp_all [selL, p4X]; done
      · intro e4
        intro c20
        refine ⟨?_, ?_⟩
        · simp_all [selL, p4X]; done
        · simp_all [selL, p4X]; done
      · intro e3
        intro c21
        refine ⟨?_, ?_⟩
        · simp_all [selL, p4X]; done
        · simp_all [selL, p4X]; done
    · rfl
  · intro j
    intro I1
    refine ⟨?_, ?_⟩
    · intro c22
      refine ⟨?_, ?_, ⟨⟨rfl, ⟨rfl, ⟨rfl, rfl⟩⟩⟩, ⟨rfl, rfl⟩⟩, ?_, ?_⟩
      · omega
      · omega
      · intro c23
        refine ⟨?_, ?_, ⟨⟨rfl, ⟨rfl, ⟨rfl, rfl⟩⟩⟩, ⟨rfl, rfl⟩⟩, ?_, ?_⟩
        · omega
        · omega
        · intro c24
          refine ⟨?_, ?_, ⟨rfl, ⟨rfl, rfl⟩⟩, ⟨Int.le_refl _, fun _ => fun _ => ⟨rfl, rfl⟩⟩, ?_⟩
          · omega
          · omega
          · refine ⟨j + 1, ?_⟩
            try dsimp only
            refine ⟨?_, ?_, ?_⟩
            · omega
            · refine ⟨?_, ⟨rfl, ⟨rfl, ⟨rfl, rfl⟩⟩⟩, ⟨rfl, ⟨rfl, ⟨rfl, rfl⟩⟩⟩, ⟨Int.le_refl _, fun _ => fun _ => ⟨rfl, rfl⟩⟩, ?_, ?_⟩
              · refine ⟨rfl, ?_, ?_, ?_⟩
                · refine ⟨?_, ?_⟩
                  · have hc : ccB sAX sAY sBX sBY tAX tAY tBX tBY j = true := (by unfold ccB; rw [Bool.and_eq_true]; constructor <;> assumption); have hy := ce_yes (by omega) hc; first | exact hy.1.symm | exact Int.le_of_eq hy.1 | exact Int.le_of_eq hy.1.symm | exact (hy.2.1 _).symm | exact (hy.2.2 _).symm
                  · intro c25
                    have hcb := ceN_bd sAX sAY sBX sBY tAX tAY tBX tBY (j := j + 1) (by omega); omega
                · rfl
                · intro c26
                  omega
              · have hc : ccB sAX sAY sBX sBY tAX tAY tBX tBY j = true := (by unfold ccB; rw [Bool.and_eq_true]; constructor <;> assumption); have hy := ce_yes (by omega) hc; first | exact hy.1.symm | exact Int.le_of_eq hy.1 | exact Int.le_of_eq hy.1.symm | exact (hy.2.1 _).symm | exact (hy.2.2 _).symm
              · intro e9
                intro c27
                refine ⟨?_, ?_⟩
                · have hc : ccB sAX sAY sBX sBY tAX tAY tBX tBY j = true := (by unfold ccB; rw [Bool.and_eq_true]; constructor <;> assumption); have hy := ce_yes (by omega) hc; first | exact hy.1.symm | exact Int.le_of_eq hy.1 | exact Int.le_of_eq hy.1.symm | exact (hy.2.1 _).symm | exact (hy.2.2 _).symm
                · have hc : ccB sAX sAY sBX sBY tAX tAY tBX tBY j = true := (by unfold ccB; rw [Bool.and_eq_true]; constructor <;> assumption); have hy := ce_yes (by omega) hc; first | exact hy.1.symm | exact Int.le_of_eq hy.1 | exact Int.le_of_eq hy.1.symm | exact (hy.2.1 _).symm | exact (hy.2.2 _).symm
            · omega
        · intro c28
          refine ⟨j + 1, ?_⟩
          try dsimp only
          refine ⟨?_, ?_, ?_⟩
          · omega
          · refine ⟨?_, ⟨rfl, ⟨rfl, ⟨rfl, rfl⟩⟩⟩, ⟨rfl, ⟨rfl, ⟨rfl, rfl⟩⟩⟩, ⟨Int.le_refl _, fun _ => fun _ => ⟨rfl, rfl⟩⟩, ?_, ?_⟩
            · refine ⟨rfl, ?_, ?_, ?_⟩
              · have hc : ccB sAX sAY sBX sBY tAX tAY tBX tBY j = false := (by unfold ccB; first | (simp_all; done) | fail); have hy := ce_no (by omega) hc; first | (unfold ceN; rw [hy]; done) | (unfold ceX; rw [hy]; done) | (unfold ceY; rw [hy]; done) | (unfold ceN; rw [hy]; exact Int.le_refl _)
              · rfl
              · intro c29
                omega
            · have hc : ccB sAX sAY sBX sBY tAX tAY tBX tBY j = false := (by unfold ccB; first | (simp_all; done) | fail); have hy := ce_no (by omega) hc; first | (unfold ceN; rw [hy]; done) | (unfold ceX; rw [hy]; done) | (unfold ceY; rw [hy]; done) | (unfold ceN; rw [hy]; exact Int.le_refl _)
            · intro e12
              intro c30
              refine ⟨?_, ?_⟩
              · have hc : ccB sAX sAY sBX sBY tAX tAY tBX tBY j = false := (by unfold ccB; first | (simp_all; done) | fail); have hy := ce_no (by omega) hc; first | (unfold ceN; rw [hy]; done) | (unfold ceX; rw [hy]; done) | (unfold ceY; rw [hy]; done) | (unfold ceN; rw [hy]; exact Int.le_refl _)
              · have hc : ccB sAX sAY sBX sBY tAX tAY tBX tBY j = false := (by unfold ccB; first | (simp_all; done) | fail); have hy := ce_no (by omega) hc; first | (unfold ceN; rw [hy]; done) | (unfold ceX; rw [hy]; done) | (unfold ceY; rw [hy]; done) | (unfold ceN; rw [hy]; exact Int.le_refl _)
          · omega
      · intro c31
        refine ⟨j + 1, ?_⟩
        try dsimp only
        refine ⟨?_, ?_, ?_⟩
        · omega
        · refine ⟨?_, ⟨rfl, ⟨rfl, ⟨rfl, rfl⟩⟩⟩, ⟨rfl, ⟨rfl, ⟨rfl, rfl⟩⟩⟩, ⟨Int.le_refl _, fun _ => fun _ => ⟨rfl, rfl⟩⟩, ?_, ?_⟩
          · refine ⟨rfl, ?_, ?_, ?_⟩
            · have hc : ccB sAX sAY sBX sBY tAX tAY tBX tBY j = false := (by unfold ccB; first | (simp_all; done) | fail); have hy := ce_no (by omega) hc; first | (unfold ceN; rw [hy]; done) | (unfold ceX; rw [hy]; done) | (unfold ceY; rw [hy]; done) | (unfold ceN; rw [hy]; exact Int.le_refl _)
            · rfl
            · intro c32
              omega
          · have hc : ccB sAX sAY sBX sBY tAX tAY tBX tBY j = false := (by unfold ccB; first | (simp_all; done) | fail); have hy := ce_no (by omega) hc; first | (unfold ceN; rw [hy]; done) | (unfold ceX; rw [hy]; done) | (unfold ceY; rw [hy]; done) | (unfold ceN; rw [hy]; exact Int.le_refl _)
          · intro e15
            intro c33
            refine ⟨?_, ?_⟩
            · have hc : ccB sAX sAY sBX sBY tAX tAY tBX tBY j = false := (by unfold ccB; first | (simp_all; done) | fail); have hy := ce_no (by omega) hc; first | (unfold ceN; rw [hy]; done) | (unfold ceX; rw [hy]; done) | (unfold ceY; rw [hy]; done) | (unfold ceN; rw [hy]; exact Int.le_refl _)
            · have hc : ccB sAX sAY sBX sBY tAX tAY tBX tBY j = false := (by unfold ccB; first | (simp_all; done) | fail); have hy := ce_no (by omega) hc; first | (unfold ceN; rw [hy]; done) | (unfold ceX; rw [hy]; done) | (unfold ceY; rw [hy]; done) | (unfold ceN; rw [hy]; exact Int.le_refl _)
        · omega
    · intro c34
      refine ⟨?_, ?_, ?_⟩
      · have e : j = 4 := (by omega); subst e; first | rfl | (have hcb := ceN_bd sAX sAY sBX sBY tAX tAY tBX tBY (j := 4) (by omega); omega)
      · have e : j = 4 := (by omega); subst e; first | rfl | (have hcb := ceN_bd sAX sAY sBX sBY tAX tAY tBX tBY (j := 4) (by omega); omega)
      · intro e17
        intro c35
        refine ⟨?_, ?_⟩
        · have e : j = 4 := (by omega); subst e; first | rfl | (have hcb := ceN_bd sAX sAY sBX sBY tAX tAY tBX tBY (j := 4) (by omega); omega)
        · have e : j = 4 := (by omega); subst e; first | rfl | (have hcb := ceN_bd sAX sAY sBX sBY tAX tAY tBX tBY (j := 4) (by omega); omega)
def c_s_commonEnds (sAX : Int) (sAY : Int) (sBX : Int) (sBY : Int) (tAX : Int) (tAY : Int) (tBX : Int) (tBY : Int) : Cn Try.prog := ⟨_, _, _, _, _, s_commonEnds sAX sAY sBX sBY tAX tAY tBX tBY⟩
theorem i_isEnd (sAX : Int) (sAY : Int) (sBX : Int) (sBY : Int) (pX : Int) (pY : Int) : RunsTo Try.prog 149 [(.agg [(.int .i64 (.v fun _ => sAX) (-2002) 2002), (.int .i64 (.v fun _ => sAY) (-2002) 2002), (.int .i64 (.v fun _ => sBX) (-2002) 2002), (.int .i64 (.v fun _ => sBY) (-2002) 2002)]), (.agg [(.int .i64 (.v fun _ => pX) (-2002) 2002), (.int .i64 (.v fun _ => pY) (-2002) 2002)])] [] (.bool (.v fun _ => isE sAX sAY sBX sBY pX pY)) [] := by
  refine RunsTo.go env Try.func149 rfl Try.call149 rfl rfl (fun _ _ => (.ite .ret .ret)) (G := ((((-2002) ≤ sAX ∧ sAX ≤ 2002) ∧ (((-2002) ≤ sAY ∧ sAY ≤ 2002) ∧ (((-2002) ≤ sBX ∧ sBX ≤ 2002) ∧ ((-2002) ≤ sBY ∧ sBY ≤ 2002)))) ∧ (((-2002) ≤ pX ∧ pX ≤ 2002) ∧ ((-2002) ≤ pY ∧ pY ≤ 2002))) → (True) → (((((pX = sAX) ∧ (pY = sAY))) → ((isE sAX sAY sBX sBY pX pY) = true)) ∧ ((((pX ≠ sAX) ∨ (pY ≠ sAY))) → ((((pX = sBX) ∧ (pY = sBY))) ↔ ((isE sAX sAY sBX sBY pX pY) = true))))) (by kernel_rfl) ?_
  intro h1 h2
  refine ⟨?_, ?_⟩
  · intro c1
    simp_all [isE]; done
  · intro c2
    simp_all [isE]; omega
def c_i_isEnd (sAX : Int) (sAY : Int) (sBX : Int) (sBY : Int) (pX : Int) (pY : Int) : Cn Try.prog := ⟨_, _, _, _, _, i_isEnd sAX sAY sBX sBY pX pY⟩
theorem i_atEnds (sAX : Int) (sAY : Int) (sBX : Int) (sBY : Int) (tAX : Int) (tAY : Int) (tBX : Int) (tBY : Int) (pX : Int) (pY : Int) : RunsTo Try.prog 106 [(.agg [(.int .i64 (.v fun _ => sAX) (-2002) 2002), (.int .i64 (.v fun _ => sAY) (-2002) 2002), (.int .i64 (.v fun _ => sBX) (-2002) 2002), (.int .i64 (.v fun _ => sBY) (-2002) 2002)]), (.agg [(.int .i64 (.v fun _ => tAX) (-2002) 2002), (.int .i64 (.v fun _ => tAY) (-2002) 2002), (.int .i64 (.v fun _ => tBX) (-2002) 2002), (.int .i64 (.v fun _ => tBY) (-2002) 2002)]), (.agg [(.int .i64 (.v fun _ => pX) (-2002) 2002), (.int .i64 (.v fun _ => pY) (-2002) 2002)])] [] (.bool (.v fun _ => isE sAX sAY sBX sBY pX pY && isE tAX tAY tBX tBY pX pY)) [] := by
  refine RunsTo.go env Try.func106 rfl Try.call106 rfl rfl (fun _ _ => (.call (c_i_isEnd sAX sAY sBX sBY pX pY) (.ite (.call (c_i_isEnd tAX tAY tBX tBY pX pY) .ret) .ret))) (G := ((((-2002) ≤ sAX ∧ sAX ≤ 2002) ∧ (((-2002) ≤ sAY ∧ sAY ≤ 2002) ∧ (((-2002) ≤ sBX ∧ sBX ≤ 2002) ∧ ((-2002) ≤ sBY ∧ sBY ≤ 2002)))) ∧ ((((-2002) ≤ tAX ∧ tAX ≤ 2002) ∧ (((-2002) ≤ tAY ∧ tAY ≤ 2002) ∧ (((-2002) ≤ tBX ∧ tBX ≤ 2002) ∧ ((-2002) ≤ tBY ∧ tBY ≤ 2002)))) ∧ (((-2002) ≤ pX ∧ pX ≤ 2002) ∧ ((-2002) ≤ pY ∧ pY ≤ 2002)))) → (True) → ((((sAX = sAX) ∧ ((sAY = sAY) ∧ ((sBX = sBX) ∧ (sBY = sBY)))) ∧ ((pX = pX) ∧ (pY = pY))) ∧ ((((isE sAX sAY sBX sBY pX pY) = true) → ((((tAX = tAX) ∧ ((tAY = tAY) ∧ ((tBX = tBX) ∧ (tBY = tBY)))) ∧ ((pX = pX) ∧ (pY = pY))) ∧ (((isE tAX tAY tBX tBY pX pY) = true) ↔ ((isE sAX sAY sBX sBY pX pY && isE tAX tAY tBX tBY pX pY) = true)))) ∧ (((isE sAX sAY sBX sBY pX pY) = false) → ((isE sAX sAY sBX sBY pX pY && isE tAX tAY tBX tBY pX pY) = false))))) (by kernel_rfl) ?_
  intro h1 h2
  refine ⟨⟨⟨rfl, ⟨rfl, ⟨rfl, rfl⟩⟩⟩, ⟨rfl, rfl⟩⟩, ?_, ?_⟩
  · intro c1
    refine ⟨⟨⟨rfl, ⟨rfl, ⟨rfl, rfl⟩⟩⟩, ⟨rfl, rfl⟩⟩, ?_⟩
    simp_all [isE]; done
  · intro c2
    simp_all [isE]; omega
def c_i_atEnds (sAX : Int) (sAY : Int) (sBX : Int) (sBY : Int) (tAX : Int) (tAY : Int) (tBX : Int) (tBY : Int) (pX : Int) (pY : Int) : Cn Try.prog := ⟨_, _, _, _, _, i_atEnds sAX sAY sBX sBY tAX tAY tBX tBY pX pY⟩
theorem i_common (sAX : Int) (sAY : Int) (sBX : Int) (sBY : Int) (tAX : Int) (tAY : Int) (tBX : Int) (tBY : Int) : RunsTo Try.prog 105 [(.agg [(.int .i64 (.v fun _ => sAX) (-2002) 2002), (.int .i64 (.v fun _ => sAY) (-2002) 2002), (.int .i64 (.v fun _ => sBX) (-2002) 2002), (.int .i64 (.v fun _ => sBY) (-2002) 2002)]), (.agg [(.int .i64 (.v fun _ => tAX) (-2002) 2002), (.int .i64 (.v fun _ => tAY) (-2002) 2002), (.int .i64 (.v fun _ => tBX) (-2002) 2002), (.int .i64 (.v fun _ => tBY) (-2002) 2002)])] [] (.sl 0 2 (.lit 0) (.v fun _ => len' (fl (cmQ sAX sAY sBX sBY tAX tAY tBX tBY) 4)) 64) [some ⟨32, 2, true, (.sym (.v fun _ => len' (fl (cmQ sAX sAY sBX sBY tAX tAY tBX tBY) 4)) fun e => [(.int .i64 (.v fun _ => p4X sAX sBX tAX tBX (selL (fl (cmQ sAX sAY sBX sBY tAX tAY tBX tBY) 4) e.den)) (-2002) 2002), (.int .i64 (.v fun _ => p4X sAY sBY tAY tBY (selL (fl (cmQ sAX sAY sBX sBY tAX tAY tBX tBY) 4) e.den)) (-2002) 2002)])⟩] := by
  refine RunsTo.go env Try.func105 rfl Try.call105 rfl rfl (fun _ _ => (.loop [] [0, 1, 3, 2] (Int) (fun x1 => ⟨spl 55 0 [(2, (.ptr 0 4 (.lit 0) 0)), (3, (.ptr 1 4 (.lit 0) 0)), (4, (.raw (.slice none 0 0))), (5, (.sl 3 2 (.lit 0) (.v fun _ => len' (fl (cmQ sAX sAY sBX sBY tAX tAY tBX tBY) x1)) 64)), (15, (.sl 2 2 (.lit 0) (.lit 2) 2)), (16, (.int .i64 (.lit 2) 0 2)), (17, (.int .i64 (.v fun _ => x1) 0 2))], [some ⟨45, 4, true, (.lit [[(.int .i64 (.v fun _ => sAX) (-2002) 2002), (.int .i64 (.v fun _ => sAY) (-2002) 2002), (.int .i64 (.v fun _ => sBX) (-2002) 2002), (.int .i64 (.v fun _ => sBY) (-2002) 2002)]])⟩, some ⟨45, 4, true, (.lit [[(.int .i64 (.v fun _ => tAX) (-2002) 2002), (.int .i64 (.v fun _ => tAY) (-2002) 2002), (.int .i64 (.v fun _ => tBX) (-2002) 2002), (.int .i64 (.v fun _ => tBY) (-2002) 2002)]])⟩, some ⟨32, 2, true, (.sym (.lit 2) fun e => [(.int .i64 (.v fun _ => p4X sAX sBX tAX tBX (e.den)) (-2002) 2002), (.int .i64 (.v fun _ => p4X sAY sBY tAY tBY (e.den)) (-2002) 2002)])⟩, some ⟨32, 2, true, (.sym (.v fun _ => len' (fl (cmQ sAX sAY sBX sBY tAX tAY tBX tBY) x1)) fun e => [(.int .i64 (.v fun _ => p4X sAX sBX tAX tBX (selL (fl (cmQ sAX sAY sBX sBY tAX tAY tBX tBY) x1) (e.den))) (-2002) 2002), (.int .i64 (.v fun _ => p4X sAY sBY tAY tBY (selL (fl (cmQ sAX sAY sBX sBY tAX tAY tBX tBY) x1) (e.den))) (-2002) 2002)])⟩], 0⟩) (fun x1 => 0 ≤ x1 ∧ x1 ≤ 2) (fun x1 => (2 - x1).toNat) fun x1 => (.ite (.need (.need (.call (c_i_has tAX tAY tBX tBY (p4X sAX sBX tAX tBX (x1)) (p4X sAY sBY tAY tBY (x1))) (.ite (.need (.next [0, 1, 2, 3])) (.next [0, 1, 2, 3]))))) (.out (.loop [] [0, 1, 4, 3] (Int) (fun x12 => ⟨spl 55 0 [(2, (.ptr 0 4 (.lit 0) 0)), (3, (.ptr 1 4 (.lit 0) 0)), (4, (.raw (.slice none 0 0))), (5, (.sl 3 2 (.lit 0) (.v fun _ => len' (fl (cmQ sAX sAY sBX sBY tAX tAY tBX tBY) (x12 + 2))) 64)), (33, (.sl 2 2 (.lit 0) (.lit 2) 2)), (34, (.int .i64 (.lit 2) 0 2)), (35, (.int .i64 (.v fun _ => x12) 0 2))], [some ⟨45, 4, true, (.lit [[(.int .i64 (.v fun _ => sAX) (-2002) 2002), (.int .i64 (.v fun _ => sAY) (-2002) 2002), (.int .i64 (.v fun _ => sBX) (-2002) 2002), (.int .i64 (.v fun _ => sBY) (-2002) 2002)]])⟩, some ⟨45, 4, true, (.lit [[(.int .i64 (.v fun _ => tAX) (-2002) 2002), (.int .i64 (.v fun _ => tAY) (-2002) 2002), (.int .i64 (.v fun _ => tBX) (-2002) 2002), (.int .i64 (.v fun _ => tBY) (-2002) 2002)]])⟩, some ⟨32, 2, true, (.sym (.lit 2) fun e => [(.int .i64 (.v fun _ => p4X sAX sBX tAX tBX ((e.den) + 2)) (-2002) 2002), (.int .i64 (.v fun _ => p4X sAY sBY tAY tBY ((e.den) + 2)) (-2002) 2002)])⟩, some ⟨32, 2, true, (.sym (.v fun _ => len' (fl (cmQ sAX sAY sBX sBY tAX tAY tBX tBY) (x12 + 2))) fun e => [(.int .i64 (.v fun _ => p4X sAX sBX tAX tBX (selL (fl (cmQ sAX sAY sBX sBY tAX tAY tBX tBY) (x12 + 2)) (e.den))) (-2002) 2002), (.int .i64 (.v fun _ => p4X sAY sBY tAY tBY (selL (fl (cmQ sAX sAY sBX sBY tAX tAY tBX tBY) (x12 + 2)) (e.den))) (-2002) 2002)])⟩], 0⟩) (fun x12 => 0 ≤ x12 ∧ x12 ≤ 2) (fun x12 => (2 - x12).toNat) fun x12 => (.ite (.need (.need (.call (c_i_has sAX sAY sBX sBY (p4X sAX sBX tAX tBX ((x12) + 2)) (p4X sAY sBY tAY tBY ((x12) + 2))) (.ite (.call (c_i_atEnds tAX tAY tBX tBY sAX sAY sBX sBY (p4X sAX sBX tAX tBX ((x12) + 2)) (p4X sAY sBY tAY tBY ((x12) + 2))) (.ite (.need (.next [0, 1, 2, 3])) (.next [0, 1, 2, 3]))) (.next [0, 1, 2, 3]))))) (.out .ret))))))) (G := ((((-2002) ≤ sAX ∧ sAX ≤ 2002) ∧ (((-2002) ≤ sAY ∧ sAY ≤ 2002) ∧ (((-2002) ≤ sBX ∧ sBX ≤ 2002) ∧ ((-2002) ≤ sBY ∧ sBY ≤ 2002)))) ∧ (((-2002) ≤ tAX ∧ tAX ≤ 2002) ∧ (((-2002) ≤ tAY ∧ tAY ≤ 2002) ∧ (((-2002) ≤ tBX ∧ tBX ≤ 2002) ∧ ((-2002) ≤ tBY ∧ tBY ≤ 2002))))) → (True) → ((∃ y2 : Int, ((0 ≤ y2 ∧ y2 ≤ 2) ∧ (((((.slice none 0 0) : Value) = (.slice none 0 0)) ∧ (((0 : Int) = (len' (fl (cmQ sAX sAY sBX sBY tAX tAY tBX tBY) y2))) ∧ ((0 : Int) = y2))) ∧ (((sAX = sAX) ∧ ((sAY = sAY) ∧ ((sBX = sBX) ∧ (sBY = sBY)))) ∧ (((tAX = tAX) ∧ ((tAY = tAY) ∧ ((tBX = tBX) ∧ (tBY = tBY)))) ∧ (((∀ e4 : E, ((e4.den = 0) → ((sAX = (p4X sAX sBX tAX tBX (e4.den))) ∧ (sAY = (p4X sAY sBY tAY tBY (e4.den)))))) ∧ (∀ e3 : E, ((e3.den = 1) → ((sBX = (p4X sAX sBX tAX tBX (e3.den))) ∧ (sBY = (p4X sAY sBY tAY tBY (e3.den))))))) ∧ ((len' (fl (cmQ sAX sAY sBX sBY tAX tAY tBX tBY) y2)) = 0))))))) ∧ (∀ x1 : Int, ((0 ≤ x1 ∧ x1 ≤ 2) → (((x1 < 2) → ((((0 ≤ x1) ∧ (x1 < 2))) ∧ ((x1 < 2) ∧ ((((tAX = tAX) ∧ ((tAY = tAY) ∧ ((tBX = tBX) ∧ (tBY = tBY)))) ∧ (((p4X sAX sBX tAX tBX (x1)) = (p4X sAX sBX tAX tBX (x1))) ∧ ((p4X sAY sBY tAY tBY (x1)) = (p4X sAY sBY tAY tBY (x1))))) ∧ ((((onB tAX tAY tBX tBY (p4X sAX sBX tAX tBX (x1)) (p4X sAY sBY tAY tBY (x1))) = true) → (((len' (fl (cmQ sAX sAY sBX sBY tAX tAY tBX tBY) x1)) = (len' (fl (cmQ sAX sAY sBX sBY tAX tAY tBX tBY) x1))) ∧ (∃ y5 : Int, ((0 ≤ y5 ∧ y5 ≤ 2) ∧ ((((((.slice none 0 0) : Value) = (.slice none 0 0)) ∧ (((((len' (fl (cmQ sAX sAY sBX sBY tAX tAY tBX tBY) x1)) + 1) = (len' (fl (cmQ sAX sAY sBX sBY tAX tAY tBX tBY) y5))) ∧ ((((len' (fl (cmQ sAX sAY sBX sBY tAX tAY tBX tBY) x1)) + 1) ≤ 65) → ((len' (fl (cmQ sAX sAY sBX sBY tAX tAY tBX tBY) y5)) ≤ 64))) ∧ (((x1 + 1) = y5) ∧ ((1 ≤ (x1 + 1) ∧ (x1 + 1) ≤ 3) → (0 ≤ y5 ∧ y5 ≤ 2))))) ∧ (((sAX = sAX) ∧ ((sAY = sAY) ∧ ((sBX = sBX) ∧ (sBY = sBY)))) ∧ (((tAX = tAX) ∧ ((tAY = tAY) ∧ ((tBX = tBX) ∧ (tBY = tBY)))) ∧ ((((2 : Int) ≤ 2) ∧ (∀ e8 : E, ((0 ≤ e8.den ∧ e8.den < 2) → (((p4X sAX sBX tAX tBX (e8.den)) = (p4X sAX sBX tAX tBX (e8.den))) ∧ ((p4X sAY sBY tAY tBY (e8.den)) = (p4X sAY sBY tAY tBY (e8.den))))))) ∧ (((0 : Int) ≤ (len' (fl (cmQ sAX sAY sBX sBY tAX tAY tBX tBY) x1)) ∧ (len' (fl (cmQ sAX sAY sBX sBY tAX tAY tBX tBY) y5)) = (len' (fl (cmQ sAX sAY sBX sBY tAX tAY tBX tBY) x1)) + 1) ∧ ((((len' (fl (cmQ sAX sAY sBX sBY tAX tAY tBX tBY) x1)) ≤ (len' (fl (cmQ sAX sAY sBX sBY tAX tAY tBX tBY) x1))) ∧ (∀ e7 : E, ((0 ≤ e7.den ∧ e7.den < (len' (fl (cmQ sAX sAY sBX sBY tAX tAY tBX tBY) x1))) → (((p4X sAX sBX tAX tBX (selL (fl (cmQ sAX sAY sBX sBY tAX tAY tBX tBY) x1) (e7.den))) = (p4X sAX sBX tAX tBX (selL (fl (cmQ sAX sAY sBX sBY tAX tAY tBX tBY) y5) (e7.den)))) ∧ ((p4X sAY sBY tAY tBY (selL (fl (cmQ sAX sAY sBX sBY tAX tAY tBX tBY) x1) (e7.den))) = (p4X sAY sBY tAY tBY (selL (fl (cmQ sAX sAY sBX sBY tAX tAY tBX tBY) y5) (e7.den)))))))) ∧ (∀ e6 : E, ((e6.den = (len' (fl (cmQ sAX sAY sBX sBY tAX tAY tBX tBY) x1))) → (((p4X sAX sBX tAX tBX (x1)) = (p4X sAX sBX tAX tBX (selL (fl (cmQ sAX sAY sBX sBY tAX tAY tBX tBY) y5) (e6.den)))) ∧ ((p4X sAY sBY tAY tBY (x1)) = (p4X sAY sBY tAY tBY (selL (fl (cmQ sAX sAY sBX sBY tAX tAY tBX tBY) y5) (e6.den))))))))))))) ∧ ((2 - y5).toNat < (2 - x1).toNat)))))) ∧ (((onB tAX tAY tBX tBY (p4X sAX sBX tAX tBX (x1)) (p4X sAY sBY tAY tBY (x1))) = false) → (∃ y9 : Int, ((0 ≤ y9 ∧ y9 ≤ 2) ∧ ((((((.slice none 0 0) : Value) = (.slice none 0 0)) ∧ (((len' (fl (cmQ sAX sAY sBX sBY tAX tAY tBX tBY) x1)) = (len' (fl (cmQ sAX sAY sBX sBY tAX tAY tBX tBY) y9))) ∧ (((x1 + 1) = y9) ∧ ((1 ≤ (x1 + 1) ∧ (x1 + 1) ≤ 3) → (0 ≤ y9 ∧ y9 ≤ 2))))) ∧ (((sAX = sAX) ∧ ((sAY = sAY) ∧ ((sBX = sBX) ∧ (sBY = sBY)))) ∧ (((tAX = tAX) ∧ ((tAY = tAY) ∧ ((tBX = tBX) ∧ (tBY = tBY)))) ∧ ((((2 : Int) ≤ 2) ∧ (∀ e11 : E, ((0 ≤ e11.den ∧ e11.den < 2) → (((p4X sAX sBX tAX tBX (e11.den)) = (p4X sAX sBX tAX tBX (e11.den))) ∧ ((p4X sAY sBY tAY tBY (e11.den)) = (p4X sAY sBY tAY tBY (e11.den))))))) ∧ (((len' (fl (cmQ sAX sAY sBX sBY tAX tAY tBX tBY) y9)) ≤ (len' (fl (cmQ sAX sAY sBX sBY tAX tAY tBX tBY) x1))) ∧ (∀ e10 : E, ((0 ≤ e10.den ∧ e10.den < (len' (fl (cmQ sAX sAY sBX sBY tAX tAY tBX tBY) y9))) → (((p4X sAX sBX tAX tBX (selL (fl (cmQ sAX sAY sBX sBY tAX tAY tBX tBY) x1) (e10.den))) = (p4X sAX sBX tAX tBX (selL (fl (cmQ sAX sAY sBX sBY tAX tAY tBX tBY) y9) (e10.den)))) ∧ ((p4X sAY sBY tAY tBY (selL (fl (cmQ sAX sAY sBX sBY tAX tAY tBX tBY) x1) (e10.den))) = (p4X sAY sBY tAY tBY (selL (fl (cmQ sAX sAY sBX sBY tAX tAY tBX tBY) y9) (e10.den)))))))))))) ∧ ((2 - y9).toNat < (2 - x1).toNat)))))))))) ∧ ((2 ≤ x1) → ((∃ y13 : Int, ((0 ≤ y13 ∧ y13 ≤ 2) ∧ (((((.slice none 0 0) : Value) = (.slice none 0 0)) ∧ (((len' (fl (cmQ sAX sAY sBX sBY tAX tAY tBX tBY) x1)) = (len' (fl (cmQ sAX sAY sBX sBY tAX tAY tBX tBY) (y13 + 2)))) ∧ ((0 : Int) = y13))) ∧ (((sAX = sAX) ∧ ((sAY = sAY) ∧ ((sBX = sBX) ∧ (sBY = sBY)))) ∧ (((tAX = tAX) ∧ ((tAY = tAY) ∧ ((tBX = tBX) ∧ (tBY = tBY)))) ∧ (((∀ e16 : E, ((e16.den = 0) → ((tAX = (p4X sAX sBX tAX tBX ((e16.den) + 2))) ∧ (tAY = (p4X sAY sBY tAY tBY ((e16.den) + 2)))))) ∧ (∀ e15 : E, ((e15.den = 1) → ((tBX = (p4X sAX sBX tAX tBX ((e15.den) + 2))) ∧ (tBY = (p4X sAY sBY tAY tBY ((e15.den) + 2))))))) ∧ (((len' (fl (cmQ sAX sAY sBX sBY tAX tAY tBX tBY) (y13 + 2))) ≤ (len' (fl (cmQ sAX sAY sBX sBY tAX tAY tBX tBY) x1))) ∧ (∀ e14 : E, ((0 ≤ e14.den ∧ e14.den < (len' (fl (cmQ sAX sAY sBX sBY tAX tAY tBX tBY) (y13 + 2)))) → (((p4X sAX sBX tAX tBX (selL (fl (cmQ sAX sAY sBX sBY tAX tAY tBX tBY) x1) (e14.den))) = (p4X sAX sBX tAX tBX (selL (fl (cmQ sAX sAY sBX sBY tAX tAY tBX tBY) (y13 + 2)) (e14.den)))) ∧ ((p4X sAY sBY tAY tBY (selL (fl (cmQ sAX sAY sBX sBY tAX tAY tBX tBY) x1) (e14.den))) = (p4X sAY sBY tAY tBY (selL (fl (cmQ sAX sAY sBX sBY tAX tAY tBX tBY) (y13 + 2)) (e14.den)))))))))))))) ∧ (∀ x12 : Int, ((0 ≤ x12 ∧ x12 ≤ 2) → (((x12 < 2) → ((((0 ≤ x12) ∧ (x12 < 2))) ∧ ((x12 < 2) ∧ ((((sAX = sAX) ∧ ((sAY = sAY) ∧ ((sBX = sBX) ∧ (sBY = sBY)))) ∧ (((p4X sAX sBX tAX tBX ((x12) + 2)) = (p4X sAX sBX tAX tBX ((x12) + 2))) ∧ ((p4X sAY sBY tAY tBY ((x12) + 2)) = (p4X sAY sBY tAY tBY ((x12) + 2))))) ∧ ((((onB sAX sAY sBX sBY (p4X sAX sBX tAX tBX ((x12) + 2)) (p4X sAY sBY tAY tBY ((x12) + 2))) = true) → ((((tAX = tAX) ∧ ((tAY = tAY) ∧ ((tBX = tBX) ∧ (tBY = tBY)))) ∧ (((sAX = sAX) ∧ ((sAY = sAY) ∧ ((sBX = sBX) ∧ (sBY = sBY)))) ∧ (((p4X sAX sBX tAX tBX ((x12) + 2)) = (p4X sAX sBX tAX tBX ((x12) + 2))) ∧ ((p4X sAY sBY tAY tBY ((x12) + 2)) = (p4X sAY sBY tAY tBY ((x12) + 2)))))) ∧ ((((isE tAX tAY tBX tBY (p4X sAX sBX tAX tBX ((x12) + 2)) (p4X sAY sBY tAY tBY ((x12) + 2)) && isE sAX sAY sBX sBY (p4X sAX sBX tAX tBX ((x12) + 2)) (p4X sAY sBY tAY tBY ((x12) + 2))) = false) → (((len' (fl (cmQ sAX sAY sBX sBY tAX tAY tBX tBY) (x12 + 2))) = (len' (fl (cmQ sAX sAY sBX sBY tAX tAY tBX tBY) (x12 + 2)))) ∧ (∃ y17 : Int, ((0 ≤ y17 ∧ y17 ≤ 2) ∧ ((((((.slice none 0 0) : Value) = (.slice none 0 0)) ∧ (((((len' (fl (cmQ sAX sAY sBX sBY tAX tAY tBX tBY) (x12 + 2))) + 1) = (len' (fl (cmQ sAX sAY sBX sBY tAX tAY tBX tBY) (y17 + 2)))) ∧ ((((len' (fl (cmQ sAX sAY sBX sBY tAX tAY tBX tBY) (x12 + 2))) + 1) ≤ 65) → ((len' (fl (cmQ sAX sAY sBX sBY tAX tAY tBX tBY) (y17 + 2))) ≤ 64))) ∧ (((x12 + 1) = y17) ∧ ((1 ≤ (x12 + 1) ∧ (x12 + 1) ≤ 3) → (0 ≤ y17 ∧ y17 ≤ 2))))) ∧ (((sAX = sAX) ∧ ((sAY = sAY) ∧ ((sBX = sBX) ∧ (sBY = sBY)))) ∧ (((tAX = tAX) ∧ ((tAY = tAY) ∧ ((tBX = tBX) ∧ (tBY = tBY)))) ∧ ((((2 : Int) ≤ 2) ∧ (∀ e20 : E, ((0 ≤ e20.den ∧ e20.den < 2) → (((p4X sAX sBX tAX tBX ((e20.den) + 2)) = (p4X sAX sBX tAX tBX ((e20.den) + 2))) ∧ ((p4X sAY sBY tAY tBY ((e20.den) + 2)) = (p4X sAY sBY tAY tBY ((e20.den) + 2))))))) ∧ (((0 : Int) ≤ (len' (fl (cmQ sAX sAY sBX sBY tAX tAY tBX tBY) (x12 + 2))) ∧ (len' (fl (cmQ sAX sAY sBX sBY tAX tAY tBX tBY) (y17 + 2))) = (len' (fl (cmQ sAX sAY sBX sBY tAX tAY tBX tBY) (x12 + 2))) + 1) ∧ ((((len' (fl (cmQ sAX sAY sBX sBY tAX tAY tBX tBY) (x12 + 2))) ≤ (len' (fl (cmQ sAX sAY sBX sBY tAX tAY tBX tBY) (x12 + 2)))) ∧ (∀ e19 : E, ((0 ≤ e19.den ∧ e19.den < (len' (fl (cmQ sAX sAY sBX sBY tAX tAY tBX tBY) (x12 + 2)))) → (((p4X sAX sBX tAX tBX (selL (fl (cmQ sAX sAY sBX sBY tAX tAY tBX tBY) (x12 + 2)) (e19.den))) = (p4X sAX sBX tAX tBX (selL (fl (cmQ sAX sAY sBX sBY tAX tAY tBX tBY) (y17 + 2)) (e19.den)))) ∧ ((p4X sAY sBY tAY tBY (selL (fl (cmQ sAX sAY sBX sBY tAX tAY tBX tBY) (x12 + 2)) (e19.den))) = (p4X sAY sBY tAY tBY (selL (fl (cmQ sAX sAY sBX sBY tAX tAY tBX tBY) (y17 + 2)) (e19.den)))))))) ∧ (∀ e18 : E, ((e18.den = (len' (fl (cmQ sAX sAY sBX sBY tAX tAY tBX tBY) (x12 + 2)))) → (((p4X sAX sBX tAX tBX ((x12) + 2)) = (p4X sAX sBX tAX tBX (selL (fl (cmQ sAX sAY sBX sBY tAX tAY tBX tBY) (y17 + 2)) (e18.den)))) ∧ ((p4X sAY sBY tAY tBY ((x12) + 2)) = (p4X sAY sBY tAY tBY (selL (fl (cmQ sAX sAY sBX sBY tAX tAY tBX tBY) (y17 + 2)) (e18.den))))))))))))) ∧ ((2 - y17).toNat < (2 - x12).toNat)))))) ∧ (((isE tAX tAY tBX tBY (p4X sAX sBX tAX tBX ((x12) + 2)) (p4X sAY sBY tAY tBY ((x12) + 2)) && isE sAX sAY sBX sBY (p4X sAX sBX tAX tBX ((x12) + 2)) (p4X sAY sBY tAY tBY ((x12) + 2))) = true) → (∃ y21 : Int, ((0 ≤ y21 ∧ y21 ≤ 2) ∧ ((((((.slice none 0 0) : Value) = (.slice none 0 0)) ∧ (((len' (fl (cmQ sAX sAY sBX sBY tAX tAY tBX tBY) (x12 + 2))) = (len' (fl (cmQ sAX sAY sBX sBY tAX tAY tBX tBY) (y21 + 2)))) ∧ (((x12 + 1) = y21) ∧ ((1 ≤ (x12 + 1) ∧ (x12 + 1) ≤ 3) → (0 ≤ y21 ∧ y21 ≤ 2))))) ∧ (((sAX = sAX) ∧ ((sAY = sAY) ∧ ((sBX = sBX) ∧ (sBY = sBY)))) ∧ (((tAX = tAX) ∧ ((tAY = tAY) ∧ ((tBX = tBX) ∧ (tBY = tBY)))) ∧ ((((2 : Int) ≤ 2) ∧ (∀ e23 : E, ((0 ≤ e23.den ∧ e23.den < 2) → (((p4X sAX sBX tAX tBX ((e23.den) + 2)) = (p4X sAX sBX tAX tBX ((e23.den) + 2))) ∧ ((p4X sAY sBY tAY tBY ((e23.den) + 2)) = (p4X sAY sBY tAY tBY ((e23.den) + 2))))))) ∧ (((len' (fl (cmQ sAX sAY sBX sBY tAX tAY tBX tBY) (y21 + 2))) ≤ (len' (fl (cmQ sAX sAY sBX sBY tAX tAY tBX tBY) (x12 + 2)))) ∧ (∀ e22 : E, ((0 ≤ e22.den ∧ e22.den < (len' (fl (cmQ sAX sAY sBX sBY tAX tAY tBX tBY) (y21 + 2)))) → (((p4X sAX sBX tAX tBX (selL (fl (cmQ sAX sAY sBX sBY tAX tAY tBX tBY) (x12 + 2)) (e22.den))) = (p4X sAX sBX tAX tBX (selL (fl (cmQ sAX sAY sBX sBY tAX tAY tBX tBY) (y21 + 2)) (e22.den)))) ∧ ((p4X sAY sBY tAY tBY (selL (fl (cmQ sAX sAY sBX sBY tAX tAY tBX tBY) (x12 + 2)) (e22.den))) = (p4X sAY sBY tAY tBY (selL (fl (cmQ sAX sAY sBX sBY tAX tAY tBX tBY) (y21 + 2)) (e22.den)))))))))))) ∧ ((2 - y21).toNat < (2 - x12).toNat)))))))) ∧ (((onB sAX sAY sBX sBY (p4X sAX sBX tAX tBX ((x12) + 2)) (p4X sAY sBY tAY tBY ((x12) + 2))) = false) → (∃ y24 : Int, ((0 ≤ y24 ∧ y24 ≤ 2) ∧ ((((((.slice none 0 0) : Value) = (.slice none 0 0)) ∧ (((len' (fl (cmQ sAX sAY sBX sBY tAX tAY tBX tBY) (x12 + 2))) = (len' (fl (cmQ sAX sAY sBX sBY tAX tAY tBX tBY) (y24 + 2)))) ∧ (((x12 + 1) = y24) ∧ ((1 ≤ (x12 + 1) ∧ (x12 + 1) ≤ 3) → (0 ≤ y24 ∧ y24 ≤ 2))))) ∧ (((sAX = sAX) ∧ ((sAY = sAY) ∧ ((sBX = sBX) ∧ (sBY = sBY)))) ∧ (((tAX = tAX) ∧ ((tAY = tAY) ∧ ((tBX = tBX) ∧ (tBY = tBY)))) ∧ ((((2 : Int) ≤ 2) ∧ (∀ e26 : E, ((0 ≤ e26.den ∧ e26.den < 2) → (((p4X sAX sBX tAX tBX ((e26.den) + 2)) = (p4X sAX sBX tAX tBX ((e26.den) + 2))) ∧ ((p4X sAY sBY tAY tBY ((e26.den) + 2)) = (p4X sAY sBY tAY tBY ((e26.den) + 2))))))) ∧ (((len' (fl (cmQ sAX sAY sBX sBY tAX tAY tBX tBY) (y24 + 2))) ≤ (len' (fl (cmQ sAX sAY sBX sBY tAX tAY tBX tBY) (x12 + 2)))) ∧ (∀ e25 : E, ((0 ≤ e25.den ∧ e25.den < (len' (fl (cmQ sAX sAY sBX sBY tAX tAY tBX tBY) (y24 + 2)))) → (((p4X sAX sBX tAX tBX (selL (fl (cmQ sAX sAY sBX sBY tAX tAY tBX tBY) (x12 + 2)) (e25.den))) = (p4X sAX sBX tAX tBX (selL (fl (cmQ sAX sAY sBX sBY tAX tAY tBX tBY) (y24 + 2)) (e25.den)))) ∧ ((p4X sAY sBY tAY tBY (selL (fl (cmQ sAX sAY sBX sBY tAX tAY tBX tBY) (x12 + 2)) (e25.den))) = (p4X sAY sBY tAY tBY (selL (fl (cmQ sAX sAY sBX sBY tAX tAY tBX tBY) (y24 + 2)) (e25.den)))))))))))) ∧ ((2 - y24).toNat < (2 - x12).toNat)))))))))) ∧ ((2 ≤ x12) → (((len' (fl (cmQ sAX sAY sBX sBY tAX tAY tBX tBY) (x12 + 2))) = (len' (fl (cmQ sAX sAY sBX sBY tAX tAY tBX tBY) 4))) ∧ (((len' (fl (cmQ sAX sAY sBX sBY tAX tAY tBX tBY) 4)) ≤ (len' (fl (cmQ sAX sAY sBX sBY tAX tAY tBX tBY) (x12 + 2)))) ∧ (∀ e27 : E, ((0 ≤ e27.den ∧ e27.den < (len' (fl (cmQ sAX sAY sBX sBY tAX tAY tBX tBY) 4))) → (((p4X sAX sBX tAX tBX (selL (fl (cmQ sAX sAY sBX sBY tAX tAY tBX tBY) (x12 + 2)) (e27.den))) = (p4X sAX sBX tAX tBX (selL (fl (cmQ sAX sAY sBX sBY tAX tAY tBX tBY) 4) e27.den))) ∧ ((p4X sAY sBY tAY tBY (selL (fl (cmQ sAX sAY sBX sBY tAX tAY tBX tBY) (x12 + 2)) (e27.den))) = (p4X sAY sBY tAY tBY (selL (fl (cmQ sAX sAY sBX sBY tAX tAY tBX tBY) 4) e27.den))))))))))))))))))) (by kernel_rfl) ?_
  intro h1 h2
  refine ⟨?_, ?_⟩
  · refine ⟨0, ?_⟩
    try dsimp only
    refine ⟨?_, ?_, ⟨rfl, ⟨rfl, ⟨rfl, rfl⟩⟩⟩, ⟨rfl, ⟨rfl, ⟨rfl, rfl⟩⟩⟩, ?_, ?_⟩
    · omega
    · refine ⟨rfl, ?_, ?_⟩
      · rfl
      · rfl
    · refine ⟨?_, ?_⟩
      · intro e4
        intro c28
        refine ⟨?_, ?_⟩
        · simp_all [selL, p4X]; done
        · simp_all [selL, p4X]; done
      · intro e3
        intro c29
        refine ⟨?_, ?_⟩
        · simp_all [selL, p4X]; done
        · simp_all [selL, p4X]; done
    · rfl
  · intro j
    intro I1
    refine ⟨?_, ?_⟩
    · intro c30
      refine ⟨?_, ?_, ⟨⟨rfl, ⟨rfl, ⟨rfl, rfl⟩⟩⟩, ⟨rfl, rfl⟩⟩, ?_, ?_⟩
      · omega
      · omega
      · intro c31
        refine ⟨?_, ?_⟩
        · rfl
        · refine ⟨j + 1, ?_⟩
          try dsimp only
          refine ⟨?_, ?_, ?_⟩
          · omega
          · refine ⟨?_, ⟨rfl, ⟨rfl, ⟨rfl, rfl⟩⟩⟩, ⟨rfl, ⟨rfl, ⟨rfl, rfl⟩⟩⟩, ⟨Int.le_refl _, fun _ => fun _ => ⟨rfl, rfl⟩⟩, ?_, ?_, ?_⟩
            · refine ⟨rfl, ?_, ?_, ?_⟩
              · refine ⟨?_, ?_⟩
                · have hq : cmQ sAX sAY sBX sBY tAX tAY tBX tBY j = true := (by unfold cmQ; rw [if_pos (by omega)]; assumption); have hfb := fl_bd (cmQ sAX sAY sBX sBY tAX tAY tBX tBY) (n := j) (by omega); first | (rw [fl_yes (by omega) hq, len'_snoc]; done) | (rw [fl_yes (by omega) hq, len'_snoc]; omega) | (rw [fl_yes (by omega) hq, selL_old (by omega) (by omega)]; done) | (rw [fl_yes (by omega) hq, selL_new (by omega)]; done)
                · intro c32
                  have hfb := fl_bd (cmQ sAX sAY sBX sBY tAX tAY tBX tBY) (n := j + 1) (by omega); omega
              · rfl
              · intro c33
                omega
            · have hq : cmQ sAX sAY sBX sBY tAX tAY tBX tBY j = true := (by unfold cmQ; rw [if_pos (by omega)]; assumption); have hfb := fl_bd (cmQ sAX sAY sBX sBY tAX tAY tBX tBY) (n := j) (by omega); first | (rw [fl_yes (by omega) hq, len'_snoc]; done) | (rw [fl_yes (by omega) hq, len'_snoc]; omega) | (rw [fl_yes (by omega) hq, selL_old (by omega) (by omega)]; done) | (rw [fl_yes (by omega) hq, selL_new (by omega)]; done)
            · refine ⟨Int.le_refl _, ?_⟩
              intro e7
              intro c34
              refine ⟨?_, ?_⟩
              · have hq : cmQ sAX sAY sBX sBY tAX tAY tBX tBY j = true := (by unfold cmQ; rw [if_pos (by omega)]; assumption); have hfb := fl_bd (cmQ sAX sAY sBX sBY tAX tAY tBX tBY) (n := j) (by omega); first | (rw [fl_yes (by omega) hq, len'_snoc]; done) | (rw [fl_yes (by omega) hq, len'_snoc]; omega) | (rw [fl_yes (by omega) hq, selL_old (by omega) (by omega)]; done) | (rw [fl_yes (by omega) hq, selL_new (by omega)]; done)
              · have hq : cmQ sAX sAY sBX sBY tAX tAY tBX tBY j = true := (by unfold cmQ; rw [if_pos (by omega)]; assumption); have hfb := fl_bd (cmQ sAX sAY sBX sBY tAX tAY tBX tBY) (n := j) (by omega); first | (rw [fl_yes (by omega) hq, len'_snoc]; done) | (rw [fl_yes (by omega) hq, len'_snoc]; omega) | (rw [fl_yes (by omega) hq, selL_old (by omega) (by omega)]; done) | (rw [fl_yes (by omega) hq, selL_new (by omega)]; done)
            · intro e6
              intro c35
              refine ⟨?_, ?_⟩
              · have hq : cmQ sAX sAY sBX sBY tAX tAY tBX tBY j = true := (by unfold cmQ; rw [if_pos (by omega)]; assumption); have hfb := fl_bd (cmQ sAX sAY sBX sBY tAX tAY tBX tBY) (n := j) (by omega); first | (rw [fl_yes (by omega) hq, len'_snoc]; done) | (rw [fl_yes (by omega) hq, len'_snoc]; omega) | (rw [fl_yes (by omega) hq, selL_old (by omega) (by omega)]; done) | (rw [fl_yes (by omega) hq, selL_new (by omega)]; done)
              · have hq : cmQ sAX sAY sBX sBY tAX tAY tBX tBY j = true := (by unfold cmQ; rw [if_pos (by omega)]; assumption); have hfb := fl_bd (cmQ sAX sAY sBX sBY tAX tAY tBX tBY) (n := j) (by omega); first | (rw [fl_yes (by omega) hq, len'_snoc]; done) | (rw [fl_yes (by omega) hq, len'_snoc]; omega) | (rw [fl_yes (by omega) hq, selL_old (by omega) (by omega)]; done) | (rw [fl_yes (by omega) hq, selL_new (by omega)]; done)
          · omega
      · intro c36
        refine ⟨j + 1, ?_⟩
        try dsimp only
        refine ⟨?_, ?_, ?_⟩
        · omega
        · refine ⟨?_, ⟨rfl, ⟨rfl, ⟨rfl, rfl⟩⟩⟩, ⟨rfl, ⟨rfl, ⟨rfl, rfl⟩⟩⟩, ⟨Int.le_refl _, fun _ => fun _ => ⟨rfl, rfl⟩⟩, ?_, ?_⟩
          · refine ⟨rfl, ?_, ?_, ?_⟩
            · have hq : cmQ sAX sAY sBX sBY tAX tAY tBX tBY j = false := (by unfold cmQ; rw [if_pos (by omega)]; assumption); rw [fl_no (by omega) hq]; first | done | exact Int.le_refl _
            · rfl
            · intro c37
              omega
          · have hq : cmQ sAX sAY sBX sBY tAX tAY tBX tBY j = false := (by unfold cmQ; rw [if_pos (by omega)]; assumption); rw [fl_no (by omega) hq]; first | done | exact Int.le_refl _
          · intro e10
            intro c38
            refine ⟨?_, ?_⟩
            · have hq : cmQ sAX sAY sBX sBY tAX tAY tBX tBY j = false := (by unfold cmQ; rw [if_pos (by omega)]; assumption); rw [fl_no (by omega) hq]; first | done | exact Int.le_refl _
            · have hq : cmQ sAX sAY sBX sBY tAX tAY tBX tBY j = false := (by unfold cmQ; rw [if_pos (by omega)]; assumption); rw [fl_no (by omega) hq]; first | done | exact Int.le_refl _
        · omega
    · intro c39
      refine ⟨?_, ?_⟩
      · refine ⟨0, ?_⟩
        try dsimp only
        refine ⟨?_, ?_, ⟨rfl, ⟨rfl, ⟨rfl, rfl⟩⟩⟩, ⟨rfl, ⟨rfl, ⟨rfl, rfl⟩⟩⟩, ?_, ?_, ?_⟩
        · omega
        · refine ⟨rfl, ?_, ?_⟩
          · have e : j = 2 := (by omega); subst e; first | rfl | exact Int.le_refl _ | (have hfb := fl_bd (cmQ sAX sAY sBX sBY tAX tAY tBX tBY) (n := 2) (by omega); omega)
          · rfl
        · refine ⟨?_, ?_⟩
          · intro e16
            intro c40
            refine ⟨?_, ?_⟩
            · simp_all [selL, p4X]; done
            · simp_all [selL, p4X]; done
          · intro e15
            intro c41
            refine ⟨?_, ?_⟩
            · simp_all [selL, p4X]; done
            · simp_all [selL, p4X]; done
        · have e : j = 2 := (by omega); subst e; first | rfl | exact Int.le_refl _ | (have hfb := fl_bd (cmQ sAX sAY sBX sBY tAX tAY tBX tBY) (n := 2) (by omega); omega)
        · intro e14
          intro c42
          refine ⟨?_, ?_⟩
          · have e : j = 2 := (by omega); subst e; first | rfl | exact Int.le_refl _ | (have hfb := fl_bd (cmQ sAX sAY sBX sBY tAX tAY tBX tBY) (n := 2) (by omega); omega)
          · have e : j = 2 := (by omega); subst e; first | rfl | exact Int.le_refl _ | (have hfb := fl_bd (cmQ sAX sAY sBX sBY tAX tAY tBX tBY) (n := 2) (by omega); omega)
      · intro k
        intro I1
        refine ⟨?_, ?_⟩
        · intro c43
          refine ⟨?_, ?_, ⟨⟨rfl, ⟨rfl, ⟨rfl, rfl⟩⟩⟩, ⟨rfl, rfl⟩⟩, ?_, ?_⟩
          · omega
          · omega
          · intro c44
            refine ⟨⟨⟨rfl, ⟨rfl, ⟨rfl, rfl⟩⟩⟩, ⟨⟨rfl, ⟨rfl, ⟨rfl, rfl⟩⟩⟩, ⟨rfl, rfl⟩⟩⟩, ?_, ?_⟩
            · intro c45
              refine ⟨?_, ?_⟩
              · rfl
              · refine ⟨k + 1, ?_⟩
                try dsimp only
                refine ⟨?_, ?_, ?_⟩
                · omega
                · refine ⟨?_, ⟨rfl, ⟨rfl, ⟨rfl, rfl⟩⟩⟩, ⟨rfl, ⟨rfl, ⟨rfl, rfl⟩⟩⟩, ⟨Int.le_refl _, fun _ => fun _ => ⟨rfl, rfl⟩⟩, ?_, ?_, ?_⟩
                  · refine ⟨rfl, ?_, ?_, ?_⟩
                    · refine ⟨?_, ?_⟩
                      · have hq : cmQ sAX sAY sBX sBY tAX tAY tBX tBY (k + 2) = true := (by unfold cmQ; rw [if_neg (by omega)]; first | (rw [Bool.and_eq_true, Bool.not_eq_true']; constructor <;> assumption) | (simp_all; done) | fail); have hfb := fl_bd (cmQ sAX sAY sBX sBY tAX tAY tBX tBY) (n := k + 2) (by omega); rw [show k + 1 + 2 = k + 2 + 1 by omega]; first | (rw [fl_yes (by omega) hq, len'_snoc]; done) | (rw [fl_yes (by omega) hq, len'_snoc]; omega) | (rw [fl_yes (by omega) hq, selL_old (by omega) (by omega)]; done) | (rw [fl_yes (by omega) hq, selL_new (by omega)]; done)
                      · intro c46
                        have hfb := fl_bd (cmQ sAX sAY sBX sBY tAX tAY tBX tBY) (n := k + 1 + 2) (by omega); omega
                    · rfl
                    · intro c47
                      omega
                  · have hq : cmQ sAX sAY sBX sBY tAX tAY tBX tBY (k + 2) = true := (by unfold cmQ; rw [if_neg (by omega)]; first | (rw [Bool.and_eq_true, Bool.not_eq_true']; constructor <;> assumption) | (simp_all; done) | fail); have hfb := fl_bd (cmQ sAX sAY sBX sBY tAX tAY tBX tBY) (n := k + 2) (by omega); rw [show k + 1 + 2 = k + 2 + 1 by omega]; first | (rw [fl_yes (by omega) hq, len'_snoc]; done) | (rw [fl_yes (by omega) hq, len'_snoc]; omega) | (rw [fl_yes (by omega) hq, selL_old (by omega) (by omega)]; done) | (rw [fl_yes (by omega) hq, selL_new (by omega)]; done)
                  · refine ⟨Int.le_refl _, ?_⟩
                    intro e19
                    intro c48
                    refine ⟨?_, ?_⟩
                    · have hq : cmQ sAX sAY sBX sBY tAX tAY tBX tBY (k + 2) = true := (by unfold cmQ; rw [if_neg (by omega)]; first | (rw [Bool.and_eq_true, Bool.not_eq_true']; constructor <;> assumption) | (simp_all; done) | fail); have hfb := fl_bd (cmQ sAX sAY sBX sBY tAX tAY tBX tBY) (n := k + 2) (by omega); rw [show k + 1 + 2 = k + 2 + 1 by omega]; first | (rw [fl_yes (by omega) hq, len'_snoc]; done) | (rw [fl_yes (by omega) hq, len'_snoc]; omega) | (rw [fl_yes (by omega) hq, selL_old (by omega) (by omega)]; done) | (rw [fl_yes (by omega) hq, selL_new (by omega)]; done)
                    · have hq : cmQ sAX sAY sBX sBY tAX tAY tBX tBY (k + 2) = true := (by unfold cmQ; rw [if_neg (by omega)]; first | (rw [Bool.and_eq_true, Bool.not_eq_true']; constructor <;> assumption) | (simp_all; done) | fail); have hfb := fl_bd (cmQ sAX sAY sBX sBY tAX tAY tBX tBY) (n := k + 2) (by omega); rw [show k + 1 + 2 = k + 2 + 1 by omega]; first | (rw [fl_yes (by omega) hq, len'_snoc]; done) | (rw [fl_yes (by omega) hq, len'_snoc]; omega) | (rw [fl_yes (by omega) hq, selL_old (by omega) (by omega)]; done) | (rw [fl_yes (by omega) hq, selL_new (by omega)]; done)
                  · intro e18
                    intro c49
                    refine ⟨?_, ?_⟩
                    · have hq : cmQ sAX sAY sBX sBY tAX tAY tBX tBY (k + 2) = true := (by unfold cmQ; rw [if_neg (by omega)]; first | (rw [Bool.and_eq_true, Bool.not_eq_true']; constructor <;> assumption) | (simp_all; done) | fail); have hfb := fl_bd (cmQ sAX sAY sBX sBY tAX tAY tBX tBY) (n := k + 2) (by omega); rw [show k + 1 + 2 = k + 2 + 1 by omega]; first | (rw [fl_yes (by omega) hq, len'_snoc]; done) | (rw [fl_yes (by omega) hq, len'_snoc]; omega) | (rw [fl_yes (by omega) hq, selL_old (by omega) (by omega)]; done) | (rw [fl_yes (by omega) hq, selL_new (by omega)]; done)
                    · have hq : cmQ sAX sAY sBX sBY tAX tAY tBX tBY (k + 2) = true := (by unfold cmQ; rw [if_neg (by omega)]; first | (rw [Bool.and_eq_true, Bool.not_eq_true']; constructor <;> assumption) | (simp_all; done) | fail); have hfb := fl_bd (cmQ sAX sAY sBX sBY tAX tAY tBX tBY) (n := k + 2) (by omega); rw [show k + 1 + 2 = k + 2 + 1 by omega]; first | (rw [fl_yes (by omega) hq, len'_snoc]; done) | (rw [fl_yes (by omega) hq, len'_snoc]; omega) | (rw [fl_yes (by omega) hq, selL_old (by omega) (by omega)]; done) | (rw [fl_yes (by omega) hq, selL_new (by omega)]; done)
                · omega
            · intro c50
              refine ⟨k + 1, ?_⟩
              try dsimp only
              refine ⟨?_, ?_, ?_⟩
              · omega
              · refine ⟨?_, ⟨rfl, ⟨rfl, ⟨rfl, rfl⟩⟩⟩, ⟨rfl, ⟨rfl, ⟨rfl, rfl⟩⟩⟩, ⟨Int.le_refl _, fun _ => fun _ => ⟨rfl, rfl⟩⟩, ?_, ?_⟩
                · refine ⟨rfl, ?_, ?_, ?_⟩
                  · have hq : cmQ sAX sAY sBX sBY tAX tAY tBX tBY (k + 2) = false := (by unfold cmQ; rw [if_neg (by omega)]; first | (simp_all; done) | fail); rw [show k + 1 + 2 = k + 2 + 1 by omega, fl_no (by omega) hq]; first | done | exact Int.le_refl _
                  · rfl
                  · intro c51
                    omega
                · have hq : cmQ sAX sAY sBX sBY tAX tAY tBX tBY (k + 2) = false := (by unfold cmQ; rw [if_neg (by omega)]; first | (simp_all; done) | fail); rw [show k + 1 + 2 = k + 2 + 1 by omega, fl_no (by omega) hq]; first | done | exact Int.le_refl _
                · intro e22
                  intro c52
                  refine ⟨?_, ?_⟩
                  · have hq : cmQ sAX sAY sBX sBY tAX tAY tBX tBY (k + 2) = false := (by unfold cmQ; rw [if_neg (by omega)]; first | (simp_all; done) | fail); rw [show k + 1 + 2 = k + 2 + 1 by omega, fl_no (by omega) hq]; first | done | exact Int.le_refl _
                  · have hq : cmQ sAX sAY sBX sBY tAX tAY tBX tBY (k + 2) = false := (by unfold cmQ; rw [if_neg (by omega)]; first | (simp_all; done) | fail); rw [show k + 1 + 2 = k + 2 + 1 by omega, fl_no (by omega) hq]; first | done | exact Int.le_refl _
              · omega
          · intro c53
            refine ⟨k + 1, ?_⟩
            try dsimp only
            refine ⟨?_, ?_, ?_⟩
            · omega
            · refine ⟨?_, ⟨rfl, ⟨rfl, ⟨rfl, rfl⟩⟩⟩, ⟨rfl, ⟨rfl, ⟨rfl, rfl⟩⟩⟩, ⟨Int.le_refl _, fun _ => fun _ => ⟨rfl, rfl⟩⟩, ?_, ?_⟩
              · refine ⟨rfl, ?_, ?_, ?_⟩
                · have hq : cmQ sAX sAY sBX sBY tAX tAY tBX tBY (k + 2) = false := (by unfold cmQ; rw [if_neg (by omega)]; first | (simp_all; done) | fail); rw [show k + 1 + 2 = k + 2 + 1 by omega, fl_no (by omega) hq]; first | done | exact Int.le_refl _
                · rfl
                · intro c54
                  omega
              · have hq : cmQ sAX sAY sBX sBY tAX tAY tBX tBY (k + 2) = false := (by unfold cmQ; rw [if_neg (by omega)]; first | (simp_all; done) | fail); rw [show k + 1 + 2 = k + 2 + 1 by omega, fl_no (by omega) hq]; first | done | exact Int.le_refl _
              · intro e25
                intro c55
                refine ⟨?_, ?_⟩
                · have hq : cmQ sAX sAY sBX sBY tAX tAY tBX tBY (k + 2) = false := (by unfold cmQ; rw [if_neg (by omega)]; first | (simp_all; done) | fail); rw [show k + 1 + 2 = k + 2 + 1 by omega, fl_no (by omega) hq]; first | done | exact Int.le_refl _
                · have hq : cmQ sAX sAY sBX sBY tAX tAY tBX tBY (k + 2) = false := (by unfold cmQ; rw [if_neg (by omega)]; first | (simp_all; done) | fail); rw [show k + 1 + 2 = k + 2 + 1 by omega, fl_no (by omega) hq]; first | done | exact Int.le_refl _
            · omega
        · intro c56
          refine ⟨?_, ?_, ?_⟩
          · have e : k = 2 := (by omega); subst e; first | rfl | exact Int.le_refl _ | (have hfb := fl_bd (cmQ sAX sAY sBX sBY tAX tAY tBX tBY) (n := 2 + 2) (by omega); omega)
          · have e : k = 2 := (by omega); subst e; first | rfl | exact Int.le_refl _ | (have hfb := fl_bd (cmQ sAX sAY sBX sBY tAX tAY tBX tBY) (n := 2 + 2) (by omega); omega)
          · intro e27
            intro c57
            refine ⟨?_, ?_⟩
            · have e : k = 2 := (by omega); subst e; first | rfl | exact Int.le_refl _ | (have hfb := fl_bd (cmQ sAX sAY sBX sBY tAX tAY tBX tBY) (n := 2 + 2) (by omega); omega)
            · have e : k = 2 := (by omega); subst e; first | rfl | exact Int.le_refl _ | (have hfb := fl_bd (cmQ sAX sAY sBX sBY tAX tAY tBX tBY) (n := 2 + 2) (by omega); omega)
def c_i_common (sAX : Int) (sAY : Int) (sBX : Int) (sBY : Int) (tAX : Int) (tAY : Int) (tBX : Int) (tBY : Int) : Cn Try.prog := ⟨_, _, _, _, _, i_common sAX sAY sBX sBY tAX tAY tBX tBY⟩
theorem onB_end {ax ay bx bY : Int} : onB ax ay bx bY ax ay = true ∧ onB ax ay bx bY bx bY = true := by
  have e1 : trn ax ay bx bY ax ay = 0 := by unfold trn; grind
  have e2 : trn ax ay bx bY bx bY = 0 := by unfold trn; grind
  have e3 : dotp ax ay bx bY ax ay = 0 := by unfold dotp; grind
  have e4 : dotp ax ay bx bY bx bY = 0 := by unfold dotp; grind
  unfold onB
  rw [e1, e2, e3, e4]
  exact ⟨rfl, rfl⟩
theorem okS_ne {ax ay bx bY : Int} (h : okS ax ay bx bY = true) : (-1000 ≤ ax ∧ ax ≤ 1000 ∧ -1000 ≤ ay ∧ ay ≤ 1000) ∧ (-1000 ≤ bx ∧ bx ≤ 1000 ∧ -1000 ≤ bY ∧ bY ≤ 1000) ∧ ¬ (ax = bx ∧ ay = bY) := by
  unfold okS at h
  simp only [Bool.and_eq_true, okP_iff, Bool.not_eq_true', ← Bool.not_eq_true, decide_eq_true_eq] at h
  exact ⟨h.1.1, h.1.2, h.2⟩
theorem p4_0 (a b c d : Int) : p4X a b c d 0 = a ∧ p4X a b c d 1 = b ∧ p4X a b c d 2 = c ∧ p4X a b c d 3 = d := ⟨rfl, rfl, rfl, rfl⟩
/-- The reference and the program take the same ends. -/
theorem cm_same {sAX sAY sBX sBY tAX tAY tBX tBY : Int} (hs : okS sAX sAY sBX sBY = true) (ht : okS tAX tAY tBX tBY = true) : ∀ j : Nat, j < 4 →
    (cmQ sAX sAY sBX sBY tAX tAY tBX tBY j = true ↔ ccB sAX sAY sBX sBY tAX tAY tBX tBY j = true ∧ ¬ ∃ i : Int, (0 ≤ i ∧ i < j) ∧ ccB sAX sAY sBX sBY tAX tAY tBX tBY i = true ∧ p4X sAX sBX tAX tBX i = p4X sAX sBX tAX tBX j ∧ p4X sAY sBY tAY tBY i = p4X sAY sBY tAY tBY j) := by
  have h1 := (okS_ne hs).2.2
  have h2 := (okS_ne ht).2.2
  have s0 := (onB_end (ax := sAX) (ay := sAY) (bx := sBX) (bY := sBY)).1
  have s1 := (onB_end (ax := sAX) (ay := sAY) (bx := sBX) (bY := sBY)).2
  have t0 := (onB_end (ax := tAX) (ay := tAY) (bx := tBX) (bY := tBY)).1
  have t1 := (onB_end (ax := tAX) (ay := tAY) (bx := tBX) (bY := tBY)).2
  have c0 : ccB sAX sAY sBX sBY tAX tAY tBX tBY 0 = onB tAX tAY tBX tBY sAX sAY := by show (onB sAX sAY sBX sBY sAX sAY && onB tAX tAY tBX tBY sAX sAY) = _; rw [s0, Bool.true_and]
  have c1 : ccB sAX sAY sBX sBY tAX tAY tBX tBY 1 = onB tAX tAY tBX tBY sBX sBY := by show (onB sAX sAY sBX sBY sBX sBY && onB tAX tAY tBX tBY sBX sBY) = _; rw [s1, Bool.true_and]
  have c2 : ccB sAX sAY sBX sBY tAX tAY tBX tBY 2 = onB sAX sAY sBX sBY tAX tAY := by show (onB sAX sAY sBX sBY tAX tAY && onB tAX tAY tBX tBY tAX tAY) = _; rw [t0, Bool.and_true]
  have c3 : ccB sAX sAY sBX sBY tAX tAY tBX tBY 3 = onB sAX sAY sBX sBY tBX tBY := by show (onB sAX sAY sBX sBY tBX tBY && onB tAX tAY tBX tBY tBX tBY) = _; rw [t1, Bool.and_true]
  have q0 : cmQ sAX sAY sBX sBY tAX tAY tBX tBY 0 = onB tAX tAY tBX tBY sAX sAY := rfl
  have q1 : cmQ sAX sAY sBX sBY tAX tAY tBX tBY 1 = onB tAX tAY tBX tBY sBX sBY := rfl
  have q2 : cmQ sAX sAY sBX sBY tAX tAY tBX tBY 2 = (onB sAX sAY sBX sBY tAX tAY && !(isE tAX tAY tBX tBY tAX tAY && isE sAX sAY sBX sBY tAX tAY)) := rfl
  have q3 : cmQ sAX sAY sBX sBY tAX tAY tBX tBY 3 = (onB sAX sAY sBX sBY tBX tBY && !(isE tAX tAY tBX tBY tBX tBY && isE sAX sAY sBX sBY tBX tBY)) := rfl
  have same : ∀ x y, onB tAX tAY tBX tBY x y = true → ∀ u v, x = u → y = v → onB tAX tAY tBX tBY u v = true := fun x y h u v e1 e2 => by subst e1; subst e2; exact h
  intro j hj
  obtain e | e | e | e : j = 0 ∨ j = 1 ∨ j = 2 ∨ j = 3 := by omega
  · subst e
    show cmQ sAX sAY sBX sBY tAX tAY tBX tBY 0 = true ↔ ccB sAX sAY sBX sBY tAX tAY tBX tBY 0 = true ∧ _
    rw [q0, c0]
    exact ⟨fun h => ⟨h, fun ⟨i, hi, _⟩ => by omega⟩, fun h => h.1⟩
  · subst e
    show cmQ sAX sAY sBX sBY tAX tAY tBX tBY 1 = true ↔ ccB sAX sAY sBX sBY tAX tAY tBX tBY 1 = true ∧ _
    rw [q1, c1]
    refine ⟨fun h => ⟨h, fun ⟨i, hi, _, h3, h4⟩ => ?_⟩, fun h => h.1⟩
    obtain rfl : i = 0 := by omega
    exact h1 ⟨h3, h4⟩
  · subst e
    show cmQ sAX sAY sBX sBY tAX tAY tBX tBY 2 = true ↔ ccB sAX sAY sBX sBY tAX tAY tBX tBY 2 = true ∧ _
    rw [q2, c2]
    have et : isE tAX tAY tBX tBY tAX tAY = true := by simp [isE]
    rw [et, Bool.true_and, Bool.and_eq_true]
    refine and_congr_right fun hon => ?_
    constructor
    · rintro h ⟨i, hi, h3, h4, h5⟩
      have h4' : p4X sAX sBX tAX tBX i = tAX := h4
      have h5' : p4X sAY sBY tAY tBY i = tAY := h5
      have hn : isE sAX sAY sBX sBY tAX tAY = true := by
        obtain rfl | rfl : i = 0 ∨ i = 1 := by omega
        · have a : sAX = tAX := h4'
          have b : sAY = tAY := h5'
          simp [isE, a, b]
        · have a : sBX = tAX := h4'
          have b : sBY = tAY := h5'
          simp [isE, a, b]
      rw [hn] at h; cases h
    · intro h
      cases hn : isE sAX sAY sBX sBY tAX tAY with
      | false => rfl
      | true =>
        exfalso
        apply h
        simp only [isE, Bool.or_eq_true, Bool.and_eq_true, decide_eq_true_eq] at hn
        rcases hn with ⟨a, b⟩ | ⟨a, b⟩
        · exact ⟨0, by decide, by rw [c0]; exact same tAX tAY t0 _ _ a b, a.symm, b.symm⟩
        · exact ⟨1, by decide, by rw [c1]; exact same tAX tAY t0 _ _ a b, a.symm, b.symm⟩
  · subst e
    show cmQ sAX sAY sBX sBY tAX tAY tBX tBY 3 = true ↔ ccB sAX sAY sBX sBY tAX tAY tBX tBY 3 = true ∧ _
    rw [q3, c3]
    have et : isE tAX tAY tBX tBY tBX tBY = true := by simp [isE]
    rw [et, Bool.true_and, Bool.and_eq_true]
    refine and_congr_right fun hon => ?_
    constructor
    · rintro h ⟨i, hi, h3, h4, h5⟩
      have h4' : p4X sAX sBX tAX tBX i = tBX := h4
      have h5' : p4X sAY sBY tAY tBY i = tBY := h5
      obtain rfl | rfl | rfl : i = 0 ∨ i = 1 ∨ i = 2 := by omega
      · have a : sAX = tBX := h4'
        have b : sAY = tBY := h5'
        have hn : isE sAX sAY sBX sBY tBX tBY = true := by simp [isE, a, b]
        rw [hn] at h; cases h
      · have a : sBX = tBX := h4'
        have b : sBY = tBY := h5'
        have hn : isE sAX sAY sBX sBY tBX tBY = true := by simp [isE, a, b]
        rw [hn] at h; cases h
      · exact h2 ⟨h4', h5'⟩
    · intro h
      cases hn : isE sAX sAY sBX sBY tBX tBY with
      | false => rfl
      | true =>
        exfalso
        apply h
        simp only [isE, Bool.or_eq_true, Bool.and_eq_true, decide_eq_true_eq] at hn
        rcases hn with ⟨a, b⟩ | ⟨a, b⟩
        · exact ⟨0, by decide, by rw [c0]; exact same tBX tBY t1 _ _ a b, a.symm, b.symm⟩
        · exact ⟨1, by decide, by rw [c1]; exact same tBX tBY t1 _ _ a b, a.symm, b.symm⟩
def cmN (sAX sAY sBX sBY tAX tAY tBX tBY : Int) : Int := len' (fl (cmQ sAX sAY sBX sBY tAX tAY tBX tBY) 4)
theorem cm_len {sAX sAY sBX sBY tAX tAY tBX tBY : Int} (hs : okS sAX sAY sBX sBY = true) (ht : okS tAX tAY tBX tBY = true) : ceN sAX sAY sBX sBY tAX tAY tBX tBY 4 = cmN sAX sAY sBX sBY tAX tAY tBX tBY := ce_len 4 (cm_same hs ht) 4 (Nat.le_refl _)
def crsB (sAX sAY sBX sBY tAX tAY tBX tBY : Int) : Bool := decide (sgn (trn sAX sAY sBX sBY tAX tAY) * sgn (trn sAX sAY sBX sBY tBX tBY) < 0) && decide (sgn (trn tAX tAY tBX tBY sAX sAY) * sgn (trn tAX tAY tBX tBY sBX sBY) < 0)
def relN (n : Int) (c : Bool) : Int := if n = 0 then (if c = true then 2 else 0) else if n = 1 then 1 else 3
def relI (sAX sAY sBX sBY tAX tAY tBX tBY : Int) : Int := relN (cmN sAX sAY sBX sBY tAX tAY tBX tBY) (crsB sAX sAY sBX sBY tAX tAY tBX tBY)
def relS (sAX sAY sBX sBY tAX tAY tBX tBY : Int) : Int := relN (ceN sAX sAY sBX sBY tAX tAY tBX tBY 4) (crsB sAX sAY sBX sBY tAX tAY tBX tBY)
def relR (sAX sAY sBX sBY tAX tAY tBX tBY : Int) : Int := if okS sAX sAY sBX sBY = true ∧ okS tAX tAY tBX tBY = true then relI sAX sAY sBX sBY tAX tAY tBX tBY else -1
theorem rel_eq {sAX sAY sBX sBY tAX tAY tBX tBY : Int} (hs : okS sAX sAY sBX sBY = true) (ht : okS tAX tAY tBX tBY = true) : relS sAX sAY sBX sBY tAX tAY tBX tBY = relI sAX sAY sBX sBY tAX tAY tBX tBY := by unfold relS relI; rw [cm_len hs ht]
theorem i_relation (sAX : Int) (sAY : Int) (sBX : Int) (sBY : Int) (tAX : Int) (tAY : Int) (tBX : Int) (tBY : Int) : RunsTo Try.prog 71 [(.agg [(.int .i64 (.v fun _ => sAX) (-2002) 2002), (.int .i64 (.v fun _ => sAY) (-2002) 2002), (.int .i64 (.v fun _ => sBX) (-2002) 2002), (.int .i64 (.v fun _ => sBY) (-2002) 2002)]), (.agg [(.int .i64 (.v fun _ => tAX) (-2002) 2002), (.int .i64 (.v fun _ => tAY) (-2002) 2002), (.int .i64 (.v fun _ => tBX) (-2002) 2002), (.int .i64 (.v fun _ => tBY) (-2002) 2002)])] [] (.int .i64 (.v fun _ => relI sAX sAY sBX sBY tAX tAY tBX tBY) 0 3) [] := by
  refine RunsTo.go env Try.func71 rfl Try.call71 rfl rfl (fun _ _ => (.call (c_i_common sAX sAY sBX sBY tAX tAY tBX tBY) (.ite (.call (c_i_turn sAX sAY sBX sBY tAX tAY) (.call (c_i_sign (trn sAX sAY sBX sBY tAX tAY)) (.call (c_i_turn sAX sAY sBX sBY tBX tBY) (.call (c_i_sign (trn sAX sAY sBX sBY tBX tBY)) (.call (c_i_turn tAX tAY tBX tBY sAX sAY) (.call (c_i_sign (trn tAX tAY tBX tBY sAX sAY)) (.call (c_i_turn tAX tAY tBX tBY sBX sBY) (.call (c_i_sign (trn tAX tAY tBX tBY sBX sBY)) (.ite (.ite .ret .ret) .ret))))))))) (.ite .ret .ret)))) (G := ((((-2002) ≤ sAX ∧ sAX ≤ 2002) ∧ (((-2002) ≤ sAY ∧ sAY ≤ 2002) ∧ (((-2002) ≤ sBX ∧ sBX ≤ 2002) ∧ ((-2002) ≤ sBY ∧ sBY ≤ 2002)))) ∧ (((-2002) ≤ tAX ∧ tAX ≤ 2002) ∧ (((-2002) ≤ tAY ∧ tAY ≤ 2002) ∧ (((-2002) ≤ tBX ∧ tBX ≤ 2002) ∧ ((-2002) ≤ tBY ∧ tBY ≤ 2002))))) → (True) → ((((sAX = sAX) ∧ ((sAY = sAY) ∧ ((sBX = sBX) ∧ (sBY = sBY)))) ∧ ((tAX = tAX) ∧ ((tAY = tAY) ∧ ((tBX = tBX) ∧ (tBY = tBY))))) ∧ ((((len' (fl (cmQ sAX sAY sBX sBY tAX tAY tBX tBY) 4)) = 0) → ((((sAX = sAX) ∧ (sAY = sAY)) ∧ (((sBX = sBX) ∧ (sBY = sBY)) ∧ ((tAX = tAX) ∧ (tAY = tAY)))) ∧ (((trn sAX sAY sBX sBY tAX tAY) = (trn sAX sAY sBX sBY tAX tAY)) ∧ ((((sAX = sAX) ∧ (sAY = sAY)) ∧ (((sBX = sBX) ∧ (sBY = sBY)) ∧ ((tBX = tBX) ∧ (tBY = tBY)))) ∧ (((trn sAX sAY sBX sBY tBX tBY) = (trn sAX sAY sBX sBY tBX tBY)) ∧ ((((tAX = tAX) ∧ (tAY = tAY)) ∧ (((tBX = tBX) ∧ (tBY = tBY)) ∧ ((sAX = sAX) ∧ (sAY = sAY)))) ∧ (((trn tAX tAY tBX tBY sAX sAY) = (trn tAX tAY tBX tBY sAX sAY)) ∧ ((((tAX = tAX) ∧ (tAY = tAY)) ∧ (((tBX = tBX) ∧ (tBY = tBY)) ∧ ((sBX = sBX) ∧ (sBY = sBY)))) ∧ (((trn tAX tAY tBX tBY sBX sBY) = (trn tAX tAY tBX tBY sBX sBY)) ∧ (((((sgn (trn sAX sAY sBX sBY tAX tAY)) * (sgn (trn sAX sAY sBX sBY tBX tBY))) < 0) → (((((sgn (trn tAX tAY tBX tBY sAX sAY)) * (sgn (trn tAX tAY tBX tBY sBX sBY))) < 0) → ((2 : Int) = (relI sAX sAY sBX sBY tAX tAY tBX tBY))) ∧ ((0 ≤ ((sgn (trn tAX tAY tBX tBY sAX sAY)) * (sgn (trn tAX tAY tBX tBY sBX sBY)))) → ((0 : Int) = (relI sAX sAY sBX sBY tAX tAY tBX tBY))))) ∧ ((0 ≤ ((sgn (trn sAX sAY sBX sBY tAX tAY)) * (sgn (trn sAX sAY sBX sBY tBX tBY)))) → ((0 : Int) = (relI sAX sAY sBX sBY tAX tAY tBX tBY))))))))))))) ∧ (((len' (fl (cmQ sAX sAY sBX sBY tAX tAY tBX tBY) 4)) ≠ 0) → ((((len' (fl (cmQ sAX sAY sBX sBY tAX tAY tBX tBY) 4)) = 1) → ((1 : Int) = (relI sAX sAY sBX sBY tAX tAY tBX tBY))) ∧ (((len' (fl (cmQ sAX sAY sBX sBY tAX tAY tBX tBY) 4)) ≠ 1) → ((3 : Int) = (relI sAX sAY sBX sBY tAX tAY tBX tBY)))))))) (by kernel_rfl) ?_
  intro h1 h2
  refine ⟨⟨⟨rfl, ⟨rfl, ⟨rfl, rfl⟩⟩⟩, ⟨rfl, ⟨rfl, ⟨rfl, rfl⟩⟩⟩⟩, ?_, ?_⟩
  · intro c1
    refine ⟨⟨⟨rfl, rfl⟩, ⟨⟨rfl, rfl⟩, ⟨rfl, rfl⟩⟩⟩, rfl, ⟨⟨rfl, rfl⟩, ⟨⟨rfl, rfl⟩, ⟨rfl, rfl⟩⟩⟩, rfl, ⟨⟨rfl, rfl⟩, ⟨⟨rfl, rfl⟩, ⟨rfl, rfl⟩⟩⟩, rfl, ⟨⟨rfl, rfl⟩, ⟨⟨rfl, rfl⟩, ⟨rfl, rfl⟩⟩⟩, rfl, ?_, ?_⟩
    · intro c2
      refine ⟨?_, ?_⟩
      · intro c3
        have hc : crsB sAX sAY sBX sBY tAX tAY tBX tBY = true := (by unfold crsB; rw [Bool.and_eq_true, decide_eq_true_eq, decide_eq_true_eq]; constructor <;> assumption); first | (unfold relI relN cmN; rw [hc, if_pos (by omega)]; rfl) | (unfold relS relN; have hcb := ceN_bd sAX sAY sBX sBY tAX tAY tBX tBY (j := 4) (by omega); rw [hc, if_pos (by omega)]; rfl)
      · intro c4
        have hc : crsB sAX sAY sBX sBY tAX tAY tBX tBY = false := (by rw [← Bool.not_eq_true]; unfold crsB; rw [Bool.and_eq_true, decide_eq_true_eq, decide_eq_true_eq]; rintro ⟨x1, x2⟩; omega); first | (unfold relI relN cmN; rw [hc, if_pos (by omega)]; rfl) | (unfold relS relN; have hcb := ceN_bd sAX sAY sBX sBY tAX tAY tBX tBY (j := 4) (by omega); rw [hc, if_pos (by omega)]; rfl)
    · intro c5
      have hc : crsB sAX sAY sBX sBY tAX tAY tBX tBY = false := (by rw [← Bool.not_eq_true]; unfold crsB; rw [Bool.and_eq_true, decide_eq_true_eq, decide_eq_true_eq]; rintro ⟨x1, x2⟩; omega); first | (unfold relI relN cmN; rw [hc, if_pos (by omega)]; rfl) | (unfold relS relN; have hcb := ceN_bd sAX sAY sBX sBY tAX tAY tBX tBY (j := 4) (by omega); rw [hc, if_pos (by omega)]; rfl)
  · intro c6
    refine ⟨?_, ?_⟩
    · intro c7
      unfold relI relN cmN; rw [if_neg (by omega)]; first | (rw [if_pos (by omega)]; done) | (rw [if_neg (by omega)]; done)
    · intro c8
      unfold relI relN cmN; rw [if_neg (by omega)]; first | (rw [if_pos (by omega)]; done) | (rw [if_neg (by omega)]; done)
def c_i_relation (sAX : Int) (sAY : Int) (sBX : Int) (sBY : Int) (tAX : Int) (tAY : Int) (tBX : Int) (tBY : Int) : Cn Try.prog := ⟨_, _, _, _, _, i_relation sAX sAY sBX sBY tAX tAY tBX tBY⟩
theorem s_relation (sAX : Int) (sAY : Int) (sBX : Int) (sBY : Int) (tAX : Int) (tAY : Int) (tBX : Int) (tBY : Int) : RunsTo Try.prog 69 [(.agg [(.int .i64 (.v fun _ => sAX) (-2002) 2002), (.int .i64 (.v fun _ => sAY) (-2002) 2002), (.int .i64 (.v fun _ => sBX) (-2002) 2002), (.int .i64 (.v fun _ => sBY) (-2002) 2002)]), (.agg [(.int .i64 (.v fun _ => tAX) (-2002) 2002), (.int .i64 (.v fun _ => tAY) (-2002) 2002), (.int .i64 (.v fun _ => tBX) (-2002) 2002), (.int .i64 (.v fun _ => tBY) (-2002) 2002)])] [] (.int .i64 (.v fun _ => relS sAX sAY sBX sBY tAX tAY tBX tBY) 0 3) [] := by
  refine RunsTo.go env Try.func69 rfl Try.call69 rfl rfl (fun _ _ => (.call (c_s_commonEnds sAX sAY sBX sBY tAX tAY tBX tBY) (.ite .ret (.ite .ret (.call (c_s_cross sAX sAY sBX sBY tAX tAY) (.call (c_s_sign (trn sAX sAY sBX sBY tAX tAY)) (.call (c_s_cross sAX sAY sBX sBY tBX tBY) (.call (c_s_sign (trn sAX sAY sBX sBY tBX tBY)) (.ite (.call (c_s_cross tAX tAY tBX tBY sAX sAY) (.call (c_s_sign (trn tAX tAY tBX tBY sAX sAY)) (.call (c_s_cross tAX tAY tBX tBY sBX sBY) (.call (c_s_sign (trn tAX tAY tBX tBY sBX sBY)) (.ite .ret .ret))))) .ret))))))))) (G := ((((-2002) ≤ sAX ∧ sAX ≤ 2002) ∧ (((-2002) ≤ sAY ∧ sAY ≤ 2002) ∧ (((-2002) ≤ sBX ∧ sBX ≤ 2002) ∧ ((-2002) ≤ sBY ∧ sBY ≤ 2002)))) ∧ (((-2002) ≤ tAX ∧ tAX ≤ 2002) ∧ (((-2002) ≤ tAY ∧ tAY ≤ 2002) ∧ (((-2002) ≤ tBX ∧ tBX ≤ 2002) ∧ ((-2002) ≤ tBY ∧ tBY ≤ 2002))))) → (True) → ((((sAX = sAX) ∧ ((sAY = sAY) ∧ ((sBX = sBX) ∧ (sBY = sBY)))) ∧ ((tAX = tAX) ∧ ((tAY = tAY) ∧ ((tBX = tBX) ∧ (tBY = tBY))))) ∧ (((1 < (ceN sAX sAY sBX sBY tAX tAY tBX tBY 4)) → ((3 : Int) = (relS sAX sAY sBX sBY tAX tAY tBX tBY))) ∧ (((ceN sAX sAY sBX sBY tAX tAY tBX tBY 4) ≤ 1) → ((((ceN sAX sAY sBX sBY tAX tAY tBX tBY 4) = 1) → ((1 : Int) = (relS sAX sAY sBX sBY tAX tAY tBX tBY))) ∧ (((ceN sAX sAY sBX sBY tAX tAY tBX tBY 4) ≠ 1) → ((((sAX = sAX) ∧ (sAY = sAY)) ∧ (((sBX = sBX) ∧ (sBY = sBY)) ∧ ((tAX = tAX) ∧ (tAY = tAY)))) ∧ (((trn sAX sAY sBX sBY tAX tAY) = (trn sAX sAY sBX sBY tAX tAY)) ∧ ((((sAX = sAX) ∧ (sAY = sAY)) ∧ (((sBX = sBX) ∧ (sBY = sBY)) ∧ ((tBX = tBX) ∧ (tBY = tBY)))) ∧ (((trn sAX sAY sBX sBY tBX tBY) = (trn sAX sAY sBX sBY tBX tBY)) ∧ (((((sgn (trn sAX sAY sBX sBY tAX tAY)) * (sgn (trn sAX sAY sBX sBY tBX tBY))) < 0) → ((((tAX = tAX) ∧ (tAY = tAY)) ∧ (((tBX = tBX) ∧ (tBY = tBY)) ∧ ((sAX = sAX) ∧ (sAY = sAY)))) ∧ (((trn tAX tAY tBX tBY sAX sAY) = (trn tAX tAY tBX tBY sAX sAY)) ∧ ((((tAX = tAX) ∧ (tAY = tAY)) ∧ (((tBX = tBX) ∧ (tBY = tBY)) ∧ ((sBX = sBX) ∧ (sBY = sBY)))) ∧ (((trn tAX tAY tBX tBY sBX sBY) = (trn tAX tAY tBX tBY sBX sBY)) ∧ (((((sgn (trn tAX tAY tBX tBY sAX sAY)) * (sgn (trn tAX tAY tBX tBY sBX sBY))) < 0) → ((2 : Int) = (relS sAX sAY sBX sBY tAX tAY tBX tBY))) ∧ ((0 ≤ ((sgn (trn tAX tAY tBX tBY sAX sAY)) * (sgn (trn tAX tAY tBX tBY sBX sBY)))) → ((0 : Int) = (relS sAX sAY sBX sBY tAX tAY tBX tBY))))))))) ∧ ((0 ≤ ((sgn (trn sAX sAY sBX sBY tAX tAY)) * (sgn (trn sAX sAY sBX sBY tBX tBY)))) → ((0 : Int) = (relS sAX sAY sBX sBY tAX tAY tBX tBY)))))))))))))) (by kernel_rfl) ?_
  intro h1 h2
  refine ⟨⟨⟨rfl, ⟨rfl, ⟨rfl, rfl⟩⟩⟩, ⟨rfl, ⟨rfl, ⟨rfl, rfl⟩⟩⟩⟩, ?_, ?_⟩
  · intro c1
    unfold relS relN; rw [if_neg (by omega)]; first | (rw [if_pos (by omega)]; done) | (rw [if_neg (by omega)]; done)
  · intro c2
    refine ⟨?_, ?_⟩
    · intro c3
      unfold relS relN; rw [if_neg (by omega)]; first | (rw [if_pos (by omega)]; done) | (rw [if_neg (by omega)]; done)
    · intro c4
      refine ⟨⟨⟨rfl, rfl⟩, ⟨⟨rfl, rfl⟩, ⟨rfl, rfl⟩⟩⟩, rfl, ⟨⟨rfl, rfl⟩, ⟨⟨rfl, rfl⟩, ⟨rfl, rfl⟩⟩⟩, rfl, ?_, ?_⟩
      · intro c5
        refine ⟨⟨⟨rfl, rfl⟩, ⟨⟨rfl, rfl⟩, ⟨rfl, rfl⟩⟩⟩, rfl, ⟨⟨rfl, rfl⟩, ⟨⟨rfl, rfl⟩, ⟨rfl, rfl⟩⟩⟩, rfl, ?_, ?_⟩
        · intro c6
          have hc : crsB sAX sAY sBX sBY tAX tAY tBX tBY = true := (by unfold crsB; rw [Bool.and_eq_true, decide_eq_true_eq, decide_eq_true_eq]; constructor <;> assumption); first | (unfold relI relN cmN; rw [hc, if_pos (by omega)]; rfl) | (unfold relS relN; have hcb := ceN_bd sAX sAY sBX sBY tAX tAY tBX tBY (j := 4) (by omega); rw [hc, if_pos (by omega)]; rfl)
        · intro c7
          have hc : crsB sAX sAY sBX sBY tAX tAY tBX tBY = false := (by rw [← Bool.not_eq_true]; unfold crsB; rw [Bool.and_eq_true, decide_eq_true_eq, decide_eq_true_eq]; rintro ⟨x1, x2⟩; omega); first | (unfold relI relN cmN; rw [hc, if_pos (by omega)]; rfl) | (unfold relS relN; have hcb := ceN_bd sAX sAY sBX sBY tAX tAY tBX tBY (j := 4) (by omega); rw [hc, if_pos (by omega)]; rfl)
      · intro c8
        have hc : crsB sAX sAY sBX sBY tAX tAY tBX tBY = false := (by rw [← Bool.not_eq_true]; unfold crsB; rw [Bool.and_eq_true, decide_eq_true_eq, decide_eq_true_eq]; rintro ⟨x1, x2⟩; omega); first | (unfold relI relN cmN; rw [hc, if_pos (by omega)]; rfl) | (unfold relS relN; have hcb := ceN_bd sAX sAY sBX sBY tAX tAY tBX tBY (j := 4) (by omega); rw [hc, if_pos (by omega)]; rfl)
def c_s_relation (sAX : Int) (sAY : Int) (sBX : Int) (sBY : Int) (tAX : Int) (tAY : Int) (tBX : Int) (tBY : Int) : Cn Try.prog := ⟨_, _, _, _, _, s_relation sAX sAY sBX sBY tAX tAY tBX tBY⟩
theorem i_wSvalid (sAX : Int) (sAY : Int) (sBX : Int) (sBY : Int) : RunsTo Try.prog 70 [(.agg [(.int .i64 (.v fun _ => sAX) (-9223372036854775808) 9223372036854775807), (.int .i64 (.v fun _ => sAY) (-9223372036854775808) 9223372036854775807), (.int .i64 (.v fun _ => sBX) (-9223372036854775808) 9223372036854775807), (.int .i64 (.v fun _ => sBY) (-9223372036854775808) 9223372036854775807)])] [] (.bool (.v fun _ => okS sAX sAY sBX sBY)) [] := by
  refine RunsTo.go env Try.func70 rfl Try.call70 rfl rfl (fun _ _ => (.call (c_i_allValid (selL [sAX, sBX]) (selL [sAY, sBY]) 2) (.ite .ret .ret))) (G := (((-9223372036854775808) ≤ sAX ∧ sAX ≤ 9223372036854775807) ∧ (((-9223372036854775808) ≤ sAY ∧ sAY ≤ 9223372036854775807) ∧ (((-9223372036854775808) ≤ sBX ∧ sBX ≤ 9223372036854775807) ∧ ((-9223372036854775808) ≤ sBY ∧ sBY ≤ 9223372036854775807)))) → (True) → (((2 : Int) = 2) ∧ ((((2 : Int) = 2) ∧ ((∀ e2 : E, ((e2.den = 0) → ((sAX = (selL [sAX, sBX] (e2.den))) ∧ (sAY = (selL [sAY, sBY] (e2.den)))))) ∧ (∀ e1 : E, ((e1.den = 1) → ((sBX = (selL [sAX, sBX] (e1.den))) ∧ (sBY = (selL [sAY, sBY] (e1.den)))))))) ∧ ((((allB (fun i => okP (selL [sAX, sBX] i) (selL [sAY, sBY] i)) 2) = true) → ((((sAX ≠ sBX) ∨ (sAY ≠ sBY))) ↔ ((okS sAX sAY sBX sBY) = true))) ∧ (((allB (fun i => okP (selL [sAX, sBX] i) (selL [sAY, sBY] i)) 2) = false) → ((okS sAX sAY sBX sBY) = false)))))) (by kernel_rfl) ?_
  intro h1 h2
  refine ⟨rfl, ?_, ?_, ?_⟩
  · refine ⟨rfl, ?_, ?_⟩
    · intro e2
      intro c3
      refine ⟨?_, ?_⟩
      · simp_all [selL]; done
      · simp_all [selL]; done
    · intro e1
      intro c4
      refine ⟨?_, ?_⟩
      · simp_all [selL]; done
      · simp_all [selL]; done
  · intro c5
    simp_all [okS, al2]; done
  · intro c6
    simp_all [okS, al2]; done
def c_i_wSvalid (sAX : Int) (sAY : Int) (sBX : Int) (sBY : Int) : Cn Try.prog := ⟨_, _, _, _, _, i_wSvalid sAX sAY sBX sBY⟩
theorem s_wvalidSegment (sAX : Int) (sAY : Int) (sBX : Int) (sBY : Int) : RunsTo Try.prog 68 [(.agg [(.int .i64 (.v fun _ => sAX) (-9223372036854775808) 9223372036854775807), (.int .i64 (.v fun _ => sAY) (-9223372036854775808) 9223372036854775807), (.int .i64 (.v fun _ => sBX) (-9223372036854775808) 9223372036854775807), (.int .i64 (.v fun _ => sBY) (-9223372036854775808) 9223372036854775807)])] [] (.bool (.v fun _ => okS sAX sAY sBX sBY)) [] := by
  refine RunsTo.go env Try.func68 rfl Try.call68 rfl rfl (fun _ _ => (.call (c_s_validPoint sAX sAY) (.ite (.call (c_s_validPoint sBX sBY) (.ite .ret .ret)) .ret))) (G := (((-9223372036854775808) ≤ sAX ∧ sAX ≤ 9223372036854775807) ∧ (((-9223372036854775808) ≤ sAY ∧ sAY ≤ 9223372036854775807) ∧ (((-9223372036854775808) ≤ sBX ∧ sBX ≤ 9223372036854775807) ∧ ((-9223372036854775808) ≤ sBY ∧ sBY ≤ 9223372036854775807)))) → (True) → (((sAX = sAX) ∧ (sAY = sAY)) ∧ ((((okP sAX sAY) = true) → (((sBX = sBX) ∧ (sBY = sBY)) ∧ ((((okP sBX sBY) = true) → ((((sAX ≠ sBX) ∨ (sAY ≠ sBY))) ↔ ((okS sAX sAY sBX sBY) = true))) ∧ (((okP sBX sBY) = false) → ((okS sAX sAY sBX sBY) = false))))) ∧ (((okP sAX sAY) = false) → ((okS sAX sAY sBX sBY) = false))))) (by kernel_rfl) ?_
  intro h1 h2
  refine ⟨⟨rfl, rfl⟩, ?_, ?_⟩
  · intro c1
    refine ⟨⟨rfl, rfl⟩, ?_, ?_⟩
    · intro c2
      simp_all [okS, al2]; done
    · intro c3
      simp_all [okS, al2]; done
  · intro c4
    simp_all [okS, al2]; done
def c_s_wvalidSegment (sAX : Int) (sAY : Int) (sBX : Int) (sBY : Int) : Cn Try.prog := ⟨_, _, _, _, _, s_wvalidSegment sAX sAY sBX sBY⟩
theorem i_Relation (sAX : Int) (sAY : Int) (sBX : Int) (sBY : Int) (tAX : Int) (tAY : Int) (tBX : Int) (tBY : Int) : RunsTo Try.prog 27 [(.agg [(.int .i64 (.v fun _ => sAX) (-9223372036854775808) 9223372036854775807), (.int .i64 (.v fun _ => sAY) (-9223372036854775808) 9223372036854775807), (.int .i64 (.v fun _ => sBX) (-9223372036854775808) 9223372036854775807), (.int .i64 (.v fun _ => sBY) (-9223372036854775808) 9223372036854775807)]), (.agg [(.int .i64 (.v fun _ => tAX) (-9223372036854775808) 9223372036854775807), (.int .i64 (.v fun _ => tAY) (-9223372036854775808) 9223372036854775807), (.int .i64 (.v fun _ => tBX) (-9223372036854775808) 9223372036854775807), (.int .i64 (.v fun _ => tBY) (-9223372036854775808) 9223372036854775807)])] [] (.int .i64 (.v fun _ => relR sAX sAY sBX sBY tAX tAY tBX tBY) (-1) 3) [] := by
  refine RunsTo.go env Try.func27 rfl Try.call27 rfl rfl (fun _ _ => (.call (c_i_wSvalid sAX sAY sBX sBY) (.ite .ret (.call (c_i_wSvalid tAX tAY tBX tBY) (.ite .ret (.call (c_i_relation sAX sAY sBX sBY tAX tAY tBX tBY) .ret)))))) (G := ((((-9223372036854775808) ≤ sAX ∧ sAX ≤ 9223372036854775807) ∧ (((-9223372036854775808) ≤ sAY ∧ sAY ≤ 9223372036854775807) ∧ (((-9223372036854775808) ≤ sBX ∧ sBX ≤ 9223372036854775807) ∧ ((-9223372036854775808) ≤ sBY ∧ sBY ≤ 9223372036854775807)))) ∧ (((-9223372036854775808) ≤ tAX ∧ tAX ≤ 9223372036854775807) ∧ (((-9223372036854775808) ≤ tAY ∧ tAY ≤ 9223372036854775807) ∧ (((-9223372036854775808) ≤ tBX ∧ tBX ≤ 9223372036854775807) ∧ ((-9223372036854775808) ≤ tBY ∧ tBY ≤ 9223372036854775807))))) → (True) → (((sAX = sAX) ∧ ((sAY = sAY) ∧ ((sBX = sBX) ∧ (sBY = sBY)))) ∧ ((((okS sAX sAY sBX sBY) = false) → (((-1) : Int) = (relR sAX sAY sBX sBY tAX tAY tBX tBY))) ∧ (((okS sAX sAY sBX sBY) = true) → (((tAX = tAX) ∧ ((tAY = tAY) ∧ ((tBX = tBX) ∧ (tBY = tBY)))) ∧ ((((okS tAX tAY tBX tBY) = false) → (((-1) : Int) = (relR sAX sAY sBX sBY tAX tAY tBX tBY))) ∧ (((okS tAX tAY tBX tBY) = true) → (((((sAX = sAX) ∧ (((-9223372036854775808) ≤ sAX ∧ sAX ≤ 9223372036854775807) → ((-2002) ≤ sAX ∧ sAX ≤ 2002))) ∧ (((sAY = sAY) ∧ (((-9223372036854775808) ≤ sAY ∧ sAY ≤ 9223372036854775807) → ((-2002) ≤ sAY ∧ sAY ≤ 2002))) ∧ (((sBX = sBX) ∧ (((-9223372036854775808) ≤ sBX ∧ sBX ≤ 9223372036854775807) → ((-2002) ≤ sBX ∧ sBX ≤ 2002))) ∧ ((sBY = sBY) ∧ (((-9223372036854775808) ≤ sBY ∧ sBY ≤ 9223372036854775807) → ((-2002) ≤ sBY ∧ sBY ≤ 2002)))))) ∧ (((tAX = tAX) ∧ (((-9223372036854775808) ≤ tAX ∧ tAX ≤ 9223372036854775807) → ((-2002) ≤ tAX ∧ tAX ≤ 2002))) ∧ (((tAY = tAY) ∧ (((-9223372036854775808) ≤ tAY ∧ tAY ≤ 9223372036854775807) → ((-2002) ≤ tAY ∧ tAY ≤ 2002))) ∧ (((tBX = tBX) ∧ (((-9223372036854775808) ≤ tBX ∧ tBX ≤ 9223372036854775807) → ((-2002) ≤ tBX ∧ tBX ≤ 2002))) ∧ ((tBY = tBY) ∧ (((-9223372036854775808) ≤ tBY ∧ tBY ≤ 9223372036854775807) → ((-2002) ≤ tBY ∧ tBY ≤ 2002))))))) ∧ ((relI sAX sAY sBX sBY tAX tAY tBX tBY) = (relR sAX sAY sBX sBY tAX tAY tBX tBY)))))))))) (by kernel_rfl) ?_
  intro h1 h2
  refine ⟨⟨rfl, ⟨rfl, ⟨rfl, rfl⟩⟩⟩, ?_, ?_⟩
  · intro c1
    unfold relR; first | rw [if_neg (by rintro ⟨x1, x2⟩; simp_all)] | fail
  · intro c2
    refine ⟨⟨rfl, ⟨rfl, ⟨rfl, rfl⟩⟩⟩, ?_, ?_⟩
    · intro c3
      unfold relR; first | rw [if_neg (by rintro ⟨x1, x2⟩; simp_all)] | fail
    · intro c4
      refine ⟨?_, ?_⟩
      · refine ⟨?_, ?_, ?_, ?_, rfl, ?_⟩
        · refine ⟨?_, ?_, ?_, rfl, ?_⟩
          · refine ⟨rfl, ?_⟩
            intro c5
            have ho := okS_ne (ax := sAX) (ay := sAY) (bx := sBX) (bY := sBY) (by assumption); have hq := okS_ne (ax := tAX) (ay := tAY) (bx := tBX) (bY := tBY) (by assumption); omega
          · refine ⟨rfl, ?_⟩
            intro c6
            have ho := okS_ne (ax := sAX) (ay := sAY) (bx := sBX) (bY := sBY) (by assumption); have hq := okS_ne (ax := tAX) (ay := tAY) (bx := tBX) (bY := tBY) (by assumption); omega
          · refine ⟨rfl, ?_⟩
            intro c7
            have ho := okS_ne (ax := sAX) (ay := sAY) (bx := sBX) (bY := sBY) (by assumption); have hq := okS_ne (ax := tAX) (ay := tAY) (bx := tBX) (bY := tBY) (by assumption); omega
          · intro c8
            have ho := okS_ne (ax := sAX) (ay := sAY) (bx := sBX) (bY := sBY) (by assumption); have hq := okS_ne (ax := tAX) (ay := tAY) (bx := tBX) (bY := tBY) (by assumption); omega
        · refine ⟨rfl, ?_⟩
          intro c9
          have ho := okS_ne (ax := sAX) (ay := sAY) (bx := sBX) (bY := sBY) (by assumption); have hq := okS_ne (ax := tAX) (ay := tAY) (bx := tBX) (bY := tBY) (by assumption); omega
        · refine ⟨rfl, ?_⟩
          intro c10
          have ho := okS_ne (ax := sAX) (ay := sAY) (bx := sBX) (bY := sBY) (by assumption); have hq := okS_ne (ax := tAX) (ay := tAY) (bx := tBX) (bY := tBY) (by assumption); omega
        · refine ⟨rfl, ?_⟩
          intro c11
          have ho := okS_ne (ax := sAX) (ay := sAY) (bx := sBX) (bY := sBY) (by assumption); have hq := okS_ne (ax := tAX) (ay := tAY) (bx := tBX) (bY := tBY) (by assumption); omega
        · intro c12
          have ho := okS_ne (ax := sAX) (ay := sAY) (bx := sBX) (bY := sBY) (by assumption); have hq := okS_ne (ax := tAX) (ay := tAY) (bx := tBX) (bY := tBY) (by assumption); omega
      · unfold relR; rw [if_pos (by constructor <;> assumption)]; first | done | exact rel_eq (by assumption) (by assumption)
def c_i_Relation (sAX : Int) (sAY : Int) (sBX : Int) (sBY : Int) (tAX : Int) (tAY : Int) (tBX : Int) (tBY : Int) : Cn Try.prog := ⟨_, _, _, _, _, i_Relation sAX sAY sBX sBY tAX tAY tBX tBY⟩
theorem s_Relation (sAX : Int) (sAY : Int) (sBX : Int) (sBY : Int) (tAX : Int) (tAY : Int) (tBX : Int) (tBY : Int) : RunsTo Try.prog 25 [(.agg [(.int .i64 (.v fun _ => sAX) (-9223372036854775808) 9223372036854775807), (.int .i64 (.v fun _ => sAY) (-9223372036854775808) 9223372036854775807), (.int .i64 (.v fun _ => sBX) (-9223372036854775808) 9223372036854775807), (.int .i64 (.v fun _ => sBY) (-9223372036854775808) 9223372036854775807)]), (.agg [(.int .i64 (.v fun _ => tAX) (-9223372036854775808) 9223372036854775807), (.int .i64 (.v fun _ => tAY) (-9223372036854775808) 9223372036854775807), (.int .i64 (.v fun _ => tBX) (-9223372036854775808) 9223372036854775807), (.int .i64 (.v fun _ => tBY) (-9223372036854775808) 9223372036854775807)])] [] (.int .i64 (.v fun _ => relR sAX sAY sBX sBY tAX tAY tBX tBY) (-1) 3) [] := by
  refine RunsTo.go env Try.func25 rfl Try.call25 rfl rfl (fun _ _ => (.call (c_s_wvalidSegment sAX sAY sBX sBY) (.ite .ret (.call (c_s_wvalidSegment tAX tAY tBX tBY) (.ite .ret (.call (c_s_relation sAX sAY sBX sBY tAX tAY tBX tBY) .ret)))))) (G := ((((-9223372036854775808) ≤ sAX ∧ sAX ≤ 9223372036854775807) ∧ (((-9223372036854775808) ≤ sAY ∧ sAY ≤ 9223372036854775807) ∧ (((-9223372036854775808) ≤ sBX ∧ sBX ≤ 9223372036854775807) ∧ ((-9223372036854775808) ≤ sBY ∧ sBY ≤ 9223372036854775807)))) ∧ (((-9223372036854775808) ≤ tAX ∧ tAX ≤ 9223372036854775807) ∧ (((-9223372036854775808) ≤ tAY ∧ tAY ≤ 9223372036854775807) ∧ (((-9223372036854775808) ≤ tBX ∧ tBX ≤ 9223372036854775807) ∧ ((-9223372036854775808) ≤ tBY ∧ tBY ≤ 9223372036854775807))))) → (True) → (((sAX = sAX) ∧ ((sAY = sAY) ∧ ((sBX = sBX) ∧ (sBY = sBY)))) ∧ ((((okS sAX sAY sBX sBY) = false) → (((-1) : Int) = (relR sAX sAY sBX sBY tAX tAY tBX tBY))) ∧ (((okS sAX sAY sBX sBY) = true) → (((tAX = tAX) ∧ ((tAY = tAY) ∧ ((tBX = tBX) ∧ (tBY = tBY)))) ∧ ((((okS tAX tAY tBX tBY) = false) → (((-1) : Int) = (relR sAX sAY sBX sBY tAX tAY tBX tBY))) ∧ (((okS tAX tAY tBX tBY) = true) → (((((sAX = sAX) ∧ (((-9223372036854775808) ≤ sAX ∧ sAX ≤ 9223372036854775807) → ((-2002) ≤ sAX ∧ sAX ≤ 2002))) ∧ (((sAY = sAY) ∧ (((-9223372036854775808) ≤ sAY ∧ sAY ≤ 9223372036854775807) → ((-2002) ≤ sAY ∧ sAY ≤ 2002))) ∧ (((sBX = sBX) ∧ (((-9223372036854775808) ≤ sBX ∧ sBX ≤ 9223372036854775807) → ((-2002) ≤ sBX ∧ sBX ≤ 2002))) ∧ ((sBY = sBY) ∧ (((-9223372036854775808) ≤ sBY ∧ sBY ≤ 9223372036854775807) → ((-2002) ≤ sBY ∧ sBY ≤ 2002)))))) ∧ (((tAX = tAX) ∧ (((-9223372036854775808) ≤ tAX ∧ tAX ≤ 9223372036854775807) → ((-2002) ≤ tAX ∧ tAX ≤ 2002))) ∧ (((tAY = tAY) ∧ (((-9223372036854775808) ≤ tAY ∧ tAY ≤ 9223372036854775807) → ((-2002) ≤ tAY ∧ tAY ≤ 2002))) ∧ (((tBX = tBX) ∧ (((-9223372036854775808) ≤ tBX ∧ tBX ≤ 9223372036854775807) → ((-2002) ≤ tBX ∧ tBX ≤ 2002))) ∧ ((tBY = tBY) ∧ (((-9223372036854775808) ≤ tBY ∧ tBY ≤ 9223372036854775807) → ((-2002) ≤ tBY ∧ tBY ≤ 2002))))))) ∧ ((relS sAX sAY sBX sBY tAX tAY tBX tBY) = (relR sAX sAY sBX sBY tAX tAY tBX tBY)))))))))) (by kernel_rfl) ?_
  intro h1 h2
  refine ⟨⟨rfl, ⟨rfl, ⟨rfl, rfl⟩⟩⟩, ?_, ?_⟩
  · intro c1
    unfold relR; first | rw [if_neg (by rintro ⟨x1, x2⟩; simp_all)] | fail
  · intro c2
    refine ⟨⟨rfl, ⟨rfl, ⟨rfl, rfl⟩⟩⟩, ?_, ?_⟩
    · intro c3
      unfold relR; first | rw [if_neg (by rintro ⟨x1, x2⟩; simp_all)] | fail
    · intro c4
      refine ⟨?_, ?_⟩
      · refine ⟨?_, ?_, ?_, ?_, rfl, ?_⟩
        · refine ⟨?_, ?_, ?_, rfl, ?_⟩
          · refine ⟨rfl, ?_⟩
            intro c5
            have ho := okS_ne (ax := sAX) (ay := sAY) (bx := sBX) (bY := sBY) (by assumption); have hq := okS_ne (ax := tAX) (ay := tAY) (bx := tBX) (bY := tBY) (by assumption); omega
          · refine ⟨rfl, ?_⟩
            intro c6
            have ho := okS_ne (ax := sAX) (ay := sAY) (bx := sBX) (bY := sBY) (by assumption); have hq := okS_ne (ax := tAX) (ay := tAY) (bx := tBX) (bY := tBY) (by assumption); omega
          · refine ⟨rfl, ?_⟩
            intro c7
            have ho := okS_ne (ax := sAX) (ay := sAY) (bx := sBX) (bY := sBY) (by assumption); have hq := okS_ne (ax := tAX) (ay := tAY) (bx := tBX) (bY := tBY) (by assumption); omega
          · intro c8
            have ho := okS_ne (ax := sAX) (ay := sAY) (bx := sBX) (bY := sBY) (by assumption); have hq := okS_ne (ax := tAX) (ay := tAY) (bx := tBX) (bY := tBY) (by assumption); omega
        · refine ⟨rfl, ?_⟩
          intro c9
          have ho := okS_ne (ax := sAX) (ay := sAY) (bx := sBX) (bY := sBY) (by assumption); have hq := okS_ne (ax := tAX) (ay := tAY) (bx := tBX) (bY := tBY) (by assumption); omega
        · refine ⟨rfl, ?_⟩
          intro c10
          have ho := okS_ne (ax := sAX) (ay := sAY) (bx := sBX) (bY := sBY) (by assumption); have hq := okS_ne (ax := tAX) (ay := tAY) (bx := tBX) (bY := tBY) (by assumption); omega
        · refine ⟨rfl, ?_⟩
          intro c11
          have ho := okS_ne (ax := sAX) (ay := sAY) (bx := sBX) (bY := sBY) (by assumption); have hq := okS_ne (ax := tAX) (ay := tAY) (bx := tBX) (bY := tBY) (by assumption); omega
        · intro c12
          have ho := okS_ne (ax := sAX) (ay := sAY) (bx := sBX) (bY := sBY) (by assumption); have hq := okS_ne (ax := tAX) (ay := tAY) (bx := tBX) (bY := tBY) (by assumption); omega
      · unfold relR; rw [if_pos (by constructor <;> assumption)]; first | done | exact rel_eq (by assumption) (by assumption)
def c_s_Relation (sAX : Int) (sAY : Int) (sBX : Int) (sBY : Int) (tAX : Int) (tAY : Int) (tBX : Int) (tBY : Int) : Cn Try.prog := ⟨_, _, _, _, _, s_Relation sAX sAY sBX sBY tAX tAY tBX tBY⟩
end Go.Proofs.Ytoielngedkbmbaa
