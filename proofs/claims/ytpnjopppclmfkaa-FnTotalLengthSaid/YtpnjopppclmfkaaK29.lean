/- Points in order, each once. -/
import Derived.Test.YtpnjopppclmfkaaK6
import Derived.Test.YtpnjopppclmfkaaSo
import Derived.Test.YtpnjopppclmfkaaLa
set_option linter.unusedSimpArgs false
set_option linter.unusedVariables false
set_option maxRecDepth 100000
namespace Go.Proofs.Ytpnjopppclmfkaa
open Go.Sym
def ltP (ax ay bx bY : Int) : Bool := decide (ax < bx) || (decide (ax = bx) && decide (ay < bY))
theorem ltP_iff {ax ay bx bY : Int} : ltP ax ay bx bY = true ↔ ax < bx ∨ (ax = bx ∧ ay < bY) := by unfold ltP; simp
theorem ltP_ff {ax ay bx bY : Int} : ltP ax ay bx bY = false ↔ ¬ (ax < bx ∨ (ax = bx ∧ ay < bY)) := by rw [← ltP_iff]; simp
def posF (q : Int → Bool) : Nat → Int → Int
  | 0, j => j
  | f + 1, j => if q j = true then posF q f (j + 1) else j
theorem posF_eq (q : Int → Bool) : ∀ (f : Nat) (j k : Int), j ≤ k → k ≤ j + f → (∀ i, j ≤ i → i < k → q i = true) → (k < j + f → q k = false) → posF q f j = k
  | 0, j, k, h1, h2, _, _ => by rw [posF]; omega
  | f + 1, j, k, h1, h2, h3, h4 => by
    rw [posF]
    by_cases hj : j = k
    · subst hj
      rw [h4 (by omega)]
      rfl
    · rw [if_pos (h3 j (by omega) (by omega))]
      exact posF_eq q f (j + 1) k (by omega) (by omega) (fun i a b => h3 i (by omega) b) (fun h => h4 (by omega))
theorem posF_spec (q : Int → Bool) : ∀ (f : Nat) (j : Int), j ≤ posF q f j ∧ posF q f j ≤ j + f ∧ (∀ i, j ≤ i → i < posF q f j → q i = true) ∧ (posF q f j < j + f → q (posF q f j) = false)
  | 0, j => by rw [posF]; exact ⟨by omega, by omega, fun i a b => by omega, fun h => by omega⟩
  | f + 1, j => by
    rw [posF]
    by_cases hj : q j = true
    · rw [if_pos hj]
      obtain ⟨a, b, c, d⟩ := posF_spec q f (j + 1)
      refine ⟨by omega, by omega, fun i h1 h2 => ?_, fun h => d (by omega)⟩
      by_cases e : i = j
      · rw [e]; exact hj
      · exact c i (by omega) h2
    · rw [if_neg hj]
      exact ⟨by omega, by omega, fun i a b => by omega, fun _ => by simpa using hj⟩
/-- The first place that is not before a point. -/
def ipos (X Y : Int → Int) (n px py : Int) : Int := posF (fun i => ltP (X i) (Y i) px py) n.toNat 0
theorem ipos_eq {X Y : Int → Int} {n px py k : Int} (h0 : 0 ≤ k) (h1 : k ≤ n) (h2 : ∀ i, 0 ≤ i → i < k → ltP (X i) (Y i) px py = true) (h3 : k < n → ltP (X k) (Y k) px py = false) : ipos X Y n px py = k :=
  posF_eq _ _ _ _ h0 (by omega) h2 (fun h => h3 (by omega))
theorem ipos_spec (X Y : Int → Int) {n : Int} (px py : Int) (hn : 0 ≤ n) : 0 ≤ ipos X Y n px py ∧ ipos X Y n px py ≤ n ∧ (∀ i, 0 ≤ i → i < ipos X Y n px py → ltP (X i) (Y i) px py = true) ∧ (ipos X Y n px py < n → ltP (X (ipos X Y n px py)) (Y (ipos X Y n px py)) px py = false) := by
  obtain ⟨a, b, c, d⟩ := posF_spec (fun i => ltP (X i) (Y i) px py) n.toNat 0
  exact ⟨a, by unfold ipos; omega, c, fun h => d (by unfold ipos at h; omega)⟩
def insD (X Y : Int → Int) (n px py : Int) : Bool := decide (ipos X Y n px py < n) && (decide (X (ipos X Y n px py) = px) && decide (Y (ipos X Y n px py) = py))
def insN (X Y : Int → Int) (n px py : Int) : Int := if insD X Y n px py = true then n else n + 1
def insF (D : Bool) (k : Int) (A : Int → Int) (v i : Int) : Int := if D = true then A i else if i < k then A i else if i = k then v else A (i - 1)
def insX (X Y : Int → Int) (n px py i : Int) : Int := insF (insD X Y n px py) (ipos X Y n px py) X px i
def insY (X Y : Int → Int) (n px py i : Int) : Int := insF (insD X Y n px py) (ipos X Y n px py) Y py i
theorem insF_cat {D : Bool} {k : Int} {A : Int → Int} {v i : Int} (hD : D = false) : (if decide (i < k + 1) = true then (if decide (i < k) = true then A i else v) else A (i - (k + 1) + k)) = insF D k A v i := by
  unfold insF
  subst hD
  simp only [Bool.false_eq_true, if_false, decide_eq_true_eq]
  by_cases h1 : i < k
  · rw [if_pos (by omega), if_pos h1, if_pos h1]
  · by_cases h2 : i = k
    · rw [if_pos (by omega), if_neg h1, if_neg h1, if_pos h2]
    · rw [if_neg (by omega), if_neg h1, if_neg h2, show i - (k + 1) + k = i - 1 by omega]
theorem insF_bd {D : Bool} {k n : Int} {A : Int → Int} {v lo hi : Int} (hA : ∀ i, 0 ≤ i → i < n → lo ≤ A i ∧ A i ≤ hi) (hv : lo ≤ v ∧ v ≤ hi) (hk : 0 ≤ k) (i : Int) (h0 : 0 ≤ i) (h1 : i < if D = true then n else n + 1) (hkn : k ≤ n) : lo ≤ insF D k A v i ∧ insF D k A v i ≤ hi := by
  unfold insF
  cases D
  · simp only [Bool.false_eq_true, if_false] at h1 ⊢
    by_cases e : i < k
    · rw [if_pos e]; exact hA i h0 (by omega)
    · rw [if_neg e]
      by_cases e2 : i = k
      · rw [if_pos e2]; exact hv
      · rw [if_neg e2]; exact hA _ (by omega) (by omega)
  · simp only [if_true] at h1 ⊢
    exact hA i h0 h1
/-- In order, each once. -/
def srtP (X Y : Int → Int) (n : Int) : Prop := ∀ i j, 0 ≤ i → i < j → j < n → ltP (X i) (Y i) (X j) (Y j) = true
def memP (X Y : Int → Int) (n px py : Int) : Prop := ∃ i, (0 ≤ i ∧ i < n) ∧ X i = px ∧ Y i = py
theorem insD_iff {X Y : Int → Int} {n : Int} (px py : Int) (hn : 0 ≤ n) (hs : srtP X Y n) : insD X Y n px py = true ↔ memP X Y n px py := by
  obtain ⟨a, b, c, d⟩ := ipos_spec X Y px py hn
  unfold insD
  simp only [Bool.and_eq_true, decide_eq_true_eq]
  constructor
  · rintro ⟨h1, h2, h3⟩
    exact ⟨_, ⟨a, h1⟩, h2, h3⟩
  · rintro ⟨i, ⟨h1, h2⟩, h3, h4⟩
    generalize ipos X Y n px py = k at *
    have hik : ¬ i < k := fun h => by
      have := c i h1 h
      rw [h3, h4, ltP_iff] at this
      omega
    by_cases e : i = k
    · subst e; exact ⟨h2, h3, h4⟩
    · exfalso
      have h5 := hs k i a (by omega) h2
      rw [h3, h4, d (by omega)] at h5
      cases h5
theorem ins_ok {X Y : Int → Int} {n : Int} (px py : Int) (hn : 0 ≤ n) (hs : srtP X Y n) :
    srtP (insX X Y n px py) (insY X Y n px py) (insN X Y n px py) ∧ ∀ qx qy, memP (insX X Y n px py) (insY X Y n px py) (insN X Y n px py) qx qy ↔ memP X Y n qx qy ∨ (qx = px ∧ qy = py) := by
  have hD := insD_iff px py hn hs
  obtain ⟨a, b, c, d⟩ := ipos_spec X Y px py hn
  cases e : insD X Y n px py with
  | true =>
    have ex : insX X Y n px py = X := by funext i; unfold insX insF; rw [e]; rfl
    have ey : insY X Y n px py = Y := by funext i; unfold insY insF; rw [e]; rfl
    have en : insN X Y n px py = n := by unfold insN; rw [e]; rfl
    rw [ex, ey, en]
    refine ⟨hs, fun qx qy => ⟨.inl, ?_⟩⟩
    rintro (h | ⟨rfl, rfl⟩)
    · exact h
    · exact hD.1 e
  | false =>
    have hno : ¬ memP X Y n px py := fun h => by rw [hD.2 h] at e; cases e
    have en : insN X Y n px py = n + 1 := by unfold insN; rw [e]; rfl
    have ex : ∀ i, insX X Y n px py i = if i < ipos X Y n px py then X i else if i = ipos X Y n px py then px else X (i - 1) := fun i => by unfold insX insF; rw [e]; rfl
    have ey : ∀ i, insY X Y n px py i = if i < ipos X Y n px py then Y i else if i = ipos X Y n px py then py else Y (i - 1) := fun i => by unfold insY insF; rw [e]; rfl
    rw [en]
    generalize ipos X Y n px py = k at *
    have x1 : ∀ i, i < k → insX X Y n px py i = X i ∧ insY X Y n px py i = Y i := fun i h => by rw [ex, ey, if_pos h, if_pos h]; exact ⟨rfl, rfl⟩
    have x2 : insX X Y n px py k = px ∧ insY X Y n px py k = py := by rw [ex, ey]; simp
    have x3 : ∀ i, k < i → insX X Y n px py i = X (i - 1) ∧ insY X Y n px py i = Y (i - 1) := fun i h => by rw [ex, ey, if_neg (by omega), if_neg (by omega), if_neg (by omega), if_neg (by omega)]; exact ⟨rfl, rfl⟩
    have up : ∀ i, k ≤ i → i < n → ltP px py (X i) (Y i) = true := by
      intro i h1 h2
      have h3 := d (by omega)
      rw [ltP_ff] at h3
      have hk : ltP px py (X k) (Y k) = true := by
        rw [ltP_iff]
        have h4 : ¬ (X k = px ∧ Y k = py) := fun h => hno ⟨k, ⟨a, by omega⟩, h.1, h.2⟩
        omega
      by_cases e2 : i = k
      · rw [e2]; exact hk
      · have h5 := hs k i a (by omega) h2
        rw [ltP_iff] at hk h5 ⊢
        omega
    refine ⟨fun i j h1 h2 h3 => ?_, fun qx qy => ⟨?_, ?_⟩⟩
    · rcases Int.lt_trichotomy i k with hi | hi | hi
      · rw [(x1 i hi).1, (x1 i hi).2]
        rcases Int.lt_trichotomy j k with hj | hj | hj
        · rw [(x1 j hj).1, (x1 j hj).2]; exact hs i j h1 h2 (by omega)
        · rw [hj, x2.1, x2.2]; exact c i h1 hi
        · rw [(x3 j hj).1, (x3 j hj).2]; exact hs i (j - 1) h1 (by omega) (by omega)
      · rw [hi, x2.1, x2.2, (x3 j (by omega)).1, (x3 j (by omega)).2]
        exact up (j - 1) (by omega) (by omega)
      · rw [(x3 i hi).1, (x3 i hi).2, (x3 j (by omega)).1, (x3 j (by omega)).2]
        exact hs (i - 1) (j - 1) (by omega) (by omega) (by omega)
    · rintro ⟨i, ⟨h1, h2⟩, h3, h4⟩
      rcases Int.lt_trichotomy i k with hi | hi | hi
      · rw [(x1 i hi).1] at h3; rw [(x1 i hi).2] at h4
        exact .inl ⟨i, ⟨h1, by omega⟩, h3, h4⟩
      · rw [hi, x2.1] at h3; rw [hi, x2.2] at h4
        exact .inr ⟨h3.symm, h4.symm⟩
      · rw [(x3 i hi).1] at h3; rw [(x3 i hi).2] at h4
        exact .inl ⟨i - 1, ⟨by omega, by omega⟩, h3, h4⟩
    · rintro (⟨i, ⟨h1, h2⟩, h3, h4⟩ | ⟨rfl, rfl⟩)
      · by_cases hi : i < k
        · exact ⟨i, ⟨h1, by omega⟩, by rw [(x1 i hi).1]; exact h3, by rw [(x1 i hi).2]; exact h4⟩
        · refine ⟨i + 1, ⟨by omega, by omega⟩, ?_, ?_⟩
          · rw [(x3 (i + 1) (by omega)).1, show i + 1 - 1 = i by omega]; exact h3
          · rw [(x3 (i + 1) (by omega)).2, show i + 1 - 1 = i by omega]; exact h4
      · exact ⟨k, ⟨a, by omega⟩, x2.1, x2.2⟩
structure PLs where
  n : Int
  x : Int → Int
  y : Int → Int
/-- Points put in, one by one, if they are so. -/
def ceL (x y : Int → Int) (c : Int → Bool) : Nat → PLs
  | 0 => ⟨0, fun _ => 0, fun _ => 0⟩
  | j + 1 => if c j = true then ⟨insN (ceL x y c j).x (ceL x y c j).y (ceL x y c j).n (x j) (y j), insX (ceL x y c j).x (ceL x y c j).y (ceL x y c j).n (x j) (y j), insY (ceL x y c j).x (ceL x y c j).y (ceL x y c j).n (x j) (y j)⟩ else ceL x y c j
theorem ceL_n (x y : Int → Int) (c : Int → Bool) : ∀ j : Nat, 0 ≤ (ceL x y c j).n ∧ (ceL x y c j).n ≤ j
  | 0 => by rw [ceL]; exact ⟨by decide, by decide⟩
  | j + 1 => by
    have ih := ceL_n x y c j
    rw [ceL]
    split
    · simp only [insN]
      split <;> omega
    · omega
theorem ceL_ok (x y : Int → Int) (c : Int → Bool) : ∀ j : Nat, srtP (ceL x y c j).x (ceL x y c j).y (ceL x y c j).n ∧ ∀ qx qy, memP (ceL x y c j).x (ceL x y c j).y (ceL x y c j).n qx qy ↔ ∃ i : Int, (0 ≤ i ∧ i < j) ∧ c i = true ∧ x i = qx ∧ y i = qy
  | 0 => by
    rw [ceL]
    refine ⟨fun i j h1 h2 h3 => by simp only at h3; omega, fun qx qy => ⟨?_, ?_⟩⟩
    · rintro ⟨i, ⟨h1, h2⟩, _⟩
      simp only at h2; omega
    · rintro ⟨i, ⟨h1, h2⟩, _⟩
      omega
  | j + 1 => by
    obtain ⟨h1, h2⟩ := ceL_ok x y c j
    have hn := (ceL_n x y c j).1
    rw [ceL]
    split
    · rename_i hc
      obtain ⟨g1, g2⟩ := ins_ok (x j) (y j) hn h1
      refine ⟨g1, fun qx qy => ?_⟩
      simp only
      rw [g2, h2]
      constructor
      · rintro (⟨i, a, b⟩ | ⟨rfl, rfl⟩)
        · exact ⟨i, ⟨a.1, by omega⟩, b⟩
        · exact ⟨j, ⟨by omega, by omega⟩, hc, rfl, rfl⟩
      · rintro ⟨i, a, b, d, e⟩
        by_cases hi : i = j
        · subst hi; exact .inr ⟨d.symm, e.symm⟩
        · exact .inl ⟨i, ⟨a.1, by omega⟩, b, d, e⟩
    · rename_i hc
      refine ⟨h1, fun qx qy => ?_⟩
      rw [h2]
      constructor
      · rintro ⟨i, a, b⟩
        exact ⟨i, ⟨a.1, by omega⟩, b⟩
      · rintro ⟨i, a, b, d⟩
        by_cases hi : i = j
        · subst hi; exact absurd b hc
        · exact ⟨i, ⟨a.1, by omega⟩, b, d⟩
theorem ce_len {x y : Int → Int} {c q : Int → Bool} (m : Nat) (h : ∀ j : Nat, j < m → (q j = true ↔ c j = true ∧ ¬ ∃ i : Int, (0 ≤ i ∧ i < j) ∧ c i = true ∧ x i = x j ∧ y i = y j)) : ∀ j : Nat, j ≤ m → (ceL x y c j).n = len' (fl q j)
  | 0, _ => by rw [ceL]; rfl
  | j + 1, hj => by
    have ih := ce_len m h j (by omega)
    obtain ⟨h1, h2⟩ := ceL_ok x y c j
    have hn := (ceL_n x y c j).1
    have hq := h j (by omega)
    rw [← h2] at hq
    have hd := insD_iff (x j) (y j) hn h1
    rw [ceL, show ((j + 1 : Nat) : Int) = (j : Int) + 1 by omega, fl_succ q (by omega)]
    by_cases hc : c j = true
    · rw [if_pos hc]
      simp only [insN]
      by_cases hd2 : insD (ceL x y c j).x (ceL x y c j).y (ceL x y c j).n (x j) (y j) = true
      · rw [if_pos hd2, if_neg (fun hh => (hq.1 hh).2 (hd.1 hd2))]; exact ih
      · rw [if_neg hd2, if_pos (hq.2 ⟨hc, fun hh => hd2 (hd.2 hh)⟩), len'_snoc, ih]
    · rw [if_neg hc, if_neg (fun hh => hc (hq.1 hh).1)]; exact ih
theorem ce_one {x y : Int → Int} {c q : Int → Bool} (m : Nat) (h : ∀ j : Nat, j < m → (q j = true ↔ c j = true ∧ ¬ ∃ i : Int, (0 ≤ i ∧ i < j) ∧ c i = true ∧ x i = x j ∧ y i = y j)) (h1 : len' (fl q m) = 1) :
    (ceL x y c m).x 0 = x (selL (fl q m) 0) ∧ (ceL x y c m).y 0 = y (selL (fl q m) 0) := by
  have hl := ce_len m h m (Nat.le_refl m)
  have hm := selL_mem (l := fl q m) (i := 0) (by omega) (by omega)
  rw [mem_fl] at hm
  obtain ⟨⟨a, b⟩, hq⟩ := hm
  generalize hi : selL (fl q m) 0 = i at *
  have e : ((i.toNat : Nat) : Int) = i := by omega
  have h2 := h i.toNat (by omega)
  rw [e] at h2
  have h3 := ((ceL_ok x y c m).2 (x i) (y i)).2 ⟨i, ⟨a, b⟩, (h2.1 hq).1, rfl, rfl⟩
  obtain ⟨k, ⟨k0, k1⟩, k2, k3⟩ := h3
  have ek : k = 0 := by omega
  subst ek
  exact ⟨k2, k3⟩
theorem insF_at {D : Bool} {k : Int} {A : Int → Int} {v i : Int} (hD : D = true) : insF D k A v i = A i := by subst hD; rfl
theorem sgn_neg {a b : Int} (h : sgn a * sgn b < 0) : (a < 0 ∧ 0 < b) ∨ (0 < a ∧ b < 0) := by
  unfold sgn at h
  (repeat' split at h) <;> omega

/-- What stands at a place when the first j have been looked at. -/
def dl (K : Int → Bool) (A : Int → Int) (j i : Int) : Int := if i < len' (fl K j) then A (selL (fl K j) i) else A i
theorem fl_all {K : Int → Bool} : ∀ m : Nat, (∀ i : Int, 0 ≤ i → i < m → K i = true) → len' (fl K m) = m ∧ ∀ i : Int, 0 ≤ i → i < m → selL (fl K m) i = i
  | 0, _ => ⟨rfl, fun i h0 h1 => by omega⟩
  | m + 1, h => by
    obtain ⟨a, b⟩ := fl_all m fun i h0 h1 => h i h0 (by omega)
    have e : ((m + 1 : Nat) : Int) = (m : Int) + 1 := by omega
    rw [e, fl_yes (by omega) (h m (by omega) (by omega))]
    refine ⟨by rw [len'_snoc, a], fun i h0 h1 => ?_⟩
    by_cases hi : i = (m : Int)
    · rw [selL_new (by omega), hi]
    · rw [selL_old h0 (by omega)]; exact b i h0 (by omega)
theorem fl_allI {K : Int → Bool} {m : Int} (hm : 0 ≤ m) (h : ∀ i : Int, 0 ≤ i → i < m → K i = true) : len' (fl K m) = m ∧ ∀ i : Int, 0 ≤ i → i < m → selL (fl K m) i = i := by
  have := fl_all (K := K) m.toNat fun i h0 h1 => h i h0 (by omega)
  rw [show ((m.toNat : Nat) : Int) = m by omega] at this
  exact this
/-- Before the first that goes, all is as it was. -/
theorem dl_start {K : Int → Bool} {A : Int → Int} {j : Int} (h0 : 0 ≤ j) (hK : K j = false) (h : ∀ i, 0 ≤ i → i < j → K i = true) : len' (fl K (j + 1)) = j ∧ ∀ i, 0 ≤ i → dl K A (j + 1) i = A i := by
  obtain ⟨a, b⟩ := fl_allI h0 h
  rw [fl_no h0 hK]
  refine ⟨a, fun i i0 => ?_⟩
  unfold dl
  rw [fl_no h0 hK]
  split
  · rw [b i i0 (by omega)]
  · rfl
theorem dl_self {K : Int → Bool} {A : Int → Int} {j : Int} (h0 : 0 ≤ j) : dl K A j j = A j := by
  have := fl_bd K h0
  unfold dl
  rw [if_neg (by omega)]
theorem dl_at {K : Int → Bool} {A : Int → Int} {j i : Int} (h : i < len' (fl K j)) : dl K A j i = A (selL (fl K j) i) := by unfold dl; rw [if_pos h]
theorem dl_no {K : Int → Bool} {A : Int → Int} {j i : Int} (h0 : 0 ≤ j) (hK : K j = false) : dl K A (j + 1) i = dl K A j i := by unfold dl; rw [fl_no h0 hK]
theorem dl_yes {K : Int → Bool} {A : Int → Int} {j i : Int} (h0 : 0 ≤ j) (hK : K j = true) (hi : 0 ≤ i) : (i ≠ len' (fl K j) → dl K A (j + 1) i = dl K A j i) ∧ (i = len' (fl K j) → dl K A (j + 1) i = A j) := by
  have hb := fl_bd K h0
  unfold dl
  rw [fl_yes h0 hK, len'_snoc]
  refine ⟨fun h => ?_, fun h => ?_⟩
  · by_cases h1 : i < len' (fl K j)
    · rw [if_pos (by omega), if_pos h1, selL_old hi h1]
    · rw [if_neg (by omega), if_neg h1]
  · rw [if_pos (by omega), selL_new h]

def p2 (a b i : Int) : Int := if i = 0 then a else b
theorem cmpP_or {ax ay bx bY : Int} : (if (if ax < bx then -1 else if ax > bx then 1 else 0) = 0 then (if ay < bY then -1 else if ay > bY then 1 else 0) else (if ax < bx then -1 else if ax > bx then 1 else 0) : Int) = cmpP ax ay bx bY := by
  unfold cmpP
  by_cases h1 : ax < bx
  · rw [if_pos h1, if_pos h1, if_neg (by omega)]
  · rw [if_neg h1, if_neg h1]
    by_cases h2 : bx < ax
    · rw [if_pos h2, if_pos h2, if_neg (by omega)]
    · rw [if_neg h2, if_neg h2, if_pos rfl]
theorem or_found {a b j : Int} (h0 : 0 ≤ j) (h1 : j < 2) (hp : ∀ i, 0 ≤ i → i < j → p2 a b i = 0) (hn : p2 a b j ≠ 0) : p2 a b j = if a = 0 then b else a := by
  by_cases e : j = 0
  · subst e
    have e1 : p2 a b 0 = a := rfl
    rw [e1] at hn ⊢
    rw [if_neg hn]
  · have e1 : p2 a b 0 = 0 := hp 0 (by omega) (by omega)
    have e1 : a = 0 := e1
    rw [if_pos e1, p2, if_neg e]
theorem or_none {a b j : Int} (h : 2 ≤ j) (hp : ∀ i, 0 ≤ i → i < j → p2 a b i = 0) : 0 = if a = 0 then b else a := by
  have e0 : a = 0 := hp 0 (by omega) (by omega)
  have e1 : b = 0 := hp 1 (by omega) (by omega)
  rw [if_pos e0, e1]
theorem or_next {a b j : Int} (hp : ∀ i, 0 ≤ i → i < j → p2 a b i = 0) (hn : p2 a b j = 0) : ∀ i, 0 ≤ i → i < j + 1 → p2 a b i = 0 := by
  intro i h0 h1
  by_cases e : i = j
  · rw [e]; exact hn
  · exact hp i h0 (by omega)
theorem c_Or (a : Int) (b : Int) : RunsTo Try.prog 123 [(.sl 0 1 (.lit 0) (.lit 2) 2)] [some ⟨3, 1, true, (.lit [[(.int .i64 (.v fun _ => a) (-1) 1)], [(.int .i64 (.v fun _ => b) (-1) 1)]])⟩] (.int .i64 (.v fun _ => if a = 0 then b else a) (-1) 1) [some ⟨3, 1, true, (.sym (.lit 2) fun e => [(.int .i64 (.v fun _ => p2 a b e.den) (-1) 1)])⟩] := by
  refine RunsTo.go env Try.func123 rfl Try.call123 rfl rfl (fun _ _ => (.loop [] [0] (Int) (fun x1 => ⟨spl 18 0 [(3, (.int .i64 (.lit 0) 0 0)), (6, (.sl 0 1 (.lit 0) (.lit 2) 2)), (7, (.int .i64 (.lit 2) 0 2)), (8, (.int .i64 (.v fun _ => x1) 0 2))], [some ⟨3, 1, true, (.sym (.lit 2) fun e => [(.int .i64 (.v fun _ => p2 a b (e.den)) (-1) 1)])⟩], 1⟩) (fun x1 => (0 ≤ x1 ∧ x1 ≤ 2) ∧ ∀ i, 0 ≤ i → i < x1 → p2 a b i = 0) (fun x1 => (2 - x1).toNat) fun x1 => (.ite (.need (.need (.ite (.out .ret) (.next [0])))) (.out .ret)))) (G := (True) → (((-1) ≤ a ∧ a ≤ 1) ∧ ((-1) ≤ b ∧ b ≤ 1)) → ((∃ y2 : Int, (((0 ≤ y2 ∧ y2 ≤ 2) ∧ ∀ i, 0 ≤ i → i < y2 → p2 a b i = 0) ∧ (((0 : Int) = y2) ∧ ((∀ e4 : E, ((e4.den = 0) → (a = (p2 a b (e4.den))))) ∧ (∀ e3 : E, ((e3.den = 1) → (b = (p2 a b (e3.den))))))))) ∧ (∀ x1 : Int, (((0 ≤ x1 ∧ x1 ≤ 2) ∧ ∀ i, 0 ≤ i → i < x1 → p2 a b i = 0) → (((x1 < 2) → ((((0 ≤ x1) ∧ (x1 < 2))) ∧ ((x1 < 2) ∧ ((((p2 a b (x1)) ≠ 0) → (((p2 a b (x1)) = (if a = 0 then b else a)) ∧ (((2 : Int) ≤ 2) ∧ (∀ e5 : E, ((0 ≤ e5.den ∧ e5.den < 2) → ((p2 a b (e5.den)) = (p2 a b e5.den))))))) ∧ (((p2 a b (x1)) = 0) → (∃ y6 : Int, (((0 ≤ y6 ∧ y6 ≤ 2) ∧ ∀ i, 0 ≤ i → i < y6 → p2 a b i = 0) ∧ (((((x1 + 1) = y6) ∧ ((1 ≤ (x1 + 1) ∧ (x1 + 1) ≤ 3) → (0 ≤ y6 ∧ y6 ≤ 2))) ∧ (((2 : Int) ≤ 2) ∧ (∀ e7 : E, ((0 ≤ e7.den ∧ e7.den < 2) → ((p2 a b (e7.den)) = (p2 a b (e7.den))))))) ∧ ((2 - y6).toNat < (2 - x1).toNat))))))))) ∧ ((2 ≤ x1) → (((0 : Int) = (if a = 0 then b else a)) ∧ (((2 : Int) ≤ 2) ∧ (∀ e8 : E, ((0 ≤ e8.den ∧ e8.den < 2) → ((p2 a b (e8.den)) = (p2 a b e8.den)))))))))))) (by kernel_rfl) ?_
  intro h1 h2
  refine ⟨?_, ?_⟩
  · refine ⟨0, ?_⟩
    try dsimp only
    refine ⟨?_, ?_, ?_, ?_⟩
    · exact ⟨by omega, fun i a b => by omega⟩
    · rfl
    · intro e4
      intro c9
      unfold p2; rw [if_pos (by assumption)]; done
    · intro e3
      intro c10
      unfold p2; rw [if_neg (by omega)]; done
  · intro j
    intro I1
    refine ⟨?_, ?_⟩
    · intro c11
      refine ⟨?_, ?_, ?_, ?_⟩
      · omega
      · omega
      · intro c12
        refine ⟨?_, Int.le_refl _, fun _ => fun _ => rfl⟩
        exact or_found (by omega) (by omega) I1.2 (by assumption)
      · intro c13
        refine ⟨j + 1, ?_⟩
        try dsimp only
        refine ⟨?_, ?_, ?_⟩
        · exact ⟨by omega, or_next I1.2 (by assumption)⟩
        · refine ⟨?_, Int.le_refl _, fun _ => fun _ => rfl⟩
          refine ⟨?_, ?_⟩
          · rfl
          · intro c14
            omega
        · omega
    · intro c15
      refine ⟨?_, Int.le_refl _, fun _ => fun _ => rfl⟩
      exact or_none (by omega) I1.2
def c_c_Or (a : Int) (b : Int) : Cn Try.prog := ⟨_, _, _, _, _, c_Or a b⟩
theorem i_compare (aX : Int) (aY : Int) (bX : Int) (bY : Int) : RunsTo Try.prog 95 [(.agg [(.int .i64 (.v fun _ => aX) (-9223372036854775808) 9223372036854775807), (.int .i64 (.v fun _ => aY) (-9223372036854775808) 9223372036854775807)]), (.agg [(.int .i64 (.v fun _ => bX) (-9223372036854775808) 9223372036854775807), (.int .i64 (.v fun _ => bY) (-9223372036854775808) 9223372036854775807)])] [] (.int .i64 (.v fun _ => cmpP aX aY bX bY) (-1) 1) [] := by
  refine RunsTo.go env Try.func95 rfl Try.call95 rfl rfl (fun _ _ => (.call (c_c_Compare aX bX) (.call (c_c_Compare aY bY) (.call (c_c_Or (if aX < bX then -1 else if aX > bX then 1 else 0) (if aY < bY then -1 else if aY > bY then 1 else 0)) .ret)))) (G := ((((-9223372036854775808) ≤ aX ∧ aX ≤ 9223372036854775807) ∧ ((-9223372036854775808) ≤ aY ∧ aY ≤ 9223372036854775807)) ∧ (((-9223372036854775808) ≤ bX ∧ bX ≤ 9223372036854775807) ∧ ((-9223372036854775808) ≤ bY ∧ bY ≤ 9223372036854775807))) → (True) → (((aX = aX) ∧ (bX = bX)) ∧ (((aY = aY) ∧ (bY = bY)) ∧ ((((if aX < bX then -1 else if aX > bX then 1 else 0) = (if aX < bX then -1 else if aX > bX then 1 else 0)) ∧ ((if aY < bY then -1 else if aY > bY then 1 else 0) = (if aY < bY then -1 else if aY > bY then 1 else 0))) ∧ ((if (if aX < bX then -1 else if aX > bX then 1 else 0) = 0 then (if aY < bY then -1 else if aY > bY then 1 else 0) else (if aX < bX then -1 else if aX > bX then 1 else 0)) = (cmpP aX aY bX bY)))))) (by kernel_rfl) ?_
  intro h1 h2
  refine ⟨⟨rfl, rfl⟩, ⟨rfl, rfl⟩, ⟨rfl, rfl⟩, ?_⟩
  exact cmpP_or
def c_i_compare (aX : Int) (aY : Int) (bX : Int) (bY : Int) : Cn Try.prog := ⟨_, _, _, _, _, i_compare aX aY bX bY⟩
theorem s_pointLess (aX : Int) (aY : Int) (bX : Int) (bY : Int) : RunsTo Try.prog 120 [(.agg [(.int .i64 (.v fun _ => aX) (-9223372036854775808) 9223372036854775807), (.int .i64 (.v fun _ => aY) (-9223372036854775808) 9223372036854775807)]), (.agg [(.int .i64 (.v fun _ => bX) (-9223372036854775808) 9223372036854775807), (.int .i64 (.v fun _ => bY) (-9223372036854775808) 9223372036854775807)])] [] (.bool (.v fun _ => ltP aX aY bX bY)) [] := by
  refine RunsTo.go env Try.func120 rfl Try.call120 rfl rfl (fun _ _ => (.ite .ret (.ite .ret .ret))) (G := ((((-9223372036854775808) ≤ aX ∧ aX ≤ 9223372036854775807) ∧ ((-9223372036854775808) ≤ aY ∧ aY ≤ 9223372036854775807)) ∧ (((-9223372036854775808) ≤ bX ∧ bX ≤ 9223372036854775807) ∧ ((-9223372036854775808) ≤ bY ∧ bY ≤ 9223372036854775807))) → (True) → (((aX < bX) → ((ltP aX aY bX bY) = true)) ∧ ((bX ≤ aX) → (((aX = bX) → ((aY < bY) ↔ ((ltP aX aY bX bY) = true))) ∧ ((aX ≠ bX) → ((ltP aX aY bX bY) = false)))))) (by kernel_rfl) ?_
  intro h1 h2
  refine ⟨?_, ?_⟩
  · intro c1
    simp_all [ltP_iff]; done
  · intro c2
    refine ⟨?_, ?_⟩
    · intro c3
      simp_all [ltP_iff]; done
    · intro c4
      simp_all [ltP]; done
def c_s_pointLess (aX : Int) (aY : Int) (bX : Int) (bY : Int) : Cn Try.prog := ⟨_, _, _, _, _, s_pointLess aX aY bX bY⟩
theorem s_addPoint (X : Int → Int) (Y : Int → Int) (n : Int) (pX : Int) (pY : Int) : RunsTo Try.prog 92 [(.sl 0 2 (.lit 0) (.v fun _ => n) 1048576), (.agg [(.int .i64 (.v fun _ => pX) (-9223372036854775808) 9223372036854775807), (.int .i64 (.v fun _ => pY) (-9223372036854775808) 9223372036854775807)])] [some ⟨35, 2, true, (.sym (.v fun _ => n) fun e => [(.int .i64 (.v fun _ => (X (e.den))) (-9223372036854775808) 9223372036854775807), (.int .i64 (.v fun _ => (Y (e.den))) (-9223372036854775808) 9223372036854775807)])⟩] (.sl 1 2 (.lit 0) (.v fun _ => insN X Y n pX pY) 4194304) [none, some ⟨35, 2, true, (.sym (.v fun _ => insN X Y n pX pY) fun e => [(.int .i64 (.v fun _ => insX X Y n pX pY e.den) (-9223372036854775808) 9223372036854775807), (.int .i64 (.v fun _ => insY X Y n pX pY e.den) (-9223372036854775808) 9223372036854775807)])⟩] := by
  refine RunsTo.go env Try.func92 rfl Try.call92 rfl rfl (fun _ _ => (.loop [] [0, 1] (Int) (fun x1 => ⟨spl 48 0 [(0, (.sl 0 2 (.lit 0) (.v fun _ => n) 1048576)), (3, (.ptr 1 2 (.lit 0) 0)), (4, (.raw (.slice none 0 0))), (5, (.int .i64 (.v fun _ => x1) 0 1048576))], [some ⟨35, 2, true, (.sym (.v fun _ => n) fun e => [(.int .i64 (.v fun _ => (X (e.den))) (-9223372036854775808) 9223372036854775807), (.int .i64 (.v fun _ => (Y (e.den))) (-9223372036854775808) 9223372036854775807)])⟩, some ⟨35, 2, true, (.lit [[(.int .i64 (.v fun _ => pX) (-9223372036854775808) 9223372036854775807), (.int .i64 (.v fun _ => pY) (-9223372036854775808) 9223372036854775807)]])⟩], 1⟩) (fun x1 => (0 ≤ x1 ∧ x1 ≤ n) ∧ ∀ i, 0 ≤ i → i < x1 → ltP (X (i)) (Y (i)) pX pY = true) (fun x1 => (n - x1).toNat) fun x1 => (.ite (.need (.need (.call (c_s_pointLess ((X (x1))) ((Y (x1))) pX pY) (.ite (.next [0, 1]) (.out (.ite (.need (.need (.ite .ret (.need (.need (.need (.need (.need .ret)))))))) (.need (.need (.need (.need (.need .ret))))))))))) (.out (.ite (.need (.need (.ite .ret (.need (.need (.need (.need (.need .ret)))))))) (.need (.need (.need (.need (.need .ret)))))))))) (G := ((0 ≤ n ∧ n ≤ 1048576) ∧ (((-9223372036854775808) ≤ pX ∧ pX ≤ 9223372036854775807) ∧ ((-9223372036854775808) ≤ pY ∧ pY ≤ 9223372036854775807))) → (∀ e12 : E, ((0 ≤ e12.den ∧ e12.den < n) → (((-9223372036854775808) ≤ ((X (e12.den))) ∧ ((X (e12.den))) ≤ 9223372036854775807) ∧ ((-9223372036854775808) ≤ ((Y (e12.den))) ∧ ((Y (e12.den))) ≤ 9223372036854775807)))) → ((∃ y2 : Int, (((0 ≤ y2 ∧ y2 ≤ n) ∧ ∀ i, 0 ≤ i → i < y2 → ltP (X (i)) (Y (i)) pX pY = true) ∧ (((n = n) ∧ ((((.slice none 0 0) : Value) = (.slice none 0 0)) ∧ ((0 : Int) = y2))) ∧ (((n ≤ n) ∧ (∀ e3 : E, ((0 ≤ e3.den ∧ e3.den < n) → ((((X (e3.den))) = ((X (e3.den)))) ∧ (((Y (e3.den))) = ((Y (e3.den)))))))) ∧ ((pX = pX) ∧ (pY = pY)))))) ∧ (∀ x1 : Int, (((0 ≤ x1 ∧ x1 ≤ n) ∧ ∀ i, 0 ≤ i → i < x1 → ltP (X (i)) (Y (i)) pX pY = true) → (((x1 < n) → ((((0 ≤ x1) ∧ (x1 < n))) ∧ ((x1 < n) ∧ ((((((X (x1))) = ((X (x1)))) ∧ (((Y (x1))) = ((Y (x1))))) ∧ ((pX = pX) ∧ (pY = pY))) ∧ ((((ltP ((X (x1))) ((Y (x1))) pX pY) = true) → (∃ y4 : Int, (((0 ≤ y4 ∧ y4 ≤ n) ∧ ∀ i, 0 ≤ i → i < y4 → ltP (X (i)) (Y (i)) pX pY = true) ∧ ((((n = n) ∧ ((((.slice none 0 0) : Value) = (.slice none 0 0)) ∧ (((x1 + 1) = y4) ∧ ((1 ≤ (x1 + 1) ∧ (x1 + 1) ≤ 1048577) → (0 ≤ y4 ∧ y4 ≤ 1048576))))) ∧ (((n ≤ n) ∧ (∀ e5 : E, ((0 ≤ e5.den ∧ e5.den < n) → ((((X (e5.den))) = ((X (e5.den)))) ∧ (((Y (e5.den))) = ((Y (e5.den)))))))) ∧ ((pX = pX) ∧ (pY = pY)))) ∧ ((n - y4).toNat < (n - x1).toNat))))) ∧ (((ltP ((X (x1))) ((Y (x1))) pX pY) = false) → (((x1 < n) → ((((0 ≤ x1) ∧ (x1 < n))) ∧ ((x1 < n) ∧ (((((((X (x1))) = pX) ∧ (((Y (x1))) = pY))) → ((n = (insN X Y n pX pY)) ∧ (((insN X Y n pX pY) ≤ n) ∧ (∀ e6 : E, ((0 ≤ e6.den ∧ e6.den < (insN X Y n pX pY)) → ((((X (e6.den))) = (insX X Y n pX pY e6.den)) ∧ (((Y (e6.den))) = (insY X Y n pX pY e6.den)))))))) ∧ ((((((X (x1))) ≠ pX) ∨ (((Y (x1))) ≠ pY))) → ((((0 ≤ x1) ∧ (x1 ≤ n))) ∧ (((x1 ≤ n) ∧ ((oneF (.v fun _ => n) (fun e => [(.int .i64 (.v fun _ => (X (e.den))) (-9223372036854775808) 9223372036854775807), (.int .i64 (.v fun _ => (Y (e.den))) (-9223372036854775808) 9223372036854775807)])) = true)) ∧ ((x1 = x1) ∧ ((((0 ≤ x1) ∧ (x1 ≤ n))) ∧ ((((x1 + 1) = (x1 + 1)) ∧ (((x1 + (n - x1)) ≤ n) ∧ ((oneF (.v fun _ => n) (fun e => [(.int .i64 (.v fun _ => (X (e.den))) (-9223372036854775808) 9223372036854775807), (.int .i64 (.v fun _ => (Y (e.den))) (-9223372036854775808) 9223372036854775807)])) = true))) ∧ ((((x1 + 1) + (n - x1)) = (insN X Y n pX pY)) ∧ (((insN X Y n pX pY) ≤ ((x1 + 1) + (n - x1))) ∧ (∀ e7 : E, ((0 ≤ e7.den ∧ e7.den < (insN X Y n pX pY)) → (((if decide (e7.den < (x1 + 1)) = true then (if decide (e7.den < x1) = true then ((X (e7.den))) else pX) else ((X ((e7.den - (x1 + 1)) + x1)))) = (insX X Y n pX pY e7.den)) ∧ ((if decide (e7.den < (x1 + 1)) = true then (if decide (e7.den < x1) = true then ((Y (e7.den))) else pY) else ((Y ((e7.den - (x1 + 1)) + x1)))) = (insY X Y n pX pY e7.den))))))))))))))))) ∧ ((n ≤ x1) → ((((0 ≤ x1) ∧ (x1 ≤ n))) ∧ (((x1 ≤ n) ∧ ((oneF (.v fun _ => n) (fun e => [(.int .i64 (.v fun _ => (X (e.den))) (-9223372036854775808) 9223372036854775807), (.int .i64 (.v fun _ => (Y (e.den))) (-9223372036854775808) 9223372036854775807)])) = true)) ∧ ((x1 = x1) ∧ ((((0 ≤ x1) ∧ (x1 ≤ n))) ∧ ((((x1 + 1) = (x1 + 1)) ∧ (((x1 + (n - x1)) ≤ n) ∧ ((oneF (.v fun _ => n) (fun e => [(.int .i64 (.v fun _ => (X (e.den))) (-9223372036854775808) 9223372036854775807), (.int .i64 (.v fun _ => (Y (e.den))) (-9223372036854775808) 9223372036854775807)])) = true))) ∧ ((((x1 + 1) + (n - x1)) = (insN X Y n pX pY)) ∧ (((insN X Y n pX pY) ≤ ((x1 + 1) + (n - x1))) ∧ (∀ e8 : E, ((0 ≤ e8.den ∧ e8.den < (insN X Y n pX pY)) → (((if decide (e8.den < (x1 + 1)) = true then (if decide (e8.den < x1) = true then ((X (e8.den))) else pX) else ((X ((e8.den - (x1 + 1)) + x1)))) = (insX X Y n pX pY e8.den)) ∧ ((if decide (e8.den < (x1 + 1)) = true then (if decide (e8.den < x1) = true then ((Y (e8.den))) else pY) else ((Y ((e8.den - (x1 + 1)) + x1)))) = (insY X Y n pX pY e8.den)))))))))))))))))))) ∧ ((n ≤ x1) → (((x1 < n) → ((((0 ≤ x1) ∧ (x1 < n))) ∧ ((x1 < n) ∧ (((((((X (x1))) = pX) ∧ (((Y (x1))) = pY))) → ((n = (insN X Y n pX pY)) ∧ (((insN X Y n pX pY) ≤ n) ∧ (∀ e9 : E, ((0 ≤ e9.den ∧ e9.den < (insN X Y n pX pY)) → ((((X (e9.den))) = (insX X Y n pX pY e9.den)) ∧ (((Y (e9.den))) = (insY X Y n pX pY e9.den)))))))) ∧ ((((((X (x1))) ≠ pX) ∨ (((Y (x1))) ≠ pY))) → ((((0 ≤ x1) ∧ (x1 ≤ n))) ∧ (((x1 ≤ n) ∧ ((oneF (.v fun _ => n) (fun e => [(.int .i64 (.v fun _ => (X (e.den))) (-9223372036854775808) 9223372036854775807), (.int .i64 (.v fun _ => (Y (e.den))) (-9223372036854775808) 9223372036854775807)])) = true)) ∧ ((x1 = x1) ∧ ((((0 ≤ x1) ∧ (x1 ≤ n))) ∧ ((((x1 + 1) = (x1 + 1)) ∧ (((x1 + (n - x1)) ≤ n) ∧ ((oneF (.v fun _ => n) (fun e => [(.int .i64 (.v fun _ => (X (e.den))) (-9223372036854775808) 9223372036854775807), (.int .i64 (.v fun _ => (Y (e.den))) (-9223372036854775808) 9223372036854775807)])) = true))) ∧ ((((x1 + 1) + (n - x1)) = (insN X Y n pX pY)) ∧ (((insN X Y n pX pY) ≤ ((x1 + 1) + (n - x1))) ∧ (∀ e10 : E, ((0 ≤ e10.den ∧ e10.den < (insN X Y n pX pY)) → (((if decide (e10.den < (x1 + 1)) = true then (if decide (e10.den < x1) = true then ((X (e10.den))) else pX) else ((X ((e10.den - (x1 + 1)) + x1)))) = (insX X Y n pX pY e10.den)) ∧ ((if decide (e10.den < (x1 + 1)) = true then (if decide (e10.den < x1) = true then ((Y (e10.den))) else pY) else ((Y ((e10.den - (x1 + 1)) + x1)))) = (insY X Y n pX pY e10.den))))))))))))))))) ∧ ((n ≤ x1) → ((((0 ≤ x1) ∧ (x1 ≤ n))) ∧ (((x1 ≤ n) ∧ ((oneF (.v fun _ => n) (fun e => [(.int .i64 (.v fun _ => (X (e.den))) (-9223372036854775808) 9223372036854775807), (.int .i64 (.v fun _ => (Y (e.den))) (-9223372036854775808) 9223372036854775807)])) = true)) ∧ ((x1 = x1) ∧ ((((0 ≤ x1) ∧ (x1 ≤ n))) ∧ ((((x1 + 1) = (x1 + 1)) ∧ (((x1 + (n - x1)) ≤ n) ∧ ((oneF (.v fun _ => n) (fun e => [(.int .i64 (.v fun _ => (X (e.den))) (-9223372036854775808) 9223372036854775807), (.int .i64 (.v fun _ => (Y (e.den))) (-9223372036854775808) 9223372036854775807)])) = true))) ∧ ((((x1 + 1) + (n - x1)) = (insN X Y n pX pY)) ∧ (((insN X Y n pX pY) ≤ ((x1 + 1) + (n - x1))) ∧ (∀ e11 : E, ((0 ≤ e11.den ∧ e11.den < (insN X Y n pX pY)) → (((if decide (e11.den < (x1 + 1)) = true then (if decide (e11.den < x1) = true then ((X (e11.den))) else pX) else ((X ((e11.den - (x1 + 1)) + x1)))) = (insX X Y n pX pY e11.den)) ∧ ((if decide (e11.den < (x1 + 1)) = true then (if decide (e11.den < x1) = true then ((Y (e11.den))) else pY) else ((Y ((e11.den - (x1 + 1)) + x1)))) = (insY X Y n pX pY e11.den)))))))))))))))))))) (by kernel_rfl) ?_
  intro h1 h2
  refine ⟨?_, ?_⟩
  · refine ⟨0, ?_⟩
    try dsimp only
    refine ⟨?_, ?_, ⟨Int.le_refl _, fun _ => fun _ => ⟨rfl, rfl⟩⟩, rfl, rfl⟩
    · refine ⟨by omega, fun i a b => ?_⟩; first | (exfalso; omega) | (by_cases e : i = j; (subst e; first | assumption | (simp_all; done) | fail); exact I1.2 i a (by omega))
    · refine ⟨rfl, rfl, ?_⟩
      rfl
  · intro j
    intro I1
    refine ⟨?_, ?_⟩
    · intro c13
      refine ⟨?_, ?_, ⟨⟨rfl, rfl⟩, ⟨rfl, rfl⟩⟩, ?_, ?_⟩
      · omega
      · omega
      · intro c14
        refine ⟨j + 1, ?_⟩
        try dsimp only
        refine ⟨?_, ?_, ?_⟩
        · refine ⟨by omega, fun i a b => ?_⟩; first | (exfalso; omega) | (by_cases e : i = j; (subst e; first | assumption | (simp_all; done) | fail); exact I1.2 i a (by omega))
        · refine ⟨?_, ⟨Int.le_refl _, fun _ => fun _ => ⟨rfl, rfl⟩⟩, rfl, rfl⟩
          refine ⟨rfl, rfl, ?_, ?_⟩
          · rfl
          · intro c15
            omega
        · omega
      · intro c16
        refine ⟨?_, ?_⟩
        · intro c17
          refine ⟨?_, ?_, ?_, ?_⟩
          · omega
          · omega
          · intro c18
            refine ⟨?_, ?_, ?_⟩
            · have hk : ipos X Y n pX pY = j := (by refine ipos_eq (by omega) (by omega) I1.2 ?_; intro hh; first | assumption | (exfalso; omega)); first | (have hd : insD X Y n pX pY = true := (by unfold insD; rw [hk]; simp only [Bool.and_eq_true, decide_eq_true_eq]; omega); first | (unfold insN; rw [if_pos hd]; done) | (unfold insN; rw [if_pos hd]; omega) | (unfold insX; rw [insF_at hd]; done) | (unfold insY; rw [insF_at hd]; done)) | (have hd : insD X Y n pX pY = false := (by rw [← Bool.not_eq_true]; unfold insD; rw [hk]; simp only [Bool.and_eq_true, decide_eq_true_eq]; omega); first | (unfold insN; rw [hd]; simp; omega) | (unfold insX; rw [hk]; exact insF_cat hd) | (unfold insY; rw [hk]; exact insF_cat hd))
            · have hk : ipos X Y n pX pY = j := (by refine ipos_eq (by omega) (by omega) I1.2 ?_; intro hh; first | assumption | (exfalso; omega)); first | (have hd : insD X Y n pX pY = true := (by unfold insD; rw [hk]; simp only [Bool.and_eq_true, decide_eq_true_eq]; omega); first | (unfold insN; rw [if_pos hd]; done) | (unfold insN; rw [if_pos hd]; omega) | (unfold insX; rw [insF_at hd]; done) | (unfold insY; rw [insF_at hd]; done)) | (have hd : insD X Y n pX pY = false := (by rw [← Bool.not_eq_true]; unfold insD; rw [hk]; simp only [Bool.and_eq_true, decide_eq_true_eq]; omega); first | (unfold insN; rw [hd]; simp; omega) | (unfold insX; rw [hk]; exact insF_cat hd) | (unfold insY; rw [hk]; exact insF_cat hd))
            · intro e6
              intro c19
              refine ⟨?_, ?_⟩
              · have hk : ipos X Y n pX pY = j := (by refine ipos_eq (by omega) (by omega) I1.2 ?_; intro hh; first | assumption | (exfalso; omega)); first | (have hd : insD X Y n pX pY = true := (by unfold insD; rw [hk]; simp only [Bool.and_eq_true, decide_eq_true_eq]; omega); first | (unfold insN; rw [if_pos hd]; done) | (unfold insN; rw [if_pos hd]; omega) | (unfold insX; rw [insF_at hd]; done) | (unfold insY; rw [insF_at hd]; done)) | (have hd : insD X Y n pX pY = false := (by rw [← Bool.not_eq_true]; unfold insD; rw [hk]; simp only [Bool.and_eq_true, decide_eq_true_eq]; omega); first | (unfold insN; rw [hd]; simp; omega) | (unfold insX; rw [hk]; exact insF_cat hd) | (unfold insY; rw [hk]; exact insF_cat hd))
              · have hk : ipos X Y n pX pY = j := (by refine ipos_eq (by omega) (by omega) I1.2 ?_; intro hh; first | assumption | (exfalso; omega)); first | (have hd : insD X Y n pX pY = true := (by unfold insD; rw [hk]; simp only [Bool.and_eq_true, decide_eq_true_eq]; omega); first | (unfold insN; rw [if_pos hd]; done) | (unfold insN; rw [if_pos hd]; omega) | (unfold insX; rw [insF_at hd]; done) | (unfold insY; rw [insF_at hd]; done)) | (have hd : insD X Y n pX pY = false := (by rw [← Bool.not_eq_true]; unfold insD; rw [hk]; simp only [Bool.and_eq_true, decide_eq_true_eq]; omega); first | (unfold insN; rw [hd]; simp; omega) | (unfold insX; rw [hk]; exact insF_cat hd) | (unfold insY; rw [hk]; exact insF_cat hd))
          · intro c20
            refine ⟨?_, ?_, ?_, ?_, ?_, ?_, ?_, ?_⟩
            · omega
            · refine ⟨?_, ?_⟩
              · omega
                -- 17: (oneF (.v fun _ => n) (fun e => [(.int .i64 (.v fun _ => (X (e.den))) (-9223372036854775808) 9223372
              · exact oneF_of (fun _ => rfl)
            · rfl
            · omega
            · refine ⟨?_, ?_, ?_⟩
              · rfl
              · omega
                -- 22: (oneF (.v fun _ => n) (fun e => [(.int .i64 (.v fun _ => (X (e.den))) (-9223372036854775808) 9223372
              · exact oneF_of (fun _ => rfl)
            · have hk : ipos X Y n pX pY = j := (by refine ipos_eq (by omega) (by omega) I1.2 ?_; intro hh; first | assumption | (exfalso; omega)); first | (have hd : insD X Y n pX pY = true := (by unfold insD; rw [hk]; simp only [Bool.and_eq_true, decide_eq_true_eq]; omega); first | (unfold insN; rw [if_pos hd]; done) | (unfold insN; rw [if_pos hd]; omega) | (unfold insX; rw [insF_at hd]; done) | (unfold insY; rw [insF_at hd]; done)) | (have hd : insD X Y n pX pY = false := (by rw [← Bool.not_eq_true]; unfold insD; rw [hk]; simp only [Bool.and_eq_true, decide_eq_true_eq]; omega); first | (unfold insN; rw [hd]; simp; omega) | (unfold insX; rw [hk]; exact insF_cat hd) | (unfold insY; rw [hk]; exact insF_cat hd))
            · have hk : ipos X Y n pX pY = j := (by refine ipos_eq (by omega) (by omega) I1.2 ?_; intro hh; first | assumption | (exfalso; omega)); first | (have hd : insD X Y n pX pY = true := (by unfold insD; rw [hk]; simp only [Bool.and_eq_true, decide_eq_true_eq]; omega); first | (unfold insN; rw [if_pos hd]; done) | (unfold insN; rw [if_pos hd]; omega) | (unfold insX; rw [insF_at hd]; done) | (unfold insY; rw [insF_at hd]; done)) | (have hd : insD X Y n pX pY = false := (by rw [← Bool.not_eq_true]; unfold insD; rw [hk]; simp only [Bool.and_eq_true, decide_eq_true_eq]; omega); first | (unfold insN; rw [hd]; simp; omega) | (unfold insX; rw [hk]; exact insF_cat hd) | (unfold insY; rw [hk]; exact insF_cat hd))
            · intro e7
              intro c21
              refine ⟨?_, ?_⟩
              · have hk : ipos X Y n pX pY = j := (by refine ipos_eq (by omega) (by omega) I1.2 ?_; intro hh; first | assumption | (exfalso; omega)); first | (have hd : insD X Y n pX pY = true := (by unfold insD; rw [hk]; simp only [Bool.and_eq_true, decide_eq_true_eq]; omega); first | (unfold insN; rw [if_pos hd]; done) | (unfold insN; rw [if_pos hd]; omega) | (unfold insX; rw [insF_at hd]; done) | (unfold insY; rw [insF_at hd]; done)) | (have hd : insD X Y n pX pY = false := (by rw [← Bool.not_eq_true]; unfold insD; rw [hk]; simp only [Bool.and_eq_true, decide_eq_true_eq]; omega); first | (unfold insN; rw [hd]; simp; omega) | (unfold insX; rw [hk]; exact insF_cat hd) | (unfold insY; rw [hk]; exact insF_cat hd))
              · have hk : ipos X Y n pX pY = j := (by refine ipos_eq (by omega) (by omega) I1.2 ?_; intro hh; first | assumption | (exfalso; omega)); first | (have hd : insD X Y n pX pY = true := (by unfold insD; rw [hk]; simp only [Bool.and_eq_true, decide_eq_true_eq]; omega); first | (unfold insN; rw [if_pos hd]; done) | (unfold insN; rw [if_pos hd]; omega) | (unfold insX; rw [insF_at hd]; done) | (unfold insY; rw [insF_at hd]; done)) | (have hd : insD X Y n pX pY = false := (by rw [← Bool.not_eq_true]; unfold insD; rw [hk]; simp only [Bool.and_eq_true, decide_eq_true_eq]; omega); first | (unfold insN; rw [hd]; simp; omega) | (unfold insX; rw [hk]; exact insF_cat hd) | (unfold insY; rw [hk]; exact insF_cat hd))
        · intro c22
          refine ⟨?_, ?_, ?_, ?_, ?_, ?_, ?_, ?_⟩
          · omega
          · refine ⟨?_, ?_⟩
            · omega
              -- 29: (oneF (.v fun _ => n) (fun e => [(.int .i64 (.v fun _ => (X (e.den))) (-9223372036854775808) 9223372
            · exact oneF_of (fun _ => rfl)
          · rfl
          · omega
          · refine ⟨?_, ?_, ?_⟩
            · rfl
            · omega
              -- 34: (oneF (.v fun _ => n) (fun e => [(.int .i64 (.v fun _ => (X (e.den))) (-9223372036854775808) 9223372
            · exact oneF_of (fun _ => rfl)
          · omega
          · omega
          · intro e8
            intro c23
            refine ⟨?_, ?_⟩
            · omega
            · omega
    · intro c24
      refine ⟨?_, ?_⟩
      · intro c25
        refine ⟨?_, ?_, ?_, ?_⟩
        · omega
        · omega
        · intro c26
          refine ⟨?_, ?_, ?_⟩
          · omega
          · omega
          · intro e9
            intro c27
            refine ⟨?_, ?_⟩
            · omega
            · omega
        · intro c28
          refine ⟨?_, ?_, ?_, ?_, ?_, ?_, ?_, ?_⟩
          · omega
          · refine ⟨?_, ?_⟩
            · omega
              -- 47: (oneF (.v fun _ => n) (fun e => [(.int .i64 (.v fun _ => (X (e.den))) (-9223372036854775808) 9223372
            · exact oneF_of (fun _ => rfl)
          · rfl
          · omega
          · refine ⟨?_, ?_, ?_⟩
            · rfl
            · omega
              -- 52: (oneF (.v fun _ => n) (fun e => [(.int .i64 (.v fun _ => (X (e.den))) (-9223372036854775808) 9223372
            · exact oneF_of (fun _ => rfl)
          · omega
          · omega
          · intro e10
            intro c29
            refine ⟨?_, ?_⟩
            · omega
            · omega
      · intro c30
        refine ⟨?_, ?_, ?_, ?_, ?_, ?_, ?_, ?_⟩
        · omega
        · refine ⟨?_, ?_⟩
          · omega
            -- 59: (oneF (.v fun _ => n) (fun e => [(.int .i64 (.v fun _ => (X (e.den))) (-9223372036854775808) 9223372
          · exact oneF_of (fun _ => rfl)
        · rfl
        · omega
        · refine ⟨?_, ?_, ?_⟩
          · rfl
          · omega
            -- 64: (oneF (.v fun _ => n) (fun e => [(.int .i64 (.v fun _ => (X (e.den))) (-9223372036854775808) 9223372
          · exact oneF_of (fun _ => rfl)
        · have hk : ipos X Y n pX pY = j := (by refine ipos_eq (by omega) (by omega) I1.2 ?_; intro hh; first | assumption | (exfalso; omega)); first | (have hd : insD X Y n pX pY = true := (by unfold insD; rw [hk]; simp only [Bool.and_eq_true, decide_eq_true_eq]; omega); first | (unfold insN; rw [if_pos hd]; done) | (unfold insN; rw [if_pos hd]; omega) | (unfold insX; rw [insF_at hd]; done) | (unfold insY; rw [insF_at hd]; done)) | (have hd : insD X Y n pX pY = false := (by rw [← Bool.not_eq_true]; unfold insD; rw [hk]; simp only [Bool.and_eq_true, decide_eq_true_eq]; omega); first | (unfold insN; rw [hd]; simp; omega) | (unfold insX; rw [hk]; exact insF_cat hd) | (unfold insY; rw [hk]; exact insF_cat hd))
        · have hk : ipos X Y n pX pY = j := (by refine ipos_eq (by omega) (by omega) I1.2 ?_; intro hh; first | assumption | (exfalso; omega)); first | (have hd : insD X Y n pX pY = true := (by unfold insD; rw [hk]; simp only [Bool.and_eq_true, decide_eq_true_eq]; omega); first | (unfold insN; rw [if_pos hd]; done) | (unfold insN; rw [if_pos hd]; omega) | (unfold insX; rw [insF_at hd]; done) | (unfold insY; rw [insF_at hd]; done)) | (have hd : insD X Y n pX pY = false := (by rw [← Bool.not_eq_true]; unfold insD; rw [hk]; simp only [Bool.and_eq_true, decide_eq_true_eq]; omega); first | (unfold insN; rw [hd]; simp; omega) | (unfold insX; rw [hk]; exact insF_cat hd) | (unfold insY; rw [hk]; exact insF_cat hd))
        · intro e11
          intro c31
          refine ⟨?_, ?_⟩
          · have hk : ipos X Y n pX pY = j := (by refine ipos_eq (by omega) (by omega) I1.2 ?_; intro hh; first | assumption | (exfalso; omega)); first | (have hd : insD X Y n pX pY = true := (by unfold insD; rw [hk]; simp only [Bool.and_eq_true, decide_eq_true_eq]; omega); first | (unfold insN; rw [if_pos hd]; done) | (unfold insN; rw [if_pos hd]; omega) | (unfold insX; rw [insF_at hd]; done) | (unfold insY; rw [insF_at hd]; done)) | (have hd : insD X Y n pX pY = false := (by rw [← Bool.not_eq_true]; unfold insD; rw [hk]; simp only [Bool.and_eq_true, decide_eq_true_eq]; omega); first | (unfold insN; rw [hd]; simp; omega) | (unfold insX; rw [hk]; exact insF_cat hd) | (unfold insY; rw [hk]; exact insF_cat hd))
          · have hk : ipos X Y n pX pY = j := (by refine ipos_eq (by omega) (by omega) I1.2 ?_; intro hh; first | assumption | (exfalso; omega)); first | (have hd : insD X Y n pX pY = true := (by unfold insD; rw [hk]; simp only [Bool.and_eq_true, decide_eq_true_eq]; omega); first | (unfold insN; rw [if_pos hd]; done) | (unfold insN; rw [if_pos hd]; omega) | (unfold insX; rw [insF_at hd]; done) | (unfold insY; rw [insF_at hd]; done)) | (have hd : insD X Y n pX pY = false := (by rw [← Bool.not_eq_true]; unfold insD; rw [hk]; simp only [Bool.and_eq_true, decide_eq_true_eq]; omega); first | (unfold insN; rw [hd]; simp; omega) | (unfold insX; rw [hk]; exact insF_cat hd) | (unfold insY; rw [hk]; exact insF_cat hd))
def c_s_addPoint (X : Int → Int) (Y : Int → Int) (n : Int) (pX : Int) (pY : Int) : Cn Try.prog := ⟨_, _, _, _, _, s_addPoint X Y n pX pY⟩
/-- What the reference has of the first j points. -/
def soS (X Y : Int → Int) (j : Int) : PLs := ceL X Y (fun _ => true) j.toNat
def soN (X Y : Int → Int) (j : Int) : Int := (soS X Y j).n
def soX (X Y : Int → Int) (j i : Int) : Int := (soS X Y j).x i
def soY (X Y : Int → Int) (j i : Int) : Int := (soS X Y j).y i
theorem soN_bd (X Y : Int → Int) {j : Int} (h : 0 ≤ j) : 0 ≤ soN X Y j ∧ soN X Y j ≤ j := by
  have := ceL_n X Y (fun _ => true) j.toNat
  unfold soN soS; omega
theorem so_next {X Y : Int → Int} {j : Int} (h : 0 ≤ j) : soS X Y (j + 1) = ⟨insN (soX X Y j) (soY X Y j) (soN X Y j) (X j) (Y j), insX (soX X Y j) (soY X Y j) (soN X Y j) (X j) (Y j), insY (soX X Y j) (soY X Y j) (soN X Y j) (X j) (Y j)⟩ := by
  obtain ⟨k, rfl⟩ := Int.eq_ofNat_of_zero_le h
  unfold soS
  rw [show ((k : Int) + 1).toNat = k + 1 by omega, ceL, if_pos rfl]
  rfl
theorem so_N {X Y : Int → Int} {j : Int} (h : 0 ≤ j) : soN X Y (j + 1) = insN (soX X Y j) (soY X Y j) (soN X Y j) (X j) (Y j) := congrArg PLs.n (so_next h)
theorem so_X {X Y : Int → Int} {j : Int} (h : 0 ≤ j) (i : Int) : soX X Y (j + 1) i = insX (soX X Y j) (soY X Y j) (soN X Y j) (X j) (Y j) i := congrArg (fun s => PLs.x s i) (so_next h)
theorem so_Y {X Y : Int → Int} {j : Int} (h : 0 ≤ j) (i : Int) : soY X Y (j + 1) i = insY (soX X Y j) (soY X Y j) (soN X Y j) (X j) (Y j) i := congrArg (fun s => PLs.y s i) (so_next h)
theorem s_sorted (X : Int → Int) (Y : Int → Int) (n : Int) : RunsTo Try.prog 52 [(.sl 0 2 (.lit 0) (.v fun _ => n) 1048576)] [some ⟨35, 2, true, (.sym (.v fun _ => n) fun e => [(.int .i64 (.v fun _ => (X (e.den))) (-9223372036854775808) 9223372036854775807), (.int .i64 (.v fun _ => (Y (e.den))) (-9223372036854775808) 9223372036854775807)])⟩] (.sl 1 2 (.lit 0) (.v fun _ => soN X Y n) 1048576) [some ⟨35, 2, true, (.sym (.v fun _ => n) fun e => [(.int .i64 (.v fun _ => (X (e.den))) (-9223372036854775808) 9223372036854775807), (.int .i64 (.v fun _ => (Y (e.den))) (-9223372036854775808) 9223372036854775807)])⟩, some ⟨35, 2, true, (.sym (.v fun _ => soN X Y n) fun e => [(.int .i64 (.v fun _ => soX X Y n e.den) (-9223372036854775808) 9223372036854775807), (.int .i64 (.v fun _ => soY X Y n e.den) (-9223372036854775808) 9223372036854775807)])⟩] := by
  refine RunsTo.go env Try.func52 rfl Try.call52 rfl rfl (fun _ _ => (.loop [] [0, 1] (Int) (fun x1 => ⟨spl 19 0 [(0, (.sl 0 2 (.lit 0) (.v fun _ => n) 1048576)), (2, (.raw (.slice none 0 0))), (3, (.sl 1 2 (.lit 0) (.v fun _ => soN X Y x1) 1048576)), (4, (.int .i64 (.v fun _ => x1) 0 1048576))], [some ⟨35, 2, true, (.sym (.v fun _ => n) fun e => [(.int .i64 (.v fun _ => (X (e.den))) (-9223372036854775808) 9223372036854775807), (.int .i64 (.v fun _ => (Y (e.den))) (-9223372036854775808) 9223372036854775807)])⟩, some ⟨35, 2, true, (.sym (.v fun _ => soN X Y x1) fun e => [(.int .i64 (.v fun _ => soX X Y x1 (e.den)) (-9223372036854775808) 9223372036854775807), (.int .i64 (.v fun _ => soY X Y x1 (e.den)) (-9223372036854775808) 9223372036854775807)])⟩], 1⟩) (fun x1 => 0 ≤ x1 ∧ x1 ≤ n) (fun x1 => (n - x1).toNat) fun x1 => (.ite (.need (.need (.call (c_s_addPoint (soX X Y x1) (soY X Y x1) (soN X Y x1) ((X (x1))) ((Y (x1)))) (.next [0, 2])))) (.out .ret)))) (G := (0 ≤ n ∧ n ≤ 1048576) → (∀ e10 : E, ((0 ≤ e10.den ∧ e10.den < n) → (((-9223372036854775808) ≤ ((X (e10.den))) ∧ ((X (e10.den))) ≤ 9223372036854775807) ∧ ((-9223372036854775808) ≤ ((Y (e10.den))) ∧ ((Y (e10.den))) ≤ 9223372036854775807)))) → ((∃ y2 : Int, ((0 ≤ y2 ∧ y2 ≤ n) ∧ (((n = n) ∧ ((((.slice none 0 0) : Value) = (.slice none 0 0)) ∧ (((0 : Int) = (soN X Y y2)) ∧ ((0 : Int) = y2)))) ∧ (((n ≤ n) ∧ (∀ e3 : E, ((0 ≤ e3.den ∧ e3.den < n) → ((((X (e3.den))) = ((X (e3.den)))) ∧ (((Y (e3.den))) = ((Y (e3.den)))))))) ∧ ((soN X Y y2) = 0))))) ∧ (∀ x1 : Int, ((0 ≤ x1 ∧ x1 ≤ n) → (((x1 < n) → ((((0 ≤ x1) ∧ (x1 < n))) ∧ ((x1 < n) ∧ ((((soN X Y x1) = (soN X Y x1)) ∧ ((((X (x1))) = ((X (x1)))) ∧ (((Y (x1))) = ((Y (x1)))))) ∧ ((((soN X Y x1) ≤ (soN X Y x1)) ∧ (∀ e4 : E, ((0 ≤ e4.den ∧ e4.den < (soN X Y x1)) → (((soX X Y x1 (e4.den)) = (soX X Y x1 ((e4.den)))) ∧ ((soY X Y x1 (e4.den)) = (soY X Y x1 ((e4.den)))))))) ∧ (∃ y5 : Int, ((0 ≤ y5 ∧ y5 ≤ n) ∧ ((((n = n) ∧ ((((.slice none 0 0) : Value) = (.slice none 0 0)) ∧ ((((insN (soX X Y x1) (soY X Y x1) (soN X Y x1) ((X (x1))) ((Y (x1)))) = (soN X Y y5)) ∧ (((insN (soX X Y x1) (soY X Y x1) (soN X Y x1) ((X (x1))) ((Y (x1)))) ≤ 4194304) → ((soN X Y y5) ≤ 1048576))) ∧ (((x1 + 1) = y5) ∧ ((1 ≤ (x1 + 1) ∧ (x1 + 1) ≤ 1048577) → (0 ≤ y5 ∧ y5 ≤ 1048576)))))) ∧ (((n ≤ n) ∧ (∀ e7 : E, ((0 ≤ e7.den ∧ e7.den < n) → ((((X (e7.den))) = ((X (e7.den)))) ∧ (((Y (e7.den))) = ((Y (e7.den)))))))) ∧ (((soN X Y y5) ≤ (insN (soX X Y x1) (soY X Y x1) (soN X Y x1) ((X (x1))) ((Y (x1))))) ∧ (∀ e6 : E, ((0 ≤ e6.den ∧ e6.den < (soN X Y y5)) → (((insX (soX X Y x1) (soY X Y x1) (soN X Y x1) ((X (x1))) ((Y (x1))) (e6.den)) = (soX X Y y5 (e6.den))) ∧ ((insY (soX X Y x1) (soY X Y x1) (soN X Y x1) ((X (x1))) ((Y (x1))) (e6.den)) = (soY X Y y5 (e6.den))))))))) ∧ ((n - y5).toNat < (n - x1).toNat))))))))) ∧ ((n ≤ x1) → (((soN X Y x1) = (soN X Y n)) ∧ (((n ≤ n) ∧ (∀ e9 : E, ((0 ≤ e9.den ∧ e9.den < n) → ((((X (e9.den))) = ((X (e9.den)))) ∧ (((Y (e9.den))) = ((Y (e9.den)))))))) ∧ (((soN X Y n) ≤ (soN X Y x1)) ∧ (∀ e8 : E, ((0 ≤ e8.den ∧ e8.den < (soN X Y n)) → (((soX X Y x1 (e8.den)) = (soX X Y n e8.den)) ∧ ((soY X Y x1 (e8.den)) = (soY X Y n e8.den)))))))))))))) (by kernel_rfl) ?_
  intro h1 h2
  refine ⟨?_, ?_⟩
  · refine ⟨0, ?_⟩
    try dsimp only
    refine ⟨?_, ?_, ⟨Int.le_refl _, fun _ => fun _ => ⟨rfl, rfl⟩⟩, ?_⟩
    · omega
    · refine ⟨rfl, rfl, ?_, ?_⟩
      · rfl
      · rfl
    · rfl
  · intro j
    intro I1
    refine ⟨?_, ?_⟩
    · intro c11
      refine ⟨?_, ?_, ⟨rfl, ⟨rfl, rfl⟩⟩, ⟨Int.le_refl _, fun _ => fun _ => ⟨rfl, rfl⟩⟩, ?_⟩
      · omega
      · omega
      · refine ⟨j + 1, ?_⟩
        try dsimp only
        refine ⟨?_, ?_, ?_⟩
        · omega
        · refine ⟨?_, ⟨Int.le_refl _, fun _ => fun _ => ⟨rfl, rfl⟩⟩, ?_, ?_⟩
          · refine ⟨rfl, rfl, ?_, ?_, ?_⟩
            · refine ⟨?_, ?_⟩
              · exact (so_N (by omega)).symm
              · intro c12
                have hb := soN_bd X Y (j := j + 1) (by omega); omega
            · rfl
            · intro c13
              omega
          · exact Int.le_of_eq (so_N (by omega))
          · intro e6
            intro c14
            refine ⟨?_, ?_⟩
            · exact (so_X (by omega) _).symm
            · exact (so_Y (by omega) _).symm
        · omega
    · intro c15
      refine ⟨?_, ⟨Int.le_refl _, fun _ => fun _ => ⟨rfl, rfl⟩⟩, ?_, ?_⟩
      · have e : j = n := (by omega); subst e; first | rfl | exact Int.le_refl _
      · have e : j = n := (by omega); subst e; first | rfl | exact Int.le_refl _
      · intro e8
        intro c16
        refine ⟨?_, ?_⟩
        · have e : j = n := (by omega); subst e; first | rfl | exact Int.le_refl _
        · have e : j = n := (by omega); subst e; first | rfl | exact Int.le_refl _
def c_s_sorted (X : Int → Int) (Y : Int → Int) (n : Int) : Cn Try.prog := ⟨_, _, _, _, _, s_sorted X Y n⟩
theorem Clone_pos (X : Int → Int) (Y : Int → Int) (n : Int) (hp : 0 < n) : RunsTo Try.prog 93 [(.sl 0 2 (.lit 0) (.v fun _ => n) 1048576)] [some ⟨35, 2, true, (.sym (.v fun _ => n) fun e => [(.int .i64 (.v fun _ => (X (e.den))) (-9223372036854775808) 9223372036854775807), (.int .i64 (.v fun _ => (Y (e.den))) (-9223372036854775808) 9223372036854775807)])⟩] (.sl 1 2 (.lit 0) (.v fun _ => n) 1048576) [some ⟨35, 2, true, (.sym (.v fun _ => n) fun e => [(.int .i64 (.v fun _ => (X (e.den))) (-9223372036854775808) 9223372036854775807), (.int .i64 (.v fun _ => (Y (e.den))) (-9223372036854775808) 9223372036854775807)])⟩, some ⟨35, 2, true, (.sym (.v fun _ => n) fun e => [(.int .i64 (.v fun _ => X e.den) (-9223372036854775808) 9223372036854775807), (.int .i64 (.v fun _ => Y e.den) (-9223372036854775808) 9223372036854775807)])⟩] := by
  refine RunsTo.go env Try.func93 rfl Try.call93 rfl rfl (fun _ _ => (.need (.need .ret))) (G := (0 ≤ n ∧ n ≤ 1048576) → (∀ e3 : E, ((0 ≤ e3.den ∧ e3.den < n) → (((-9223372036854775808) ≤ ((X (e3.den))) ∧ ((X (e3.den))) ≤ 9223372036854775807) ∧ ((-9223372036854775808) ≤ ((Y (e3.den))) ∧ ((Y (e3.den))) ≤ 9223372036854775807)))) → ((0 < n) ∧ (((n ≤ n) ∧ ((oneF (.v fun _ => n) (fun e => [(.int .i64 (.v fun _ => (X (e.den))) (-9223372036854775808) 9223372036854775807), (.int .i64 (.v fun _ => (Y (e.den))) (-9223372036854775808) 9223372036854775807)])) = true)) ∧ ((n = n) ∧ (((n ≤ n) ∧ (∀ e2 : E, ((0 ≤ e2.den ∧ e2.den < n) → ((((X (e2.den))) = ((X (e2.den)))) ∧ (((Y (e2.den))) = ((Y (e2.den)))))))) ∧ ((n ≤ n) ∧ (∀ e1 : E, ((0 ≤ e1.den ∧ e1.den < n) → ((((X (e1.den))) = (X e1.den)) ∧ (((Y (e1.den))) = (Y e1.den))))))))))) (by kernel_rfl) ?_
  intro h1 h2
  refine ⟨?_, ?_, rfl, ⟨Int.le_refl _, fun _ => fun _ => ⟨rfl, rfl⟩⟩, Int.le_refl _, fun _ => fun _ => ⟨rfl, rfl⟩⟩
    -- 1: 0 < n
  · omega
  · refine ⟨?_, ?_⟩
      -- 2: n ≤ n
    · omega
      -- 3: (oneF (.v fun _ => n) (fun e => [(.int .i64 (.v fun _ => (X (e.den))) (-9223372036854775808) 9223372
    · exact oneF_of (fun _ => rfl)
def c_Clone_pos (X : Int → Int) (Y : Int → Int) (n : Int) : CnH Try.prog := ⟨_, _, _, _, _, _, Clone_pos X Y n⟩
theorem Clone_nil (X : Int → Int) (Y : Int → Int) (n : Int) (hp : n = 0) : RunsTo Try.prog 93 [(.raw (.slice none 0 0))] [some ⟨35, 2, true, (.sym (.v fun _ => n) fun e => [(.int .i64 (.v fun _ => (X (e.den))) (-9223372036854775808) 9223372036854775807), (.int .i64 (.v fun _ => (Y (e.den))) (-9223372036854775808) 9223372036854775807)])⟩] (.sl 1 2 (.lit 0) (.v fun _ => n) 1048576) [some ⟨35, 2, true, (.sym (.v fun _ => n) fun e => [(.int .i64 (.v fun _ => (X (e.den))) (-9223372036854775808) 9223372036854775807), (.int .i64 (.v fun _ => (Y (e.den))) (-9223372036854775808) 9223372036854775807)])⟩, some ⟨35, 2, true, (.sym (.v fun _ => n) fun e => [(.int .i64 (.v fun _ => X e.den) (-9223372036854775808) 9223372036854775807), (.int .i64 (.v fun _ => Y e.den) (-9223372036854775808) 9223372036854775807)])⟩] := by
  refine RunsTo.go env Try.func93 rfl Try.call93 rfl rfl (fun _ _ => .ret) (G := (True) → (∀ e2 : E, ((0 ≤ e2.den ∧ e2.den < n) → (((-9223372036854775808) ≤ ((X (e2.den))) ∧ ((X (e2.den))) ≤ 9223372036854775807) ∧ ((-9223372036854775808) ≤ ((Y (e2.den))) ∧ ((Y (e2.den))) ≤ 9223372036854775807)))) → (((0 : Int) = n) ∧ (((n ≤ n) ∧ (∀ e1 : E, ((0 ≤ e1.den ∧ e1.den < n) → ((((X (e1.den))) = ((X (e1.den)))) ∧ (((Y (e1.den))) = ((Y (e1.den)))))))) ∧ (n = 0)))) (by kernel_rfl) ?_
  intro h1 h2
  refine ⟨?_, ⟨Int.le_refl _, fun _ => fun _ => ⟨rfl, rfl⟩⟩, ?_⟩
    -- 1: (0 : Int) = n
  · omega
    -- 2: n = 0
  · omega
def c_Clone_nil (X : Int → Int) (Y : Int → Int) (n : Int) : CnH Try.prog := ⟨_, _, _, _, _, _, Clone_nil X Y n⟩
theorem Clone_emp (X : Int → Int) (Y : Int → Int) (n : Int) (q : Addr) (c : Nat) (hp : n = 0) : RunsTo Try.prog 93 [(.raw (.slice (some q) 0 c))] [some ⟨35, 2, true, (.sym (.v fun _ => n) fun e => [(.int .i64 (.v fun _ => (X (e.den))) (-9223372036854775808) 9223372036854775807), (.int .i64 (.v fun _ => (Y (e.den))) (-9223372036854775808) 9223372036854775807)])⟩] (.sl 1 2 (.lit 0) (.v fun _ => n) 1048576) [some ⟨35, 2, true, (.sym (.v fun _ => n) fun e => [(.int .i64 (.v fun _ => (X (e.den))) (-9223372036854775808) 9223372036854775807), (.int .i64 (.v fun _ => (Y (e.den))) (-9223372036854775808) 9223372036854775807)])⟩, some ⟨35, 2, true, (.sym (.v fun _ => n) fun e => [(.int .i64 (.v fun _ => X e.den) (-9223372036854775808) 9223372036854775807), (.int .i64 (.v fun _ => Y e.den) (-9223372036854775808) 9223372036854775807)])⟩] := by
  refine RunsTo.go env Try.func93 rfl Try.call93 rfl rfl (fun _ _ => .ret) (G := (True) → (∀ e2 : E, ((0 ≤ e2.den ∧ e2.den < n) → (((-9223372036854775808) ≤ ((X (e2.den))) ∧ ((X (e2.den))) ≤ 9223372036854775807) ∧ ((-9223372036854775808) ≤ ((Y (e2.den))) ∧ ((Y (e2.den))) ≤ 9223372036854775807)))) → (((0 : Int) = n) ∧ (((n ≤ n) ∧ (∀ e1 : E, ((0 ≤ e1.den ∧ e1.den < n) → ((((X (e1.den))) = ((X (e1.den)))) ∧ (((Y (e1.den))) = ((Y (e1.den)))))))) ∧ (n = 0)))) (by kernel_rfl) ?_
  intro h1 h2
  refine ⟨?_, ⟨Int.le_refl _, fun _ => fun _ => ⟨rfl, rfl⟩⟩, ?_⟩
    -- 1: (0 : Int) = n
  · omega
    -- 2: n = 0
  · omega
def c_Clone_emp (X : Int → Int) (Y : Int → Int) (n : Int) (q : Addr) (c : Nat) : CnH Try.prog := ⟨_, _, _, _, _, _, Clone_emp X Y n q c⟩
theorem Clone_p (X : Int → Int) (Y : Int → Int) (n : Int) : RunsTo Try.prog 93 [(.sl 0 2 (.lit 0) (.v fun _ => n) 1048576)] [some ⟨35, 2, true, (.sym (.v fun _ => n) fun e => [(.int .i64 (.v fun _ => (X (e.den))) (-9223372036854775808) 9223372036854775807), (.int .i64 (.v fun _ => (Y (e.den))) (-9223372036854775808) 9223372036854775807)])⟩] (.sl 1 2 (.lit 0) (.v fun _ => n) 1048576) [some ⟨35, 2, true, (.sym (.v fun _ => n) fun e => [(.int .i64 (.v fun _ => (X (e.den))) (-9223372036854775808) 9223372036854775807), (.int .i64 (.v fun _ => (Y (e.den))) (-9223372036854775808) 9223372036854775807)])⟩, some ⟨35, 2, true, (.sym (.v fun _ => n) fun e => [(.int .i64 (.v fun _ => X e.den) (-9223372036854775808) 9223372036854775807), (.int .i64 (.v fun _ => Y e.den) (-9223372036854775808) 9223372036854775807)])⟩] := by
  intro w F ρ vs hm hf hv
  by_cases hp : 0 < n
  · exact Clone_pos X Y n hp w F ρ vs hm hf hv
  obtain ⟨v0, ws, rfl, ⟨_, _, h0, _, a, c, rfl, hc, _, hs⟩, e⟩ := hv
  have e : ws = [] := e
  subst e
  have h0 : 0 ≤ n := h0
  have hn : n = 0 := by omega
  have e2 : (E.v fun _ => n).den.toNat = 0 := by show n.toNat = 0; omega
  rw [e2]
  cases a with
  | none =>
    have hs : c = 0 := hs
    subst hs
    exact Clone_nil X Y n hn w F ρ [.slice none 0 0] hm hf ⟨_, _, rfl, rfl, rfl⟩
  | some q => exact Clone_emp X Y n q c hn w F ρ [.slice (some q) 0 c] hm hf ⟨_, _, rfl, rfl, rfl⟩
def c_Clone_p (X : Int → Int) (Y : Int → Int) (n : Int) : Cn Try.prog := ⟨_, _, _, _, _, Clone_p X Y n⟩
/-- The first of a run. -/
def cK (X Y : Int → Int) (i : Int) : Bool := !(decide (0 < i) && (decide (X i = X (i - 1)) && decide (Y i = Y (i - 1))))
theorem cK_no {X Y : Int → Int} {i : Int} : cK X Y i = false ↔ 0 < i ∧ X i = X (i - 1) ∧ Y i = Y (i - 1) := by
  unfold cK
  rw [Bool.not_eq_false']
  simp only [Bool.and_eq_true, decide_eq_true_eq]
theorem cK_yes {X Y : Int → Int} {i : Int} : cK X Y i = true ↔ ¬ (0 < i ∧ X i = X (i - 1) ∧ Y i = Y (i - 1)) := by
  rw [← cK_no, Bool.not_eq_false]
theorem cK_0 (X Y : Int → Int) : cK X Y 0 = true := by rw [cK_yes]; omega
theorem cp_small {X Y : Int → Int} {n : Int} (h : n < 2) : ∀ i, 0 ≤ i → i < n → cK X Y i = true := by
  intro i h0 h1
  rw [show i = 0 by omega]
  exact cK_0 X Y
theorem cp_next {X Y : Int → Int} {k : Int} (hp : ∀ i, 0 ≤ i → i < k → cK X Y i = true) (h : X k ≠ X (k - 1) ∨ Y k ≠ Y (k - 1)) : ∀ i, 0 ≤ i → i < k + 1 → cK X Y i = true := by
  intro i h0 h1
  by_cases e : i = k
  · rw [e, cK_yes]; rintro ⟨_, h2, h3⟩
    rcases h with h | h
    · exact h h2
    · exact h h3
  · exact hp i h0 (by omega)
theorem dl_ge {K : Int → Bool} {A : Int → Int} {j i : Int} (h : len' (fl K j) ≤ i) : dl K A j i = A i := by unfold dl; rw [if_neg (by omega)]
theorem cp_same {X Y : Int → Int} {k j : Int} (hk : 1 ≤ k) (hj : 1 ≤ j) (hI : len' (fl (cK X Y) (k + j)) < k + j ∧ 0 ≤ len' (fl (cK X Y) (k + j))) :
    (dl (cK X Y) X (k + j) (k + j) = X (k + j) ∧ dl (cK X Y) X (k + j) (k + (j - 1)) = X (k + j - 1)) ∧ (dl (cK X Y) Y (k + j) (k + j) = Y (k + j) ∧ dl (cK X Y) Y (k + j) (k + (j - 1)) = Y (k + j - 1)) := by
  rw [show k + (j - 1) = k + j - 1 by omega]
  exact ⟨⟨dl_ge (by omega), dl_ge (by omega)⟩, dl_ge (by omega), dl_ge (by omega)⟩
theorem cp_new {X Y : Int → Int} {k j : Int} (hk : 1 ≤ k) (hj : 1 ≤ j) (hI : len' (fl (cK X Y) (k + j)) < k + j ∧ 0 ≤ len' (fl (cK X Y) (k + j)))
    (h : dl (cK X Y) X (k + j) (k + j) ≠ dl (cK X Y) X (k + j) (k + (j - 1)) ∨ dl (cK X Y) Y (k + j) (k + j) ≠ dl (cK X Y) Y (k + j) (k + (j - 1))) : cK X Y (k + j) = true := by
  obtain ⟨⟨a, b⟩, c, d⟩ := cp_same hk hj hI
  rw [a, b, c, d] at h
  rw [cK_yes]
  rintro ⟨_, h2, h3⟩
  rcases h with h | h
  · exact h h2
  · exact h h3
theorem cp_old {X Y : Int → Int} {k j : Int} (hk : 1 ≤ k) (hj : 1 ≤ j) (hI : len' (fl (cK X Y) (k + j)) < k + j ∧ 0 ≤ len' (fl (cK X Y) (k + j)))
    (h : dl (cK X Y) X (k + j) (k + j) = dl (cK X Y) X (k + j) (k + (j - 1)) ∧ dl (cK X Y) Y (k + j) (k + j) = dl (cK X Y) Y (k + j) (k + (j - 1))) : cK X Y (k + j) = false := by
  obtain ⟨⟨a, b⟩, c, d⟩ := cp_same hk hj hI
  rw [a, b, c, d] at h
  exact cK_no.2 ⟨by omega, h⟩
theorem Compact_p (X : Int → Int) (Y : Int → Int) (n : Int) : RunsTo Try.prog 97 [(.sl 0 2 (.lit 0) (.v fun _ => n) 1048576)] [some ⟨35, 2, true, (.sym (.v fun _ => n) fun e => [(.int .i64 (.v fun _ => (X (e.den))) (-9223372036854775808) 9223372036854775807), (.int .i64 (.v fun _ => (Y (e.den))) (-9223372036854775808) 9223372036854775807)])⟩] (.sl 0 2 (.lit 0) (.v fun _ => len' (fl (cK X Y) n)) 1048576) [some ⟨35, 2, true, (.sym (.v fun _ => len' (fl (cK X Y) n)) fun e => [(.int .i64 (.v fun _ => (X (selL (fl (cK X Y) n) e.den))) (-9223372036854775808) 9223372036854775807), (.int .i64 (.v fun _ => (Y (selL (fl (cK X Y) n) e.den))) (-9223372036854775808) 9223372036854775807)])⟩] := by
  refine RunsTo.go env Try.func97 rfl Try.call97 rfl rfl (fun _ _ => (.ite .ret (.loop [] [0] (Int) (fun x2 => ⟨spl 61 0 [(0, (.sl 0 2 (.lit 0) (.v fun _ => n) 1048576)), (3, (.int .i64 (.v fun _ => x2) 1 1048576))], [some ⟨35, 2, true, (.sym (.v fun _ => n) fun e => [(.int .i64 (.v fun _ => (X (e.den))) (-9223372036854775808) 9223372036854775807), (.int .i64 (.v fun _ => (Y (e.den))) (-9223372036854775808) 9223372036854775807)])⟩], 1⟩) (fun x2 => (1 ≤ x2 ∧ x2 ≤ n) ∧ ∀ i, 0 ≤ i → i < x2 → cK X Y i = true) (fun x2 => (n - x2).toNat) fun x2 => (.ite (.need (.need (.need (.need (.ite (.need (.loop [] [0] (Int) (fun x5 => ⟨spl 61 0 [(0, (.sl 0 2 (.lit 0) (.v fun _ => n) 1048576)), (3, (.int .i64 (.v fun _ => len' (fl (cK X Y) (x2 + x5))) 0 1048576)), (4, (.sl 0 2 (.v fun _ => x2) (.sub (.v fun _ => n) (.v fun _ => x2)) 1048576)), (5, (.int .i64 (.v fun _ => x5) 1 1048576)), (10, (.int .i64 (.v fun _ => x2) 1 1048576)), (11, (.sl 0 2 (.lit 0) (.v fun _ => n) 1048576)), (12, (.int .i64 (.v fun _ => n) 0 1048576)), (13, (.bool (.lt (.v fun _ => x2) (.v fun _ => n)))), (16, (.sl 0 2 (.lit 0) (.v fun _ => n) 1048576)), (17, (.int .i64 (.v fun _ => x2) 1 1048576)), (18, (.ptr 0 2 (.v fun _ => x2) 0)), (19, (.agg [(.int .i64 (.v fun _ => (X (x2))) (-9223372036854775808) 9223372036854775807), (.int .i64 (.v fun _ => (Y (x2))) (-9223372036854775808) 9223372036854775807)])), (20, (.sl 0 2 (.lit 0) (.v fun _ => n) 1048576)), (21, (.int .i64 (.v fun _ => x2) 1 1048576)), (22, (.int .i64 (.sub (.v fun _ => x2) (.lit 1)) 0 1048575)), (23, (.ptr 0 2 (.sub (.v fun _ => x2) (.lit 1)) 0)), (24, (.agg [(.int .i64 (.v fun _ => (X (x2 - 1))) (-9223372036854775808) 9223372036854775807), (.int .i64 (.v fun _ => (Y (x2 - 1))) (-9223372036854775808) 9223372036854775807)])), (25, (.bool (.and (.eq (.v fun _ => (X (x2))) (.v fun _ => (X (x2 - 1)))) (.eq (.v fun _ => (Y (x2))) (.v fun _ => (Y (x2 - 1))))))), (26, (.sl 0 2 (.lit 0) (.v fun _ => n) 1048576)), (27, (.int .i64 (.v fun _ => x2) 1 1048576)), (28, (.sl 0 2 (.v fun _ => x2) (.sub (.v fun _ => n) (.v fun _ => x2)) 1048576))], [some ⟨35, 2, true, (.sym (.v fun _ => n) fun e => [(.int .i64 (.v fun _ => dl (cK X Y) X (x2 + x5) (e.den)) (-9223372036854775808) 9223372036854775807), (.int .i64 (.v fun _ => dl (cK X Y) Y (x2 + x5) (e.den)) (-9223372036854775808) 9223372036854775807)])⟩], 1⟩) (fun x5 => (1 ≤ x5 ∧ x2 + x5 ≤ n) ∧ len' (fl (cK X Y) (x2 + x5)) < x2 + x5 ∧ 0 ≤ len' (fl (cK X Y) (x2 + x5))) (fun x5 => (n - x5).toNat) fun x5 => (.ite (.need (.need (.need (.need (.ite (.need (.need (.need (.need (.next [0]))))) (.next [0])))))) (.out (.need (.need (.need (.out .ret)))))))) (.next [0])))))) (.out .ret))))) (G := (0 ≤ n ∧ n ≤ 1048576) → (∀ e17 : E, ((0 ≤ e17.den ∧ e17.den < n) → (((-9223372036854775808) ≤ ((X (e17.den))) ∧ ((X (e17.den))) ≤ 9223372036854775807) ∧ ((-9223372036854775808) ≤ ((Y (e17.den))) ∧ ((Y (e17.den))) ≤ 9223372036854775807)))) → (((n < 2) → ((n = (len' (fl (cK X Y) n))) ∧ (((len' (fl (cK X Y) n)) ≤ n) ∧ (∀ e1 : E, ((0 ≤ e1.den ∧ e1.den < (len' (fl (cK X Y) n))) → ((((X (e1.den))) = ((X (selL (fl (cK X Y) n) e1.den)))) ∧ (((Y (e1.den))) = ((Y (selL (fl (cK X Y) n) e1.den)))))))))) ∧ ((2 ≤ n) → ((∃ y3 : Int, (((1 ≤ y3 ∧ y3 ≤ n) ∧ ∀ i, 0 ≤ i → i < y3 → cK X Y i = true) ∧ (((n = n) ∧ ((1 : Int) = y3)) ∧ ((n ≤ n) ∧ (∀ e4 : E, ((0 ≤ e4.den ∧ e4.den < n) → ((((X (e4.den))) = ((X (e4.den)))) ∧ (((Y (e4.den))) = ((Y (e4.den))))))))))) ∧ (∀ x2 : Int, (((1 ≤ x2 ∧ x2 ≤ n) ∧ ∀ i, 0 ≤ i → i < x2 → cK X Y i = true) → (((x2 < n) → ((((0 ≤ x2) ∧ (x2 < n))) ∧ ((x2 < n) ∧ ((((0 ≤ (x2 - 1)) ∧ ((x2 - 1) < n))) ∧ (((x2 - 1) < n) ∧ (((((((X (x2))) = ((X (x2 - 1)))) ∧ (((Y (x2))) = ((Y (x2 - 1)))))) → ((((0 ≤ x2) ∧ (x2 ≤ n))) ∧ ((∃ y6 : Int, (((1 ≤ y6 ∧ x2 + y6 ≤ n) ∧ len' (fl (cK X Y) (x2 + y6)) < x2 + y6 ∧ 0 ≤ len' (fl (cK X Y) (x2 + y6))) ∧ (((n = n) ∧ ((x2 = (len' (fl (cK X Y) (x2 + y6)))) ∧ (((x2 = x2) ∧ ((n - x2) = (n - x2))) ∧ (((1 : Int) = y6) ∧ ((x2 = x2) ∧ ((n = n) ∧ ((n = n) ∧ (((x2 < n) ↔ (x2 < n)) ∧ ((n = n) ∧ ((x2 = x2) ∧ ((x2 = x2) ∧ (((((X (x2))) = ((X (x2)))) ∧ (((Y (x2))) = ((Y (x2))))) ∧ ((n = n) ∧ ((x2 = x2) ∧ (((x2 - 1) = (x2 - 1)) ∧ (((x2 - 1) = (x2 - 1)) ∧ (((((X (x2 - 1))) = ((X (x2 - 1)))) ∧ (((Y (x2 - 1))) = ((Y (x2 - 1))))) ∧ (((((((X (x2))) = ((X (x2 - 1)))) ∧ (((Y (x2))) = ((Y (x2 - 1)))))) ↔ (((((X (x2))) = ((X (x2 - 1)))) ∧ (((Y (x2))) = ((Y (x2 - 1))))))) ∧ ((n = n) ∧ ((x2 = x2) ∧ ((x2 = x2) ∧ ((n - x2) = (n - x2))))))))))))))))))))))) ∧ ((n ≤ n) ∧ (∀ e7 : E, ((0 ≤ e7.den ∧ e7.den < n) → ((((X (e7.den))) = (dl (cK X Y) X (x2 + y6) (e7.den))) ∧ (((Y (e7.den))) = (dl (cK X Y) Y (x2 + y6) (e7.den)))))))))) ∧ (∀ x5 : Int, (((1 ≤ x5 ∧ x2 + x5 ≤ n) ∧ len' (fl (cK X Y) (x2 + x5)) < x2 + x5 ∧ 0 ≤ len' (fl (cK X Y) (x2 + x5))) → (((x5 < (n - x2)) → ((((0 ≤ x5) ∧ (x5 < (n - x2)))) ∧ (((x2 + x5) < n) ∧ ((((0 ≤ (x5 - 1)) ∧ ((x5 - 1) < (n - x2)))) ∧ (((x2 + (x5 - 1)) < n) ∧ ((((((dl (cK X Y) X (x2 + x5) (x2 + x5)) ≠ (dl (cK X Y) X (x2 + x5) (x2 + (x5 - 1)))) ∨ ((dl (cK X Y) Y (x2 + x5) (x2 + x5)) ≠ (dl (cK X Y) Y (x2 + x5) (x2 + (x5 - 1)))))) → ((((0 ≤ x5) ∧ (x5 < (n - x2)))) ∧ (((x2 + x5) < n) ∧ ((((0 ≤ (len' (fl (cK X Y) (x2 + x5)))) ∧ ((len' (fl (cK X Y) (x2 + x5))) < n))) ∧ (((len' (fl (cK X Y) (x2 + x5))) < n) ∧ (∃ y8 : Int, (((1 ≤ y8 ∧ x2 + y8 ≤ n) ∧ len' (fl (cK X Y) (x2 + y8)) < x2 + y8 ∧ 0 ≤ len' (fl (cK X Y) (x2 + y8))) ∧ ((((n = n) ∧ (((((len' (fl (cK X Y) (x2 + x5))) + 1) = (len' (fl (cK X Y) (x2 + y8)))) ∧ ((1 ≤ ((len' (fl (cK X Y) (x2 + x5))) + 1) ∧ ((len' (fl (cK X Y) (x2 + x5))) + 1) ≤ 1048577) → (0 ≤ (len' (fl (cK X Y) (x2 + y8))) ∧ (len' (fl (cK X Y) (x2 + y8))) ≤ 1048576))) ∧ (((x2 = x2) ∧ ((n - x2) = (n - x2))) ∧ ((((x5 + 1) = y8) ∧ ((2 ≤ (x5 + 1) ∧ (x5 + 1) ≤ 1048577) → (1 ≤ y8 ∧ y8 ≤ 1048576))) ∧ ((x2 = x2) ∧ ((n = n) ∧ ((n = n) ∧ (((x2 < n) ↔ (x2 < n)) ∧ ((n = n) ∧ ((x2 = x2) ∧ ((x2 = x2) ∧ (((((X (x2))) = ((X (x2)))) ∧ (((Y (x2))) = ((Y (x2))))) ∧ ((n = n) ∧ ((x2 = x2) ∧ (((x2 - 1) = (x2 - 1)) ∧ (((x2 - 1) = (x2 - 1)) ∧ (((((X (x2 - 1))) = ((X (x2 - 1)))) ∧ (((Y (x2 - 1))) = ((Y (x2 - 1))))) ∧ (((((((X (x2))) = ((X (x2 - 1)))) ∧ (((Y (x2))) = ((Y (x2 - 1)))))) ↔ (((((X (x2))) = ((X (x2 - 1)))) ∧ (((Y (x2))) = ((Y (x2 - 1))))))) ∧ ((n = n) ∧ ((x2 = x2) ∧ ((x2 = x2) ∧ ((n - x2) = (n - x2))))))))))))))))))))))) ∧ ((n = n) ∧ ((∀ e10 : E, ((0 ≤ e10.den ∧ e10.den < n ∧ e10.den ≠ (len' (fl (cK X Y) (x2 + x5)))) → (((dl (cK X Y) X (x2 + x5) (e10.den)) = (dl (cK X Y) X (x2 + y8) (e10.den))) ∧ ((dl (cK X Y) Y (x2 + x5) (e10.den)) = (dl (cK X Y) Y (x2 + y8) (e10.den)))))) ∧ (∀ e9 : E, ((e9.den.toNat = ((len' (fl (cK X Y) (x2 + x5))) : Int).toNat ∧ 0 ≤ e9.den) → (((dl (cK X Y) X (x2 + x5) (x2 + x5)) = (dl (cK X Y) X (x2 + y8) (e9.den))) ∧ ((dl (cK X Y) Y (x2 + x5) (x2 + x5)) = (dl (cK X Y) Y (x2 + y8) (e9.den))))))))) ∧ ((n - y8).toNat < (n - x5).toNat))))))))) ∧ (((((dl (cK X Y) X (x2 + x5) (x2 + x5)) = (dl (cK X Y) X (x2 + x5) (x2 + (x5 - 1)))) ∧ ((dl (cK X Y) Y (x2 + x5) (x2 + x5)) = (dl (cK X Y) Y (x2 + x5) (x2 + (x5 - 1)))))) → (∃ y11 : Int, (((1 ≤ y11 ∧ x2 + y11 ≤ n) ∧ len' (fl (cK X Y) (x2 + y11)) < x2 + y11 ∧ 0 ≤ len' (fl (cK X Y) (x2 + y11))) ∧ ((((n = n) ∧ (((len' (fl (cK X Y) (x2 + x5))) = (len' (fl (cK X Y) (x2 + y11)))) ∧ (((x2 = x2) ∧ ((n - x2) = (n - x2))) ∧ ((((x5 + 1) = y11) ∧ ((2 ≤ (x5 + 1) ∧ (x5 + 1) ≤ 1048577) → (1 ≤ y11 ∧ y11 ≤ 1048576))) ∧ ((x2 = x2) ∧ ((n = n) ∧ ((n = n) ∧ (((x2 < n) ↔ (x2 < n)) ∧ ((n = n) ∧ ((x2 = x2) ∧ ((x2 = x2) ∧ (((((X (x2))) = ((X (x2)))) ∧ (((Y (x2))) = ((Y (x2))))) ∧ ((n = n) ∧ ((x2 = x2) ∧ (((x2 - 1) = (x2 - 1)) ∧ (((x2 - 1) = (x2 - 1)) ∧ (((((X (x2 - 1))) = ((X (x2 - 1)))) ∧ (((Y (x2 - 1))) = ((Y (x2 - 1))))) ∧ (((((((X (x2))) = ((X (x2 - 1)))) ∧ (((Y (x2))) = ((Y (x2 - 1)))))) ↔ (((((X (x2))) = ((X (x2 - 1)))) ∧ (((Y (x2))) = ((Y (x2 - 1))))))) ∧ ((n = n) ∧ ((x2 = x2) ∧ ((x2 = x2) ∧ ((n - x2) = (n - x2))))))))))))))))))))))) ∧ ((n ≤ n) ∧ (∀ e12 : E, ((0 ≤ e12.den ∧ e12.den < n) → (((dl (cK X Y) X (x2 + x5) (e12.den)) = (dl (cK X Y) X (x2 + y11) (e12.den))) ∧ ((dl (cK X Y) Y (x2 + x5) (e12.den)) = (dl (cK X Y) Y (x2 + y11) (e12.den)))))))) ∧ ((n - y11).toNat < (n - x5).toNat))))))))))) ∧ (((n - x2) ≤ x5) → ((((0 ≤ (len' (fl (cK X Y) (x2 + x5)))) ∧ ((len' (fl (cK X Y) (x2 + x5))) ≤ n))) ∧ ((((0 ≤ (n - (len' (fl (cK X Y) (x2 + x5))))) ∧ ((len' (fl (cK X Y) (x2 + x5))) ≤ n))) ∧ ((((0 ≤ (len' (fl (cK X Y) (x2 + x5)))) ∧ ((len' (fl (cK X Y) (x2 + x5))) ≤ n))) ∧ (((len' (fl (cK X Y) (x2 + x5))) = (len' (fl (cK X Y) n))) ∧ (((len' (fl (cK X Y) n)) ≤ (len' (fl (cK X Y) (x2 + x5)))) ∧ (∀ e13 : E, ((0 ≤ e13.den ∧ e13.den < (len' (fl (cK X Y) n))) → (((dl (cK X Y) X (x2 + x5) (e13.den)) = ((X (selL (fl (cK X Y) n) e13.den)))) ∧ ((dl (cK X Y) Y (x2 + x5) (e13.den)) = ((Y (selL (fl (cK X Y) n) e13.den))))))))))))))))))) ∧ ((((((X (x2))) ≠ ((X (x2 - 1)))) ∨ (((Y (x2))) ≠ ((Y (x2 - 1)))))) → (∃ y14 : Int, (((1 ≤ y14 ∧ y14 ≤ n) ∧ ∀ i, 0 ≤ i → i < y14 → cK X Y i = true) ∧ ((((n = n) ∧ (((x2 + 1) = y14) ∧ ((2 ≤ (x2 + 1) ∧ (x2 + 1) ≤ 1048577) → (1 ≤ y14 ∧ y14 ≤ 1048576)))) ∧ ((n ≤ n) ∧ (∀ e15 : E, ((0 ≤ e15.den ∧ e15.den < n) → ((((X (e15.den))) = ((X (e15.den)))) ∧ (((Y (e15.den))) = ((Y (e15.den))))))))) ∧ ((n - y14).toNat < (n - x2).toNat))))))))))) ∧ ((n ≤ x2) → ((n = (len' (fl (cK X Y) n))) ∧ (((len' (fl (cK X Y) n)) ≤ n) ∧ (∀ e16 : E, ((0 ≤ e16.den ∧ e16.den < (len' (fl (cK X Y) n))) → ((((X (e16.den))) = ((X (selL (fl (cK X Y) n) e16.den)))) ∧ (((Y (e16.den))) = ((Y (selL (fl (cK X Y) n) e16.den))))))))))))))))) (by kernel_rfl) ?_
  intro h1 h2
  refine ⟨?_, ?_⟩
  · intro c18
    refine ⟨?_, ?_, ?_⟩
    · have ha := fl_allI (K := cK X Y) (m := n) (by omega) (cp_small (by omega)); first | omega | (rw [ha.2 e0.den (by omega) (by omega)]; done)
    · have ha := fl_allI (K := cK X Y) (m := n) (by omega) (cp_small (by omega)); first | omega | (rw [ha.2 e0.den (by omega) (by omega)]; done)
    · intro e1
      intro c19
      refine ⟨?_, ?_⟩
      · have ha := fl_allI (K := cK X Y) (m := n) (by omega) (cp_small (by omega)); first | omega | (rw [ha.2 e1.den (by omega) (by omega)]; done)
      · have ha := fl_allI (K := cK X Y) (m := n) (by omega) (cp_small (by omega)); first | omega | (rw [ha.2 e1.den (by omega) (by omega)]; done)
  · intro c20
    refine ⟨?_, ?_⟩
    · refine ⟨1, ?_⟩
      try dsimp only
      refine ⟨?_, ?_, Int.le_refl _, fun _ => fun _ => ⟨rfl, rfl⟩⟩
      · exact ⟨by omega, cp_small (by omega)⟩
      · refine ⟨rfl, ?_⟩
        rfl
    · intro k
      intro I1
      refine ⟨?_, ?_⟩
      · intro c21
        refine ⟨?_, ?_, ?_, ?_, ?_, ?_⟩
        · omega
        · omega
        · omega
        · omega
        · intro c22
          refine ⟨?_, ?_, ?_⟩
          · omega
          · refine ⟨1, ?_⟩
            try dsimp only
            refine ⟨?_, ?_, Int.le_refl _, ?_⟩
            · have hK : cK X Y k = false := cK_no.2 ⟨by omega, by assumption⟩; have hsa := dl_start (A := X) (j := k) (by omega) hK I1.2; have hsb := dl_start (A := Y) (j := k) (by omega) hK I1.2; first | omega | exact ⟨by omega, by omega, by omega⟩ | exact hsa.1.symm | exact (hsa.2 _ (by omega)).symm | exact (hsb.2 _ (by omega)).symm
            · refine ⟨rfl, ?_, ⟨rfl, rfl⟩, ?_, rfl, rfl, rfl, Iff.rfl, rfl, rfl, rfl, ⟨rfl, rfl⟩, rfl, rfl, rfl, rfl, ⟨rfl, rfl⟩, Iff.rfl, rfl, rfl, rfl, rfl⟩
              · have hK : cK X Y k = false := cK_no.2 ⟨by omega, by assumption⟩; have hsa := dl_start (A := X) (j := k) (by omega) hK I1.2; have hsb := dl_start (A := Y) (j := k) (by omega) hK I1.2; first | omega | exact ⟨by omega, by omega, by omega⟩ | exact hsa.1.symm | exact (hsa.2 _ (by omega)).symm | exact (hsb.2 _ (by omega)).symm
              · rfl
            · intro e7
              intro c23
              refine ⟨?_, ?_⟩
              · have hK : cK X Y k = false := cK_no.2 ⟨by omega, by assumption⟩; have hsa := dl_start (A := X) (j := k) (by omega) hK I1.2; have hsb := dl_start (A := Y) (j := k) (by omega) hK I1.2; first | omega | exact ⟨by omega, by omega, by omega⟩ | exact hsa.1.symm | exact (hsa.2 _ (by omega)).symm | exact (hsb.2 _ (by omega)).symm
              · have hK : cK X Y k = false := cK_no.2 ⟨by omega, by assumption⟩; have hsa := dl_start (A := X) (j := k) (by omega) hK I1.2; have hsb := dl_start (A := Y) (j := k) (by omega) hK I1.2; first | omega | exact ⟨by omega, by omega, by omega⟩ | exact hsa.1.symm | exact (hsa.2 _ (by omega)).symm | exact (hsb.2 _ (by omega)).symm
          · intro j
            intro I2
            refine ⟨?_, ?_⟩
            · intro c24
              refine ⟨?_, ?_, ?_, ?_, ?_, ?_⟩
              · omega
              · omega
              · omega
              · omega
              · intro c25
                refine ⟨?_, ?_, ?_, ?_, ?_⟩
                · omega
                · omega
                · omega
                · omega
                · refine ⟨j + 1, ?_⟩
                  try dsimp only
                  refine ⟨?_, ?_, ?_⟩
                  · have hK := cp_new (by omega) (by omega) I2.2 (by assumption); have hfb := fl_bd (cK X Y) (n := k + j) (by omega); have hn : len' (fl (cK X Y) (k + (j + 1))) = len' (fl (cK X Y) (k + j)) + 1 := (by rw [show k + (j + 1) = k + j + 1 by omega, fl_yes (by omega) hK, len'_snoc]); first | omega | exact ⟨by omega, by omega, by omega⟩ | (rw [show k + (j + 1) = k + j + 1 by omega]; have hy := dl_yes (A := X) (i := e0.den) (by omega) hK (by omega); have hz := dl_yes (A := Y) (i := e0.den) (by omega) hK (by omega); first | exact (hy.1 (by omega)).symm | exact (hz.1 (by omega)).symm | (rw [dl_self (by omega)]; first | exact (hy.2 (by omega)).symm | exact (hz.2 (by omega)).symm))
                  · refine ⟨?_, rfl, ?_, ?_⟩
                    · refine ⟨rfl, ?_, ⟨rfl, rfl⟩, ?_, rfl, rfl, rfl, Iff.rfl, rfl, rfl, rfl, ⟨rfl, rfl⟩, rfl, rfl, rfl, rfl, ⟨rfl, rfl⟩, Iff.rfl, rfl, rfl, rfl, rfl⟩
                      · refine ⟨?_, ?_⟩
                        · have hK := cp_new (by omega) (by omega) I2.2 (by assumption); have hfb := fl_bd (cK X Y) (n := k + j) (by omega); have hn : len' (fl (cK X Y) (k + (j + 1))) = len' (fl (cK X Y) (k + j)) + 1 := (by rw [show k + (j + 1) = k + j + 1 by omega, fl_yes (by omega) hK, len'_snoc]); first | omega | exact ⟨by omega, by omega, by omega⟩ | (rw [show k + (j + 1) = k + j + 1 by omega]; have hy := dl_yes (A := X) (i := e0.den) (by omega) hK (by omega); have hz := dl_yes (A := Y) (i := e0.den) (by omega) hK (by omega); first | exact (hy.1 (by omega)).symm | exact (hz.1 (by omega)).symm | (rw [dl_self (by omega)]; first | exact (hy.2 (by omega)).symm | exact (hz.2 (by omega)).symm))
                        · intro c26
                          have hK := cp_new (by omega) (by omega) I2.2 (by assumption); have hfb := fl_bd (cK X Y) (n := k + j) (by omega); have hn : len' (fl (cK X Y) (k + (j + 1))) = len' (fl (cK X Y) (k + j)) + 1 := (by rw [show k + (j + 1) = k + j + 1 by omega, fl_yes (by omega) hK, len'_snoc]); first | omega | exact ⟨by omega, by omega, by omega⟩ | (rw [show k + (j + 1) = k + j + 1 by omega]; have hy := dl_yes (A := X) (i := e0.den) (by omega) hK (by omega); have hz := dl_yes (A := Y) (i := e0.den) (by omega) hK (by omega); first | exact (hy.1 (by omega)).symm | exact (hz.1 (by omega)).symm | (rw [dl_self (by omega)]; first | exact (hy.2 (by omega)).symm | exact (hz.2 (by omega)).symm))
                      · refine ⟨?_, ?_⟩
                        · rfl
                        · intro c27
                          omega
                    · intro e10
                      intro c28
                      refine ⟨?_, ?_⟩
                      · have hK := cp_new (by omega) (by omega) I2.2 (by assumption); have hfb := fl_bd (cK X Y) (n := k + j) (by omega); have hn : len' (fl (cK X Y) (k + (j + 1))) = len' (fl (cK X Y) (k + j)) + 1 := (by rw [show k + (j + 1) = k + j + 1 by omega, fl_yes (by omega) hK, len'_snoc]); first | omega | exact ⟨by omega, by omega, by omega⟩ | (rw [show k + (j + 1) = k + j + 1 by omega]; have hy := dl_yes (A := X) (i := e10.den) (by omega) hK (by omega); have hz := dl_yes (A := Y) (i := e10.den) (by omega) hK (by omega); first | exact (hy.1 (by omega)).symm | exact (hz.1 (by omega)).symm | (rw [dl_self (by omega)]; first | exact (hy.2 (by omega)).symm | exact (hz.2 (by omega)).symm))
                      · have hK := cp_new (by omega) (by omega) I2.2 (by assumption); have hfb := fl_bd (cK X Y) (n := k + j) (by omega); have hn : len' (fl (cK X Y) (k + (j + 1))) = len' (fl (cK X Y) (k + j)) + 1 := (by rw [show k + (j + 1) = k + j + 1 by omega, fl_yes (by omega) hK, len'_snoc]); first | omega | exact ⟨by omega, by omega, by omega⟩ | (rw [show k + (j + 1) = k + j + 1 by omega]; have hy := dl_yes (A := X) (i := e10.den) (by omega) hK (by omega); have hz := dl_yes (A := Y) (i := e10.den) (by omega) hK (by omega); first | exact (hy.1 (by omega)).symm | exact (hz.1 (by omega)).symm | (rw [dl_self (by omega)]; first | exact (hy.2 (by omega)).symm | exact (hz.2 (by omega)).symm))
                    · intro e9
                      intro c29
                      refine ⟨?_, ?_⟩
                      · have hK := cp_new (by omega) (by omega) I2.2 (by assumption); have hfb := fl_bd (cK X Y) (n := k + j) (by omega); have hn : len' (fl (cK X Y) (k + (j + 1))) = len' (fl (cK X Y) (k + j)) + 1 := (by rw [show k + (j + 1) = k + j + 1 by omega, fl_yes (by omega) hK, len'_snoc]); first | omega | exact ⟨by omega, by omega, by omega⟩ | (rw [show k + (j + 1) = k + j + 1 by omega]; have hy := dl_yes (A := X) (i := e9.den) (by omega) hK (by omega); have hz := dl_yes (A := Y) (i := e9.den) (by omega) hK (by omega); first | exact (hy.1 (by omega)).symm | exact (hz.1 (by omega)).symm | (rw [dl_self (by omega)]; first | exact (hy.2 (by omega)).symm | exact (hz.2 (by omega)).symm))
                      · have hK := cp_new (by omega) (by omega) I2.2 (by assumption); have hfb := fl_bd (cK X Y) (n := k + j) (by omega); have hn : len' (fl (cK X Y) (k + (j + 1))) = len' (fl (cK X Y) (k + j)) + 1 := (by rw [show k + (j + 1) = k + j + 1 by omega, fl_yes (by omega) hK, len'_snoc]); first | omega | exact ⟨by omega, by omega, by omega⟩ | (rw [show k + (j + 1) = k + j + 1 by omega]; have hy := dl_yes (A := X) (i := e9.den) (by omega) hK (by omega); have hz := dl_yes (A := Y) (i := e9.den) (by omega) hK (by omega); first | exact (hy.1 (by omega)).symm | exact (hz.1 (by omega)).symm | (rw [dl_self (by omega)]; first | exact (hy.2 (by omega)).symm | exact (hz.2 (by omega)).symm))
                  · omega
              · intro c30
                refine ⟨j + 1, ?_⟩
                try dsimp only
                refine ⟨?_, ?_, ?_⟩
                · have hK := cp_old (by omega) (by omega) I2.2 (by assumption); have hfb := fl_bd (cK X Y) (n := k + j) (by omega); have hn : len' (fl (cK X Y) (k + (j + 1))) = len' (fl (cK X Y) (k + j)) := (by rw [show k + (j + 1) = k + j + 1 by omega, fl_no (by omega) hK]); first | omega | exact ⟨by omega, by omega, by omega⟩ | (rw [show k + (j + 1) = k + j + 1 by omega]; exact (dl_no (by omega) hK).symm)
                · refine ⟨?_, Int.le_refl _, ?_⟩
                  · refine ⟨rfl, ?_, ⟨rfl, rfl⟩, ?_, rfl, rfl, rfl, Iff.rfl, rfl, rfl, rfl, ⟨rfl, rfl⟩, rfl, rfl, rfl, rfl, ⟨rfl, rfl⟩, Iff.rfl, rfl, rfl, rfl, rfl⟩
                    · have hK := cp_old (by omega) (by omega) I2.2 (by assumption); have hfb := fl_bd (cK X Y) (n := k + j) (by omega); have hn : len' (fl (cK X Y) (k + (j + 1))) = len' (fl (cK X Y) (k + j)) := (by rw [show k + (j + 1) = k + j + 1 by omega, fl_no (by omega) hK]); first | omega | exact ⟨by omega, by omega, by omega⟩ | (rw [show k + (j + 1) = k + j + 1 by omega]; exact (dl_no (by omega) hK).symm)
                    · refine ⟨?_, ?_⟩
                      · rfl
                      · intro c31
                        omega
                  · intro e12
                    intro c32
                    refine ⟨?_, ?_⟩
                    · have hK := cp_old (by omega) (by omega) I2.2 (by assumption); have hfb := fl_bd (cK X Y) (n := k + j) (by omega); have hn : len' (fl (cK X Y) (k + (j + 1))) = len' (fl (cK X Y) (k + j)) := (by rw [show k + (j + 1) = k + j + 1 by omega, fl_no (by omega) hK]); first | omega | exact ⟨by omega, by omega, by omega⟩ | (rw [show k + (j + 1) = k + j + 1 by omega]; exact (dl_no (by omega) hK).symm)
                    · have hK := cp_old (by omega) (by omega) I2.2 (by assumption); have hfb := fl_bd (cK X Y) (n := k + j) (by omega); have hn : len' (fl (cK X Y) (k + (j + 1))) = len' (fl (cK X Y) (k + j)) := (by rw [show k + (j + 1) = k + j + 1 by omega, fl_no (by omega) hK]); first | omega | exact ⟨by omega, by omega, by omega⟩ | (rw [show k + (j + 1) = k + j + 1 by omega]; exact (dl_no (by omega) hK).symm)
                · omega
            · intro c33
              refine ⟨?_, ?_, ?_, ?_, ?_, ?_⟩
              · omega
              · omega
              · omega
              · obtain rfl : n = k + j := (by omega); first | exact Int.le_refl _ | rfl | exact dl_at (by omega) | omega
              · obtain rfl : n = k + j := (by omega); first | exact Int.le_refl _ | rfl | exact dl_at (by omega) | omega
              · intro e13
                intro c34
                refine ⟨?_, ?_⟩
                · obtain rfl : n = k + j := (by omega); first | exact Int.le_refl _ | rfl | exact dl_at (by omega) | omega
                · obtain rfl : n = k + j := (by omega); first | exact Int.le_refl _ | rfl | exact dl_at (by omega) | omega
        · intro c35
          refine ⟨k + 1, ?_⟩
          try dsimp only
          refine ⟨?_, ?_, ?_⟩
          · exact ⟨by omega, cp_next I1.2 (by assumption)⟩
          · refine ⟨?_, Int.le_refl _, fun _ => fun _ => ⟨rfl, rfl⟩⟩
            refine ⟨rfl, ?_, ?_⟩
            · rfl
            · intro c36
              omega
          · omega
      · intro c37
        refine ⟨?_, ?_, ?_⟩
        · obtain rfl : n = k := (by omega); have ha := fl_allI (K := cK X Y) (m := n) (by omega) I1.2; first | omega | (rw [ha.2 e0.den (by omega) (by omega)]; done)
        · obtain rfl : n = k := (by omega); have ha := fl_allI (K := cK X Y) (m := n) (by omega) I1.2; first | omega | (rw [ha.2 e0.den (by omega) (by omega)]; done)
        · intro e16
          intro c38
          refine ⟨?_, ?_⟩
          · obtain rfl : n = k := (by omega); have ha := fl_allI (K := cK X Y) (m := n) (by omega) I1.2; first | omega | (rw [ha.2 e16.den (by omega) (by omega)]; done)
          · obtain rfl : n = k := (by omega); have ha := fl_allI (K := cK X Y) (m := n) (by omega) I1.2; first | omega | (rw [ha.2 e16.den (by omega) (by omega)]; done)
def c_Compact_p (X : Int → Int) (Y : Int → Int) (n : Int) : Cn Try.prog := ⟨_, _, _, _, _, Compact_p X Y n⟩
theorem SortFunc_p (X : Int → Int) (Y : Int → Int) (n : Int) : RunsTo Try.prog 94 [(.sl 0 2 (.lit 0) (.v fun _ => n) 1048576), (.fn 95 [])] [some ⟨35, 2, true, (.sym (.v fun _ => n) fun e => [(.int .i64 (.v fun _ => (X (e.den))) (-9223372036854775808) 9223372036854775807), (.int .i64 (.v fun _ => (Y (e.den))) (-9223372036854775808) 9223372036854775807)])⟩] (.tup []) [some ⟨35, 2, true, (.sym (.v fun _ => n) fun e => [(.int .i64 (.v fun _ => srtX X Y n e.den) (-9223372036854775808) 9223372036854775807), (.int .i64 (.v fun _ => srtY X Y n e.den) (-9223372036854775808) 9223372036854775807)])⟩] := by
  have h := sort_points laySortP Try.isAgg35 Try.sizeOf35 Try.call95 Try.call94 (fun ax ay bx bY => i_compare ax ay bx bY) 35 X Y n 1048576 (by decide)
  exact h
def c_SortFunc_p (X : Int → Int) (Y : Int → Int) (n : Int) : Cn Try.prog := ⟨_, _, _, _, _, SortFunc_p X Y n⟩
theorem Clip_pt (X : Int → Int) (Y : Int → Int) (n : Int) : RunsTo Try.prog 96 [(.sl 0 2 (.lit 0) (.v fun _ => n) 1048576)] [some ⟨35, 2, true, (.sym (.v fun _ => n) fun e => [(.int .i64 (.v fun _ => (X (e.den))) (-9223372036854775808) 9223372036854775807), (.int .i64 (.v fun _ => (Y (e.den))) (-9223372036854775808) 9223372036854775807)])⟩] (.sl 0 2 (.lit 0) (.v fun _ => n) 1048576) [some ⟨35, 2, true, (.sym (.v fun _ => n) fun e => [(.int .i64 (.v fun _ => (X (e.den))) (-9223372036854775808) 9223372036854775807), (.int .i64 (.v fun _ => (Y (e.den))) (-9223372036854775808) 9223372036854775807)])⟩] := by
  refine RunsTo.go env Try.func96 rfl Try.call96 rfl rfl (fun _ _ => (.need .ret)) (G := (0 ≤ n ∧ n ≤ 1048576) → (∀ e2 : E, ((0 ≤ e2.den ∧ e2.den < n) → (((-9223372036854775808) ≤ ((X (e2.den))) ∧ ((X (e2.den))) ≤ 9223372036854775807) ∧ ((-9223372036854775808) ≤ ((Y (e2.den))) ∧ ((Y (e2.den))) ≤ 9223372036854775807)))) → ((((0 ≤ n) ∧ (((n ≤ n) ∧ (n ≤ n))))) ∧ ((n = n) ∧ ((n ≤ n) ∧ (∀ e1 : E, ((0 ≤ e1.den ∧ e1.den < n) → ((((X (e1.den))) = ((X (e1.den)))) ∧ (((Y (e1.den))) = ((Y (e1.den))))))))))) (by kernel_rfl) ?_
  intro h1 h2
  refine ⟨?_, rfl, Int.le_refl _, fun _ => fun _ => ⟨rfl, rfl⟩⟩
  -- 1: ((0 ≤ n) ∧ (((n ≤ n) ∧ (n ≤ n))))
  omega
def c_Clip_pt (X : Int → Int) (Y : Int → Int) (n : Int) : Cn Try.prog := ⟨_, _, _, _, _, Clip_pt X Y n⟩
def sK (X Y : Int → Int) (n : Int) (i : Int) : Bool := cK (srtX X Y n) (srtY X Y n) i
def iN (X Y : Int → Int) (n : Int) : Int := len' (fl (cK (srtX X Y n) (srtY X Y n)) n)
def iX (X Y : Int → Int) (n i : Int) : Int := srtX X Y n (selL (fl (cK (srtX X Y n) (srtY X Y n)) n) i)
def iY (X Y : Int → Int) (n i : Int) : Int := srtY X Y n (selL (fl (cK (srtX X Y n) (srtY X Y n)) n) i)
theorem i_sorted (X : Int → Int) (Y : Int → Int) (n : Int) : RunsTo Try.prog 55 [(.sl 0 2 (.lit 0) (.v fun _ => n) 1048576)] [some ⟨35, 2, true, (.sym (.v fun _ => n) fun e => [(.int .i64 (.v fun _ => (X (e.den))) (-9223372036854775808) 9223372036854775807), (.int .i64 (.v fun _ => (Y (e.den))) (-9223372036854775808) 9223372036854775807)])⟩] (.sl 1 2 (.lit 0) (.v fun _ => iN X Y n) 1048576) [some ⟨35, 2, true, (.sym (.v fun _ => n) fun e => [(.int .i64 (.v fun _ => (X (e.den))) (-9223372036854775808) 9223372036854775807), (.int .i64 (.v fun _ => (Y (e.den))) (-9223372036854775808) 9223372036854775807)])⟩, some ⟨35, 2, true, (.sym (.v fun _ => iN X Y n) fun e => [(.int .i64 (.v fun _ => iX X Y n e.den) (-9223372036854775808) 9223372036854775807), (.int .i64 (.v fun _ => iY X Y n e.den) (-9223372036854775808) 9223372036854775807)])⟩] := by
  refine RunsTo.go env Try.func55 rfl Try.call55 rfl rfl (fun _ _ => (.call (c_Clone_p X Y n) (.call (c_SortFunc_p (X) (Y) n) (.call (c_Compact_p (srtX X Y n) (srtY X Y n) n) (.call (c_Clip_pt ((fun ι => (srtX (X) (Y) n ((selL (fl (cK (srtX X Y n) (srtY X Y n)) n) (ι)))))) ((fun ι => (srtY (X) (Y) n ((selL (fl (cK (srtX X Y n) (srtY X Y n)) n) (ι)))))) (len' (fl (cK (srtX X Y n) (srtY X Y n)) n))) .ret))))) (G := (0 ≤ n ∧ n ≤ 1048576) → (∀ e7 : E, ((0 ≤ e7.den ∧ e7.den < n) → (((-9223372036854775808) ≤ ((X (e7.den))) ∧ ((X (e7.den))) ≤ 9223372036854775807) ∧ ((-9223372036854775808) ≤ ((Y (e7.den))) ∧ ((Y (e7.den))) ≤ 9223372036854775807)))) → ((n = n) ∧ (((n ≤ n) ∧ (∀ e1 : E, ((0 ≤ e1.den ∧ e1.den < n) → ((((X (e1.den))) = ((X (e1.den)))) ∧ (((Y (e1.den))) = ((Y (e1.den)))))))) ∧ ((n = n) ∧ (((n ≤ n) ∧ (∀ e2 : E, ((0 ≤ e2.den ∧ e2.den < n) → (((X (e2.den)) = (X ((e2.den)))) ∧ ((Y (e2.den)) = (Y ((e2.den)))))))) ∧ ((n = n) ∧ (((n ≤ n) ∧ (∀ e3 : E, ((0 ≤ e3.den ∧ e3.den < n) → (((srtX (X) (Y) n (e3.den)) = (srtX (X) (Y) n ((e3.den)))) ∧ ((srtY (X) (Y) n (e3.den)) = (srtY (X) (Y) n ((e3.den)))))))) ∧ (((len' (fl (cK (srtX X Y n) (srtY X Y n)) n)) = ((len' (fl (cK (srtX X Y n) (srtY X Y n)) n)))) ∧ (((((len' (fl (cK (srtX X Y n) (srtY X Y n)) n))) ≤ (len' (fl (cK (srtX X Y n) (srtY X Y n)) n))) ∧ (∀ e4 : E, ((0 ≤ e4.den ∧ e4.den < ((len' (fl (cK (srtX X Y n) (srtY X Y n)) n)))) → ((((srtX (X) (Y) n ((selL (fl (cK (srtX X Y n) (srtY X Y n)) n) (e4.den))))) = (((srtX (X) (Y) n ((selL (fl (cK (srtX X Y n) (srtY X Y n)) n) ((e4.den)))))))) ∧ (((srtY (X) (Y) n ((selL (fl (cK (srtX X Y n) (srtY X Y n)) n) (e4.den))))) = (((srtY (X) (Y) n ((selL (fl (cK (srtX X Y n) (srtY X Y n)) n) ((e4.den)))))))))))) ∧ ((((len' (fl (cK (srtX X Y n) (srtY X Y n)) n))) = (iN X Y n)) ∧ (((n ≤ n) ∧ (∀ e6 : E, ((0 ≤ e6.den ∧ e6.den < n) → ((((X (e6.den))) = ((X (e6.den)))) ∧ (((Y (e6.den))) = ((Y (e6.den)))))))) ∧ (((iN X Y n) ≤ ((len' (fl (cK (srtX X Y n) (srtY X Y n)) n)))) ∧ (∀ e5 : E, ((0 ≤ e5.den ∧ e5.den < (iN X Y n)) → (((((srtX (X) (Y) n ((selL (fl (cK (srtX X Y n) (srtY X Y n)) n) ((e5.den))))))) = (iX X Y n e5.den)) ∧ ((((srtY (X) (Y) n ((selL (fl (cK (srtX X Y n) (srtY X Y n)) n) ((e5.den))))))) = (iY X Y n e5.den))))))))))))))))) (by kernel_rfl) ?_
  intro h1 h2
  refine ⟨rfl, ⟨Int.le_refl _, fun _ => fun _ => ⟨rfl, rfl⟩⟩, rfl, ⟨Int.le_refl _, fun _ => fun _ => ⟨rfl, rfl⟩⟩, rfl, ⟨Int.le_refl _, fun _ => fun _ => ⟨rfl, rfl⟩⟩, rfl, ⟨Int.le_refl _, fun _ => fun _ => ⟨rfl, rfl⟩⟩, ?_, ⟨Int.le_refl _, fun _ => fun _ => ⟨rfl, rfl⟩⟩, ?_, ?_⟩
  · rfl
  · exact Int.le_refl _
  · intro e5
    intro c8
    refine ⟨?_, ?_⟩
    · rfl
    · rfl
def c_i_sorted (X : Int → Int) (Y : Int → Int) (n : Int) : Cn Try.prog := ⟨_, _, _, _, _, i_sorted X Y n⟩
end Go.Proofs.Ytpnjopppclmfkaa
