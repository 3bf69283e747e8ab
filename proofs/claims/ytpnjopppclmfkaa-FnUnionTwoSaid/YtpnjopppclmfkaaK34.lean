/- Rectangles: borders, cells, areas. -/
import Derived.Test.YtpnjopppclmfkaaK30
import Derived.Test.YtpnjopppclmfkaaK33
import Derived.Test.YtpnjopppclmfkaaK7
import Derived.Test.YtpnjopppclmfkaaSi
set_option linter.unusedSimpArgs false
set_option linter.unusedVariables false
set_option maxRecDepth 100000
namespace Go.Proofs.Ytpnjopppclmfkaa
open Go.Sym
/-- Two lists of numbers, by turns. -/
def il (A B : Int → Int) (i : Int) : Int := if i % 2 = 0 then A (i / 2) else B (i / 2)
theorem il_even {A B : Int → Int} {i j : Int} (h : i = 2 * j) : il A B i = A j := by
  unfold il; rw [if_pos (by omega), show i / 2 = j by omega]
theorem il_odd {A B : Int → Int} {i j : Int} (h : i = 2 * j + 1) : il A B i = B j := by
  unfold il; rw [if_neg (by omega), show i / 2 = j by omega]
/-- The borders, in order, each once. -/
def uN (A D : Int → Int) (n : Int) : Int := iN (il A D) noY (2 * n)
def uX (A D : Int → Int) (n i : Int) : Int := iX (il A D) noY (2 * n) i
theorem u_mem {A D : Int → Int} {n q : Int} : (∃ i, (0 ≤ i ∧ i < uN A D n) ∧ uX A D n i = q) ↔ ∃ r, (0 ≤ r ∧ r < n) ∧ (A r = q ∨ D r = q) := by
  constructor
  · rintro ⟨i, hi, e⟩
    obtain ⟨j, hj, e1, _⟩ := (i_mem (X := il A D) (Y := noY) (n := 2 * n) (qx := q) (qy := iY (il A D) noY (2 * n) i)).1 ⟨i, hi, e, rfl⟩
    rcases Int.emod_two_eq j with h | h
    · exact ⟨j / 2, ⟨by omega, by omega⟩, .inl (by rw [← e1, il_even (j := j / 2) (by omega)])⟩
    · exact ⟨j / 2, ⟨by omega, by omega⟩, .inr (by rw [← e1, il_odd (j := j / 2) (by omega)])⟩
  · rintro ⟨r, hr, h⟩
    have : memP (il A D) noY (2 * n) q 0 := by
      rcases h with h | h
      · exact ⟨2 * r, ⟨by omega, by omega⟩, by rw [il_even rfl]; exact h, rfl⟩
      · exact ⟨2 * r + 1, ⟨by omega, by omega⟩, by rw [il_odd rfl]; exact h, rfl⟩
    obtain ⟨i, hi, e1, _⟩ := i_mem.2 this
    exact ⟨i, hi, e1⟩
theorem u_lt {A D : Int → Int} {n i j : Int} (h0 : 0 ≤ i) (h1 : i < j) (h2 : j < uN A D n) : uX A D n i < uX A D n j := by
  have h := ltP_iff.1 (i_srt (il A D) noY (2 * n) i j h0 h1 h2)
  have z : ∀ k, 0 ≤ k → k < uN A D n → iY (il A D) noY (2 * n) k = 0 := by
    intro k a b
    obtain ⟨j, _, _, e⟩ := (i_mem (X := il A D) (Y := noY) (n := 2 * n)).1 ⟨k, ⟨a, b⟩, rfl, rfl⟩
    exact e.symm
  have z1 := z i h0 (by omega)
  have z2 := z j (by omega) h2
  unfold uX; omega
theorem u_le {A D : Int → Int} {n i j : Int} (h0 : 0 ≤ i) (h1 : i ≤ j) (h2 : j < uN A D n) : uX A D n i ≤ uX A D n j := by
  by_cases e : i = j
  · rw [e]; exact Int.le_refl _
  · have := u_lt h0 (show i < j by omega) h2; omega
theorem uN_bd (A D : Int → Int) {n : Int} (h : 0 ≤ n) : 0 ≤ uN A D n ∧ uN A D n ≤ 2 * n := iN_bd _ _ (by omega)
theorem uN_1 (A D : Int → Int) {n : Int} (h : 0 < n) : 1 ≤ uN A D n := by
  obtain ⟨i, hi, _⟩ := (u_mem (A := A) (D := D) (n := n) (q := A 0)).2 ⟨0, ⟨by omega, h⟩, .inl rfl⟩
  omega
theorem uN_p (A D : Int → Int) {n : Int} (h0 : 0 ≤ n) (h : 0 < uN A D n) : 0 < n := by
  have := uN_bd A D h0
  omega
theorem uX_bd {A D : Int → Int} {n i lo hi : Int} (h : ∀ r, 0 ≤ r → r < n → (lo ≤ A r ∧ A r ≤ hi) ∧ lo ≤ D r ∧ D r ≤ hi) (h0 : 0 ≤ i) (h1 : i < uN A D n) : lo ≤ uX A D n i ∧ uX A D n i ≤ hi := by
  obtain ⟨r, hr, e⟩ := u_mem.1 ⟨i, ⟨h0, h1⟩, rfl⟩
  have := h r hr.1 hr.2
  omega
/-- No border lies between two neighbours. -/
theorem u_gap {A D : Int → Int} {n i q : Int} (hq : ∃ r, (0 ≤ r ∧ r < n) ∧ (A r = q ∨ D r = q)) (h0 : 0 ≤ i) (h1 : i + 1 < uN A D n) : q ≤ uX A D n i ∨ uX A D n (i + 1) ≤ q := by
  obtain ⟨m, hm, rfl⟩ := u_mem.2 hq
  by_cases e : m ≤ i
  · exact .inl (u_le hm.1 e (by omega))
  · exact .inr (u_le (by omega) (by omega) hm.2)
theorem u_ends {A D : Int → Int} {n q : Int} (hq : ∃ r, (0 ≤ r ∧ r < n) ∧ (A r = q ∨ D r = q)) : uX A D n 0 ≤ q ∧ q ≤ uX A D n (uN A D n - 1) := by
  obtain ⟨m, hm, rfl⟩ := u_mem.2 hq
  exact ⟨u_le (by omega) hm.1 hm.2, u_le hm.1 (by omega) (by omega)⟩
/-- A rectangle has the unit cell at a point. -/
def inr (A B D F : Int → Int) (x y i : Int) : Bool := (decide (A i ≤ x) && decide (x ≤ D i - 1)) && (decide (B i ≤ y) && decide (y ≤ F i - 1))
def dep (A B D F : Int → Int) (n x y : Int) : Int := len' (fl (inr A B D F x y) n)
def inc (A B D F : Int → Int) (x0 y0 x1 y1 i : Int) : Bool := (decide (A i ≤ x0) && decide (x1 ≤ D i)) && (decide (B i ≤ y0) && decide (y1 ≤ F i))
theorem inr_iff {A B D F : Int → Int} {x y i : Int} : inr A B D F x y i = true ↔ (A i ≤ x ∧ x < D i) ∧ B i ≤ y ∧ y < F i := by
  unfold inr
  simp only [Bool.and_eq_true, decide_eq_true_eq]
  omega
theorem inc_iff {A B D F : Int → Int} {x y u v i : Int} : inc A B D F x y u v i = true ↔ (A i ≤ x ∧ u ≤ D i) ∧ B i ≤ y ∧ v ≤ F i := by
  unfold inc
  simp only [Bool.and_eq_true, decide_eq_true_eq]
theorem dep_bd (A B D F : Int → Int) {n : Int} (x y : Int) (h : 0 ≤ n) : 0 ≤ dep A B D F n x y ∧ dep A B D F n x y ≤ n := fl_bd _ h
theorem dep_x {A B D F : Int → Int} {n x y i : Int} (hn : 0 ≤ n) (h0 : 0 ≤ i) (h1 : i + 1 < uN A D n) (h2 : uX A D n i ≤ x) (h3 : x < uX A D n (i + 1)) : dep A B D F n x y = dep A B D F n (uX A D n i) y := by
  refine fl_eq hn fun r a b => ?_
  have g1 := u_gap (A := A) (D := D) (q := A r) ⟨r, ⟨a, b⟩, .inl rfl⟩ h0 h1
  have g2 := u_gap (A := A) (D := D) (q := D r) ⟨r, ⟨a, b⟩, .inr rfl⟩ h0 h1
  rw [Bool.eq_iff_iff, inr_iff, inr_iff]
  omega
theorem dep_y {A B D F : Int → Int} {n x y i : Int} (hn : 0 ≤ n) (h0 : 0 ≤ i) (h1 : i + 1 < uN B F n) (h2 : uX B F n i ≤ y) (h3 : y < uX B F n (i + 1)) : dep A B D F n x y = dep A B D F n x (uX B F n i) := by
  refine fl_eq hn fun r a b => ?_
  have g1 := u_gap (A := B) (D := F) (q := B r) ⟨r, ⟨a, b⟩, .inl rfl⟩ h0 h1
  have g2 := u_gap (A := B) (D := F) (q := F r) ⟨r, ⟨a, b⟩, .inr rfl⟩ h0 h1
  rw [Bool.eq_iff_iff, inr_iff, inr_iff]
  omega
theorem dep_out {A B D F : Int → Int} {n x y : Int} (hn : 0 ≤ n) (h : (x < uX A D n 0 ∨ uX A D n (uN A D n - 1) ≤ x) ∨ (y < uX B F n 0 ∨ uX B F n (uN B F n - 1) ≤ y)) : dep A B D F n x y = 0 := by
  refine fl_nil hn fun r a b => ?_
  have g1 := u_ends (A := A) (D := D) (q := A r) ⟨r, ⟨a, b⟩, .inl rfl⟩
  have g2 := u_ends (A := A) (D := D) (q := D r) ⟨r, ⟨a, b⟩, .inr rfl⟩
  have g3 := u_ends (A := B) (D := F) (q := B r) ⟨r, ⟨a, b⟩, .inl rfl⟩
  have g4 := u_ends (A := B) (D := F) (q := F r) ⟨r, ⟨a, b⟩, .inr rfl⟩
  rw [← Bool.not_eq_true, inr_iff]
  omega
theorem dep_inc {A B D F : Int → Int} {n i k : Int} (hn : 0 ≤ n) (h0 : 0 ≤ i) (h1 : i + 1 < uN A D n) (h2 : 0 ≤ k) (h3 : k + 1 < uN B F n) :
    len' (fl (inc A B D F (uX A D n i) (uX B F n k) (uX A D n (i + 1)) (uX B F n (k + 1))) n) = dep A B D F n (uX A D n i) (uX B F n k) := by
  refine fl_eq hn fun r a b => ?_
  have g2 := u_gap (A := A) (D := D) (q := D r) ⟨r, ⟨a, b⟩, .inr rfl⟩ h0 h1
  have g4 := u_gap (A := B) (D := F) (q := F r) ⟨r, ⟨a, b⟩, .inr rfl⟩ h2 h3
  have l1 := u_lt (A := A) (D := D) h0 (show i < i + 1 by omega) h1
  have l2 := u_lt (A := B) (D := F) h2 (show k < k + 1 by omega) h3
  rw [Bool.eq_iff_iff, inr_iff, inc_iff]
  omega
/-- The number of a cell. -/
def gN (w i k : Int) : Int := i * w + k
theorem gN_k (w i k : Int) : gN w i (k + 1) = gN w i k + 1 := by unfold gN; omega
theorem gN_i (w i : Int) : gN w (i + 1) 0 = gN w i w := by unfold gN; rw [Int.add_mul]; omega
theorem gN_0 (w k : Int) : gN w 0 k = k := by unfold gN; omega
theorem gN_bd {w i k : Int} (h : 0 ≤ i ∧ i ≤ 24) (hw : 0 ≤ w ∧ w ≤ 24) (hk : 0 ≤ k ∧ k ≤ 24) : 0 ≤ gN w i k ∧ gN w i k ≤ 600 := by
  have a := Int.mul_nonneg h.1 hw.1
  have b := Int.mul_le_mul h.2 hw.2 hw.1 (by decide)
  unfold gN; omega
theorem gN_div {w i k : Int} (h0 : 0 ≤ k) (h1 : k < w) : gN w i k / w = i := by
  unfold gN
  rw [Int.add_comm, Int.add_mul_ediv_right _ _ (by omega), Int.ediv_eq_zero_of_lt h0 h1, Int.zero_add]
theorem gN_mod {w i k : Int} (h0 : 0 ≤ k) (h1 : k < w) : gN w i k % w = k := by
  unfold gN
  rw [Int.add_comm, Int.add_mul_emod_self_right, Int.emod_eq_of_lt h0 h1]
theorem gN_in {w u j : Int} (h0 : 0 ≤ j) (h1 : j < gN w u 0) (hw : 0 ≤ w) : 0 < w ∧ (0 ≤ j / w ∧ j / w < u) ∧ 0 ≤ j % w ∧ j % w < w := by
  have hp : 0 < w := by
    refine Classical.byContradiction fun hc => ?_
    have : w = 0 := by omega
    subst this
    unfold gN at h1; omega
  refine ⟨hp, ⟨Int.ediv_nonneg h0 hw, Int.ediv_lt_of_lt_mul hp (by unfold gN at h1; omega)⟩, Int.emod_nonneg _ (by omega), Int.emod_lt_of_pos _ hp⟩
theorem gN_at (w j : Int) : gN w (j / w) (j % w) = j := by
  have h := Int.emod_add_mul_ediv j w
  have e : j / w * w = w * (j / w) := Int.mul_comm _ _
  unfold gN; omega
def clN (A B D F : Int → Int) (n : Int) : Int := if n ≤ 0 then 0 else gN (uN B F n - 1) (uN A D n - 1) 0
def clA (A B D F : Int → Int) (n j : Int) : Int := uX A D n (j / (uN B F n - 1))
def clD (A B D F : Int → Int) (n j : Int) : Int := uX A D n (j / (uN B F n - 1) + 1)
def clB (A B D F : Int → Int) (n j : Int) : Int := uX B F n (j % (uN B F n - 1))
def clF (A B D F : Int → Int) (n j : Int) : Int := uX B F n (j % (uN B F n - 1) + 1)
def clK (A B D F : Int → Int) (n j : Int) : Int := len' (fl (inc A B D F (clA A B D F n j) (clB A B D F n j) (clD A B D F n j) (clF A B D F n j)) n)
theorem cl_in {A B D F : Int → Int} {n j : Int} (hn : 0 ≤ n) (h0 : 0 ≤ j) (h1 : j < clN A B D F n) : (0 ≤ j / (uN B F n - 1) ∧ j / (uN B F n - 1) + 1 < uN A D n) ∧ 0 ≤ j % (uN B F n - 1) ∧ j % (uN B F n - 1) + 1 < uN B F n := by
  unfold clN at h1
  split at h1
  · omega
  · have := uN_1 B F (n := n) (by omega)
    have := gN_in h0 h1 (by omega)
    omega
theorem cl_at {A B D F : Int → Int} {n i k : Int} (h0 : 0 ≤ k) (h1 : k < uN B F n - 1) : (clA A B D F n (gN (uN B F n - 1) i k) = uX A D n i ∧ clD A B D F n (gN (uN B F n - 1) i k) = uX A D n (i + 1)) ∧ clB A B D F n (gN (uN B F n - 1) i k) = uX B F n k ∧ clF A B D F n (gN (uN B F n - 1) i k) = uX B F n (k + 1) := by
  unfold clA clD clB clF
  rw [gN_div h0 h1, gN_mod h0 h1]
  exact ⟨⟨rfl, rfl⟩, rfl, rfl⟩
theorem cl_k {A B D F : Int → Int} {n i k : Int} (h0 : 0 ≤ k) (h1 : k < uN B F n - 1) : clK A B D F n (gN (uN B F n - 1) i k) = len' (fl (inc A B D F (uX A D n i) (uX B F n k) (uX A D n (i + 1)) (uX B F n (k + 1))) n) := by
  obtain ⟨⟨a, b⟩, c, d⟩ := cl_at (A := A) (B := B) (D := D) (F := F) (n := n) (i := i) h0 h1
  unfold clK
  rw [a, b, c, d]
theorem cl_dep {A B D F : Int → Int} {n i k : Int} (hn : 0 ≤ n) (hi : 0 ≤ i) (hi1 : i + 1 < uN A D n) (h0 : 0 ≤ k) (h1 : k < uN B F n - 1) : clK A B D F n (gN (uN B F n - 1) i k) = dep A B D F n (uX A D n i) (uX B F n k) := by
  rw [cl_k h0 h1]
  exact dep_inc hn hi hi1 h0 (by omega)
/-- The area, cell by cell. -/
def cvT (A B D F : Int → Int) (n d j : Int) : Int := if d ≤ clK A B D F n j then (clD A B D F n j - clA A B D F n j) * (clF A B D F n j - clB A B D F n j) else 0
def cvC (A B D F : Int → Int) (n d i k : Int) : Int := if d ≤ dep A B D F n (uX A D n i) (uX B F n k) then (uX A D n (i + 1) - uX A D n i) * (uX B F n (k + 1) - uX B F n k) else 0
def cvR (A B D F : Int → Int) (n d i : Int) : Int := smf (cvC A B D F n d i) (uN B F n - 1).toNat
def ua (A B D F : Int → Int) (n d : Int) : Int := isum (fun x => isum (fun y => bi (decide (d ≤ dep A B D F n x y))) (-1000) 1000) (-1000) 1000
def okR (A B D F : Int → Int) (n : Int) : Prop := ∀ r, 0 ≤ r → r < n → ((-1000 ≤ A r ∧ A r ≤ 1000) ∧ -1000 ≤ D r ∧ D r ≤ 1000) ∧ ((-1000 ≤ B r ∧ B r ≤ 1000) ∧ -1000 ≤ F r ∧ F r ≤ 1000)
theorem okR_x {A B D F : Int → Int} {n i : Int} (h : okR A B D F n) (h0 : 0 ≤ i) (h1 : i < uN A D n) : -1000 ≤ uX A D n i ∧ uX A D n i ≤ 1000 := uX_bd (fun r a b => (h r a b).1) h0 h1
theorem okR_y {A B D F : Int → Int} {n i : Int} (h : okR A B D F n) (h0 : 0 ≤ i) (h1 : i < uN B F n) : -1000 ≤ uX B F n i ∧ uX B F n i ≤ 1000 := uX_bd (fun r a b => (h r a b).2) h0 h1
theorem mul_bd {a b c e : Int} (h1 : 0 ≤ a) (h2 : a ≤ c) (h3 : 0 ≤ b) (h4 : b ≤ e) : 0 ≤ a * b ∧ a * b ≤ c * e := ⟨Int.mul_nonneg h1 h3, Int.mul_le_mul h2 h4 h3 (by omega)⟩
theorem cvC_bd {A B D F : Int → Int} {n d i k : Int} (h : okR A B D F n) (h0 : 0 ≤ i) (h1 : i + 1 < uN A D n) (h2 : 0 ≤ k) (h3 : k + 1 < uN B F n) : 0 ≤ cvC A B D F n d i k ∧ cvC A B D F n d i k ≤ 4000000 := by
  unfold cvC
  split
  · have a := okR_x h h0 (by omega)
    have b := okR_x h (show 0 ≤ i + 1 by omega) h1
    have c := okR_y h h2 (by omega)
    have e := okR_y h (show 0 ≤ k + 1 by omega) h3
    have l1 := u_lt (A := A) (D := D) h0 (show i < i + 1 by omega) h1
    have l2 := u_lt (A := B) (D := F) h2 (show k < k + 1 by omega) h3
    exact mul_bd (c := 2000) (e := 2000) (by omega) (by omega) (by omega) (by omega)
  · omega
theorem cvs_bd {A B D F : Int → Int} {n d i k : Int} (hn : 0 ≤ n ∧ n ≤ 12) (h : okR A B D F n) (h0 : 0 ≤ i) (h1 : i + 1 < uN A D n) (h2 : 0 ≤ k) (h3 : k < uN B F n) : 0 ≤ smf (cvC A B D F n d i) k.toNat ∧ smf (cvC A B D F n d i) k.toNat ≤ 96000000 := by
  have := smf_bd (f := cvC A B D F n d i) (c := 4000000) k.toNat (fun t a b => cvC_bd h h0 h1 (by omega) (by omega))
  have := uN_bd B F hn.1
  omega
theorem cvr_bd {A B D F : Int → Int} {n d i : Int} (hn : 0 ≤ n ∧ n ≤ 12) (h : okR A B D F n) (h0 : 0 ≤ i) (h1 : i < uN A D n) : 0 ≤ smf (cvR A B D F n d) i.toNat ∧ smf (cvR A B D F n d) i.toNat ≤ 2304000000 := by
  have := smf_bd (f := cvR A B D F n d) (c := 96000000) i.toNat (fun t a b => by
    by_cases hv : 0 < uN B F n
    · exact cvs_bd hn h (by omega) (by omega) (by omega) (by omega)
    · unfold cvR
      rw [show (uN B F n - 1).toNat = 0 by omega, smf]; omega)
  have := uN_bd A D hn.1
  omega
theorem cvT_at {A B D F : Int → Int} {n d i k : Int} (hn : 0 ≤ n) (hi : 0 ≤ i) (hi1 : i + 1 < uN A D n) (h0 : 0 ≤ k) (h1 : k < uN B F n - 1) : cvT A B D F n d (gN (uN B F n - 1) i k) = cvC A B D F n d i k := by
  obtain ⟨⟨a, b⟩, c, e⟩ := cl_at (A := A) (B := B) (D := D) (F := F) (n := n) (i := i) h0 h1
  unfold cvT cvC
  rw [cl_dep hn hi hi1 h0 h1, a, b, c, e]
theorem cvT_bd {A B D F : Int → Int} {n d j : Int} (hn : 0 ≤ n) (h : okR A B D F n) (h0 : 0 ≤ j) (h1 : j < clN A B D F n) : 0 ≤ cvT A B D F n d j ∧ cvT A B D F n d j ≤ 4000000 := by
  have hi := cl_in hn h0 h1
  rw [← gN_at (uN B F n - 1) j, cvT_at hn hi.1.1 hi.1.2 hi.2.1 (by omega)]
  exact cvC_bd h hi.1.1 hi.1.2 hi.2.1 hi.2.2
theorem clN_bd (A B D F : Int → Int) {n : Int} (hn : 0 ≤ n ∧ n ≤ 12) : 0 ≤ clN A B D F n ∧ clN A B D F n ≤ 600 := by
  unfold clN
  split
  · omega
  · have a := uN_1 A D (n := n) (by omega)
    have b := uN_1 B F (n := n) (by omega)
    have c := uN_bd A D hn.1
    have e := uN_bd B F hn.1
    exact gN_bd (by omega) (by omega) (by omega)
theorem cvt_bd {A B D F : Int → Int} {n d j : Int} (hn : 0 ≤ n ∧ n ≤ 12) (h : okR A B D F n) (h0 : 0 ≤ j) (h1 : j ≤ clN A B D F n) : 0 ≤ smf (cvT A B D F n d) j.toNat ∧ smf (cvT A B D F n d) j.toNat ≤ 2400000000 := by
  have := smf_bd (f := cvT A B D F n d) (c := 4000000) j.toNat (fun t a b => cvT_bd hn.1 h (by omega) (by omega))
  have := clN_bd A B D F hn
  omega
/-- By cells or by rows. -/
theorem cv_re {A B D F : Int → Int} {n d : Int} (hn : 0 < n) : ∀ i : Nat, (i : Int) < uN A D n → smf (cvT A B D F n d) (gN (uN B F n - 1) i 0).toNat = smf (cvR A B D F n d) i
  | 0, _ => by
    show smf _ (gN _ 0 0).toNat = _
    rw [gN_0]; rfl
  | i + 1, h => by
    have hv := uN_1 B F hn
    have ih := cv_re (A := A) (B := B) (D := D) (F := F) (n := n) (d := d) hn i (by omega)
    have g0 : 0 ≤ gN (uN B F n - 1) i 0 := by
      have := Int.mul_nonneg (show (0 : Int) ≤ i by omega) (show 0 ≤ uN B F n - 1 by omega)
      unfold gN; omega
    have e : (gN (uN B F n - 1) ((i + 1 : Nat) : Int) 0).toNat = (gN (uN B F n - 1) i 0).toNat + (uN B F n - 1).toNat := by
      rw [show ((i + 1 : Nat) : Int) = (i : Int) + 1 by omega, gN_i]
      have : gN (uN B F n - 1) i (uN B F n - 1) = gN (uN B F n - 1) i 0 + (uN B F n - 1) := by unfold gN; omega
      omega
    rw [e, smf_split, ih, smf]
    congr 1
    unfold cvR
    refine smf_congr _ fun t a b => ?_
    show cvT A B D F n d _ = _
    rw [show (((gN (uN B F n - 1) i 0).toNat : Nat) : Int) + (t : Int) = gN (uN B F n - 1) i t by unfold gN at *; omega]
    exact cvT_at (by omega) (by omega) (by omega) (by omega) (by omega)
theorem ua_none {A B D F : Int → Int} {n d : Int} (hn : n = 0) (hd : 1 ≤ d) : ua A B D F n d = 0 := by
  unfold ua
  refine isum_zero fun x _ _ => isum_zero fun y _ _ => ?_
  have := dep_bd A B D F x y (show 0 ≤ n by omega)
  rw [decide_eq_false (by omega)]
  rfl
theorem cov_S {A B D F : Int → Int} {n d : Int} (hn : 0 ≤ n) (h : okR A B D F n) (hd : 1 ≤ d) : smf (cvR A B D F n d) (uN A D n - 1).toNat = ua A B D F n d := by
  by_cases e : n = 0
  · rw [ua_none e hd]
    have := uN_bd A D hn
    rw [show (uN A D n - 1).toNat = 0 by omega, smf]
  have hu := uN_1 A D (show 0 < n by omega)
  have hv := uN_1 B F (show 0 < n by omega)
  have zb : ∀ x y, ((x < uX A D n 0 ∨ uX A D n (uN A D n - 1) ≤ x) ∨ (y < uX B F n 0 ∨ uX B F n (uN B F n - 1) ≤ y)) → bi (decide (d ≤ dep A B D F n x y)) = 0 := by
    intro x y hh
    rw [dep_out hn hh, decide_eq_false (by omega)]
    rfl
  unfold ua
  rw [isum_steps (X := uX A D n) (N := uN A D n) hu (fun i j a b c => u_lt a b c) (fun i a b => okR_x h a b)]
  · refine smf_congr _ fun i a b => ?_
    show _ = isum (fun y => bi (decide (d ≤ dep A B D F n (uX A D n i) y))) (-1000) 1000 * (uX A D n (i + 1) - uX A D n i)
    rw [isum_steps (X := uX B F n) (N := uN B F n) hv (fun i j a b c => u_lt a b c) (fun i a b => okR_y h a b)]
    · rw [smf_mul]
      unfold cvR
      refine smf_congr _ fun k a b => ?_
      show cvC A B D F n d i k = _
      unfold cvC
      by_cases hc : d ≤ dep A B D F n (uX A D n i) (uX B F n k)
      · rw [if_pos hc, decide_eq_true hc]
        show _ = 1 * _ * _
        rw [Int.one_mul, Int.mul_comm]
      · rw [if_neg hc, decide_eq_false hc]
        show _ = 0 * _ * _
        rw [Int.zero_mul, Int.zero_mul]
    · intro k y a b c e
      show bi _ = bi _
      rw [dep_y hn a b c e]
    · intro y hy
      exact zb _ _ (.inr hy)
  · intro i x a b c e
    refine isum_congr fun y _ _ => ?_
    rw [dep_x hn a b c e]
  · intro x hx
    exact isum_zero fun y _ _ => zb _ _ (.inl hx)
theorem cov_I {A B D F : Int → Int} {n d : Int} (hn : 0 ≤ n) (h : okR A B D F n) (hd : 1 ≤ d) : smf (cvT A B D F n d) (clN A B D F n).toNat = ua A B D F n d := by
  rw [← cov_S hn h hd]
  unfold clN
  by_cases e : n ≤ 0
  · rw [if_pos e]
    have := uN_bd A D hn
    rw [show (uN A D n - 1).toNat = 0 by omega, smf]
    rfl
  · rw [if_neg e]
    have hu := uN_1 A D (show 0 < n by omega)
    have := cv_re (A := A) (B := B) (D := D) (F := F) (n := n) (d := d) (by omega) (uN A D n - 1).toNat (by omega)
    rw [show (((uN A D n - 1).toNat : Nat) : Int) = uN A D n - 1 by omega] at this
    exact this
theorem ua_bd (A B D F : Int → Int) (n d : Int) : 0 ≤ ua A B D F n d ∧ ua A B D F n d ≤ 4000000 := by
  have h : ∀ x, 0 ≤ isum (fun y => bi (decide (d ≤ dep A B D F n x y))) (-1000) 1000 ∧ isum (fun y => bi (decide (d ≤ dep A B D F n x y))) (-1000) 1000 ≤ 2000 := by
    intro x
    have := smf_bd (f := fun t => bi (decide (d ≤ dep A B D F n x (-1000 + t)))) (c := 1) (1000 - -1000 : Int).toNat (fun i _ _ => bi_bd _)
    exact this
  have := smf_bd (f := fun t => isum (fun y => bi (decide (d ≤ dep A B D F n (-1000 + t) y))) (-1000) 1000) (c := 2000) (1000 - -1000 : Int).toNat (fun i _ _ => h _)
  exact this
/-- What both answer. -/
def cov (A B D F : Int → Int) (n d : Int) : Int := if (vrs A B D F n && decide (1 ≤ d)) = true then ua A B D F n d else -1
theorem vrs_ok {A B D F : Int → Int} {n : Int} (h : vrs A B D F n = true) : n ≤ 12 ∧ okR A B D F n ∧ ∀ r, 0 ≤ r → r < n → A r < D r ∧ B r < F r := by
  unfold vrs at h
  rw [Bool.and_eq_true, decide_eq_true_eq, allB_iff] at h
  obtain ⟨h1, h2⟩ := h
  have key : ∀ r, 0 ≤ r → r < n → ((((-1000 ≤ A r ∧ A r ≤ 1000) ∧ -1000 ≤ D r ∧ D r ≤ 1000) ∧ ((-1000 ≤ B r ∧ B r ≤ 1000) ∧ -1000 ≤ F r ∧ F r ≤ 1000))) ∧ A r < D r ∧ B r < F r := by
    intro r a b
    have h := h2 r a b
    unfold rcB at h
    simp only [Bool.and_eq_true, decide_eq_true_eq, okP_iff] at h
    omega
  exact ⟨h1, fun r a b => (key r a b).1, fun r a b => (key r a b).2⟩
theorem cov_bd (A B D F : Int → Int) (n d : Int) : -1 ≤ cov A B D F n d ∧ cov A B D F n d ≤ 4000000 := by
  have := ua_bd A B D F n d
  unfold cov
  split <;> omega
theorem cov_yes {A B D F : Int → Int} {n d : Int} (h1 : vrs A B D F n = true) (h2 : 1 ≤ d) : cov A B D F n d = ua A B D F n d := by
  unfold cov
  rw [if_pos (by rw [h1, decide_eq_true h2]; rfl)]
theorem cov_no {A B D F : Int → Int} {n d : Int} (h : vrs A B D F n = false ∨ d < 1) : cov A B D F n d = -1 := by
  unfold cov
  rw [if_neg]
  rw [Bool.and_eq_true, decide_eq_true_eq]
  rintro ⟨a, b⟩
  rcases h with h | h
  · rw [h] at a; cases a
  · omega

/-- The value at a place, or zero. -/
def vz (f : Int → Int) (b : Int) : Int := if b < 0 then 0 else f b
/-- The first place of the largest value above zero. -/
def mxj (g : Int → Int) : Nat → Int
  | 0 => -1
  | m + 1 => if vz g (mxj g m) < g m then m else mxj g m
theorem mxj_bd (g : Int → Int) : ∀ m : Nat, -1 ≤ mxj g m ∧ mxj g m < m
  | 0 => by rw [mxj]; omega
  | m + 1 => by
    have ih := mxj_bd g m
    rw [mxj]
    split <;> omega
def mjN (g : Int → Int) (j : Int) : Int := mxj g j.toNat
theorem mj_yes {g : Int → Int} {j : Int} (h0 : 0 ≤ j) (h : vz g (mjN g j) < g j) : ∀ f, vz f (mjN g (j + 1)) = f j := by
  intro f
  unfold mjN at *
  rw [show (j + 1).toNat = j.toNat + 1 by omega, mxj, show ((j.toNat : Nat) : Int) = j by omega, if_pos h]
  unfold vz
  rw [if_neg (by omega)]
theorem mj_no {g : Int → Int} {j : Int} (h0 : 0 ≤ j) (h : g j ≤ vz g (mjN g j)) : mjN g (j + 1) = mjN g j := by
  unfold mjN at *
  rw [show (j + 1).toNat = j.toNat + 1 by omega, mxj, show ((j.toNat : Nat) : Int) = j by omega, if_neg (by omega)]
theorem mj_0 (g f : Int → Int) : vz f (mjN g 0) = 0 := rfl
abbrev I3 := Int × Int × Int
def mxs (g px py : Int → Int) : Nat → I3 → I3
  | 0, s => s
  | m + 1, s => if (mxs g px py m s).1 < g m then (g m, px m, py m) else mxs g px py m s
theorem mxj_mxs (g px py : Int → Int) : ∀ m : Nat, mxs g px py m (0, 0, 0) = (vz g (mxj g m), vz px (mxj g m), vz py (mxj g m))
  | 0 => rfl
  | m + 1 => by
    rw [mxs, mxj_mxs g px py m, mxj]
    by_cases h : vz g (mxj g m) < g m
    · rw [if_pos h, if_pos h]
      unfold vz
      rw [if_neg (by omega), if_neg (by omega), if_neg (by omega)]
    · rw [if_neg h, if_neg h]
theorem mxs_split (g px py : Int → Int) (s : I3) (m : Nat) : ∀ k : Nat, mxs g px py (m + k) s = mxs (fun t => g (m + t)) (fun t => px (m + t)) (fun t => py (m + t)) k (mxs g px py m s)
  | 0 => rfl
  | k + 1 => by
    have e : ((m + k : Nat) : Int) = (m : Int) + k := by omega
    rw [show m + (k + 1) = (m + k) + 1 by omega, mxs, mxs, mxs_split g px py s m k, e]
theorem mxs_congr {g px py g' px' py' : Int → Int} (s : I3) : ∀ m : Nat, (∀ i : Nat, i < m → g i = g' i ∧ px i = px' i ∧ py i = py' i) → mxs g px py m s = mxs g' px' py' m s
  | 0, _ => rfl
  | m + 1, h => by
    obtain ⟨a, b, c⟩ := h m (by omega)
    rw [mxs, mxs, mxs_congr s m (fun i hi => h i (by omega)), a, b, c]
theorem mxs_ge (g px py : Int → Int) (s : I3) : ∀ m : Nat, s.1 ≤ (mxs g px py m s).1 ∧ ∀ i : Nat, i < m → g i ≤ (mxs g px py m s).1
  | 0 => ⟨Int.le_refl _, fun i h => by omega⟩
  | m + 1 => by
    obtain ⟨a, b⟩ := mxs_ge g px py s m
    rw [mxs]
    by_cases h : (mxs g px py m s).1 < g m
    · rw [if_pos h]
      refine ⟨by show _ ≤ g m; omega, fun i hi => ?_⟩
      show _ ≤ g m
      by_cases e : i = m
      · rw [e]; exact Int.le_refl _
      · have := b i (by omega); omega
    · rw [if_neg h]
      refine ⟨a, fun i hi => ?_⟩
      by_cases e : i = m
      · rw [e]; omega
      · exact b i (by omega)
theorem mxs_zero (g px py : Int → Int) (s : I3) (hs : 0 ≤ s.1) (m : Nat) (h : ∀ i : Nat, i < m → g i = 0) : mxs g px py m s = s := by
  induction m with
  | zero => rfl
  | succ k ih => rw [mxs, ih (fun i hi => h i (by omega)), h k (by omega), if_neg (by omega)]
/-- What holds of the start and of each holds of the end. -/
theorem mxs_ind {P : I3 → Prop} {g px py : Int → Int} (s : I3) (hs : P s) : ∀ m : Nat, (∀ i : Nat, i < m → P (g i, px i, py i)) → P (mxs g px py m s)
  | 0, _ => hs
  | m + 1, h => by
    have ih := mxs_ind s hs m (fun i hi => h i (by omega))
    rw [mxs]
    split
    · exact h m (by omega)
    · exact ih
def mdR (A B D F : Int → Int) (n i : Int) (k : Nat) (s : I3) : I3 := mxs (fun k => dep A B D F n (uX A D n i) (uX B F n k)) (fun _ => uX A D n i) (uX B F n) k s
def mdO (A B D F : Int → Int) (n : Int) : Nat → I3
  | 0 => (0, 0, 0)
  | i + 1 => mdR A B D F n i (uN B F n).toNat (mdO A B D F n i)
/-- What the reference has in the middle of a row. -/
def mdQ (A B D F : Int → Int) (n i k : Int) : I3 := mdR A B D F n i k.toNat (mdO A B D F n i.toNat)
theorem mdQ_0 (A B D F : Int → Int) (n : Int) : mdQ A B D F n 0 0 = (0, 0, 0) := rfl
theorem mdQ_yes {A B D F : Int → Int} {n i k : Int} (h0 : 0 ≤ k) (h : (mdQ A B D F n i k).1 < dep A B D F n (uX A D n i) (uX B F n k)) : mdQ A B D F n i (k + 1) = (dep A B D F n (uX A D n i) (uX B F n k), uX A D n i, uX B F n k) := by
  unfold mdQ mdR at *
  rw [show (k + 1).toNat = k.toNat + 1 by omega, mxs, show ((k.toNat : Nat) : Int) = k by omega, if_pos h]
theorem mdQ_no {A B D F : Int → Int} {n i k : Int} (h0 : 0 ≤ k) (h : dep A B D F n (uX A D n i) (uX B F n k) ≤ (mdQ A B D F n i k).1) : mdQ A B D F n i (k + 1) = mdQ A B D F n i k := by
  unfold mdQ mdR at *
  rw [show (k + 1).toNat = k.toNat + 1 by omega, mxs, show ((k.toNat : Nat) : Int) = k by omega, if_neg (by omega)]
theorem mdQ_row {A B D F : Int → Int} {n i k : Int} (h0 : 0 ≤ i) (hv : 0 ≤ uN B F n) (h : uN B F n ≤ k) (h2 : k ≤ uN B F n) : mdQ A B D F n (i + 1) 0 = mdQ A B D F n i k := by
  obtain rfl : k = uN B F n := by omega
  unfold mdQ
  rw [show (i + 1).toNat = i.toNat + 1 by omega, mdO, show ((i.toNat : Nat) : Int) = i by omega]
  rfl
theorem mdO_ind {P : I3 → Prop} {A B D F : Int → Int} {n : Int} (hs : P (0, 0, 0)) (h : ∀ i k, (0 ≤ i ∧ i < uN A D n) → (0 ≤ k ∧ k < uN B F n) → P (dep A B D F n (uX A D n i) (uX B F n k), uX A D n i, uX B F n k)) : ∀ i : Nat, (i : Int) ≤ uN A D n → P (mdO A B D F n i)
  | 0, _ => hs
  | i + 1, hi => by
    have ih := mdO_ind hs h i (by omega)
    exact mxs_ind _ ih _ fun k hk => h i k (by omega) (by omega)
theorem mdO_bd {A B D F : Int → Int} {n i : Int} (hn : 0 ≤ n) (h : okR A B D F n) (h0 : 0 ≤ i) (h1 : i ≤ uN A D n) : (0 ≤ (mdO A B D F n i.toNat).1 ∧ (mdO A B D F n i.toNat).1 ≤ n) ∧ (-1000 ≤ (mdO A B D F n i.toNat).2.1 ∧ (mdO A B D F n i.toNat).2.1 ≤ 1000) ∧ (-1000 ≤ (mdO A B D F n i.toNat).2.2 ∧ (mdO A B D F n i.toNat).2.2 ≤ 1000) := by
  refine mdO_ind (P := fun s => (0 ≤ s.1 ∧ s.1 ≤ n) ∧ (-1000 ≤ s.2.1 ∧ s.2.1 ≤ 1000) ∧ (-1000 ≤ s.2.2 ∧ s.2.2 ≤ 1000)) (show (0 ≤ (0 : Int) ∧ (0 : Int) ≤ n) ∧ (-1000 ≤ (0 : Int) ∧ (0 : Int) ≤ 1000) ∧ (-1000 ≤ (0 : Int) ∧ (0 : Int) ≤ 1000) by omega) ?_ _ (by omega)
  intro i k a b
  exact ⟨dep_bd A B D F _ _ hn, okR_x h a.1 a.2, okR_y h b.1 b.2⟩
/-- The last column and the last row have nothing. -/
theorem dep_last {A B D F : Int → Int} {n x y : Int} (hn : 0 ≤ n) (h : x = uX A D n (uN A D n - 1) ∨ y = uX B F n (uN B F n - 1)) : dep A B D F n x y = 0 :=
  dep_out hn (by
    rcases h with h | h
    · exact .inl (.inr (by omega))
    · exact .inr (.inr (by omega)))
theorem md_re {A B D F : Int → Int} {n : Int} (hn : 0 < n) : ∀ i : Nat, (i : Int) < uN A D n → mxs (clK A B D F n) (clA A B D F n) (clB A B D F n) (gN (uN B F n - 1) i 0).toNat (0, 0, 0) = mdO A B D F n i ∧ 0 ≤ (mdO A B D F n i).1
  | 0, _ => by
    refine ⟨?_, Int.le_refl _⟩
    show mxs _ _ _ (gN _ 0 0).toNat _ = _
    rw [gN_0]; rfl
  | i + 1, h => by
    have hv := uN_1 B F hn
    obtain ⟨ih, ip⟩ := md_re (A := A) (B := B) (D := D) (F := F) (n := n) hn i (by omega)
    have g0 : 0 ≤ gN (uN B F n - 1) i 0 := by
      have := Int.mul_nonneg (show (0 : Int) ≤ i by omega) (show 0 ≤ uN B F n - 1 by omega)
      unfold gN; omega
    have e : (gN (uN B F n - 1) ((i + 1 : Nat) : Int) 0).toNat = (gN (uN B F n - 1) i 0).toNat + (uN B F n - 1).toNat := by
      rw [show ((i + 1 : Nat) : Int) = (i : Int) + 1 by omega, gN_i]
      have : gN (uN B F n - 1) i (uN B F n - 1) = gN (uN B F n - 1) i 0 + (uN B F n - 1) := by unfold gN; omega
      omega
    have hrow : mdO A B D F n (i + 1) = mdR A B D F n i (uN B F n - 1).toNat (mdO A B D F n i) := by
      rw [mdO]
      unfold mdR
      rw [show (uN B F n).toNat = (uN B F n - 1).toNat + 1 by omega, mxs_split]
      refine mxs_zero _ _ _ _ ?_ _ ?_
      · have := (mxs_ge (fun k => dep A B D F n (uX A D n i) (uX B F n k)) (fun _ => uX A D n i) (uX B F n) (mdO A B D F n i) (uN B F n - 1).toNat).1
        omega
      · intro t ht
        show dep A B D F n (uX A D n i) (uX B F n _) = 0
        refine dep_last (by omega) (.inr ?_)
        rw [show (((uN B F n - 1).toNat : Nat) : Int) + (t : Int) = uN B F n - 1 by omega]
    constructor
    · rw [e, mxs_split, ih, hrow]
      unfold mdR
      refine mxs_congr _ _ fun t ht => ?_
      show clK A B D F n _ = _ ∧ clA A B D F n _ = _ ∧ clB A B D F n _ = _
      rw [show (((gN (uN B F n - 1) i 0).toNat : Nat) : Int) + (t : Int) = gN (uN B F n - 1) i t by unfold gN at *; omega]
      obtain ⟨⟨a, _⟩, b, _⟩ := cl_at (A := A) (B := B) (D := D) (F := F) (n := n) (i := i) (k := t) (by omega) (by omega)
      exact ⟨cl_dep (by omega) (by omega) (by omega) (by omega) (by omega), a, b⟩
    · rw [hrow]
      have := (mxs_ge (fun k => dep A B D F n (uX A D n i) (uX B F n k)) (fun _ => uX A D n i) (uX B F n) (mdO A B D F n i) (uN B F n - 1).toNat).1
      unfold mdR
      omega
def mdN (A B D F : Int → Int) (n : Int) : I3 := mdO A B D F n (uN A D n).toNat
/-- The program's largest and the reference's. -/
theorem md_I {A B D F : Int → Int} {n : Int} (hn : 0 ≤ n) : (vz (clK A B D F n) (mjN (clK A B D F n) (clN A B D F n)), vz (clA A B D F n) (mjN (clK A B D F n) (clN A B D F n)), vz (clB A B D F n) (mjN (clK A B D F n) (clN A B D F n))) = mdN A B D F n := by
  unfold mjN
  rw [← mxj_mxs]
  unfold clN mdN
  by_cases e : n ≤ 0
  · rw [if_pos e]
    have := uN_bd A D hn
    rw [show (uN A D n).toNat = 0 by omega]
    rfl
  · rw [if_neg e]
    have hu := uN_1 A D (show 0 < n by omega)
    obtain ⟨h1, h2⟩ := md_re (A := A) (B := B) (D := D) (F := F) (n := n) (by omega) (uN A D n - 1).toNat (by omega)
    rw [show (((uN A D n - 1).toNat : Nat) : Int) = uN A D n - 1 by omega] at h1
    rw [h1, show (uN A D n).toNat = (uN A D n - 1).toNat + 1 by omega, mdO]
    symm
    unfold mdR
    refine mxs_zero _ _ _ _ h2 _ fun t ht => ?_
    show dep A B D F n (uX A D n _) (uX B F n t) = 0
    exact dep_last hn (.inl (by rw [show (((uN A D n - 1).toNat : Nat) : Int) = uN A D n - 1 by omega]))
def mdv (A B D F : Int → Int) (n : Int) : I3 := if vrs A B D F n = true then mdN A B D F n else (-1, 0, 0)
theorem mdv_yes {A B D F : Int → Int} {n : Int} (h : vrs A B D F n = true) : mdv A B D F n = mdN A B D F n := by unfold mdv; rw [if_pos h]
theorem mdv_no {A B D F : Int → Int} {n : Int} (h : vrs A B D F n = false) : mdv A B D F n = (-1, 0, 0) := by unfold mdv; rw [if_neg (by rw [h]; decide)]
theorem mdv_bd (A B D F : Int → Int) {n : Int} (hn : 0 ≤ n) : (-1 ≤ (mdv A B D F n).1 ∧ (mdv A B D F n).1 ≤ 12) ∧ (-1000 ≤ (mdv A B D F n).2.1 ∧ (mdv A B D F n).2.1 ≤ 1000) ∧ (-1000 ≤ (mdv A B D F n).2.2 ∧ (mdv A B D F n).2.2 ≤ 1000) := by
  cases h : vrs A B D F n with
  | true =>
    obtain ⟨a, b, _⟩ := vrs_ok h
    rw [mdv_yes h]
    unfold mdN
    have hu := uN_bd A D hn
    have := mdO_bd hn b (i := uN A D n) (by omega) (Int.le_refl _)
    omega
  | false => rw [mdv_no h]; decide
/-- The largest is at least what any place has, and some place has it. -/
theorem mdN_max {A B D F : Int → Int} {n : Int} (hn : 0 ≤ n) (x y : Int) : dep A B D F n x y ≤ (mdN A B D F n).1 := by
  by_cases e : n = 0
  · have := dep_bd A B D F x y hn
    have h0 : mdN A B D F n = (0, 0, 0) := by
      unfold mdN
      have := uN_bd A D hn
      rw [show (uN A D n).toNat = 0 by omega]
      rfl
    rw [h0]
    show _ ≤ (0 : Int)
    omega
  have hu := uN_1 A D (show 0 < n by omega)
  have hv := uN_1 B F (show 0 < n by omega)
  have hO : ∀ m : Nat, ∀ i : Nat, i < m → ∀ k : Nat, (k : Int) < uN B F n → dep A B D F n (uX A D n i) (uX B F n k) ≤ (mdO A B D F n m).1 := by
    intro m
    induction m with
    | zero => intro i hi; omega
    | succ m ih =>
      intro i hi k hk
      rw [mdO]
      obtain ⟨a, b⟩ := mxs_ge (fun k => dep A B D F n (uX A D n m) (uX B F n k)) (fun _ => uX A D n m) (uX B F n) (mdO A B D F n m) (uN B F n).toNat
      unfold mdR
      by_cases e : i = m
      · rw [e]; exact b k (by omega)
      · have := ih i (by omega) k hk
        omega
  have h0 : 0 ≤ (mdN A B D F n).1 := by
    have h := hO (uN A D n).toNat 0 (by omega) 0 (by omega)
    have := (dep_bd A B D F (uX A D n ((0 : Nat) : Int)) (uX B F n ((0 : Nat) : Int)) hn).1
    unfold mdN
    omega
  -- a row of borders that a place lies between
  have find : ∀ (P Q : Int → Int) (z : Int), uX P Q n 0 ≤ z → z < uX P Q n (uN P Q n - 1) → ∃ i, 0 ≤ i ∧ i + 1 < uN P Q n ∧ uX P Q n i ≤ z ∧ z < uX P Q n (i + 1) := by
    intro P Q z h1 h2
    have key : ∀ m : Nat, z < uX P Q n m → ∃ i, 0 ≤ i ∧ i + 1 ≤ (m : Int) ∧ uX P Q n i ≤ z ∧ z < uX P Q n (i + 1) := by
      intro m
      induction m with
      | zero =>
        intro h
        have e : uX P Q n ((0 : Nat) : Int) = uX P Q n 0 := rfl
        rw [e] at h; omega
      | succ m ih =>
        intro h
        by_cases hz : z < uX P Q n m
        · obtain ⟨i, a, b, c⟩ := ih hz
          exact ⟨i, a, by omega, c⟩
        · exact ⟨m, by omega, by omega, by omega, by rw [show (m : Int) + 1 = ((m + 1 : Nat) : Int) by omega]; exact h⟩
    have hp := uN_1 P Q (show 0 < n by omega)
    obtain ⟨i, a, b, c⟩ := key (uN P Q n - 1).toNat (by rw [show (((uN P Q n - 1).toNat : Nat) : Int) = uN P Q n - 1 by omega]; exact h2)
    exact ⟨i, a, by omega, c⟩
  by_cases hx : (x < uX A D n 0 ∨ uX A D n (uN A D n - 1) ≤ x) ∨ (y < uX B F n 0 ∨ uX B F n (uN B F n - 1) ≤ y)
  · rw [dep_out hn hx]; exact h0
  · obtain ⟨i, a1, a2, a3, a4⟩ := find A D x (by omega) (by omega)
    obtain ⟨k, b1, b2, b3, b4⟩ := find B F y (by omega) (by omega)
    rw [dep_x hn a1 a2 a3 a4, dep_y hn b1 b2 b3 b4]
    have := hO (uN A D n).toNat i.toNat (by omega) k.toNat (by omega)
    rw [show ((i.toNat : Nat) : Int) = i by omega, show ((k.toNat : Nat) : Int) = k by omega] at this
    exact this
theorem mdN_at {A B D F : Int → Int} {n : Int} (hn : 0 ≤ n) : (mdN A B D F n).1 = 0 ∨ ∃ x y, (mdN A B D F n).1 = dep A B D F n x y := by
  have hu := uN_bd A D hn
  refine mdO_ind (P := fun s => s.1 = 0 ∨ ∃ x y, s.1 = dep A B D F n x y) (.inl rfl) ?_ _ (by omega)
  intro i k _ _
  exact .inr ⟨_, _, rfl⟩
theorem gN_z {w i : Int} (h : i = 0) : gN w i 0 = 0 := by rw [h, gN_0]
theorem gN_c {w i a b : Int} (h : a = b) : gN w i a = gN w i b := by rw [h]
theorem cl_end {A B D F : Int → Int} {n p : Int} (hn : 0 ≤ n) (h1 : 1 ≤ p) (h2 : p ≤ uN A D n ∨ p = 1) (h3 : uN A D n ≤ p) : gN (uN B F n - 1) (p - 1) 0 = clN A B D F n := by
  unfold clN
  by_cases e : n ≤ 0
  · have := uN_bd A D hn
    rw [if_pos e, gN_z (by omega)]
  · have := uN_1 A D (show 0 < n by omega)
    rw [if_neg e, show p = uN A D n by omega]
theorem insN_bd (X Y : Int → Int) (n p q : Int) : n ≤ insN X Y n p q ∧ insN X Y n p q ≤ n + 1 := by
  unfold insN
  split <;> omega
theorem vrs_r {A B D F : Int → Int} {n r : Int} (h : vrs A B D F n = true) (h0 : 0 ≤ r) (h1 : r < n) : ((-1000 ≤ A r ∧ A r ≤ 1000) ∧ (-1000 ≤ B r ∧ B r ≤ 1000) ∧ (-1000 ≤ D r ∧ D r ≤ 1000) ∧ (-1000 ≤ F r ∧ F r ≤ 1000)) ∧ n ≤ 12 := by
  obtain ⟨a, b, _⟩ := vrs_ok h
  have := b r h0 h1
  omega
theorem inr_y {A B D F : Int → Int} {x y j : Int} (h1 : (decide (A j ≤ x) && decide (x ≤ D j - 1)) = true) (h2 : (decide (B j ≤ y) && decide (y ≤ F j - 1)) = true) : inr A B D F x y j = true := by unfold inr; rw [h1, h2]; rfl
theorem inr_n1 {A B D F : Int → Int} {x y j : Int} (h1 : (decide (A j ≤ x) && decide (x ≤ D j - 1)) = false) : inr A B D F x y j = false := by unfold inr; rw [h1]; rfl
theorem inr_n2 {A B D F : Int → Int} {x y j : Int} (h1 : (decide (B j ≤ y) && decide (y ≤ F j - 1)) = false) : inr A B D F x y j = false := by unfold inr; rw [h1, Bool.and_false]
theorem vrs_n {A B D F : Int → Int} {n j : Int} (h0 : 0 ≤ j) (h1 : j < n) (h : rcB (A j) (B j) (D j) (F j) = false) : vrs A B D F n = false := by
  rw [← Bool.not_eq_true]
  unfold vrs
  rw [Bool.and_eq_true, allB_iff]
  rintro ⟨_, b⟩
  have b : rcB (A j) (B j) (D j) (F j) = true := b j h0 h1
  rw [h] at b
  cases b
theorem vrs_all {A B D F : Int → Int} {n : Int} (h : ∀ i, 0 ≤ i → i < n → rcB (A i) (B i) (D i) (F i) = true) : n ≤ 12 ↔ vrs A B D F n = true := by
  unfold vrs
  rw [Bool.and_eq_true, decide_eq_true_eq, allB_iff]
  exact ⟨fun a => ⟨a, h⟩, fun a => a.1⟩
theorem mdv_no_1 {A B D F : Int → Int} {n : Int} (h : vrs A B D F n = false) : (mdv A B D F n).1 = -1 := by rw [mdv_no h]
theorem mdv_no_2 {A B D F : Int → Int} {n : Int} (h : vrs A B D F n = false) : (mdv A B D F n).2.1 = 0 := by rw [mdv_no h]
theorem mdv_no_3 {A B D F : Int → Int} {n : Int} (h : vrs A B D F n = false) : (mdv A B D F n).2.2 = 0 := by rw [mdv_no h]
theorem mdQ_end {A B D F : Int → Int} {n i : Int} (h0 : 0 ≤ i) (h : uN A D n ≤ i) (h2 : i ≤ uN A D n) : mdQ A B D F n i 0 = mdN A B D F n := by
  obtain rfl : i = uN A D n := by omega
  rfl
theorem smf_t0 (f : Int → Int) : smf f (Int.toNat 0) = 0 := rfl

end Go.Proofs.Ytpnjopppclmfkaa
