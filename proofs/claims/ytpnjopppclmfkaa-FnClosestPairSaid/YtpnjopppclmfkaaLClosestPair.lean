/- FnClosestPair: the walk. -/
import Derived.Test.YtpnjopppclmfkaaK30
import Derived.Test.YtpnjopppclmfkaaK4
import Derived.Test.YtpnjopppclmfkaaK3
set_option linter.unusedSimpArgs false
set_option linter.unusedVariables false
set_option maxRecDepth 100000
namespace Go.Proofs.Ytpnjopppclmfkaa
open Go.Sym
theorem bpi_P {D bt} {P : P3 → Prop} (h : ∀ i k s, P s → P (stp D bt i k s)) (i : Int) {s : P3} (hs : P s) : ∀ m : Nat, P (bpi D bt i m s)
  | 0 => hs
  | m + 1 => h _ _ _ (bpi_P h i hs m)
theorem bpi_first {D bt} {P : P3 → Prop} (h : ∀ i k s, P s → P (stp D bt i k s)) (h1 : P (0, 1, D 0 1)) : ∀ m : Nat, P (bpi D bt 0 (m + 1) (0, 0, -1))
  | 0 => by
    have e : bpi D bt 0 1 (0, 0, -1) = (0, 1, D 0 1) := by
      show stp D bt 0 (0 + 1 + ((0 : Nat) : Int)) (0, 0, -1) = _
      unfold stp
      rw [if_pos (.inl (by decide))]
      rfl
    rw [e]; exact h1
  | m + 1 => h _ _ _ (bpi_first h h1 m)
theorem bpo_P {D bt} {P : P3 → Prop} {n : Int} (hn : 2 ≤ n) (h : ∀ i k s, P s → P (stp D bt i k s)) (h1 : P (0, 1, D 0 1)) : ∀ j : Nat, P (bpo D bt n (j + 1))
  | 0 => by
    show P (bpi D bt ((0 : Nat) : Int) (n - ((0 : Nat) : Int) - 1).toNat (0, 0, -1))
    rw [show (n - ((0 : Nat) : Int) - 1).toNat = (n - 2).toNat + 1 by omega]
    exact bpi_first h h1 _
  | j + 1 => bpi_P h _ (bpo_P hn h h1 j) _
theorem bpo_all {D bt} {P : P3 → Prop} {n : Int} (hn : 2 ≤ n) (h : ∀ i k s, P s → P (stp D bt i k s)) (h1 : P (0, 1, D 0 1)) : P (bpo D bt n n.toNat) := by
  rw [show n.toNat = (n - 1).toNat + 1 by omega]
  exact bpo_P hn h h1 _
theorem dst_nonneg (aX aY bX bY : Int) : 0 ≤ dst aX aY bX bY := by
  unfold dst
  have h1 : 0 ≤ (bX - aX) * (bX - aX) := by rcases Int.le_total 0 (bX - aX) with h | h; exact Int.mul_nonneg h h; exact Int.mul_nonneg_of_nonpos_of_nonpos h h
  have h2 : 0 ≤ (bY - aY) * (bY - aY) := by rcases Int.le_total 0 (bY - aY) with h | h; exact Int.mul_nonneg h h; exact Int.mul_nonneg_of_nonpos_of_nonpos h h
  omega
theorem min_bd {D : Int → Int → Int} (hD : ∀ i k, 0 ≤ D i k) {n : Int} (hn : 2 ≤ n) : 0 ≤ (bpo D lss n n.toNat).2.2 ∧ (bpo D lss n n.toNat).2.2 ≤ D 0 1 := by
  refine bpo_all (P := fun s => 0 ≤ s.2.2 ∧ s.2.2 ≤ D 0 1) hn (fun i k s hs => ?_) ⟨hD 0 1, Int.le_refl _⟩
  unfold stp
  split
  · rename_i hc
    refine ⟨hD i k, ?_⟩
    rcases hc with hc | hc
    · omega
    · have := of_decide_eq_true hc
      show D i k ≤ D 0 1
      omega
  · exact hs
theorem max_bd {D : Int → Int → Int} (hD : ∀ i k, 0 ≤ D i k) {n : Int} (hn : 2 ≤ n) : 0 ≤ (bpo D gtr n n.toNat).2.2 ∧ D 0 1 ≤ (bpo D gtr n n.toNat).2.2 := by
  refine bpo_all (P := fun s => 0 ≤ s.2.2 ∧ D 0 1 ≤ s.2.2) hn (fun i k s hs => ?_) ⟨hD 0 1, Int.le_refl _⟩
  unfold stp
  split
  · rename_i hc
    refine ⟨hD i k, ?_⟩
    rcases hc with hc | hc
    · omega
    · have := of_decide_eq_true hc
      show D 0 1 ≤ D i k
      omega
  · exact hs
/-- The program's best and the reference's. -/
def SameB (D : Int → Int → Int) (s : P3) (t : Int × Int) : Prop := s = (t.1, t.2, D t.1 t.2)
theorem same_stp {D : Int → Int → Int} (hD : ∀ i k, 0 ≤ D i k) (i k : Int) {s : P3} {t : Int × Int} (h : SameB D s t) : SameB D (stp D lss i k s) (sstp D lss i k t) := by
  unfold SameB at h
  subst h
  unfold stp sstp SameB
  have h0 := hD t.1 t.2
  by_cases hc : D i k < D t.1 t.2
  · rw [if_pos (.inr (decide_eq_true hc)), if_pos (decide_eq_true hc)]
  · rw [if_neg (by
      intro h
      rcases h with h | h
      · exact absurd (show D t.1 t.2 < 0 from h) (by omega)
      · exact hc (of_decide_eq_true h)), if_neg (fun h => hc (of_decide_eq_true h))]
theorem same_spi {D : Int → Int → Int} (hD : ∀ i k, 0 ≤ D i k) (i : Int) {s : P3} {t : Int × Int} (h : SameB D s t) : ∀ m : Nat, SameB D (bpi D lss i m s) (spi D lss i m t)
  | 0 => h
  | m + 1 => same_stp hD _ _ (same_spi hD i h m)
theorem same_first {D : Int → Int → Int} (hD : ∀ i k, 0 ≤ D i k) : ∀ m : Nat, SameB D (bpi D lss 0 (m + 1) (0, 0, -1)) (spi D lss 0 (m + 1) (0, 1))
  | 0 => by
    have e : bpi D lss 0 1 (0, 0, -1) = (0, 1, D 0 1) := by
      show stp D lss 0 (0 + 1 + ((0 : Nat) : Int)) (0, 0, -1) = _
      unfold stp
      rw [if_pos (.inl (by decide))]
      rfl
    have e2 : spi D lss 0 1 (0, 1) = (0, 1) := by
      show sstp D lss 0 (0 + 1 + ((0 : Nat) : Int)) (0, 1) = _
      unfold sstp
      rw [if_neg]
      intro h
      exact absurd (of_decide_eq_true h) (Int.lt_irrefl _)
    show SameB D (bpi D lss 0 1 (0, 0, -1)) (spi D lss 0 1 (0, 1))
    rw [e, e2]; rfl
  | m + 1 => same_stp hD _ _ (same_first hD m)
theorem same_spo {D : Int → Int → Int} (hD : ∀ i k, 0 ≤ D i k) {n : Int} (hn : 2 ≤ n) : ∀ j : Nat, SameB D (bpo D lss n (j + 1)) (spo D lss n (0, 1) (j + 1))
  | 0 => by
    show SameB D (bpi D lss ((0 : Nat) : Int) (n - ((0 : Nat) : Int) - 1).toNat (0, 0, -1)) (spi D lss ((0 : Nat) : Int) (n - ((0 : Nat) : Int) - 1).toNat (0, 1))
    rw [show (n - ((0 : Nat) : Int) - 1).toNat = (n - 2).toNat + 1 by omega]
    exact same_first hD _
  | j + 1 => same_spi hD _ (same_spo hD hn j) _
theorem cp_eq {X Y : Int → Int} {n : Int} (h0 : 0 ≤ n) : cp X Y n = scp X Y n := by
  have hD : ∀ i k, 0 ≤ dd X Y i k := fun i k => dst_nonneg _ _ _ _
  unfold cp scp
  by_cases hl : listB X Y n = true
  · rw [if_pos hl]
    by_cases hn : 2 ≤ n
    · rw [if_pos ⟨hl, hn⟩]
      have := same_spo hD hn (n - 1).toNat
      rw [show (n - 1).toNat + 1 = n.toNat by omega] at this
      exact this
    · rw [if_neg (fun h => hn h.2)]
      have : n = 0 ∨ n = 1 := by omega
      rcases this with rfl | rfl
      · rfl
      · rfl
  · rw [if_neg hl, if_neg (fun h => hl h.1)]

/-- The best of the pairs seen so far is at most each of them. -/
theorem spi_min {D : Int → Int → Int} {i : Int} {s : Int × Int} : ∀ m : Nat, D (spi D lss i m s).1 (spi D lss i m s).2 ≤ D s.1 s.2 ∧ ∀ k, i + 1 ≤ k → k < i + 1 + m → D (spi D lss i m s).1 (spi D lss i m s).2 ≤ D i k
  | 0 => ⟨Int.le_refl _, fun k a b => by omega⟩
  | m + 1 => by
    obtain ⟨h1, h2⟩ := spi_min (D := D) (i := i) (s := s) m
    have e : spi D lss i (m + 1) s = sstp D lss i (i + 1 + m) (spi D lss i m s) := rfl
    rw [e]
    generalize spi D lss i m s = t at h1 h2
    unfold sstp
    by_cases hc : D i (i + 1 + m) < D t.1 t.2
    · rw [if_pos (decide_eq_true hc)]
      refine ⟨by show D i (i + 1 + m) ≤ _; omega, fun k a b => ?_⟩
      show D i (i + 1 + m) ≤ _
      by_cases ek : k = i + 1 + m
      · rw [ek]; exact Int.le_refl _
      · have := h2 k a (by omega)
        omega
    · rw [if_neg (fun h => hc (of_decide_eq_true h))]
      refine ⟨h1, fun k a b => ?_⟩
      by_cases ek : k = i + 1 + m
      · rw [ek]; omega
      · exact h2 k a (by omega)
theorem spi_in {D : Int → Int → Int} {n i : Int} {s : Int × Int} (hi : 0 ≤ i) (hs : 0 ≤ s.1 ∧ s.1 < s.2 ∧ s.2 < n) : ∀ m : Nat, i + 1 + m ≤ n → 0 ≤ (spi D lss i m s).1 ∧ (spi D lss i m s).1 < (spi D lss i m s).2 ∧ (spi D lss i m s).2 < n
  | 0, _ => hs
  | m + 1, h => by
    have ih := spi_in (D := D) hi hs m (by omega)
    have e : spi D lss i (m + 1) s = sstp D lss i (i + 1 + m) (spi D lss i m s) := rfl
    rw [e]
    generalize spi D lss i m s = t at ih
    unfold sstp
    split
    · show 0 ≤ i ∧ i < i + 1 + m ∧ i + 1 + m < n; omega
    · exact ih
theorem spo_min {D : Int → Int → Int} {n : Int} : ∀ j : Nat, (j : Int) ≤ n → ∀ i k : Int, 0 ≤ i → i < j → i < k → k < n → D (spo D lss n (0, 1) j).1 (spo D lss n (0, 1) j).2 ≤ D i k
  | 0, _ => fun i k a b => by omega
  | j + 1, h => fun i k a b c d => by
    have ih := spo_min (D := D) (n := n) j (by omega)
    obtain ⟨h1, h2⟩ := spi_min (D := D) (i := j) (s := spo D lss n (0, 1) j) (n - j - 1).toNat
    have e : spo D lss n (0, 1) (j + 1) = spi D lss j (n - j - 1).toNat (spo D lss n (0, 1) j) := rfl
    rw [e]
    by_cases ei : i = j
    · rw [ei]; exact h2 k (by omega) (by omega)
    · have := ih i k a (by omega) c d
      omega
theorem spo_in {D : Int → Int → Int} {n : Int} (hn : 2 ≤ n) : ∀ j : Nat, (j : Int) ≤ n → 0 ≤ (spo D lss n (0, 1) j).1 ∧ (spo D lss n (0, 1) j).1 < (spo D lss n (0, 1) j).2 ∧ (spo D lss n (0, 1) j).2 < n
  | 0, _ => by simp only [spo]; omega
  | j + 1, h => by
    have ih := spo_in (D := D) hn j (by omega)
    by_cases hj : (j : Int) + 1 + (n - j - 1).toNat ≤ n
    · exact spi_in (by omega) ih _ hj
    · exfalso; omega
theorem cp_ok {X Y : Int → Int} {n : Int} (h0 : 0 ≤ n) (h : 0 ≤ (cp X Y n).2.2) : (listB X Y n = true ∧ 2 ≤ n) ∧ cp X Y n = ((sn X Y n).1, (sn X Y n).2, dd X Y (sn X Y n).1 (sn X Y n).2) := by
  rw [cp_eq h0] at h ⊢
  unfold scp at h ⊢
  split at h
  · rename_i hc; rw [if_pos hc]; exact ⟨hc, rfl⟩
  · exact absurd h (by decide)
theorem cp_min {X Y : Int → Int} {n : Int} (h0 : 0 ≤ n) (h : 0 ≤ (cp X Y n).2.2) : listB X Y n = true ∧ ∀ i k, 0 ≤ i → i < k → k < n → (cp X Y n).2.2 ≤ dd X Y i k := by
  obtain ⟨⟨hl, hn⟩, e⟩ := cp_ok h0 h
  refine ⟨hl, fun i k a b c => ?_⟩
  rw [e]
  exact spo_min (D := dd X Y) (n := n) n.toNat (by omega) i k a (by omega) b c
theorem cp_in {X Y : Int → Int} {n : Int} (h0 : 0 ≤ n) (h : 0 ≤ (cp X Y n).2.2) : (0 ≤ (cp X Y n).1 ∧ (cp X Y n).1 < (cp X Y n).2.1 ∧ (cp X Y n).2.1 < n) ∧ (cp X Y n).2.2 = dst (X (cp X Y n).1) (Y (cp X Y n).1) (X (cp X Y n).2.1) (Y (cp X Y n).2.1) := by
  obtain ⟨⟨hl, hn⟩, e⟩ := cp_ok h0 h
  rw [e]
  exact ⟨spo_in hn n.toNat (by omega), rfl⟩
theorem dst_zero {ax ay bx bY : Int} (h : dst ax ay bx bY = 0) : ax = bx ∧ ay = bY := by
  unfold dst at h
  have sq : ∀ a : Int, 0 ≤ a * a := fun a => by rcases Int.le_total 0 a with h | h; exact Int.mul_nonneg h h; exact Int.mul_nonneg_of_nonpos_of_nonpos h h
  have h1 := sq (bx - ax)
  have h2 := sq (bY - ay)
  have h3 : (bx - ax) * (bx - ax) = 0 := by omega
  have h4 : (bY - ay) * (bY - ay) = 0 := by omega
  have h3 := (show bx - ax = 0 by rcases Int.mul_eq_zero.1 h3 with h | h <;> exact h)
  have h4 := (show bY - ay = 0 by rcases Int.mul_eq_zero.1 h4 with h | h <;> exact h)
  omega
/-- Fewer remain when points are repeated. -/
theorem fl_lt {K : Int → Bool} {n i : Int} (h0 : 0 ≤ i) (h1 : i < n) (h : K i = false) : len' (fl K n) < n := by
  unfold len' fl
  rw [List.length_map]
  have := (List.length_filter_lt_length_iff_exists (p := fun i : Nat => K i) (l := List.range n.toNat)).2 ⟨i.toNat, List.mem_range.2 (by omega), by rw [show ((i.toNat : Nat) : Int) = i by omega, h]; decide⟩
  rw [List.length_range] at this
  omega
theorem dup_iff {X Y : Int → Int} {n : Int} (hn : 0 ≤ n) : iN X Y n < n ↔ ∃ i k, (0 ≤ i ∧ i < k) ∧ k < n ∧ X i = X k ∧ Y i = Y k := by
  have nod : (ptsL X Y n).Nodup ↔ ¬ ∃ i k, (0 ≤ i ∧ i < k) ∧ k < n ∧ X i = X k ∧ Y i = Y k := by
    unfold ptsL
    rw [List.Nodup, List.pairwise_map]
    constructor
    · rintro h ⟨i, k, ⟨a, b⟩, c, e1, e2⟩
      have := List.pairwise_iff_getElem.1 h i.toNat k.toNat (by rw [List.length_range]; omega) (by rw [List.length_range]; omega) (by omega)
      rw [List.getElem_range, List.getElem_range] at this
      apply this
      rw [show ((i.toNat : Nat) : Int) = i by omega, show ((k.toNat : Nat) : Int) = k by omega, e1, e2]
    · intro h
      refine List.pairwise_iff_getElem.2 fun i k hi hk hik e => h ⟨i, k, ⟨by omega, by omega⟩, ?_, ?_⟩
      · rw [List.length_range] at hk; omega
      · rw [List.getElem_range, List.getElem_range] at e
        exact ⟨congrArg Prod.fst e, congrArg Prod.snd e⟩
  have nods : (srtL X Y n).Nodup ↔ (ptsL X Y n).Nodup := (List.mergeSort_perm (ptsL X Y n) lqP).nodup_iff
  have hl := srtL_len X Y n
  have key : iN X Y n < n ↔ ¬ (srtL X Y n).Nodup := by
    constructor
    · intro h hd
      have : ∀ i : Int, 0 ≤ i → i < n → cK (srtX X Y n) (srtY X Y n) i = true := by
        intro i a b
        rw [cK_yes]
        rintro ⟨h1, h2, h3⟩
        obtain ⟨ha, e1⟩ := srt_get (X := X) (Y := Y) (n := n) (i := i - 1) (by omega) (by omega)
        obtain ⟨hb, e2⟩ := srt_get (X := X) (Y := Y) (n := n) a b
        have := List.pairwise_iff_getElem.1 hd (i - 1).toNat i.toNat ha hb (by omega)
        rw [← e1, ← e2, h2, h3] at this
        exact this rfl
      have := (fl_allI (K := cK (srtX X Y n) (srtY X Y n)) hn this).1
      unfold iN at h
      omega
    · intro hd
      refine Classical.byContradiction fun hc => hd ?_
      refine List.pairwise_iff_getElem.2 fun i k hi hk hik e => hc ?_
      have e1 := (srt_get (X := X) (Y := Y) (n := n) (i := i) (by omega) (by omega)).2
      have e2 := (srt_get (X := X) (Y := Y) (n := n) (i := k) (by omega) (by omega)).2
      simp only [Int.toNat_natCast] at e1 e2
      rw [← e1, ← e2] at e
      have ex := congrArg Prod.fst e
      have ey := congrArg Prod.snd e
      simp only at ex ey
      have hq : cK (srtX X Y n) (srtY X Y n) (i + 1) = false := by
        rw [cK_no]
        by_cases ek : (i : Int) + 1 = k
        · rw [ek, show (k : Int) - 1 = i by omega]
          exact ⟨by omega, ex.symm, ey.symm⟩
        · have l1 := srt_le (X := X) (Y := Y) (n := n) (i := i) (j := i + 1) (by omega) (by omega) (by omega)
          have l2 := srt_le (X := X) (Y := Y) (n := n) (i := i + 1) (j := k) (by omega) (by omega) (by omega)
          rw [show (i : Int) + 1 - 1 = i by omega]
          omega
      exact fl_lt (by omega) (by omega) hq
  rw [key, nods, nod, Classical.not_not]

def sqd (aX aY bX bY : Int) : Int := if okP aX aY && okP bX bY then dst aX aY bX bY else -1
theorem i_SquaredDistance (aX : Int) (aY : Int) (bX : Int) (bY : Int) : RunsTo Try.prog 29 [(.agg [(.int .i64 (.v fun _ => aX) (-9223372036854775808) 9223372036854775807), (.int .i64 (.v fun _ => aY) (-9223372036854775808) 9223372036854775807)]), (.agg [(.int .i64 (.v fun _ => bX) (-9223372036854775808) 9223372036854775807), (.int .i64 (.v fun _ => bY) (-9223372036854775808) 9223372036854775807)])] [] (.int .i64 (.v fun _ => sqd aX aY bX bY) (-1) 128000000) [] := by
  refine RunsTo.go env Try.func29 rfl Try.call29 rfl rfl (fun _ _ => (.call (c_i_allValid (selL [aX, bX]) (selL [aY, bY]) 2) (.ite .ret (.call (c_i_far aX aY bX bY) .ret)))) (G := ((((-9223372036854775808) ≤ aX ∧ aX ≤ 9223372036854775807) ∧ ((-9223372036854775808) ≤ aY ∧ aY ≤ 9223372036854775807)) ∧ (((-9223372036854775808) ≤ bX ∧ bX ≤ 9223372036854775807) ∧ ((-9223372036854775808) ≤ bY ∧ bY ≤ 9223372036854775807))) → (True) → (((2 : Int) = 2) ∧ ((((2 : Int) = 2) ∧ ((∀ e2 : E, ((e2.den = 0) → ((aX = (selL [aX, bX] (e2.den))) ∧ (aY = (selL [aY, bY] (e2.den)))))) ∧ (∀ e1 : E, ((e1.den = 1) → ((bX = (selL [aX, bX] (e1.den))) ∧ (bY = (selL [aY, bY] (e1.den)))))))) ∧ ((((allB (fun i => okP (selL [aX, bX] i) (selL [aY, bY] i)) 2) = false) → (((-1) : Int) = (sqd aX aY bX bY))) ∧ (((allB (fun i => okP (selL [aX, bX] i) (selL [aY, bY] i)) 2) = true) → (((((aX = aX) ∧ (((-9223372036854775808) ≤ aX ∧ aX ≤ 9223372036854775807) → ((-4000) ≤ aX ∧ aX ≤ 4000))) ∧ ((aY = aY) ∧ (((-9223372036854775808) ≤ aY ∧ aY ≤ 9223372036854775807) → ((-4000) ≤ aY ∧ aY ≤ 4000)))) ∧ (((bX = bX) ∧ (((-9223372036854775808) ≤ bX ∧ bX ≤ 9223372036854775807) → ((-4000) ≤ bX ∧ bX ≤ 4000))) ∧ ((bY = bY) ∧ (((-9223372036854775808) ≤ bY ∧ bY ≤ 9223372036854775807) → ((-4000) ≤ bY ∧ bY ≤ 4000))))) ∧ (((dst aX aY bX bY) = (sqd aX aY bX bY)) ∧ (((-128000000) ≤ (dst aX aY bX bY) ∧ (dst aX aY bX bY) ≤ 128000000) → ((-1) ≤ (sqd aX aY bX bY) ∧ (sqd aX aY bX bY) ≤ 128000000))))))))) (by kernel_rfl) ?_
  intro h1 h2
  refine ⟨rfl, ?_, ?_, ?_⟩
  · refine ⟨rfl, ?_, ?_⟩
    · intro e2
      intro c3
      refine ⟨?_, ?_⟩
        -- 1: aX = (selL [aX, bX] (e2.den))
      · first | rfl | omega | (intro h; simp [h]) | (simp_all [selL]; done) | (simp_all [allB2, okP_iff, selL]; omega) | (simp_all [sqd, allB2, selL]; done) | (have h9 := dst_nonneg aX aY bX bY; simp_all [sqd, allB2, selL]; omega)
        -- 2: aY = (selL [aY, bY] (e2.den))
      · first | rfl | omega | (intro h; simp [h]) | (simp_all [selL]; done) | (simp_all [allB2, okP_iff, selL]; omega) | (simp_all [sqd, allB2, selL]; done) | (have h9 := dst_nonneg aX aY bX bY; simp_all [sqd, allB2, selL]; omega)
    · intro e1
      intro c4
      refine ⟨?_, ?_⟩
        -- 3: bX = (selL [aX, bX] (e1.den))
      · first | rfl | omega | (intro h; simp [h]) | (simp_all [selL]; done) | (simp_all [allB2, okP_iff, selL]; omega) | (simp_all [sqd, allB2, selL]; done) | (have h9 := dst_nonneg aX aY bX bY; simp_all [sqd, allB2, selL]; omega)
        -- 4: bY = (selL [aY, bY] (e1.den))
      · first | rfl | omega | (intro h; simp [h]) | (simp_all [selL]; done) | (simp_all [allB2, okP_iff, selL]; omega) | (simp_all [sqd, allB2, selL]; done) | (have h9 := dst_nonneg aX aY bX bY; simp_all [sqd, allB2, selL]; omega)
  · intro c5
    -- 5: ((-1) : Int) = (sqd aX aY bX bY)
    first | rfl | omega | (intro h; simp [h]) | (simp_all [selL]; done) | (simp_all [allB2, okP_iff, selL]; omega) | (simp_all [sqd, allB2, selL]; done) | (have h9 := dst_nonneg aX aY bX bY; simp_all [sqd, allB2, selL]; omega)
  · intro c6
    refine ⟨?_, ?_, ?_⟩
    · refine ⟨?_, ?_, rfl, ?_⟩
      · refine ⟨?_, rfl, ?_⟩
        · refine ⟨rfl, ?_⟩
          intro c7
          -- 6: (-4000) ≤ aX ∧ aX ≤ 4000
          first | rfl | omega | (intro h; simp [h]) | (simp_all [selL]; done) | (simp_all [allB2, okP_iff, selL]; omega) | (simp_all [sqd, allB2, selL]; done) | (have h9 := dst_nonneg aX aY bX bY; simp_all [sqd, allB2, selL]; omega)
        · intro c8
          -- 7: (-4000) ≤ aY ∧ aY ≤ 4000
          first | rfl | omega | (intro h; simp [h]) | (simp_all [selL]; done) | (simp_all [allB2, okP_iff, selL]; omega) | (simp_all [sqd, allB2, selL]; done) | (have h9 := dst_nonneg aX aY bX bY; simp_all [sqd, allB2, selL]; omega)
      · refine ⟨rfl, ?_⟩
        intro c9
        -- 8: (-4000) ≤ bX ∧ bX ≤ 4000
        first | rfl | omega | (intro h; simp [h]) | (simp_all [selL]; done) | (simp_all [allB2, okP_iff, selL]; omega) | (simp_all [sqd, allB2, selL]; done) | (have h9 := dst_nonneg aX aY bX bY; simp_all [sqd, allB2, selL]; omega)
      · intro c10
        -- 9: (-4000) ≤ bY ∧ bY ≤ 4000
        first | rfl | omega | (intro h; simp [h]) | (simp_all [selL]; done) | (simp_all [allB2, okP_iff, selL]; omega) | (simp_all [sqd, allB2, selL]; done) | (have h9 := dst_nonneg aX aY bX bY; simp_all [sqd, allB2, selL]; omega)
      -- 10: (dst aX aY bX bY) = (sqd aX aY bX bY)
    · first | rfl | omega | (intro h; simp [h]) | (simp_all [selL]; done) | (simp_all [allB2, okP_iff, selL]; omega) | (simp_all [sqd, allB2, selL]; done) | (have h9 := dst_nonneg aX aY bX bY; simp_all [sqd, allB2, selL]; omega)
    · intro c11
      -- 11: (-1) ≤ (sqd aX aY bX bY) ∧ (sqd aX aY bX bY) ≤ 128000000
      first | rfl | omega | (intro h; simp [h]) | (simp_all [selL]; done) | (simp_all [allB2, okP_iff, selL]; omega) | (simp_all [sqd, allB2, selL]; done) | (have h9 := dst_nonneg aX aY bX bY; simp_all [sqd, allB2, selL]; omega)
def c_i_SquaredDistance (aX : Int) (aY : Int) (bX : Int) (bY : Int) : Cn Try.prog := ⟨_, _, _, _, _, i_SquaredDistance aX aY bX bY⟩
theorem cp_sqd {X Y : Int → Int} {n i k : Int} (h0 : 0 ≤ n) (h : 0 ≤ (cp X Y n).2.2) (hi : 0 ≤ i ∧ i < n) (hk : 0 ≤ k ∧ k < i) : (cp X Y n).2.2 ≤ sqd (X i) (Y i) (X k) (Y k) := by
  obtain ⟨hl, hm⟩ := cp_min h0 h
  have := hm k i hk.1 hk.2 hi.2
  unfold sqd
  rw [listB_ok hl hi.1 hi.2, listB_ok hl hk.1 (by omega)]
  have e : dst (X i) (Y i) (X k) (Y k) = dst (X k) (Y k) (X i) (Y i) := by unfold dst; grind
  show _ ≤ dst (X i) (Y i) (X k) (Y k)
  rw [e]
  exact this
theorem cp_at {X Y : Int → Int} {n : Int} (h0 : 0 ≤ n) (h : 0 ≤ (cp X Y n).2.2) : (0 ≤ (cp X Y n).1 ∧ (cp X Y n).1 < (cp X Y n).2.1 ∧ (cp X Y n).2.1 < n) ∧ sqd (X (cp X Y n).1) (Y (cp X Y n).1) (X (cp X Y n).2.1) (Y (cp X Y n).2.1) = (cp X Y n).2.2 ∧ ((cp X Y n).2.2 = 0 ↔ spN X Y n < n) := by
  obtain ⟨hl, hm⟩ := cp_min h0 h
  obtain ⟨⟨a, b, c⟩, d⟩ := cp_in h0 h
  refine ⟨⟨a, b, c⟩, ?_, ?_⟩
  · unfold sqd
    rw [listB_ok hl a (by omega), listB_ok hl (by omega) c]
    exact d.symm
  · rw [sp_yes hl, dup_iff h0]
    constructor
    · intro e
      rw [d] at e
      exact ⟨_, _, ⟨a, b⟩, c, dst_zero e⟩
    · rintro ⟨i, k, ⟨h1, h2⟩, h3, e1, e2⟩
      have := hm i k h1 h2 h3
      have e : dst (X i) (Y i) (X k) (Y k) = 0 := by rw [e1, e2]; unfold dst; simp
      unfold dd at this
      omega
theorem l_FnClosestPair (C : Int → Int) (n : Int) : RunsTo Try.prog 6 [(.sl 0 1 (.lit 0) (.v fun _ => n) 9223372036854775807)] [some ⟨5, 1, false, (.sym (.v fun _ => n) fun e => [(.int .u8 (.v fun _ => (C (e.den))) 0 255)])⟩] (.bool (.lit true)) [none] := by
  refine RunsTo.go env Try.func6 rfl Try.call6 rfl rfl (fun _ _ => (.ite .ret (.callF (c_s_DrawClosestPair C n) (.callF (c_i_ClosestPair (anX C (cut n) 0 9) (anY C (cut n) 0 9) (anN C (cut n) 0 9)) (.callF (c_s_ClosestPair (anX C (cut n) 0 9) (anY C (cut n) 0 9) (anN C (cut n) 0 9)) (.ite (.ite (.ite .ret .ret) .ret) (.ite (.ite (.ite .ret .ret) .ret) (.ite (.ite (.ite .ret .ret) .ret) (.ite (.ite (.ite .ret .ret) .ret) (.loop [] [0, 1] (Int) (fun x4 => ⟨spl 108 0 [(3, (.sl 1 2 (.lit 0) (.v fun _ => anN C (cut n) 0 9) 64)), (4, (.int .i64 (.v fun _ => (cp (anX C (cut n) 0 9) (anY C (cut n) 0 9) (anN C (cut n) 0 9)).1) 0 1048576)), (5, (.int .i64 (.v fun _ => (cp (anX C (cut n) 0 9) (anY C (cut n) 0 9) (anN C (cut n) 0 9)).2.1) 0 1048576)), (6, (.int .i64 (.v fun _ => (cp (anX C (cut n) 0 9) (anY C (cut n) 0 9) (anN C (cut n) 0 9)).2.2) (-128000000) 128000000)), (10, (.int .i64 (.v fun _ => x4) 0 1048576))], [some ⟨5, 1, false, (.sym (.v fun _ => cut n) fun e => [(.int .u8 (.v fun _ => ((C (e.den)))) 0 255)])⟩, some ⟨35, 2, true, (.sym (.v fun _ => (anN C (cut n) 0 9)) fun e => [(.int .i64 (.v fun _ => ((anX C (cut n) 0 9 (((e.den)))))) (-9223372036854775808) 9223372036854775807), (.int .i64 (.v fun _ => ((anY C (cut n) 0 9 (((e.den)))))) (-9223372036854775808) 9223372036854775807)])⟩], 1⟩) (fun x4 => 0 ≤ x4 ∧ x4 ≤ anN C (cut n) 0 9) (fun x4 => (anN C (cut n) 0 9 - x4).toNat) fun x4 => (.ite (.loop [] [0, 1] (Int) (fun x8 => ⟨spl 108 0 [(3, (.sl 1 2 (.lit 0) (.v fun _ => anN C (cut n) 0 9) 64)), (4, (.int .i64 (.v fun _ => (cp (anX C (cut n) 0 9) (anY C (cut n) 0 9) (anN C (cut n) 0 9)).1) 0 1048576)), (5, (.int .i64 (.v fun _ => (cp (anX C (cut n) 0 9) (anY C (cut n) 0 9) (anN C (cut n) 0 9)).2.1) 0 1048576)), (6, (.int .i64 (.v fun _ => (cp (anX C (cut n) 0 9) (anY C (cut n) 0 9) (anN C (cut n) 0 9)).2.2) (-128000000) 128000000)), (10, (.int .i64 (.v fun _ => x4) 0 1048576)), (11, (.int .i64 (.v fun _ => x8) 0 1048576)), (59, (.int .i64 (.v fun _ => x4) 0 1048576)), (60, (.sl 1 2 (.lit 0) (.v fun _ => anN C (cut n) 0 9) 64)), (61, (.int .i64 (.v fun _ => anN C (cut n) 0 9) 0 64)), (62, (.bool (.lt (.v fun _ => x4) (.v fun _ => anN C (cut n) 0 9))))], [some ⟨5, 1, false, (.sym (.v fun _ => cut n) fun e => [(.int .u8 (.v fun _ => ((C (e.den)))) 0 255)])⟩, some ⟨35, 2, true, (.sym (.v fun _ => (anN C (cut n) 0 9)) fun e => [(.int .i64 (.v fun _ => ((anX C (cut n) 0 9 (((e.den)))))) (-9223372036854775808) 9223372036854775807), (.int .i64 (.v fun _ => ((anY C (cut n) 0 9 (((e.den)))))) (-9223372036854775808) 9223372036854775807)])⟩], 1⟩) (fun x8 => (0 ≤ x8 ∧ x8 ≤ x4) ∧ x4 < anN C (cut n) 0 9) (fun x8 => (x4 - x8).toNat) fun x8 => (.ite (.need (.need (.need (.need (.call (c_i_SquaredDistance (((anX C (cut n) 0 9 (((x4)))))) (((anY C (cut n) 0 9 (((x4)))))) (((anX C (cut n) 0 9 (((x8)))))) (((anY C (cut n) 0 9 (((x8))))))) (.ite (.out (.out .ret)) (.next [0, 1]))))))) (.out (.next [0, 1])))) (.out (.ite (.need (.need (.need (.need (.call (c_i_SquaredDistance (((anX C (cut n) 0 9 ((((cp (anX C (cut n) 0 9) (anY C (cut n) 0 9) (anN C (cut n) 0 9)).1)))))) (((anY C (cut n) 0 9 ((((cp (anX C (cut n) 0 9) (anY C (cut n) 0 9) (anN C (cut n) 0 9)).1)))))) (((anX C (cut n) 0 9 ((((cp (anX C (cut n) 0 9) (anY C (cut n) 0 9) (anN C (cut n) 0 9)).2.1)))))) (((anY C (cut n) 0 9 ((((cp (anX C (cut n) 0 9) (anY C (cut n) 0 9) (anN C (cut n) 0 9)).2.1))))))) (.ite (.call (c_i_SortPoints (anX C (cut n) 0 9) (anY C (cut n) 0 9) (anN C (cut n) 0 9)) .ret) .ret)))))) .ret))))))))))))) (G := (0 ≤ n ∧ n ≤ 9223372036854775807) → (∀ e19 : E, ((0 ≤ e19.den ∧ e19.den < n) → (0 ≤ ((C (e19.den))) ∧ ((C (e19.den))) ≤ 255))) → ((n ≤ 1048576) → ((n = n) ∧ (((n ≤ n) ∧ (∀ e1 : E, ((0 ≤ e1.den ∧ e1.den < n) → (((C (e1.den))) = ((C (e1.den))))))) ∧ ((0 ≤ (anN C (cut n) 0 9) ∧ (anN C (cut n) 0 9) ≤ 64) → (((anN C (cut n) 0 9) = (anN C (cut n) 0 9)) ∧ ((((anN C (cut n) 0 9) ≤ (anN C (cut n) 0 9)) ∧ (∀ e2 : E, ((0 ≤ e2.den ∧ e2.den < (anN C (cut n) 0 9)) → (((anX C (cut n) 0 9 (e2.den)) = (anX C (cut n) 0 9 ((e2.den)))) ∧ ((anY C (cut n) 0 9 (e2.den)) = (anY C (cut n) 0 9 ((e2.den)))))))) ∧ (((0 ≤ ((cp (anX C (cut n) 0 9) (anY C (cut n) 0 9) (anN C (cut n) 0 9)).1) ∧ ((cp (anX C (cut n) 0 9) (anY C (cut n) 0 9) (anN C (cut n) 0 9)).1) ≤ 1048576) ∧ ((0 ≤ ((cp (anX C (cut n) 0 9) (anY C (cut n) 0 9) (anN C (cut n) 0 9)).2.1) ∧ ((cp (anX C (cut n) 0 9) (anY C (cut n) 0 9) (anN C (cut n) 0 9)).2.1) ≤ 1048576) ∧ ((-128000000) ≤ ((cp (anX C (cut n) 0 9) (anY C (cut n) 0 9) (anN C (cut n) 0 9)).2.2) ∧ ((cp (anX C (cut n) 0 9) (anY C (cut n) 0 9) (anN C (cut n) 0 9)).2.2) ≤ 128000000))) → (((anN C (cut n) 0 9) = (anN C (cut n) 0 9)) ∧ ((((anN C (cut n) 0 9) ≤ (anN C (cut n) 0 9)) ∧ (∀ e3 : E, ((0 ≤ e3.den ∧ e3.den < (anN C (cut n) 0 9)) → (((anX C (cut n) 0 9 ((e3.den))) = (((anX C (cut n) 0 9 (((e3.den))))))) ∧ ((anY C (cut n) 0 9 ((e3.den))) = (((anY C (cut n) 0 9 (((e3.den))))))))))) ∧ (((0 ≤ ((scp (anX C (cut n) 0 9) (anY C (cut n) 0 9) (anN C (cut n) 0 9)).1) ∧ ((scp (anX C (cut n) 0 9) (anY C (cut n) 0 9) (anN C (cut n) 0 9)).1) ≤ 1048576) ∧ ((0 ≤ ((scp (anX C (cut n) 0 9) (anY C (cut n) 0 9) (anN C (cut n) 0 9)).2.1) ∧ ((scp (anX C (cut n) 0 9) (anY C (cut n) 0 9) (anN C (cut n) 0 9)).2.1) ≤ 1048576) ∧ ((-128000000) ≤ ((scp (anX C (cut n) 0 9) (anY C (cut n) 0 9) (anN C (cut n) 0 9)).2.2) ∧ ((scp (anX C (cut n) 0 9) (anY C (cut n) 0 9) (anN C (cut n) 0 9)).2.2) ≤ 128000000))) → (((((cp (anX C (cut n) 0 9) (anY C (cut n) 0 9) (anN C (cut n) 0 9)).1) ≠ ((scp (anX C (cut n) 0 9) (anY C (cut n) 0 9) (anN C (cut n) 0 9)).1)) → (((((cp (anX C (cut n) 0 9) (anY C (cut n) 0 9) (anN C (cut n) 0 9)).1) = ((scp (anX C (cut n) 0 9) (anY C (cut n) 0 9) (anN C (cut n) 0 9)).1)) → (((((cp (anX C (cut n) 0 9) (anY C (cut n) 0 9) (anN C (cut n) 0 9)).2.1) = ((scp (anX C (cut n) 0 9) (anY C (cut n) 0 9) (anN C (cut n) 0 9)).2.1)) → (((cp (anX C (cut n) 0 9) (anY C (cut n) 0 9) (anN C (cut n) 0 9)).2.2) = ((scp (anX C (cut n) 0 9) (anY C (cut n) 0 9) (anN C (cut n) 0 9)).2.2))) ∧ ((((cp (anX C (cut n) 0 9) (anY C (cut n) 0 9) (anN C (cut n) 0 9)).2.1) ≠ ((scp (anX C (cut n) 0 9) (anY C (cut n) 0 9) (anN C (cut n) 0 9)).2.1)) → (False)))) ∧ ((((cp (anX C (cut n) 0 9) (anY C (cut n) 0 9) (anN C (cut n) 0 9)).1) ≠ ((scp (anX C (cut n) 0 9) (anY C (cut n) 0 9) (anN C (cut n) 0 9)).1)) → (False)))) ∧ ((((cp (anX C (cut n) 0 9) (anY C (cut n) 0 9) (anN C (cut n) 0 9)).1) = ((scp (anX C (cut n) 0 9) (anY C (cut n) 0 9) (anN C (cut n) 0 9)).1)) → (((((cp (anX C (cut n) 0 9) (anY C (cut n) 0 9) (anN C (cut n) 0 9)).2.1) ≠ ((scp (anX C (cut n) 0 9) (anY C (cut n) 0 9) (anN C (cut n) 0 9)).2.1)) → (((((cp (anX C (cut n) 0 9) (anY C (cut n) 0 9) (anN C (cut n) 0 9)).1) = ((scp (anX C (cut n) 0 9) (anY C (cut n) 0 9) (anN C (cut n) 0 9)).1)) → (((((cp (anX C (cut n) 0 9) (anY C (cut n) 0 9) (anN C (cut n) 0 9)).2.1) = ((scp (anX C (cut n) 0 9) (anY C (cut n) 0 9) (anN C (cut n) 0 9)).2.1)) → (((cp (anX C (cut n) 0 9) (anY C (cut n) 0 9) (anN C (cut n) 0 9)).2.2) = ((scp (anX C (cut n) 0 9) (anY C (cut n) 0 9) (anN C (cut n) 0 9)).2.2))) ∧ ((((cp (anX C (cut n) 0 9) (anY C (cut n) 0 9) (anN C (cut n) 0 9)).2.1) ≠ ((scp (anX C (cut n) 0 9) (anY C (cut n) 0 9) (anN C (cut n) 0 9)).2.1)) → (False)))) ∧ ((((cp (anX C (cut n) 0 9) (anY C (cut n) 0 9) (anN C (cut n) 0 9)).1) ≠ ((scp (anX C (cut n) 0 9) (anY C (cut n) 0 9) (anN C (cut n) 0 9)).1)) → (False)))) ∧ ((((cp (anX C (cut n) 0 9) (anY C (cut n) 0 9) (anN C (cut n) 0 9)).2.1) = ((scp (anX C (cut n) 0 9) (anY C (cut n) 0 9) (anN C (cut n) 0 9)).2.1)) → (((((cp (anX C (cut n) 0 9) (anY C (cut n) 0 9) (anN C (cut n) 0 9)).2.2) ≠ ((scp (anX C (cut n) 0 9) (anY C (cut n) 0 9) (anN C (cut n) 0 9)).2.2)) → (((((cp (anX C (cut n) 0 9) (anY C (cut n) 0 9) (anN C (cut n) 0 9)).1) = ((scp (anX C (cut n) 0 9) (anY C (cut n) 0 9) (anN C (cut n) 0 9)).1)) → (((((cp (anX C (cut n) 0 9) (anY C (cut n) 0 9) (anN C (cut n) 0 9)).2.1) = ((scp (anX C (cut n) 0 9) (anY C (cut n) 0 9) (anN C (cut n) 0 9)).2.1)) → (((cp (anX C (cut n) 0 9) (anY C (cut n) 0 9) (anN C (cut n) 0 9)).2.2) = ((scp (anX C (cut n) 0 9) (anY C (cut n) 0 9) (anN C (cut n) 0 9)).2.2))) ∧ ((((cp (anX C (cut n) 0 9) (anY C (cut n) 0 9) (anN C (cut n) 0 9)).2.1) ≠ ((scp (anX C (cut n) 0 9) (anY C (cut n) 0 9) (anN C (cut n) 0 9)).2.1)) → (False)))) ∧ ((((cp (anX C (cut n) 0 9) (anY C (cut n) 0 9) (anN C (cut n) 0 9)).1) ≠ ((scp (anX C (cut n) 0 9) (anY C (cut n) 0 9) (anN C (cut n) 0 9)).1)) → (False)))) ∧ ((((cp (anX C (cut n) 0 9) (anY C (cut n) 0 9) (anN C (cut n) 0 9)).2.2) = ((scp (anX C (cut n) 0 9) (anY C (cut n) 0 9) (anN C (cut n) 0 9)).2.2)) → (((((cp (anX C (cut n) 0 9) (anY C (cut n) 0 9) (anN C (cut n) 0 9)).2.2) < 0) → (((((cp (anX C (cut n) 0 9) (anY C (cut n) 0 9) (anN C (cut n) 0 9)).1) = ((scp (anX C (cut n) 0 9) (anY C (cut n) 0 9) (anN C (cut n) 0 9)).1)) → (((((cp (anX C (cut n) 0 9) (anY C (cut n) 0 9) (anN C (cut n) 0 9)).2.1) = ((scp (anX C (cut n) 0 9) (anY C (cut n) 0 9) (anN C (cut n) 0 9)).2.1)) → (((cp (anX C (cut n) 0 9) (anY C (cut n) 0 9) (anN C (cut n) 0 9)).2.2) = ((scp (anX C (cut n) 0 9) (anY C (cut n) 0 9) (anN C (cut n) 0 9)).2.2))) ∧ ((((cp (anX C (cut n) 0 9) (anY C (cut n) 0 9) (anN C (cut n) 0 9)).2.1) ≠ ((scp (anX C (cut n) 0 9) (anY C (cut n) 0 9) (anN C (cut n) 0 9)).2.1)) → (False)))) ∧ ((((cp (anX C (cut n) 0 9) (anY C (cut n) 0 9) (anN C (cut n) 0 9)).1) ≠ ((scp (anX C (cut n) 0 9) (anY C (cut n) 0 9) (anN C (cut n) 0 9)).1)) → (False)))) ∧ ((0 ≤ ((cp (anX C (cut n) 0 9) (anY C (cut n) 0 9) (anN C (cut n) 0 9)).2.2)) → ((∃ y5 : Int, ((0 ≤ y5 ∧ y5 ≤ anN C (cut n) 0 9) ∧ ((((anN C (cut n) 0 9) = (anN C (cut n) 0 9)) ∧ ((((cp (anX C (cut n) 0 9) (anY C (cut n) 0 9) (anN C (cut n) 0 9)).1) = ((cp (anX C (cut n) 0 9) (anY C (cut n) 0 9) (anN C (cut n) 0 9)).1)) ∧ ((((cp (anX C (cut n) 0 9) (anY C (cut n) 0 9) (anN C (cut n) 0 9)).2.1) = ((cp (anX C (cut n) 0 9) (anY C (cut n) 0 9) (anN C (cut n) 0 9)).2.1)) ∧ ((((cp (anX C (cut n) 0 9) (anY C (cut n) 0 9) (anN C (cut n) 0 9)).2.2) = ((cp (anX C (cut n) 0 9) (anY C (cut n) 0 9) (anN C (cut n) 0 9)).2.2)) ∧ ((0 : Int) = y5))))) ∧ ((((cut n) ≤ (cut n)) ∧ (∀ e7 : E, ((0 ≤ e7.den ∧ e7.den < (cut n)) → (((C (e7.den))) = ((C (e7.den))))))) ∧ (((anN C (cut n) 0 9) ≤ (anN C (cut n) 0 9)) ∧ (∀ e6 : E, ((0 ≤ e6.den ∧ e6.den < (anN C (cut n) 0 9)) → (((((anX C (cut n) 0 9 (((e6.den)))))) = (((anX C (cut n) 0 9 (((e6.den))))))) ∧ ((((anY C (cut n) 0 9 (((e6.den)))))) = (((anY C (cut n) 0 9 (((e6.den))))))))))))))) ∧ (∀ x4 : Int, ((0 ≤ x4 ∧ x4 ≤ anN C (cut n) 0 9) → (((x4 < (anN C (cut n) 0 9)) → ((∃ y9 : Int, (((0 ≤ y9 ∧ y9 ≤ x4) ∧ x4 < anN C (cut n) 0 9) ∧ ((((anN C (cut n) 0 9) = (anN C (cut n) 0 9)) ∧ ((((cp (anX C (cut n) 0 9) (anY C (cut n) 0 9) (anN C (cut n) 0 9)).1) = ((cp (anX C (cut n) 0 9) (anY C (cut n) 0 9) (anN C (cut n) 0 9)).1)) ∧ ((((cp (anX C (cut n) 0 9) (anY C (cut n) 0 9) (anN C (cut n) 0 9)).2.1) = ((cp (anX C (cut n) 0 9) (anY C (cut n) 0 9) (anN C (cut n) 0 9)).2.1)) ∧ ((((cp (anX C (cut n) 0 9) (anY C (cut n) 0 9) (anN C (cut n) 0 9)).2.2) = ((cp (anX C (cut n) 0 9) (anY C (cut n) 0 9) (anN C (cut n) 0 9)).2.2)) ∧ ((x4 = x4) ∧ (((0 : Int) = y9) ∧ ((x4 = x4) ∧ (((anN C (cut n) 0 9) = (anN C (cut n) 0 9)) ∧ (((anN C (cut n) 0 9) = (anN C (cut n) 0 9)) ∧ ((x4 < (anN C (cut n) 0 9)) ↔ (x4 < (anN C (cut n) 0 9)))))))))))) ∧ ((((cut n) ≤ (cut n)) ∧ (∀ e11 : E, ((0 ≤ e11.den ∧ e11.den < (cut n)) → (((C (e11.den))) = ((C (e11.den))))))) ∧ (((anN C (cut n) 0 9) ≤ (anN C (cut n) 0 9)) ∧ (∀ e10 : E, ((0 ≤ e10.den ∧ e10.den < (anN C (cut n) 0 9)) → (((((anX C (cut n) 0 9 (((e10.den)))))) = (((anX C (cut n) 0 9 (((e10.den))))))) ∧ ((((anY C (cut n) 0 9 (((e10.den)))))) = (((anY C (cut n) 0 9 (((e10.den))))))))))))))) ∧ (∀ x8 : Int, (((0 ≤ x8 ∧ x8 ≤ x4) ∧ x4 < anN C (cut n) 0 9) → (((x8 < x4) → ((((0 ≤ x4) ∧ (x4 < (anN C (cut n) 0 9)))) ∧ ((x4 < (anN C (cut n) 0 9)) ∧ ((((0 ≤ x8) ∧ (x8 < (anN C (cut n) 0 9)))) ∧ ((x8 < (anN C (cut n) 0 9)) ∧ (((((((anX C (cut n) 0 9 (((x4)))))) = ((((anX C (cut n) 0 9 (((x4)))))))) ∧ ((((anY C (cut n) 0 9 (((x4)))))) = ((((anY C (cut n) 0 9 (((x4))))))))) ∧ (((((anX C (cut n) 0 9 (((x8)))))) = ((((anX C (cut n) 0 9 (((x8)))))))) ∧ ((((anY C (cut n) 0 9 (((x8)))))) = ((((anY C (cut n) 0 9 (((x8)))))))))) ∧ ((((sqd (((anX C (cut n) 0 9 (((x4)))))) (((anY C (cut n) 0 9 (((x4)))))) (((anX C (cut n) 0 9 (((x8)))))) (((anY C (cut n) 0 9 (((x8))))))) < ((cp (anX C (cut n) 0 9) (anY C (cut n) 0 9) (anN C (cut n) 0 9)).2.2)) → (False)) ∧ ((((cp (anX C (cut n) 0 9) (anY C (cut n) 0 9) (anN C (cut n) 0 9)).2.2) ≤ (sqd (((anX C (cut n) 0 9 (((x4)))))) (((anY C (cut n) 0 9 (((x4)))))) (((anX C (cut n) 0 9 (((x8)))))) (((anY C (cut n) 0 9 (((x8)))))))) → (∃ y12 : Int, (((0 ≤ y12 ∧ y12 ≤ x4) ∧ x4 < anN C (cut n) 0 9) ∧ (((((anN C (cut n) 0 9) = (anN C (cut n) 0 9)) ∧ ((((cp (anX C (cut n) 0 9) (anY C (cut n) 0 9) (anN C (cut n) 0 9)).1) = ((cp (anX C (cut n) 0 9) (anY C (cut n) 0 9) (anN C (cut n) 0 9)).1)) ∧ ((((cp (anX C (cut n) 0 9) (anY C (cut n) 0 9) (anN C (cut n) 0 9)).2.1) = ((cp (anX C (cut n) 0 9) (anY C (cut n) 0 9) (anN C (cut n) 0 9)).2.1)) ∧ ((((cp (anX C (cut n) 0 9) (anY C (cut n) 0 9) (anN C (cut n) 0 9)).2.2) = ((cp (anX C (cut n) 0 9) (anY C (cut n) 0 9) (anN C (cut n) 0 9)).2.2)) ∧ ((x4 = x4) ∧ ((((x8 + 1) = y12) ∧ ((1 ≤ (x8 + 1) ∧ (x8 + 1) ≤ 1048577) → (0 ≤ y12 ∧ y12 ≤ 1048576))) ∧ ((x4 = x4) ∧ (((anN C (cut n) 0 9) = (anN C (cut n) 0 9)) ∧ (((anN C (cut n) 0 9) = (anN C (cut n) 0 9)) ∧ ((x4 < (anN C (cut n) 0 9)) ↔ (x4 < (anN C (cut n) 0 9)))))))))))) ∧ ((((cut n) ≤ (cut n)) ∧ (∀ e14 : E, ((0 ≤ e14.den ∧ e14.den < (cut n)) → (((C (e14.den))) = ((C (e14.den))))))) ∧ (((anN C (cut n) 0 9) ≤ (anN C (cut n) 0 9)) ∧ (∀ e13 : E, ((0 ≤ e13.den ∧ e13.den < (anN C (cut n) 0 9)) → (((((anX C (cut n) 0 9 (((e13.den)))))) = (((anX C (cut n) 0 9 (((e13.den))))))) ∧ ((((anY C (cut n) 0 9 (((e13.den)))))) = (((anY C (cut n) 0 9 (((e13.den))))))))))))) ∧ ((x4 - y12).toNat < (x4 - x8).toNat)))))))))))) ∧ ((x4 ≤ x8) → (∃ y15 : Int, ((0 ≤ y15 ∧ y15 ≤ anN C (cut n) 0 9) ∧ (((((anN C (cut n) 0 9) = (anN C (cut n) 0 9)) ∧ ((((cp (anX C (cut n) 0 9) (anY C (cut n) 0 9) (anN C (cut n) 0 9)).1) = ((cp (anX C (cut n) 0 9) (anY C (cut n) 0 9) (anN C (cut n) 0 9)).1)) ∧ ((((cp (anX C (cut n) 0 9) (anY C (cut n) 0 9) (anN C (cut n) 0 9)).2.1) = ((cp (anX C (cut n) 0 9) (anY C (cut n) 0 9) (anN C (cut n) 0 9)).2.1)) ∧ ((((cp (anX C (cut n) 0 9) (anY C (cut n) 0 9) (anN C (cut n) 0 9)).2.2) = ((cp (anX C (cut n) 0 9) (anY C (cut n) 0 9) (anN C (cut n) 0 9)).2.2)) ∧ (((x4 + 1) = y15) ∧ ((1 ≤ (x4 + 1) ∧ (x4 + 1) ≤ 1048577) → (0 ≤ y15 ∧ y15 ≤ 1048576))))))) ∧ ((((cut n) ≤ (cut n)) ∧ (∀ e17 : E, ((0 ≤ e17.den ∧ e17.den < (cut n)) → (((C (e17.den))) = ((C (e17.den))))))) ∧ (((anN C (cut n) 0 9) ≤ (anN C (cut n) 0 9)) ∧ (∀ e16 : E, ((0 ≤ e16.den ∧ e16.den < (anN C (cut n) 0 9)) → (((((anX C (cut n) 0 9 (((e16.den)))))) = (((anX C (cut n) 0 9 (((e16.den))))))) ∧ ((((anY C (cut n) 0 9 (((e16.den)))))) = (((anY C (cut n) 0 9 (((e16.den))))))))))))) ∧ ((anN C (cut n) 0 9 - y15).toNat < (anN C (cut n) 0 9 - x4).toNat)))))))))) ∧ (((anN C (cut n) 0 9) ≤ x4) → (((((cp (anX C (cut n) 0 9) (anY C (cut n) 0 9) (anN C (cut n) 0 9)).1) < ((cp (anX C (cut n) 0 9) (anY C (cut n) 0 9) (anN C (cut n) 0 9)).2.1)) → ((((0 ≤ ((cp (anX C (cut n) 0 9) (anY C (cut n) 0 9) (anN C (cut n) 0 9)).1)) ∧ (((cp (anX C (cut n) 0 9) (anY C (cut n) 0 9) (anN C (cut n) 0 9)).1) < (anN C (cut n) 0 9)))) ∧ ((((cp (anX C (cut n) 0 9) (anY C (cut n) 0 9) (anN C (cut n) 0 9)).1) < (anN C (cut n) 0 9)) ∧ ((((0 ≤ ((cp (anX C (cut n) 0 9) (anY C (cut n) 0 9) (anN C (cut n) 0 9)).2.1)) ∧ (((cp (anX C (cut n) 0 9) (anY C (cut n) 0 9) (anN C (cut n) 0 9)).2.1) < (anN C (cut n) 0 9)))) ∧ ((((cp (anX C (cut n) 0 9) (anY C (cut n) 0 9) (anN C (cut n) 0 9)).2.1) < (anN C (cut n) 0 9)) ∧ (((((((anX C (cut n) 0 9 ((((cp (anX C (cut n) 0 9) (anY C (cut n) 0 9) (anN C (cut n) 0 9)).1)))))) = ((((anX C (cut n) 0 9 ((((cp (anX C (cut n) 0 9) (anY C (cut n) 0 9) (anN C (cut n) 0 9)).1)))))))) ∧ ((((anY C (cut n) 0 9 ((((cp (anX C (cut n) 0 9) (anY C (cut n) 0 9) (anN C (cut n) 0 9)).1)))))) = ((((anY C (cut n) 0 9 ((((cp (anX C (cut n) 0 9) (anY C (cut n) 0 9) (anN C (cut n) 0 9)).1))))))))) ∧ (((((anX C (cut n) 0 9 ((((cp (anX C (cut n) 0 9) (anY C (cut n) 0 9) (anN C (cut n) 0 9)).2.1)))))) = ((((anX C (cut n) 0 9 ((((cp (anX C (cut n) 0 9) (anY C (cut n) 0 9) (anN C (cut n) 0 9)).2.1)))))))) ∧ ((((anY C (cut n) 0 9 ((((cp (anX C (cut n) 0 9) (anY C (cut n) 0 9) (anN C (cut n) 0 9)).2.1)))))) = ((((anY C (cut n) 0 9 ((((cp (anX C (cut n) 0 9) (anY C (cut n) 0 9) (anN C (cut n) 0 9)).2.1)))))))))) ∧ ((((sqd (((anX C (cut n) 0 9 ((((cp (anX C (cut n) 0 9) (anY C (cut n) 0 9) (anN C (cut n) 0 9)).1)))))) (((anY C (cut n) 0 9 ((((cp (anX C (cut n) 0 9) (anY C (cut n) 0 9) (anN C (cut n) 0 9)).1)))))) (((anX C (cut n) 0 9 ((((cp (anX C (cut n) 0 9) (anY C (cut n) 0 9) (anN C (cut n) 0 9)).2.1)))))) (((anY C (cut n) 0 9 ((((cp (anX C (cut n) 0 9) (anY C (cut n) 0 9) (anN C (cut n) 0 9)).2.1))))))) = ((cp (anX C (cut n) 0 9) (anY C (cut n) 0 9) (anN C (cut n) 0 9)).2.2)) → (((anN C (cut n) 0 9) = (anN C (cut n) 0 9)) ∧ ((((anN C (cut n) 0 9) ≤ (anN C (cut n) 0 9)) ∧ (∀ e18 : E, ((0 ≤ e18.den ∧ e18.den < (anN C (cut n) 0 9)) → (((((anX C (cut n) 0 9 (((e18.den)))))) = ((((anX C (cut n) 0 9 ((((e18.den))))))))) ∧ ((((anY C (cut n) 0 9 (((e18.den)))))) = ((((anY C (cut n) 0 9 ((((e18.den))))))))))))) ∧ (((((cp (anX C (cut n) 0 9) (anY C (cut n) 0 9) (anN C (cut n) 0 9)).2.2) = 0) ↔ ((spN (anX C (cut n) 0 9) (anY C (cut n) 0 9) (anN C (cut n) 0 9)) < (anN C (cut n) 0 9))))))) ∧ (((sqd (((anX C (cut n) 0 9 ((((cp (anX C (cut n) 0 9) (anY C (cut n) 0 9) (anN C (cut n) 0 9)).1)))))) (((anY C (cut n) 0 9 ((((cp (anX C (cut n) 0 9) (anY C (cut n) 0 9) (anN C (cut n) 0 9)).1)))))) (((anX C (cut n) 0 9 ((((cp (anX C (cut n) 0 9) (anY C (cut n) 0 9) (anN C (cut n) 0 9)).2.1)))))) (((anY C (cut n) 0 9 ((((cp (anX C (cut n) 0 9) (anY C (cut n) 0 9) (anN C (cut n) 0 9)).2.1))))))) ≠ ((cp (anX C (cut n) 0 9) (anY C (cut n) 0 9) (anN C (cut n) 0 9)).2.2)) → (False))))))))) ∧ ((((cp (anX C (cut n) 0 9) (anY C (cut n) 0 9) (anN C (cut n) 0 9)).2.1) ≤ ((cp (anX C (cut n) 0 9) (anY C (cut n) 0 9) (anN C (cut n) 0 9)).1)) → (False))))))))))))))))))))))))))) (by kernel_rfl) ?_
  intro h1 h2
  intro c20
  refine ⟨rfl, ⟨Int.le_refl _, fun _ => fun _ => rfl⟩, ?_⟩
  intro c21
  refine ⟨rfl, ⟨Int.le_refl _, fun _ => fun _ => ⟨rfl, rfl⟩⟩, ?_⟩
  intro c22
  refine ⟨rfl, ⟨Int.le_refl _, fun _ => fun _ => ⟨rfl, rfl⟩⟩, ?_⟩
  intro c23
  refine ⟨?_, ?_⟩
  · intro c24
    refine ⟨?_, ?_⟩
    · intro c25
      refine ⟨?_, ?_⟩
      · intro c26
        -- 1: ((cp (anX C (cut n) 0 9) (anY C (cut n) 0 9) (anN C (cut n) 0 9)).2.2) = ((scp (anX C (cut n) 0 9) (
        first | rfl | omega | (exact absurd (congrArg (fun s => s.1) (cp_eq (X := anX C (cut n) 0 9) (Y := anY C (cut n) 0 9) (n := anN C (cut n) 0 9) (by omega))) (by assumption)) | (exact absurd (congrArg (fun s => s.2.1) (cp_eq (X := anX C (cut n) 0 9) (Y := anY C (cut n) 0 9) (n := anN C (cut n) 0 9) (by omega))) (by assumption)) | (exact absurd (congrArg (fun s => s.2.2) (cp_eq (X := anX C (cut n) 0 9) (Y := anY C (cut n) 0 9) (n := anN C (cut n) 0 9) (by omega))) (by assumption)) | (rw [cp_eq (by omega)]; done) | (rw [cp_eq (by omega)]; simp; done) | (have hh := cp_sqd (X := anX C (cut n) 0 9) (Y := anY C (cut n) 0 9) (n := anN C (cut n) 0 9) (i := j) (k := k) (by omega) (by omega) (by omega) (by omega); omega) | (have hh := cp_at (X := anX C (cut n) 0 9) (Y := anY C (cut n) 0 9) (n := anN C (cut n) 0 9) (by omega) (by omega); first | omega | (simp; omega) | (simp only [Bool.beq_eq_decide_eq, decide_eq_decide, decide_eq_true_eq, hh]; done)) | fail
      · intro c27
        -- 2: False
        first | rfl | omega | (exact absurd (congrArg (fun s => s.1) (cp_eq (X := anX C (cut n) 0 9) (Y := anY C (cut n) 0 9) (n := anN C (cut n) 0 9) (by omega))) (by assumption)) | (exact absurd (congrArg (fun s => s.2.1) (cp_eq (X := anX C (cut n) 0 9) (Y := anY C (cut n) 0 9) (n := anN C (cut n) 0 9) (by omega))) (by assumption)) | (exact absurd (congrArg (fun s => s.2.2) (cp_eq (X := anX C (cut n) 0 9) (Y := anY C (cut n) 0 9) (n := anN C (cut n) 0 9) (by omega))) (by assumption)) | (rw [cp_eq (by omega)]; done) | (rw [cp_eq (by omega)]; simp; done) | (have hh := cp_sqd (X := anX C (cut n) 0 9) (Y := anY C (cut n) 0 9) (n := anN C (cut n) 0 9) (i := j) (k := k) (by omega) (by omega) (by omega) (by omega); omega) | (have hh := cp_at (X := anX C (cut n) 0 9) (Y := anY C (cut n) 0 9) (n := anN C (cut n) 0 9) (by omega) (by omega); first | omega | (simp; omega) | (simp only [Bool.beq_eq_decide_eq, decide_eq_decide, decide_eq_true_eq, hh]; done)) | fail
    · intro c28
      -- 3: False
      first | rfl | omega | (exact absurd (congrArg (fun s => s.1) (cp_eq (X := anX C (cut n) 0 9) (Y := anY C (cut n) 0 9) (n := anN C (cut n) 0 9) (by omega))) (by assumption)) | (exact absurd (congrArg (fun s => s.2.1) (cp_eq (X := anX C (cut n) 0 9) (Y := anY C (cut n) 0 9) (n := anN C (cut n) 0 9) (by omega))) (by assumption)) | (exact absurd (congrArg (fun s => s.2.2) (cp_eq (X := anX C (cut n) 0 9) (Y := anY C (cut n) 0 9) (n := anN C (cut n) 0 9) (by omega))) (by assumption)) | (rw [cp_eq (by omega)]; done) | (rw [cp_eq (by omega)]; simp; done) | (have hh := cp_sqd (X := anX C (cut n) 0 9) (Y := anY C (cut n) 0 9) (n := anN C (cut n) 0 9) (i := j) (k := k) (by omega) (by omega) (by omega) (by omega); omega) | (have hh := cp_at (X := anX C (cut n) 0 9) (Y := anY C (cut n) 0 9) (n := anN C (cut n) 0 9) (by omega) (by omega); first | omega | (simp; omega) | (simp only [Bool.beq_eq_decide_eq, decide_eq_decide, decide_eq_true_eq, hh]; done)) | fail
  · intro c29
    refine ⟨?_, ?_⟩
    · intro c30
      refine ⟨?_, ?_⟩
      · intro c31
        refine ⟨?_, ?_⟩
        · intro c32
          -- 4: ((cp (anX C (cut n) 0 9) (anY C (cut n) 0 9) (anN C (cut n) 0 9)).2.2) = ((scp (anX C (cut n) 0 9) (
          first | rfl | omega | (exact absurd (congrArg (fun s => s.1) (cp_eq (X := anX C (cut n) 0 9) (Y := anY C (cut n) 0 9) (n := anN C (cut n) 0 9) (by omega))) (by assumption)) | (exact absurd (congrArg (fun s => s.2.1) (cp_eq (X := anX C (cut n) 0 9) (Y := anY C (cut n) 0 9) (n := anN C (cut n) 0 9) (by omega))) (by assumption)) | (exact absurd (congrArg (fun s => s.2.2) (cp_eq (X := anX C (cut n) 0 9) (Y := anY C (cut n) 0 9) (n := anN C (cut n) 0 9) (by omega))) (by assumption)) | (rw [cp_eq (by omega)]; done) | (rw [cp_eq (by omega)]; simp; done) | (have hh := cp_sqd (X := anX C (cut n) 0 9) (Y := anY C (cut n) 0 9) (n := anN C (cut n) 0 9) (i := j) (k := k) (by omega) (by omega) (by omega) (by omega); omega) | (have hh := cp_at (X := anX C (cut n) 0 9) (Y := anY C (cut n) 0 9) (n := anN C (cut n) 0 9) (by omega) (by omega); first | omega | (simp; omega) | (simp only [Bool.beq_eq_decide_eq, decide_eq_decide, decide_eq_true_eq, hh]; done)) | fail
        · intro c33
          -- 5: False
          first | rfl | omega | (exact absurd (congrArg (fun s => s.1) (cp_eq (X := anX C (cut n) 0 9) (Y := anY C (cut n) 0 9) (n := anN C (cut n) 0 9) (by omega))) (by assumption)) | (exact absurd (congrArg (fun s => s.2.1) (cp_eq (X := anX C (cut n) 0 9) (Y := anY C (cut n) 0 9) (n := anN C (cut n) 0 9) (by omega))) (by assumption)) | (exact absurd (congrArg (fun s => s.2.2) (cp_eq (X := anX C (cut n) 0 9) (Y := anY C (cut n) 0 9) (n := anN C (cut n) 0 9) (by omega))) (by assumption)) | (rw [cp_eq (by omega)]; done) | (rw [cp_eq (by omega)]; simp; done) | (have hh := cp_sqd (X := anX C (cut n) 0 9) (Y := anY C (cut n) 0 9) (n := anN C (cut n) 0 9) (i := j) (k := k) (by omega) (by omega) (by omega) (by omega); omega) | (have hh := cp_at (X := anX C (cut n) 0 9) (Y := anY C (cut n) 0 9) (n := anN C (cut n) 0 9) (by omega) (by omega); first | omega | (simp; omega) | (simp only [Bool.beq_eq_decide_eq, decide_eq_decide, decide_eq_true_eq, hh]; done)) | fail
      · intro c34
        -- 6: False
        first | rfl | omega | (exact absurd (congrArg (fun s => s.1) (cp_eq (X := anX C (cut n) 0 9) (Y := anY C (cut n) 0 9) (n := anN C (cut n) 0 9) (by omega))) (by assumption)) | (exact absurd (congrArg (fun s => s.2.1) (cp_eq (X := anX C (cut n) 0 9) (Y := anY C (cut n) 0 9) (n := anN C (cut n) 0 9) (by omega))) (by assumption)) | (exact absurd (congrArg (fun s => s.2.2) (cp_eq (X := anX C (cut n) 0 9) (Y := anY C (cut n) 0 9) (n := anN C (cut n) 0 9) (by omega))) (by assumption)) | (rw [cp_eq (by omega)]; done) | (rw [cp_eq (by omega)]; simp; done) | (have hh := cp_sqd (X := anX C (cut n) 0 9) (Y := anY C (cut n) 0 9) (n := anN C (cut n) 0 9) (i := j) (k := k) (by omega) (by omega) (by omega) (by omega); omega) | (have hh := cp_at (X := anX C (cut n) 0 9) (Y := anY C (cut n) 0 9) (n := anN C (cut n) 0 9) (by omega) (by omega); first | omega | (simp; omega) | (simp only [Bool.beq_eq_decide_eq, decide_eq_decide, decide_eq_true_eq, hh]; done)) | fail
    · intro c35
      refine ⟨?_, ?_⟩
      · intro c36
        refine ⟨?_, ?_⟩
        · intro c37
          refine ⟨?_, ?_⟩
          · intro c38
            -- 7: ((cp (anX C (cut n) 0 9) (anY C (cut n) 0 9) (anN C (cut n) 0 9)).2.2) = ((scp (anX C (cut n) 0 9) (
            first | rfl | omega | (exact absurd (congrArg (fun s => s.1) (cp_eq (X := anX C (cut n) 0 9) (Y := anY C (cut n) 0 9) (n := anN C (cut n) 0 9) (by omega))) (by assumption)) | (exact absurd (congrArg (fun s => s.2.1) (cp_eq (X := anX C (cut n) 0 9) (Y := anY C (cut n) 0 9) (n := anN C (cut n) 0 9) (by omega))) (by assumption)) | (exact absurd (congrArg (fun s => s.2.2) (cp_eq (X := anX C (cut n) 0 9) (Y := anY C (cut n) 0 9) (n := anN C (cut n) 0 9) (by omega))) (by assumption)) | (rw [cp_eq (by omega)]; done) | (rw [cp_eq (by omega)]; simp; done) | (have hh := cp_sqd (X := anX C (cut n) 0 9) (Y := anY C (cut n) 0 9) (n := anN C (cut n) 0 9) (i := j) (k := k) (by omega) (by omega) (by omega) (by omega); omega) | (have hh := cp_at (X := anX C (cut n) 0 9) (Y := anY C (cut n) 0 9) (n := anN C (cut n) 0 9) (by omega) (by omega); first | omega | (simp; omega) | (simp only [Bool.beq_eq_decide_eq, decide_eq_decide, decide_eq_true_eq, hh]; done)) | fail
          · intro c39
            -- 8: False
            first | rfl | omega | (exact absurd (congrArg (fun s => s.1) (cp_eq (X := anX C (cut n) 0 9) (Y := anY C (cut n) 0 9) (n := anN C (cut n) 0 9) (by omega))) (by assumption)) | (exact absurd (congrArg (fun s => s.2.1) (cp_eq (X := anX C (cut n) 0 9) (Y := anY C (cut n) 0 9) (n := anN C (cut n) 0 9) (by omega))) (by assumption)) | (exact absurd (congrArg (fun s => s.2.2) (cp_eq (X := anX C (cut n) 0 9) (Y := anY C (cut n) 0 9) (n := anN C (cut n) 0 9) (by omega))) (by assumption)) | (rw [cp_eq (by omega)]; done) | (rw [cp_eq (by omega)]; simp; done) | (have hh := cp_sqd (X := anX C (cut n) 0 9) (Y := anY C (cut n) 0 9) (n := anN C (cut n) 0 9) (i := j) (k := k) (by omega) (by omega) (by omega) (by omega); omega) | (have hh := cp_at (X := anX C (cut n) 0 9) (Y := anY C (cut n) 0 9) (n := anN C (cut n) 0 9) (by omega) (by omega); first | omega | (simp; omega) | (simp only [Bool.beq_eq_decide_eq, decide_eq_decide, decide_eq_true_eq, hh]; done)) | fail
        · intro c40
          -- 9: False
          first | rfl | omega | (exact absurd (congrArg (fun s => s.1) (cp_eq (X := anX C (cut n) 0 9) (Y := anY C (cut n) 0 9) (n := anN C (cut n) 0 9) (by omega))) (by assumption)) | (exact absurd (congrArg (fun s => s.2.1) (cp_eq (X := anX C (cut n) 0 9) (Y := anY C (cut n) 0 9) (n := anN C (cut n) 0 9) (by omega))) (by assumption)) | (exact absurd (congrArg (fun s => s.2.2) (cp_eq (X := anX C (cut n) 0 9) (Y := anY C (cut n) 0 9) (n := anN C (cut n) 0 9) (by omega))) (by assumption)) | (rw [cp_eq (by omega)]; done) | (rw [cp_eq (by omega)]; simp; done) | (have hh := cp_sqd (X := anX C (cut n) 0 9) (Y := anY C (cut n) 0 9) (n := anN C (cut n) 0 9) (i := j) (k := k) (by omega) (by omega) (by omega) (by omega); omega) | (have hh := cp_at (X := anX C (cut n) 0 9) (Y := anY C (cut n) 0 9) (n := anN C (cut n) 0 9) (by omega) (by omega); first | omega | (simp; omega) | (simp only [Bool.beq_eq_decide_eq, decide_eq_decide, decide_eq_true_eq, hh]; done)) | fail
      · intro c41
        refine ⟨?_, ?_⟩
        · intro c42
          refine ⟨?_, ?_⟩
          · intro c43
            refine ⟨?_, ?_⟩
            · intro c44
              -- 10: ((cp (anX C (cut n) 0 9) (anY C (cut n) 0 9) (anN C (cut n) 0 9)).2.2) = ((scp (anX C (cut n) 0 9) (
              first | rfl | omega | (exact absurd (congrArg (fun s => s.1) (cp_eq (X := anX C (cut n) 0 9) (Y := anY C (cut n) 0 9) (n := anN C (cut n) 0 9) (by omega))) (by assumption)) | (exact absurd (congrArg (fun s => s.2.1) (cp_eq (X := anX C (cut n) 0 9) (Y := anY C (cut n) 0 9) (n := anN C (cut n) 0 9) (by omega))) (by assumption)) | (exact absurd (congrArg (fun s => s.2.2) (cp_eq (X := anX C (cut n) 0 9) (Y := anY C (cut n) 0 9) (n := anN C (cut n) 0 9) (by omega))) (by assumption)) | (rw [cp_eq (by omega)]; done) | (rw [cp_eq (by omega)]; simp; done) | (have hh := cp_sqd (X := anX C (cut n) 0 9) (Y := anY C (cut n) 0 9) (n := anN C (cut n) 0 9) (i := j) (k := k) (by omega) (by omega) (by omega) (by omega); omega) | (have hh := cp_at (X := anX C (cut n) 0 9) (Y := anY C (cut n) 0 9) (n := anN C (cut n) 0 9) (by omega) (by omega); first | omega | (simp; omega) | (simp only [Bool.beq_eq_decide_eq, decide_eq_decide, decide_eq_true_eq, hh]; done)) | fail
            · intro c45
              -- 11: False
              first | rfl | omega | (exact absurd (congrArg (fun s => s.1) (cp_eq (X := anX C (cut n) 0 9) (Y := anY C (cut n) 0 9) (n := anN C (cut n) 0 9) (by omega))) (by assumption)) | (exact absurd (congrArg (fun s => s.2.1) (cp_eq (X := anX C (cut n) 0 9) (Y := anY C (cut n) 0 9) (n := anN C (cut n) 0 9) (by omega))) (by assumption)) | (exact absurd (congrArg (fun s => s.2.2) (cp_eq (X := anX C (cut n) 0 9) (Y := anY C (cut n) 0 9) (n := anN C (cut n) 0 9) (by omega))) (by assumption)) | (rw [cp_eq (by omega)]; done) | (rw [cp_eq (by omega)]; simp; done) | (have hh := cp_sqd (X := anX C (cut n) 0 9) (Y := anY C (cut n) 0 9) (n := anN C (cut n) 0 9) (i := j) (k := k) (by omega) (by omega) (by omega) (by omega); omega) | (have hh := cp_at (X := anX C (cut n) 0 9) (Y := anY C (cut n) 0 9) (n := anN C (cut n) 0 9) (by omega) (by omega); first | omega | (simp; omega) | (simp only [Bool.beq_eq_decide_eq, decide_eq_decide, decide_eq_true_eq, hh]; done)) | fail
          · intro c46
            -- 12: False
            first | rfl | omega | (exact absurd (congrArg (fun s => s.1) (cp_eq (X := anX C (cut n) 0 9) (Y := anY C (cut n) 0 9) (n := anN C (cut n) 0 9) (by omega))) (by assumption)) | (exact absurd (congrArg (fun s => s.2.1) (cp_eq (X := anX C (cut n) 0 9) (Y := anY C (cut n) 0 9) (n := anN C (cut n) 0 9) (by omega))) (by assumption)) | (exact absurd (congrArg (fun s => s.2.2) (cp_eq (X := anX C (cut n) 0 9) (Y := anY C (cut n) 0 9) (n := anN C (cut n) 0 9) (by omega))) (by assumption)) | (rw [cp_eq (by omega)]; done) | (rw [cp_eq (by omega)]; simp; done) | (have hh := cp_sqd (X := anX C (cut n) 0 9) (Y := anY C (cut n) 0 9) (n := anN C (cut n) 0 9) (i := j) (k := k) (by omega) (by omega) (by omega) (by omega); omega) | (have hh := cp_at (X := anX C (cut n) 0 9) (Y := anY C (cut n) 0 9) (n := anN C (cut n) 0 9) (by omega) (by omega); first | omega | (simp; omega) | (simp only [Bool.beq_eq_decide_eq, decide_eq_decide, decide_eq_true_eq, hh]; done)) | fail
        · intro c47
          refine ⟨?_, ?_⟩
          · refine ⟨0, ?_⟩
            try dsimp only
            refine ⟨?_, ?_, ⟨Int.le_refl _, fun _ => fun _ => rfl⟩, Int.le_refl _, fun _ => fun _ => ⟨rfl, rfl⟩⟩
              -- 13: 0 ≤ y5 ∧ y5 ≤ anN C (cut n) 0 9
            · first | rfl | omega | (exact absurd (congrArg (fun s => s.1) (cp_eq (X := anX C (cut n) 0 9) (Y := anY C (cut n) 0 9) (n := anN C (cut n) 0 9) (by omega))) (by assumption)) | (exact absurd (congrArg (fun s => s.2.1) (cp_eq (X := anX C (cut n) 0 9) (Y := anY C (cut n) 0 9) (n := anN C (cut n) 0 9) (by omega))) (by assumption)) | (exact absurd (congrArg (fun s => s.2.2) (cp_eq (X := anX C (cut n) 0 9) (Y := anY C (cut n) 0 9) (n := anN C (cut n) 0 9) (by omega))) (by assumption)) | (rw [cp_eq (by omega)]; done) | (rw [cp_eq (by omega)]; simp; done) | (have hh := cp_sqd (X := anX C (cut n) 0 9) (Y := anY C (cut n) 0 9) (n := anN C (cut n) 0 9) (i := j) (k := k) (by omega) (by omega) (by omega) (by omega); omega) | (have hh := cp_at (X := anX C (cut n) 0 9) (Y := anY C (cut n) 0 9) (n := anN C (cut n) 0 9) (by omega) (by omega); first | omega | (simp; omega) | (simp only [Bool.beq_eq_decide_eq, decide_eq_decide, decide_eq_true_eq, hh]; done)) | fail
            · refine ⟨rfl, rfl, rfl, rfl, ?_⟩
              -- 14: (0 : Int) = y5
              first | rfl | omega | (exact absurd (congrArg (fun s => s.1) (cp_eq (X := anX C (cut n) 0 9) (Y := anY C (cut n) 0 9) (n := anN C (cut n) 0 9) (by omega))) (by assumption)) | (exact absurd (congrArg (fun s => s.2.1) (cp_eq (X := anX C (cut n) 0 9) (Y := anY C (cut n) 0 9) (n := anN C (cut n) 0 9) (by omega))) (by assumption)) | (exact absurd (congrArg (fun s => s.2.2) (cp_eq (X := anX C (cut n) 0 9) (Y := anY C (cut n) 0 9) (n := anN C (cut n) 0 9) (by omega))) (by assumption)) | (rw [cp_eq (by omega)]; done) | (rw [cp_eq (by omega)]; simp; done) | (have hh := cp_sqd (X := anX C (cut n) 0 9) (Y := anY C (cut n) 0 9) (n := anN C (cut n) 0 9) (i := j) (k := k) (by omega) (by omega) (by omega) (by omega); omega) | (have hh := cp_at (X := anX C (cut n) 0 9) (Y := anY C (cut n) 0 9) (n := anN C (cut n) 0 9) (by omega) (by omega); first | omega | (simp; omega) | (simp only [Bool.beq_eq_decide_eq, decide_eq_decide, decide_eq_true_eq, hh]; done)) | fail
          · intro j
            intro I1
            refine ⟨?_, ?_⟩
            · intro c48
              refine ⟨?_, ?_⟩
              · refine ⟨0, ?_⟩
                try dsimp only
                refine ⟨?_, ?_, ⟨Int.le_refl _, fun _ => fun _ => rfl⟩, Int.le_refl _, fun _ => fun _ => ⟨rfl, rfl⟩⟩
                  -- 15: (0 ≤ y9 ∧ y9 ≤ x4) ∧ x4 < anN C (cut n) 0 9
                · first | rfl | omega | (exact absurd (congrArg (fun s => s.1) (cp_eq (X := anX C (cut n) 0 9) (Y := anY C (cut n) 0 9) (n := anN C (cut n) 0 9) (by omega))) (by assumption)) | (exact absurd (congrArg (fun s => s.2.1) (cp_eq (X := anX C (cut n) 0 9) (Y := anY C (cut n) 0 9) (n := anN C (cut n) 0 9) (by omega))) (by assumption)) | (exact absurd (congrArg (fun s => s.2.2) (cp_eq (X := anX C (cut n) 0 9) (Y := anY C (cut n) 0 9) (n := anN C (cut n) 0 9) (by omega))) (by assumption)) | (rw [cp_eq (by omega)]; done) | (rw [cp_eq (by omega)]; simp; done) | (have hh := cp_sqd (X := anX C (cut n) 0 9) (Y := anY C (cut n) 0 9) (n := anN C (cut n) 0 9) (i := j) (k := k) (by omega) (by omega) (by omega) (by omega); omega) | (have hh := cp_at (X := anX C (cut n) 0 9) (Y := anY C (cut n) 0 9) (n := anN C (cut n) 0 9) (by omega) (by omega); first | omega | (simp; omega) | (simp only [Bool.beq_eq_decide_eq, decide_eq_decide, decide_eq_true_eq, hh]; done)) | fail
                · refine ⟨rfl, rfl, rfl, rfl, rfl, ?_, rfl, rfl, rfl, Iff.rfl⟩
                  -- 16: (0 : Int) = y9
                  first | rfl | omega | (exact absurd (congrArg (fun s => s.1) (cp_eq (X := anX C (cut n) 0 9) (Y := anY C (cut n) 0 9) (n := anN C (cut n) 0 9) (by omega))) (by assumption)) | (exact absurd (congrArg (fun s => s.2.1) (cp_eq (X := anX C (cut n) 0 9) (Y := anY C (cut n) 0 9) (n := anN C (cut n) 0 9) (by omega))) (by assumption)) | (exact absurd (congrArg (fun s => s.2.2) (cp_eq (X := anX C (cut n) 0 9) (Y := anY C (cut n) 0 9) (n := anN C (cut n) 0 9) (by omega))) (by assumption)) | (rw [cp_eq (by omega)]; done) | (rw [cp_eq (by omega)]; simp; done) | (have hh := cp_sqd (X := anX C (cut n) 0 9) (Y := anY C (cut n) 0 9) (n := anN C (cut n) 0 9) (i := j) (k := k) (by omega) (by omega) (by omega) (by omega); omega) | (have hh := cp_at (X := anX C (cut n) 0 9) (Y := anY C (cut n) 0 9) (n := anN C (cut n) 0 9) (by omega) (by omega); first | omega | (simp; omega) | (simp only [Bool.beq_eq_decide_eq, decide_eq_decide, decide_eq_true_eq, hh]; done)) | fail
              · intro k
                intro I2
                refine ⟨?_, ?_⟩
                · intro c49
                  refine ⟨?_, ?_, ?_, ?_, ⟨⟨rfl, rfl⟩, ⟨rfl, rfl⟩⟩, ?_, ?_⟩
                    -- 17: ((0 ≤ x4) ∧ (x4 < (anN C (cut n) 0 9)))
                  · first | rfl | omega | (exact absurd (congrArg (fun s => s.1) (cp_eq (X := anX C (cut n) 0 9) (Y := anY C (cut n) 0 9) (n := anN C (cut n) 0 9) (by omega))) (by assumption)) | (exact absurd (congrArg (fun s => s.2.1) (cp_eq (X := anX C (cut n) 0 9) (Y := anY C (cut n) 0 9) (n := anN C (cut n) 0 9) (by omega))) (by assumption)) | (exact absurd (congrArg (fun s => s.2.2) (cp_eq (X := anX C (cut n) 0 9) (Y := anY C (cut n) 0 9) (n := anN C (cut n) 0 9) (by omega))) (by assumption)) | (rw [cp_eq (by omega)]; done) | (rw [cp_eq (by omega)]; simp; done) | (have hh := cp_sqd (X := anX C (cut n) 0 9) (Y := anY C (cut n) 0 9) (n := anN C (cut n) 0 9) (i := j) (k := k) (by omega) (by omega) (by omega) (by omega); omega) | (have hh := cp_at (X := anX C (cut n) 0 9) (Y := anY C (cut n) 0 9) (n := anN C (cut n) 0 9) (by omega) (by omega); first | omega | (simp; omega) | (simp only [Bool.beq_eq_decide_eq, decide_eq_decide, decide_eq_true_eq, hh]; done)) | fail
                    -- 18: x4 < (anN C (cut n) 0 9)
                  · first | rfl | omega | (exact absurd (congrArg (fun s => s.1) (cp_eq (X := anX C (cut n) 0 9) (Y := anY C (cut n) 0 9) (n := anN C (cut n) 0 9) (by omega))) (by assumption)) | (exact absurd (congrArg (fun s => s.2.1) (cp_eq (X := anX C (cut n) 0 9) (Y := anY C (cut n) 0 9) (n := anN C (cut n) 0 9) (by omega))) (by assumption)) | (exact absurd (congrArg (fun s => s.2.2) (cp_eq (X := anX C (cut n) 0 9) (Y := anY C (cut n) 0 9) (n := anN C (cut n) 0 9) (by omega))) (by assumption)) | (rw [cp_eq (by omega)]; done) | (rw [cp_eq (by omega)]; simp; done) | (have hh := cp_sqd (X := anX C (cut n) 0 9) (Y := anY C (cut n) 0 9) (n := anN C (cut n) 0 9) (i := j) (k := k) (by omega) (by omega) (by omega) (by omega); omega) | (have hh := cp_at (X := anX C (cut n) 0 9) (Y := anY C (cut n) 0 9) (n := anN C (cut n) 0 9) (by omega) (by omega); first | omega | (simp; omega) | (simp only [Bool.beq_eq_decide_eq, decide_eq_decide, decide_eq_true_eq, hh]; done)) | fail
                    -- 19: ((0 ≤ x8) ∧ (x8 < (anN C (cut n) 0 9)))
                  · first | rfl | omega | (exact absurd (congrArg (fun s => s.1) (cp_eq (X := anX C (cut n) 0 9) (Y := anY C (cut n) 0 9) (n := anN C (cut n) 0 9) (by omega))) (by assumption)) | (exact absurd (congrArg (fun s => s.2.1) (cp_eq (X := anX C (cut n) 0 9) (Y := anY C (cut n) 0 9) (n := anN C (cut n) 0 9) (by omega))) (by assumption)) | (exact absurd (congrArg (fun s => s.2.2) (cp_eq (X := anX C (cut n) 0 9) (Y := anY C (cut n) 0 9) (n := anN C (cut n) 0 9) (by omega))) (by assumption)) | (rw [cp_eq (by omega)]; done) | (rw [cp_eq (by omega)]; simp; done) | (have hh := cp_sqd (X := anX C (cut n) 0 9) (Y := anY C (cut n) 0 9) (n := anN C (cut n) 0 9) (i := j) (k := k) (by omega) (by omega) (by omega) (by omega); omega) | (have hh := cp_at (X := anX C (cut n) 0 9) (Y := anY C (cut n) 0 9) (n := anN C (cut n) 0 9) (by omega) (by omega); first | omega | (simp; omega) | (simp only [Bool.beq_eq_decide_eq, decide_eq_decide, decide_eq_true_eq, hh]; done)) | fail
                    -- 20: x8 < (anN C (cut n) 0 9)
                  · first | rfl | omega | (exact absurd (congrArg (fun s => s.1) (cp_eq (X := anX C (cut n) 0 9) (Y := anY C (cut n) 0 9) (n := anN C (cut n) 0 9) (by omega))) (by assumption)) | (exact absurd (congrArg (fun s => s.2.1) (cp_eq (X := anX C (cut n) 0 9) (Y := anY C (cut n) 0 9) (n := anN C (cut n) 0 9) (by omega))) (by assumption)) | (exact absurd (congrArg (fun s => s.2.2) (cp_eq (X := anX C (cut n) 0 9) (Y := anY C (cut n) 0 9) (n := anN C (cut n) 0 9) (by omega))) (by assumption)) | (rw [cp_eq (by omega)]; done) | (rw [cp_eq (by omega)]; simp; done) | (have hh := cp_sqd (X := anX C (cut n) 0 9) (Y := anY C (cut n) 0 9) (n := anN C (cut n) 0 9) (i := j) (k := k) (by omega) (by omega) (by omega) (by omega); omega) | (have hh := cp_at (X := anX C (cut n) 0 9) (Y := anY C (cut n) 0 9) (n := anN C (cut n) 0 9) (by omega) (by omega); first | omega | (simp; omega) | (simp only [Bool.beq_eq_decide_eq, decide_eq_decide, decide_eq_true_eq, hh]; done)) | fail
                  · intro c50
                    -- 21: False
                    first | rfl | omega | (exact absurd (congrArg (fun s => s.1) (cp_eq (X := anX C (cut n) 0 9) (Y := anY C (cut n) 0 9) (n := anN C (cut n) 0 9) (by omega))) (by assumption)) | (exact absurd (congrArg (fun s => s.2.1) (cp_eq (X := anX C (cut n) 0 9) (Y := anY C (cut n) 0 9) (n := anN C (cut n) 0 9) (by omega))) (by assumption)) | (exact absurd (congrArg (fun s => s.2.2) (cp_eq (X := anX C (cut n) 0 9) (Y := anY C (cut n) 0 9) (n := anN C (cut n) 0 9) (by omega))) (by assumption)) | (rw [cp_eq (by omega)]; done) | (rw [cp_eq (by omega)]; simp; done) | (have hh := cp_sqd (X := anX C (cut n) 0 9) (Y := anY C (cut n) 0 9) (n := anN C (cut n) 0 9) (i := j) (k := k) (by omega) (by omega) (by omega) (by omega); omega) | (have hh := cp_at (X := anX C (cut n) 0 9) (Y := anY C (cut n) 0 9) (n := anN C (cut n) 0 9) (by omega) (by omega); first | omega | (simp; omega) | (simp only [Bool.beq_eq_decide_eq, decide_eq_decide, decide_eq_true_eq, hh]; done)) | fail
                  · intro c51
                    refine ⟨k + 1, ?_⟩
                    try dsimp only
                    refine ⟨?_, ?_, ?_⟩
                      -- 22: (0 ≤ y12 ∧ y12 ≤ x4) ∧ x4 < anN C (cut n) 0 9
                    · first | rfl | omega | (exact absurd (congrArg (fun s => s.1) (cp_eq (X := anX C (cut n) 0 9) (Y := anY C (cut n) 0 9) (n := anN C (cut n) 0 9) (by omega))) (by assumption)) | (exact absurd (congrArg (fun s => s.2.1) (cp_eq (X := anX C (cut n) 0 9) (Y := anY C (cut n) 0 9) (n := anN C (cut n) 0 9) (by omega))) (by assumption)) | (exact absurd (congrArg (fun s => s.2.2) (cp_eq (X := anX C (cut n) 0 9) (Y := anY C (cut n) 0 9) (n := anN C (cut n) 0 9) (by omega))) (by assumption)) | (rw [cp_eq (by omega)]; done) | (rw [cp_eq (by omega)]; simp; done) | (have hh := cp_sqd (X := anX C (cut n) 0 9) (Y := anY C (cut n) 0 9) (n := anN C (cut n) 0 9) (i := j) (k := k) (by omega) (by omega) (by omega) (by omega); omega) | (have hh := cp_at (X := anX C (cut n) 0 9) (Y := anY C (cut n) 0 9) (n := anN C (cut n) 0 9) (by omega) (by omega); first | omega | (simp; omega) | (simp only [Bool.beq_eq_decide_eq, decide_eq_decide, decide_eq_true_eq, hh]; done)) | fail
                    · refine ⟨?_, ⟨Int.le_refl _, fun _ => fun _ => rfl⟩, Int.le_refl _, fun _ => fun _ => ⟨rfl, rfl⟩⟩
                      refine ⟨rfl, rfl, rfl, rfl, rfl, ?_, rfl, rfl, rfl, Iff.rfl⟩
                      refine ⟨?_, ?_⟩
                        -- 23: (x8 + 1) = y12
                      · first | rfl | omega | (exact absurd (congrArg (fun s => s.1) (cp_eq (X := anX C (cut n) 0 9) (Y := anY C (cut n) 0 9) (n := anN C (cut n) 0 9) (by omega))) (by assumption)) | (exact absurd (congrArg (fun s => s.2.1) (cp_eq (X := anX C (cut n) 0 9) (Y := anY C (cut n) 0 9) (n := anN C (cut n) 0 9) (by omega))) (by assumption)) | (exact absurd (congrArg (fun s => s.2.2) (cp_eq (X := anX C (cut n) 0 9) (Y := anY C (cut n) 0 9) (n := anN C (cut n) 0 9) (by omega))) (by assumption)) | (rw [cp_eq (by omega)]; done) | (rw [cp_eq (by omega)]; simp; done) | (have hh := cp_sqd (X := anX C (cut n) 0 9) (Y := anY C (cut n) 0 9) (n := anN C (cut n) 0 9) (i := j) (k := k) (by omega) (by omega) (by omega) (by omega); omega) | (have hh := cp_at (X := anX C (cut n) 0 9) (Y := anY C (cut n) 0 9) (n := anN C (cut n) 0 9) (by omega) (by omega); first | omega | (simp; omega) | (simp only [Bool.beq_eq_decide_eq, decide_eq_decide, decide_eq_true_eq, hh]; done)) | fail
                      · intro c52
                        -- 24: 0 ≤ y12 ∧ y12 ≤ 1048576
                        first | rfl | omega | (exact absurd (congrArg (fun s => s.1) (cp_eq (X := anX C (cut n) 0 9) (Y := anY C (cut n) 0 9) (n := anN C (cut n) 0 9) (by omega))) (by assumption)) | (exact absurd (congrArg (fun s => s.2.1) (cp_eq (X := anX C (cut n) 0 9) (Y := anY C (cut n) 0 9) (n := anN C (cut n) 0 9) (by omega))) (by assumption)) | (exact absurd (congrArg (fun s => s.2.2) (cp_eq (X := anX C (cut n) 0 9) (Y := anY C (cut n) 0 9) (n := anN C (cut n) 0 9) (by omega))) (by assumption)) | (rw [cp_eq (by omega)]; done) | (rw [cp_eq (by omega)]; simp; done) | (have hh := cp_sqd (X := anX C (cut n) 0 9) (Y := anY C (cut n) 0 9) (n := anN C (cut n) 0 9) (i := j) (k := k) (by omega) (by omega) (by omega) (by omega); omega) | (have hh := cp_at (X := anX C (cut n) 0 9) (Y := anY C (cut n) 0 9) (n := anN C (cut n) 0 9) (by omega) (by omega); first | omega | (simp; omega) | (simp only [Bool.beq_eq_decide_eq, decide_eq_decide, decide_eq_true_eq, hh]; done)) | fail
                      -- 25: (x4 - y12).toNat < (x4 - x8).toNat
                    · first | rfl | omega | (exact absurd (congrArg (fun s => s.1) (cp_eq (X := anX C (cut n) 0 9) (Y := anY C (cut n) 0 9) (n := anN C (cut n) 0 9) (by omega))) (by assumption)) | (exact absurd (congrArg (fun s => s.2.1) (cp_eq (X := anX C (cut n) 0 9) (Y := anY C (cut n) 0 9) (n := anN C (cut n) 0 9) (by omega))) (by assumption)) | (exact absurd (congrArg (fun s => s.2.2) (cp_eq (X := anX C (cut n) 0 9) (Y := anY C (cut n) 0 9) (n := anN C (cut n) 0 9) (by omega))) (by assumption)) | (rw [cp_eq (by omega)]; done) | (rw [cp_eq (by omega)]; simp; done) | (have hh := cp_sqd (X := anX C (cut n) 0 9) (Y := anY C (cut n) 0 9) (n := anN C (cut n) 0 9) (i := j) (k := k) (by omega) (by omega) (by omega) (by omega); omega) | (have hh := cp_at (X := anX C (cut n) 0 9) (Y := anY C (cut n) 0 9) (n := anN C (cut n) 0 9) (by omega) (by omega); first | omega | (simp; omega) | (simp only [Bool.beq_eq_decide_eq, decide_eq_decide, decide_eq_true_eq, hh]; done)) | fail
                · intro c53
                  refine ⟨j + 1, ?_⟩
                  try dsimp only
                  refine ⟨?_, ?_, ?_⟩
                    -- 26: 0 ≤ y15 ∧ y15 ≤ anN C (cut n) 0 9
                  · first | rfl | omega | (exact absurd (congrArg (fun s => s.1) (cp_eq (X := anX C (cut n) 0 9) (Y := anY C (cut n) 0 9) (n := anN C (cut n) 0 9) (by omega))) (by assumption)) | (exact absurd (congrArg (fun s => s.2.1) (cp_eq (X := anX C (cut n) 0 9) (Y := anY C (cut n) 0 9) (n := anN C (cut n) 0 9) (by omega))) (by assumption)) | (exact absurd (congrArg (fun s => s.2.2) (cp_eq (X := anX C (cut n) 0 9) (Y := anY C (cut n) 0 9) (n := anN C (cut n) 0 9) (by omega))) (by assumption)) | (rw [cp_eq (by omega)]; done) | (rw [cp_eq (by omega)]; simp; done) | (have hh := cp_sqd (X := anX C (cut n) 0 9) (Y := anY C (cut n) 0 9) (n := anN C (cut n) 0 9) (i := j) (k := k) (by omega) (by omega) (by omega) (by omega); omega) | (have hh := cp_at (X := anX C (cut n) 0 9) (Y := anY C (cut n) 0 9) (n := anN C (cut n) 0 9) (by omega) (by omega); first | omega | (simp; omega) | (simp only [Bool.beq_eq_decide_eq, decide_eq_decide, decide_eq_true_eq, hh]; done)) | fail
                  · refine ⟨?_, ⟨Int.le_refl _, fun _ => fun _ => rfl⟩, Int.le_refl _, fun _ => fun _ => ⟨rfl, rfl⟩⟩
                    refine ⟨rfl, rfl, rfl, rfl, ?_, ?_⟩
                      -- 27: (x4 + 1) = y15
                    · first | rfl | omega | (exact absurd (congrArg (fun s => s.1) (cp_eq (X := anX C (cut n) 0 9) (Y := anY C (cut n) 0 9) (n := anN C (cut n) 0 9) (by omega))) (by assumption)) | (exact absurd (congrArg (fun s => s.2.1) (cp_eq (X := anX C (cut n) 0 9) (Y := anY C (cut n) 0 9) (n := anN C (cut n) 0 9) (by omega))) (by assumption)) | (exact absurd (congrArg (fun s => s.2.2) (cp_eq (X := anX C (cut n) 0 9) (Y := anY C (cut n) 0 9) (n := anN C (cut n) 0 9) (by omega))) (by assumption)) | (rw [cp_eq (by omega)]; done) | (rw [cp_eq (by omega)]; simp; done) | (have hh := cp_sqd (X := anX C (cut n) 0 9) (Y := anY C (cut n) 0 9) (n := anN C (cut n) 0 9) (i := j) (k := k) (by omega) (by omega) (by omega) (by omega); omega) | (have hh := cp_at (X := anX C (cut n) 0 9) (Y := anY C (cut n) 0 9) (n := anN C (cut n) 0 9) (by omega) (by omega); first | omega | (simp; omega) | (simp only [Bool.beq_eq_decide_eq, decide_eq_decide, decide_eq_true_eq, hh]; done)) | fail
                    · intro c54
                      -- 28: 0 ≤ y15 ∧ y15 ≤ 1048576
                      first | rfl | omega | (exact absurd (congrArg (fun s => s.1) (cp_eq (X := anX C (cut n) 0 9) (Y := anY C (cut n) 0 9) (n := anN C (cut n) 0 9) (by omega))) (by assumption)) | (exact absurd (congrArg (fun s => s.2.1) (cp_eq (X := anX C (cut n) 0 9) (Y := anY C (cut n) 0 9) (n := anN C (cut n) 0 9) (by omega))) (by assumption)) | (exact absurd (congrArg (fun s => s.2.2) (cp_eq (X := anX C (cut n) 0 9) (Y := anY C (cut n) 0 9) (n := anN C (cut n) 0 9) (by omega))) (by assumption)) | (rw [cp_eq (by omega)]; done) | (rw [cp_eq (by omega)]; simp; done) | (have hh := cp_sqd (X := anX C (cut n) 0 9) (Y := anY C (cut n) 0 9) (n := anN C (cut n) 0 9) (i := j) (k := k) (by omega) (by omega) (by omega) (by omega); omega) | (have hh := cp_at (X := anX C (cut n) 0 9) (Y := anY C (cut n) 0 9) (n := anN C (cut n) 0 9) (by omega) (by omega); first | omega | (simp; omega) | (simp only [Bool.beq_eq_decide_eq, decide_eq_decide, decide_eq_true_eq, hh]; done)) | fail
                    -- 29: (anN C (cut n) 0 9 - y15).toNat < (anN C (cut n) 0 9 - x4).toNat
                  · first | rfl | omega | (exact absurd (congrArg (fun s => s.1) (cp_eq (X := anX C (cut n) 0 9) (Y := anY C (cut n) 0 9) (n := anN C (cut n) 0 9) (by omega))) (by assumption)) | (exact absurd (congrArg (fun s => s.2.1) (cp_eq (X := anX C (cut n) 0 9) (Y := anY C (cut n) 0 9) (n := anN C (cut n) 0 9) (by omega))) (by assumption)) | (exact absurd (congrArg (fun s => s.2.2) (cp_eq (X := anX C (cut n) 0 9) (Y := anY C (cut n) 0 9) (n := anN C (cut n) 0 9) (by omega))) (by assumption)) | (rw [cp_eq (by omega)]; done) | (rw [cp_eq (by omega)]; simp; done) | (have hh := cp_sqd (X := anX C (cut n) 0 9) (Y := anY C (cut n) 0 9) (n := anN C (cut n) 0 9) (i := j) (k := k) (by omega) (by omega) (by omega) (by omega); omega) | (have hh := cp_at (X := anX C (cut n) 0 9) (Y := anY C (cut n) 0 9) (n := anN C (cut n) 0 9) (by omega) (by omega); first | omega | (simp; omega) | (simp only [Bool.beq_eq_decide_eq, decide_eq_decide, decide_eq_true_eq, hh]; done)) | fail
            · intro c55
              refine ⟨?_, ?_⟩
              · intro c56
                refine ⟨?_, ?_, ?_, ?_, ⟨⟨rfl, rfl⟩, ⟨rfl, rfl⟩⟩, ?_, ?_⟩
                  -- 30: ((0 ≤ ((cp (anX C (cut n) 0 9) (anY C (cut n) 0 9) (anN C (cut n) 0 9)).1)) ∧ (((cp (anX C (cut n) 0
                · first | rfl | omega | (exact absurd (congrArg (fun s => s.1) (cp_eq (X := anX C (cut n) 0 9) (Y := anY C (cut n) 0 9) (n := anN C (cut n) 0 9) (by omega))) (by assumption)) | (exact absurd (congrArg (fun s => s.2.1) (cp_eq (X := anX C (cut n) 0 9) (Y := anY C (cut n) 0 9) (n := anN C (cut n) 0 9) (by omega))) (by assumption)) | (exact absurd (congrArg (fun s => s.2.2) (cp_eq (X := anX C (cut n) 0 9) (Y := anY C (cut n) 0 9) (n := anN C (cut n) 0 9) (by omega))) (by assumption)) | (rw [cp_eq (by omega)]; done) | (rw [cp_eq (by omega)]; simp; done) | (have hh := cp_sqd (X := anX C (cut n) 0 9) (Y := anY C (cut n) 0 9) (n := anN C (cut n) 0 9) (i := j) (k := k) (by omega) (by omega) (by omega) (by omega); omega) | (have hh := cp_at (X := anX C (cut n) 0 9) (Y := anY C (cut n) 0 9) (n := anN C (cut n) 0 9) (by omega) (by omega); first | omega | (simp; omega) | (simp only [Bool.beq_eq_decide_eq, decide_eq_decide, decide_eq_true_eq, hh]; done)) | fail
                  -- 31: ((cp (anX C (cut n) 0 9) (anY C (cut n) 0 9) (anN C (cut n) 0 9)).1) < (anN C (cut n) 0 9)
                · first | rfl | omega | (exact absurd (congrArg (fun s => s.1) (cp_eq (X := anX C (cut n) 0 9) (Y := anY C (cut n) 0 9) (n := anN C (cut n) 0 9) (by omega))) (by assumption)) | (exact absurd (congrArg (fun s => s.2.1) (cp_eq (X := anX C (cut n) 0 9) (Y := anY C (cut n) 0 9) (n := anN C (cut n) 0 9) (by omega))) (by assumption)) | (exact absurd (congrArg (fun s => s.2.2) (cp_eq (X := anX C (cut n) 0 9) (Y := anY C (cut n) 0 9) (n := anN C (cut n) 0 9) (by omega))) (by assumption)) | (rw [cp_eq (by omega)]; done) | (rw [cp_eq (by omega)]; simp; done) | (have hh := cp_sqd (X := anX C (cut n) 0 9) (Y := anY C (cut n) 0 9) (n := anN C (cut n) 0 9) (i := j) (k := k) (by omega) (by omega) (by omega) (by omega); omega) | (have hh := cp_at (X := anX C (cut n) 0 9) (Y := anY C (cut n) 0 9) (n := anN C (cut n) 0 9) (by omega) (by omega); first | omega | (simp; omega) | (simp only [Bool.beq_eq_decide_eq, decide_eq_decide, decide_eq_true_eq, hh]; done)) | fail
                  -- 32: ((0 ≤ ((cp (anX C (cut n) 0 9) (anY C (cut n) 0 9) (anN C (cut n) 0 9)).2.1)) ∧ (((cp (anX C (cut n)
                · first | rfl | omega | (exact absurd (congrArg (fun s => s.1) (cp_eq (X := anX C (cut n) 0 9) (Y := anY C (cut n) 0 9) (n := anN C (cut n) 0 9) (by omega))) (by assumption)) | (exact absurd (congrArg (fun s => s.2.1) (cp_eq (X := anX C (cut n) 0 9) (Y := anY C (cut n) 0 9) (n := anN C (cut n) 0 9) (by omega))) (by assumption)) | (exact absurd (congrArg (fun s => s.2.2) (cp_eq (X := anX C (cut n) 0 9) (Y := anY C (cut n) 0 9) (n := anN C (cut n) 0 9) (by omega))) (by assumption)) | (rw [cp_eq (by omega)]; done) | (rw [cp_eq (by omega)]; simp; done) | (have hh := cp_sqd (X := anX C (cut n) 0 9) (Y := anY C (cut n) 0 9) (n := anN C (cut n) 0 9) (i := j) (k := k) (by omega) (by omega) (by omega) (by omega); omega) | (have hh := cp_at (X := anX C (cut n) 0 9) (Y := anY C (cut n) 0 9) (n := anN C (cut n) 0 9) (by omega) (by omega); first | omega | (simp; omega) | (simp only [Bool.beq_eq_decide_eq, decide_eq_decide, decide_eq_true_eq, hh]; done)) | fail
                  -- 33: ((cp (anX C (cut n) 0 9) (anY C (cut n) 0 9) (anN C (cut n) 0 9)).2.1) < (anN C (cut n) 0 9)
                · first | rfl | omega | (exact absurd (congrArg (fun s => s.1) (cp_eq (X := anX C (cut n) 0 9) (Y := anY C (cut n) 0 9) (n := anN C (cut n) 0 9) (by omega))) (by assumption)) | (exact absurd (congrArg (fun s => s.2.1) (cp_eq (X := anX C (cut n) 0 9) (Y := anY C (cut n) 0 9) (n := anN C (cut n) 0 9) (by omega))) (by assumption)) | (exact absurd (congrArg (fun s => s.2.2) (cp_eq (X := anX C (cut n) 0 9) (Y := anY C (cut n) 0 9) (n := anN C (cut n) 0 9) (by omega))) (by assumption)) | (rw [cp_eq (by omega)]; done) | (rw [cp_eq (by omega)]; simp; done) | (have hh := cp_sqd (X := anX C (cut n) 0 9) (Y := anY C (cut n) 0 9) (n := anN C (cut n) 0 9) (i := j) (k := k) (by omega) (by omega) (by omega) (by omega); omega) | (have hh := cp_at (X := anX C (cut n) 0 9) (Y := anY C (cut n) 0 9) (n := anN C (cut n) 0 9) (by omega) (by omega); first | omega | (simp; omega) | (simp only [Bool.beq_eq_decide_eq, decide_eq_decide, decide_eq_true_eq, hh]; done)) | fail
                · intro c57
                  refine ⟨rfl, ⟨Int.le_refl _, fun _ => fun _ => ⟨rfl, rfl⟩⟩, ?_⟩
                  -- 34: ((((cp (anX C (cut n) 0 9) (anY C (cut n) 0 9) (anN C (cut n) 0 9)).2.2) = 0) ↔ ((spN (anX C (cut n)
                  first | rfl | omega | (exact absurd (congrArg (fun s => s.1) (cp_eq (X := anX C (cut n) 0 9) (Y := anY C (cut n) 0 9) (n := anN C (cut n) 0 9) (by omega))) (by assumption)) | (exact absurd (congrArg (fun s => s.2.1) (cp_eq (X := anX C (cut n) 0 9) (Y := anY C (cut n) 0 9) (n := anN C (cut n) 0 9) (by omega))) (by assumption)) | (exact absurd (congrArg (fun s => s.2.2) (cp_eq (X := anX C (cut n) 0 9) (Y := anY C (cut n) 0 9) (n := anN C (cut n) 0 9) (by omega))) (by assumption)) | (rw [cp_eq (by omega)]; done) | (rw [cp_eq (by omega)]; simp; done) | (have hh := cp_sqd (X := anX C (cut n) 0 9) (Y := anY C (cut n) 0 9) (n := anN C (cut n) 0 9) (i := j) (k := k) (by omega) (by omega) (by omega) (by omega); omega) | (have hh := cp_at (X := anX C (cut n) 0 9) (Y := anY C (cut n) 0 9) (n := anN C (cut n) 0 9) (by omega) (by omega); first | omega | (simp; omega) | (simp only [Bool.beq_eq_decide_eq, decide_eq_decide, decide_eq_true_eq, hh]; done)) | fail
                · intro c58
                  -- 35: False
                  first | rfl | omega | (exact absurd (congrArg (fun s => s.1) (cp_eq (X := anX C (cut n) 0 9) (Y := anY C (cut n) 0 9) (n := anN C (cut n) 0 9) (by omega))) (by assumption)) | (exact absurd (congrArg (fun s => s.2.1) (cp_eq (X := anX C (cut n) 0 9) (Y := anY C (cut n) 0 9) (n := anN C (cut n) 0 9) (by omega))) (by assumption)) | (exact absurd (congrArg (fun s => s.2.2) (cp_eq (X := anX C (cut n) 0 9) (Y := anY C (cut n) 0 9) (n := anN C (cut n) 0 9) (by omega))) (by assumption)) | (rw [cp_eq (by omega)]; done) | (rw [cp_eq (by omega)]; simp; done) | (have hh := cp_sqd (X := anX C (cut n) 0 9) (Y := anY C (cut n) 0 9) (n := anN C (cut n) 0 9) (i := j) (k := k) (by omega) (by omega) (by omega) (by omega); omega) | (have hh := cp_at (X := anX C (cut n) 0 9) (Y := anY C (cut n) 0 9) (n := anN C (cut n) 0 9) (by omega) (by omega); first | omega | (simp; omega) | (simp only [Bool.beq_eq_decide_eq, decide_eq_decide, decide_eq_true_eq, hh]; done)) | fail
              · intro c59
                -- 36: False
                first | rfl | omega | (exact absurd (congrArg (fun s => s.1) (cp_eq (X := anX C (cut n) 0 9) (Y := anY C (cut n) 0 9) (n := anN C (cut n) 0 9) (by omega))) (by assumption)) | (exact absurd (congrArg (fun s => s.2.1) (cp_eq (X := anX C (cut n) 0 9) (Y := anY C (cut n) 0 9) (n := anN C (cut n) 0 9) (by omega))) (by assumption)) | (exact absurd (congrArg (fun s => s.2.2) (cp_eq (X := anX C (cut n) 0 9) (Y := anY C (cut n) 0 9) (n := anN C (cut n) 0 9) (by omega))) (by assumption)) | (rw [cp_eq (by omega)]; done) | (rw [cp_eq (by omega)]; simp; done) | (have hh := cp_sqd (X := anX C (cut n) 0 9) (Y := anY C (cut n) 0 9) (n := anN C (cut n) 0 9) (i := j) (k := k) (by omega) (by omega) (by omega) (by omega); omega) | (have hh := cp_at (X := anX C (cut n) 0 9) (Y := anY C (cut n) 0 9) (n := anN C (cut n) 0 9) (by omega) (by omega); first | omega | (simp; omega) | (simp only [Bool.beq_eq_decide_eq, decide_eq_decide, decide_eq_true_eq, hh]; done)) | fail
def c_l_FnClosestPair (C : Int → Int) (n : Int) : Cn Try.prog := ⟨_, _, _, _, _, l_FnClosestPair C n⟩
end Go.Proofs.Ytpnjopppclmfkaa
