/- FnClosestDiameter: the walk. -/
import Derived.Test.YtndkhbilefljnaaK4
set_option linter.unusedSimpArgs false
set_option linter.unusedVariables false
set_option maxRecDepth 100000
namespace Go.Proofs.Ytndkhbilefljnaa
open Go.Sym
theorem bpi_P {D bt} {P : P3 → Prop} (h : ∀ i k s, P s → P (stp D bt i k s)) (i : Int) {s : P3} (hs : P s) : ∀ m : Nat, P (bpi D bt i m s)
  | 0 => hs
  | m + 1 => h _ _ _ (bpi_P h i hs m)
theorem bpi_first {D bt} {P : P3 → Prop} (h : ∀ i k s, P s → P (stp D bt i k s)) (h1 : P (0, 1, D 0 1)) : ∀ m : Nat, P (bpi D bt 0 (m + 1) (0, 0, -1))
  | 0 => by
    have e : bpi D bt 0 1 (0, 0, -1) = (0, 1, D 0 1) := by
      show stp D bt 0 (0 + 1 + ((0 : Nat) : Int)) (0, 0, -1) = _
      unfold stp
      rw [if_pos (.inl (by decide))]
      rfl
    rw [e]; exact h1
  | m + 1 => h _ _ _ (bpi_first h h1 m)
theorem bpo_P {D bt} {P : P3 → Prop} {n : Int} (hn : 2 ≤ n) (h : ∀ i k s, P s → P (stp D bt i k s)) (h1 : P (0, 1, D 0 1)) : ∀ j : Nat, P (bpo D bt n (j + 1))
  | 0 => by
    show P (bpi D bt ((0 : Nat) : Int) (n - ((0 : Nat) : Int) - 1).toNat (0, 0, -1))
    rw [show (n - ((0 : Nat) : Int) - 1).toNat = (n - 2).toNat + 1 by omega]
    exact bpi_first h h1 _
  | j + 1 => bpi_P h _ (bpo_P hn h h1 j) _
theorem bpo_all {D bt} {P : P3 → Prop} {n : Int} (hn : 2 ≤ n) (h : ∀ i k s, P s → P (stp D bt i k s)) (h1 : P (0, 1, D 0 1)) : P (bpo D bt n n.toNat) := by
  rw [show n.toNat = (n - 1).toNat + 1 by omega]
  exact bpo_P hn h h1 _
theorem dst_nonneg (aX aY bX bY : Int) : 0 ≤ dst aX aY bX bY := by
  unfold dst
  have h1 : 0 ≤ (bX - aX) * (bX - aX) := by rcases Int.le_total 0 (bX - aX) with h | h; exact Int.mul_nonneg h h; exact Int.mul_nonneg_of_nonpos_of_nonpos h h
  have h2 : 0 ≤ (bY - aY) * (bY - aY) := by rcases Int.le_total 0 (bY - aY) with h | h; exact Int.mul_nonneg h h; exact Int.mul_nonneg_of_nonpos_of_nonpos h h
  omega
theorem min_bd {D : Int → Int → Int} (hD : ∀ i k, 0 ≤ D i k) {n : Int} (hn : 2 ≤ n) : 0 ≤ (bpo D lss n n.toNat).2.2 ∧ (bpo D lss n n.toNat).2.2 ≤ D 0 1 := by
  refine bpo_all (P := fun s => 0 ≤ s.2.2 ∧ s.2.2 ≤ D 0 1) hn (fun i k s hs => ?_) ⟨hD 0 1, Int.le_refl _⟩
  unfold stp
  split
  · rename_i hc
    refine ⟨hD i k, ?_⟩
    rcases hc with hc | hc
    · omega
    · have := of_decide_eq_true hc
      show D i k ≤ D 0 1
      omega
  · exact hs
theorem max_bd {D : Int → Int → Int} (hD : ∀ i k, 0 ≤ D i k) {n : Int} (hn : 2 ≤ n) : 0 ≤ (bpo D gtr n n.toNat).2.2 ∧ D 0 1 ≤ (bpo D gtr n n.toNat).2.2 := by
  refine bpo_all (P := fun s => 0 ≤ s.2.2 ∧ D 0 1 ≤ s.2.2) hn (fun i k s hs => ?_) ⟨hD 0 1, Int.le_refl _⟩
  unfold stp
  split
  · rename_i hc
    refine ⟨hD i k, ?_⟩
    rcases hc with hc | hc
    · omega
    · have := of_decide_eq_true hc
      show D 0 1 ≤ D i k
      omega
  · exact hs
/-- The program's best and the reference's. -/
def SameB (D : Int → Int → Int) (s : P3) (t : Int × Int) : Prop := s = (t.1, t.2, D t.1 t.2)
theorem same_stp {D : Int → Int → Int} (hD : ∀ i k, 0 ≤ D i k) (i k : Int) {s : P3} {t : Int × Int} (h : SameB D s t) : SameB D (stp D lss i k s) (sstp D lss i k t) := by
  unfold SameB at h
  subst h
  unfold stp sstp SameB
  have h0 := hD t.1 t.2
  by_cases hc : D i k < D t.1 t.2
  · rw [if_pos (.inr (decide_eq_true hc)), if_pos (decide_eq_true hc)]
  · rw [if_neg (by
      intro h
      rcases h with h | h
      · exact absurd (show D t.1 t.2 < 0 from h) (by omega)
      · exact hc (of_decide_eq_true h)), if_neg (fun h => hc (of_decide_eq_true h))]
theorem same_spi {D : Int → Int → Int} (hD : ∀ i k, 0 ≤ D i k) (i : Int) {s : P3} {t : Int × Int} (h : SameB D s t) : ∀ m : Nat, SameB D (bpi D lss i m s) (spi D lss i m t)
  | 0 => h
  | m + 1 => same_stp hD _ _ (same_spi hD i h m)
theorem same_first {D : Int → Int → Int} (hD : ∀ i k, 0 ≤ D i k) : ∀ m : Nat, SameB D (bpi D lss 0 (m + 1) (0, 0, -1)) (spi D lss 0 (m + 1) (0, 1))
  | 0 => by
    have e : bpi D lss 0 1 (0, 0, -1) = (0, 1, D 0 1) := by
      show stp D lss 0 (0 + 1 + ((0 : Nat) : Int)) (0, 0, -1) = _
      unfold stp
      rw [if_pos (.inl (by decide))]
      rfl
    have e2 : spi D lss 0 1 (0, 1) = (0, 1) := by
      show sstp D lss 0 (0 + 1 + ((0 : Nat) : Int)) (0, 1) = _
      unfold sstp
      rw [if_neg]
      intro h
      exact absurd (of_decide_eq_true h) (Int.lt_irrefl _)
    show SameB D (bpi D lss 0 1 (0, 0, -1)) (spi D lss 0 1 (0, 1))
    rw [e, e2]; rfl
  | m + 1 => same_stp hD _ _ (same_first hD m)
theorem same_spo {D : Int → Int → Int} (hD : ∀ i k, 0 ≤ D i k) {n : Int} (hn : 2 ≤ n) : ∀ j : Nat, SameB D (bpo D lss n (j + 1)) (spo D lss n (0, 1) (j + 1))
  | 0 => by
    show SameB D (bpi D lss ((0 : Nat) : Int) (n - ((0 : Nat) : Int) - 1).toNat (0, 0, -1)) (spi D lss ((0 : Nat) : Int) (n - ((0 : Nat) : Int) - 1).toNat (0, 1))
    rw [show (n - ((0 : Nat) : Int) - 1).toNat = (n - 2).toNat + 1 by omega]
    exact same_first hD _
  | j + 1 => same_spi hD _ (same_spo hD hn j) _
theorem cp_eq {X Y : Int → Int} {n : Int} (h0 : 0 ≤ n) : cp X Y n = scp X Y n := by
  have hD : ∀ i k, 0 ≤ dd X Y i k := fun i k => dst_nonneg _ _ _ _
  unfold cp scp
  by_cases hl : listB X Y n = true
  · rw [if_pos hl]
    by_cases hn : 2 ≤ n
    · rw [if_pos ⟨hl, hn⟩]
      have := same_spo hD hn (n - 1).toNat
      rw [show (n - 1).toNat + 1 = n.toNat by omega] at this
      exact this
    · rw [if_neg (fun h => hn h.2)]
      have : n = 0 ∨ n = 1 := by omega
      rcases this with rfl | rfl
      · rfl
      · rfl
  · rw [if_neg hl, if_neg (fun h => hl h.1)]
theorem cd_law {X Y : Int → Int} {n : Int} (h0 : 0 ≤ n) (h : 0 ≤ (cp X Y n).2.2) : (cp X Y n).2.2 ≤ (dmt X Y n).2.2 ∧ (n = 2 → (cp X Y n).2.2 = (dmt X Y n).2.2) := by
  have hD : ∀ i k, 0 ≤ dd X Y i k := fun i k => dst_nonneg _ _ _ _
  rw [cp_eq h0] at h
  have hc : listB X Y n = true ∧ 2 ≤ n := by
    unfold scp at h
    split at h
    · assumption
    · exact absurd h (by decide)
  have h1 := min_bd hD hc.2
  have h2 := max_bd hD hc.2
  have e1 : cp X Y n = bpo (dd X Y) lss n n.toNat := by unfold cp; rw [if_pos hc.1]
  have e2 : (dmt X Y n).2.2 = (bpo (dd X Y) gtr n n.toNat).2.2 := by
    unfold dmt
    rw [if_pos ⟨hc.1, by omega⟩]
    split
    · show (0 : Int) = _; omega
    · rfl
  rw [e1, e2]
  refine ⟨by omega, fun e => ?_⟩
  subst e
  have e3 : ∀ bt, bpo (dd X Y) bt 2 2 = (0, 1, dd X Y 0 1) := by
    intro bt
    show bpi (dd X Y) bt 1 0 (bpi (dd X Y) bt 0 1 (0, 0, -1)) = _
    show stp (dd X Y) bt 0 (0 + 1 + ((0 : Nat) : Int)) (0, 0, -1) = _
    unfold stp
    rw [if_pos (.inl (by decide))]
    rfl
  show (bpo (dd X Y) lss 2 2).2.2 = (bpo (dd X Y) gtr 2 2).2.2
  rw [e3, e3]
theorem l_FnClosestDiameter (C : Int → Int) (n : Int) : RunsTo Try.prog 6 [(.sl 0 1 (.lit 0) (.v fun _ => n) 9223372036854775807)] [some ⟨5, 1, false, (.sym (.v fun _ => n) fun e => [(.int .u8 (.v fun _ => (C (e.den))) 0 255)])⟩] (.bool (.lit true)) [none] := by
  refine RunsTo.go env Try.func6 rfl Try.call6 rfl rfl (fun _ _ => (.ite .ret (.callF (c_s_DrawClosestPair C n) (.callF (c_i_ClosestPair (anX C (cut n) 0 9) (anY C (cut n) 0 9) (anN C (cut n) 0 9)) (.callF (c_s_ClosestPair (anX C (cut n) 0 9) (anY C (cut n) 0 9) (anN C (cut n) 0 9)) (.ite (.ite (.ite .ret .ret) .ret) (.ite (.ite (.ite .ret .ret) .ret) (.ite (.ite (.ite .ret .ret) .ret) (.ite (.ite (.ite .ret .ret) .ret) (.callF (c_i_Diameter (anX C (cut n) 0 9) (anY C (cut n) 0 9) (anN C (cut n) 0 9)) (.ite (.ite .ret .ret) .ret))))))))))) (G := (0 ≤ n ∧ n ≤ 9223372036854775807) → (∀ e5 : E, ((0 ≤ e5.den ∧ e5.den < n) → (0 ≤ ((C (e5.den))) ∧ ((C (e5.den))) ≤ 255))) → ((n ≤ 1048576) → ((n = n) ∧ (((n ≤ n) ∧ (∀ e1 : E, ((0 ≤ e1.den ∧ e1.den < n) → (((C (e1.den))) = ((C (e1.den))))))) ∧ ((0 ≤ (anN C (cut n) 0 9) ∧ (anN C (cut n) 0 9) ≤ 64) → (((anN C (cut n) 0 9) = (anN C (cut n) 0 9)) ∧ ((((anN C (cut n) 0 9) ≤ (anN C (cut n) 0 9)) ∧ (∀ e2 : E, ((0 ≤ e2.den ∧ e2.den < (anN C (cut n) 0 9)) → (((anX C (cut n) 0 9 (e2.den)) = (anX C (cut n) 0 9 ((e2.den)))) ∧ ((anY C (cut n) 0 9 (e2.den)) = (anY C (cut n) 0 9 ((e2.den)))))))) ∧ (((0 ≤ ((cp (anX C (cut n) 0 9) (anY C (cut n) 0 9) (anN C (cut n) 0 9)).1) ∧ ((cp (anX C (cut n) 0 9) (anY C (cut n) 0 9) (anN C (cut n) 0 9)).1) ≤ 2097152) ∧ ((0 ≤ ((cp (anX C (cut n) 0 9) (anY C (cut n) 0 9) (anN C (cut n) 0 9)).2.1) ∧ ((cp (anX C (cut n) 0 9) (anY C (cut n) 0 9) (anN C (cut n) 0 9)).2.1) ≤ 2097152) ∧ ((-128000000) ≤ ((cp (anX C (cut n) 0 9) (anY C (cut n) 0 9) (anN C (cut n) 0 9)).2.2) ∧ ((cp (anX C (cut n) 0 9) (anY C (cut n) 0 9) (anN C (cut n) 0 9)).2.2) ≤ 128000000))) → (((anN C (cut n) 0 9) = (anN C (cut n) 0 9)) ∧ ((((anN C (cut n) 0 9) ≤ (anN C (cut n) 0 9)) ∧ (∀ e3 : E, ((0 ≤ e3.den ∧ e3.den < (anN C (cut n) 0 9)) → (((anX C (cut n) 0 9 ((e3.den))) = (((anX C (cut n) 0 9 (((e3.den))))))) ∧ ((anY C (cut n) 0 9 ((e3.den))) = (((anY C (cut n) 0 9 (((e3.den))))))))))) ∧ (((0 ≤ ((scp (anX C (cut n) 0 9) (anY C (cut n) 0 9) (anN C (cut n) 0 9)).1) ∧ ((scp (anX C (cut n) 0 9) (anY C (cut n) 0 9) (anN C (cut n) 0 9)).1) ≤ 2097152) ∧ ((0 ≤ ((scp (anX C (cut n) 0 9) (anY C (cut n) 0 9) (anN C (cut n) 0 9)).2.1) ∧ ((scp (anX C (cut n) 0 9) (anY C (cut n) 0 9) (anN C (cut n) 0 9)).2.1) ≤ 2097152) ∧ ((-128000000) ≤ ((scp (anX C (cut n) 0 9) (anY C (cut n) 0 9) (anN C (cut n) 0 9)).2.2) ∧ ((scp (anX C (cut n) 0 9) (anY C (cut n) 0 9) (anN C (cut n) 0 9)).2.2) ≤ 128000000))) → (((((cp (anX C (cut n) 0 9) (anY C (cut n) 0 9) (anN C (cut n) 0 9)).1) ≠ ((scp (anX C (cut n) 0 9) (anY C (cut n) 0 9) (anN C (cut n) 0 9)).1)) → (((((cp (anX C (cut n) 0 9) (anY C (cut n) 0 9) (anN C (cut n) 0 9)).1) = ((scp (anX C (cut n) 0 9) (anY C (cut n) 0 9) (anN C (cut n) 0 9)).1)) → (((((cp (anX C (cut n) 0 9) (anY C (cut n) 0 9) (anN C (cut n) 0 9)).2.1) = ((scp (anX C (cut n) 0 9) (anY C (cut n) 0 9) (anN C (cut n) 0 9)).2.1)) → (((cp (anX C (cut n) 0 9) (anY C (cut n) 0 9) (anN C (cut n) 0 9)).2.2) = ((scp (anX C (cut n) 0 9) (anY C (cut n) 0 9) (anN C (cut n) 0 9)).2.2))) ∧ ((((cp (anX C (cut n) 0 9) (anY C (cut n) 0 9) (anN C (cut n) 0 9)).2.1) ≠ ((scp (anX C (cut n) 0 9) (anY C (cut n) 0 9) (anN C (cut n) 0 9)).2.1)) → (False)))) ∧ ((((cp (anX C (cut n) 0 9) (anY C (cut n) 0 9) (anN C (cut n) 0 9)).1) ≠ ((scp (anX C (cut n) 0 9) (anY C (cut n) 0 9) (anN C (cut n) 0 9)).1)) → (False)))) ∧ ((((cp (anX C (cut n) 0 9) (anY C (cut n) 0 9) (anN C (cut n) 0 9)).1) = ((scp (anX C (cut n) 0 9) (anY C (cut n) 0 9) (anN C (cut n) 0 9)).1)) → (((((cp (anX C (cut n) 0 9) (anY C (cut n) 0 9) (anN C (cut n) 0 9)).2.1) ≠ ((scp (anX C (cut n) 0 9) (anY C (cut n) 0 9) (anN C (cut n) 0 9)).2.1)) → (((((cp (anX C (cut n) 0 9) (anY C (cut n) 0 9) (anN C (cut n) 0 9)).1) = ((scp (anX C (cut n) 0 9) (anY C (cut n) 0 9) (anN C (cut n) 0 9)).1)) → (((((cp (anX C (cut n) 0 9) (anY C (cut n) 0 9) (anN C (cut n) 0 9)).2.1) = ((scp (anX C (cut n) 0 9) (anY C (cut n) 0 9) (anN C (cut n) 0 9)).2.1)) → (((cp (anX C (cut n) 0 9) (anY C (cut n) 0 9) (anN C (cut n) 0 9)).2.2) = ((scp (anX C (cut n) 0 9) (anY C (cut n) 0 9) (anN C (cut n) 0 9)).2.2))) ∧ ((((cp (anX C (cut n) 0 9) (anY C (cut n) 0 9) (anN C (cut n) 0 9)).2.1) ≠ ((scp (anX C (cut n) 0 9) (anY C (cut n) 0 9) (anN C (cut n) 0 9)).2.1)) → (False)))) ∧ ((((cp (anX C (cut n) 0 9) (anY C (cut n) 0 9) (anN C (cut n) 0 9)).1) ≠ ((scp (anX C (cut n) 0 9) (anY C (cut n) 0 9) (anN C (cut n) 0 9)).1)) → (False)))) ∧ ((((cp (anX C (cut n) 0 9) (anY C (cut n) 0 9) (anN C (cut n) 0 9)).2.1) = ((scp (anX C (cut n) 0 9) (anY C (cut n) 0 9) (anN C (cut n) 0 9)).2.1)) → (((((cp (anX C (cut n) 0 9) (anY C (cut n) 0 9) (anN C (cut n) 0 9)).2.2) ≠ ((scp (anX C (cut n) 0 9) (anY C (cut n) 0 9) (anN C (cut n) 0 9)).2.2)) → (((((cp (anX C (cut n) 0 9) (anY C (cut n) 0 9) (anN C (cut n) 0 9)).1) = ((scp (anX C (cut n) 0 9) (anY C (cut n) 0 9) (anN C (cut n) 0 9)).1)) → (((((cp (anX C (cut n) 0 9) (anY C (cut n) 0 9) (anN C (cut n) 0 9)).2.1) = ((scp (anX C (cut n) 0 9) (anY C (cut n) 0 9) (anN C (cut n) 0 9)).2.1)) → (((cp (anX C (cut n) 0 9) (anY C (cut n) 0 9) (anN C (cut n) 0 9)).2.2) = ((scp (anX C (cut n) 0 9) (anY C (cut n) 0 9) (anN C (cut n) 0 9)).2.2))) ∧ ((((cp (anX C (cut n) 0 9) (anY C (cut n) 0 9) (anN C (cut n) 0 9)).2.1) ≠ ((scp (anX C (cut n) 0 9) (anY C (cut n) 0 9) (anN C (cut n) 0 9)).2.1)) → (False)))) ∧ ((((cp (anX C (cut n) 0 9) (anY C (cut n) 0 9) (anN C (cut n) 0 9)).1) ≠ ((scp (anX C (cut n) 0 9) (anY C (cut n) 0 9) (anN C (cut n) 0 9)).1)) → (False)))) ∧ ((((cp (anX C (cut n) 0 9) (anY C (cut n) 0 9) (anN C (cut n) 0 9)).2.2) = ((scp (anX C (cut n) 0 9) (anY C (cut n) 0 9) (anN C (cut n) 0 9)).2.2)) → (((((cp (anX C (cut n) 0 9) (anY C (cut n) 0 9) (anN C (cut n) 0 9)).2.2) < 0) → (((((cp (anX C (cut n) 0 9) (anY C (cut n) 0 9) (anN C (cut n) 0 9)).1) = ((scp (anX C (cut n) 0 9) (anY C (cut n) 0 9) (anN C (cut n) 0 9)).1)) → (((((cp (anX C (cut n) 0 9) (anY C (cut n) 0 9) (anN C (cut n) 0 9)).2.1) = ((scp (anX C (cut n) 0 9) (anY C (cut n) 0 9) (anN C (cut n) 0 9)).2.1)) → (((cp (anX C (cut n) 0 9) (anY C (cut n) 0 9) (anN C (cut n) 0 9)).2.2) = ((scp (anX C (cut n) 0 9) (anY C (cut n) 0 9) (anN C (cut n) 0 9)).2.2))) ∧ ((((cp (anX C (cut n) 0 9) (anY C (cut n) 0 9) (anN C (cut n) 0 9)).2.1) ≠ ((scp (anX C (cut n) 0 9) (anY C (cut n) 0 9) (anN C (cut n) 0 9)).2.1)) → (False)))) ∧ ((((cp (anX C (cut n) 0 9) (anY C (cut n) 0 9) (anN C (cut n) 0 9)).1) ≠ ((scp (anX C (cut n) 0 9) (anY C (cut n) 0 9) (anN C (cut n) 0 9)).1)) → (False)))) ∧ ((0 ≤ ((cp (anX C (cut n) 0 9) (anY C (cut n) 0 9) (anN C (cut n) 0 9)).2.2)) → (((anN C (cut n) 0 9) = (anN C (cut n) 0 9)) ∧ ((((anN C (cut n) 0 9) ≤ (anN C (cut n) 0 9)) ∧ (∀ e4 : E, ((0 ≤ e4.den ∧ e4.den < (anN C (cut n) 0 9)) → (((((anX C (cut n) 0 9 (((e4.den)))))) = ((((anX C (cut n) 0 9 ((((e4.den))))))))) ∧ ((((anY C (cut n) 0 9 (((e4.den)))))) = ((((anY C (cut n) 0 9 ((((e4.den))))))))))))) ∧ (((0 ≤ ((dmt (anX C (cut n) 0 9) (anY C (cut n) 0 9) (anN C (cut n) 0 9)).1) ∧ ((dmt (anX C (cut n) 0 9) (anY C (cut n) 0 9) (anN C (cut n) 0 9)).1) ≤ 2097152) ∧ ((0 ≤ ((dmt (anX C (cut n) 0 9) (anY C (cut n) 0 9) (anN C (cut n) 0 9)).2.1) ∧ ((dmt (anX C (cut n) 0 9) (anY C (cut n) 0 9) (anN C (cut n) 0 9)).2.1) ≤ 2097152) ∧ ((-128000000) ≤ ((dmt (anX C (cut n) 0 9) (anY C (cut n) 0 9) (anN C (cut n) 0 9)).2.2) ∧ ((dmt (anX C (cut n) 0 9) (anY C (cut n) 0 9) (anN C (cut n) 0 9)).2.2) ≤ 128000000))) → (((((cp (anX C (cut n) 0 9) (anY C (cut n) 0 9) (anN C (cut n) 0 9)).2.2) ≤ ((dmt (anX C (cut n) 0 9) (anY C (cut n) 0 9) (anN C (cut n) 0 9)).2.2)) → (((anN C (cut n) 0 9) = 2) → (((cp (anX C (cut n) 0 9) (anY C (cut n) 0 9) (anN C (cut n) 0 9)).2.2) = ((dmt (anX C (cut n) 0 9) (anY C (cut n) 0 9) (anN C (cut n) 0 9)).2.2)))) ∧ ((((dmt (anX C (cut n) 0 9) (anY C (cut n) 0 9) (anN C (cut n) 0 9)).2.2) < ((cp (anX C (cut n) 0 9) (anY C (cut n) 0 9) (anN C (cut n) 0 9)).2.2)) → (False))))))))))))))))))))))))) (by kernel_rfl) ?_
  intro h1 h2
  intro c6
  refine ⟨rfl, ⟨Int.le_refl _, fun _ => fun _ => rfl⟩, ?_⟩
  intro c7
  refine ⟨rfl, ⟨Int.le_refl _, fun _ => fun _ => ⟨rfl, rfl⟩⟩, ?_⟩
  intro c8
  refine ⟨rfl, ⟨Int.le_refl _, fun _ => fun _ => ⟨rfl, rfl⟩⟩, ?_⟩
  intro c9
  refine ⟨?_, ?_⟩
  · intro c10
    refine ⟨?_, ?_⟩
    · intro c11
      refine ⟨?_, ?_⟩
      · intro c12
        -- 1: ((cp (anX C (cut n) 0 9) (anY C (cut n) 0 9) (anN C (cut n) 0 9)).2.2) = ((scp (anX C (cut n) 0 9) (
        first | rfl | omega | (exact absurd (congrArg (fun s => s.1) (cp_eq (X := anX C (cut n) 0 9) (Y := anY C (cut n) 0 9) (n := anN C (cut n) 0 9) (by omega))) (by assumption)) | (exact absurd (congrArg (fun s => s.2.1) (cp_eq (X := anX C (cut n) 0 9) (Y := anY C (cut n) 0 9) (n := anN C (cut n) 0 9) (by omega))) (by assumption)) | (exact absurd (congrArg (fun s => s.2.2) (cp_eq (X := anX C (cut n) 0 9) (Y := anY C (cut n) 0 9) (n := anN C (cut n) 0 9) (by omega))) (by assumption)) | (have hh := cd_law (X := anX C (cut n) 0 9) (Y := anY C (cut n) 0 9) (n := anN C (cut n) 0 9) (by omega) (by omega); omega) | (rw [cp_eq (by omega)])
      · intro c13
        -- 2: False
        first | rfl | omega | (exact absurd (congrArg (fun s => s.1) (cp_eq (X := anX C (cut n) 0 9) (Y := anY C (cut n) 0 9) (n := anN C (cut n) 0 9) (by omega))) (by assumption)) | (exact absurd (congrArg (fun s => s.2.1) (cp_eq (X := anX C (cut n) 0 9) (Y := anY C (cut n) 0 9) (n := anN C (cut n) 0 9) (by omega))) (by assumption)) | (exact absurd (congrArg (fun s => s.2.2) (cp_eq (X := anX C (cut n) 0 9) (Y := anY C (cut n) 0 9) (n := anN C (cut n) 0 9) (by omega))) (by assumption)) | (have hh := cd_law (X := anX C (cut n) 0 9) (Y := anY C (cut n) 0 9) (n := anN C (cut n) 0 9) (by omega) (by omega); omega) | (rw [cp_eq (by omega)])
    · intro c14
      -- 3: False
      first | rfl | omega | (exact absurd (congrArg (fun s => s.1) (cp_eq (X := anX C (cut n) 0 9) (Y := anY C (cut n) 0 9) (n := anN C (cut n) 0 9) (by omega))) (by assumption)) | (exact absurd (congrArg (fun s => s.2.1) (cp_eq (X := anX C (cut n) 0 9) (Y := anY C (cut n) 0 9) (n := anN C (cut n) 0 9) (by omega))) (by assumption)) | (exact absurd (congrArg (fun s => s.2.2) (cp_eq (X := anX C (cut n) 0 9) (Y := anY C (cut n) 0 9) (n := anN C (cut n) 0 9) (by omega))) (by assumption)) | (have hh := cd_law (X := anX C (cut n) 0 9) (Y := anY C (cut n) 0 9) (n := anN C (cut n) 0 9) (by omega) (by omega); omega) | (rw [cp_eq (by omega)])
  · intro c15
    refine ⟨?_, ?_⟩
    · intro c16
      refine ⟨?_, ?_⟩
      · intro c17
        refine ⟨?_, ?_⟩
        · intro c18
          -- 4: ((cp (anX C (cut n) 0 9) (anY C (cut n) 0 9) (anN C (cut n) 0 9)).2.2) = ((scp (anX C (cut n) 0 9) (
          first | rfl | omega | (exact absurd (congrArg (fun s => s.1) (cp_eq (X := anX C (cut n) 0 9) (Y := anY C (cut n) 0 9) (n := anN C (cut n) 0 9) (by omega))) (by assumption)) | (exact absurd (congrArg (fun s => s.2.1) (cp_eq (X := anX C (cut n) 0 9) (Y := anY C (cut n) 0 9) (n := anN C (cut n) 0 9) (by omega))) (by assumption)) | (exact absurd (congrArg (fun s => s.2.2) (cp_eq (X := anX C (cut n) 0 9) (Y := anY C (cut n) 0 9) (n := anN C (cut n) 0 9) (by omega))) (by assumption)) | (have hh := cd_law (X := anX C (cut n) 0 9) (Y := anY C (cut n) 0 9) (n := anN C (cut n) 0 9) (by omega) (by omega); omega) | (rw [cp_eq (by omega)])
        · intro c19
          -- 5: False
          first | rfl | omega | (exact absurd (congrArg (fun s => s.1) (cp_eq (X := anX C (cut n) 0 9) (Y := anY C (cut n) 0 9) (n := anN C (cut n) 0 9) (by omega))) (by assumption)) | (exact absurd (congrArg (fun s => s.2.1) (cp_eq (X := anX C (cut n) 0 9) (Y := anY C (cut n) 0 9) (n := anN C (cut n) 0 9) (by omega))) (by assumption)) | (exact absurd (congrArg (fun s => s.2.2) (cp_eq (X := anX C (cut n) 0 9) (Y := anY C (cut n) 0 9) (n := anN C (cut n) 0 9) (by omega))) (by assumption)) | (have hh := cd_law (X := anX C (cut n) 0 9) (Y := anY C (cut n) 0 9) (n := anN C (cut n) 0 9) (by omega) (by omega); omega) | (rw [cp_eq (by omega)])
      · intro c20
        -- 6: False
        first | rfl | omega | (exact absurd (congrArg (fun s => s.1) (cp_eq (X := anX C (cut n) 0 9) (Y := anY C (cut n) 0 9) (n := anN C (cut n) 0 9) (by omega))) (by assumption)) | (exact absurd (congrArg (fun s => s.2.1) (cp_eq (X := anX C (cut n) 0 9) (Y := anY C (cut n) 0 9) (n := anN C (cut n) 0 9) (by omega))) (by assumption)) | (exact absurd (congrArg (fun s => s.2.2) (cp_eq (X := anX C (cut n) 0 9) (Y := anY C (cut n) 0 9) (n := anN C (cut n) 0 9) (by omega))) (by assumption)) | (have hh := cd_law (X := anX C (cut n) 0 9) (Y := anY C (cut n) 0 9) (n := anN C (cut n) 0 9) (by omega) (by omega); omega) | (rw [cp_eq (by omega)])
    · intro c21
      refine ⟨?_, ?_⟩
      · intro c22
        refine ⟨?_, ?_⟩
        · intro c23
          refine ⟨?_, ?_⟩
          · intro c24
            -- 7: ((cp (anX C (cut n) 0 9) (anY C (cut n) 0 9) (anN C (cut n) 0 9)).2.2) = ((scp (anX C (cut n) 0 9) (
            first | rfl | omega | (exact absurd (congrArg (fun s => s.1) (cp_eq (X := anX C (cut n) 0 9) (Y := anY C (cut n) 0 9) (n := anN C (cut n) 0 9) (by omega))) (by assumption)) | (exact absurd (congrArg (fun s => s.2.1) (cp_eq (X := anX C (cut n) 0 9) (Y := anY C (cut n) 0 9) (n := anN C (cut n) 0 9) (by omega))) (by assumption)) | (exact absurd (congrArg (fun s => s.2.2) (cp_eq (X := anX C (cut n) 0 9) (Y := anY C (cut n) 0 9) (n := anN C (cut n) 0 9) (by omega))) (by assumption)) | (have hh := cd_law (X := anX C (cut n) 0 9) (Y := anY C (cut n) 0 9) (n := anN C (cut n) 0 9) (by omega) (by omega); omega) | (rw [cp_eq (by omega)])
          · intro c25
            -- 8: False
            first | rfl | omega | (exact absurd (congrArg (fun s => s.1) (cp_eq (X := anX C (cut n) 0 9) (Y := anY C (cut n) 0 9) (n := anN C (cut n) 0 9) (by omega))) (by assumption)) | (exact absurd (congrArg (fun s => s.2.1) (cp_eq (X := anX C (cut n) 0 9) (Y := anY C (cut n) 0 9) (n := anN C (cut n) 0 9) (by omega))) (by assumption)) | (exact absurd (congrArg (fun s => s.2.2) (cp_eq (X := anX C (cut n) 0 9) (Y := anY C (cut n) 0 9) (n := anN C (cut n) 0 9) (by omega))) (by assumption)) | (have hh := cd_law (X := anX C (cut n) 0 9) (Y := anY C (cut n) 0 9) (n := anN C (cut n) 0 9) (by omega) (by omega); omega) | (rw [cp_eq (by omega)])
        · intro c26
          -- 9: False
          first | rfl | omega | (exact absurd (congrArg (fun s => s.1) (cp_eq (X := anX C (cut n) 0 9) (Y := anY C (cut n) 0 9) (n := anN C (cut n) 0 9) (by omega))) (by assumption)) | (exact absurd (congrArg (fun s => s.2.1) (cp_eq (X := anX C (cut n) 0 9) (Y := anY C (cut n) 0 9) (n := anN C (cut n) 0 9) (by omega))) (by assumption)) | (exact absurd (congrArg (fun s => s.2.2) (cp_eq (X := anX C (cut n) 0 9) (Y := anY C (cut n) 0 9) (n := anN C (cut n) 0 9) (by omega))) (by assumption)) | (have hh := cd_law (X := anX C (cut n) 0 9) (Y := anY C (cut n) 0 9) (n := anN C (cut n) 0 9) (by omega) (by omega); omega) | (rw [cp_eq (by omega)])
      · intro c27
        refine ⟨?_, ?_⟩
        · intro c28
          refine ⟨?_, ?_⟩
          · intro c29
            refine ⟨?_, ?_⟩
            · intro c30
              -- 10: ((cp (anX C (cut n) 0 9) (anY C (cut n) 0 9) (anN C (cut n) 0 9)).2.2) = ((scp (anX C (cut n) 0 9) (
              first | rfl | omega | (exact absurd (congrArg (fun s => s.1) (cp_eq (X := anX C (cut n) 0 9) (Y := anY C (cut n) 0 9) (n := anN C (cut n) 0 9) (by omega))) (by assumption)) | (exact absurd (congrArg (fun s => s.2.1) (cp_eq (X := anX C (cut n) 0 9) (Y := anY C (cut n) 0 9) (n := anN C (cut n) 0 9) (by omega))) (by assumption)) | (exact absurd (congrArg (fun s => s.2.2) (cp_eq (X := anX C (cut n) 0 9) (Y := anY C (cut n) 0 9) (n := anN C (cut n) 0 9) (by omega))) (by assumption)) | (have hh := cd_law (X := anX C (cut n) 0 9) (Y := anY C (cut n) 0 9) (n := anN C (cut n) 0 9) (by omega) (by omega); omega) | (rw [cp_eq (by omega)])
            · intro c31
              -- 11: False
              first | rfl | omega | (exact absurd (congrArg (fun s => s.1) (cp_eq (X := anX C (cut n) 0 9) (Y := anY C (cut n) 0 9) (n := anN C (cut n) 0 9) (by omega))) (by assumption)) | (exact absurd (congrArg (fun s => s.2.1) (cp_eq (X := anX C (cut n) 0 9) (Y := anY C (cut n) 0 9) (n := anN C (cut n) 0 9) (by omega))) (by assumption)) | (exact absurd (congrArg (fun s => s.2.2) (cp_eq (X := anX C (cut n) 0 9) (Y := anY C (cut n) 0 9) (n := anN C (cut n) 0 9) (by omega))) (by assumption)) | (have hh := cd_law (X := anX C (cut n) 0 9) (Y := anY C (cut n) 0 9) (n := anN C (cut n) 0 9) (by omega) (by omega); omega) | (rw [cp_eq (by omega)])
          · intro c32
            -- 12: False
            first | rfl | omega | (exact absurd (congrArg (fun s => s.1) (cp_eq (X := anX C (cut n) 0 9) (Y := anY C (cut n) 0 9) (n := anN C (cut n) 0 9) (by omega))) (by assumption)) | (exact absurd (congrArg (fun s => s.2.1) (cp_eq (X := anX C (cut n) 0 9) (Y := anY C (cut n) 0 9) (n := anN C (cut n) 0 9) (by omega))) (by assumption)) | (exact absurd (congrArg (fun s => s.2.2) (cp_eq (X := anX C (cut n) 0 9) (Y := anY C (cut n) 0 9) (n := anN C (cut n) 0 9) (by omega))) (by assumption)) | (have hh := cd_law (X := anX C (cut n) 0 9) (Y := anY C (cut n) 0 9) (n := anN C (cut n) 0 9) (by omega) (by omega); omega) | (rw [cp_eq (by omega)])
        · intro c33
          refine ⟨rfl, ⟨Int.le_refl _, fun _ => fun _ => ⟨rfl, rfl⟩⟩, ?_⟩
          intro c34
          refine ⟨?_, ?_⟩
          · intro c35
            intro c36
            -- 13: ((cp (anX C (cut n) 0 9) (anY C (cut n) 0 9) (anN C (cut n) 0 9)).2.2) = ((dmt (anX C (cut n) 0 9) (
            first | rfl | omega | (exact absurd (congrArg (fun s => s.1) (cp_eq (X := anX C (cut n) 0 9) (Y := anY C (cut n) 0 9) (n := anN C (cut n) 0 9) (by omega))) (by assumption)) | (exact absurd (congrArg (fun s => s.2.1) (cp_eq (X := anX C (cut n) 0 9) (Y := anY C (cut n) 0 9) (n := anN C (cut n) 0 9) (by omega))) (by assumption)) | (exact absurd (congrArg (fun s => s.2.2) (cp_eq (X := anX C (cut n) 0 9) (Y := anY C (cut n) 0 9) (n := anN C (cut n) 0 9) (by omega))) (by assumption)) | (have hh := cd_law (X := anX C (cut n) 0 9) (Y := anY C (cut n) 0 9) (n := anN C (cut n) 0 9) (by omega) (by omega); omega) | (rw [cp_eq (by omega)])
          · intro c37
            -- 14: False
            first | rfl | omega | (exact absurd (congrArg (fun s => s.1) (cp_eq (X := anX C (cut n) 0 9) (Y := anY C (cut n) 0 9) (n := anN C (cut n) 0 9) (by omega))) (by assumption)) | (exact absurd (congrArg (fun s => s.2.1) (cp_eq (X := anX C (cut n) 0 9) (Y := anY C (cut n) 0 9) (n := anN C (cut n) 0 9) (by omega))) (by assumption)) | (exact absurd (congrArg (fun s => s.2.2) (cp_eq (X := anX C (cut n) 0 9) (Y := anY C (cut n) 0 9) (n := anN C (cut n) 0 9) (by omega))) (by assumption)) | (have hh := cd_law (X := anX C (cut n) 0 9) (Y := anY C (cut n) 0 9) (n := anN C (cut n) 0 9) (by omega) (by omega); omega) | (rw [cp_eq (by omega)])
def c_l_FnClosestDiameter (C : Int → Int) (n : Int) : Cn Try.prog := ⟨_, _, _, _, _, l_FnClosestDiameter C n⟩
end Go.Proofs.Ytndkhbilefljnaa
