/- Sums. -/
import Derived.Test.YtcfkpdjbjfnnmaaK6
set_option linter.unusedSimpArgs false
set_option linter.unusedVariables false
set_option maxRecDepth 100000
namespace Go.Proofs.Ytcfkpdjbjfnnmaa
open Go.Sym
def smf (f : Int → Int) : Nat → Int
  | 0 => 0
  | m + 1 => smf f m + f m
def bi (b : Bool) : Int := if b = true then 1 else 0
theorem smf_next {f : Int → Int} {j : Int} (h : 0 ≤ j) : smf f (j + 1).toNat = smf f j.toNat + f j := by
  rw [show (j + 1).toNat = j.toNat + 1 by omega, smf, show ((j.toNat : Nat) : Int) = j by omega]
theorem smf_congr {f g : Int → Int} : ∀ m : Nat, (∀ i, 0 ≤ i → i < m → f i = g i) → smf f m = smf g m
  | 0, _ => rfl
  | m + 1, h => by rw [smf, smf, smf_congr m (fun i a b => h i a (by omega)), h m (by omega) (by omega)]
theorem smf_add {f g : Int → Int} : ∀ m : Nat, smf (fun i => f i + g i) m = smf f m + smf g m
  | 0 => rfl
  | m + 1 => by rw [smf, smf, smf, smf_add m]; omega
theorem smf_le {f g : Int → Int} : ∀ m : Nat, (∀ i, 0 ≤ i → i < m → f i ≤ g i) → smf f m ≤ smf g m
  | 0, _ => Int.le_refl _
  | m + 1, h => by
    have := smf_le m (fun i a b => h i a (by omega))
    have := h m (by omega) (by omega)
    rw [smf, smf]; omega
theorem smf_const {c : Int} : ∀ m : Nat, smf (fun _ => c) m = c * m
  | 0 => by rw [smf]; simp
  | m + 1 => by rw [smf, smf_const m]; rw [show ((m + 1 : Nat) : Int) = m + 1 by omega, Int.mul_add]; omega
theorem smf_bd {f : Int → Int} {c : Int} (m : Nat) (h : ∀ i, 0 ≤ i → i < m → 0 ≤ f i ∧ f i ≤ c) : 0 ≤ smf f m ∧ smf f m ≤ c * m := by
  have h1 := smf_le (f := fun _ => 0) (g := f) m (fun i a b => (h i a b).1)
  have h2 := smf_le (f := f) (g := fun _ => c) m (fun i a b => (h i a b).2)
  rw [smf_const] at h1 h2
  omega
theorem fl_bi {q : Int → Bool} {k : Int} (h : 0 ≤ k) : len' (fl q (k + 1)) = len' (fl q k) + bi (q k) := by
  cases hq : q k with
  | true => rw [fl_yes h hq, len'_snoc]; rfl
  | false => rw [fl_no h hq]; exact (Int.add_zero _).symm
theorem fl_smf {q : Int → Bool} : ∀ m : Nat, len' (fl q m) = smf (fun i => bi (q i)) m
  | 0 => rfl
  | m + 1 => by rw [show ((m + 1 : Nat) : Int) = (m : Int) + 1 by omega, fl_bi (by omega), fl_smf m, smf]

theorem fl_int {q : Int → Bool} {n : Int} (h : 0 ≤ n) : len' (fl q n) = smf (fun i => bi (q i)) n.toNat := by
  have := fl_smf (q := q) n.toNat
  rw [show ((n.toNat : Nat) : Int) = n by omega] at this
  exact this
theorem smf_zero {f : Int → Int} (m : Nat) (h : ∀ i, 0 ≤ i → i < m → f i = 0) : smf f m = 0 := by
  rw [smf_congr m (g := fun _ => 0) h, smf_const]; omega
theorem smf_mul {f : Int → Int} {c : Int} : ∀ m : Nat, smf f m * c = smf (fun i => f i * c) m
  | 0 => by rw [smf, smf]; omega
  | m + 1 => by rw [smf, smf, Int.add_mul, smf_mul m]
theorem smf_split {f : Int → Int} (m : Nat) : ∀ k : Nat, smf f (m + k) = smf f m + smf (fun t => f (m + t)) k
  | 0 => by rw [smf]; simp
  | k + 1 => by
    have e : ((m + k : Nat) : Int) = (m : Int) + k := by omega
    rw [show m + (k + 1) = (m + k) + 1 by omega, smf, smf, smf_split m k, e, Int.add_assoc]
theorem fl_eq {q r : Int → Bool} {n : Int} (h : 0 ≤ n) (he : ∀ i, 0 ≤ i → i < n → q i = r i) : len' (fl q n) = len' (fl r n) := by
  rw [fl_int h, fl_int h]
  exact smf_congr _ fun i a b => by rw [he i (by omega) (by omega)]
theorem fl_nil {q : Int → Bool} {n : Int} (h : 0 ≤ n) (he : ∀ i, 0 ≤ i → i < n → q i = false) : len' (fl q n) = 0 := by
  rw [fl_int h]
  exact smf_zero _ fun i a b => by rw [he i (by omega) (by omega)]; rfl
theorem bi_bd (b : Bool) : 0 ≤ bi b ∧ bi b ≤ 1 := by cases b <;> decide
theorem fl_pre {q : Int → Bool} {m n : Int} (h0 : 0 ≤ m) (h : m ≤ n) : len' (fl q m) ≤ len' (fl q n) := by
  rw [fl_int h0, fl_int (by omega), show n.toNat = m.toNat + (n - m).toNat by omega, smf_split]
  have := smf_bd (f := fun t => bi (q (m.toNat + t))) (c := 1) (n - m).toNat (fun i _ _ => bi_bd _)
  omega
/-- The sum over an interval. -/
def isum (f : Int → Int) (a b : Int) : Int := smf (fun t => f (a + t)) (b - a).toNat
theorem isum_split {f : Int → Int} {a b c : Int} (h : a ≤ b) (h2 : b ≤ c) : isum f a c = isum f a b + isum f b c := by
  unfold isum
  rw [show (c - a).toNat = (b - a).toNat + (c - b).toNat by omega, smf_split]
  congr 1
  refine smf_congr _ fun i _ _ => ?_
  show f _ = f _
  rw [show a + (((b - a).toNat : Nat) + i) = b + i by omega]
theorem isum_congr {f g : Int → Int} {a b : Int} (h : ∀ x, a ≤ x → x < b → f x = g x) : isum f a b = isum g a b :=
  smf_congr _ fun i h0 h1 => h _ (by omega) (by omega)
theorem isum_const {f : Int → Int} {a b c : Int} (hab : a ≤ b) (h : ∀ x, a ≤ x → x < b → f x = c) : isum f a b = c * (b - a) := by
  rw [isum_congr h]
  unfold isum
  rw [smf_const, show (((b - a).toNat : Nat) : Int) = b - a by omega]
theorem isum_zero {f : Int → Int} {a b : Int} (h : ∀ x, a ≤ x → x < b → f x = 0) : isum f a b = 0 :=
  smf_zero _ fun i h0 h1 => h _ (by omega) (by omega)
theorem isum_add {f g : Int → Int} {a b : Int} : isum (fun x => f x + g x) a b = isum f a b + isum g a b := smf_add _
theorem isum_le {f g : Int → Int} {a b : Int} (h : ∀ x, a ≤ x → x < b → f x ≤ g x) : isum f a b ≤ isum g a b :=
  smf_le _ fun i h0 h1 => h _ (by omega) (by omega)
theorem isum_swap {g : Int → Int → Int} {a b : Int} : ∀ m : Nat, smf (fun i => isum (g i) a b) m = isum (fun x => smf (fun i => g i x) m) a b
  | 0 => by
    rw [smf, isum_zero]
    intro x _ _
    rfl
  | m + 1 => by
    rw [smf, isum_swap m, ← isum_add]
    rfl
theorem isum_box {f : Int → Int} {lo a b hi c : Int} (h1 : lo ≤ a) (h2 : a ≤ b) (h3 : b ≤ hi) (hin : ∀ x, a ≤ x → x < b → f x = c) (hout : ∀ x, (x < a ∨ b ≤ x) → f x = 0) : isum f lo hi = c * (b - a) := by
  rw [isum_split h1 (by omega : a ≤ hi), isum_split h2 h3, isum_zero (a := lo) (fun x _ h => hout x (.inl h)), isum_const h2 hin, isum_zero (a := b) (fun x h _ => hout x (.inr h))]
  omega
/-- What is the same between two borders is summed by borders. -/
theorem isum_steps {f : Int → Int} {X : Int → Int} {N lo hi : Int} (hN : 1 ≤ N) (hs : ∀ i j, 0 ≤ i → i < j → j < N → X i < X j) (hb : ∀ i, 0 ≤ i → i < N → lo ≤ X i ∧ X i ≤ hi)
    (hc : ∀ i x, 0 ≤ i → i + 1 < N → X i ≤ x → x < X (i + 1) → f x = f (X i)) (hz : ∀ x, (x < X 0 ∨ X (N - 1) ≤ x) → f x = 0) : isum f lo hi = smf (fun i => f (X i) * (X (i + 1) - X i)) (N - 1).toNat := by
  have key : ∀ m : Nat, (m : Int) < N → isum f (X 0) (X m) = smf (fun i => f (X i) * (X (i + 1) - X i)) m := by
    intro m
    induction m with
    | zero =>
      intro _
      rw [smf]
      exact isum_zero fun x a b => by
        have e : X ((0 : Nat) : Int) = X 0 := rfl
        rw [e] at b; omega
    | succ k ih =>
      intro h
      have h1 : X 0 ≤ X k := by
        by_cases e : (k : Int) = 0
        · rw [e]; exact Int.le_refl _
        · have := hs 0 k (by omega) (by omega) (by omega); omega
      have h2 : X k < X (k + 1) := hs k (k + 1) (by omega) (by omega) (by omega)
      rw [show ((k + 1 : Nat) : Int) = (k : Int) + 1 by omega, isum_split h1 (by omega : X k ≤ X (k + 1)), ih (by omega), smf, isum_const (by omega) (fun x a b => hc k x (by omega) (by omega) a b)]
  have b0 := hb 0 (by omega) (by omega)
  have b1 := hb (N - 1) (by omega) (by omega)
  have h01 : X 0 ≤ X (N - 1) := by
    by_cases e : N - 1 = 0
    · rw [e]; exact Int.le_refl _
    · have := hs 0 (N - 1) (by omega) (by omega) (by omega); omega
  rw [isum_split b0.1 b0.2, isum_split h01 b1.2, isum_zero (a := lo) (fun x _ h => hz x (.inl h)), isum_zero (a := X (N - 1)) (fun x h _ => hz x (.inr h))]
  have := key (N - 1).toNat (by omega)
  rw [show (((N - 1).toNat : Nat) : Int) = N - 1 by omega] at this
  rw [this]
  omega

end Go.Proofs.Ytcfkpdjbjfnnmaa
