/- The stable sort: plain laws. -/
import Derived.Test.YtcfkpdjbjfnnmaaK60
set_option linter.unusedSimpArgs false
set_option linter.unusedVariables false
set_option maxRecDepth 100000
namespace Go.Proofs.Ytcfkpdjbjfnnmaa
open Go.Sym
/-! ### segments: the same pairs, sorted -/
abbrev PF := Int → Int × Int
def zp (A B : Int → Int) : PF := fun i => (A i, B i)
/-- Lexicographic. -/
def lexP (p q : Int × Int) : Prop := p.1 < q.1 ∨ (p.1 = q.1 ∧ p.2 < q.2)
def Dp (X Y : Int → Int) (p : Int × Int) : Int := mhD X Y p.1 p.2
/-- By length, then lexicographic. -/
def lt3 (X Y : Int → Int) (p q : Int × Int) : Prop := Dp X Y p < Dp X Y q ∨ (Dp X Y p = Dp X Y q ∧ lexP p q)
theorem lexP_irr (p : Int × Int) : ¬ lexP p p := by unfold lexP; omega
theorem lexP_tr {p q r : Int × Int} (h : lexP p q) (k : lexP q r) : lexP p r := by unfold lexP at *; omega
theorem lt3_irr {X Y : Int → Int} (p : Int × Int) : ¬ lt3 X Y p p := by unfold lt3 lexP; omega
theorem lt3_tr {X Y : Int → Int} {p q r : Int × Int} (h : lt3 X Y p q) (k : lt3 X Y q r) : lt3 X Y p r := by
  unfold lt3 lexP at *
  generalize Dp X Y p = u at *
  generalize Dp X Y q = v at *
  generalize Dp X Y r = w at *
  omega
theorem lt3_le {X Y : Int → Int} {p q : Int × Int} (h : lt3 X Y p q) : Dp X Y p ≤ Dp X Y q := by unfold lt3 at h; omega
theorem lt3_of {X Y : Int → Int} {p q : Int × Int} (h : Dp X Y p ≤ Dp X Y q) (k : lexP p q) : lt3 X Y p q := by
  rcases Int.lt_or_eq_of_le h with h | h
  · exact .inl h
  · exact .inr ⟨h, k⟩
theorem lt3_lt {X Y : Int → Int} {p q : Int × Int} (h : Dp X Y p < Dp X Y q) : lt3 X Y p q := .inl h
/-- The same pairs within a segment, and all else as it was. -/
structure Re (F G : PF) (a b : Int) : Prop where
  out : ∀ i, i < a ∨ b ≤ i → G i = F i
  fwd : ∀ i, a ≤ i → i < b → ∃ j, (a ≤ j ∧ j < b) ∧ G i = F j
  bwd : ∀ j, a ≤ j → j < b → ∃ i, (a ≤ i ∧ i < b) ∧ G i = F j
theorem Re.refl (F : PF) (a b : Int) : Re F F a b := ⟨fun _ _ => rfl, fun i h0 h1 => ⟨i, ⟨h0, h1⟩, rfl⟩, fun i h0 h1 => ⟨i, ⟨h0, h1⟩, rfl⟩⟩
theorem Re.trans {F G H : PF} {a b : Int} (h : Re F G a b) (k : Re G H a b) : Re F H a b where
  out i hi := (k.out i hi).trans (h.out i hi)
  fwd i h0 h1 := by
    obtain ⟨j, hj, e⟩ := k.fwd i h0 h1
    obtain ⟨l, hl, e2⟩ := h.fwd j hj.1 hj.2
    exact ⟨l, hl, e.trans e2⟩
  bwd j h0 h1 := by
    obtain ⟨i, hi, e⟩ := h.bwd j h0 h1
    obtain ⟨l, hl, e2⟩ := k.bwd i hi.1 hi.2
    exact ⟨l, hl, e2.trans e⟩
theorem Re.wide {F G : PF} {a b c d : Int} (h : Re F G a b) (h1 : c ≤ a) (h2 : b ≤ d) : Re F G c d where
  out i hi := h.out i (by omega)
  fwd i h0 h3 := by
    by_cases hi : a ≤ i ∧ i < b
    · obtain ⟨j, hj, e⟩ := h.fwd i hi.1 hi.2
      exact ⟨j, by omega, e⟩
    · exact ⟨i, ⟨h0, h3⟩, h.out i (by omega)⟩
  bwd i h0 h3 := by
    by_cases hi : a ≤ i ∧ i < b
    · obtain ⟨j, hj, e⟩ := h.bwd i hi.1 hi.2
      exact ⟨j, by omega, e⟩
    · exact ⟨i, ⟨h0, h3⟩, h.out i (by omega)⟩
/-- Two places exchanged. -/
def swF (F : PF) (i j : Int) : PF := fun t => if t = i then F j else if t = j then F i else F t
theorem swF_re {F : PF} {a b i j : Int} (hi : a ≤ i ∧ i < b) (hj : a ≤ j ∧ j < b) : Re F (swF F i j) a b where
  out t ht := by unfold swF; rw [if_neg (by omega), if_neg (by omega)]
  fwd t h0 h1 := by
    unfold swF
    split
    · exact ⟨j, hj, rfl⟩
    · split
      · exact ⟨i, hi, rfl⟩
      · exact ⟨t, ⟨h0, h1⟩, rfl⟩
  bwd t h0 h1 := by
    unfold swF
    by_cases e1 : t = i
    · by_cases e2 : i = j
      · exact ⟨i, hi, by rw [if_pos rfl, e1, e2]⟩
      · exact ⟨j, hj, by rw [if_neg (fun e => e2 e.symm), if_pos rfl, e1]⟩
    · by_cases e2 : t = j
      · exact ⟨i, hi, by rw [if_pos rfl, e2]⟩
      · exact ⟨t, ⟨h0, h1⟩, by rw [if_neg e1, if_neg e2]⟩
def SoF (X Y : Int → Int) (F : PF) (a b : Int) : Prop := ∀ i j, a ≤ i → i < j → j < b → lt3 X Y (F i) (F j)
def LxF (F : PF) (a m b : Int) : Prop := ∀ i j, a ≤ i → i < m → m ≤ j → j < b → lexP (F i) (F j)
def lexS (F : PF) (a b : Int) : Prop := ∀ i j, a ≤ i → i < j → j < b → lexP (F i) (F j)
theorem SoF.le {X Y : Int → Int} {F : PF} {a b i j : Int} (h : SoF X Y F a b) (h0 : a ≤ i) (h1 : i ≤ j) (h2 : j < b) : Dp X Y (F i) ≤ Dp X Y (F j) := by
  by_cases e : i = j
  · rw [e]; exact Int.le_refl _
  · exact lt3_le (h i j h0 (by omega) h2)
theorem SoF.congr {X Y : Int → Int} {F G : PF} {a b : Int} (h : SoF X Y F a b) (e : ∀ i, a ≤ i → i < b → G i = F i) : SoF X Y G a b := fun i j h0 h1 h2 => by
  rw [e i h0 (by omega), e j (by omega) h2]; exact h i j h0 h1 h2
/-- A property of the pairs of a segment goes along. -/
theorem Re.all {F G : PF} {a b : Int} (h : Re F G a b) {P : Int × Int → Prop} (hP : ∀ i, a ≤ i → i < b → P (F i)) : ∀ i, a ≤ i → i < b → P (G i) := fun i h0 h1 => by
  obtain ⟨j, hj, e⟩ := h.fwd i h0 h1
  rw [e]; exact hP j hj.1 hj.2
/-- Two sorted halves, the first below the second. -/
theorem SoF.join {X Y : Int → Int} {F : PF} {a m b : Int} (h1 : SoF X Y F a m) (h2 : SoF X Y F m b) (h : ∀ i j, a ≤ i → i < m → m ≤ j → j < b → lt3 X Y (F i) (F j)) : SoF X Y F a b := by
  intro i j h0 hij hj
  by_cases c1 : j < m
  · exact h1 i j h0 hij c1
  · by_cases c2 : m ≤ i
    · exact h2 i j c2 hij hj
    · exact h i j h0 (by omega) (by omega) hj
/-! ### insertion -/
/-- The element that is on its way stands at j, of i + 1 places. -/
structure InS (X Y : Int → Int) (F H : PF) (a i j : Int) : Prop where
  re : Re F H a (i + 1)
  at_ : H j = F i
  so : ∀ p q, a ≤ p → p < q → q ≤ i → p ≠ j → q ≠ j → lt3 X Y (H p) (H q)
  up : ∀ q, j < q → q ≤ i → lt3 X Y (H j) (H q)
  lx : ∀ p, a ≤ p → p ≤ i → p ≠ j → lexP (H p) (F i)
  bd : a ≤ j ∧ j ≤ i
theorem InS.start {X Y : Int → Int} {F G : PF} {a b i : Int} (hF : lexS F a b) (hr : Re F G a i) (hs : SoF X Y G a i) (h0 : a ≤ i) (h1 : i < b) : InS X Y F G a i i where
  re := hr.wide (Int.le_refl _) (by omega)
  at_ := hr.out i (by omega)
  so p q h2 h3 h4 h5 h6 := hs p q h2 h3 (by omega)
  up q h2 h3 := by omega
  lx p h2 h3 h4 := hr.all (P := fun x => lexP x (F i)) (fun t t0 t1 => hF t i t0 t1 h1) p h2 (by omega)
  bd := by omega
theorem InS.step {X Y : Int → Int} {F H : PF} {a i j : Int} (h : InS X Y F H a i j) (hj : a < j) (hD : Dp X Y (H j) < Dp X Y (H (j - 1))) : InS X Y F (swF H j (j - 1)) a i (j - 1) := by
  have hb := h.bd
  have e1 : swF H j (j - 1) j = H (j - 1) := by unfold swF; rw [if_pos rfl]
  have e2 : swF H j (j - 1) (j - 1) = H j := by unfold swF; rw [if_neg (by omega), if_pos rfl]
  have e3 : ∀ t, t ≠ j → t ≠ j - 1 → swF H j (j - 1) t = H t := fun t c1 c2 => by unfold swF; rw [if_neg c1, if_neg c2]
  refine ⟨h.re.trans (swF_re ⟨by omega, by omega⟩ ⟨by omega, by omega⟩), by rw [e2]; exact h.at_, fun p q h2 h3 h4 h5 h6 => ?_, fun q h2 h3 => ?_, fun p h2 h3 h4 => ?_, by omega⟩
  · by_cases c1 : p = j
    · rw [c1, e1, e3 q (by omega) h6]
      exact h.so (j - 1) q (by omega) (by omega) h4 (by omega) (by omega)
    · by_cases c2 : q = j
      · rw [c2, e1, e3 p c1 h5]
        exact h.so p (j - 1) h2 (by omega) (by omega) c1 (by omega)
      · rw [e3 p c1 h5, e3 q c2 h6]
        exact h.so p q h2 h3 h4 c1 c2
  · rw [e2]
    by_cases c : q = j
    · rw [c, e1]; exact lt3_lt hD
    · rw [e3 q c (by omega)]; exact h.up q (by omega) h3
  · by_cases c : p = j
    · rw [c, e1]; exact h.lx (j - 1) (by omega) (by omega) (by omega)
    · rw [e3 p c h4]; exact h.lx p h2 h3 c
theorem InS.done {X Y : Int → Int} {F H : PF} {a i j : Int} (h : InS X Y F H a i j) (he : a < j → Dp X Y (H (j - 1)) ≤ Dp X Y (H j)) : Re F H a (i + 1) ∧ SoF X Y H a (i + 1) := by
  have hb := h.bd
  refine ⟨h.re, fun p q h0 h1 h2 => ?_⟩
  by_cases c2 : q = j
  · subst c2
    have hD := he (by omega)
    have hlx := h.lx p h0 (by omega) (by omega)
    rw [← h.at_] at hlx
    refine lt3_of ?_ hlx
    by_cases c3 : p = q - 1
    · rw [c3]; exact hD
    · exact Int.le_trans (lt3_le (h.so p (q - 1) h0 (by omega) (by omega) (by omega) (by omega))) hD
  · by_cases c1 : p = j
    · subst c1
      exact h.up q h1 (by omega)
    · exact h.so p q h0 h1 (by omega) c1 c2
/-! ### rotation -/
def rotF (F : PF) (a m b : Int) : PF := fun t => if t < a ∨ b ≤ t then F t else if t < a + (b - m) then F (t - a + m) else F (t - (b - m))
/-- k places from a on and from b on exchanged. -/
def swR (F : PF) (a b k : Int) : PF := fun t => if a ≤ t ∧ t < a + k then F (t - a + b) else if b ≤ t ∧ t < b + k then F (t - b + a) else F t
theorem swR_0 (F : PF) (a b : Int) : swR F a b 0 = F := by
  funext t; unfold swR; rw [if_neg (by omega), if_neg (by omega)]
theorem swR_next {F : PF} {a b k : Int} (hk : 0 ≤ k) (h : a + k < b ∨ b + k < a) : swF (swR F a b k) (a + k) (b + k) = swR F a b (k + 1) := by
  funext t
  unfold swF swR
  (repeat' split) <;> first | rfl | (congr 1; omega) | (exfalso; omega)
theorem rot_gt {H : PF} {m i j : Int} (hj : 0 < j) (h : j < i) : rotF (swR H (m - i) m j) (m - (i - j)) m (m + j) = rotF H (m - i) m (m + j) := by
  funext t
  unfold rotF swR
  (repeat' split) <;> first | rfl | (congr 1; omega) | (exfalso; omega)
theorem rot_lt {H : PF} {m i j : Int} (hi : 0 < i) (h : i < j) : rotF (swR H (m - i) (m + j - i) i) (m - i) m (m + (j - i)) = rotF H (m - i) m (m + j) := by
  funext t
  unfold rotF swR
  (repeat' split) <;> first | rfl | (congr 1; omega) | (exfalso; omega)
theorem rot_eq {H : PF} {m i : Int} (hi : 0 < i) : swR H (m - i) m i = rotF H (m - i) m (m + i) := by
  funext t
  unfold rotF swR
  (repeat' split) <;> first | rfl | (congr 1; omega) | (exfalso; omega)
theorem rotF_re {F : PF} {a m b : Int} (h0 : a ≤ m) (h1 : m ≤ b) : Re F (rotF F a m b) a b where
  out t ht := by unfold rotF; rw [if_pos ht]
  fwd t h2 h3 := by
    unfold rotF
    rw [if_neg (by omega)]
    split
    · exact ⟨_, by omega, rfl⟩
    · exact ⟨_, by omega, rfl⟩
  bwd t h2 h3 := by
    unfold rotF
    by_cases c : t < m
    · exact ⟨t + (b - m), by omega, by rw [if_neg (by omega), if_neg (by omega)]; congr 1; omega⟩
    · exact ⟨t - m + a, by omega, by rw [if_neg (by omega), if_pos (by omega)]; congr 1; omega⟩
/-! ### one element into a sorted list -/
def shF (F : PF) (a k : Int) : PF := fun t => if a ≤ t ∧ t < k then F (t + 1) else if t = k then F a else F t
def shB (F : PF) (m k : Int) : PF := fun t => if k < t ∧ t ≤ m then F (t - 1) else if t = k then F m else F t
theorem shF_0 (F : PF) (a : Int) : shF F a a = F := by
  funext t; unfold shF; rw [if_neg (by omega)]
  split
  · rename_i h; rw [h]
  · rfl
theorem shB_0 (F : PF) (m : Int) : shB F m m = F := by
  funext t; unfold shB; rw [if_neg (by omega)]
  split
  · rename_i h; rw [h]
  · rfl
theorem shF_next {F : PF} {a k : Int} (h : a ≤ k) : swF (shF F a k) k (k + 1) = shF F a (k + 1) := by
  funext t
  unfold swF shF
  by_cases c1 : t = k
  · rw [if_pos c1, if_neg (by omega), if_neg (by omega), if_pos (by omega), c1]
  · rw [if_neg c1]
    by_cases c2 : t = k + 1
    · rw [if_pos c2, if_neg (by omega), if_pos rfl, if_neg (by omega), if_pos c2]
    · rw [if_neg c2]
      by_cases c3 : a ≤ t ∧ t < k
      · rw [if_pos c3, if_pos (by omega)]
      · rw [if_neg c3, if_neg c1, if_neg (by omega), if_neg c2]
theorem shB_next {F : PF} {m k : Int} (h : k ≤ m) : swF (shB F m k) k (k - 1) = shB F m (k - 1) := by
  funext t
  unfold swF shB
  by_cases c1 : t = k
  · rw [if_pos c1, if_neg (by omega), if_neg (by omega), if_pos (by omega), c1]
  · rw [if_neg c1]
    by_cases c2 : t = k - 1
    · rw [if_pos c2, if_neg (by omega), if_pos rfl, if_neg (by omega), if_pos c2]
    · rw [if_neg c2]
      by_cases c3 : k < t ∧ t ≤ m
      · rw [if_pos c3, if_pos (by omega)]
      · rw [if_neg c3, if_neg c1, if_neg (by omega), if_neg c2]
theorem shF_re {F : PF} {a k b : Int} (h0 : a ≤ k) (h1 : k < b) : Re F (shF F a k) a b where
  out t ht := by unfold shF; rw [if_neg (by omega), if_neg (by omega)]
  fwd t h2 h3 := by
    unfold shF
    split
    · exact ⟨_, by omega, rfl⟩
    · split
      · exact ⟨a, by omega, rfl⟩
      · exact ⟨t, by omega, rfl⟩
  bwd t h2 h3 := by
    unfold shF
    by_cases c : t = a
    · exact ⟨k, by omega, by rw [if_neg (by omega), if_pos rfl, c]⟩
    · by_cases c2 : t ≤ k
      · exact ⟨t - 1, by omega, by rw [if_pos (by omega), show t - 1 + 1 = t by omega]⟩
      · exact ⟨t, by omega, by rw [if_neg (by omega), if_neg (by omega)]⟩
theorem shB_re {F : PF} {a k m : Int} (h0 : a ≤ k) (h1 : k ≤ m) : Re F (shB F m k) a (m + 1) where
  out t ht := by unfold shB; rw [if_neg (by omega), if_neg (by omega)]
  fwd t h2 h3 := by
    unfold shB
    split
    · exact ⟨_, by omega, rfl⟩
    · split
      · exact ⟨m, by omega, rfl⟩
      · exact ⟨t, by omega, rfl⟩
  bwd t h2 h3 := by
    unfold shB
    by_cases c : t = m
    · exact ⟨k, by omega, by rw [if_neg (by omega), if_pos rfl, c]⟩
    · by_cases c2 : k ≤ t
      · exact ⟨t + 1, by omega, by rw [if_pos (by omega), show t + 1 - 1 = t by omega]⟩
      · exact ⟨t, by omega, by rw [if_neg (by omega), if_neg (by omega)]⟩
/-- The first goes where it belongs. -/
theorem one_left {X Y : Int → Int} {F : PF} {a b i : Int} (hs : SoF X Y F (a + 1) b) (hl : LxF F a (a + 1) b) (h0 : a + 1 ≤ i) (h1 : i ≤ b) (hlo : ∀ t, a + 1 ≤ t → t < i → Dp X Y (F t) < Dp X Y (F a)) (hhi : ∀ t, i ≤ t → t < b → Dp X Y (F a) ≤ Dp X Y (F t)) :
    Re F (shF F a (i - 1)) a b ∧ SoF X Y (shF F a (i - 1)) a b := by
  refine ⟨shF_re (by omega) (by omega), fun p q h2 h3 h4 => ?_⟩
  have e1 : ∀ t, a ≤ t → t < i - 1 → shF F a (i - 1) t = F (t + 1) := fun t x y => by unfold shF; rw [if_pos ⟨x, y⟩]
  have e2 : shF F a (i - 1) (i - 1) = F a := by unfold shF; rw [if_neg (by omega), if_pos rfl]
  have e3 : ∀ t, i - 1 < t → shF F a (i - 1) t = F t := fun t x => by unfold shF; rw [if_neg (by omega), if_neg (by omega)]
  by_cases c1 : q < i - 1
  · rw [e1 p h2 (by omega), e1 q (by omega) c1]; exact hs _ _ (by omega) (by omega) (by omega)
  · by_cases c2 : q = i - 1
    · rw [c2, e1 p h2 (by omega), e2]; exact lt3_lt (hlo _ (by omega) (by omega))
    · rw [e3 q (by omega)]
      by_cases c3 : p < i - 1
      · rw [e1 p h2 c3]; exact hs _ _ (by omega) (by omega) h4
      · by_cases c4 : p = i - 1
        · rw [c4, e2]; exact lt3_of (hhi q (by omega) h4) (hl a q (by omega) (by omega) (by omega) h4)
        · rw [e3 p (by omega)]; exact hs _ _ (by omega) h3 h4
/-- The last goes where it belongs. -/
theorem one_right {X Y : Int → Int} {F : PF} {a m i : Int} (hs : SoF X Y F a m) (hl : LxF F a m (m + 1)) (h0 : a ≤ i) (h1 : i ≤ m) (hlo : ∀ t, a ≤ t → t < i → Dp X Y (F t) ≤ Dp X Y (F m)) (hhi : ∀ t, i ≤ t → t < m → Dp X Y (F m) < Dp X Y (F t)) :
    Re F (shB F m i) a (m + 1) ∧ SoF X Y (shB F m i) a (m + 1) := by
  refine ⟨shB_re h0 h1, fun p q h2 h3 h4 => ?_⟩
  have e1 : ∀ t, i < t → t ≤ m → shB F m i t = F (t - 1) := fun t x y => by unfold shB; rw [if_pos ⟨x, y⟩]
  have e2 : shB F m i i = F m := by unfold shB; rw [if_neg (by omega), if_pos rfl]
  have e3 : ∀ t, t < i → shB F m i t = F t := fun t x => by unfold shB; rw [if_neg (by omega), if_neg (by omega)]
  by_cases c1 : q < i
  · rw [e3 p (by omega), e3 q c1]; exact hs _ _ h2 h3 (by omega)
  · by_cases c2 : q = i
    · rw [c2, e3 p (by omega), e2]; exact lt3_of (hlo p h2 (by omega)) (hl p m h2 (by omega) (by omega) (by omega))
    · rw [e1 q (by omega) (by omega)]
      by_cases c3 : p < i
      · rw [e3 p c3]; exact hs _ _ h2 (by omega) (by omega)
      · by_cases c4 : p = i
        · rw [c4, e2]; exact lt3_lt (hhi _ (by omega) (by omega))
        · rw [e1 p (by omega) (by omega)]; exact hs _ _ (by omega) (by omega) (by omega)
/-! ### the merge -/
/-- The cut: start s, middle d, end e, where both halves are cut. -/
structure Cut (X Y : Int → Int) (F : PF) (a m b s d e : Int) : Prop where
  so1 : SoF X Y F a m
  so2 : SoF X Y F m b
  lx : LxF F a m b
  se : s + e = d + m
  bd : (a ≤ s ∧ s ≤ m) ∧ m ≤ e ∧ e ≤ b
  dd : a < d ∧ d < b
  lo : a < s → e < b → Dp X Y (F (s - 1)) ≤ Dp X Y (F e)
  hi : s < m → m < e → Dp X Y (F (e - 1)) < Dp X Y (F s)
/-- What the cut and the rotation give. -/
def cutG (F : PF) (m s e : Int) : PF := rotF F s m e
theorem cutG_1 {F : PF} {m s e t : Int} (h : t < s) : cutG F m s e t = F t := by unfold cutG rotF; rw [if_pos (.inl h)]
theorem cutG_2 {F : PF} {m s e d t : Int} (hse : s + e = d + m) (hm : m ≤ e) (h0 : s ≤ t) (h1 : t < d) (hs : s ≤ m) : cutG F m s e t = F (t - s + m) := by unfold cutG rotF; rw [if_neg (by omega), if_pos (by omega)]
theorem cutG_3 {F : PF} {m s e d t : Int} (hse : s + e = d + m) (hm : m ≤ e) (h0 : d ≤ t) (h1 : t < e) (hs : s ≤ m) : cutG F m s e t = F (t - d + s) := by unfold cutG rotF; rw [if_neg (by omega), if_neg (by omega)]; congr 1; omega
theorem cutG_4 {F : PF} {m s e t : Int} (h : e ≤ t) : cutG F m s e t = F t := by unfold cutG rotF; rw [if_pos (.inr h)]
theorem cutG_no {F : PF} {m s e : Int} (hs : s ≤ m) (hm : m ≤ e) (h : m ≤ s ∨ e ≤ m) : cutG F m s e = F := by
  funext t
  unfold cutG rotF
  split
  · rfl
  · split
    · congr 1; omega
    · congr 1; omega
section
variable {X Y : Int → Int} {F : PF} {a m b s d e : Int}
theorem Cut.re (h : Cut X Y F a m b s d e) : Re F (cutG F m s e) a b := by
  have := h.bd
  exact (rotF_re (by omega) (by omega)).wide (by omega) (by omega)
theorem Cut.left (h : Cut X Y F a m b s d e) : SoF X Y (cutG F m s e) a s ∧ SoF X Y (cutG F m s e) s d ∧ LxF (cutG F m s e) a s d := by
  have hb := h.bd
  have hse := h.se
  refine ⟨fun i j h0 h1 h2 => ?_, fun i j h0 h1 h2 => ?_, fun i j h0 h1 h2 h3 => ?_⟩
  · rw [cutG_1 (by omega), cutG_1 (by omega)]; exact h.so1 i j h0 h1 (by omega)
  · rw [cutG_2 hse hb.2.1 h0 (by omega) hb.1.2, cutG_2 hse hb.2.1 (by omega) h2 hb.1.2]; exact h.so2 _ _ (by omega) (by omega) (by omega)
  · rw [cutG_1 h1, cutG_2 hse hb.2.1 h2 h3 hb.1.2]; exact h.lx _ _ h0 (by omega) (by omega) (by omega)
theorem Cut.right (h : Cut X Y F a m b s d e) : SoF X Y (cutG F m s e) d e ∧ SoF X Y (cutG F m s e) e b ∧ LxF (cutG F m s e) d e b := by
  have hb := h.bd
  have hse := h.se
  refine ⟨fun i j h0 h1 h2 => ?_, fun i j h0 h1 h2 => ?_, fun i j h0 h1 h2 h3 => ?_⟩
  · rw [cutG_3 hse hb.2.1 h0 (by omega) hb.1.2, cutG_3 hse hb.2.1 (by omega) h2 hb.1.2]; exact h.so1 _ _ (by omega) (by omega) (by omega)
  · rw [cutG_4 h0, cutG_4 (by omega)]; exact h.so2 i j (by omega) h1 h2
  · rw [cutG_3 hse hb.2.1 h0 h1 hb.1.2, cutG_4 h2]; exact h.lx _ _ (by omega) (by omega) (by omega) h3
theorem Cut.low (h : Cut X Y F a m b s d e) : ∀ i j, a ≤ i → i < d → d ≤ j → j < b → lt3 X Y (cutG F m s e i) (cutG F m s e j) := by
  have hb := h.bd
  have hse := h.se
  intro i j h0 h1 h2 h3
  by_cases c1 : i < s
  · rw [cutG_1 c1]
    by_cases c2 : j < e
    · rw [cutG_3 hse hb.2.1 h2 c2 hb.1.2]; exact h.so1 _ _ h0 (by omega) (by omega)
    · rw [cutG_4 (by omega)]
      refine lt3_of ?_ (h.lx i j h0 (by omega) (by omega) h3)
      have k1 := h.so1.le (i := i) (j := s - 1) h0 (by omega) (by omega)
      have k2 := h.so2.le (i := e) (j := j) (by omega) (by omega) h3
      have k3 := h.lo (by omega) (by omega)
      omega
  · rw [cutG_2 hse hb.2.1 (by omega) h1 hb.1.2]
    by_cases c2 : j < e
    · rw [cutG_3 hse hb.2.1 h2 c2 hb.1.2]
      have k1 := h.so2.le (i := i - s + m) (j := e - 1) (by omega) (by omega) (by omega)
      have k2 := h.so1.le (i := s) (j := j - d + s) (by omega) (by omega) (by omega)
      have k3 := h.hi (by omega) (by omega)
      exact lt3_lt (by omega)
    · rw [cutG_4 (by omega)]; exact h.so2 _ _ (by omega) (by omega) h3
/-- Both halves merged. -/
theorem Cut.done (h : Cut X Y F a m b s d e) {G H : PF} (g : Re (cutG F m s e) G a d ∧ SoF X Y G a d) (k : Re G H d b ∧ SoF X Y H d b) : Re F H a b ∧ SoF X Y H a b := by
  have hd := h.dd
  have r1 := g.1.wide (c := a) (d := b) (Int.le_refl _) (by omega)
  have r2 := k.1.wide (c := a) (d := b) (by omega) (Int.le_refl _)
  refine ⟨(h.re.trans r1).trans r2, SoF.join (m := d) ?_ k.2 fun i j h0 h1 h2 h3 => ?_⟩
  · exact g.2.congr fun i h0 h1 => k.1.out i (.inl h1)
  · obtain ⟨j', hj', ej⟩ := k.1.fwd j h2 h3
    rw [ej, g.1.out j' (.inr hj'.1), k.1.out i (.inl h1)]
    obtain ⟨i', hi', ei⟩ := g.1.fwd i h0 h1
    rw [ei]
    exact h.low i' j' hi'.1 hi'.2 hj'.1 hj'.2
theorem Cut.left_no (h : Cut X Y F a m b s d e) (hn : s ≤ a ∨ d ≤ s) : Re (cutG F m s e) (cutG F m s e) a d ∧ SoF X Y (cutG F m s e) a d := by
  have hb := h.bd
  have hse := h.se
  refine ⟨Re.refl _ _ _, ?_⟩
  rcases hn with hn | hn
  · have := h.left.2.1
    intro i j h0 h1 h2
    exact this i j (by omega) h1 h2
  · have := h.left.1
    intro i j h0 h1 h2
    exact this i j h0 h1 (by omega)
theorem Cut.right_so (h : Cut X Y F a m b s d e) {G : PF} (g : Re (cutG F m s e) G a d) : SoF X Y G d e ∧ SoF X Y G e b ∧ LxF G d e b := by
  have hb := h.bd
  have hse := h.se
  obtain ⟨r1, r2, r3⟩ := h.right
  have e1 : ∀ i, d ≤ i → G i = cutG F m s e i := fun i hi => g.out i (.inr hi)
  refine ⟨r1.congr fun i h0 h1 => e1 i h0, r2.congr fun i h0 h1 => e1 i (by omega), fun i j h0 h1 h2 h3 => ?_⟩
  rw [e1 i h0, e1 j (by omega)]
  exact r3 i j h0 h1 h2 h3
theorem Cut.right_no (h : Cut X Y F a m b s d e) {G : PF} (g : Re (cutG F m s e) G a d) (hn : e ≤ d ∨ b ≤ e) : Re G G d b ∧ SoF X Y G d b := by
  have hb := h.bd
  have hse := h.se
  obtain ⟨r1, r2, _⟩ := h.right_so g
  refine ⟨Re.refl _ _ _, ?_⟩
  rcases hn with hn | hn
  · intro i j h0 h1 h2
    exact r2 i j (by omega) h1 h2
  · intro i j h0 h1 h2
    exact r1 i j h0 h1 (by omega)
end

end Go.Proofs.Ytcfkpdjbjfnnmaa
