/- The order of a tree: plain laws. -/
import Derived.Test.YtljhomjaamjfaaaK6
set_option linter.unusedSimpArgs false
set_option linter.unusedVariables false
set_option maxRecDepth 100000
namespace Go.Proofs.Ytljhomjaamjfaaa
open Go.Sym
def ltP (ax ay bx bY : Int) : Bool := decide (ax < bx) || (decide (ax = bx) && decide (ay < bY))
theorem ltP_iff {ax ay bx bY : Int} : ltP ax ay bx bY = true ↔ ax < bx ∨ (ax = bx ∧ ay < bY) := by unfold ltP; simp
theorem ltP_ff {ax ay bx bY : Int} : ltP ax ay bx bY = false ↔ ¬ (ax < bx ∨ (ax = bx ∧ ay < bY)) := by rw [← ltP_iff]; simp

/-- What an axis compares first, and what then. -/
def kx (X Y : Int → Int) (t : Bool) (i : Int) : Int := if t = true then Y i else X i
def ky (X Y : Int → Int) (t : Bool) (i : Int) : Int := if t = true then X i else Y i
def bfK (X Y : Int → Int) (t : Bool) (a b : Int) : Bool := decide (kx X Y t a < kx X Y t b) || (decide (kx X Y t a = kx X Y t b) && (decide (ky X Y t a < ky X Y t b) || (decide (ky X Y t a = ky X Y t b) && decide (a < b))))
theorem bfK_iff {X Y : Int → Int} {t : Bool} {a b : Int} : bfK X Y t a b = true ↔ kx X Y t a < kx X Y t b ∨ (kx X Y t a = kx X Y t b ∧ (ky X Y t a < ky X Y t b ∨ (ky X Y t a = ky X Y t b ∧ a < b))) := by
  unfold bfK; simp
theorem bfK_ff {X Y : Int → Int} {t : Bool} {a b : Int} : bfK X Y t a b = false ↔ ¬ (kx X Y t a < kx X Y t b ∨ (kx X Y t a = kx X Y t b ∧ (ky X Y t a < ky X Y t b ∨ (ky X Y t a = ky X Y t b ∧ a < b)))) := by
  rw [← bfK_iff, Bool.not_eq_true]
def leK (X Y : Int → Int) (t : Bool) (a b : Int) : Bool := !bfK X Y t b a
theorem leK_iff {X Y : Int → Int} {t : Bool} {a b : Int} : leK X Y t a b = true ↔ ¬ (kx X Y t b < kx X Y t a ∨ (kx X Y t b = kx X Y t a ∧ (ky X Y t b < ky X Y t a ∨ (ky X Y t b = ky X Y t a ∧ b < a)))) := by
  unfold leK; rw [Bool.not_eq_true', bfK_ff]
theorem leK_trans {X Y : Int → Int} {t : Bool} (a b c : Int) (h : leK X Y t a b = true) (k : leK X Y t b c = true) : leK X Y t a c = true := by
  rw [leK_iff] at *; omega
theorem leK_total {X Y : Int → Int} {t : Bool} (a b : Int) : (leK X Y t a b || leK X Y t b a) = true := by
  rw [Bool.or_eq_true, leK_iff, leK_iff]; omega
theorem leK_anti {X Y : Int → Int} {t : Bool} {a b : Int} (h : leK X Y t a b = true) (k : leK X Y t b a = true) : a = b := by
  rw [leK_iff] at *; omega
def sortK (X Y : Int → Int) (t : Bool) (l : List Int) : List Int := l.mergeSort (leK X Y t)
theorem sortK_perm (X Y : Int → Int) (t : Bool) (l : List Int) : (sortK X Y t l).Perm l := List.mergeSort_perm l _
theorem sortK_len (X Y : Int → Int) (t : Bool) (l : List Int) : (sortK X Y t l).length = l.length := (sortK_perm X Y t l).length_eq
theorem sortK_sorted (X Y : Int → Int) (t : Bool) (l : List Int) : (sortK X Y t l).Pairwise (fun a b => leK X Y t a b = true) := List.pairwise_mergeSort leK_trans leK_total l
theorem sortK_eq {X Y : Int → Int} {t : Bool} {l s : List Int} (hp : s.Perm l) (hs : s.Pairwise (fun a b => leK X Y t a b = true)) : sortK X Y t l = s :=
  List.Perm.eq_of_pairwise (le := fun a b => leK X Y t a b = true) (fun a b _ _ h k => leK_anti h k) (sortK_sorted X Y t l) hs ((sortK_perm X Y t l).trans hp.symm)
/-- The nodes of a tree, by a measure. -/
def kdL (X Y : Int → Int) : Nat → Bool → List Int → List Int
  | 0, _, _ => []
  | f + 1, t, l => if l = [] then [] else
    (sortK X Y t l).getD (l.length / 2) 0 :: (kdL X Y f (!t) ((sortK X Y t l).take (l.length / 2)) ++ kdL X Y f (!t) ((sortK X Y t l).drop (l.length / 2 + 1)))
def kd (X Y : Int → Int) (t : Bool) (l : List Int) : List Int := kdL X Y l.length t l
theorem kdL_fuel (X Y : Int → Int) : ∀ (f g : Nat) (t : Bool) (l : List Int), l.length ≤ f → l.length ≤ g → kdL X Y f t l = kdL X Y g t l
  | 0, 0, _, _, _, _ => rfl
  | 0, g + 1, t, l, h, _ => by
    have e : l = [] := List.length_eq_zero_iff.1 (by omega)
    simp [kdL, e]
  | f + 1, 0, t, l, _, h => by
    have e : l = [] := List.length_eq_zero_iff.1 (by omega)
    simp [kdL, e]
  | f + 1, g + 1, t, l, h, k => by
    unfold kdL
    by_cases e : l = []
    · rw [if_pos e, if_pos e]
    · rw [if_neg e, if_neg e]
      have hl : 0 < l.length := List.length_pos_iff.2 e
      have hs := sortK_len X Y t l
      rw [kdL_fuel X Y f g (!t) ((sortK X Y t l).take (l.length / 2)) (by rw [List.length_take]; omega) (by rw [List.length_take]; omega), kdL_fuel X Y f g (!t) ((sortK X Y t l).drop (l.length / 2 + 1)) (by rw [List.length_drop]; omega) (by rw [List.length_drop]; omega)]
theorem kd_nil (X Y : Int → Int) (t : Bool) : kd X Y t [] = [] := rfl
theorem kd_cons {X Y : Int → Int} {t : Bool} {l : List Int} (h : l ≠ []) : kd X Y t l = (sortK X Y t l).getD (l.length / 2) 0 :: (kd X Y (!t) ((sortK X Y t l).take (l.length / 2)) ++ kd X Y (!t) ((sortK X Y t l).drop (l.length / 2 + 1))) := by
  have hl : 0 < l.length := List.length_pos_iff.2 h
  have hs := sortK_len X Y t l
  obtain ⟨n, hn⟩ : ∃ n, l.length = n + 1 := ⟨l.length - 1, by omega⟩
  unfold kd
  rw [hn, kdL, if_neg h, ← hn, kdL_fuel X Y n _ (!t) ((sortK X Y t l).take (l.length / 2)) (by rw [List.length_take]; omega) (Nat.le_refl _), kdL_fuel X Y n _ (!t) ((sortK X Y t l).drop (l.length / 2 + 1)) (by rw [List.length_drop]; omega) (Nat.le_refl _)]
theorem kd_perm (X Y : Int → Int) : ∀ (n : Nat) (t : Bool) (l : List Int), l.length ≤ n → (kd X Y t l).Perm l
  | 0, t, l, h => by
    have e : l = [] := List.length_eq_zero_iff.1 (by omega)
    rw [e, kd_nil]
  | n + 1, t, l, h => by
    by_cases e : l = []
    · rw [e, kd_nil]
    · have hl : 0 < l.length := List.length_pos_iff.2 e
      have hs := sortK_len X Y t l
      rw [kd_cons e]
      have h1 := kd_perm X Y n (!t) ((sortK X Y t l).take (l.length / 2)) (by rw [List.length_take]; omega)
      have h2 := kd_perm X Y n (!t) ((sortK X Y t l).drop (l.length / 2 + 1)) (by rw [List.length_drop]; omega)
      refine (List.Perm.cons _ (h1.append h2)).trans (List.Perm.trans ?_ (sortK_perm X Y t l))
      have hlt : l.length / 2 < (sortK X Y t l).length := by omega
      rw [List.getD_eq_getElem?_getD, List.getElem?_eq_getElem hlt, Option.getD_some]
      refine (List.perm_middle (l₁ := (sortK X Y t l).take (l.length / 2))).symm.trans ?_
      rw [← List.drop_eq_getElem_cons hlt, List.take_append_drop]
theorem kd_len (X Y : Int → Int) (t : Bool) (l : List Int) : (kd X Y t l).length = l.length := (kd_perm X Y l.length t l (Nat.le_refl _)).length_eq
theorem kd_mem {X Y : Int → Int} {t : Bool} {l : List Int} {x : Int} : x ∈ kd X Y t l ↔ x ∈ l := (kd_perm X Y l.length t l (Nat.le_refl _)).mem_iff
/-! ### rows of numbers as lists -/
def sg (W : Int → Int) (r m : Int) : List Int := (List.range m.toNat).map fun (i : Nat) => W (r + i)
theorem sg_len (W : Int → Int) (r m : Int) : (sg W r m).length = m.toNat := by simp [sg]
theorem sg_get {W : Int → Int} {r m : Int} {i : Nat} (h : (i : Int) < m) : (sg W r m)[i]? = some (W (r + i)) := by
  unfold sg
  rw [List.getElem?_map, List.getElem?_range (by omega)]
  rfl
theorem sg_at {W : Int → Int} {r m : Int} {i : Nat} (h : (i : Int) < m) : (sg W r m).getD i 0 = W (r + i) := by
  rw [List.getD_eq_getElem?_getD, sg_get h]; rfl
theorem sg_congr {W V : Int → Int} {r s m : Int} (h : ∀ i, 0 ≤ i → i < m → W (r + i) = V (s + i)) : sg W r m = sg V s m := by
  unfold sg
  refine List.map_congr_left fun i hi => h i (by omega) (by have := List.mem_range.1 hi; omega)
theorem sg_nil (W : Int → Int) (r : Int) {m : Int} (h : m ≤ 0) : sg W r m = [] := by
  unfold sg; rw [show m.toNat = 0 by omega]; rfl
theorem sg_split (W : Int → Int) (r : Int) {a b : Int} (ha : 0 ≤ a) (hb : 0 ≤ b) : sg W r (a + b) = sg W r a ++ sg W (r + a) b := by
  apply List.ext_getElem?
  intro i
  rw [List.getElem?_append]
  split
  · rename_i h
    rw [sg_len] at h
    rw [sg_get (by omega), sg_get (by omega)]
  · rename_i h
    rw [sg_len] at h ⊢
    by_cases hi : (i : Int) < a + b
    · rw [sg_get hi, sg_get (by omega)]
      congr 2; omega
    · rw [List.getElem?_eq_none (by rw [sg_len]; omega), List.getElem?_eq_none (by rw [sg_len]; omega)]
theorem sg_one (W : Int → Int) (r : Int) : sg W r 1 = [W r] := by
  unfold sg
  show [W (r + ((0 : Nat) : Int))] = _
  rw [show r + ((0 : Nat) : Int) = r by omega]
theorem sg_take {W : Int → Int} {r m k : Int} (h0 : 0 ≤ k) (h1 : k ≤ m) : (sg W r m).take k.toNat = sg W r k := by
  have e := sg_split W r h0 (show 0 ≤ m - k by omega)
  rw [show k + (m - k) = m by omega] at e
  rw [e, List.take_append_of_le_length (by rw [sg_len]; omega), List.take_of_length_le (by rw [sg_len]; omega)]
theorem sg_drop {W : Int → Int} {r m k : Int} (h0 : 0 ≤ k) (h1 : k ≤ m) : (sg W r m).drop k.toNat = sg W (r + k) (m - k) := by
  have e := sg_split W r h0 (show 0 ≤ m - k by omega)
  rw [show k + (m - k) = m by omega] at e
  rw [e]
  have hl : k.toNat = (sg W r k).length := by rw [sg_len]
  rw [hl, List.drop_left]
theorem sg_mem {W : Int → Int} {r m x : Int} : x ∈ sg W r m ↔ ∃ i, 0 ≤ i ∧ i < m ∧ W (r + i) = x := by
  unfold sg
  rw [List.mem_map]
  constructor
  · rintro ⟨i, hi, rfl⟩; exact ⟨i, by omega, by have := List.mem_range.1 hi; omega, rfl⟩
  · rintro ⟨i, h0, h1, rfl⟩; exact ⟨i.toNat, List.mem_range.2 (by omega), by rw [show ((i.toNat : Nat) : Int) = i by omega]⟩
/-- Sorted so far: the first i, put in order. -/
def KS (X Y : Int → Int) (t : Bool) (Z : Int → Int) (r : Int) (W : Int → Int) (i : Int) : Prop := sortK X Y t (sg Z r i) = sg W 0 i
theorem KS_zero (X Y : Int → Int) (t : Bool) (Z : Int → Int) (r : Int) (W : Int → Int) : KS X Y t Z r W 0 := by
  unfold KS; rw [sg_nil Z r (Int.le_refl _), sg_nil W 0 (Int.le_refl _)]; simp [sortK]
theorem KS_bd {X Y : Int → Int} {t : Bool} {Z : Int → Int} {r : Int} {W : Int → Int} {i lo hi : Int} (h : KS X Y t Z r W i) (hZ : ∀ k, r ≤ k → k < r + i → lo ≤ Z k ∧ Z k < hi) (k : Int) (h0 : 0 ≤ k) (h1 : k < i) : lo ≤ W k ∧ W k < hi := by
  have hm : W k ∈ sg W 0 i := sg_mem.2 ⟨k, h0, h1, by rw [Int.zero_add]⟩
  unfold KS at h
  rw [← h, (sortK_perm X Y t _).mem_iff] at hm
  obtain ⟨j, j0, j1, e⟩ := sg_mem.1 hm
  rw [← e]
  exact hZ _ (by omega) (by omega)
theorem KS_le {X Y : Int → Int} {t : Bool} {Z : Int → Int} {r : Int} {W : Int → Int} {i a b : Int} (h : KS X Y t Z r W i) (h0 : 0 ≤ a) (h1 : a < b) (h2 : b < i) : leK X Y t (W a) (W b) = true := by
  have hs := sortK_sorted X Y t (sg Z r i)
  rw [show sortK X Y t (sg Z r i) = sg W 0 i from h] at hs
  have hl := sg_len W 0 i
  have := List.pairwise_iff_getElem.1 hs a.toNat b.toNat (by omega) (by omega) (by omega)
  have ea := sg_get (W := W) (r := 0) (m := i) (i := a.toNat) (by omega)
  have eb := sg_get (W := W) (r := 0) (m := i) (i := b.toNat) (by omega)
  rw [List.getElem?_eq_getElem (by omega)] at ea eb
  rw [Option.some.inj ea, Option.some.inj eb] at this
  rw [show (0 : Int) + (a.toNat : Int) = a by omega, show (0 : Int) + (b.toNat : Int) = b by omega] at this
  exact this
theorem KS_ins {X Y : Int → Int} {t : Bool} {Z : Int → Int} {r : Int} {W V : Int → Int} {i k : Int} (h : KS X Y t Z r W i) (h0 : 0 ≤ k) (h1 : k ≤ i) (hb : ∀ s, k ≤ s → s < i → bfK X Y t (Z (r + i)) (W s) = true)
    (hn : 0 < k → bfK X Y t (Z (r + i)) (W (k - 1)) = false) (hV : ∀ s, 0 ≤ s → s < i + 1 → V s = if s < k then W s else if s = k then Z (r + i) else W (s - 1)) : KS X Y t Z r V (i + 1) := by
  have e1 : sg V 0 (i + 1) = sg W 0 k ++ Z (r + i) :: sg W k (i - k) := by
    have s1 := sg_split V 0 (a := k) (b := 1 + (i - k)) h0 (by omega)
    have s2 := sg_split V (0 + k) (a := 1) (b := i - k) (by omega) (by omega)
    rw [show k + (1 + (i - k)) = i + 1 by omega] at s1
    rw [s1, s2, sg_one]
    rw [show sg V 0 k = sg W 0 k from sg_congr fun s a b => by rw [hV _ (by omega) (by omega), if_pos (by omega)]]
    rw [show sg V (0 + k + 1) (i - k) = sg W k (i - k) from sg_congr fun s a b => by rw [hV _ (by omega) (by omega), if_neg (by omega), if_neg (by omega)]; congr 1; omega]
    rw [hV (0 + k) (by omega) (by omega), if_neg (by omega), if_pos (by omega)]
    rfl
  have e2 : sg W 0 i = sg W 0 k ++ sg W k (i - k) := by
    have s1 := sg_split W 0 (a := k) (b := i - k) h0 (by omega)
    rw [show k + (i - k) = i by omega, Int.zero_add] at s1
    exact s1
  have e3 : sg Z r (i + 1) = sg Z r i ++ [Z (r + i)] := by rw [sg_split Z r (by omega) (by omega), sg_one]
  have hp : (sg W 0 i).Perm (sg Z r i) := by
    have := sortK_perm X Y t (sg Z r i)
    rwa [show sortK X Y t (sg Z r i) = sg W 0 i from h] at this
  unfold KS
  refine sortK_eq ?_ ?_
  · rw [e1, e3]
    refine List.perm_middle.trans (List.Perm.trans ?_ (List.perm_append_comm (l₁ := [Z (r + i)])))
    rw [← e2]
    exact List.Perm.cons _ hp
  · rw [e1]
    have hs := sortK_sorted X Y t (sg Z r i)
    rw [show sortK X Y t (sg Z r i) = sg W 0 i from h, e2, List.pairwise_append] at hs
    obtain ⟨p1, p2, p3⟩ := hs
    refine List.pairwise_append.2 ⟨p1, List.pairwise_cons.2 ⟨fun y hy => ?_, p2⟩, fun x hx y hy => ?_⟩
    · obtain ⟨s, s0, s1, rfl⟩ := sg_mem.1 hy
      have := bfK_iff.1 (hb (k + s) (by omega) (by omega))
      rw [leK_iff]; omega
    · rcases List.mem_cons.1 hy with rfl | hy
      · obtain ⟨s, s0, s1, rfl⟩ := sg_mem.1 hx
        have hk := bfK_ff.1 (hn (by omega))
        have h9 : leK X Y t (W (k - 1)) (Z (r + i)) = true := by rw [leK_iff]; exact hk
        by_cases e : s = k - 1
        · subst e; rw [Int.zero_add]; exact h9
        · refine leK_trans _ _ _ ?_ h9
          rw [Int.zero_add]
          exact KS_le h s0 (by omega) (by omega)
      · exact p3 x hx y hy
/-- What is behind O when the nodes of a part have been appended. -/
def kdO (X Y : Int → Int) (t : Bool) (Z : Int → Int) (r m : Int) (O : Int → Int) (k i : Int) : Int := if i < k then O i else selL (kd X Y t (sg Z r m)) (i - k)
theorem kdO_nil {X Y : Int → Int} {t : Bool} {Z : Int → Int} {r m : Int} {O : Int → Int} {k i : Int} (h : i < k + m) (hm : m ≤ 0) : kdO X Y t Z r m O k i = O i := by
  unfold kdO; rw [if_pos (by omega)]
theorem selL_cons0 (x : Int) (l : List Int) {i : Int} (h : i = 0) : selL (x :: l) i = x := by subst h; rfl
theorem selL_consS (x : Int) (l : List Int) {i : Int} (h : 0 < i) : selL (x :: l) i = selL l (i - 1) := by
  unfold selL
  obtain ⟨n, hn⟩ : ∃ n : Nat, i.toNat = n + 1 := ⟨i.toNat - 1, by omega⟩
  rw [hn, show (i - 1).toNat = n by omega]; rfl
theorem selL_app1 {l l' : List Int} {i : Int} (h0 : 0 ≤ i) (h : i < (l.length : Int)) : selL (l ++ l') i = selL l i := by
  unfold selL
  rw [List.getD_eq_getElem?_getD, List.getD_eq_getElem?_getD, List.getElem?_append_left (by omega)]
theorem selL_app2 {l l' : List Int} {i : Int} (h : (l.length : Int) ≤ i) : selL (l ++ l') i = selL l' (i - l.length) := by
  unfold selL
  rw [List.getD_eq_getElem?_getD, List.getD_eq_getElem?_getD, List.getElem?_append_right (by omega)]
  congr 2; omega
theorem kd_bd {X Y : Int → Int} {t : Bool} {Z : Int → Int} {r m lo hi : Int} (hZ : ∀ k, r ≤ k → k < r + m → lo ≤ Z k ∧ Z k < hi) {i : Int} (h0 : 0 ≤ i) (h1 : i < m) : lo ≤ selL (kd X Y t (sg Z r m)) i ∧ selL (kd X Y t (sg Z r m)) i < hi := by
  have hm : selL (kd X Y t (sg Z r m)) i ∈ kd X Y t (sg Z r m) := selL_mem h0 (by unfold len'; rw [kd_len, sg_len]; omega)
  obtain ⟨j, j0, j1, e⟩ := sg_mem.1 (kd_mem.1 hm)
  rw [← e]
  exact hZ _ (by omega) (by omega)
/-- A node, and the nodes of both parts, in order. -/
theorem kdO_step {X Y : Int → Int} {t : Bool} {Z : Int → Int} {r m h : Int} {O O1 W V : Int → Int} {k i b c : Int} (hm : 0 < m) (hh : h = m / 2) (hW : sortK X Y t (sg Z r m) = sg W b m) (hV : ∀ s, 0 ≤ s → s < m - (h + 1) → V (c + s) = W (b + (h + 1) + s)) (h0 : 0 ≤ i) (hi : i < k + m)
    (ho : ∀ s, 0 ≤ s → s < k → O1 s = O s) (h1 : O1 k = W (b + h)) :
    kdO X Y (!t) V c (m - (h + 1)) (kdO X Y (!t) W b h O1 (k + 1)) (k + 1 + h) i = kdO X Y t Z r m O k i := by
  have hl : sg Z r m ≠ [] := by
    intro e
    have := sg_len Z r m
    rw [e] at this
    simp at this; omega
  have e0 : ((sg Z r m).length / 2 : Nat) = h.toNat := by rw [sg_len]; omega
  have hk := kd_cons (X := X) (Y := Y) (t := t) hl
  rw [e0, hW, sg_take (by omega) (by omega), show h.toNat + 1 = (h + 1).toNat by omega, sg_drop (by omega) (by omega), sg_at (by omega), show b + ((h.toNat : Nat) : Int) = b + h by omega] at hk
  rw [show sg W (b + (h + 1)) (m - (h + 1)) = sg V c (m - (h + 1)) from sg_congr fun s a b => (hV s a b).symm] at hk
  have l1 : ((kd X Y (!t) (sg W b h)).length : Int) = h := by rw [kd_len, sg_len]; omega
  unfold kdO
  by_cases c1 : i < k
  · rw [if_pos (by omega), if_pos (by omega), if_pos c1]; exact ho i h0 c1
  · rw [if_neg c1, hk]
    by_cases c2 : i = k
    · rw [if_pos (by omega), if_pos (by omega), selL_cons0 _ _ (by omega), c2, h1]
    · rw [selL_consS _ _ (by omega)]
      by_cases c3 : i < k + 1 + h
      · rw [if_pos c3, if_neg (by omega), selL_app1 (by omega) (by omega)]; congr 1; omega
      · rw [if_neg c3, selL_app2 (by omega)]; congr 1; omega
theorem kdO_ref {X Y : Int → Int} {Z : Int → Int} {r m : Int} {O W : Int → Int} {k i ax : Int} (hm : 0 < m) (ha : ax = 0 ∨ ax = 1) (hW : KS X Y (decide (ax = 1)) Z r W m) (h0 : 0 ≤ i) (hi : i < k + m) :
    kdO X Y (decide (1 - ax = 1)) W (Int.tdiv m 2 + 1) (m - (Int.tdiv m 2 + 1)) (kdO X Y (decide (1 - ax = 1)) W 0 (Int.tdiv m 2) (fun ι => if ι = k then W (Int.tdiv m 2) else O ι) (k + 1)) (k + 1 + Int.tdiv m 2) i = kdO X Y (decide (ax = 1)) Z r m O k i := by
  have ht := Int.tdiv_eq_ediv_of_nonneg (a := m) (b := 2) (by omega)
  have e : decide (1 - ax = 1) = !decide (ax = 1) := by rcases ha with rfl | rfl <;> rfl
  rw [e]
  refine kdO_step hm ht hW (fun s a b => ?_) h0 hi (fun s a b => ?_) ?_
  · rw [Int.zero_add]
  · exact if_neg (by omega)
  · rw [Int.zero_add]; exact if_pos rfl
theorem ins_cat {W : Int → Int} {x j s : Int} : (if decide (s < j + 1) = true then (if decide (s < j) = true then W s else x) else W (s - (j + 1) + j)) = if s < j then W s else if s = j then x else W (s - 1) := by
  by_cases h1 : s < j
  · rw [if_pos (decide_eq_true (by omega)), if_pos (decide_eq_true h1), if_pos h1]
  · rw [if_neg h1]
    by_cases h2 : s = j
    · rw [if_pos (decide_eq_true (by omega)), if_neg (by simpa using h1), if_pos h2]
    · rw [if_neg (by simp; omega), if_neg h2]
      congr 1; omega
/-- A part put in order where it lies. -/
def ssZ (X Y : Int → Int) (t : Bool) (Z : Int → Int) (r m i : Int) : Int := if r ≤ i ∧ i < r + m then selL (sortK X Y t (sg Z r m)) (i - r) else Z i
theorem ssZ_in {X Y : Int → Int} {t : Bool} {Z : Int → Int} {r m : Int} (hm : 0 ≤ m) : sg (ssZ X Y t Z r m) r m = sortK X Y t (sg Z r m) := by
  apply List.ext_getElem?
  intro i
  have hl := sortK_len X Y t (sg Z r m)
  rw [sg_len] at hl
  by_cases hi : (i : Int) < m
  · rw [sg_get hi]
    unfold ssZ selL
    rw [if_pos (by omega), List.getD_eq_getElem?_getD, show (r + (i : Int) - r).toNat = i by omega, List.getElem?_eq_getElem (by omega)]
    rfl
  · rw [List.getElem?_eq_none (by rw [sg_len]; omega), List.getElem?_eq_none (by omega)]
theorem ssZ_out {X Y : Int → Int} {t : Bool} {Z : Int → Int} {r m i : Int} (h : i < r ∨ r + m ≤ i) : ssZ X Y t Z r m i = Z i := if_neg (by omega)
theorem ssZ_bd {X Y : Int → Int} {t : Bool} {Z : Int → Int} {r m i lo hi : Int} (hZ : ∀ k, r ≤ k → k < r + m → lo ≤ Z k ∧ Z k < hi) (h0 : r ≤ i) (h1 : i < r + m) : lo ≤ ssZ X Y t Z r m i ∧ ssZ X Y t Z r m i < hi := by
  have hm : ssZ X Y t Z r m i ∈ sg (ssZ X Y t Z r m) r m := sg_mem.2 ⟨i - r, by omega, by omega, by congr 1; omega⟩
  rw [ssZ_in (by omega), (sortK_perm X Y t _).mem_iff] at hm
  obtain ⟨j, j0, j1, e⟩ := sg_mem.1 hm
  rw [← e]
  exact hZ _ (by omega) (by omega)
theorem kdO_imp {X Y : Int → Int} {t : Bool} {Z Z1 : Int → Int} {r m : Int} {O : Int → Int} {k i : Int} (hm : 0 < m) (h1 : ∀ q, (q < r ∨ r + Int.tdiv m 2 ≤ q) → Z1 q = ssZ X Y t Z r m q) (h0 : 0 ≤ i) (hi : i < k + m) :
    kdO X Y (!t) Z1 (r + (Int.tdiv m 2 + 1)) (m - (Int.tdiv m 2 + 1)) (kdO X Y (!t) (ssZ X Y t Z r m) r (Int.tdiv m 2) (fun κ => if κ = k then ssZ X Y t Z r m (r + Int.tdiv m 2) else O κ) (k + 1)) (k + 1 + Int.tdiv m 2) i = kdO X Y t Z r m O k i := by
  have ht := Int.tdiv_eq_ediv_of_nonneg (a := m) (b := 2) (by omega)
  refine kdO_step hm ht (ssZ_in (by omega)).symm (fun s a b => h1 _ (by omega)) h0 hi (fun s a b => ?_) ?_
  · exact if_neg (by omega)
  · exact if_pos rfl
/-- The order of a list, and how long it is. -/
def kdR (X Y : Int → Int) (n : Int) : List Int := if listB X Y n = true then kd X Y false (sg (fun i => i) 0 n) else []
theorem kdR_yes {X Y : Int → Int} {n : Int} (h : listB X Y n = true) : kdR X Y n = kd X Y false (sg (fun i => i) 0 n) := if_pos h
theorem kdR_no {X Y : Int → Int} {n : Int} (h : listB X Y n = false) : kdR X Y n = [] := if_neg (by rw [h]; decide)
def kdN (X Y : Int → Int) (n : Int) : Int := if listB X Y n = true then n else 0
theorem kdN_yes {X Y : Int → Int} {n : Int} (h : listB X Y n = true) : kdN X Y n = n := if_pos h
theorem kdN_no {X Y : Int → Int} {n : Int} (h : listB X Y n = false) : kdN X Y n = 0 := if_neg (by rw [h]; decide)
theorem kdR_len {X Y : Int → Int} {n : Int} (hn : 0 ≤ n) : ((kdR X Y n).length : Int) = kdN X Y n := by
  cases h : listB X Y n with
  | true => rw [kdR_yes h, kdN_yes h, kd_len, sg_len]; omega
  | false => rw [kdR_no h, kdN_no h]; rfl
theorem kdR_bd {X Y : Int → Int} {n i : Int} (h0 : 0 ≤ i) (h1 : i < kdN X Y n) : 0 ≤ selL (kdR X Y n) i ∧ selL (kdR X Y n) i < n := by
  cases h : listB X Y n with
  | true =>
    rw [kdN_yes h] at h1
    rw [kdR_yes h]
    exact kd_bd (fun k a b => by omega) h0 h1
  | false => rw [kdN_no h] at h1; omega
theorem kdO_all {X Y : Int → Int} {n i : Int} {Z O : Int → Int} (h : listB X Y n = true) (h0 : 0 ≤ i) (hZ : ∀ s, 0 ≤ s → s < n → Z s = s) : kdO X Y false Z 0 n O 0 i = selL (kdR X Y n) i := by
  unfold kdO
  rw [if_neg (by omega), kdR_yes h, Int.sub_zero, show sg Z 0 n = sg (fun i => i) 0 n from sg_congr fun s a b => by rw [hZ _ (by omega) (by omega)]]

end Go.Proofs.Ytljhomjaamjfaaa
