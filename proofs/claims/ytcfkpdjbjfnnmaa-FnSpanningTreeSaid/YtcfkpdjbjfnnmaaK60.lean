/- Forests, searches, pairs: plain laws. -/
import Derived.Test.YtcfkpdjbjfnnmaaK15
import Derived.Test.YtcfkpdjbjfnnmaaK33
set_option linter.unusedSimpArgs false
set_option linter.unusedVariables false
set_option maxRecDepth 100000
namespace Go.Proofs.Ytcfkpdjbjfnnmaa
open Go.Sym
/-- What stands at a place when the first j have been looked at. -/
def dl (K : Int → Bool) (A : Int → Int) (j i : Int) : Int := if i < len' (fl K j) then A (selL (fl K j) i) else A i
theorem fl_all {K : Int → Bool} : ∀ m : Nat, (∀ i : Int, 0 ≤ i → i < m → K i = true) → len' (fl K m) = m ∧ ∀ i : Int, 0 ≤ i → i < m → selL (fl K m) i = i
  | 0, _ => ⟨rfl, fun i h0 h1 => by omega⟩
  | m + 1, h => by
    obtain ⟨a, b⟩ := fl_all m fun i h0 h1 => h i h0 (by omega)
    have e : ((m + 1 : Nat) : Int) = (m : Int) + 1 := by omega
    rw [e, fl_yes (by omega) (h m (by omega) (by omega))]
    refine ⟨by rw [len'_snoc, a], fun i h0 h1 => ?_⟩
    by_cases hi : i = (m : Int)
    · rw [selL_new (by omega), hi]
    · rw [selL_old h0 (by omega)]; exact b i h0 (by omega)
theorem fl_allI {K : Int → Bool} {m : Int} (hm : 0 ≤ m) (h : ∀ i : Int, 0 ≤ i → i < m → K i = true) : len' (fl K m) = m ∧ ∀ i : Int, 0 ≤ i → i < m → selL (fl K m) i = i := by
  have := fl_all (K := K) m.toNat fun i h0 h1 => h i h0 (by omega)
  rw [show ((m.toNat : Nat) : Int) = m by omega] at this
  exact this
/-- Before the first that goes, all is as it was. -/
theorem dl_start {K : Int → Bool} {A : Int → Int} {j : Int} (h0 : 0 ≤ j) (hK : K j = false) (h : ∀ i, 0 ≤ i → i < j → K i = true) : len' (fl K (j + 1)) = j ∧ ∀ i, 0 ≤ i → dl K A (j + 1) i = A i := by
  obtain ⟨a, b⟩ := fl_allI h0 h
  rw [fl_no h0 hK]
  refine ⟨a, fun i i0 => ?_⟩
  unfold dl
  rw [fl_no h0 hK]
  split
  · rw [b i i0 (by omega)]
  · rfl
theorem dl_self {K : Int → Bool} {A : Int → Int} {j : Int} (h0 : 0 ≤ j) : dl K A j j = A j := by
  have := fl_bd K h0
  unfold dl
  rw [if_neg (by omega)]
theorem dl_at {K : Int → Bool} {A : Int → Int} {j i : Int} (h : i < len' (fl K j)) : dl K A j i = A (selL (fl K j) i) := by unfold dl; rw [if_pos h]
theorem dl_no {K : Int → Bool} {A : Int → Int} {j i : Int} (h0 : 0 ≤ j) (hK : K j = false) : dl K A (j + 1) i = dl K A j i := by unfold dl; rw [fl_no h0 hK]
theorem dl_yes {K : Int → Bool} {A : Int → Int} {j i : Int} (h0 : 0 ≤ j) (hK : K j = true) (hi : 0 ≤ i) : (i ≠ len' (fl K j) → dl K A (j + 1) i = dl K A j i) ∧ (i = len' (fl K j) → dl K A (j + 1) i = A j) := by
  have hb := fl_bd K h0
  unfold dl
  rw [fl_yes h0 hK, len'_snoc]
  refine ⟨fun h => ?_, fun h => ?_⟩
  · by_cases h1 : i < len' (fl K j)
    · rw [if_pos (by omega), if_pos h1, selL_old hi h1]
    · rw [if_neg (by omega), if_neg h1]
  · rw [if_pos (by omega), selL_new h]

/-- All pairs of indices before (j, k). -/
def prsL (n j k : Int) : List (Int × Int) := ((List.range j.toNat).flatMap fun (a : Nat) => (List.range (n.toNat - a - 1)).map fun (i : Nat) => ((a : Int), (a : Int) + 1 + (i : Int))) ++ (List.range (k - j - 1).toNat).map fun (i : Nat) => (j, j + 1 + (i : Int))
def lenP (l : List (Int × Int)) : Int := (l.length : Nat)
def sA (l : List (Int × Int)) (i : Int) : Int := (l.getD i.toNat (0, 0)).1
def sB (l : List (Int × Int)) (i : Int) : Int := (l.getD i.toNat (0, 0)).2
theorem prsL_0 (n : Int) : prsL n 0 (0 + 1) = [] := rfl
theorem prsL_in {n j k : Int} (h : j + 1 ≤ k) : prsL n j (k + 1) = prsL n j k ++ [(j, k)] := by
  unfold prsL
  rw [show (k + 1 - j - 1).toNat = (k - j - 1).toNat + 1 by omega, List.range_succ, List.map_append, ← List.append_assoc]
  simp only [List.map_cons, List.map_nil]
  rw [show j + 1 + (((k - j - 1).toNat : Nat) : Int) = k by omega]
theorem prsL_out {n j : Int} (h0 : 0 ≤ j) (h1 : j < n) : prsL n (j + 1) (j + 1 + 1) = prsL n j n := by
  unfold prsL
  rw [show (j + 1 + 1 - (j + 1) - 1).toNat = 0 by omega, show (j + 1).toNat = j.toNat + 1 by omega, List.range_succ, List.flatMap_append]
  simp only [List.range_zero, List.map_nil, List.append_nil, List.flatMap_cons, List.flatMap_nil]
  rw [show n.toNat - j.toNat - 1 = (n - j - 1).toNat by omega, show ((j.toNat : Nat) : Int) = j by omega]
theorem prsL_mem {n x y : Int} (h : 0 ≤ n) : (x, y) ∈ prsL n n (n + 1) ↔ 0 ≤ x ∧ x < y ∧ y < n := by
  unfold prsL
  rw [show (n + 1 - n - 1).toNat = 0 by omega]
  simp only [List.range_zero, List.map_nil, List.append_nil, List.mem_flatMap, List.mem_range, List.mem_map, Prod.mk.injEq]
  constructor
  · rintro ⟨a, ha, i, hi, rfl, rfl⟩; omega
  · rintro ⟨h1, h2, h3⟩
    exact ⟨x.toNat, by omega, (y - x - 1).toNat, by omega, by omega, by omega⟩
theorem lenP_snoc (l : List (Int × Int)) (x : Int × Int) : lenP (l ++ [x]) = lenP l + 1 := by unfold lenP; simp
theorem lenP_nn (l : List (Int × Int)) : 0 ≤ lenP l := by unfold lenP; omega
theorem s_old {l : List (Int × Int)} {x : Int × Int} {i : Int} (h : 0 ≤ i) (h1 : i < lenP l) : sA (l ++ [x]) i = sA l i ∧ sB (l ++ [x]) i = sB l i := by
  unfold sA sB lenP at *
  rw [List.getD_eq_getElem?_getD, List.getD_eq_getElem?_getD, List.getElem?_append_left (by omega)]
  exact ⟨rfl, rfl⟩
theorem s_new {l : List (Int × Int)} {x : Int × Int} {i : Int} (h1 : i = lenP l) : sA (l ++ [x]) i = x.1 ∧ sB (l ++ [x]) i = x.2 := by
  unfold sA sB lenP at *
  rw [List.getD_eq_getElem?_getD, List.getElem?_append_right (by omega)]
  simp [show i.toNat - l.length = 0 by omega]
theorem s_mem {l : List (Int × Int)} {i : Int} (h0 : 0 ≤ i) (h1 : i < lenP l) : (sA l i, sB l i) ∈ l := by
  unfold sA sB lenP at *
  rw [List.getD_eq_getElem?_getD, List.getElem?_eq_getElem (by omega)]
  exact List.getElem_mem _
theorem s_idx {l : List (Int × Int)} {x y : Int} (h : (x, y) ∈ l) : ∃ i, 0 ≤ i ∧ i < lenP l ∧ sA l i = x ∧ sB l i = y := by
  obtain ⟨i, hi, e⟩ := List.mem_iff_getElem.1 h
  refine ⟨(i : Nat), by omega, by unfold lenP; omega, ?_, ?_⟩
  · unfold sA; rw [Int.toNat_natCast, List.getD_eq_getElem?_getD, List.getElem?_eq_getElem hi, e]; rfl
  · unfold sB; rw [Int.toNat_natCast, List.getD_eq_getElem?_getD, List.getElem?_eq_getElem hi, e]; rfl
theorem prs_len {n : Int} : ∀ j : Nat, (j : Int) ≤ n → lenP (prsL n j (j + 1)) ≤ 19 * j ∨ 20 < n
  | 0, _ => .inl (by show lenP [] ≤ 0; exact Int.le_refl _)
  | j + 1, hj => by
    rcases prs_len (n := n) j (by omega) with h | h
    · by_cases h20 : 20 < n
      · exact .inr h20
      · left
        have e : prsL n ((j + 1 : Nat) : Int) (((j + 1 : Nat) : Int) + 1) = prsL n j n := by
          rw [show ((j + 1 : Nat) : Int) = (j : Int) + 1 by omega]
          exact prsL_out (by omega) (by omega)
        have key : ∀ k : Nat, lenP (prsL n j (j + 1 + k)) = lenP (prsL n j (j + 1)) + k := by
          intro k
          induction k with
          | zero => rw [show (j : Int) + 1 + ((0 : Nat) : Int) = j + 1 by omega]; omega
          | succ k ih => rw [show (j : Int) + 1 + ((k + 1 : Nat) : Int) = (j + 1 + k) + 1 by omega, prsL_in (by omega), lenP_snoc, ih]; omega
        have k2 := key (n - j - 1).toNat
        rw [show (j : Int) + 1 + ((n - j - 1).toNat : Nat) = n by omega] at k2
        rw [e, k2]
        omega
    · exact .inr h

/-- The better of a pair and the next one. -/
def stpP (D : Int → Int → Int) (G : Int → Int) (i k : Int) (s : Int × Int) : Int × Int := if G i ≠ G k ∧ (s.1 < 0 ∨ D i k < D s.1 s.2) then (i, k) else s
def bpI (D : Int → Int → Int) (G : Int → Int) (i : Int) : Nat → Int × Int → Int × Int
  | 0, s => s
  | m + 1, s => stpP D G i (i + 1 + m) (bpI D G i m s)
def bpO (D : Int → Int → Int) (G : Int → Int) (n : Int) : Nat → Int × Int
  | 0 => (-1, 0)
  | j + 1 => bpI D G j (n - j - 1).toNat (bpO D G n j)
def okS (G : Int → Int) (n : Int) (s : Int × Int) : Prop := s = (-1, 0) ∨ ((0 ≤ s.1 ∧ s.1 < s.2) ∧ s.2 < n ∧ G s.1 ≠ G s.2)
theorem stpP_ok {D : Int → Int → Int} {G : Int → Int} {n i k : Int} {s : Int × Int} (h : okS G n s) (h0 : 0 ≤ i) (h1 : i < k) (h2 : k < n) : okS G n (stpP D G i k s) := by
  unfold stpP
  split
  · rename_i hc
    exact .inr ⟨⟨h0, h1⟩, h2, hc.1⟩
  · exact h
theorem bpI_ok {D : Int → Int → Int} {G : Int → Int} {n i : Int} {s : Int × Int} (h : okS G n s) (h0 : 0 ≤ i) : ∀ m : Nat, i + 1 + m ≤ n → okS G n (bpI D G i m s)
  | 0, _ => h
  | m + 1, hm => stpP_ok (bpI_ok h h0 m (by omega)) h0 (by omega) (by omega)
theorem bpO_ok {D : Int → Int → Int} {G : Int → Int} {n : Int} : ∀ j : Nat, (j : Int) ≤ n → okS G n (bpO D G n j)
  | 0, _ => .inl rfl
  | j + 1, hj => bpI_ok (bpO_ok j (by omega)) (by omega) _ (by omega)
theorem stpP_nn {D : Int → Int → Int} {G : Int → Int} {i k : Int} {s : Int × Int} (h0 : 0 ≤ i) (h : 0 ≤ s.1 ∨ G i ≠ G k) : 0 ≤ (stpP D G i k s).1 := by
  unfold stpP
  split
  · exact h0
  · rename_i hc
    rcases h with h | h
    · exact h
    · refine Classical.byContradiction fun hn => hc ⟨h, .inl (by omega)⟩
theorem bpI_nn {D : Int → Int → Int} {G : Int → Int} {i : Int} {s : Int × Int} (h0 : 0 ≤ i) : ∀ m : Nat, (0 ≤ s.1 ∨ ∃ k : Int, (i + 1 ≤ k ∧ k < i + 1 + m) ∧ G i ≠ G k) → 0 ≤ (bpI D G i m s).1
  | 0, h => by
    rcases h with h | ⟨k, hk, _⟩
    · exact h
    · omega
  | m + 1, h => by
    refine stpP_nn h0 ?_
    by_cases e : G i ≠ G (i + 1 + m)
    · exact .inr e
    · refine .inl (bpI_nn h0 m ?_)
      rcases h with h | ⟨k, hk, hg⟩
      · exact .inl h
      · refine .inr ⟨k, ⟨hk.1, ?_⟩, hg⟩
        refine Classical.byContradiction fun hc => e ?_
        rw [show i + 1 + (m : Int) = k by omega]
        exact hg
theorem bpO_nn {D : Int → Int → Int} {G : Int → Int} {n : Int} : ∀ j : Nat, (j : Int) ≤ n → (∃ i k : Int, (0 ≤ i ∧ i < j) ∧ (i < k ∧ k < n) ∧ G i ≠ G k) → 0 ≤ (bpO D G n j).1
  | 0, _, ⟨i, k, h, _⟩ => by omega
  | j + 1, hj, ⟨i, k, hi, hk, hg⟩ => by
    refine bpI_nn (by omega) _ ?_
    by_cases e : i = j
    · subst e
      exact .inr ⟨k, ⟨by omega, by omega⟩, hg⟩
    · exact .inl (bpO_nn j (by omega) ⟨i, k, ⟨hi.1, by omega⟩, hk, hg⟩)
def mrg (G : Int → Int) (s : Int × Int) (i : Int) : Int := if G i = G s.2 then G s.1 else G i
/-- A value is taken. -/
def hit (G : Int → Int) (n v : Int) : Bool := !(allB (fun i => !(decide (G i = v))) n)
theorem hit_iff {G : Int → Int} {n v : Int} : hit G n v = true ↔ ∃ i, (0 ≤ i ∧ i < n) ∧ G i = v := by
  unfold hit
  rw [Bool.not_eq_true', ← Bool.not_eq_true, allB_iff]
  constructor
  · intro h
    refine Classical.byContradiction fun hc => h fun i a b => ?_
    rw [Bool.not_eq_true', decide_eq_false_iff_not]
    exact fun e => hc ⟨i, ⟨a, b⟩, e⟩
  · rintro ⟨i, ⟨a, b⟩, e⟩ h
    have := h i a b
    rw [Bool.not_eq_true', decide_eq_false_iff_not] at this
    exact this e
def cnt (G : Int → Int) (n : Int) : Int := len' (fl (hit G n) n)
theorem one_v (w : Int) : ∀ m : Nat, smf (fun v => bi (decide (v = w))) m ≤ 1 ∧ ((m : Int) ≤ w → smf (fun v => bi (decide (v = w))) m = 0)
  | 0 => by rw [smf]; exact ⟨by decide, fun _ => rfl⟩
  | m + 1 => by
    obtain ⟨a, b⟩ := one_v w m
    rw [smf]
    by_cases e : (m : Int) = w
    · rw [b (by omega), decide_eq_true e]
      exact ⟨by decide, fun h => by omega⟩
    · rw [decide_eq_false e]
      show _ + 0 ≤ 1 ∧ (_ → _ + 0 = 0)
      exact ⟨by omega, fun h => by have := b (by omega); omega⟩
theorem fl_but {q r : Int → Bool} {n w : Int} (h : 0 ≤ n) (hq : ∀ v, 0 ≤ v → v < n → v ≠ w → q v = true → r v = true) : len' (fl q n) ≤ len' (fl r n) + 1 := by
  rw [fl_int h, fl_int h]
  have h1 : smf (fun v => bi (q v)) n.toNat ≤ smf (fun v => bi (r v) + bi (decide (v = w))) n.toNat := by
    refine smf_le _ fun v a b => ?_
    by_cases e : (v : Int) = w
    · rw [decide_eq_true e]
      have h1 := bi_bd (q v)
      have h2 := bi_bd (r v)
      show _ ≤ _ + 1
      omega
    · have hz := hq v (by omega) (by omega) e
      have h2 := bi_bd (decide ((v : Int) = w))
      cases hv : q v with
      | false =>
        have h3 := bi_bd (r v)
        show 0 ≤ _
        omega
      | true =>
        rw [hz hv]
        show (1 : Int) ≤ 1 + _
        omega
  rw [smf_add] at h1
  have := (one_v w n.toNat).1
  omega
theorem cnt_id {n : Int} (h : 0 ≤ n) : cnt (fun i => i) n = n := by
  unfold cnt
  exact (fl_allI h fun i a b => hit_iff.2 ⟨i, ⟨a, b⟩, rfl⟩).1
theorem cnt_mrg {G : Int → Int} {n : Int} {s : Int × Int} (h : 0 ≤ n) : cnt G n ≤ cnt (mrg G s) n + 1 := by
  refine fl_but (w := G s.2) h fun v a b e hv => ?_
  obtain ⟨i, hi, rfl⟩ := hit_iff.1 hv
  refine hit_iff.2 ⟨i, hi, ?_⟩
  unfold mrg
  rw [if_neg e]
theorem cnt_one {G : Int → Int} {n : Int} (h : 0 ≤ n) (ha : ∀ i k : Int, (0 ≤ i ∧ i < k) → k < n → G i = G k) : cnt G n ≤ 1 := by
  have h0 : len' (fl (fun _ => false) n) = 0 := fl_nil h fun _ _ _ => rfl
  have := fl_but (q := hit G n) (r := fun _ => false) (w := G 0) h (fun v a b e hv => by
    exfalso
    obtain ⟨i, hi, rfl⟩ := hit_iff.1 hv
    by_cases hz : i = 0
    · exact e (by rw [hz])
    · exact e (ha 0 i ⟨by omega, by omega⟩ hi.2).symm)
  unfold cnt
  omega
def mhD (X Y : Int → Int) (i k : Int) : Int := mht (X i) (Y i) (X k) (Y k)
/-- The groups when so many edges are there. -/
def spG (X Y : Int → Int) (n : Int) : Nat → Int → Int
  | 0 => fun i => i
  | t + 1 => mrg (spG X Y n t) (bpO (mhD X Y) (spG X Y n t) n n.toNat)
def bq (X Y : Int → Int) (n t j : Int) : Int × Int := bpO (mhD X Y) (spG X Y n t.toNat) n j.toNat
def br (X Y : Int → Int) (n t j k : Int) : Int × Int := bpI (mhD X Y) (spG X Y n t.toNat) j (k - j - 1).toNat (bq X Y n t j)
def gG (X Y : Int → Int) (n t i : Int) : Int := spG X Y n t.toNat i
def spU (X Y : Int → Int) (n t : Int) : Int := (bq X Y n t n).1
def spV (X Y : Int → Int) (n t : Int) : Int := (bq X Y n t n).2
def gM (X Y : Int → Int) (n t j i : Int) : Int := if i < j then gG X Y n (t + 1) i else gG X Y n t i
theorem spG_cnt (X Y : Int → Int) {n : Int} (h : 0 ≤ n) : ∀ t : Nat, n - t ≤ cnt (spG X Y n t) n
  | 0 => by
    have := cnt_id h
    show n - ((0 : Nat) : Int) ≤ cnt (fun i => i) n
    omega
  | t + 1 => by
    have ih := spG_cnt X Y h t
    have := cnt_mrg (G := spG X Y n t) (s := bpO (mhD X Y) (spG X Y n t) n n.toNat) h
    show _ ≤ cnt (mrg _ _) n
    omega
/-- There is a pair to be joined. -/
theorem bq_ok {X Y : Int → Int} {n t : Int} (h0 : 0 ≤ t) (h1 : t + 1 < n) : ((0 ≤ spU X Y n t ∧ spU X Y n t < spV X Y n t) ∧ spV X Y n t < n) ∧ gG X Y n t (spU X Y n t) ≠ gG X Y n t (spV X Y n t) := by
  have hc := spG_cnt X Y (n := n) (by omega) t.toNat
  have hn : 0 ≤ (bq X Y n t n).1 := by
    refine bpO_nn _ (by omega) ?_
    refine Classical.byContradiction fun hcon => ?_
    have := cnt_one (G := spG X Y n t.toNat) (n := n) (by omega) fun i k hi hk => by
      refine Classical.byContradiction fun hg => hcon ⟨i, k, ⟨hi.1, by omega⟩, ⟨hi.2, hk⟩, hg⟩
    omega
  have ho : okS (spG X Y n t.toNat) n (bq X Y n t n) := bpO_ok _ (by omega)
  rcases ho with ho | ⟨a, b, c⟩
  · rw [ho] at hn
    exact absurd hn (by decide)
  · exact ⟨⟨a, b⟩, c⟩
theorem gG_bd {X Y : Int → Int} {n : Int} : ∀ t : Nat, (t : Int) < n → ∀ i, 0 ≤ i → i < n → 0 ≤ spG X Y n t i ∧ spG X Y n t i < n
  | 0, _ => fun i a b => ⟨a, b⟩
  | t + 1, h => fun i a b => by
    have ih := gG_bd (X := X) (Y := Y) (n := n) t (by omega)
    have ho := bq_ok (X := X) (Y := Y) (n := n) (t := t) (by omega) (by omega)
    show 0 ≤ mrg _ _ i ∧ mrg _ _ i < n
    unfold mrg
    split
    · exact ih _ ho.1.1.1 (by
        have h1 := ho.1.1.2
        have h2 := ho.1.2
        have : (bpO (mhD X Y) (spG X Y n t) n n.toNat).1 = spU X Y n t := rfl
        omega)
    · exact ih i a b
theorem gG_b {X Y : Int → Int} {n t i : Int} (h0 : 0 ≤ t) (h1 : t < n) (h2 : 0 ≤ i) (h3 : i < n) : 0 ≤ gG X Y n t i ∧ gG X Y n t i < n := gG_bd t.toNat (by omega) i h2 h3
theorem gG_0 (X Y : Int → Int) (n i : Int) : gG X Y n 0 i = i := rfl
theorem gG_next {X Y : Int → Int} {n t i : Int} (h0 : 0 ≤ t) : gG X Y n (t + 1) i = if gG X Y n t i = gG X Y n t (spV X Y n t) then gG X Y n t (spU X Y n t) else gG X Y n t i := by
  unfold gG
  rw [show (t + 1).toNat = t.toNat + 1 by omega, spG]
  rfl
theorem gM_b {X Y : Int → Int} {n t j i : Int} (h0 : 0 ≤ t) (h1 : t + 1 < n) (h2 : 0 ≤ i) (h3 : i < n) : 0 ≤ gM X Y n t j i ∧ gM X Y n t j i < n := by
  unfold gM
  split
  · exact gG_b (by omega) h1 h2 h3
  · exact gG_b h0 (by omega) h2 h3
theorem gM_0 {X Y : Int → Int} {n t i : Int} (h : 0 ≤ i) : gM X Y n t 0 i = gG X Y n t i := by unfold gM; rw [if_neg (by omega)]
theorem gM_end {X Y : Int → Int} {n t j i : Int} (h : i < j) : gM X Y n t j i = gG X Y n (t + 1) i := by unfold gM; rw [if_pos h]
theorem gM_old {X Y : Int → Int} {n t j i : Int} (h : j ≤ i) : gM X Y n t j i = gG X Y n t i := by unfold gM; rw [if_neg (by omega)]
theorem gM_step {X Y : Int → Int} {n t j i : Int} (h : i ≠ j) : gM X Y n t (j + 1) i = gM X Y n t j i := by
  unfold gM
  by_cases h1 : i < j
  · rw [if_pos (by omega), if_pos h1]
  · rw [if_neg (by omega), if_neg h1]
/-- The group that is kept reads as before. -/
theorem gM_keep {X Y : Int → Int} {n t j : Int} (h0 : 0 ≤ t) (h1 : t + 1 < n) : gM X Y n t j (spU X Y n t) = gG X Y n t (spU X Y n t) := by
  unfold gM
  split
  · rw [gG_next h0, if_neg (bq_ok h0 h1).2]
  · rfl
theorem gM_yes {X Y : Int → Int} {n t j : Int} (h0 : 0 ≤ t) (h : gG X Y n t j = gG X Y n t (spV X Y n t)) : gM X Y n t (j + 1) j = gG X Y n t (spU X Y n t) := by
  rw [gM_end (by omega), gG_next h0, if_pos h]
theorem gM_no {X Y : Int → Int} {n t j : Int} (h0 : 0 ≤ t) (h : gG X Y n t j ≠ gG X Y n t (spV X Y n t)) : gM X Y n t (j + 1) j = gG X Y n t j := by
  rw [gM_end (by omega), gG_next h0, if_neg h]
theorem bq_0 (X Y : Int → Int) (n t : Int) : bq X Y n t 0 = (-1, 0) := rfl
theorem br_0 (X Y : Int → Int) (n t j : Int) : br X Y n t j (j + 1) = bq X Y n t j := by
  unfold br
  rw [show (j + 1 - j - 1).toNat = 0 by omega]
  rfl
theorem br_next {X Y : Int → Int} {n t j k : Int} (h : j + 1 ≤ k) : br X Y n t j (k + 1) = stpP (mhD X Y) (spG X Y n t.toNat) j k (br X Y n t j k) := by
  unfold br
  rw [show (k + 1 - j - 1).toNat = (k - j - 1).toNat + 1 by omega, bpI, show j + 1 + (((k - j - 1).toNat : Nat) : Int) = k by omega]
theorem br_yes {X Y : Int → Int} {n t j k : Int} (h : j + 1 ≤ k) (hg : gG X Y n t j ≠ gG X Y n t k) (hc : (br X Y n t j k).1 < 0 ∨ mht (X j) (Y j) (X k) (Y k) < mht (X (br X Y n t j k).1) (Y (br X Y n t j k).1) (X (br X Y n t j k).2) (Y (br X Y n t j k).2)) : br X Y n t j (k + 1) = (j, k) := by
  rw [br_next h]
  unfold stpP
  rw [if_pos ⟨hg, hc⟩]
theorem br_no1 {X Y : Int → Int} {n t j k : Int} (h : j + 1 ≤ k) (hg : gG X Y n t j = gG X Y n t k) : br X Y n t j (k + 1) = br X Y n t j k := by
  rw [br_next h]
  unfold stpP
  rw [if_neg (fun hh => hh.1 hg)]
theorem br_no2 {X Y : Int → Int} {n t j k : Int} (h : j + 1 ≤ k) (h1 : 0 ≤ (br X Y n t j k).1) (h2 : mht (X (br X Y n t j k).1) (Y (br X Y n t j k).1) (X (br X Y n t j k).2) (Y (br X Y n t j k).2) ≤ mht (X j) (Y j) (X k) (Y k)) : br X Y n t j (k + 1) = br X Y n t j k := by
  rw [br_next h]
  unfold stpP
  rw [if_neg (fun hh => by
    rcases hh.2 with hx | hx
    · omega
    · exact absurd (show mht (X j) (Y j) (X k) (Y k) < mht (X (br X Y n t j k).1) (Y (br X Y n t j k).1) (X (br X Y n t j k).2) (Y (br X Y n t j k).2) from hx) (by omega))]
theorem br_row {X Y : Int → Int} {n t j k : Int} (h0 : 0 ≤ j) (h1 : n ≤ k) (h2 : k ≤ n) : bq X Y n t (j + 1) = br X Y n t j k := by
  obtain rfl : k = n := by omega
  unfold br bq
  rw [show (j + 1).toNat = j.toNat + 1 by omega, bpO, show ((j.toNat : Nat) : Int) = j by omega]
theorem br_ok {X Y : Int → Int} {n t j k : Int} (h0 : 0 ≤ j) (h1 : j + 1 ≤ k) (h2 : k ≤ n) : (br X Y n t j k).1 = -1 ∧ (br X Y n t j k).2 = 0 ∨ (0 ≤ (br X Y n t j k).1 ∧ (br X Y n t j k).1 < (br X Y n t j k).2) ∧ (br X Y n t j k).2 < n := by
  have h : okS (spG X Y n t.toNat) n (br X Y n t j k) := bpI_ok (bpO_ok _ (by omega)) h0 _ (by omega)
  rcases h with h | h
  · rw [h]; exact .inl ⟨rfl, rfl⟩
  · exact .inr ⟨h.1, h.2.1⟩
theorem bq_bd {X Y : Int → Int} {n t j : Int} (h0 : 0 ≤ j) (h1 : j ≤ n) : (bq X Y n t j).1 = -1 ∧ (bq X Y n t j).2 = 0 ∨ (0 ≤ (bq X Y n t j).1 ∧ (bq X Y n t j).1 < (bq X Y n t j).2) ∧ (bq X Y n t j).2 < n := by
  have h : okS (spG X Y n t.toNat) n (bq X Y n t j) := bpO_ok _ (by omega)
  rcases h with h | h
  · rw [h]; exact .inl ⟨rfl, rfl⟩
  · exact .inr ⟨h.1, h.2.1⟩
def stN (n : Int) : Int := if n ≤ 0 then 0 else n - 1
theorem stN_eq {n t : Int} (h0 : 0 ≤ n) (h1 : n ≤ t + 1) (h2 : 0 ≤ t) (h3 : t + 1 ≤ n ∨ t = 0) : t = stN n := by
  unfold stN
  split <;> omega

/-! ### forests -/
def itr (P : Int → Int) : Nat → Int → Int
  | 0, i => i
  | k + 1, i => itr P k (P i)
def rt (P : Int → Int) (i : Int) : Int := itr P 400 i
theorem itr_end (P : Int → Int) : ∀ (k : Nat) (i : Int), itr P (k + 1) i = P (itr P k i)
  | 0, i => rfl
  | k + 1, i => by rw [itr, itr_end P k (P i)]; rfl
theorem itr_fix {P : Int → Int} {x : Int} (h : P x = x) : ∀ k : Nat, itr P k x = x
  | 0 => rfl
  | k + 1 => by rw [itr, h, itr_fix h k]
theorem itr_add (P : Int → Int) (b : Nat) : ∀ (a : Nat) (i : Int), itr P (a + b) i = itr P b (itr P a i)
  | 0, i => by rw [Nat.zero_add]; rfl
  | a + 1, i => by rw [show a + 1 + b = (a + b) + 1 by omega, itr, itr_add P b a (P i)]; rfl
theorem rt_of {P : Int → Int} {k : Nat} {i : Int} (hk : k ≤ 400) (h : P (itr P k i) = itr P k i) : rt P i = itr P k i := by
  unfold rt
  rw [show 400 = k + (400 - k) by omega, itr_add, itr_fix h]
/-- The forest's paths end. -/
def fR (P : Int → Int) (n : Int) : Prop := (∀ i, 0 ≤ i → i < n → 0 ≤ P i ∧ P i < n) ∧ ∀ i, 0 ≤ i → i < n → P (rt P i) = rt P i
/-- .. within t steps. -/
def fOK (P : Int → Int) (n : Int) (t : Nat) : Prop := (∀ i, 0 ≤ i → i < n → 0 ≤ P i ∧ P i < n) ∧ ∀ i, 0 ≤ i → i < n → P (itr P t i) = itr P t i
theorem itr_in {P : Int → Int} {n : Int} (h : ∀ i, 0 ≤ i → i < n → 0 ≤ P i ∧ P i < n) : ∀ (k : Nat) (i : Int), 0 ≤ i → i < n → 0 ≤ itr P k i ∧ itr P k i < n
  | 0, i, h0, h1 => ⟨h0, h1⟩
  | k + 1, i, h0, h1 => itr_in h k (P i) (h i h0 h1).1 (h i h0 h1).2
theorem fOK.fR {P : Int → Int} {n : Int} {t : Nat} (h : fOK P n t) (ht : t ≤ 400) : fR P n := ⟨h.1, fun i h0 h1 => by rw [rt_of ht (h.2 i h0 h1)]; exact h.2 i h0 h1⟩
theorem fR.bd {P : Int → Int} {n i : Int} (h : fR P n) (h0 : 0 ≤ i) (h1 : i < n) : 0 ≤ rt P i ∧ rt P i < n := itr_in h.1 400 i h0 h1
theorem fR.up {P : Int → Int} {n i : Int} (h : fR P n) (h0 : 0 ≤ i) (h1 : i < n) : rt P (P i) = rt P i := by
  have e := h.2 i h0 h1
  have : itr P 401 i = P (itr P 400 i) := itr_end P 400 i
  show itr P 401 i = _
  rw [this]
  exact e
theorem rt_root {P : Int → Int} {x : Int} (h : P x = x) : rt P x = x := itr_fix h 400
/-- Two trees are joined. -/
def jnF (P : Int → Int) (a b i : Int) : Int := if i = rt P a then rt P b else P i
theorem jn_ok {P : Int → Int} {n a b : Int} {t : Nat} (h : fOK P n t) (ht : t < 400) (ha : 0 ≤ a ∧ a < n) (hb : 0 ≤ b ∧ b < n) :
    fOK (jnF P a b) n (t + 1) ∧ ∀ i, 0 ≤ i → i < n → rt (jnF P a b) i = if rt P i = rt P a then rt P b else rt P i := by
  have hR := h.fR (by omega)
  have ra := hR.2 a ha.1 ha.2
  have rb := hR.2 b hb.1 hb.2
  have ba := hR.bd ha.1 ha.2
  have bb := hR.bd hb.1 hb.2
  have hin : ∀ i, 0 ≤ i → i < n → 0 ≤ jnF P a b i ∧ jnF P a b i < n := by
    intro i h0 h1
    unfold jnF
    split
    · exact bb
    · exact h.1 i h0 h1
  by_cases e : rt P a = rt P b
  · have ej : jnF P a b = P := by
      funext i
      unfold jnF
      split
      · rename_i hi; rw [← e, hi, ra]
      · rfl
    rw [ej]
    refine ⟨⟨h.1, fun i h0 h1 => ?_⟩, fun i h0 h1 => ?_⟩
    · rw [itr_end, h.2 i h0 h1, h.2 i h0 h1]
    · split
      · rename_i hi; rw [hi, e]
      · rfl
  · have fb : jnF P a b (rt P b) = rt P b := by unfold jnF; rw [if_neg (fun h => e h.symm)]; exact rb
    have hit : ∀ (k : Nat) (i : Int), itr P k i = rt P a → itr (jnF P a b) (k + 1) i = rt P b := by
      intro k
      induction k with
      | zero =>
        intro i hi
        have hi : i = rt P a := hi
        show jnF P a b i = _
        unfold jnF
        rw [if_pos hi]
      | succ k ih =>
        intro i hi
        by_cases hia : i = rt P a
        · rw [itr]
          have : jnF P a b i = rt P b := by unfold jnF; rw [if_pos hia]
          rw [this, itr_fix fb]
        · rw [itr]
          have : jnF P a b i = P i := by unfold jnF; rw [if_neg hia]
          rw [this]
          exact ih (P i) hi
    have miss : ∀ (k : Nat) (i : Int), 0 ≤ i → i < n → rt P i ≠ rt P a → itr (jnF P a b) k i = itr P k i := by
      intro k
      induction k with
      | zero => intro i _ _ _; rfl
      | succ k ih =>
        intro i h0 h1 hne
        have hia : i ≠ rt P a := fun e2 => hne (by rw [e2, rt_root ra])
        have : jnF P a b i = P i := by unfold jnF; rw [if_neg hia]
        rw [itr, itr, this]
        have hp := h.1 i h0 h1
        exact ih (P i) hp.1 hp.2 (by rw [hR.up h0 h1]; exact hne)
    have ok : fOK (jnF P a b) n (t + 1) := by
      refine ⟨hin, fun i h0 h1 => ?_⟩
      by_cases hi : rt P i = rt P a
      · have : itr P t i = rt P a := by rw [← hi, rt_of (by omega) (h.2 i h0 h1)]
        rw [hit t i this, fb]
      · rw [miss (t + 1) i h0 h1 hi]
        have hx : P (itr P (t + 1) i) = itr P (t + 1) i := by rw [itr_end, h.2 i h0 h1, h.2 i h0 h1]
        have hy : itr P (t + 1) i ≠ rt P a := by
          intro e2
          refine hi ?_
          rw [rt_of (by omega) hx, e2]
        unfold jnF
        rw [if_neg hy]
        exact hx
    refine ⟨ok, fun i h0 h1 => ?_⟩
    by_cases hi : rt P i = rt P a
    · rw [if_pos hi]
      have : itr P t i = rt P a := by rw [← hi, rt_of (by omega) (h.2 i h0 h1)]
      rw [rt_of (by omega) (ok.2 i h0 h1), hit t i this]
    · rw [if_neg hi]
      exact miss 400 i h0 h1 hi
theorem fOK_id (n : Int) : fOK (fun i => i) n 0 := ⟨fun i h0 h1 => ⟨h0, h1⟩, fun i _ _ => rfl⟩
theorem rt_id (i : Int) : rt (fun i => i) i = i := itr_fix rfl 400
theorem fOK.mono {P : Int → Int} {n : Int} {t u : Nat} (h : fOK P n t) (hu : t ≤ u) : fOK P n u := by
  refine ⟨h.1, fun i h0 h1 => ?_⟩
  rw [show u = t + (u - t) by omega, itr_add, itr_fix (h.2 i h0 h1)]
  exact h.2 i h0 h1
/-- The same classes. -/
def same (n : Int) (G H : Int → Int) : Prop := ∀ i k, (0 ≤ i ∧ i < n) → (0 ≤ k ∧ k < n) → (G i = G k ↔ H i = H k)
theorem same_mrg {n : Int} {G H : Int → Int} {a b : Int} (h : same n G H) (ha : 0 ≤ a ∧ a < n) (hb : 0 ≤ b ∧ b < n) : same n (mrg G (b, a)) (mrg H (a, b)) := by
  intro i k hi hk
  unfold mrg
  have e1 := h i k hi hk
  have e2 := h i a hi ha
  have e3 := h i b hi hb
  have e4 := h k a hk ha
  have e5 := h k b hk hb
  have e6 := h a b ha hb
  simp only
  by_cases c1 : G i = G a <;> by_cases c2 : G k = G a <;> by_cases c3 : H i = H b <;> by_cases c4 : H k = H b <;> simp only [c1, c2, c3, c4, if_true, if_false] <;> grind
/-- The classes when edges up to a length are laid. -/
def okE (X Y A B : Int → Int) (most k : Int) : Bool := decide (mht (X (A k)) (Y (A k)) (X (B k)) (Y (B k)) ≤ most)
def lG (X Y A B : Int → Int) (most : Int) : Nat → Int → Int
  | 0 => fun i => i
  | j + 1 => if okE X Y A B most j = true then mrg (lG X Y A B most j) (A j, B j) else lG X Y A B most j
def lF (X Y A B : Int → Int) (most : Int) : Nat → Int → Int
  | 0 => fun i => i
  | j + 1 => if okE X Y A B most j = true then jnF (lF X Y A B most j) (A j) (B j) else lF X Y A B most j
def edR (A B : Int → Int) (n m : Int) : Prop := ∀ i, 0 ≤ i → i < m → (0 ≤ A i ∧ A i < n) ∧ 0 ≤ B i ∧ B i < n
theorem lF_ok {X Y A B : Int → Int} {most n m : Int} (h : edR A B n m) : ∀ j : Nat, (j : Int) ≤ m → j ≤ 400 → fOK (lF X Y A B most j) n j ∧ same n (rt (lF X Y A B most j)) (lG X Y A B most j)
  | 0, _, _ => ⟨fOK_id n, fun i k _ _ => by unfold lF lG; rw [rt_id, rt_id]⟩
  | j + 1, h1, h2 => by
    obtain ⟨a, b⟩ := lF_ok (X := X) (Y := Y) (most := most) h j (by omega) (by omega)
    have hj := h j (by omega) (by omega)
    rw [lF, lG]
    split
    · obtain ⟨c, d⟩ := jn_ok a (by omega) hj.1 hj.2
      refine ⟨c, fun i k hi hk => ?_⟩
      rw [d i hi.1 hi.2, d k hk.1 hk.2]
      exact same_mrg b hj.1 hj.2 i k hi hk
    · exact ⟨a.mono (by omega), b⟩
def lFi (X Y A B : Int → Int) (most j i : Int) : Int := lF X Y A B most j.toNat i
theorem lF_R {X Y A B : Int → Int} {most n m j : Int} (h : edR A B n m) (h1 : j ≤ m) (h2 : j ≤ 400) (h0 : 0 ≤ j) : fR (lFi X Y A B most j) n := by
  have := (lF_ok (X := X) (Y := Y) (most := most) h j.toNat (by omega) (by omega)).1
  exact this.fR (by omega)
theorem lFi_yes {X Y A B : Int → Int} {most j : Int} (h0 : 0 ≤ j) (h : mht (X (A j)) (Y (A j)) (X (B j)) (Y (B j)) ≤ most) (i : Int) : lFi X Y A B most (j + 1) i = jnF (lFi X Y A B most j) (A j) (B j) i := by
  unfold lFi
  rw [show (j + 1).toNat = j.toNat + 1 by omega, lF, show ((j.toNat : Nat) : Int) = j by omega, if_pos (by unfold okE; exact decide_eq_true h)]
theorem lFi_no {X Y A B : Int → Int} {most j : Int} (h0 : 0 ≤ j) (h : most < mht (X (A j)) (Y (A j)) (X (B j)) (Y (B j))) (i : Int) : lFi X Y A B most (j + 1) i = lFi X Y A B most j i := by
  unfold lFi
  rw [show (j + 1).toNat = j.toNat + 1 by omega, lF, show ((j.toNat : Nat) : Int) = j by omega, if_neg (by unfold okE; rw [decide_eq_true_eq]; omega)]
/-- Two points are linked by edges up to a length. -/
def lnk (X Y A B : Int → Int) (m most a b : Int) : Bool := decide (lG X Y A B most m.toNat a = lG X Y A B most m.toNat b)
theorem lnk_rt {X Y A B : Int → Int} {most n m a b : Int} (h : edR A B n m) (h0 : 0 ≤ m) (h2 : m ≤ 400) (ha : 0 ≤ a ∧ a < n) (hb : 0 ≤ b ∧ b < n) : lnk X Y A B m most a b = true ↔ rt (lFi X Y A B most m) a = rt (lFi X Y A B most m) b := by
  have := (lF_ok (X := X) (Y := Y) (most := most) h m.toNat (by omega) (by omega)).2 a b ha hb
  unfold lnk
  rw [decide_eq_true_eq]
  exact this.symm
/-! ### the reference's search -/
def ad1 (L : List Int) (x : Int) : List Int := if x ∈ L then L else L ++ [x]
def stE (X Y A B : Int → Int) (most : Int) (L : List Int) (i k : Int) : List Int :=
  if okE X Y A B most k = true then
    (if B k = selL (if A k = selL L i then ad1 L (B k) else L) i then ad1 (if A k = selL L i then ad1 L (B k) else L) (A k) else (if A k = selL L i then ad1 L (B k) else L))
  else L
def inL (X Y A B : Int → Int) (most : Int) (L : List Int) (i : Int) : Nat → List Int
  | 0 => L
  | k + 1 => stE X Y A B most (inL X Y A B most L i k) i k
def ouL (X Y A B : Int → Int) (most a m : Int) : Nat → List Int
  | 0 => [a]
  | i + 1 => inL X Y A B most (ouL X Y A B most a m i) i m.toNat
theorem ad1_mem {L : List Int} {x y : Int} : y ∈ ad1 L x ↔ y ∈ L ∨ y = x := by
  unfold ad1
  split
  · rename_i h
    refine ⟨.inl, ?_⟩
    rintro (h2 | rfl)
    · exact h2
    · exact h
  · simp
theorem ad1_nodup {L : List Int} {x : Int} (h : L.Nodup) : (ad1 L x).Nodup := by
  unfold ad1
  split
  · exact h
  · rename_i hx
    rw [List.nodup_append]
    refine ⟨h, by simp, fun a ha b hb e => ?_⟩
    have hb : b = x := by simpa using hb
    subst e hb
    exact hx ha
theorem ad1_sel {L : List Int} {x i : Int} (h0 : 0 ≤ i) (h1 : i < len' L) : selL (ad1 L x) i = selL L i := by
  unfold ad1
  split
  · rfl
  · exact selL_old h0 h1
theorem ad1_len (L : List Int) (x : Int) : len' L ≤ len' (ad1 L x) := by
  unfold ad1
  split
  · exact Int.le_refl _
  · rw [len'_snoc]; omega
/-- What is so of a list on the way. -/
structure wayL (P : Int → Prop) (L M : List Int) : Prop where
  nd : L.Nodup → M.Nodup
  le : len' L ≤ len' M
  sel : ∀ i, 0 ≤ i → i < len' L → selL M i = selL L i
  sub : ∀ x ∈ L, x ∈ M
  all : (∀ x ∈ L, P x) → ∀ x ∈ M, P x
theorem wayL.refl (P : Int → Prop) (L : List Int) : wayL P L L := ⟨id, Int.le_refl _, fun _ _ _ => rfl, fun _ h => h, fun h => h⟩
theorem wayL.trans {P : Int → Prop} {L M N : List Int} (a : wayL P L M) (b : wayL P M N) : wayL P L N :=
  ⟨fun h => b.nd (a.nd h), Int.le_trans a.le b.le, fun i h0 h1 => (b.sel i h0 (Int.lt_of_lt_of_le h1 a.le)).trans (a.sel i h0 h1), fun x h => b.sub x (a.sub x h), fun h => b.all (a.all h)⟩
theorem wayL.ad {P : Int → Prop} {L : List Int} {x : Int} (h : (∀ y ∈ L, P y) → P x) : wayL P L (ad1 L x) :=
  ⟨ad1_nodup, ad1_len L x, fun i h0 h1 => ad1_sel h0 h1, fun y hy => ad1_mem.2 (.inl hy), fun hL y hy => by
    rcases ad1_mem.1 hy with hy | rfl
    · exact hL y hy
    · exact h hL⟩
theorem selL_in {l : List Int} {i : Int} (h0 : 0 ≤ i) (h1 : i < len' l) : selL l i ∈ l := by
  unfold selL len' at *
  rw [List.getD_eq_getElem?_getD, List.getElem?_eq_getElem (by omega)]
  exact List.getElem_mem _
theorem in_selL {l : List Int} {a : Int} (h : a ∈ l) : ∃ j, (0 ≤ j ∧ j < len' l) ∧ selL l j = a := by
  obtain ⟨j, hj, e⟩ := List.mem_iff_getElem.1 h
  refine ⟨j, ⟨by omega, by unfold len'; omega⟩, ?_⟩
  unfold selL
  rw [List.getD_eq_getElem?_getD, Int.toNat_natCast, List.getElem?_eq_getElem hj, e]
  rfl
section
variable {X Y A B : Int → Int} {most n m a : Int}
/-- Closed at an edge. -/
def linkd (P : Int → Prop) (X Y A B : Int → Int) (most m : Int) : Prop := ∀ k, 0 ≤ k → k < m → okE X Y A B most k = true → (P (A k) ↔ P (B k))
theorem stE_way {P : Int → Prop} (hP : linkd P X Y A B most m) {L : List Int} {i k : Int} (h0 : 0 ≤ i) (h1 : i < len' L) (k0 : 0 ≤ k) (k1 : k < m) :
    wayL P L (stE X Y A B most L i k) ∧ (okE X Y A B most k = true → (A k = selL L i → B k ∈ stE X Y A B most L i k) ∧ (B k = selL L i → A k ∈ stE X Y A B most L i k)) := by
  have hs := selL_in h0 h1
  unfold stE
  split
  · rename_i hok
    have hk := hP k k0 k1 hok
    by_cases ea : A k = selL L i
    · have w1 : wayL P L (ad1 L (B k)) := wayL.ad fun hL => hk.1 (by rw [ea]; exact hL _ hs)
      rw [if_pos ea, ad1_sel h0 h1]
      by_cases eb : B k = selL L i
      · rw [if_pos eb]
        refine ⟨w1.trans (wayL.ad fun hL => by rw [ea]; exact hL _ (w1.sub _ hs)), fun _ => ⟨fun _ => ad1_mem.2 (.inl (ad1_mem.2 (.inr rfl))), fun _ => ad1_mem.2 (.inr rfl)⟩⟩
      · rw [if_neg eb]
        exact ⟨w1, fun _ => ⟨fun _ => ad1_mem.2 (.inr rfl), fun e => absurd e eb⟩⟩
    · rw [if_neg ea]
      by_cases eb : B k = selL L i
      · rw [if_pos eb]
        exact ⟨wayL.ad fun hL => hk.2 (by rw [eb]; exact hL _ hs), fun _ => ⟨fun e => absurd e ea, fun _ => ad1_mem.2 (.inr rfl)⟩⟩
      · rw [if_neg eb]
        exact ⟨wayL.refl P L, fun _ => ⟨fun e => absurd e ea, fun e => absurd e eb⟩⟩
  · rename_i hok
    exact ⟨wayL.refl P L, fun h => absurd h hok⟩
theorem inL_way {P : Int → Prop} (hP : linkd P X Y A B most m) {L : List Int} {i : Int} (h0 : 0 ≤ i) (h1 : i < len' L) : ∀ k : Nat, (k : Int) ≤ m →
    wayL P L (inL X Y A B most L i k) ∧ ∀ q : Int, 0 ≤ q → q < k → okE X Y A B most q = true → (A q = selL L i → B q ∈ inL X Y A B most L i k) ∧ (B q = selL L i → A q ∈ inL X Y A B most L i k)
  | 0, _ => ⟨wayL.refl P L, fun q a b => by omega⟩
  | k + 1, hk => by
    obtain ⟨w, c⟩ := inL_way hP h0 h1 k (by omega)
    obtain ⟨w2, c2⟩ := stE_way hP (L := inL X Y A B most L i k) (k := k) h0 (Int.lt_of_lt_of_le h1 w.le) (by omega) (by omega)
    rw [inL]
    refine ⟨w.trans w2, fun q q0 q1 hok => ?_⟩
    by_cases e : q = k
    · subst e
      have := c2 hok
      rw [w.sel i h0 h1] at this
      exact this
    · have := c q q0 (by omega) hok
      exact ⟨fun h => w2.sub _ (this.1 h), fun h => w2.sub _ (this.2 h)⟩
theorem ouL_way {P : Int → Prop} (hP : linkd P X Y A B most m) (hm : 0 ≤ m) : ∀ i : Nat, (∀ j : Nat, j < i → (j : Int) < len' (ouL X Y A B most a m j)) →
    wayL P [a] (ouL X Y A B most a m i) ∧ ∀ q j : Int, (0 ≤ q ∧ q < m) → (0 ≤ j ∧ j < i) → okE X Y A B most q = true → (A q = selL (ouL X Y A B most a m i) j → B q ∈ ouL X Y A B most a m i) ∧ (B q = selL (ouL X Y A B most a m i) j → A q ∈ ouL X Y A B most a m i)
  | 0, _ => ⟨wayL.refl P _, fun q j _ h => by omega⟩
  | i + 1, hr => by
    obtain ⟨w, c⟩ := ouL_way hP hm i (fun j hj => hr j (by omega))
    have hi := hr i (by omega)
    obtain ⟨w2, c2⟩ := inL_way hP (L := ouL X Y A B most a m i) (i := i) (by omega) hi m.toNat (by omega)
    rw [ouL]
    refine ⟨w.trans w2, fun q j hq hj hok => ?_⟩
    by_cases e : j = i
    · subst e
      have := c2 q hq.1 (by omega) hok
      rw [w2.sel i (by omega) hi]
      exact this
    · rw [w2.sel j hj.1 (by omega)]
      have := c q j hq ⟨hj.1, by omega⟩ hok
      exact ⟨fun h => w2.sub _ (this.1 h), fun h => w2.sub _ (this.2 h)⟩
theorem range_le {L : List Int} (h : L.Nodup) (hb : ∀ x ∈ L, 0 ≤ x ∧ x < n) (hn : 0 ≤ n) : len' L ≤ n := by
  have := List.Nodup.length_le_of_subset h (fun x hx => show x ∈ (List.range n.toNat).map (fun (i : Nat) => (i : Int)) from List.mem_map.2 ⟨x.toNat, List.mem_range.2 (by have := hb x hx; omega), by have := hb x hx; omega⟩)
  rw [List.length_map, List.length_range] at this
  unfold len'
  omega
/-- Classes that the edges lead along. -/
theorem lG_linkd (h : edR A B n m) : ∀ j : Nat, (j : Int) ≤ m → ∀ k : Int, 0 ≤ k → k < j → okE X Y A B most k = true → lG X Y A B most j (A k) = lG X Y A B most j (B k)
  | 0, _ => fun k h0 h1 => by omega
  | j + 1, hj => fun k h0 h1 hok => by
    have ih := lG_linkd h j (by omega) k h0
    rw [lG]
    by_cases e : k = j
    · subst e
      rw [if_pos hok]
      unfold mrg
      simp
    · have e2 := ih (by omega) hok
      split
      · unfold mrg; rw [e2]
      · exact e2
theorem lG_closed {P : Int → Prop} (hP : linkd P X Y A B most m) : ∀ j : Nat, (j : Int) ≤ m → ∀ x y, lG X Y A B most j x = lG X Y A B most j y → (P x ↔ P y)
  | 0, _ => fun x y h => by have h : x = y := h; rw [h]
  | j + 1, hj => fun x y h => by
    have ih := lG_closed hP j (by omega)
    rw [lG] at h
    split at h
    · rename_i hok
      have hk := hP j (by omega) (by omega) hok
      unfold mrg at h
      by_cases c1 : lG X Y A B most j x = lG X Y A B most j (B j) <;> by_cases c2 : lG X Y A B most j y = lG X Y A B most j (B j)
      · rw [ih _ _ c1, ih _ _ c2]
      · rw [if_pos c1, if_neg c2] at h
        rw [ih _ _ c1, ← ih _ _ h, hk]
      · rw [if_neg c1, if_pos c2] at h
        rw [ih _ _ c2, ih _ _ h, hk]
      · rw [if_neg c1, if_neg c2] at h
        exact ih _ _ h
    · exact ih x y h
/-- The search finds what is linked. -/
theorem ouL_lnk (h : edR A B n m) (hm : 0 ≤ m) (ha : 0 ≤ a ∧ a < n) {i : Nat} (hr : ∀ j : Nat, j < i → (j : Int) < len' (ouL X Y A B most a m j)) (he : len' (ouL X Y A B most a m i) ≤ i) (b : Int) :
    b ∈ ouL X Y A B most a m i ↔ lnk X Y A B m most a b = true := by
  unfold lnk
  rw [decide_eq_true_eq]
  have hl := lG_linkd (X := X) (Y := Y) (most := most) h m.toNat (by omega)
  constructor
  · intro hb
    have hP : linkd (fun x => lG X Y A B most m.toNat a = lG X Y A B most m.toNat x) X Y A B most m := fun k k0 k1 hok => by
      simp only
      rw [hl k k0 (by omega) hok]
    exact (ouL_way hP hm i hr).1.all (fun x hx => by have hx : x = a := by simpa using hx
                                                     rw [hx]) b hb
  · intro hb
    have hT : linkd (fun _ => True) X Y A B most m := fun k _ _ _ => Iff.rfl
    obtain ⟨w, c⟩ := ouL_way (a := a) hT hm i hr
    have hP : linkd (fun x => x ∈ ouL X Y A B most a m i) X Y A B most m := fun k k0 k1 hok => by
      constructor
      · intro hk
        obtain ⟨j, hj, e⟩ := in_selL hk
        exact (c k j ⟨k0, k1⟩ ⟨hj.1, by omega⟩ hok).1 e.symm
      · intro hk
        obtain ⟨j, hj, e⟩ := in_selL hk
        exact (c k j ⟨k0, k1⟩ ⟨hj.1, by omega⟩ hok).2 e.symm
    exact (lG_closed hP m.toNat (by omega) a b hb).1 (w.sub a (by simp))
theorem ouL_bd (h : edR A B n m) (hm : 0 ≤ m) (ha : 0 ≤ a ∧ a < n) {i : Nat} (hr : ∀ j : Nat, j < i → (j : Int) < len' (ouL X Y A B most a m j)) : len' (ouL X Y A B most a m i) ≤ n ∧ 1 ≤ len' (ouL X Y A B most a m i) ∧ ∀ x ∈ ouL X Y A B most a m i, 0 ≤ x ∧ x < n := by
  have hP : linkd (fun x => 0 ≤ x ∧ x < n) X Y A B most m := fun k k0 k1 hok => by
    have := h k k0 k1
    exact ⟨fun _ => this.2, fun _ => this.1⟩
  have w := (ouL_way (a := a) hP hm i hr).1
  have hb := w.all (fun x hx => by have hx : x = a := by simpa using hx
                                   rw [hx]; exact ha)
  exact ⟨range_le (w.nd (by simp)) hb (by omega), w.le, hb⟩
end

end Go.Proofs.Ytcfkpdjbjfnnmaa
