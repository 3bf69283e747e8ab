/- Spanning trees of the reference: what is drawn. -/
import Derived.Test.YtpnjopppclmfkaaK15
import Derived.Test.YtpnjopppclmfkaaK29
import Derived.Test.YtpnjopppclmfkaaK33
import Derived.Test.YtpnjopppclmfkaaR7
set_option linter.unusedSimpArgs false
set_option linter.unusedVariables false
set_option maxRecDepth 100000
namespace Go.Proofs.Ytpnjopppclmfkaa
open Go.Sym
/-- The better of a pair and the next one. -/
def stpP (D : Int → Int → Int) (G : Int → Int) (i k : Int) (s : Int × Int) : Int × Int := if G i ≠ G k ∧ (s.1 < 0 ∨ D i k < D s.1 s.2) then (i, k) else s
def bpI (D : Int → Int → Int) (G : Int → Int) (i : Int) : Nat → Int × Int → Int × Int
  | 0, s => s
  | m + 1, s => stpP D G i (i + 1 + m) (bpI D G i m s)
def bpO (D : Int → Int → Int) (G : Int → Int) (n : Int) : Nat → Int × Int
  | 0 => (-1, 0)
  | j + 1 => bpI D G j (n - j - 1).toNat (bpO D G n j)
def okS (G : Int → Int) (n : Int) (s : Int × Int) : Prop := s = (-1, 0) ∨ ((0 ≤ s.1 ∧ s.1 < s.2) ∧ s.2 < n ∧ G s.1 ≠ G s.2)
theorem stpP_ok {D : Int → Int → Int} {G : Int → Int} {n i k : Int} {s : Int × Int} (h : okS G n s) (h0 : 0 ≤ i) (h1 : i < k) (h2 : k < n) : okS G n (stpP D G i k s) := by
  unfold stpP
  split
  · rename_i hc
    exact .inr ⟨⟨h0, h1⟩, h2, hc.1⟩
  · exact h
theorem bpI_ok {D : Int → Int → Int} {G : Int → Int} {n i : Int} {s : Int × Int} (h : okS G n s) (h0 : 0 ≤ i) : ∀ m : Nat, i + 1 + m ≤ n → okS G n (bpI D G i m s)
  | 0, _ => h
  | m + 1, hm => stpP_ok (bpI_ok h h0 m (by omega)) h0 (by omega) (by omega)
theorem bpO_ok {D : Int → Int → Int} {G : Int → Int} {n : Int} : ∀ j : Nat, (j : Int) ≤ n → okS G n (bpO D G n j)
  | 0, _ => .inl rfl
  | j + 1, hj => bpI_ok (bpO_ok j (by omega)) (by omega) _ (by omega)
theorem stpP_nn {D : Int → Int → Int} {G : Int → Int} {i k : Int} {s : Int × Int} (h0 : 0 ≤ i) (h : 0 ≤ s.1 ∨ G i ≠ G k) : 0 ≤ (stpP D G i k s).1 := by
  unfold stpP
  split
  · exact h0
  · rename_i hc
    rcases h with h | h
    · exact h
    · refine Classical.byContradiction fun hn => hc ⟨h, .inl (by omega)⟩
theorem bpI_nn {D : Int → Int → Int} {G : Int → Int} {i : Int} {s : Int × Int} (h0 : 0 ≤ i) : ∀ m : Nat, (0 ≤ s.1 ∨ ∃ k : Int, (i + 1 ≤ k ∧ k < i + 1 + m) ∧ G i ≠ G k) → 0 ≤ (bpI D G i m s).1
  | 0, h => by
    rcases h with h | ⟨k, hk, _⟩
    · exact h
    · omega
  | m + 1, h => by
    refine stpP_nn h0 ?_
    by_cases e : G i ≠ G (i + 1 + m)
    · exact .inr e
    · refine .inl (bpI_nn h0 m ?_)
      rcases h with h | ⟨k, hk, hg⟩
      · exact .inl h
      · refine .inr ⟨k, ⟨hk.1, ?_⟩, hg⟩
        refine Classical.byContradiction fun hc => e ?_
        rw [show i + 1 + (m : Int) = k by omega]
        exact hg
theorem bpO_nn {D : Int → Int → Int} {G : Int → Int} {n : Int} : ∀ j : Nat, (j : Int) ≤ n → (∃ i k : Int, (0 ≤ i ∧ i < j) ∧ (i < k ∧ k < n) ∧ G i ≠ G k) → 0 ≤ (bpO D G n j).1
  | 0, _, ⟨i, k, h, _⟩ => by omega
  | j + 1, hj, ⟨i, k, hi, hk, hg⟩ => by
    refine bpI_nn (by omega) _ ?_
    by_cases e : i = j
    · subst e
      exact .inr ⟨k, ⟨by omega, by omega⟩, hg⟩
    · exact .inl (bpO_nn j (by omega) ⟨i, k, ⟨hi.1, by omega⟩, hk, hg⟩)
def mrg (G : Int → Int) (s : Int × Int) (i : Int) : Int := if G i = G s.2 then G s.1 else G i
/-- A value is taken. -/
def hit (G : Int → Int) (n v : Int) : Bool := !(allB (fun i => !(decide (G i = v))) n)
theorem hit_iff {G : Int → Int} {n v : Int} : hit G n v = true ↔ ∃ i, (0 ≤ i ∧ i < n) ∧ G i = v := by
  unfold hit
  rw [Bool.not_eq_true', ← Bool.not_eq_true, allB_iff]
  constructor
  · intro h
    refine Classical.byContradiction fun hc => h fun i a b => ?_
    rw [Bool.not_eq_true', decide_eq_false_iff_not]
    exact fun e => hc ⟨i, ⟨a, b⟩, e⟩
  · rintro ⟨i, ⟨a, b⟩, e⟩ h
    have := h i a b
    rw [Bool.not_eq_true', decide_eq_false_iff_not] at this
    exact this e
def cnt (G : Int → Int) (n : Int) : Int := len' (fl (hit G n) n)
theorem one_v (w : Int) : ∀ m : Nat, smf (fun v => bi (decide (v = w))) m ≤ 1 ∧ ((m : Int) ≤ w → smf (fun v => bi (decide (v = w))) m = 0)
  | 0 => by rw [smf]; exact ⟨by decide, fun _ => rfl⟩
  | m + 1 => by
    obtain ⟨a, b⟩ := one_v w m
    rw [smf]
    by_cases e : (m : Int) = w
    · rw [b (by omega), decide_eq_true e]
      exact ⟨by decide, fun h => by omega⟩
    · rw [decide_eq_false e]
      show _ + 0 ≤ 1 ∧ (_ → _ + 0 = 0)
      exact ⟨by omega, fun h => by have := b (by omega); omega⟩
theorem fl_but {q r : Int → Bool} {n w : Int} (h : 0 ≤ n) (hq : ∀ v, 0 ≤ v → v < n → v ≠ w → q v = true → r v = true) : len' (fl q n) ≤ len' (fl r n) + 1 := by
  rw [fl_int h, fl_int h]
  have h1 : smf (fun v => bi (q v)) n.toNat ≤ smf (fun v => bi (r v) + bi (decide (v = w))) n.toNat := by
    refine smf_le _ fun v a b => ?_
    by_cases e : (v : Int) = w
    · rw [decide_eq_true e]
      have h1 := bi_bd (q v)
      have h2 := bi_bd (r v)
      show _ ≤ _ + 1
      omega
    · have hz := hq v (by omega) (by omega) e
      have h2 := bi_bd (decide ((v : Int) = w))
      cases hv : q v with
      | false =>
        have h3 := bi_bd (r v)
        show 0 ≤ _
        omega
      | true =>
        rw [hz hv]
        show (1 : Int) ≤ 1 + _
        omega
  rw [smf_add] at h1
  have := (one_v w n.toNat).1
  omega
theorem cnt_id {n : Int} (h : 0 ≤ n) : cnt (fun i => i) n = n := by
  unfold cnt
  exact (fl_allI h fun i a b => hit_iff.2 ⟨i, ⟨a, b⟩, rfl⟩).1
theorem cnt_mrg {G : Int → Int} {n : Int} {s : Int × Int} (h : 0 ≤ n) : cnt G n ≤ cnt (mrg G s) n + 1 := by
  refine fl_but (w := G s.2) h fun v a b e hv => ?_
  obtain ⟨i, hi, rfl⟩ := hit_iff.1 hv
  refine hit_iff.2 ⟨i, hi, ?_⟩
  unfold mrg
  rw [if_neg e]
theorem cnt_one {G : Int → Int} {n : Int} (h : 0 ≤ n) (ha : ∀ i k : Int, (0 ≤ i ∧ i < k) → k < n → G i = G k) : cnt G n ≤ 1 := by
  have h0 : len' (fl (fun _ => false) n) = 0 := fl_nil h fun _ _ _ => rfl
  have := fl_but (q := hit G n) (r := fun _ => false) (w := G 0) h (fun v a b e hv => by
    exfalso
    obtain ⟨i, hi, rfl⟩ := hit_iff.1 hv
    by_cases hz : i = 0
    · exact e (by rw [hz])
    · exact e (ha 0 i ⟨by omega, by omega⟩ hi.2).symm)
  unfold cnt
  omega
def mhD (X Y : Int → Int) (i k : Int) : Int := mht (X i) (Y i) (X k) (Y k)
/-- The groups when so many edges are there. -/
def spG (X Y : Int → Int) (n : Int) : Nat → Int → Int
  | 0 => fun i => i
  | t + 1 => mrg (spG X Y n t) (bpO (mhD X Y) (spG X Y n t) n n.toNat)
def bq (X Y : Int → Int) (n t j : Int) : Int × Int := bpO (mhD X Y) (spG X Y n t.toNat) n j.toNat
def br (X Y : Int → Int) (n t j k : Int) : Int × Int := bpI (mhD X Y) (spG X Y n t.toNat) j (k - j - 1).toNat (bq X Y n t j)
def gG (X Y : Int → Int) (n t i : Int) : Int := spG X Y n t.toNat i
def spU (X Y : Int → Int) (n t : Int) : Int := (bq X Y n t n).1
def spV (X Y : Int → Int) (n t : Int) : Int := (bq X Y n t n).2
def gM (X Y : Int → Int) (n t j i : Int) : Int := if i < j then gG X Y n (t + 1) i else gG X Y n t i
theorem spG_cnt (X Y : Int → Int) {n : Int} (h : 0 ≤ n) : ∀ t : Nat, n - t ≤ cnt (spG X Y n t) n
  | 0 => by
    have := cnt_id h
    show n - ((0 : Nat) : Int) ≤ cnt (fun i => i) n
    omega
  | t + 1 => by
    have ih := spG_cnt X Y h t
    have := cnt_mrg (G := spG X Y n t) (s := bpO (mhD X Y) (spG X Y n t) n n.toNat) h
    show _ ≤ cnt (mrg _ _) n
    omega
/-- There is a pair to be joined. -/
theorem bq_ok {X Y : Int → Int} {n t : Int} (h0 : 0 ≤ t) (h1 : t + 1 < n) : ((0 ≤ spU X Y n t ∧ spU X Y n t < spV X Y n t) ∧ spV X Y n t < n) ∧ gG X Y n t (spU X Y n t) ≠ gG X Y n t (spV X Y n t) := by
  have hc := spG_cnt X Y (n := n) (by omega) t.toNat
  have hn : 0 ≤ (bq X Y n t n).1 := by
    refine bpO_nn _ (by omega) ?_
    refine Classical.byContradiction fun hcon => ?_
    have := cnt_one (G := spG X Y n t.toNat) (n := n) (by omega) fun i k hi hk => by
      refine Classical.byContradiction fun hg => hcon ⟨i, k, ⟨hi.1, by omega⟩, ⟨hi.2, hk⟩, hg⟩
    omega
  have ho : okS (spG X Y n t.toNat) n (bq X Y n t n) := bpO_ok _ (by omega)
  rcases ho with ho | ⟨a, b, c⟩
  · rw [ho] at hn
    exact absurd hn (by decide)
  · exact ⟨⟨a, b⟩, c⟩
theorem gG_bd {X Y : Int → Int} {n : Int} : ∀ t : Nat, (t : Int) < n → ∀ i, 0 ≤ i → i < n → 0 ≤ spG X Y n t i ∧ spG X Y n t i < n
  | 0, _ => fun i a b => ⟨a, b⟩
  | t + 1, h => fun i a b => by
    have ih := gG_bd (X := X) (Y := Y) (n := n) t (by omega)
    have ho := bq_ok (X := X) (Y := Y) (n := n) (t := t) (by omega) (by omega)
    show 0 ≤ mrg _ _ i ∧ mrg _ _ i < n
    unfold mrg
    split
    · exact ih _ ho.1.1.1 (by
        have h1 := ho.1.1.2
        have h2 := ho.1.2
        have : (bpO (mhD X Y) (spG X Y n t) n n.toNat).1 = spU X Y n t := rfl
        omega)
    · exact ih i a b
theorem gG_b {X Y : Int → Int} {n t i : Int} (h0 : 0 ≤ t) (h1 : t < n) (h2 : 0 ≤ i) (h3 : i < n) : 0 ≤ gG X Y n t i ∧ gG X Y n t i < n := gG_bd t.toNat (by omega) i h2 h3
theorem gG_0 (X Y : Int → Int) (n i : Int) : gG X Y n 0 i = i := rfl
theorem gG_next {X Y : Int → Int} {n t i : Int} (h0 : 0 ≤ t) : gG X Y n (t + 1) i = if gG X Y n t i = gG X Y n t (spV X Y n t) then gG X Y n t (spU X Y n t) else gG X Y n t i := by
  unfold gG
  rw [show (t + 1).toNat = t.toNat + 1 by omega, spG]
  rfl
theorem gM_b {X Y : Int → Int} {n t j i : Int} (h0 : 0 ≤ t) (h1 : t + 1 < n) (h2 : 0 ≤ i) (h3 : i < n) : 0 ≤ gM X Y n t j i ∧ gM X Y n t j i < n := by
  unfold gM
  split
  · exact gG_b (by omega) h1 h2 h3
  · exact gG_b h0 (by omega) h2 h3
theorem gM_0 {X Y : Int → Int} {n t i : Int} (h : 0 ≤ i) : gM X Y n t 0 i = gG X Y n t i := by unfold gM; rw [if_neg (by omega)]
theorem gM_end {X Y : Int → Int} {n t j i : Int} (h : i < j) : gM X Y n t j i = gG X Y n (t + 1) i := by unfold gM; rw [if_pos h]
theorem gM_old {X Y : Int → Int} {n t j i : Int} (h : j ≤ i) : gM X Y n t j i = gG X Y n t i := by unfold gM; rw [if_neg (by omega)]
theorem gM_step {X Y : Int → Int} {n t j i : Int} (h : i ≠ j) : gM X Y n t (j + 1) i = gM X Y n t j i := by
  unfold gM
  by_cases h1 : i < j
  · rw [if_pos (by omega), if_pos h1]
  · rw [if_neg (by omega), if_neg h1]
/-- The group that is kept reads as before. -/
theorem gM_keep {X Y : Int → Int} {n t j : Int} (h0 : 0 ≤ t) (h1 : t + 1 < n) : gM X Y n t j (spU X Y n t) = gG X Y n t (spU X Y n t) := by
  unfold gM
  split
  · rw [gG_next h0, if_neg (bq_ok h0 h1).2]
  · rfl
theorem gM_yes {X Y : Int → Int} {n t j : Int} (h0 : 0 ≤ t) (h : gG X Y n t j = gG X Y n t (spV X Y n t)) : gM X Y n t (j + 1) j = gG X Y n t (spU X Y n t) := by
  rw [gM_end (by omega), gG_next h0, if_pos h]
theorem gM_no {X Y : Int → Int} {n t j : Int} (h0 : 0 ≤ t) (h : gG X Y n t j ≠ gG X Y n t (spV X Y n t)) : gM X Y n t (j + 1) j = gG X Y n t j := by
  rw [gM_end (by omega), gG_next h0, if_neg h]
theorem bq_0 (X Y : Int → Int) (n t : Int) : bq X Y n t 0 = (-1, 0) := rfl
theorem br_0 (X Y : Int → Int) (n t j : Int) : br X Y n t j (j + 1) = bq X Y n t j := by
  unfold br
  rw [show (j + 1 - j - 1).toNat = 0 by omega]
  rfl
theorem br_next {X Y : Int → Int} {n t j k : Int} (h : j + 1 ≤ k) : br X Y n t j (k + 1) = stpP (mhD X Y) (spG X Y n t.toNat) j k (br X Y n t j k) := by
  unfold br
  rw [show (k + 1 - j - 1).toNat = (k - j - 1).toNat + 1 by omega, bpI, show j + 1 + (((k - j - 1).toNat : Nat) : Int) = k by omega]
theorem br_yes {X Y : Int → Int} {n t j k : Int} (h : j + 1 ≤ k) (hg : gG X Y n t j ≠ gG X Y n t k) (hc : (br X Y n t j k).1 < 0 ∨ mht (X j) (Y j) (X k) (Y k) < mht (X (br X Y n t j k).1) (Y (br X Y n t j k).1) (X (br X Y n t j k).2) (Y (br X Y n t j k).2)) : br X Y n t j (k + 1) = (j, k) := by
  rw [br_next h]
  unfold stpP
  rw [if_pos ⟨hg, hc⟩]
theorem br_no1 {X Y : Int → Int} {n t j k : Int} (h : j + 1 ≤ k) (hg : gG X Y n t j = gG X Y n t k) : br X Y n t j (k + 1) = br X Y n t j k := by
  rw [br_next h]
  unfold stpP
  rw [if_neg (fun hh => hh.1 hg)]
theorem br_no2 {X Y : Int → Int} {n t j k : Int} (h : j + 1 ≤ k) (h1 : 0 ≤ (br X Y n t j k).1) (h2 : mht (X (br X Y n t j k).1) (Y (br X Y n t j k).1) (X (br X Y n t j k).2) (Y (br X Y n t j k).2) ≤ mht (X j) (Y j) (X k) (Y k)) : br X Y n t j (k + 1) = br X Y n t j k := by
  rw [br_next h]
  unfold stpP
  rw [if_neg (fun hh => by
    rcases hh.2 with hx | hx
    · omega
    · exact absurd (show mht (X j) (Y j) (X k) (Y k) < mht (X (br X Y n t j k).1) (Y (br X Y n t j k).1) (X (br X Y n t j k).2) (Y (br X Y n t j k).2) from hx) (by omega))]
theorem br_row {X Y : Int → Int} {n t j k : Int} (h0 : 0 ≤ j) (h1 : n ≤ k) (h2 : k ≤ n) : bq X Y n t (j + 1) = br X Y n t j k := by
  obtain rfl : k = n := by omega
  unfold br bq
  rw [show (j + 1).toNat = j.toNat + 1 by omega, bpO, show ((j.toNat : Nat) : Int) = j by omega]
theorem br_ok {X Y : Int → Int} {n t j k : Int} (h0 : 0 ≤ j) (h1 : j + 1 ≤ k) (h2 : k ≤ n) : (br X Y n t j k).1 = -1 ∧ (br X Y n t j k).2 = 0 ∨ (0 ≤ (br X Y n t j k).1 ∧ (br X Y n t j k).1 < (br X Y n t j k).2) ∧ (br X Y n t j k).2 < n := by
  have h : okS (spG X Y n t.toNat) n (br X Y n t j k) := bpI_ok (bpO_ok _ (by omega)) h0 _ (by omega)
  rcases h with h | h
  · rw [h]; exact .inl ⟨rfl, rfl⟩
  · exact .inr ⟨h.1, h.2.1⟩
theorem bq_bd {X Y : Int → Int} {n t j : Int} (h0 : 0 ≤ j) (h1 : j ≤ n) : (bq X Y n t j).1 = -1 ∧ (bq X Y n t j).2 = 0 ∨ (0 ≤ (bq X Y n t j).1 ∧ (bq X Y n t j).1 < (bq X Y n t j).2) ∧ (bq X Y n t j).2 < n := by
  have h : okS (spG X Y n t.toNat) n (bq X Y n t j) := bpO_ok _ (by omega)
  rcases h with h | h
  · rw [h]; exact .inl ⟨rfl, rfl⟩
  · exact .inr ⟨h.1, h.2.1⟩
def stN (n : Int) : Int := if n ≤ 0 then 0 else n - 1
theorem stN_eq {n t : Int} (h0 : 0 ≤ n) (h1 : n ≤ t + 1) (h2 : 0 ≤ t) (h3 : t + 1 ≤ n ∨ t = 0) : t = stN n := by
  unfold stN
  split <;> omega

theorem s_spanning (X : Int → Int) (Y : Int → Int) (n : Int) : RunsTo Try.prog 127 [(.sl 0 2 (.lit 0) (.v fun _ => n) 20)] [some ⟨35, 2, true, (.sym (.v fun _ => n) fun e => [(.int .i64 (.v fun _ => (X (e.den))) (-1000) 1000), (.int .i64 (.v fun _ => (Y (e.den))) (-1000) 1000)])⟩] (.sl 1 2 (.lit 0) (.v fun _ => stN n) 20) [some ⟨35, 2, true, (.sym (.v fun _ => n) fun e => [(.int .i64 (.v fun _ => (X (e.den))) (-1000) 1000), (.int .i64 (.v fun _ => (Y (e.den))) (-1000) 1000)])⟩, some ⟨102, 2, true, (.sym (.v fun _ => stN n) fun e => [(.int .i64 (.v fun _ => spU X Y n e.den) 0 20), (.int .i64 (.v fun _ => spV X Y n e.den) 0 20)])⟩] := by
  refine RunsTo.go env Try.func127 rfl Try.call127 rfl rfl (fun _ _ => (.loop [] [0, 1, 2] (Int) (fun x1 => ⟨spl 114 0 [(0, (.sl 0 2 (.lit 0) (.v fun _ => n) 20)), (2, (.raw (.slice none 0 0))), (3, (.sl 1 2 (.lit 0) (.lit 0) 0)), (4, (.sl 2 1 (.lit 0) (.v fun _ => x1) 20)), (5, (.int .i64 (.v fun _ => x1) 0 20))], [some ⟨35, 2, true, (.sym (.v fun _ => n) fun e => [(.int .i64 (.v fun _ => (X (e.den))) (-1000) 1000), (.int .i64 (.v fun _ => (Y (e.den))) (-1000) 1000)])⟩, some ⟨102, 2, true, (.lit [])⟩, some ⟨3, 1, true, (.sym (.v fun _ => x1) fun e => [(.int .i64 (.v fun _ => (e.den)) 0 20)])⟩], 1⟩) (fun x1 => 0 ≤ x1 ∧ x1 ≤ n) (fun x1 => (n - x1).toNat) fun x1 => (.ite (.need (.next [0, 1, 2])) (.out (.loop [] [0, 1, 2] (Int) (fun x8 => ⟨spl 114 0 [(0, (.sl 0 2 (.lit 0) (.v fun _ => n) 20)), (2, (.raw (.slice none 0 0))), (3, (.sl 1 2 (.lit 0) (.v fun _ => x8) 20)), (4, (.sl 2 1 (.lit 0) (.v fun _ => n) 20))], [some ⟨35, 2, true, (.sym (.v fun _ => n) fun e => [(.int .i64 (.v fun _ => (X (e.den))) (-1000) 1000), (.int .i64 (.v fun _ => (Y (e.den))) (-1000) 1000)])⟩, some ⟨102, 2, true, (.sym (.v fun _ => x8) fun e => [(.int .i64 (.v fun _ => spU X Y n (e.den)) 0 20), (.int .i64 (.v fun _ => spV X Y n (e.den)) 0 20)])⟩, some ⟨3, 1, true, (.sym (.v fun _ => n) fun e => [(.int .i64 (.v fun _ => gG X Y n x8 (e.den)) 0 20)])⟩], 1⟩) (fun x8 => 0 ≤ x8 ∧ (x8 + 1 ≤ n ∨ x8 = 0)) (fun x8 => (n - x8).toNat) fun x8 => (.ite (.loop [] [0, 1, 2, 3] (Int) (fun x12 => ⟨spl 114 0 [(0, (.sl 0 2 (.lit 0) (.v fun _ => n) 20)), (2, (.raw (.slice none 0 0))), (3, (.sl 1 2 (.lit 0) (.v fun _ => x8) 20)), (4, (.sl 2 1 (.lit 0) (.v fun _ => n) 20)), (6, (.ptr 3 2 (.lit 0) 0)), (7, (.int .i64 (.v fun _ => x12) 0 20)), (23, (.sl 1 2 (.lit 0) (.v fun _ => x8) 20)), (24, (.int .i64 (.v fun _ => x8) 0 20)), (25, (.int .i64 (.add (.v fun _ => x8) (.lit 1)) 1 21)), (26, (.sl 0 2 (.lit 0) (.v fun _ => n) 20)), (27, (.int .i64 (.v fun _ => n) 0 20)), (28, (.bool (.lt (.add (.v fun _ => x8) (.lit 1)) (.v fun _ => n)))), (29, (.agg [(.int .i64 (.lit (-1)) (-1) (-1)), (.int .i64 (.lit 0) 0 0)]))], [some ⟨35, 2, true, (.sym (.v fun _ => n) fun e => [(.int .i64 (.v fun _ => (X (e.den))) (-1000) 1000), (.int .i64 (.v fun _ => (Y (e.den))) (-1000) 1000)])⟩, some ⟨102, 2, true, (.sym (.v fun _ => x8) fun e => [(.int .i64 (.v fun _ => spU X Y n (e.den)) 0 20), (.int .i64 (.v fun _ => spV X Y n (e.den)) 0 20)])⟩, some ⟨3, 1, true, (.sym (.v fun _ => n) fun e => [(.int .i64 (.v fun _ => gG X Y n x8 (e.den)) 0 20)])⟩, some ⟨102, 2, true, (.lit [[(.int .i64 (.v fun _ => (bq X Y n x8 x12).1) (-1) 20), (.int .i64 (.v fun _ => (bq X Y n x8 x12).2) 0 20)]])⟩], 1⟩) (fun x12 => (0 ≤ x8 ∧ x8 + 1 < n) ∧ 0 ≤ x12 ∧ x12 ≤ n) (fun x12 => (n - x12).toNat) fun x12 => (.ite (.loop [] [0, 1, 2, 3] (Int) (fun x17 => ⟨spl 114 0 [(0, (.sl 0 2 (.lit 0) (.v fun _ => n) 20)), (2, (.raw (.slice none 0 0))), (3, (.sl 1 2 (.lit 0) (.v fun _ => x8) 20)), (4, (.sl 2 1 (.lit 0) (.v fun _ => n) 20)), (6, (.ptr 3 2 (.lit 0) 0)), (7, (.int .i64 (.v fun _ => x12) 0 20)), (8, (.int .i64 (.v fun _ => x17) 1 20)), (23, (.sl 1 2 (.lit 0) (.v fun _ => x8) 20)), (24, (.int .i64 (.v fun _ => x8) 0 20)), (25, (.int .i64 (.add (.v fun _ => x8) (.lit 1)) 1 21)), (26, (.sl 0 2 (.lit 0) (.v fun _ => n) 20)), (27, (.int .i64 (.v fun _ => n) 0 20)), (28, (.bool (.lt (.add (.v fun _ => x8) (.lit 1)) (.v fun _ => n)))), (29, (.agg [(.int .i64 (.lit (-1)) (-1) (-1)), (.int .i64 (.lit 0) 0 0)])), (30, (.int .i64 (.v fun _ => x12) 0 20)), (31, (.sl 0 2 (.lit 0) (.v fun _ => n) 20)), (32, (.int .i64 (.v fun _ => n) 0 20)), (33, (.bool (.lt (.v fun _ => x12) (.v fun _ => n)))), (36, (.int .i64 (.v fun _ => x12) 0 20)), (37, (.int .i64 (.add (.v fun _ => x12) (.lit 1)) 1 21))], [some ⟨35, 2, true, (.sym (.v fun _ => n) fun e => [(.int .i64 (.v fun _ => (X (e.den))) (-1000) 1000), (.int .i64 (.v fun _ => (Y (e.den))) (-1000) 1000)])⟩, some ⟨102, 2, true, (.sym (.v fun _ => x8) fun e => [(.int .i64 (.v fun _ => spU X Y n (e.den)) 0 20), (.int .i64 (.v fun _ => spV X Y n (e.den)) 0 20)])⟩, some ⟨3, 1, true, (.sym (.v fun _ => n) fun e => [(.int .i64 (.v fun _ => gG X Y n x8 (e.den)) 0 20)])⟩, some ⟨102, 2, true, (.lit [[(.int .i64 (.v fun _ => (br X Y n x8 x12 x17).1) (-1) 20), (.int .i64 (.v fun _ => (br X Y n x8 x12 x17).2) 0 20)]])⟩], 1⟩) (fun x17 => ((0 ≤ x8 ∧ x8 + 1 < n) ∧ 0 ≤ x12 ∧ x12 < n) ∧ x12 + 1 ≤ x17 ∧ x17 ≤ n) (fun x17 => (n - x17).toNat) fun x17 => (.ite (.need (.need (.need (.need (.ite (.ite (.next [0, 1, 2, 3]) (.need (.need (.need (.need (.call (c_s_manhattan ((X (x12))) ((Y (x12))) ((X (x17))) ((Y (x17)))) (.need (.need (.need (.need (.callF (c_s_manhattan ((X ((br X Y n x8 x12 x17).1))) ((Y ((br X Y n x8 x12 x17).1))) ((X ((br X Y n x8 x12 x17).2))) ((Y ((br X Y n x8 x12 x17).2)))) (.ite (.next [0, 1, 2, 3]) (.next [0, 1, 2, 3]))))))))))))) (.next [0, 1, 2, 3])))))) (.out (.next [0, 1, 2, 3])))) (.out (.need (.need (.need (.loop [] [0, 2, 3, 4, 1] (Int) (fun x42 => ⟨spl 114 0 [(0, (.sl 0 2 (.lit 0) (.v fun _ => n) 20)), (2, (.raw (.slice none 0 0))), (3, (.sl 4 2 (.lit 0) (.v fun _ => x8 + 1) 20)), (4, (.sl 1 1 (.lit 0) (.v fun _ => n) 20)), (6, (.ptr 2 2 (.lit 0) 0)), (7, (.int .i64 (.v fun _ => x12) 0 20)), (9, (.int .i64 (.v fun _ => gG X Y n x8 (spV X Y n x8)) 0 20)), (10, (.int .i64 (.v fun _ => x42) 0 20)), (24, (.int .i64 (.v fun _ => x8) 0 20)), (25, (.int .i64 (.add (.v fun _ => x8) (.lit 1)) 1 21)), (26, (.sl 0 2 (.lit 0) (.v fun _ => n) 20)), (27, (.int .i64 (.v fun _ => n) 0 20)), (28, (.bool (.lt (.add (.v fun _ => x8) (.lit 1)) (.v fun _ => n)))), (29, (.agg [(.int .i64 (.lit (-1)) (-1) (-1)), (.int .i64 (.lit 0) 0 0)])), (30, (.int .i64 (.v fun _ => x12) 0 20)), (31, (.sl 0 2 (.lit 0) (.v fun _ => n) 20)), (32, (.int .i64 (.v fun _ => n) 0 20)), (33, (.bool (.lt (.v fun _ => x12) (.v fun _ => n)))), (85, (.agg [(.int .i64 (.v fun _ => (bq X Y n x8 x12).1) (-1) 20), (.int .i64 (.v fun _ => (bq X Y n x8 x12).2) 0 20)])), (86, (.sl 3 2 (.lit 0) (.lit 1) 1)), (87, (.sl 4 2 (.lit 0) (.add (.v fun _ => x8) (.lit 1)) 21)), (88, (.sl 1 1 (.lit 0) (.v fun _ => n) 20)), (89, (.ptr 2 2 (.lit 0) 1)), (90, (.int .i64 (.v fun _ => (bq X Y n x8 x12).2) 0 20)), (91, (.ptr 1 1 (.v fun _ => (bq X Y n x8 x12).2) 0)), (92, (.int .i64 (.v fun _ => gG X Y n x8 ((bq X Y n x8 x12).2)) 0 20))], [some ⟨35, 2, true, (.sym (.v fun _ => n) fun e => [(.int .i64 (.v fun _ => (X (e.den))) (-1000) 1000), (.int .i64 (.v fun _ => (Y (e.den))) (-1000) 1000)])⟩, some ⟨3, 1, true, (.sym (.v fun _ => n) fun e => [(.int .i64 (.v fun _ => gM X Y n x8 x42 (e.den)) 0 20)])⟩, some ⟨102, 2, true, (.lit [[(.int .i64 (.v fun _ => spU X Y n x8) 0 20), (.int .i64 (.v fun _ => spV X Y n x8) 0 20)]])⟩, some ⟨102, 2, true, (.lit [[(.int .i64 (.v fun _ => (bq X Y n x8 x12).1) (-1) 20), (.int .i64 (.v fun _ => (bq X Y n x8 x12).2) 0 20)]])⟩, some ⟨102, 2, true, (.sym (.v fun _ => x8 + 1) fun e => [(.int .i64 (.v fun _ => spU X Y n (e.den)) 0 20), (.int .i64 (.v fun _ => spV X Y n (e.den)) 0 20)])⟩], 1⟩) (fun x42 => (0 ≤ x8 ∧ x8 + 1 < n) ∧ 0 ≤ x42 ∧ x42 ≤ n) (fun x42 => (n - x42).toNat) fun x42 => (.ite (.need (.need (.ite (.need (.need (.need (.need (.next [0, 1, 2, 3, 4]))))) (.next [0, 1, 2, 3, 4])))) (.out (.next [0, 4, 1])))))))))) (.out .ret))))))) (G := (0 ≤ n ∧ n ≤ 20) → (∀ e63 : E, ((0 ≤ e63.den ∧ e63.den < n) → (((-1000) ≤ ((X (e63.den))) ∧ ((X (e63.den))) ≤ 1000) ∧ ((-1000) ≤ ((Y (e63.den))) ∧ ((Y (e63.den))) ≤ 1000)))) → ((∃ y2 : Int, ((0 ≤ y2 ∧ y2 ≤ n) ∧ (((n = n) ∧ ((((.slice none 0 0) : Value) = (.slice none 0 0)) ∧ (((0 : Int) = y2) ∧ ((0 : Int) = y2)))) ∧ (((n ≤ n) ∧ (∀ e3 : E, ((0 ≤ e3.den ∧ e3.den < n) → ((((X (e3.den))) = ((X (e3.den)))) ∧ (((Y (e3.den))) = ((Y (e3.den)))))))) ∧ (y2 = 0))))) ∧ (∀ x1 : Int, ((0 ≤ x1 ∧ x1 ≤ n) → (((x1 < n) → ((x1 = x1) ∧ (∃ y4 : Int, ((0 ≤ y4 ∧ y4 ≤ n) ∧ ((((n = n) ∧ ((((.slice none 0 0) : Value) = (.slice none 0 0)) ∧ ((((x1 + 1) = y4) ∧ (((x1 + 1) ≤ 21) → (y4 ≤ 20))) ∧ (((x1 + 1) = y4) ∧ ((1 ≤ (x1 + 1) ∧ (x1 + 1) ≤ 21) → (0 ≤ y4 ∧ y4 ≤ 20)))))) ∧ (((n ≤ n) ∧ (∀ e7 : E, ((0 ≤ e7.den ∧ e7.den < n) → ((((X (e7.den))) = ((X (e7.den)))) ∧ (((Y (e7.den))) = ((Y (e7.den)))))))) ∧ (((0 : Int) ≤ x1 ∧ y4 = x1 + 1) ∧ (((x1 ≤ x1) ∧ (∀ e6 : E, ((0 ≤ e6.den ∧ e6.den < x1) → ((e6.den) = (e6.den))))) ∧ (∀ e5 : E, ((e5.den = x1) → (x1 = (e5.den)))))))) ∧ ((n - y4).toNat < (n - x1).toNat)))))) ∧ ((n ≤ x1) → ((∃ y9 : Int, ((0 ≤ y9 ∧ (y9 + 1 ≤ n ∨ y9 = 0)) ∧ (((n = n) ∧ ((((.slice none 0 0) : Value) = (.slice none 0 0)) ∧ (((0 : Int) = y9) ∧ (x1 = n)))) ∧ (((n ≤ n) ∧ (∀ e11 : E, ((0 ≤ e11.den ∧ e11.den < n) → ((((X (e11.den))) = ((X (e11.den)))) ∧ (((Y (e11.den))) = ((Y (e11.den)))))))) ∧ ((y9 = 0) ∧ ((n ≤ x1) ∧ (∀ e10 : E, ((0 ≤ e10.den ∧ e10.den < n) → ((e10.den) = (gG X Y n y9 (e10.den))))))))))) ∧ (∀ x8 : Int, ((0 ≤ x8 ∧ (x8 + 1 ≤ n ∨ x8 = 0)) → ((((x8 + 1) < n) → ((∃ y13 : Int, (((0 ≤ x8 ∧ x8 + 1 < n) ∧ 0 ≤ y13 ∧ y13 ≤ n) ∧ (((n = n) ∧ ((((.slice none 0 0) : Value) = (.slice none 0 0)) ∧ ((x8 = x8) ∧ ((n = n) ∧ (((0 : Int) = y13) ∧ ((x8 = x8) ∧ ((x8 = x8) ∧ (((x8 + 1) = (x8 + 1)) ∧ ((n = n) ∧ ((n = n) ∧ (((x8 + 1) < n) ↔ ((x8 + 1) < n)))))))))))) ∧ (((n ≤ n) ∧ (∀ e16 : E, ((0 ≤ e16.den ∧ e16.den < n) → ((((X (e16.den))) = ((X (e16.den)))) ∧ (((Y (e16.den))) = ((Y (e16.den)))))))) ∧ (((x8 ≤ x8) ∧ (∀ e15 : E, ((0 ≤ e15.den ∧ e15.den < x8) → (((spU X Y n (e15.den)) = (spU X Y n (e15.den))) ∧ ((spV X Y n (e15.den)) = (spV X Y n (e15.den))))))) ∧ (((n ≤ n) ∧ (∀ e14 : E, ((0 ≤ e14.den ∧ e14.den < n) → ((gG X Y n x8 (e14.den)) = (gG X Y n x8 (e14.den)))))) ∧ ((((-1) : Int) = ((bq X Y n x8 y13).1)) ∧ ((0 : Int) = ((bq X Y n x8 y13).2))))))))) ∧ (∀ x12 : Int, (((0 ≤ x8 ∧ x8 + 1 < n) ∧ 0 ≤ x12 ∧ x12 ≤ n) → (((x12 < n) → ((∃ y18 : Int, ((((0 ≤ x8 ∧ x8 + 1 < n) ∧ 0 ≤ x12 ∧ x12 < n) ∧ x12 + 1 ≤ y18 ∧ y18 ≤ n) ∧ (((n = n) ∧ ((((.slice none 0 0) : Value) = (.slice none 0 0)) ∧ ((x8 = x8) ∧ ((n = n) ∧ ((x12 = x12) ∧ ((((x12 + 1) = y18) ∧ ((1 ≤ (x12 + 1) ∧ (x12 + 1) ≤ 21) → (1 ≤ y18 ∧ y18 ≤ 20))) ∧ ((x8 = x8) ∧ ((x8 = x8) ∧ (((x8 + 1) = (x8 + 1)) ∧ ((n = n) ∧ ((n = n) ∧ ((((x8 + 1) < n) ↔ ((x8 + 1) < n)) ∧ ((x12 = x12) ∧ ((n = n) ∧ ((n = n) ∧ (((x12 < n) ↔ (x12 < n)) ∧ ((x12 = x12) ∧ ((x12 + 1) = (x12 + 1))))))))))))))))))) ∧ (((n ≤ n) ∧ (∀ e21 : E, ((0 ≤ e21.den ∧ e21.den < n) → ((((X (e21.den))) = ((X (e21.den)))) ∧ (((Y (e21.den))) = ((Y (e21.den)))))))) ∧ (((x8 ≤ x8) ∧ (∀ e20 : E, ((0 ≤ e20.den ∧ e20.den < x8) → (((spU X Y n (e20.den)) = (spU X Y n (e20.den))) ∧ ((spV X Y n (e20.den)) = (spV X Y n (e20.den))))))) ∧ (((n ≤ n) ∧ (∀ e19 : E, ((0 ≤ e19.den ∧ e19.den < n) → ((gG X Y n x8 (e19.den)) = (gG X Y n x8 (e19.den)))))) ∧ ((((bq X Y n x8 x12).1) = ((br X Y n x8 x12 y18).1)) ∧ (((bq X Y n x8 x12).2) = ((br X Y n x8 x12 y18).2))))))))) ∧ (∀ x17 : Int, ((((0 ≤ x8 ∧ x8 + 1 < n) ∧ 0 ≤ x12 ∧ x12 < n) ∧ x12 + 1 ≤ x17 ∧ x17 ≤ n) → (((x17 < n) → ((((0 ≤ x12) ∧ (x12 < n))) ∧ ((x12 < n) ∧ ((((0 ≤ x17) ∧ (x17 < n))) ∧ ((x17 < n) ∧ ((((gG X Y n x8 (x12)) ≠ (gG X Y n x8 (x17))) → (((((br X Y n x8 x12 x17).1) < 0) → (∃ y22 : Int, ((((0 ≤ x8 ∧ x8 + 1 < n) ∧ 0 ≤ x12 ∧ x12 < n) ∧ x12 + 1 ≤ y22 ∧ y22 ≤ n) ∧ ((((n = n) ∧ ((((.slice none 0 0) : Value) = (.slice none 0 0)) ∧ ((x8 = x8) ∧ ((n = n) ∧ ((x12 = x12) ∧ ((((x17 + 1) = y22) ∧ ((2 ≤ (x17 + 1) ∧ (x17 + 1) ≤ 21) → (1 ≤ y22 ∧ y22 ≤ 20))) ∧ ((x8 = x8) ∧ ((x8 = x8) ∧ (((x8 + 1) = (x8 + 1)) ∧ ((n = n) ∧ ((n = n) ∧ ((((x8 + 1) < n) ↔ ((x8 + 1) < n)) ∧ ((x12 = x12) ∧ ((n = n) ∧ ((n = n) ∧ (((x12 < n) ↔ (x12 < n)) ∧ ((x12 = x12) ∧ ((x12 + 1) = (x12 + 1))))))))))))))))))) ∧ (((n ≤ n) ∧ (∀ e25 : E, ((0 ≤ e25.den ∧ e25.den < n) → ((((X (e25.den))) = ((X (e25.den)))) ∧ (((Y (e25.den))) = ((Y (e25.den)))))))) ∧ (((x8 ≤ x8) ∧ (∀ e24 : E, ((0 ≤ e24.den ∧ e24.den < x8) → (((spU X Y n (e24.den)) = (spU X Y n (e24.den))) ∧ ((spV X Y n (e24.den)) = (spV X Y n (e24.den))))))) ∧ (((n ≤ n) ∧ (∀ e23 : E, ((0 ≤ e23.den ∧ e23.den < n) → ((gG X Y n x8 (e23.den)) = (gG X Y n x8 (e23.den)))))) ∧ ((x12 = ((br X Y n x8 x12 y22).1)) ∧ (x17 = ((br X Y n x8 x12 y22).2))))))) ∧ ((n - y22).toNat < (n - x17).toNat))))) ∧ ((0 ≤ ((br X Y n x8 x12 x17).1)) → ((((0 ≤ x12) ∧ (x12 < n))) ∧ ((x12 < n) ∧ ((((0 ≤ x17) ∧ (x17 < n))) ∧ ((x17 < n) ∧ ((((((X (x12))) = ((X (x12)))) ∧ (((Y (x12))) = ((Y (x12))))) ∧ ((((X (x17))) = ((X (x17)))) ∧ (((Y (x17))) = ((Y (x17)))))) ∧ ((((0 ≤ ((br X Y n x8 x12 x17).1)) ∧ (((br X Y n x8 x12 x17).1) < n))) ∧ ((((br X Y n x8 x12 x17).1) < n) ∧ ((((0 ≤ ((br X Y n x8 x12 x17).2)) ∧ (((br X Y n x8 x12 x17).2) < n))) ∧ ((((br X Y n x8 x12 x17).2) < n) ∧ ((((((X ((br X Y n x8 x12 x17).1))) = ((X ((br X Y n x8 x12 x17).1)))) ∧ (((Y ((br X Y n x8 x12 x17).1))) = ((Y ((br X Y n x8 x12 x17).1))))) ∧ ((((X ((br X Y n x8 x12 x17).2))) = ((X ((br X Y n x8 x12 x17).2)))) ∧ (((Y ((br X Y n x8 x12 x17).2))) = ((Y ((br X Y n x8 x12 x17).2)))))) ∧ ((0 ≤ (mht ((X ((br X Y n x8 x12 x17).1))) ((Y ((br X Y n x8 x12 x17).1))) ((X ((br X Y n x8 x12 x17).2))) ((Y ((br X Y n x8 x12 x17).2)))) ∧ (mht ((X ((br X Y n x8 x12 x17).1))) ((Y ((br X Y n x8 x12 x17).1))) ((X ((br X Y n x8 x12 x17).2))) ((Y ((br X Y n x8 x12 x17).2)))) ≤ 4000) → ((((mht ((X (x12))) ((Y (x12))) ((X (x17))) ((Y (x17)))) < (mht ((X ((br X Y n x8 x12 x17).1))) ((Y ((br X Y n x8 x12 x17).1))) ((X ((br X Y n x8 x12 x17).2))) ((Y ((br X Y n x8 x12 x17).2))))) → (∃ y26 : Int, ((((0 ≤ x8 ∧ x8 + 1 < n) ∧ 0 ≤ x12 ∧ x12 < n) ∧ x12 + 1 ≤ y26 ∧ y26 ≤ n) ∧ ((((n = n) ∧ ((((.slice none 0 0) : Value) = (.slice none 0 0)) ∧ ((x8 = x8) ∧ ((n = n) ∧ ((x12 = x12) ∧ ((((x17 + 1) = y26) ∧ ((2 ≤ (x17 + 1) ∧ (x17 + 1) ≤ 21) → (1 ≤ y26 ∧ y26 ≤ 20))) ∧ ((x8 = x8) ∧ ((x8 = x8) ∧ (((x8 + 1) = (x8 + 1)) ∧ ((n = n) ∧ ((n = n) ∧ ((((x8 + 1) < n) ↔ ((x8 + 1) < n)) ∧ ((x12 = x12) ∧ ((n = n) ∧ ((n = n) ∧ (((x12 < n) ↔ (x12 < n)) ∧ ((x12 = x12) ∧ ((x12 + 1) = (x12 + 1))))))))))))))))))) ∧ (((n ≤ n) ∧ (∀ e29 : E, ((0 ≤ e29.den ∧ e29.den < n) → ((((X (e29.den))) = ((X (e29.den)))) ∧ (((Y (e29.den))) = ((Y (e29.den)))))))) ∧ (((x8 ≤ x8) ∧ (∀ e28 : E, ((0 ≤ e28.den ∧ e28.den < x8) → (((spU X Y n (e28.den)) = (spU X Y n (e28.den))) ∧ ((spV X Y n (e28.den)) = (spV X Y n (e28.den))))))) ∧ (((n ≤ n) ∧ (∀ e27 : E, ((0 ≤ e27.den ∧ e27.den < n) → ((gG X Y n x8 (e27.den)) = (gG X Y n x8 (e27.den)))))) ∧ ((x12 = ((br X Y n x8 x12 y26).1)) ∧ (x17 = ((br X Y n x8 x12 y26).2))))))) ∧ ((n - y26).toNat < (n - x17).toNat))))) ∧ (((mht ((X ((br X Y n x8 x12 x17).1))) ((Y ((br X Y n x8 x12 x17).1))) ((X ((br X Y n x8 x12 x17).2))) ((Y ((br X Y n x8 x12 x17).2)))) ≤ (mht ((X (x12))) ((Y (x12))) ((X (x17))) ((Y (x17))))) → (∃ y30 : Int, ((((0 ≤ x8 ∧ x8 + 1 < n) ∧ 0 ≤ x12 ∧ x12 < n) ∧ x12 + 1 ≤ y30 ∧ y30 ≤ n) ∧ ((((n = n) ∧ ((((.slice none 0 0) : Value) = (.slice none 0 0)) ∧ ((x8 = x8) ∧ ((n = n) ∧ ((x12 = x12) ∧ ((((x17 + 1) = y30) ∧ ((2 ≤ (x17 + 1) ∧ (x17 + 1) ≤ 21) → (1 ≤ y30 ∧ y30 ≤ 20))) ∧ ((x8 = x8) ∧ ((x8 = x8) ∧ (((x8 + 1) = (x8 + 1)) ∧ ((n = n) ∧ ((n = n) ∧ ((((x8 + 1) < n) ↔ ((x8 + 1) < n)) ∧ ((x12 = x12) ∧ ((n = n) ∧ ((n = n) ∧ (((x12 < n) ↔ (x12 < n)) ∧ ((x12 = x12) ∧ ((x12 + 1) = (x12 + 1))))))))))))))))))) ∧ (((n ≤ n) ∧ (∀ e33 : E, ((0 ≤ e33.den ∧ e33.den < n) → ((((X (e33.den))) = ((X (e33.den)))) ∧ (((Y (e33.den))) = ((Y (e33.den)))))))) ∧ (((x8 ≤ x8) ∧ (∀ e32 : E, ((0 ≤ e32.den ∧ e32.den < x8) → (((spU X Y n (e32.den)) = (spU X Y n (e32.den))) ∧ ((spV X Y n (e32.den)) = (spV X Y n (e32.den))))))) ∧ (((n ≤ n) ∧ (∀ e31 : E, ((0 ≤ e31.den ∧ e31.den < n) → ((gG X Y n x8 (e31.den)) = (gG X Y n x8 (e31.den)))))) ∧ ((((br X Y n x8 x12 x17).1) = ((br X Y n x8 x12 y30).1)) ∧ (((br X Y n x8 x12 x17).2) = ((br X Y n x8 x12 y30).2))))))) ∧ ((n - y30).toNat < (n - x17).toNat)))))))))))))))))))) ∧ (((gG X Y n x8 (x12)) = (gG X Y n x8 (x17))) → (∃ y34 : Int, ((((0 ≤ x8 ∧ x8 + 1 < n) ∧ 0 ≤ x12 ∧ x12 < n) ∧ x12 + 1 ≤ y34 ∧ y34 ≤ n) ∧ ((((n = n) ∧ ((((.slice none 0 0) : Value) = (.slice none 0 0)) ∧ ((x8 = x8) ∧ ((n = n) ∧ ((x12 = x12) ∧ ((((x17 + 1) = y34) ∧ ((2 ≤ (x17 + 1) ∧ (x17 + 1) ≤ 21) → (1 ≤ y34 ∧ y34 ≤ 20))) ∧ ((x8 = x8) ∧ ((x8 = x8) ∧ (((x8 + 1) = (x8 + 1)) ∧ ((n = n) ∧ ((n = n) ∧ ((((x8 + 1) < n) ↔ ((x8 + 1) < n)) ∧ ((x12 = x12) ∧ ((n = n) ∧ ((n = n) ∧ (((x12 < n) ↔ (x12 < n)) ∧ ((x12 = x12) ∧ ((x12 + 1) = (x12 + 1))))))))))))))))))) ∧ (((n ≤ n) ∧ (∀ e37 : E, ((0 ≤ e37.den ∧ e37.den < n) → ((((X (e37.den))) = ((X (e37.den)))) ∧ (((Y (e37.den))) = ((Y (e37.den)))))))) ∧ (((x8 ≤ x8) ∧ (∀ e36 : E, ((0 ≤ e36.den ∧ e36.den < x8) → (((spU X Y n (e36.den)) = (spU X Y n (e36.den))) ∧ ((spV X Y n (e36.den)) = (spV X Y n (e36.den))))))) ∧ (((n ≤ n) ∧ (∀ e35 : E, ((0 ≤ e35.den ∧ e35.den < n) → ((gG X Y n x8 (e35.den)) = (gG X Y n x8 (e35.den)))))) ∧ ((((br X Y n x8 x12 x17).1) = ((br X Y n x8 x12 y34).1)) ∧ (((br X Y n x8 x12 x17).2) = ((br X Y n x8 x12 y34).2))))))) ∧ ((n - y34).toNat < (n - x17).toNat))))))))))) ∧ ((n ≤ x17) → (∃ y38 : Int, (((0 ≤ x8 ∧ x8 + 1 < n) ∧ 0 ≤ y38 ∧ y38 ≤ n) ∧ ((((n = n) ∧ ((((.slice none 0 0) : Value) = (.slice none 0 0)) ∧ ((x8 = x8) ∧ ((n = n) ∧ ((((x12 + 1) = y38) ∧ ((1 ≤ (x12 + 1) ∧ (x12 + 1) ≤ 21) → (0 ≤ y38 ∧ y38 ≤ 20))) ∧ ((x8 = x8) ∧ ((x8 = x8) ∧ (((x8 + 1) = (x8 + 1)) ∧ ((n = n) ∧ ((n = n) ∧ (((x8 + 1) < n) ↔ ((x8 + 1) < n)))))))))))) ∧ (((n ≤ n) ∧ (∀ e41 : E, ((0 ≤ e41.den ∧ e41.den < n) → ((((X (e41.den))) = ((X (e41.den)))) ∧ (((Y (e41.den))) = ((Y (e41.den)))))))) ∧ (((x8 ≤ x8) ∧ (∀ e40 : E, ((0 ≤ e40.den ∧ e40.den < x8) → (((spU X Y n (e40.den)) = (spU X Y n (e40.den))) ∧ ((spV X Y n (e40.den)) = (spV X Y n (e40.den))))))) ∧ (((n ≤ n) ∧ (∀ e39 : E, ((0 ≤ e39.den ∧ e39.den < n) → ((gG X Y n x8 (e39.den)) = (gG X Y n x8 (e39.den)))))) ∧ ((((br X Y n x8 x12 x17).1) = ((bq X Y n x8 y38).1)) ∧ (((br X Y n x8 x12 x17).2) = ((bq X Y n x8 y38).2))))))) ∧ ((n - y38).toNat < (n - x12).toNat)))))))))) ∧ ((n ≤ x12) → ((x8 = x8) ∧ ((((0 ≤ ((bq X Y n x8 x12).2)) ∧ (((bq X Y n x8 x12).2) < n))) ∧ ((((bq X Y n x8 x12).2) < n) ∧ ((∃ y43 : Int, (((0 ≤ x8 ∧ x8 + 1 < n) ∧ 0 ≤ y43 ∧ y43 ≤ n) ∧ (((n = n) ∧ ((((.slice none 0 0) : Value) = (.slice none 0 0)) ∧ ((((x8 + 1) = (x8 + 1)) ∧ (((x8 + 1) ≤ 21) → ((x8 + 1) ≤ 20))) ∧ ((n = n) ∧ ((x12 = x12) ∧ (((gG X Y n x8 ((bq X Y n x8 x12).2)) = (gG X Y n x8 (spV X Y n x8))) ∧ (((0 : Int) = y43) ∧ ((x8 = x8) ∧ (((x8 + 1) = (x8 + 1)) ∧ ((n = n) ∧ ((n = n) ∧ ((((x8 + 1) < n) ↔ ((x8 + 1) < n)) ∧ ((x12 = x12) ∧ ((n = n) ∧ ((n = n) ∧ (((x12 < n) ↔ (x12 < n)) ∧ (((((bq X Y n x8 x12).1) = ((bq X Y n x8 x12).1)) ∧ (((bq X Y n x8 x12).2) = ((bq X Y n x8 x12).2))) ∧ (((x8 + 1) = (x8 + 1)) ∧ ((n = n) ∧ ((((bq X Y n x8 x12).2) = ((bq X Y n x8 x12).2)) ∧ ((((bq X Y n x8 x12).2) = ((bq X Y n x8 x12).2)) ∧ ((gG X Y n x8 ((bq X Y n x8 x12).2)) = (gG X Y n x8 ((bq X Y n x8 x12).2)))))))))))))))))))))))) ∧ (((n ≤ n) ∧ (∀ e47 : E, ((0 ≤ e47.den ∧ e47.den < n) → ((((X (e47.den))) = ((X (e47.den)))) ∧ (((Y (e47.den))) = ((Y (e47.den)))))))) ∧ (((n ≤ n) ∧ (∀ e46 : E, ((0 ≤ e46.den ∧ e46.den < n) → ((gG X Y n x8 (e46.den)) = (gM X Y n x8 y43 (e46.den)))))) ∧ ((((((bq X Y n x8 x12).1) = (spU X Y n x8)) ∧ (((-1) ≤ ((bq X Y n x8 x12).1) ∧ ((bq X Y n x8 x12).1) ≤ 20) → (0 ≤ (spU X Y n x8) ∧ (spU X Y n x8) ≤ 20))) ∧ (((bq X Y n x8 x12).2) = (spV X Y n x8))) ∧ (((((bq X Y n x8 x12).1) = ((bq X Y n x8 x12).1)) ∧ (((bq X Y n x8 x12).2) = ((bq X Y n x8 x12).2))) ∧ (((0 : Int) ≤ x8 ∧ (x8 + 1) = x8 + 1) ∧ (((x8 ≤ x8) ∧ (∀ e45 : E, ((0 ≤ e45.den ∧ e45.den < x8) → (((spU X Y n (e45.den)) = (spU X Y n (e45.den))) ∧ ((spV X Y n (e45.den)) = (spV X Y n (e45.den))))))) ∧ (∀ e44 : E, ((e44.den = x8) → (((((bq X Y n x8 x12).1) = (spU X Y n (e44.den))) ∧ (((-1) ≤ ((bq X Y n x8 x12).1) ∧ ((bq X Y n x8 x12).1) ≤ 20) → (0 ≤ (spU X Y n (e44.den)) ∧ (spU X Y n (e44.den)) ≤ 20))) ∧ (((bq X Y n x8 x12).2) = (spV X Y n (e44.den))))))))))))))) ∧ (∀ x42 : Int, (((0 ≤ x8 ∧ x8 + 1 < n) ∧ 0 ≤ x42 ∧ x42 ≤ n) → (((x42 < n) → ((((0 ≤ x42) ∧ (x42 < n))) ∧ ((x42 < n) ∧ ((((gM X Y n x8 x42 (x42)) = (gG X Y n x8 (spV X Y n x8))) → ((((0 ≤ (spU X Y n x8)) ∧ ((spU X Y n x8) < n))) ∧ (((spU X Y n x8) < n) ∧ ((((0 ≤ x42) ∧ (x42 < n))) ∧ ((x42 < n) ∧ (∃ y48 : Int, (((0 ≤ x8 ∧ x8 + 1 < n) ∧ 0 ≤ y48 ∧ y48 ≤ n) ∧ ((((n = n) ∧ ((((.slice none 0 0) : Value) = (.slice none 0 0)) ∧ (((x8 + 1) = (x8 + 1)) ∧ ((n = n) ∧ ((x12 = x12) ∧ (((gG X Y n x8 (spV X Y n x8)) = (gG X Y n x8 (spV X Y n x8))) ∧ ((((x42 + 1) = y48) ∧ ((1 ≤ (x42 + 1) ∧ (x42 + 1) ≤ 21) → (0 ≤ y48 ∧ y48 ≤ 20))) ∧ ((x8 = x8) ∧ (((x8 + 1) = (x8 + 1)) ∧ ((n = n) ∧ ((n = n) ∧ ((((x8 + 1) < n) ↔ ((x8 + 1) < n)) ∧ ((x12 = x12) ∧ ((n = n) ∧ ((n = n) ∧ (((x12 < n) ↔ (x12 < n)) ∧ (((((bq X Y n x8 x12).1) = ((bq X Y n x8 x12).1)) ∧ (((bq X Y n x8 x12).2) = ((bq X Y n x8 x12).2))) ∧ (((x8 + 1) = (x8 + 1)) ∧ ((n = n) ∧ ((((bq X Y n x8 x12).2) = ((bq X Y n x8 x12).2)) ∧ ((((bq X Y n x8 x12).2) = ((bq X Y n x8 x12).2)) ∧ ((gG X Y n x8 ((bq X Y n x8 x12).2)) = (gG X Y n x8 ((bq X Y n x8 x12).2)))))))))))))))))))))))) ∧ (((n ≤ n) ∧ (∀ e52 : E, ((0 ≤ e52.den ∧ e52.den < n) → ((((X (e52.den))) = ((X (e52.den)))) ∧ (((Y (e52.den))) = ((Y (e52.den)))))))) ∧ (((n = n) ∧ ((∀ e51 : E, ((0 ≤ e51.den ∧ e51.den < n ∧ e51.den ≠ x42) → ((gM X Y n x8 x42 (e51.den)) = (gM X Y n x8 y48 (e51.den))))) ∧ (∀ e50 : E, ((e50.den.toNat = (x42 : Int).toNat ∧ 0 ≤ e50.den) → ((gM X Y n x8 x42 (spU X Y n x8)) = (gM X Y n x8 y48 (e50.den))))))) ∧ ((((spU X Y n x8) = (spU X Y n x8)) ∧ ((spV X Y n x8) = (spV X Y n x8))) ∧ (((((bq X Y n x8 x12).1) = ((bq X Y n x8 x12).1)) ∧ (((bq X Y n x8 x12).2) = ((bq X Y n x8 x12).2))) ∧ (((x8 + 1) ≤ (x8 + 1)) ∧ (∀ e49 : E, ((0 ≤ e49.den ∧ e49.den < (x8 + 1)) → (((spU X Y n (e49.den)) = (spU X Y n (e49.den))) ∧ ((spV X Y n (e49.den)) = (spV X Y n (e49.den)))))))))))) ∧ ((n - y48).toNat < (n - x42).toNat))))))))) ∧ (((gM X Y n x8 x42 (x42)) ≠ (gG X Y n x8 (spV X Y n x8))) → (∃ y53 : Int, (((0 ≤ x8 ∧ x8 + 1 < n) ∧ 0 ≤ y53 ∧ y53 ≤ n) ∧ ((((n = n) ∧ ((((.slice none 0 0) : Value) = (.slice none 0 0)) ∧ (((x8 + 1) = (x8 + 1)) ∧ ((n = n) ∧ ((x12 = x12) ∧ (((gG X Y n x8 (spV X Y n x8)) = (gG X Y n x8 (spV X Y n x8))) ∧ ((((x42 + 1) = y53) ∧ ((1 ≤ (x42 + 1) ∧ (x42 + 1) ≤ 21) → (0 ≤ y53 ∧ y53 ≤ 20))) ∧ ((x8 = x8) ∧ (((x8 + 1) = (x8 + 1)) ∧ ((n = n) ∧ ((n = n) ∧ ((((x8 + 1) < n) ↔ ((x8 + 1) < n)) ∧ ((x12 = x12) ∧ ((n = n) ∧ ((n = n) ∧ (((x12 < n) ↔ (x12 < n)) ∧ (((((bq X Y n x8 x12).1) = ((bq X Y n x8 x12).1)) ∧ (((bq X Y n x8 x12).2) = ((bq X Y n x8 x12).2))) ∧ (((x8 + 1) = (x8 + 1)) ∧ ((n = n) ∧ ((((bq X Y n x8 x12).2) = ((bq X Y n x8 x12).2)) ∧ ((((bq X Y n x8 x12).2) = ((bq X Y n x8 x12).2)) ∧ ((gG X Y n x8 ((bq X Y n x8 x12).2)) = (gG X Y n x8 ((bq X Y n x8 x12).2)))))))))))))))))))))))) ∧ (((n ≤ n) ∧ (∀ e56 : E, ((0 ≤ e56.den ∧ e56.den < n) → ((((X (e56.den))) = ((X (e56.den)))) ∧ (((Y (e56.den))) = ((Y (e56.den)))))))) ∧ (((n ≤ n) ∧ (∀ e55 : E, ((0 ≤ e55.den ∧ e55.den < n) → ((gM X Y n x8 x42 (e55.den)) = (gM X Y n x8 y53 (e55.den)))))) ∧ ((((spU X Y n x8) = (spU X Y n x8)) ∧ ((spV X Y n x8) = (spV X Y n x8))) ∧ (((((bq X Y n x8 x12).1) = ((bq X Y n x8 x12).1)) ∧ (((bq X Y n x8 x12).2) = ((bq X Y n x8 x12).2))) ∧ (((x8 + 1) ≤ (x8 + 1)) ∧ (∀ e54 : E, ((0 ≤ e54.den ∧ e54.den < (x8 + 1)) → (((spU X Y n (e54.den)) = (spU X Y n (e54.den))) ∧ ((spV X Y n (e54.den)) = (spV X Y n (e54.den)))))))))))) ∧ ((n - y53).toNat < (n - x42).toNat))))))))) ∧ ((n ≤ x42) → (∃ y57 : Int, ((0 ≤ y57 ∧ (y57 + 1 ≤ n ∨ y57 = 0)) ∧ ((((n = n) ∧ ((((.slice none 0 0) : Value) = (.slice none 0 0)) ∧ (((x8 + 1) = y57) ∧ (n = n)))) ∧ (((n ≤ n) ∧ (∀ e60 : E, ((0 ≤ e60.den ∧ e60.den < n) → ((((X (e60.den))) = ((X (e60.den)))) ∧ (((Y (e60.den))) = ((Y (e60.den)))))))) ∧ (((y57 ≤ (x8 + 1)) ∧ (∀ e59 : E, ((0 ≤ e59.den ∧ e59.den < y57) → (((spU X Y n (e59.den)) = (spU X Y n (e59.den))) ∧ ((spV X Y n (e59.den)) = (spV X Y n (e59.den))))))) ∧ ((n ≤ n) ∧ (∀ e58 : E, ((0 ≤ e58.den ∧ e58.den < n) → ((gM X Y n x8 x42 (e58.den)) = (gG X Y n y57 (e58.den))))))))) ∧ ((n - y57).toNat < (n - x8).toNat)))))))))))))))))) ∧ ((n ≤ (x8 + 1)) → ((x8 = (stN n)) ∧ (((n ≤ n) ∧ (∀ e62 : E, ((0 ≤ e62.den ∧ e62.den < n) → ((((X (e62.den))) = ((X (e62.den)))) ∧ (((Y (e62.den))) = ((Y (e62.den)))))))) ∧ (((stN n) ≤ x8) ∧ (∀ e61 : E, ((0 ≤ e61.den ∧ e61.den < (stN n)) → (((spU X Y n (e61.den)) = (spU X Y n e61.den)) ∧ ((spV X Y n (e61.den)) = (spV X Y n e61.den))))))))))))))))))) (by kernel_rfl) ?_
  intro h1 h2
  refine ⟨?_, ?_⟩
  · refine ⟨0, ?_⟩
    try dsimp only
    refine ⟨?_, ?_, ⟨Int.le_refl _, fun _ => fun _ => ⟨rfl, rfl⟩⟩, ?_⟩
    · omega
    · refine ⟨rfl, rfl, ?_, ?_⟩
      · omega
      · omega
    · omega
  · intro j
    intro I1
    refine ⟨?_, ?_⟩
    · intro c64
      refine ⟨?_, ?_⟩
      · omega
      · refine ⟨j + 1, ?_⟩
        try dsimp only
        refine ⟨?_, ?_, ?_⟩
        · omega
        · refine ⟨?_, ⟨Int.le_refl _, fun _ => fun _ => ⟨rfl, rfl⟩⟩, ?_, ⟨Int.le_refl _, fun _ => fun _ => rfl⟩, ?_⟩
          · refine ⟨rfl, rfl, ?_, ?_, ?_⟩
            · refine ⟨?_, ?_⟩
              · omega
              · intro c65
                omega
            · omega
            · intro c66
              omega
          · omega
          · intro e5
            intro c67
            omega
        · omega
    · intro c68
      refine ⟨?_, ?_⟩
      · refine ⟨0, ?_⟩
        try dsimp only
        refine ⟨?_, ?_, ⟨Int.le_refl _, fun _ => fun _ => ⟨rfl, rfl⟩⟩, ?_, ?_, ?_⟩
        · omega
        · refine ⟨rfl, rfl, ?_, ?_⟩
          · omega
          · omega
        · omega
        · omega
        · intro e10
          intro c69
          have e : j = n := (by omega); subst e; first | rfl | (rw [show e10.den = t by omega]; rfl)
      · intro t
        intro I1
        refine ⟨?_, ?_⟩
        · intro c70
          refine ⟨?_, ?_⟩
          · refine ⟨0, ?_⟩
            try dsimp only
            refine ⟨?_, ?_, ⟨Int.le_refl _, fun _ => fun _ => ⟨rfl, rfl⟩⟩, ⟨Int.le_refl _, fun _ => fun _ => ⟨rfl, rfl⟩⟩, ⟨Int.le_refl _, fun _ => fun _ => rfl⟩, ?_, ?_⟩
            · omega
            · refine ⟨rfl, rfl, rfl, rfl, ?_, rfl, rfl, rfl, rfl, rfl, Iff.rfl⟩
              omega
            · have e : j = n := (by omega); subst e; first | rfl | (rw [show e0.den = t by omega]; rfl)
            · have e : j = n := (by omega); subst e; first | rfl | (rw [show e0.den = t by omega]; rfl)
          · intro j
            intro I2
            refine ⟨?_, ?_⟩
            · intro c71
              refine ⟨?_, ?_⟩
              · refine ⟨j + 1, ?_⟩
                try dsimp only
                refine ⟨?_, ?_, ⟨Int.le_refl _, fun _ => fun _ => ⟨rfl, rfl⟩⟩, ⟨Int.le_refl _, fun _ => fun _ => ⟨rfl, rfl⟩⟩, ⟨Int.le_refl _, fun _ => fun _ => rfl⟩, ?_, ?_⟩
                · omega
                · refine ⟨rfl, rfl, rfl, rfl, rfl, ?_, rfl, rfl, rfl, rfl, rfl, Iff.rfl, rfl, rfl, rfl, Iff.rfl, rfl, rfl⟩
                  refine ⟨?_, ?_⟩
                  · omega
                  · intro c72
                    omega
                · rw [br_0]; done
                · rw [br_0]; done
              · intro k
                intro I3
                refine ⟨?_, ?_⟩
                · intro c73
                  refine ⟨?_, ?_, ?_, ?_, ?_, ?_⟩
                  · omega
                  · omega
                  · omega
                  · omega
                  · intro c74
                    refine ⟨?_, ?_⟩
                    · intro c75
                      refine ⟨k + 1, ?_⟩
                      try dsimp only
                      refine ⟨?_, ?_, ?_⟩
                      · omega
                      · refine ⟨?_, ⟨Int.le_refl _, fun _ => fun _ => ⟨rfl, rfl⟩⟩, ⟨Int.le_refl _, fun _ => fun _ => ⟨rfl, rfl⟩⟩, ⟨Int.le_refl _, fun _ => fun _ => rfl⟩, ?_, ?_⟩
                        · refine ⟨rfl, rfl, rfl, rfl, rfl, ?_, rfl, rfl, rfl, rfl, rfl, Iff.rfl, rfl, rfl, rfl, Iff.rfl, rfl, rfl⟩
                          refine ⟨?_, ?_⟩
                          · omega
                          · intro c76
                            omega
                        · rw [br_yes (by omega) (by assumption) (.inl (by omega))]; done
                        · rw [br_yes (by omega) (by assumption) (.inl (by omega))]; done
                      · omega
                    · intro c77
                      refine ⟨?_, ?_, ?_, ?_, ⟨⟨rfl, rfl⟩, ⟨rfl, rfl⟩⟩, ?_, ?_, ?_, ?_, ⟨⟨rfl, rfl⟩, ⟨rfl, rfl⟩⟩, ?_⟩
                      · omega
                      · omega
                      · omega
                      · omega
                      · have hb := br_ok (X := X) (Y := Y) (n := n) (t := t) (j := j) (k := k) (by omega) (by omega) (by omega); omega
                      · have hb := br_ok (X := X) (Y := Y) (n := n) (t := t) (j := j) (k := k) (by omega) (by omega) (by omega); omega
                      · have hb := br_ok (X := X) (Y := Y) (n := n) (t := t) (j := j) (k := k) (by omega) (by omega) (by omega); omega
                      · have hb := br_ok (X := X) (Y := Y) (n := n) (t := t) (j := j) (k := k) (by omega) (by omega) (by omega); omega
                      · intro c78
                        refine ⟨?_, ?_⟩
                        · intro c79
                          refine ⟨k + 1, ?_⟩
                          try dsimp only
                          refine ⟨?_, ?_, ?_⟩
                          · omega
                          · refine ⟨?_, ⟨Int.le_refl _, fun _ => fun _ => ⟨rfl, rfl⟩⟩, ⟨Int.le_refl _, fun _ => fun _ => ⟨rfl, rfl⟩⟩, ⟨Int.le_refl _, fun _ => fun _ => rfl⟩, ?_, ?_⟩
                            · refine ⟨rfl, rfl, rfl, rfl, rfl, ?_, rfl, rfl, rfl, rfl, rfl, Iff.rfl, rfl, rfl, rfl, Iff.rfl, rfl, rfl⟩
                              refine ⟨?_, ?_⟩
                              · omega
                              · intro c80
                                omega
                            · rw [br_yes (by omega) (by assumption) (.inr (by omega))]; done
                            · rw [br_yes (by omega) (by assumption) (.inr (by omega))]; done
                          · omega
                        · intro c81
                          refine ⟨k + 1, ?_⟩
                          try dsimp only
                          refine ⟨?_, ?_, ?_⟩
                          · omega
                          · refine ⟨?_, ⟨Int.le_refl _, fun _ => fun _ => ⟨rfl, rfl⟩⟩, ⟨Int.le_refl _, fun _ => fun _ => ⟨rfl, rfl⟩⟩, ⟨Int.le_refl _, fun _ => fun _ => rfl⟩, ?_, ?_⟩
                            · refine ⟨rfl, rfl, rfl, rfl, rfl, ?_, rfl, rfl, rfl, rfl, rfl, Iff.rfl, rfl, rfl, rfl, Iff.rfl, rfl, rfl⟩
                              refine ⟨?_, ?_⟩
                              · omega
                              · intro c82
                                omega
                            · rw [br_no2 (by omega) (by omega) (by omega)]; done
                            · rw [br_no2 (by omega) (by omega) (by omega)]; done
                          · omega
                  · intro c83
                    refine ⟨k + 1, ?_⟩
                    try dsimp only
                    refine ⟨?_, ?_, ?_⟩
                    · omega
                    · refine ⟨?_, ⟨Int.le_refl _, fun _ => fun _ => ⟨rfl, rfl⟩⟩, ⟨Int.le_refl _, fun _ => fun _ => ⟨rfl, rfl⟩⟩, ⟨Int.le_refl _, fun _ => fun _ => rfl⟩, ?_, ?_⟩
                      · refine ⟨rfl, rfl, rfl, rfl, rfl, ?_, rfl, rfl, rfl, rfl, rfl, Iff.rfl, rfl, rfl, rfl, Iff.rfl, rfl, rfl⟩
                        refine ⟨?_, ?_⟩
                        · omega
                        · intro c84
                          omega
                      · rw [br_no1 (by omega) (by assumption)]; done
                      · rw [br_no1 (by omega) (by assumption)]; done
                    · omega
                · intro c85
                  refine ⟨j + 1, ?_⟩
                  try dsimp only
                  refine ⟨?_, ?_, ?_⟩
                  · omega
                  · refine ⟨?_, ⟨Int.le_refl _, fun _ => fun _ => ⟨rfl, rfl⟩⟩, ⟨Int.le_refl _, fun _ => fun _ => ⟨rfl, rfl⟩⟩, ⟨Int.le_refl _, fun _ => fun _ => rfl⟩, ?_, ?_⟩
                    · refine ⟨rfl, rfl, rfl, rfl, ?_, rfl, rfl, rfl, rfl, rfl, Iff.rfl⟩
                      refine ⟨?_, ?_⟩
                      · omega
                      · intro c86
                        omega
                    · rw [br_row (X := X) (Y := Y) (n := n) (t := t) (j := j) (k := k) (by omega) (by omega) (by omega)]; done
                    · rw [br_row (X := X) (Y := Y) (n := n) (t := t) (j := j) (k := k) (by omega) (by omega) (by omega)]; done
                  · omega
            · intro c87
              refine ⟨?_, ?_, ?_, ?_, ?_⟩
              · omega
              · have hb := bq_ok (X := X) (Y := Y) (n := n) (t := t) (by omega) (by omega); first | omega | (rw [show e0.den = t by omega]; omega) | (have e : j = n := (by omega); subst e; simp only [spU, spV] at hb; omega)
              · have hb := bq_ok (X := X) (Y := Y) (n := n) (t := t) (by omega) (by omega); first | omega | (rw [show e0.den = t by omega]; omega) | (have e : j = n := (by omega); subst e; simp only [spU, spV] at hb; omega)
              · refine ⟨0, ?_⟩
                try dsimp only
                refine ⟨?_, ?_, ⟨Int.le_refl _, fun _ => fun _ => ⟨rfl, rfl⟩⟩, ?_, ?_, ⟨rfl, rfl⟩, ?_, ⟨Int.le_refl _, fun _ => fun _ => ⟨rfl, rfl⟩⟩, ?_⟩
                · omega
                · refine ⟨rfl, rfl, ?_, rfl, rfl, ?_, ?_, rfl, rfl, rfl, rfl, Iff.rfl, rfl, rfl, rfl, Iff.rfl, ⟨rfl, rfl⟩, rfl, rfl, rfl, rfl, rfl⟩
                  · refine ⟨rfl, ?_⟩
                    intro c88
                    omega
                  · have e : j = n := (by omega); subst e; first | rfl | (rw [show e0.den = t by omega]; rfl)
                  · omega
                · refine ⟨Int.le_refl _, ?_⟩
                  intro e46
                  intro c89
                  exact (gM_0 (by omega)).symm
                · refine ⟨?_, ?_⟩
                  · refine ⟨?_, ?_⟩
                    · have e : j = n := (by omega); subst e; first | rfl | (rw [show e0.den = t by omega]; rfl)
                    · intro c90
                      have hb := bq_ok (X := X) (Y := Y) (n := n) (t := t) (by omega) (by omega); first | omega | (rw [show e0.den = t by omega]; omega) | (have e : j = n := (by omega); subst e; simp only [spU, spV] at hb; omega)
                  · have e : j = n := (by omega); subst e; first | rfl | (rw [show e0.den = t by omega]; rfl)
                · omega
                · intro e44
                  intro c91
                  refine ⟨?_, ?_⟩
                  · refine ⟨?_, ?_⟩
                    · have e : j = n := (by omega); subst e; first | rfl | (rw [show e44.den = t by omega]; rfl)
                    · intro c92
                      have hb := bq_ok (X := X) (Y := Y) (n := n) (t := t) (by omega) (by omega); first | omega | (rw [show e44.den = t by omega]; omega) | (have e : j = n := (by omega); subst e; simp only [spU, spV] at hb; omega)
                  · have e : j = n := (by omega); subst e; first | rfl | (rw [show e44.den = t by omega]; rfl)
              · intro u
                intro I2
                refine ⟨?_, ?_⟩
                · intro c93
                  refine ⟨?_, ?_, ?_, ?_⟩
                  · omega
                  · omega
                  · intro c94
                    refine ⟨?_, ?_, ?_, ?_, ?_⟩
                    · have hb := bq_ok (X := X) (Y := Y) (n := n) (t := t) (by omega) (by omega); first | omega | (rw [show e0.den = t by omega]; omega) | (have e : j = n := (by omega); subst e; simp only [spU, spV] at hb; omega)
                    · have hb := bq_ok (X := X) (Y := Y) (n := n) (t := t) (by omega) (by omega); first | omega | (rw [show e0.den = t by omega]; omega) | (have e : j = n := (by omega); subst e; simp only [spU, spV] at hb; omega)
                    · omega
                    · omega
                    · refine ⟨u + 1, ?_⟩
                      try dsimp only
                      refine ⟨?_, ?_, ?_⟩
                      · omega
                      · refine ⟨?_, ⟨Int.le_refl _, fun _ => fun _ => ⟨rfl, rfl⟩⟩, ?_, ⟨rfl, rfl⟩, ⟨rfl, rfl⟩, Int.le_refl _, fun _ => fun _ => ⟨rfl, rfl⟩⟩
                        · refine ⟨rfl, rfl, rfl, rfl, rfl, rfl, ?_, rfl, rfl, rfl, rfl, Iff.rfl, rfl, rfl, rfl, Iff.rfl, ⟨rfl, rfl⟩, rfl, rfl, rfl, rfl, rfl⟩
                          refine ⟨?_, ?_⟩
                          · omega
                          · intro c95
                            omega
                        · refine ⟨rfl, ?_, ?_⟩
                          · intro e51
                            intro c96
                            exact (gM_step (by omega)).symm
                          · intro e50
                            intro c97
                            rw [show e50.den = u by omega, gM_keep (by omega) (by omega), gM_yes (by omega) (by have hq : gM X Y n t u u = gG X Y n t (spV X Y n t) := (by assumption); rwa [gM_old (Int.le_refl u)] at hq)]; done
                      · omega
                  · intro c98
                    refine ⟨u + 1, ?_⟩
                    try dsimp only
                    refine ⟨?_, ?_, ?_⟩
                    · omega
                    · refine ⟨?_, ⟨Int.le_refl _, fun _ => fun _ => ⟨rfl, rfl⟩⟩, ?_, ⟨rfl, rfl⟩, ⟨rfl, rfl⟩, Int.le_refl _, fun _ => fun _ => ⟨rfl, rfl⟩⟩
                      · refine ⟨rfl, rfl, rfl, rfl, rfl, rfl, ?_, rfl, rfl, rfl, rfl, Iff.rfl, rfl, rfl, rfl, Iff.rfl, ⟨rfl, rfl⟩, rfl, rfl, rfl, rfl, rfl⟩
                        refine ⟨?_, ?_⟩
                        · omega
                        · intro c99
                          omega
                      · refine ⟨Int.le_refl _, ?_⟩
                        intro e55
                        intro c100
                        by_cases he : e55.den = u; (have hq : gM X Y n t u u ≠ gG X Y n t (spV X Y n t) := (by assumption); rw [gM_old (Int.le_refl u)] at hq; rw [he, gM_old (Int.le_refl u), gM_no (by omega) hq]); exact (gM_step he).symm
                    · omega
                · intro c101
                  refine ⟨t + 1, ?_⟩
                  try dsimp only
                  refine ⟨?_, ?_, ?_⟩
                  · omega
                  · refine ⟨?_, ⟨Int.le_refl _, fun _ => fun _ => ⟨rfl, rfl⟩⟩, ?_, Int.le_refl _, ?_⟩
                    · refine ⟨rfl, rfl, ?_, rfl⟩
                      omega
                    · refine ⟨?_, fun _ => fun _ => ⟨rfl, rfl⟩⟩
                      omega
                    · intro e58
                      intro c102
                      exact gM_end (by omega)
                  · omega
        · intro c103
          refine ⟨?_, ⟨Int.le_refl _, fun _ => fun _ => ⟨rfl, rfl⟩⟩, ?_, fun _ => fun _ => ⟨rfl, rfl⟩⟩
          · exact stN_eq h1.1 (by omega) (by omega) (by omega)
          · exact Int.le_of_eq (stN_eq h1.1 (by omega) (by omega) (by omega)).symm
def c_s_spanning (X : Int → Int) (Y : Int → Int) (n : Int) : Cn Try.prog := ⟨_, _, _, _, _, s_spanning X Y n⟩
end Go.Proofs.Ytpnjopppclmfkaa
