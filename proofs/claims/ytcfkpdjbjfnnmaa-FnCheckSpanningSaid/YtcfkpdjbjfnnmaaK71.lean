/- Trees: plain laws of the lengths. -/
import Derived.Test.YtcfkpdjbjfnnmaaK68
set_option linter.unusedSimpArgs false
set_option linter.unusedVariables false
set_option maxRecDepth 100000
namespace Go.Proofs.Ytcfkpdjbjfnnmaa
open Go.Sym
/-! ### edges counted up to a length -/
def kE (X Y A B : Int → Int) (most : Int) (j : Nat) : Int := smf (fun j => bi (okE X Y A B most j)) j
theorem mrg_keep {G : Int → Int} {s : Int × Int} {x y : Int} (h : G x = G y) : mrg G s x = mrg G s y := by unfold mrg; rw [h]
theorem mrg_bd {G : Int → Int} {n : Int} {s : Int × Int} (hG : ∀ i, 0 ≤ i → i < n → 0 ≤ G i ∧ G i < n) (hs : 0 ≤ s.1 ∧ s.1 < n) : ∀ i, 0 ≤ i → i < n → 0 ≤ mrg G s i ∧ mrg G s i < n := by
  intro i h0 h1
  unfold mrg
  split
  · exact hG _ hs.1 hs.2
  · exact hG i h0 h1
section
variable {X Y A B : Int → Int} {n m most : Int}
theorem lG_in (h : edR A B n m) : ∀ j : Nat, (j : Int) ≤ m → ∀ i, 0 ≤ i → i < n → 0 ≤ lG X Y A B most j i ∧ lG X Y A B most j i < n
  | 0, _ => fun i h0 h1 => ⟨h0, h1⟩
  | j + 1, hj => by
    rw [lG]
    split
    · exact mrg_bd (lG_in h j (by omega)) (h j (by omega) (by omega)).1
    · exact lG_in h j (by omega)
theorem lG_keep {x y : Int} (j : Nat) (h : lG X Y A B most j x = lG X Y A B most j y) : ∀ k : Nat, lG X Y A B most (j + k) x = lG X Y A B most (j + k) y
  | 0 => h
  | k + 1 => by
    have ih := lG_keep j h k
    rw [show j + (k + 1) = (j + k) + 1 by omega, lG]
    split
    · exact mrg_keep ih
    · exact ih
theorem cnt_ge (hn : 0 ≤ n) : ∀ j : Nat, n - kE X Y A B most j ≤ cnt (lG X Y A B most j) n
  | 0 => by
    have := cnt_id hn
    show n - 0 ≤ cnt (fun i => i) n
    omega
  | j + 1 => by
    have ih := cnt_ge hn j
    unfold kE at *
    rw [smf, lG]
    split
    · rename_i hok
      have := cnt_mrg (G := lG X Y A B most j) (s := (A j, B j)) hn
      rw [hok]
      show n - (_ + 1) ≤ _
      omega
    · have := bi_bd (okE X Y A B most j)
      omega
/-- The longer edges laid behind the short ones. -/
def lH (X Y A B : Int → Int) (most : Int) (k : Nat) : Nat → Int → Int
  | 0 => lG X Y A B most k
  | j + 1 => if okE X Y A B most j = true then lH X Y A B most k j else mrg (lH X Y A B most k j) (A j, B j)
theorem lH_cnt (hn : 0 ≤ n) (k : Nat) : ∀ j : Nat, cnt (lG X Y A B most k) n + kE X Y A B most j ≤ cnt (lH X Y A B most k j) n + j
  | 0 => by
    show _ + 0 ≤ cnt (lG X Y A B most k) n + ((0 : Nat) : Int)
    omega
  | j + 1 => by
    have ih := lH_cnt hn k j
    unfold kE at *
    rw [smf, lH]
    split
    · rename_i hok
      rw [hok]
      show _ + (_ + 1) ≤ _
      omega
    · rename_i hok
      have hok : okE X Y A B most j = false := by simpa using hok
      have := cnt_mrg (G := lH X Y A B most k j) (s := (A j, B j)) hn
      rw [hok]
      show _ + (_ + 0) ≤ _
      omega
theorem lH_keep {x y : Int} (k : Nat) (h : lG X Y A B most k x = lG X Y A B most k y) : ∀ j : Nat, lH X Y A B most k j x = lH X Y A B most k j y
  | 0 => h
  | j + 1 => by
    have ih := lH_keep k h j
    rw [lH]
    split
    · exact ih
    · exact mrg_keep ih
theorem lH_all (h : edR A B n m) (k : Nat) (hk : m ≤ k) (hk2 : (k : Int) ≤ m) : ∀ j : Nat, (j : Int) ≤ m → ∀ q : Int, 0 ≤ q → (q < j ∨ okE X Y A B most q = true) → q < m → lH X Y A B most k j (A q) = lH X Y A B most k j (B q)
  | 0, _ => fun q h0 h1 h2 => by
    rcases h1 with h1 | h1
    · omega
    · exact lG_linkd h k hk2 q h0 (by omega) h1
  | j + 1, hj => fun q h0 h1 h2 => by
    have ih := lH_all h k hk hk2 j (by omega) q h0
    rw [lH]
    by_cases hq : okE X Y A B most q = true
    · split
      · exact ih (.inr hq) h2
      · exact mrg_keep (ih (.inr hq) h2)
    · have h1 : q < ((j + 1 : Nat) : Int) := h1.resolve_right hq
      by_cases e : q = j
      · subst e
        rw [if_neg hq]
        unfold mrg
        simp
      · split
        · exact ih (.inl (by omega)) h2
        · exact mrg_keep (ih (.inl (by omega)) h2)
/-- All is connected. -/
def conn (X Y A B : Int → Int) (n m : Int) : Prop := ∃ most, ∀ i k : Int, (0 ≤ i ∧ i < n) → (0 ≤ k ∧ k < n) → lG X Y A B most m.toNat i = lG X Y A B most m.toNat k
theorem cnt_conn (h : edR A B n m) (hn : 0 ≤ n) (hm : 0 ≤ m) (hc : conn X Y A B n m) : cnt (lG X Y A B most m.toNat) n + kE X Y A B most m.toNat ≤ 1 + m := by
  obtain ⟨M4, hc⟩ := hc
  have h1 := lH_cnt (X := X) (Y := Y) (A := A) (B := B) (most := most) hn m.toNat m.toNat
  have hall := lH_all (X := X) (Y := Y) (most := most) h m.toNat (by omega) (by omega) m.toNat (by omega)
  have h2 : cnt (lH X Y A B most m.toNat m.toNat) n ≤ 1 := cnt_one hn fun i k hi hk => by
    have hP : linkd (fun x => lH X Y A B most m.toNat m.toNat i = lH X Y A B most m.toNat m.toNat x) X Y A B M4 m := fun q q0 q1 _ => by
      simp only
      rw [hall q q0 (.inl (by omega)) q1]
    exact (lG_closed hP m.toNat (by omega) i k (hc i k ⟨hi.1, by omega⟩ ⟨by omega, hk⟩)).1 rfl
  omega
end
open Classical in
theorem cnt_refine {G H : Int → Int} {n : Int} (hG : ∀ i, 0 ≤ i → i < n → 0 ≤ G i ∧ G i < n) (h : ∀ x y, (0 ≤ x ∧ x < n) → (0 ≤ y ∧ y < n) → G x = G y → H x = H y) : cnt H n ≤ cnt G n := by
  let f : Int → Int := fun w => if hw : ∃ i, (0 ≤ i ∧ i < n) ∧ H i = w then G (Classical.choose hw) else 0
  have hf : ∀ w ∈ fl (hit H n) n, ∃ i, ((0 ≤ i ∧ i < n) ∧ H i = w) ∧ f w = G i := by
    intro w hw
    have hx := hit_iff.1 (mem_fl.1 hw).2
    exact ⟨Classical.choose hx, Classical.choose_spec hx, dif_pos hx⟩
  have hnd : ((fl (hit H n) n).map f).Nodup := by
    have hp : (fl (hit H n) n).Pairwise (· ≠ ·) := by
      unfold fl
      rw [List.pairwise_map]
      exact List.Pairwise.imp (fun h => by omega) (List.Pairwise.filter _ (List.pairwise_lt_range (n := n.toNat)))
    rw [List.nodup_iff_pairwise_ne, List.pairwise_map]
    refine List.Pairwise.imp_of_mem (fun {a b} ha hb hab e => ?_) hp
    obtain ⟨i, hi, ei⟩ := hf a ha
    obtain ⟨k, hk, ek⟩ := hf b hb
    rw [ei, ek] at e
    have := h i k hi.1 hk.1 e
    rw [hi.2, hk.2] at this
    exact hab this
  have := List.Nodup.length_le_of_subset hnd (l₂ := fl (hit G n) n) (by
    intro v hv
    obtain ⟨w, hw, rfl⟩ := List.mem_map.1 hv
    obtain ⟨i, hi, ei⟩ := hf w hw
    rw [ei]
    exact mem_fl.2 ⟨hG i hi.1.1 hi.1.2, hit_iff.2 ⟨i, hi.1, rfl⟩⟩)
  rw [List.length_map] at this
  unfold cnt len'
  omega
/-! ### lengths summed by thresholds -/
theorem smf_swap (g : Int → Int → Int) (K : Nat) : ∀ m : Nat, smf (fun j => smf (fun d => g j d) K) m = smf (fun d => smf (fun j => g j d) m) K
  | 0 => by
    rw [smf, smf_zero]
    intro i _ _
    rfl
  | m + 1 => by
    rw [smf, smf_swap g K m, ← smf_add]
    rfl
theorem thr_sum {D : Int} (h0 : 0 ≤ D) : ∀ K : Nat, smf (fun d => 1 - bi (decide (D ≤ d))) K = if D ≤ K then D else K
  | 0 => by
    rw [smf]
    split <;> omega
  | K + 1 => by
    rw [smf, thr_sum h0 K]
    by_cases c : D ≤ (K : Int)
    · rw [if_pos c, if_pos (by omega), decide_eq_true c]
      show D + (1 - 1) = D
      omega
    · rw [if_neg c, decide_eq_false c]
      show (K : Int) + (1 - 0) = _
      split <;> omega
theorem sumI_smf {F : Int → Int} : ∀ k : Nat, sumI F k = smf F k
  | 0 => rfl
  | k + 1 => by rw [sumI, smf, sumI_smf k]
theorem tot_thr {X Y A B : Int → Int} {m : Nat} (hb : ∀ j : Int, 0 ≤ j → j < m → 0 ≤ lnF X Y A B j ∧ lnF X Y A B j ≤ 4000) : smf (lnF X Y A B) m = smf (fun d => m - kE X Y A B d m) 4000 := by
  have e1 : smf (lnF X Y A B) m = smf (fun j => smf (fun d => 1 - bi (okE X Y A B d j)) 4000) m := smf_congr m fun j h0 h1 => by
    have hj := hb j (by omega) (by omega)
    have := thr_sum hj.1 4000
    rw [if_pos (by omega)] at this
    rw [← this]
    rfl
  rw [e1, smf_swap]
  refine smf_congr _ fun d _ _ => ?_
  have key : ∀ k : Nat, smf (fun j => 1 - bi (okE X Y A B d j)) k = k - kE X Y A B d k := by
    intro k
    induction k with
    | zero => rfl
    | succ k ih =>
      unfold kE at *
      rw [smf, smf, ih]
      omega
  exact key m
/-- A tree that joins what the other joins is not longer. -/
theorem total_le {X Y A B U V : Int → Int} {n m : Int} (hn : 1 ≤ n) (hm : m = n - 1) (hE : edR A B n m) (hT : edR U V n m) (hc : conn X Y A B n m)
    (hbE : ∀ j : Int, 0 ≤ j → j < m → 0 ≤ lnF X Y A B j ∧ lnF X Y A B j ≤ 4000) (hbT : ∀ j : Int, 0 ≤ j → j < m → 0 ≤ lnF X Y U V j ∧ lnF X Y U V j ≤ 4000)
    (hx : ∀ most q, 0 ≤ q → q < m → okE X Y A B most q = true → lG X Y U V most m.toNat (A q) = lG X Y U V most m.toNat (B q)) : sumI (lnF X Y U V) m.toNat ≤ sumI (lnF X Y A B) m.toNat := by
  rw [sumI_smf, sumI_smf, tot_thr (fun j a b => hbE j a (by omega)), tot_thr (fun j a b => hbT j a (by omega))]
  refine smf_le _ fun d _ _ => ?_
  have h1 := cnt_conn (most := d) hE (by omega) (by omega) hc
  have h2 := cnt_ge (X := X) (Y := Y) (A := U) (B := V) (n := n) (most := d) (by omega) m.toNat
  have h3 : cnt (lG X Y U V d m.toNat) n ≤ cnt (lG X Y A B d m.toNat) n := by
    refine cnt_refine (lG_in hE m.toNat (by omega)) fun x y _ _ e => ?_
    have hP : linkd (fun z => lG X Y U V d m.toNat x = lG X Y U V d m.toNat z) X Y A B d m := fun q q0 q1 hok => by
      simp only
      rw [hx d q q0 q1 hok]
    exact (lG_closed hP m.toNat (by omega) x y e).1 rfl
  omega
/-! ### the reference's tree -/
section
variable {X Y : Int → Int} {n t x y : Int}
theorem spG_end (hn : 1 ≤ n) (hx : 0 ≤ x ∧ x < n) (hy : 0 ≤ y ∧ y < n) : spG X Y n (stN n).toNat x = spG X Y n (stN n).toNat y := by
  have e : stN n = n - 1 := by unfold stN; rw [if_neg (by omega)]
  refine Classical.byContradiction fun hg => ?_
  have := sp_more (X := X) (Y := Y) (n := n) (t := stN n) (by omega) (by omega) hx hy hg
  omega
theorem sp_bd (h0 : 0 ≤ t) (h1 : t < stN n) : (0 ≤ spU X Y n t ∧ spU X Y n t < spV X Y n t ∧ spV X Y n t < n) ∧ spG X Y n t.toNat (spU X Y n t) ≠ spG X Y n t.toNat (spV X Y n t) := by
  have : t + 1 < n := by unfold stN at h1; split at h1 <;> omega
  have := bq_ok (X := X) (Y := Y) (n := n) h0 this
  exact ⟨by omega, this.2⟩
theorem sp_edR : edR (spU X Y n) (spV X Y n) n (stN n) := fun i h0 h1 => by have := (sp_bd (X := X) (Y := Y) h0 h1).1; omega
theorem spG_st (h0 : 0 ≤ t) : spG X Y n (t + 1).toNat = mrg (spG X Y n t.toNat) (spU X Y n t, spV X Y n t) := by
  rw [show (t + 1).toNat = t.toNat + 1 by omega]
  rfl
/-- Two points are joined by edges that are not longer than their distance. -/
theorem sp_thr (hn : 1 ≤ n) (hx : 0 ≤ x ∧ x < y) (hy : y < n) {most : Int} (hm : mhD X Y x y ≤ most) : lG X Y (spU X Y n) (spV X Y n) most (stN n).toNat x = lG X Y (spU X Y n) (spV X Y n) most (stN n).toNat y := by
  have key : ∀ j : Nat, (j : Int) ≤ stN n → lG X Y (spU X Y n) (spV X Y n) most j = spG X Y n j ∨ lG X Y (spU X Y n) (spV X Y n) most j x = lG X Y (spU X Y n) (spV X Y n) most j y := by
    intro j
    induction j with
    | zero => exact fun _ => .inl rfl
    | succ j ih =>
      intro hj
      rcases ih (by omega) with e | e
      · by_cases hg : spG X Y n j x = spG X Y n j y
        · refine .inr (lG_keep j ?_ 1)
          rw [e]; exact hg
        · left
          have hl := sp_least (X := X) (Y := Y) (n := n) (t := j) hx.1 hx.2 hy hg
          have hD : mhD X Y (spU X Y n j) (spV X Y n j) ≤ mhD X Y x y := by
            rcases hl with e2 | e2
            · have e3 : spU X Y n j = x := congrArg Prod.fst e2
              have e4 : spV X Y n j = y := congrArg Prod.snd e2
              rw [e3, e4]; exact Int.le_refl _
            · exact lt3_le e2
          rw [lG, if_pos (by unfold okE; exact decide_eq_true (Int.le_trans hD hm)), e]
          have := spG_st (X := X) (Y := Y) (n := n) (t := j) (by omega)
          rw [show ((j : Int) + 1).toNat = j + 1 by omega, show ((j : Int)).toNat = j by omega] at this
          exact this.symm
      · exact .inr (lG_keep j e 1)
  have hN : 0 ≤ stN n := by unfold stN; split <;> omega
  rcases key (stN n).toNat (by omega) with e | e
  · rw [e]; exact spG_end hn ⟨hx.1, by omega⟩ ⟨by omega, hy⟩
  · exact e
theorem sp_thr2 (hn : 1 ≤ n) (hx : 0 ≤ x ∧ x < n) (hy : 0 ≤ y ∧ y < n) {most : Int} (hm : mhD X Y x y ≤ most) : lG X Y (spU X Y n) (spV X Y n) most (stN n).toNat x = lG X Y (spU X Y n) (spV X Y n) most (stN n).toNat y := by
  rcases Int.lt_trichotomy x y with h | h | h
  · exact sp_thr hn ⟨hx.1, h⟩ hy.2 hm
  · rw [h]
  · exact (sp_thr hn ⟨hy.1, h⟩ hx.2 (by rw [mhD_comm']; exact hm)).symm
where
  mhD_comm' {X Y : Int → Int} {a b : Int} : mhD X Y a b = mhD X Y b a := by
    unfold mhD mht absI
    omega
theorem sp_conn (hn : 1 ≤ n) (hP : okP4 X Y n) : conn X Y (spU X Y n) (spV X Y n) n (stN n) := ⟨4000, fun i k hi hk => sp_thr2 hn hi hk (mht_bd hP hi hk).2⟩
/-- The edges get longer. -/
theorem sp_mono (h0 : 0 ≤ t) (h1 : t + 1 < stN n) : mhD X Y (spU X Y n t) (spV X Y n t) ≤ mhD X Y (spU X Y n (t + 1)) (spV X Y n (t + 1)) := by
  have hb := sp_bd (X := X) (Y := Y) (n := n) (t := t + 1) (by omega) h1
  have hg : spG X Y n t.toNat (spU X Y n (t + 1)) ≠ spG X Y n t.toNat (spV X Y n (t + 1)) := fun e => hb.2 (by
    rw [spG_st h0]
    exact mrg_keep e)
  rcases sp_least hb.1.1 hb.1.2.1 hb.1.2.2 hg with e | e
  · have e3 : spU X Y n t = spU X Y n (t + 1) := congrArg Prod.fst e
    have e4 : spV X Y n t = spV X Y n (t + 1) := congrArg Prod.snd e
    rw [e3, e4]; exact Int.le_refl _
  · exact lt3_le e
theorem ln_bd {A B : Int → Int} {m : Int} (hP : okP4 X Y n) (h : edR A B n m) : ∀ j : Int, 0 ≤ j → j < m → 0 ≤ lnF X Y A B j ∧ lnF X Y A B j ≤ 4000 := fun j h0 h1 => mht_bd hP (h j h0 h1).1 (h j h0 h1).2
/-- No connected choice of as many edges is shorter. -/
theorem sp_min {A B : Int → Int} (hn : 1 ≤ n) (hP : okP4 X Y n) (h : edR A B n (stN n)) (hc : conn X Y A B n (stN n)) : sumI (lnF X Y (spU X Y n) (spV X Y n)) (stN n).toNat ≤ sumI (lnF X Y A B) (stN n).toNat := by
  have e : stN n = n - 1 := by unfold stN; rw [if_neg (by omega)]
  refine total_le hn e h sp_edR hc (ln_bd hP h) (ln_bd hP sp_edR) fun most q q0 q1 hok => ?_
  have hq := h q q0 q1
  unfold okE at hok
  exact sp_thr2 hn hq.1 hq.2 (of_decide_eq_true hok)
end

end Go.Proofs.Ytcfkpdjbjfnnmaa
