/- Trees: what the laws say. -/
import Derived.Test.YtcfkpdjbjfnnmaaK71
import Derived.Test.YtcfkpdjbjfnnmaaK63a
set_option linter.unusedSimpArgs false
set_option linter.unusedVariables false
set_option maxRecDepth 100000
namespace Go.Proofs.Ytcfkpdjbjfnnmaa
open Go.Sym
theorem stN_mx {n : Int} (h : 0 ≤ n) : stN n = mxN1 n := by
  unfold stN mxN1
  split <;> split <;> omega
theorem stN_nn (n : Int) : 0 ≤ stN n := by unfold stN; split <;> omega
theorem stN_le {n : Int} (h : 1 ≤ n) : stN n = n - 1 := by unfold stN; rw [if_neg (by omega)]
theorem P4_of {X Y : Int → Int} {n : Int} (h : listB X Y n = true) : okP4 X Y n := fun i h0 h1 => by have := listB_bd h h0 h1; omega
/-- The tree is accepted. -/
theorem sp_ok {X Y : Int → Int} {n : Int} (h : listB X Y n = true) (hn : 0 ≤ n) : spB X Y n (spU X Y n) (spV X Y n) (stN n) = true := by
  refine spB_y h (stN_mx hn) (fun i h0 h1 => ?_) fun i h0 h1 => ?_
  · have hb := (sp_bd (X := X) (Y := Y) h0 h1).1
    unfold e1B
    rw [edB_iff.2 ⟨by omega, by omega⟩, decide_eq_false (by omega)]
    rfl
  · rw [allB_iff]
    intro k k0 k1
    unfold lnk
    exact decide_eq_true (sp_thr2 (by omega) ⟨h0, h1⟩ ⟨k0, by omega⟩ (Int.le_refl _))
theorem tl_of {X Y A B : Int → Int} {n m : Int} (h : listB X Y n = true) (h2 : edR A B n m) (h3 : m ≤ 20) : tlen X Y n A B m = sumI (lnF X Y A B) m.toNat := by
  unfold tlen edOK
  rw [if_pos]
  rw [h, allB_iff.2 (fun i a b => edB_iff.2 (by have := h2 i a b; omega)), decide_eq_true h3]
  rfl
theorem lG_le {X Y A B : Int → Int} {n m d e : Int} (h : edR A B n m) (hm : 0 ≤ m) (hde : d ≤ e) {x y : Int} (hl : lG X Y A B d m.toNat x = lG X Y A B d m.toNat y) : lG X Y A B e m.toNat x = lG X Y A B e m.toNat y := by
  have hP : linkd (fun z => lG X Y A B e m.toNat x = lG X Y A B e m.toNat z) X Y A B d m := fun q q0 q1 hok => by
    simp only
    rw [lG_linkd h m.toNat (by omega) q q0 (by omega) (by
      unfold okE at *
      rw [decide_eq_true_eq] at *
      omega)]
  exact (lG_closed hP m.toNat (by omega) x y hl).1 rfl
theorem spB_fact {X Y A B : Int → Int} {n m : Int} (h : spB X Y n A B m = true) : listB X Y n = true ∧ m = mxN1 n ∧ edR A B n m ∧ ∀ i k, (0 ≤ i ∧ i < n) → (0 ≤ k ∧ k < n) → lG X Y A B (mhD X Y i k) m.toNat i = lG X Y A B (mhD X Y i k) m.toNat k := by
  unfold spB spE spL at h
  simp only [Bool.and_eq_true, decide_eq_true_eq] at h
  obtain ⟨h1, h2, h3, h4⟩ := h
  have key : ∀ i k, 0 ≤ k → k < i → i < n → lG X Y A B (mhD X Y i k) m.toNat i = lG X Y A B (mhD X Y i k) m.toNat k := fun i k k0 k1 hi => by
    have := allB_iff.1 (allB_iff.1 h4 i (by omega) hi) k k0 k1
    unfold lnk at this
    exact of_decide_eq_true this
  refine ⟨h1, h2, fun i h0 hi => ?_, fun i k hi hk => ?_⟩
  · have := edB_iff.1 ((Bool.and_eq_true _ _ ▸ allB_iff.1 h3 i h0 hi).1)
    omega
  · rcases Int.lt_trichotomy i k with c | c | c
    · rw [mhD_comm]; exact (key k i hi.1 c hk.2).symm
    · rw [c]
    · exact key i k hk.1 c hi.2
/-- Accepted trees are equally long. -/
theorem sp_same {X Y A B : Int → Int} {n m : Int} (hn : 0 ≤ n) (h : spB X Y n A B m = true) : tlen X Y n A B m = tlen X Y n (spU X Y n) (spV X Y n) (stN n) := by
  obtain ⟨h1, h2, h3, h4⟩ := spB_fact h
  have hm : m = stN n := by rw [stN_mx hn]; exact h2
  subst hm
  have h20 := listB_n h1
  have hN := stN_nn n
  have hP := P4_of h1
  by_cases hz : n = 0
  · have e : stN n = 0 := by rw [hz]; rfl
    rw [tl_of h1 h3 (by omega), tl_of h1 sp_edR (by omega), e]
    rfl
  · have hle := stN_le (n := n) (by omega)
    rw [tl_of h1 h3 (by omega), tl_of h1 sp_edR (by omega)]
    have hc : conn X Y A B n (stN n) := ⟨4000, fun i k hi hk => lG_le h3 hN (mht_bd hP hi hk).2 (h4 i k hi hk)⟩
    refine Int.le_antisymm (total_le (by omega) hle sp_edR h3 (sp_conn (by omega) hP) (ln_bd hP sp_edR) (ln_bd hP h3) fun most q q0 q1 hok => ?_) (sp_min (by omega) hP h3 hc)
    have hq := sp_edR (X := X) (Y := Y) (n := n) q q0 q1
    unfold okE at hok
    exact lG_le h3 hN (of_decide_eq_true hok) (h4 _ _ hq.1 hq.2)
/-- No path is shorter. -/
theorem sp_path {X Y : Int → Int} {n : Int} (h : listB X Y n = true) (hn : 1 ≤ n) : tlen X Y n (spU X Y n) (spV X Y n) (stN n) ≤ tlen X Y n (fun i => i) (fun i => i + 1) (n - 1) := by
  have h20 := listB_n h
  have hle := stN_le hn
  have hP := P4_of h
  have h3 : edR (fun i => i) (fun i => i + 1) n (stN n) := fun i h0 h1 => ⟨⟨h0, by show i < n; omega⟩, by show 0 ≤ i + 1; omega, by show i + 1 < n; omega⟩
  rw [← hle, tl_of h sp_edR (by omega), tl_of h h3 (by omega)]
  have hc : conn X Y (fun i => i) (fun i => i + 1) n (stN n) := by
    have key : ∀ i : Nat, (i : Int) < n → lG X Y (fun i => i) (fun i => i + 1) 4000 (stN n).toNat i = lG X Y (fun i => i) (fun i => i + 1) 4000 (stN n).toNat 0 := by
      intro i
      induction i with
      | zero => exact fun _ => rfl
      | succ i ih =>
        intro hi
        have hl := lG_linkd (X := X) (Y := Y) (most := 4000) h3 (stN n).toNat (by omega) i (by omega) (by omega) (by
          unfold okE
          exact decide_eq_true (mht_bd hP (x := i) (y := (i : Int) + 1) (by omega) (by omega)).2)
        rw [← ih (by omega), show ((i + 1 : Nat) : Int) = (i : Int) + 1 by omega]
        exact hl.symm
    refine ⟨4000, fun i k hi hk => ?_⟩
    have a := key i.toNat (by omega)
    have b := key k.toNat (by omega)
    rw [show ((i.toNat : Nat) : Int) = i by omega] at a
    rw [show ((k.toNat : Nat) : Int) = k by omega] at b
    rw [a, b]
  exact sp_min hn hP h3 hc
/-! ### moved points -/
theorem mhD_mv (X Y : Int → Int) (c d : Int) : mhD (fun i => X i + c) (fun i => Y i + d) = mhD X Y := by
  funext i k
  unfold mhD mht
  rw [show X i + c - (X k + c) = X i - X k by omega, show Y i + d - (Y k + d) = Y i - Y k by omega]
theorem spG_mv (X Y : Int → Int) (c d n : Int) : ∀ t : Nat, spG (fun i => X i + c) (fun i => Y i + d) n t = spG X Y n t
  | 0 => rfl
  | t + 1 => by
    show mrg (spG _ _ n t) (bpO (mhD _ _) (spG _ _ n t) n n.toNat) = mrg (spG X Y n t) (bpO (mhD X Y) (spG X Y n t) n n.toNat)
    rw [spG_mv X Y c d n t, mhD_mv]
theorem sp_mv (X Y : Int → Int) (c d n : Int) : spU (fun i => X i + c) (fun i => Y i + d) n = spU X Y n ∧ spV (fun i => X i + c) (fun i => Y i + d) n = spV X Y n := by
  constructor
  · funext t
    show (bpO (mhD _ _) (spG _ _ n t.toNat) n n.toNat).1 = (bpO (mhD X Y) (spG X Y n t.toNat) n n.toNat).1
    rw [spG_mv, mhD_mv]
  · funext t
    show (bpO (mhD _ _) (spG _ _ n t.toNat) n n.toNat).2 = (bpO (mhD X Y) (spG X Y n t.toNat) n n.toNat).2
    rw [spG_mv, mhD_mv]

end Go.Proofs.Ytcfkpdjbjfnnmaa
