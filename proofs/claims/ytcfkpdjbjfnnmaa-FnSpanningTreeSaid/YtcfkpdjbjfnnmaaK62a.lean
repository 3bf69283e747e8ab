/- CheckSpanning: plain laws. -/
import Derived.Test.YtcfkpdjbjfnnmaaK60
import Derived.Test.YtcfkpdjbjfnnmaaK15
set_option linter.unusedSimpArgs false
set_option linter.unusedVariables false
set_option maxRecDepth 100000
namespace Go.Proofs.Ytcfkpdjbjfnnmaa
open Go.Sym
def mxN1 (n : Int) : Int := if 0 > n - 1 then 0 else n - 1
def spE (A B : Int → Int) (n m : Int) : Bool := allB (fun i => edB n (A i) (B i) && !(decide (A i = B i))) m
def spL (X Y A B : Int → Int) (n m : Int) : Bool := allB (fun i => allB (fun k => lnk X Y A B m (mhD X Y i k) i k) i) n
def spB (X Y : Int → Int) (n : Int) (A B : Int → Int) (m : Int) : Bool := listB X Y n && (decide (m = mxN1 n) && (spE A B n m && spL X Y A B n m))
theorem lnk_comm (X Y A B : Int → Int) (m most a b : Int) : lnk X Y A B m most a b = lnk X Y A B m most b a := by
  unfold lnk
  rw [Bool.eq_iff_iff, decide_eq_true_eq, decide_eq_true_eq]
  exact eq_comm
theorem mhD_comm (X Y : Int → Int) (a b : Int) : mhD X Y a b = mhD X Y b a := by
  unfold mhD mht absI
  omega
theorem spL_pairs {X Y A B : Int → Int} {n m : Int} (hn : 0 ≤ n) : fidx (fun i => !(lnk X Y A B m (mhD X Y (sA (prsL n n (n + 1)) i) (sB (prsL n n (n + 1)) i)) (sA (prsL n n (n + 1)) i) (sB (prsL n n (n + 1)) i))) (lenP (prsL n n (n + 1))) < 0 ↔ spL X Y A B n m = true := by
  have hf := fidx_neg (q := fun i => lnk X Y A B m (mhD X Y (sA (prsL n n (n + 1)) i) (sB (prsL n n (n + 1)) i)) (sA (prsL n n (n + 1)) i) (sB (prsL n n (n + 1)) i)) (n := lenP (prsL n n (n + 1)))
  rw [hf]
  unfold spL
  rw [allB_iff, allB_iff]
  constructor
  · intro h i h0 h1
    rw [allB_iff]
    intro k k0 k1
    obtain ⟨q, q0, q1, qa, qb⟩ := s_idx ((prsL_mem (x := k) (y := i) hn).2 ⟨k0, k1, h1⟩)
    have := h q q0 q1
    rw [qa, qb, mhD_comm, lnk_comm] at this
    exact this
  · intro h i h0 h1
    have hm := (prsL_mem hn).1 (s_mem h0 h1)
    have := allB_iff.1 (h (sB (prsL n n (n + 1)) i) (by omega) (by omega)) (sA (prsL n n (n + 1)) i) (by omega) (by omega)
    rw [mhD_comm, lnk_comm] at this
    exact this
theorem pr_in {n i : Int} (hn : 0 ≤ n) (h0 : 0 ≤ i) (h1 : i < lenP (prsL n n (n + 1))) : (0 ≤ sA (prsL n n (n + 1)) i ∧ sA (prsL n n (n + 1)) i < n) ∧ 0 ≤ sB (prsL n n (n + 1)) i ∧ sB (prsL n n (n + 1)) i < n := by
  have := (prsL_mem hn).1 (s_mem h0 h1)
  omega
theorem spE_iff {A B : Int → Int} {n m : Int} (h : ∀ i, 0 ≤ i → i < m → edB n (A i) (B i) = true) : fidx (fun i => decide (A i = B i)) m < 0 ↔ spE A B n m = true := by
  have hf := fidx_neg (q := fun i => !(decide (A i = B i))) (n := m)
  simp only [Bool.not_not] at hf
  rw [hf]
  unfold spE
  rw [allB_iff, allB_iff]
  refine forall_congr' fun i => forall_congr' fun h0 => forall_congr' fun h1 => ?_
  rw [Bool.and_eq_true]
  exact ⟨fun e => ⟨h i h0 h1, e⟩, fun e => e.2⟩
theorem edR_of {X Y A B : Int → Int} {n m : Int} (h : edOK X Y n A B m = true) : edR A B n m := fun i h0 h1 => by
  have := edB_iff.1 ((edOK_split h).2 i h0 h1)
  omega
theorem spB_ed {X Y A B : Int → Int} {n m : Int} (h : edOK X Y n A B m = false) : spB X Y n A B m = false := by
  rw [← Bool.not_eq_true] at h ⊢
  intro hs
  unfold spB spE at hs
  simp only [Bool.and_eq_true] at hs
  refine h ?_
  unfold edOK
  rw [hs.1, Bool.true_and, allB_iff]
  exact fun i h0 h1 => (Bool.and_eq_true _ _ ▸ allB_iff.1 hs.2.2.1 i h0 h1).1
theorem spB_m {X Y A B : Int → Int} {n m : Int} (h : m ≠ mxN1 n) : spB X Y n A B m = false := by
  unfold spB
  rw [decide_eq_false h, Bool.false_and, Bool.and_false]
theorem spB_e {X Y A B : Int → Int} {n m : Int} (h : edOK X Y n A B m = true) (h2 : 0 ≤ fidx (fun i => decide (A i = B i)) m) : spB X Y n A B m = false := by
  have h3 : spE A B n m = false := by
    rw [← Bool.not_eq_true, ← spE_iff (edOK_split h).2]
    omega
  unfold spB
  rw [h3, Bool.false_and, Bool.and_false, Bool.and_false]
theorem spB_l {X Y A B : Int → Int} {n m : Int} (h : edOK X Y n A B m = true) (hm : m = mxN1 n) (h2 : fidx (fun i => decide (A i = B i)) m < 0) : spB X Y n A B m = spL X Y A B n m := by
  unfold spB
  rw [(edOK_split h).1, decide_eq_true hm, (spE_iff (edOK_split h).2).1 h2]
  rfl
theorem ck_bd {X Y A B : Int → Int} {n m : Int} (h : edOK X Y n A B m = true) (hn : 0 ≤ n) (hm : m = mxN1 n) : (n ≤ 20 ∧ m ≤ 400) ∧ edR A B n m ∧ ∀ i, 0 ≤ i → i < n → (-1000 ≤ X i ∧ X i ≤ 1000) ∧ -1000 ≤ Y i ∧ Y i ≤ 1000 := by
  have hl := listB_n (edOK_split h).1
  refine ⟨⟨hl, ?_⟩, edR_of h, fun i h0 h1 => ?_⟩
  · unfold mxN1 at hm; split at hm <;> omega
  · have := listB_bd (edOK_split h).1 h0 h1
    omega
def ouI (X Y A B : Int → Int) (most a m i : Int) : List Int := ouL X Y A B most a m i.toNat
def inI (X Y A B : Int → Int) (most a m i k : Int) : List Int := inL X Y A B most (ouI X Y A B most a m i) i k.toNat
theorem plcZ {Z : Int → Int} {m v : Int} {L : List Int} (hZ : ∀ i, 0 ≤ i → i < len' L → Z i = selL L i) (hm : m = len' L) : fidx (fun i => decide (Z i = v)) m < 0 ↔ v ∉ L := by
  have hf := fidx_neg (q := fun i => !(decide (Z i = v))) (n := m)
  simp only [Bool.not_not] at hf
  rw [hf, allB_iff]
  subst hm
  constructor
  · intro h hv
    obtain ⟨j, hj, e⟩ := in_selL hv
    have := h j hj.1 hj.2
    rw [hZ j hj.1 hj.2, e] at this
    simp at this
  · intro h i h0 h1
    rw [Bool.not_eq_true', decide_eq_false_iff_not, hZ i h0 h1]
    intro e
    exact h (by rw [← e]; exact selL_in h0 h1)
theorem plc {v : Int} {L : List Int} : fidx (fun i => decide (selL L i = v)) (len' L) < 0 ↔ v ∉ L := plcZ (fun _ _ _ => rfl) rfl
theorem plc1 {v : Int} {L : List Int} (h : 0 ≤ fidx (fun i => decide (selL L i = v)) (len' L)) : v ∈ L := by
  refine Classical.byContradiction fun hn => ?_
  have := plc.2 hn
  omega
theorem plcS {v x : Int} {L : List Int} (h : fidx (fun i => decide ((if i = len' L then x else selL L i) = v)) (len' L + 1) < 0) : v ∉ L := by
  have := (plcZ (L := L ++ [x]) (v := v) (fun i h0 h1 => by
    rw [len'_snoc] at h1
    by_cases e : i = len' L
    · rw [if_pos e, selL_new e]
    · rw [if_neg e, selL_old h0 (by omega)]) (len'_snoc L x).symm).1 h
  exact fun hv => this (by simp [hv])
theorem inI_0 (X Y A B : Int → Int) (most a m i : Int) : inI X Y A B most a m i 0 = ouI X Y A B most a m i := rfl
theorem ouI_0 (X Y A B : Int → Int) (most a m : Int) : ouI X Y A B most a m 0 = [a] := rfl
theorem ouI_nx {X Y A B : Int → Int} {most a m i : Int} (h : 0 ≤ i) : inI X Y A B most a m i m = ouI X Y A B most a m (i + 1) := by
  unfold inI ouI
  rw [show (i + 1).toNat = i.toNat + 1 by omega, ouL, show ((i.toNat : Nat) : Int) = i by omega]
theorem inI_nx {X Y A B : Int → Int} {most a m i k : Int} (h : 0 ≤ k) : inI X Y A B most a m i (k + 1) = stE X Y A B most (inI X Y A B most a m i k) i k := by
  unfold inI
  rw [show (k + 1).toNat = k.toNat + 1 by omega, inL, show ((k.toNat : Nat) : Int) = k by omega]
section
variable {X Y A B : Int → Int} {most a m n i k : Int}
theorem in_bd (h : edR A B n m) (hm : 0 ≤ m) (ha : 0 ≤ a ∧ a < n) (hi : 0 ≤ i ∧ ∀ j : Nat, j < i.toNat → (j : Int) < len' (ouL X Y A B most a m j)) (hl : i < len' (ouI X Y A B most a m i)) (k0 : 0 ≤ k) (k1 : k ≤ m) :
    i < len' (inI X Y A B most a m i k) ∧ len' (inI X Y A B most a m i k) ≤ n ∧ 0 ≤ len' (inI X Y A B most a m i k) := by
  have hP : linkd (fun x => 0 ≤ x ∧ x < n) X Y A B most m := fun k k0 k1 hok => by
    have := h k k0 k1
    exact ⟨fun _ => this.2, fun _ => this.1⟩
  have w := (ouL_way (a := a) hP hm i.toNat hi.2).1
  have w2 := (inL_way hP (L := ouI X Y A B most a m i) (i := i) hi.1 hl k.toNat (by omega)).1
  have w3 := w.trans w2
  have hb := w3.all (fun x hx => by have hx : x = a := by simpa using hx
                                    rw [hx]; exact ha)
  have := range_le (w3.nd (by simp)) hb (by omega)
  have := w2.le
  unfold inI
  omega
theorem ou_bd (h : edR A B n m) (hm : 0 ≤ m) (ha : 0 ≤ a ∧ a < n) (hi : 0 ≤ i ∧ ∀ j : Nat, j < i.toNat → (j : Int) < len' (ouL X Y A B most a m j)) : len' (ouI X Y A B most a m i) ≤ n ∧ 1 ≤ len' (ouI X Y A B most a m i) := by
  have := ouL_bd h hm ha hi.2
  exact ⟨this.1, this.2.1⟩
theorem ou_next (hi : 0 ≤ i ∧ ∀ j : Nat, j < i.toNat → (j : Int) < len' (ouL X Y A B most a m j)) (hl : i < len' (ouI X Y A B most a m i)) : 0 ≤ i + 1 ∧ ∀ j : Nat, j < (i + 1).toNat → (j : Int) < len' (ouL X Y A B most a m j) := by
  refine ⟨by omega, fun j hj => ?_⟩
  by_cases e : j = i.toNat
  · subst e
    unfold ouI at hl
    omega
  · exact hi.2 j (by omega)
theorem ou_end (h : edR A B n m) (hm : 0 ≤ m) (ha : 0 ≤ a ∧ a < n) (hi : 0 ≤ i ∧ ∀ j : Nat, j < i.toNat → (j : Int) < len' (ouL X Y A B most a m j)) (he : len' (ouI X Y A B most a m i) ≤ i) (b : Int) :
    0 ≤ fidx (fun j => decide (selL (ouI X Y A B most a m i) j = b)) (len' (ouI X Y A B most a m i)) ↔ lnk X Y A B m most a b = true := by
  rw [← ouL_lnk h hm ha hi.2 (by unfold ouI at he; omega), ← Int.not_lt, plc]
  exact Classical.not_not
theorem st_no (k0 : 0 ≤ k) (h : most < mht (X (A k)) (Y (A k)) (X (B k)) (Y (B k))) : inI X Y A B most a m i (k + 1) = inI X Y A B most a m i k := by
  rw [inI_nx k0]
  unfold stE
  rw [if_neg (by unfold okE; rw [decide_eq_true_eq]; omega)]
theorem ad_no {c : Prop} [Decidable c] {L : List Int} {v : Int} (h : ¬ c ∨ v ∈ L) : (if c then ad1 L v else L) = L := by
  split
  · unfold ad1
    rw [if_pos (h.resolve_left (fun hc => hc (by assumption)))]
  · rfl
theorem ad_yes {c : Prop} [Decidable c] {L : List Int} {v : Int} (hc : c) (h : v ∉ L) : (if c then ad1 L v else L) = L ++ [v] := by
  rw [if_pos hc]
  unfold ad1
  rw [if_neg h]
theorem st_ok (k0 : 0 ≤ k) (h : mht (X (A k)) (Y (A k)) (X (B k)) (Y (B k)) ≤ most) {L1 L2 : List Int} (h1 : (if A k = selL (inI X Y A B most a m i k) i then ad1 (inI X Y A B most a m i k) (B k) else inI X Y A B most a m i k) = L1)
    (h2 : (if B k = selL L1 i then ad1 L1 (A k) else L1) = L2) : inI X Y A B most a m i (k + 1) = L2 := by
  rw [inI_nx k0]
  unfold stE
  rw [if_pos (by unfold okE; exact decide_eq_true h), h1]
  exact h2
theorem st_00 (k0 : 0 ≤ k) (h : mht (X (A k)) (Y (A k)) (X (B k)) (Y (B k)) ≤ most) (h1 : A k ≠ selL (inI X Y A B most a m i k) i ∨ B k ∈ inI X Y A B most a m i k) (h2 : B k ≠ selL (inI X Y A B most a m i k) i ∨ A k ∈ inI X Y A B most a m i k) :
    inI X Y A B most a m i (k + 1) = inI X Y A B most a m i k := st_ok k0 h (ad_no h1) (ad_no h2)
theorem st_01 (k0 : 0 ≤ k) (h : mht (X (A k)) (Y (A k)) (X (B k)) (Y (B k)) ≤ most) (h1 : A k ≠ selL (inI X Y A B most a m i k) i ∨ B k ∈ inI X Y A B most a m i k) (h2 : B k = selL (inI X Y A B most a m i k) i) (h3 : A k ∉ inI X Y A B most a m i k) :
    inI X Y A B most a m i (k + 1) = inI X Y A B most a m i k ++ [A k] := st_ok k0 h (ad_no h1) (ad_yes h2 h3)
theorem st_10 (k0 : 0 ≤ k) (h : mht (X (A k)) (Y (A k)) (X (B k)) (Y (B k)) ≤ most) (i0 : 0 ≤ i) (i1 : i < len' (inI X Y A B most a m i k)) (h1 : A k = selL (inI X Y A B most a m i k) i) (h3 : B k ∉ inI X Y A B most a m i k) :
    inI X Y A B most a m i (k + 1) = inI X Y A B most a m i k ++ [B k] := st_ok k0 h (ad_yes h1 h3) (ad_no (.inr (by
      rw [h1]
      exact List.mem_append.2 (.inl (selL_in i0 i1)))))
theorem st_11 (i0 : 0 ≤ i) (i1 : i < len' (inI X Y A B most a m i k)) (h1 : A k = selL (inI X Y A B most a m i k) i)
    (h : fidx (fun j => decide ((if j = len' (inI X Y A B most a m i k) then B k else selL (inI X Y A B most a m i k) j) = A k)) (len' (inI X Y A B most a m i k) + 1) < 0) : False :=
  plcS h (by rw [h1]; exact selL_in i0 i1)
end
theorem sn_if {L : List Int} {x i : Int} (h0 : 0 ≤ i) (h1 : i < len' L + 1) : (if i = len' L then x else selL L i) = selL (L ++ [x]) i := by
  by_cases e : i = len' L
  · rw [if_pos e, selL_new e]
  · rw [if_neg e, selL_old h0 (by omega)]

theorem s_placeOf (Z : Int → Int) (m : Int) (v : Int) : RunsTo Try.prog 109 [(.sl 0 1 (.lit 0) (.v fun _ => m) 1048576), (.int .i64 (.v fun _ => v) (-9223372036854775808) 9223372036854775807)] [some ⟨3, 1, true, (.sym (.v fun _ => m) fun e => [(.int .i64 (.v fun _ => (Z (e.den))) (-9223372036854775808) 9223372036854775807)])⟩] (.int .i64 (.v fun _ => fidx (fun i => decide ((Z (i)) = v)) m) (-1) 1048576) [some ⟨3, 1, true, (.sym (.v fun _ => m) fun e => [(.int .i64 (.v fun _ => (Z (e.den))) (-9223372036854775808) 9223372036854775807)])⟩] := by
  refine RunsTo.go env Try.func109 rfl Try.call109 rfl rfl (fun _ _ => (.loop [] [0] (Int) (fun x1 => ⟨spl 19 0 [(0, (.sl 0 1 (.lit 0) (.v fun _ => m) 1048576)), (1, (.int .i64 (.v fun _ => v) (-9223372036854775808) 9223372036854775807)), (5, (.int .i64 (.v fun _ => x1) 0 1048576))], [some ⟨3, 1, true, (.sym (.v fun _ => m) fun e => [(.int .i64 (.v fun _ => (Z (e.den))) (-9223372036854775808) 9223372036854775807)])⟩], 1⟩) (fun x1 => (0 ≤ x1 ∧ x1 ≤ m) ∧ ∀ i, 0 ≤ i → i < x1 → decide ((Z (i)) = v) = false) (fun x1 => (m - x1).toNat) fun x1 => (.ite (.need (.need (.ite (.out .ret) (.next [0])))) (.out .ret)))) (G := ((0 ≤ m ∧ m ≤ 1048576) ∧ ((-9223372036854775808) ≤ v ∧ v ≤ 9223372036854775807)) → (∀ e8 : E, ((0 ≤ e8.den ∧ e8.den < m) → ((-9223372036854775808) ≤ ((Z (e8.den))) ∧ ((Z (e8.den))) ≤ 9223372036854775807))) → ((∃ y2 : Int, (((0 ≤ y2 ∧ y2 ≤ m) ∧ ∀ i, 0 ≤ i → i < y2 → decide ((Z (i)) = v) = false) ∧ (((m = m) ∧ ((v = v) ∧ ((0 : Int) = y2))) ∧ ((m ≤ m) ∧ (∀ e3 : E, ((0 ≤ e3.den ∧ e3.den < m) → (((Z (e3.den))) = ((Z (e3.den)))))))))) ∧ (∀ x1 : Int, (((0 ≤ x1 ∧ x1 ≤ m) ∧ ∀ i, 0 ≤ i → i < x1 → decide ((Z (i)) = v) = false) → (((x1 < m) → ((((0 ≤ x1) ∧ (x1 < m))) ∧ ((x1 < m) ∧ (((((Z (x1))) = v) → ((x1 = (fidx (fun i => decide ((Z (i)) = v)) m)) ∧ ((m ≤ m) ∧ (∀ e4 : E, ((0 ≤ e4.den ∧ e4.den < m) → (((Z (e4.den))) = ((Z (e4.den))))))))) ∧ ((((Z (x1))) ≠ v) → (∃ y5 : Int, (((0 ≤ y5 ∧ y5 ≤ m) ∧ ∀ i, 0 ≤ i → i < y5 → decide ((Z (i)) = v) = false) ∧ ((((m = m) ∧ ((v = v) ∧ (((x1 + 1) = y5) ∧ ((1 ≤ (x1 + 1) ∧ (x1 + 1) ≤ 1048577) → (0 ≤ y5 ∧ y5 ≤ 1048576))))) ∧ ((m ≤ m) ∧ (∀ e6 : E, ((0 ≤ e6.den ∧ e6.den < m) → (((Z (e6.den))) = ((Z (e6.den)))))))) ∧ ((m - y5).toNat < (m - x1).toNat))))))))) ∧ ((m ≤ x1) → ((((-1) : Int) = (fidx (fun i => decide ((Z (i)) = v)) m)) ∧ ((m ≤ m) ∧ (∀ e7 : E, ((0 ≤ e7.den ∧ e7.den < m) → (((Z (e7.den))) = ((Z (e7.den)))))))))))))) (by kernel_rfl) ?_
  intro h1 h2
  have hb := fidx_bd (fun i => decide (Z i = v)) h1.1.1
  refine ⟨?_, ?_⟩
  · refine ⟨0, ?_⟩
    try dsimp only
    refine ⟨?_, ?_, Int.le_refl _, fun _ => fun _ => rfl⟩
    · exact ⟨by omega, fun i a b => by omega⟩
    · refine ⟨rfl, rfl, ?_⟩
      rfl
  · intro j
    intro I1
    refine ⟨?_, ?_⟩
    · intro c9
      refine ⟨?_, ?_, ?_, ?_⟩
      · omega
      · omega
      · intro c10
        refine ⟨?_, Int.le_refl _, fun _ => fun _ => rfl⟩
        exact (fidx_found I1.1.1 (by omega) (decide_eq_true (by assumption)) I1.2).symm
      · intro c11
        refine ⟨j + 1, ?_⟩
        try dsimp only
        refine ⟨?_, ?_, ?_⟩
        · refine ⟨by omega, fun i a b => ?_⟩; by_cases e : i = j; (subst e; first | assumption | exact decide_eq_false (by assumption)); exact I1.2 i a (by omega)
        · refine ⟨?_, Int.le_refl _, fun _ => fun _ => rfl⟩
          refine ⟨rfl, rfl, ?_, ?_⟩
          · rfl
          · intro c12
            omega
        · omega
    · intro c13
      refine ⟨?_, Int.le_refl _, fun _ => fun _ => rfl⟩
      exact (fidx_none fun i a b => I1.2 i a (by omega)).symm
def c_s_placeOf (Z : Int → Int) (m : Int) (v : Int) : Cn Try.prog := ⟨_, _, _, _, _, s_placeOf Z m v⟩
end Go.Proofs.Ytcfkpdjbjfnnmaa
