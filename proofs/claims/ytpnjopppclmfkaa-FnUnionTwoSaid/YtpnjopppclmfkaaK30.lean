/- The order of points: the program's and the reference's. -/
import Derived.Test.YtpnjopppclmfkaaK29
import Derived.Test.YtpnjopppclmfkaaK10
set_option linter.unusedSimpArgs false
set_option linter.unusedVariables false
set_option maxRecDepth 100000
namespace Go.Proofs.Ytpnjopppclmfkaa
open Go.Sym
/-! what sorting and dropping the repeated leave -/
theorem mem_pts {X Y : Int → Int} {n qx qy : Int} : (qx, qy) ∈ ptsL X Y n ↔ memP X Y n qx qy := by
  unfold ptsL memP
  rw [List.mem_map]
  constructor
  · rintro ⟨i, hi, e⟩
    have hi := List.mem_range.1 hi
    exact ⟨i, ⟨by omega, by omega⟩, congrArg Prod.fst e, congrArg Prod.snd e⟩
  · rintro ⟨i, ⟨h0, h1⟩, e1, e2⟩
    refine ⟨i.toNat, List.mem_range.2 (by omega), ?_⟩
    rw [Int.toNat_of_nonneg h0, e1, e2]
theorem srtL_len (X Y : Int → Int) (n : Int) : (srtL X Y n).length = n.toNat := by
  unfold srtL; rw [List.length_mergeSort]; simp [ptsL]
theorem srt_get {X Y : Int → Int} {n i : Int} (h0 : 0 ≤ i) (h1 : i < n) : ∃ h, (srtX X Y n i, srtY X Y n i) = (srtL X Y n)[i.toNat]'h := by
  have hl := srtL_len X Y n
  refine ⟨by omega, ?_⟩
  unfold srtX srtY
  rw [List.getD_eq_getElem?_getD, List.getElem?_eq_getElem (by omega)]
  rfl
theorem srt_mem {X Y : Int → Int} {n qx qy : Int} : memP (srtX X Y n) (srtY X Y n) n qx qy ↔ memP X Y n qx qy := by
  rw [← mem_pts (X := X), ← List.mem_mergeSort (le := lqP)]
  show _ ↔ (qx, qy) ∈ srtL X Y n
  have hl := srtL_len X Y n
  constructor
  · rintro ⟨i, ⟨h0, h1⟩, e1, e2⟩
    obtain ⟨h, e⟩ := srt_get (X := X) (Y := Y) h0 h1
    rw [e1, e2] at e
    rw [e]
    exact List.getElem_mem _
  · intro h
    obtain ⟨k, hk, e⟩ := List.mem_iff_getElem.1 h
    refine ⟨k, ⟨by omega, by omega⟩, ?_, ?_⟩
    · unfold srtX; rw [Int.toNat_natCast, List.getD_eq_getElem?_getD, List.getElem?_eq_getElem hk, e]; rfl
    · unfold srtY; rw [Int.toNat_natCast, List.getD_eq_getElem?_getD, List.getElem?_eq_getElem hk, e]; rfl
theorem srt_le {X Y : Int → Int} {n i j : Int} (h0 : 0 ≤ i) (h1 : i < j) (h2 : j < n) :
    srtX X Y n i < srtX X Y n j ∨ (srtX X Y n i = srtX X Y n j ∧ srtY X Y n i ≤ srtY X Y n j) := by
  have hp : (srtL X Y n).Pairwise fun p q => lqP p q = true := List.pairwise_mergeSort (le := lqP) (fun a b c h1 h2 => by rw [lqP_iff] at *; omega) (fun a b => by rw [Bool.or_eq_true, lqP_iff, lqP_iff]; omega) (ptsL X Y n)
  obtain ⟨ha, e1⟩ := srt_get (X := X) (Y := Y) h0 (show i < n by omega)
  obtain ⟨hb, e2⟩ := srt_get (X := X) (Y := Y) (show 0 ≤ j by omega) h2
  have := List.pairwise_iff_getElem.1 hp i.toNat j.toNat ha hb (by omega)
  rw [← e1, ← e2, lqP_iff] at this
  exact this
theorem fl_mono {q : Int → Bool} {n i j : Int} (h0 : 0 ≤ i) (h1 : i < j) (h2 : j < len' (fl q n)) : selL (fl q n) i < selL (fl q n) j := by
  have hp : (fl q n).Pairwise (· < ·) := by
    unfold fl
    rw [List.pairwise_map]
    exact List.Pairwise.imp (fun h => by omega) (List.Pairwise.filter _ List.pairwise_lt_range)
  unfold selL len' at *
  rw [List.getD_eq_getElem?_getD, List.getD_eq_getElem?_getD, List.getElem?_eq_getElem (by omega), List.getElem?_eq_getElem (by omega)]
  exact List.pairwise_iff_getElem.1 hp i.toNat j.toNat (by omega) (by omega) (by omega)
theorem fl_at {q : Int → Bool} {n k : Int} (h : (0 ≤ k ∧ k < n) ∧ q k = true) : ∃ i, (0 ≤ i ∧ i < len' (fl q n)) ∧ selL (fl q n) i = k := by
  obtain ⟨i, hi, e⟩ := List.mem_iff_getElem.1 (mem_fl.2 h)
  refine ⟨i, ⟨by omega, by unfold len'; omega⟩, ?_⟩
  unfold selL
  rw [Int.toNat_natCast, List.getD_eq_getElem?_getD, List.getElem?_eq_getElem hi, e]
  rfl
theorem fl_true {q : Int → Bool} {n i : Int} (h0 : 0 ≤ i) (h1 : i < len' (fl q n)) : q (selL (fl q n) i) = true := (mem_fl.1 (selL_mem h0 h1)).2
/-- The first of a run stands for what follows. -/
theorem cK_rep (X Y : Int → Int) : ∀ k : Nat, ∃ i : Int, (0 ≤ i ∧ i ≤ k) ∧ cK X Y i = true ∧ X i = X k ∧ Y i = Y k
  | 0 => ⟨0, ⟨by omega, by omega⟩, cK_0 X Y, rfl, rfl⟩
  | k + 1 => by
    cases h : cK X Y ((k + 1 : Nat) : Int) with
    | true => exact ⟨_, ⟨by omega, by omega⟩, h, rfl, rfl⟩
    | false =>
      obtain ⟨_, h2, h3⟩ := cK_no.1 h
      obtain ⟨i, ⟨a, b⟩, c, d, e⟩ := cK_rep X Y k
      have e9 : ((k + 1 : Nat) : Int) - 1 = k := by omega
      rw [e9] at h2 h3
      exact ⟨i, ⟨a, by omega⟩, c, by rw [d, h2], by rw [e, h3]⟩
theorem i_mem {X Y : Int → Int} {n qx qy : Int} : memP (iX X Y n) (iY X Y n) (iN X Y n) qx qy ↔ memP X Y n qx qy := by
  rw [← srt_mem (X := X)]
  constructor
  · rintro ⟨i, ⟨h0, h1⟩, e1, e2⟩
    exact ⟨_, selL_fl h0 h1, e1, e2⟩
  · rintro ⟨i, ⟨h0, h1⟩, e1, e2⟩
    obtain ⟨k, ⟨a, b⟩, c, d, e⟩ := cK_rep (srtX X Y n) (srtY X Y n) i.toNat
    rw [show ((i.toNat : Nat) : Int) = i by omega] at d e
    obtain ⟨m, hm, hs⟩ := fl_at (q := cK (srtX X Y n) (srtY X Y n)) (n := n) (k := k) ⟨⟨a, by omega⟩, c⟩
    refine ⟨m, hm, ?_, ?_⟩
    · unfold iX; rw [hs, d, e1]
    · unfold iY; rw [hs, e, e2]
theorem i_srt (X Y : Int → Int) (n : Int) : srtP (iX X Y n) (iY X Y n) (iN X Y n) := by
  intro i j h0 h1 h2
  rw [ltP_iff]
  unfold iX iY
  have hm := fl_mono (q := cK (srtX X Y n) (srtY X Y n)) (n := n) h0 h1 h2
  have hi := selL_fl (q := cK (srtX X Y n) (srtY X Y n)) (n := n) h0 (show i < _ by unfold iN at h2; omega)
  have hj := selL_fl (q := cK (srtX X Y n) (srtY X Y n)) (n := n) (show 0 ≤ j by omega) h2
  have hk := fl_true (q := cK (srtX X Y n) (srtY X Y n)) (n := n) (show 0 ≤ j by omega) h2
  revert hm hi hj hk
  generalize selL (fl (cK (srtX X Y n) (srtY X Y n)) n) i = a
  generalize selL (fl (cK (srtX X Y n) (srtY X Y n)) n) j = b
  intro hm hi hj hk
  rw [cK_yes] at hk
  have l2 := srt_le (X := X) (Y := Y) (n := n) (i := b - 1) (j := b) (by omega) (by omega) (by omega)
  by_cases e : a = b - 1
  · subst e; omega
  · have l1 := srt_le (X := X) (Y := Y) (n := n) (i := a) (j := b - 1) (by omega) (by omega) (by omega)
    omega
/-- Two rising lists of the same points are one. -/
theorem srt_uniq {X Y V W : Int → Int} {n m : Int} (hn : 0 ≤ n) (hm : 0 ≤ m) (h1 : srtP X Y n) (h2 : srtP V W m) (h : ∀ qx qy, memP X Y n qx qy ↔ memP V W m qx qy) : n = m ∧ ∀ i, 0 ≤ i → i < n → X i = V i ∧ Y i = W i := by
  have key : ∀ k : Nat, (k : Int) < n → (k : Int) < m → X k = V k ∧ Y k = W k := by
    intro k
    induction k using Nat.strongRecOn with
    | _ k ih =>
      intro hk1 hk2
      obtain ⟨a, ⟨a0, a1⟩, a2, a3⟩ := (h _ _).1 ⟨k, ⟨by omega, hk1⟩, rfl, rfl⟩
      obtain ⟨b, ⟨b0, b1⟩, b2, b3⟩ := (h _ _).2 ⟨k, ⟨by omega, hk2⟩, rfl, rfl⟩
      have ha : (k : Int) ≤ a := by
        refine Classical.byContradiction fun hc => ?_
        have e := ih a.toNat (by omega) (by omega) (by omega)
        rw [show ((a.toNat : Nat) : Int) = a by omega] at e
        have := ltP_iff.1 (h1 a k a0 (by omega) hk1)
        omega
      have hb : (k : Int) ≤ b := by
        refine Classical.byContradiction fun hc => ?_
        have e := ih b.toNat (by omega) (by omega) (by omega)
        rw [show ((b.toNat : Nat) : Int) = b by omega] at e
        have := ltP_iff.1 (h2 b k b0 (by omega) hk2)
        omega
      by_cases ea : a = k
      · subst ea; exact ⟨a2.symm, a3.symm⟩
      · by_cases eb : b = k
        · subst eb; exact ⟨b2, b3⟩
        · have l1 := ltP_iff.1 (h2 k a (by omega) (by omega) a1)
          have l2 := ltP_iff.1 (h1 k b (by omega) (by omega) b1)
          omega
  have hnm : n = m := by
    rcases Int.lt_trichotomy n m with hlt | he | hgt
    · exfalso
      obtain ⟨b, ⟨b0, b1⟩, b2, b3⟩ := (h _ _).2 ⟨n, ⟨hn, hlt⟩, rfl, rfl⟩
      have e := key b.toNat (by omega) (by omega)
      rw [show ((b.toNat : Nat) : Int) = b by omega] at e
      have := ltP_iff.1 (h2 b n b0 (by omega) hlt)
      omega
    · exact he
    · exfalso
      obtain ⟨b, ⟨b0, b1⟩, b2, b3⟩ := (h _ _).1 ⟨m, ⟨hm, hgt⟩, rfl, rfl⟩
      have e := key b.toNat (by omega) (by omega)
      rw [show ((b.toNat : Nat) : Int) = b by omega] at e
      have := ltP_iff.1 (h1 b m b0 (by omega) hgt)
      omega
  refine ⟨hnm, fun i h0 h1 => ?_⟩
  have := key i.toNat (by omega) (by omega)
  rw [show ((i.toNat : Nat) : Int) = i by omega] at this
  exact this
theorem iN_bd (X Y : Int → Int) {n : Int} (h : 0 ≤ n) : 0 ≤ iN X Y n ∧ iN X Y n ≤ n := fl_bd _ h
theorem so_mem {X Y : Int → Int} {n qx qy : Int} (hn : 0 ≤ n) : memP (soX X Y n) (soY X Y n) (soN X Y n) qx qy ↔ memP X Y n qx qy := by
  have h := (ceL_ok X Y (fun _ => true) n.toNat).2 qx qy
  refine h.trans ?_
  constructor
  · rintro ⟨i, ⟨a, b⟩, _, c, d⟩; exact ⟨i, ⟨a, by omega⟩, c, d⟩
  · rintro ⟨i, ⟨a, b⟩, c, d⟩; exact ⟨i, ⟨a, by omega⟩, rfl, c, d⟩
/-- The reference's order and the program's. -/
theorem so_i (X Y : Int → Int) {n : Int} (hn : 0 ≤ n) : soN X Y n = iN X Y n ∧ ∀ i, 0 ≤ i → i < soN X Y n → soX X Y n i = iX X Y n i ∧ soY X Y n i = iY X Y n i :=
  srt_uniq (soN_bd X Y hn).1 (iN_bd X Y hn).1 (ceL_ok X Y (fun _ => true) n.toNat).1 (i_srt X Y n) fun qx qy => (so_mem hn).trans i_mem.symm
def spN (X Y : Int → Int) (n : Int) : Int := if listB X Y n = true then iN X Y n else 0
theorem sp_yes {X Y : Int → Int} {n : Int} (h : listB X Y n = true) : spN X Y n = iN X Y n := by unfold spN; rw [if_pos h]
theorem sp_no {X Y : Int → Int} {n : Int} (h : listB X Y n = false) : spN X Y n = 0 := by unfold spN; rw [if_neg (by rw [h]; decide)]

theorem i_SortPoints (X : Int → Int) (Y : Int → Int) (n : Int) : RunsTo Try.prog 18 [(.sl 0 2 (.lit 0) (.v fun _ => n) 1048576)] [some ⟨35, 2, true, (.sym (.v fun _ => n) fun e => [(.int .i64 (.v fun _ => (X (e.den))) (-9223372036854775808) 9223372036854775807), (.int .i64 (.v fun _ => (Y (e.den))) (-9223372036854775808) 9223372036854775807)])⟩] (.sl 1 2 (.lit 0) (.v fun _ => spN X Y n) 1048576) [some ⟨35, 2, true, (.sym (.v fun _ => n) fun e => [(.int .i64 (.v fun _ => (X (e.den))) (-9223372036854775808) 9223372036854775807), (.int .i64 (.v fun _ => (Y (e.den))) (-9223372036854775808) 9223372036854775807)])⟩, some ⟨35, 2, true, (.sym (.v fun _ => spN X Y n) fun e => [(.int .i64 (.v fun _ => iX X Y n e.den) (-9223372036854775808) 9223372036854775807), (.int .i64 (.v fun _ => iY X Y n e.den) (-9223372036854775808) 9223372036854775807)])⟩] := by
  refine RunsTo.go env Try.func18 rfl Try.call18 rfl rfl (fun _ _ => (.call (c_i_listOk X Y n) (.ite .ret (.call (c_i_sorted X Y n) .ret)))) (G := (0 ≤ n ∧ n ≤ 1048576) → (∀ e6 : E, ((0 ≤ e6.den ∧ e6.den < n) → (((-9223372036854775808) ≤ ((X (e6.den))) ∧ ((X (e6.den))) ≤ 9223372036854775807) ∧ ((-9223372036854775808) ≤ ((Y (e6.den))) ∧ ((Y (e6.den))) ≤ 9223372036854775807)))) → ((n = n) ∧ (((n ≤ n) ∧ (∀ e1 : E, ((0 ≤ e1.den ∧ e1.den < n) → ((((X (e1.den))) = ((X (e1.den)))) ∧ (((Y (e1.den))) = ((Y (e1.den)))))))) ∧ ((((listB X Y n) = false) → (((0 : Int) = (spN X Y n)) ∧ (((n ≤ n) ∧ (∀ e2 : E, ((0 ≤ e2.den ∧ e2.den < n) → ((((X (e2.den))) = ((X (e2.den)))) ∧ (((Y (e2.den))) = ((Y (e2.den)))))))) ∧ ((spN X Y n) = 0)))) ∧ (((listB X Y n) = true) → ((n = n) ∧ (((n ≤ n) ∧ (∀ e3 : E, ((0 ≤ e3.den ∧ e3.den < n) → ((((X (e3.den))) = ((X (e3.den)))) ∧ (((Y (e3.den))) = ((Y (e3.den)))))))) ∧ (((iN X Y n) = (spN X Y n)) ∧ (((n ≤ n) ∧ (∀ e5 : E, ((0 ≤ e5.den ∧ e5.den < n) → ((((X (e5.den))) = ((X (e5.den)))) ∧ (((Y (e5.den))) = ((Y (e5.den)))))))) ∧ (((spN X Y n) ≤ (iN X Y n)) ∧ (∀ e4 : E, ((0 ≤ e4.den ∧ e4.den < (spN X Y n)) → (((iX X Y n (e4.den)) = (iX X Y n e4.den)) ∧ ((iY X Y n (e4.den)) = (iY X Y n e4.den))))))))))))))) (by kernel_rfl) ?_
  intro h1 h2
  refine ⟨rfl, ⟨Int.le_refl _, fun _ => fun _ => ⟨rfl, rfl⟩⟩, ?_, ?_⟩
  · intro c7
    refine ⟨?_, ⟨Int.le_refl _, fun _ => fun _ => ⟨rfl, rfl⟩⟩, ?_⟩
    · exact (sp_no (by assumption)).symm
    · rw [sp_no (by assumption)]; done
  · intro c8
    refine ⟨rfl, ⟨Int.le_refl _, fun _ => fun _ => ⟨rfl, rfl⟩⟩, ?_, ⟨Int.le_refl _, fun _ => fun _ => ⟨rfl, rfl⟩⟩, ?_, fun _ => fun _ => ⟨rfl, rfl⟩⟩
    · exact (sp_yes (by assumption)).symm
    · have hy := sp_yes (X := X) (Y := Y) (n := n) (by assumption); have hb := iN_bd X Y (n := n) (by omega); have hs := so_i X Y (n := n) (by omega); first | omega | exact (hs.2 _ (by omega) (by omega)).1 | exact (hs.2 _ (by omega) (by omega)).2
def c_i_SortPoints (X : Int → Int) (Y : Int → Int) (n : Int) : Cn Try.prog := ⟨_, _, _, _, _, i_SortPoints X Y n⟩
theorem s_SortPoints (X : Int → Int) (Y : Int → Int) (n : Int) : RunsTo Try.prog 16 [(.sl 0 2 (.lit 0) (.v fun _ => n) 1048576)] [some ⟨35, 2, true, (.sym (.v fun _ => n) fun e => [(.int .i64 (.v fun _ => (X (e.den))) (-9223372036854775808) 9223372036854775807), (.int .i64 (.v fun _ => (Y (e.den))) (-9223372036854775808) 9223372036854775807)])⟩] (.sl 1 2 (.lit 0) (.v fun _ => spN X Y n) 1048576) [some ⟨35, 2, true, (.sym (.v fun _ => n) fun e => [(.int .i64 (.v fun _ => (X (e.den))) (-9223372036854775808) 9223372036854775807), (.int .i64 (.v fun _ => (Y (e.den))) (-9223372036854775808) 9223372036854775807)])⟩, some ⟨35, 2, true, (.sym (.v fun _ => spN X Y n) fun e => [(.int .i64 (.v fun _ => iX X Y n e.den) (-9223372036854775808) 9223372036854775807), (.int .i64 (.v fun _ => iY X Y n e.den) (-9223372036854775808) 9223372036854775807)])⟩] := by
  refine RunsTo.go env Try.func16 rfl Try.call16 rfl rfl (fun _ _ => (.call (c_s_validPoints X Y n) (.ite .ret (.call (c_s_sorted X Y n) .ret)))) (G := (0 ≤ n ∧ n ≤ 1048576) → (∀ e6 : E, ((0 ≤ e6.den ∧ e6.den < n) → (((-9223372036854775808) ≤ ((X (e6.den))) ∧ ((X (e6.den))) ≤ 9223372036854775807) ∧ ((-9223372036854775808) ≤ ((Y (e6.den))) ∧ ((Y (e6.den))) ≤ 9223372036854775807)))) → ((n = n) ∧ (((n ≤ n) ∧ (∀ e1 : E, ((0 ≤ e1.den ∧ e1.den < n) → ((((X (e1.den))) = ((X (e1.den)))) ∧ (((Y (e1.den))) = ((Y (e1.den)))))))) ∧ ((((listB X Y n) = false) → (((0 : Int) = (spN X Y n)) ∧ (((n ≤ n) ∧ (∀ e2 : E, ((0 ≤ e2.den ∧ e2.den < n) → ((((X (e2.den))) = ((X (e2.den)))) ∧ (((Y (e2.den))) = ((Y (e2.den)))))))) ∧ ((spN X Y n) = 0)))) ∧ (((listB X Y n) = true) → ((n = n) ∧ (((n ≤ n) ∧ (∀ e3 : E, ((0 ≤ e3.den ∧ e3.den < n) → ((((X (e3.den))) = ((X (e3.den)))) ∧ (((Y (e3.den))) = ((Y (e3.den)))))))) ∧ (((soN X Y n) = (spN X Y n)) ∧ (((n ≤ n) ∧ (∀ e5 : E, ((0 ≤ e5.den ∧ e5.den < n) → ((((X (e5.den))) = ((X (e5.den)))) ∧ (((Y (e5.den))) = ((Y (e5.den)))))))) ∧ (((spN X Y n) ≤ (soN X Y n)) ∧ (∀ e4 : E, ((0 ≤ e4.den ∧ e4.den < (spN X Y n)) → (((soX X Y n (e4.den)) = (iX X Y n e4.den)) ∧ ((soY X Y n (e4.den)) = (iY X Y n e4.den))))))))))))))) (by kernel_rfl) ?_
  intro h1 h2
  refine ⟨rfl, ⟨Int.le_refl _, fun _ => fun _ => ⟨rfl, rfl⟩⟩, ?_, ?_⟩
  · intro c7
    refine ⟨?_, ⟨Int.le_refl _, fun _ => fun _ => ⟨rfl, rfl⟩⟩, ?_⟩
    · exact (sp_no (by assumption)).symm
    · rw [sp_no (by assumption)]; done
  · intro c8
    refine ⟨rfl, ⟨Int.le_refl _, fun _ => fun _ => ⟨rfl, rfl⟩⟩, ?_, ⟨Int.le_refl _, fun _ => fun _ => ⟨rfl, rfl⟩⟩, ?_, ?_⟩
    · have hy := sp_yes (X := X) (Y := Y) (n := n) (by assumption); have hb := iN_bd X Y (n := n) (by omega); have hs := so_i X Y (n := n) (by omega); first | omega | exact (hs.2 _ (by omega) (by omega)).1 | exact (hs.2 _ (by omega) (by omega)).2
    · have hy := sp_yes (X := X) (Y := Y) (n := n) (by assumption); have hb := iN_bd X Y (n := n) (by omega); have hs := so_i X Y (n := n) (by omega); first | omega | exact (hs.2 _ (by omega) (by omega)).1 | exact (hs.2 _ (by omega) (by omega)).2
    · intro e4
      intro c9
      refine ⟨?_, ?_⟩
      · have hy := sp_yes (X := X) (Y := Y) (n := n) (by assumption); have hb := iN_bd X Y (n := n) (by omega); have hs := so_i X Y (n := n) (by omega); first | omega | exact (hs.2 _ (by omega) (by omega)).1 | exact (hs.2 _ (by omega) (by omega)).2
      · have hy := sp_yes (X := X) (Y := Y) (n := n) (by assumption); have hb := iN_bd X Y (n := n) (by omega); have hs := so_i X Y (n := n) (by omega); first | omega | exact (hs.2 _ (by omega) (by omega)).1 | exact (hs.2 _ (by omega) (by omega)).2
def c_s_SortPoints (X : Int → Int) (Y : Int → Int) (n : Int) : Cn Try.prog := ⟨_, _, _, _, _, s_SortPoints X Y n⟩
end Go.Proofs.Ytpnjopppclmfkaa
