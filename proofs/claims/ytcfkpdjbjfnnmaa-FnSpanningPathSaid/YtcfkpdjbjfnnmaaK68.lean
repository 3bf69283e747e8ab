/- The program and the reference find one tree. -/
import Derived.Test.YtcfkpdjbjfnnmaaK67
set_option linter.unusedSimpArgs false
set_option linter.unusedVariables false
set_option maxRecDepth 100000
namespace Go.Proofs.Ytcfkpdjbjfnnmaa
open Go.Sym
/-! ### the best pair -/
theorem stpP_lt {D : Int → Int → Int} {G : Int → Int} {i k : Int} {s : Int × Int} (h : stpP D G i k s ≠ s) : stpP D G i k s = (i, k) ∧ G i ≠ G k := by
  unfold stpP at h ⊢
  split
  · rename_i hc; exact ⟨rfl, hc.1⟩
  · rename_i hc; rw [if_neg hc] at h; exact absurd rfl h
/-- s is the least of the pairs that were looked at. -/
structure Bst (X Y : Int → Int) (G : Int → Int) (dn : Int × Int → Prop) (s : Int × Int) : Prop where
  in_ : s = (-1, 0) ∨ dn s
  le : ∀ p, dn p → G p.1 ≠ G p.2 → 0 ≤ s.1 ∧ (s = p ∨ lt3 X Y s p)
theorem Bst.step {X Y G : Int → Int} {dn dn' : Int × Int → Prop} {s : Int × Int} {i k : Int} (h : Bst X Y G dn s) (hi : 0 ≤ i) (hd : ∀ p, dn' p ↔ dn p ∨ p = (i, k)) (hl : ∀ p, dn p → lexP p (i, k)) (h0 : ∀ p, dn p → 0 ≤ p.1) : Bst X Y G dn' (stpP (mhD X Y) G i k s) := by
  unfold stpP
  split
  · rename_i hc
    refine ⟨.inr ((hd _).2 (.inr rfl)), fun p hp hg => ⟨hi, ?_⟩⟩
    rcases (hd p).1 hp with hp | rfl
    · have := h.le p hp hg
      rcases hc.2 with hx | hx
      · omega
      · right
        have hx : Dp X Y (i, k) < Dp X Y s := hx
        rcases this.2 with e | e
        · rw [← e]; exact lt3_lt hx
        · exact lt3_lt (Int.lt_of_lt_of_le hx (lt3_le e))
    · exact .inl rfl
  · rename_i hc
    refine ⟨h.in_.imp id fun hs => (hd _).2 (.inl hs), fun p hp hg => ?_⟩
    rcases (hd p).1 hp with hp | rfl
    · exact h.le p hp hg
    · have hg : G i ≠ G k := hg
      have h2 : ¬ (s.1 < 0 ∨ mhD X Y i k < mhD X Y s.1 s.2) := fun hx => hc ⟨hg, hx⟩
      have h3 : 0 ≤ s.1 := by omega
      refine ⟨h3, .inr ?_⟩
      rcases h.in_ with e | e
      · rw [e] at h3; exact absurd h3 (by decide)
      · refine lt3_of ?_ (hl s e)
        show mhD X Y s.1 s.2 ≤ mhD X Y i k
        omega
theorem bpI_bst {X Y G : Int → Int} {n i : Int} {s : Int × Int} (hi : 0 ≤ i) (h : Bst X Y G (fun p => (0 ≤ p.1 ∧ p.1 < p.2 ∧ p.2 < n) ∧ p.1 < i) s) : ∀ m : Nat, i + 1 + m ≤ n → Bst X Y G (fun p => (0 ≤ p.1 ∧ p.1 < p.2 ∧ p.2 < n) ∧ (p.1 < i ∨ (p.1 = i ∧ p.2 < i + 1 + m))) (bpI (mhD X Y) G i m s)
  | 0, hm => by
    refine ⟨h.in_.imp id fun hs => ⟨hs.1, .inl hs.2⟩, fun p hp hg => h.le p ⟨hp.1, by omega⟩ hg⟩
  | m + 1, hm => by
    have ih := bpI_bst hi h m (by omega)
    refine Bst.step (i := i) (k := i + 1 + m) ih hi (fun p => ?_) (fun p hp => ?_) (fun p hp => hp.1.1)
    · obtain ⟨p1, p2⟩ := p
      simp only [Prod.mk.injEq]
      omega
    · unfold lexP
      simp only
      omega
theorem bpO_bst {X Y G : Int → Int} {n : Int} : ∀ j : Nat, (j : Int) ≤ n → Bst X Y G (fun p => (0 ≤ p.1 ∧ p.1 < p.2 ∧ p.2 < n) ∧ p.1 < j) (bpO (mhD X Y) G n j)
  | 0, _ => ⟨.inl rfl, fun p hp _ => by omega⟩
  | j + 1, hj => by
    have h := bpI_bst (X := X) (Y := Y) (G := G) (n := n) (i := (j : Int)) (by omega) (bpO_bst j (by omega)) (n - j - 1).toNat (by omega)
    rw [bpO]
    refine ⟨h.in_.imp id fun hs => ⟨hs.1, by omega⟩, fun p hp hg => h.le p ⟨hp.1, by omega⟩ hg⟩
/-- The reference's next edge is the least one between two groups. -/
theorem sp_least {X Y : Int → Int} {n t x y : Int} (h0 : 0 ≤ x) (h1 : x < y) (h2 : y < n) (hg : spG X Y n t.toNat x ≠ spG X Y n t.toNat y) : (spU X Y n t, spV X Y n t) = (x, y) ∨ lt3 X Y (spU X Y n t, spV X Y n t) (x, y) :=
  ((bpO_bst (X := X) (Y := Y) (G := spG X Y n t.toNat) (n := n) n.toNat (by omega)).le (x, y) ⟨⟨h0, h1, h2⟩, by show x < _; omega⟩ hg).2
/-! ### how many groups -/
theorem two_le {l : List Int} {u v : Int} (hl : u ∈ l) (hr : v ∈ l) (h : u ≠ v) : 2 ≤ len' l := by
  have := List.Nodup.length_le_of_subset (l₁ := [u, v]) (l₂ := l) (by simp [h]) (by
    intro x hx
    simp only [List.mem_cons, List.not_mem_nil, or_false] at hx
    rcases hx with rfl | rfl
    · exact hl
    · exact hr)
  unfold len'
  simp at this
  omega
theorem cnt_two {G : Int → Int} {n i k : Int} (hi : 0 ≤ i ∧ i < n) (hk : 0 ≤ k ∧ k < n) (h : G i ≠ G k) (gi : 0 ≤ G i ∧ G i < n) (gk : 0 ≤ G k ∧ G k < n) : 2 ≤ cnt G n :=
  two_le (mem_fl.2 ⟨gi, hit_iff.2 ⟨i, hi, rfl⟩⟩) (mem_fl.2 ⟨gk, hit_iff.2 ⟨k, hk, rfl⟩⟩) h
theorem smf_mem {f : Int → Int} (w : Int) (h0 : 0 ≤ w) (hf : ∀ i, 0 ≤ f i) : ∀ m : Nat, w < m → f w ≤ smf f m
  | 0, h => by omega
  | m + 1, h => by
    rw [smf]
    by_cases e : w = m
    · subst e
      have : 0 ≤ smf f m := by
        have := smf_le (f := fun _ => 0) (g := f) m (fun i _ _ => hf i)
        rw [smf_const] at this
        omega
      omega
    · have := smf_mem w h0 hf m (by omega)
      have := hf m
      omega
theorem cnt_less {G : Int → Int} {n : Int} {s : Int × Int} (h : 0 ≤ n) (hs : (0 ≤ s.1 ∧ s.1 < n) ∧ 0 ≤ s.2 ∧ s.2 < n) (hg : G s.1 ≠ G s.2) (hb : 0 ≤ G s.2 ∧ G s.2 < n) : cnt (mrg G s) n + 1 ≤ cnt G n := by
  unfold cnt
  rw [fl_int h, fl_int h]
  have h1 : smf (fun v => bi (hit (mrg G s) n v) + bi (decide (v = G s.2))) n.toNat ≤ smf (fun v => bi (hit G n v)) n.toNat := by
    refine smf_le _ fun v a b => ?_
    by_cases e : (v : Int) = G s.2
    · have hz : hit (mrg G s) n v = false := by
        rw [← Bool.not_eq_true, hit_iff]
        rintro ⟨i, hi, e2⟩
        unfold mrg at e2
        split at e2
        · exact hg (by rw [e2, e])
        · rename_i hne; exact hne (by rw [e2, e])
      have hy : hit G n v = true := hit_iff.2 ⟨s.2, hs.2, e.symm⟩
      rw [hz, hy, decide_eq_true e]
      decide
    · rw [decide_eq_false e]
      show _ + 0 ≤ _
      cases hv : hit (mrg G s) n v with
      | false =>
        have := bi_bd (hit G n v)
        show 0 + 0 ≤ _
        omega
      | true =>
        obtain ⟨i, hi, e2⟩ := hit_iff.1 hv
        have hy : hit G n v = true := by
          unfold mrg at e2
          split at e2
          · exact hit_iff.2 ⟨s.1, hs.1, e2⟩
          · exact hit_iff.2 ⟨i, hi, e2⟩
        rw [hy]
        decide
  rw [smf_add] at h1
  have h2 : bi (decide (G s.2 = G s.2)) ≤ smf (fun v => bi (decide (v = G s.2))) n.toNat := smf_mem (f := fun v => bi (decide (v = G s.2))) (G s.2) hb.1 (fun i => (bi_bd _).1) n.toNat (by omega)
  have h3 : bi (decide (G s.2 = G s.2)) = 1 := by rw [decide_eq_true rfl]; rfl
  rw [h3] at h2
  omega
theorem spG_max {X Y : Int → Int} {n : Int} (h : 0 ≤ n) : ∀ t : Nat, (t : Int) + 1 ≤ n → cnt (spG X Y n t) n ≤ n - t
  | 0, _ => by
    have := cnt_id h
    show cnt (fun i => i) n ≤ n - ((0 : Nat) : Int)
    omega
  | t + 1, ht => by
    have ih := spG_max (X := X) (Y := Y) h t (by omega)
    have ho := bq_ok (X := X) (Y := Y) (n := n) (t := t) (by omega) (by omega)
    have hb := gG_bd (X := X) (Y := Y) (n := n) t (by omega) (spV X Y n t) (by omega) (by omega)
    have hl := cnt_less (G := spG X Y n t) (n := n) (s := (spU X Y n t, spV X Y n t)) h ⟨⟨by simp only; omega, by simp only; omega⟩, by simp only; omega, by simp only; omega⟩ ho.2 hb
    have e : spG X Y n (t + 1) = mrg (spG X Y n t) (spU X Y n t, spV X Y n t) := rfl
    rw [e]
    omega
/-- If two groups are left, there is an edge to come. -/
theorem sp_more {X Y : Int → Int} {n t x y : Int} (ht : 0 ≤ t) (h1 : t + 1 ≤ n) (hx : 0 ≤ x ∧ x < n) (hy : 0 ≤ y ∧ y < n) (hg : spG X Y n t.toNat x ≠ spG X Y n t.toNat y) : t + 1 < n := by
  have hm := spG_max (X := X) (Y := Y) (n := n) (by omega) t.toNat (by omega)
  have hb := gG_bd (X := X) (Y := Y) (n := n) t.toNat (by omega)
  have := cnt_two hx hy hg (hb x hx.1 hx.2) (hb y hy.1 hy.2)
  omega
/-! ### the program's choice -/
theorem same_mrg2 {n : Int} {G H : Int → Int} {a b : Int} (h : same n G H) (ha : 0 ≤ a ∧ a < n) (hb : 0 ≤ b ∧ b < n) : same n (mrg G (a, b)) (mrg H (a, b)) := by
  intro i k hi hk
  unfold mrg
  have e1 := h i k hi hk
  have e2 := h i a hi ha
  have e3 := h i b hi hb
  have e4 := h k a hk ha
  have e5 := h k b hk hb
  have e6 := h a b ha hb
  simp only
  by_cases c1 : G i = G b <;> by_cases c2 : G k = G b <;> by_cases c3 : H i = H b <;> by_cases c4 : H k = H b <;> simp only [c1, c2, c3, c4, if_true, if_false] <;> grind
/-- All pairs, sorted. -/
structure Srt (X Y A B : Int → Int) (n m : Int) : Prop where
  so : SoF X Y (zp A B) 0 m
  in_ : ∀ i, 0 ≤ i → i < m → 0 ≤ A i ∧ A i < B i ∧ B i < n
  on : ∀ x y, 0 ≤ x → x < y → y < n → ∃ i, (0 ≤ i ∧ i < m) ∧ zp A B i = (x, y)
theorem mht_bd {X Y : Int → Int} {n : Int} (hP : ∀ i, 0 ≤ i → i < n → (-1000 ≤ X i ∧ X i ≤ 1000) ∧ -1000 ≤ Y i ∧ Y i ≤ 1000) {x y : Int} (hx : 0 ≤ x ∧ x < n) (hy : 0 ≤ y ∧ y < n) : 0 ≤ mhD X Y x y ∧ mhD X Y x y ≤ 4000 := by
  have a := hP x hx.1 hx.2
  have b := hP y hy.1 hy.2
  unfold mhD mht absI
  omega
def kq (X Y A B : Int → Int) (j : Int) : Bool := !(decide (lG X Y A B 4000 j.toNat (A j) = lG X Y A B 4000 j.toNat (B j)))
def okP4 (X Y : Int → Int) (n : Int) : Prop := ∀ i, 0 ≤ i → i < n → (-1000 ≤ X i ∧ X i ≤ 1000) ∧ -1000 ≤ Y i ∧ Y i ≤ 1000
section
variable {X Y A B : Int → Int} {n m : Int}
theorem Srt.edR (h : Srt X Y A B n m) : edR A B n m := fun i h0 h1 => by have := h.in_ i h0 h1; omega
theorem lG_next (hP : okP4 X Y n) (h : Srt X Y A B n m) {j : Int} (h0 : 0 ≤ j) (h1 : j < m) : lG X Y A B 4000 (j + 1).toNat = mrg (lG X Y A B 4000 j.toNat) (A j, B j) := by
  have hr := h.edR j h0 h1
  have hb := mht_bd hP hr.1 hr.2
  rw [show (j + 1).toNat = j.toNat + 1 by omega, lG, show ((j.toNat : Nat) : Int) = j by omega, if_pos]
  unfold okE
  exact decide_eq_true hb.2
theorem kru (hP : okP4 X Y n) (h : Srt X Y A B n m) (hn : 1 ≤ n) : ∀ j : Nat, (j : Int) ≤ m → same n (lG X Y A B 4000 j) (spG X Y n (len' (fl (kq X Y A B) j)).toNat) ∧ (0 ≤ len' (fl (kq X Y A B) j) ∧ len' (fl (kq X Y A B) j) + 1 ≤ n) ∧
    ∀ u, 0 ≤ u → u < len' (fl (kq X Y A B) j) → A (selL (fl (kq X Y A B) j) u) = spU X Y n u ∧ B (selL (fl (kq X Y A B) j) u) = spV X Y n u
  | 0, _ => by
    have e : fl (kq X Y A B) ((0 : Nat) : Int) = [] := rfl
    rw [e]
    exact ⟨fun i k _ _ => Iff.rfl, ⟨Int.le_refl _, hn⟩, fun u h0 h1 => by have h1 : u < 0 := h1; omega⟩
  | j + 1, hj => by
    obtain ⟨a, b, c⟩ := kru hP h hn j (by omega)
    have hin := h.in_ j (by omega) (by omega)
    have hx : 0 ≤ A j ∧ A j < n := by omega
    have hy : 0 ≤ B j ∧ B j < n := by omega
    have hG := lG_next hP h (j := j) (by omega) (by omega)
    rw [show ((j : Int) + 1).toNat = j + 1 by omega, show ((j : Int)).toNat = j by omega] at hG
    rw [show ((j + 1 : Nat) : Int) = (j : Int) + 1 by omega, hG]
    generalize hT : len' (fl (kq X Y A B) j) = t at *
    by_cases hq : kq X Y A B j = true
    · have hne : lG X Y A B 4000 j (A j) ≠ lG X Y A B 4000 j (B j) := by
        unfold kq at hq
        rw [Bool.not_eq_true', decide_eq_false_iff_not, show ((j : Int)).toNat = j by omega] at hq
        exact hq
      have hne2 : spG X Y n t.toNat (A j) ≠ spG X Y n t.toNat (B j) := fun e => hne ((a _ _ hx hy).2 e)
      have hmore := sp_more b.1 b.2 hx hy hne2
      have hbq := bq_ok (X := X) (Y := Y) (n := n) b.1 hmore
      have hs : (spU X Y n t, spV X Y n t) = (A j, B j) := by
        rcases sp_least hin.1 hin.2.1 hin.2.2 hne2 with e | e
        · exact e
        · exfalso
          obtain ⟨i, hi, ei⟩ := h.on (spU X Y n t) (spV X Y n t) hbq.1.1.1 hbq.1.1.2 hbq.1.2
          rw [← ei] at e
          have hij : i < j := by
            rcases Int.lt_trichotomy i j with c1 | c1 | c1
            · exact c1
            · subst c1; exact absurd e (lt3_irr _)
            · exact absurd (lt3_tr e (h.so j i (by omega) c1 hi.2)) (lt3_irr _)
          have hin2 := h.in_ i hi.1 hi.2
          have hl := lG_linkd (X := X) (Y := Y) (most := 4000) h.edR j (by omega) i hi.1 hij (by
            unfold okE
            exact decide_eq_true (mht_bd hP (x := A i) (y := B i) (by omega) (by omega)).2)
          have e1 : A i = spU X Y n t := congrArg Prod.fst ei
          have e2 : B i = spV X Y n t := congrArg Prod.snd ei
          rw [e1, e2] at hl
          exact hbq.2 ((a _ _ ⟨hbq.1.1.1, by omega⟩ ⟨by omega, hbq.1.2⟩).1 hl)
      have e1 : spU X Y n t = A j := congrArg Prod.fst hs
      have e2 : spV X Y n t = B j := congrArg Prod.snd hs
      rw [fl_yes (by omega) hq, len'_snoc, hT]
      refine ⟨?_, by omega, fun u u0 u1 => ?_⟩
      · have e3 : spG X Y n (t + 1).toNat = mrg (spG X Y n t.toNat) (A j, B j) := by
          rw [show (t + 1).toNat = t.toNat + 1 by omega]
          show mrg (spG X Y n t.toNat) (bpO (mhD X Y) (spG X Y n t.toNat) n n.toNat) = _
          rw [show bpO (mhD X Y) (spG X Y n t.toNat) n n.toNat = (spU X Y n t, spV X Y n t) from rfl, hs]
        rw [e3]
        exact same_mrg2 a hx hy
      · by_cases eu : u = t
        · rw [eu, selL_new hT.symm]
          exact ⟨e1.symm, e2.symm⟩
        · rw [selL_old u0 (by omega)]
          exact c u u0 (by omega)
    · have hq : kq X Y A B j = false := by simpa using hq
      have heq : lG X Y A B 4000 j (A j) = lG X Y A B 4000 j (B j) := by
        unfold kq at hq
        rw [Bool.not_eq_false', decide_eq_true_eq, show ((j : Int)).toNat = j by omega] at hq
        exact hq
      rw [fl_no (by omega) hq, hT]
      refine ⟨fun i k hi hk => ?_, b, c⟩
      rw [← a i k hi hk]
      have hm : ∀ z, mrg (lG X Y A B 4000 j) (A j, B j) z = lG X Y A B 4000 j z := fun z => by
        unfold mrg
        simp only
        split
        · rename_i h2; rw [h2, heq]
        · rfl
      rw [hm, hm]
/-- The program finds the reference's tree. -/
theorem kru_end (hP : okP4 X Y n) (h : Srt X Y A B n m) (hn : 0 ≤ n) (hm : 0 ≤ m) (hmn : n ≤ 1 → m = 0) : len' (fl (kq X Y A B) m) = stN n ∧ ∀ u, 0 ≤ u → u < stN n → A (selL (fl (kq X Y A B) m) u) = spU X Y n u ∧ B (selL (fl (kq X Y A B) m) u) = spV X Y n u := by
  by_cases h1 : n ≤ 1
  · have := hmn h1
    subst this
    have e : fl (kq X Y A B) 0 = [] := rfl
    rw [e]
    have e2 : stN n = 0 := by unfold stN; split <;> omega
    rw [e2]
    exact ⟨rfl, fun u h0 h2 => by omega⟩
  · obtain ⟨a, b, c⟩ := kru hP h (by omega) m.toNat (by omega)
    rw [show ((m.toNat : Nat) : Int) = m by omega] at a b c
    have hall : ∀ i k : Int, (0 ≤ i ∧ i < k) → k < n → spG X Y n (len' (fl (kq X Y A B) m)).toNat i = spG X Y n (len' (fl (kq X Y A B) m)).toNat k := by
      intro i k hi hk
      obtain ⟨q, hq, eq⟩ := h.on i k hi.1 hi.2 hk
      have hin := h.in_ q hq.1 hq.2
      have hl := lG_linkd (X := X) (Y := Y) (most := 4000) h.edR m.toNat (by omega) q hq.1 (by omega) (by
        unfold okE
        exact decide_eq_true (mht_bd hP (x := A q) (y := B q) (by omega) (by omega)).2)
      have e1 : A q = i := congrArg Prod.fst eq
      have e2 : B q = k := congrArg Prod.snd eq
      rw [e1, e2] at hl
      exact (a i k (by omega) (by omega)).1 hl
    have h3 := cnt_one (n := n) (by omega) hall
    have h4 := spG_cnt X Y (n := n) (by omega) (len' (fl (kq X Y A B) m)).toNat
    have e2 : stN n = n - 1 := by unfold stN; rw [if_neg (by omega)]
    have e3 : len' (fl (kq X Y A B) m) = n - 1 := by omega
    rw [e2]
    exact ⟨e3, fun u h0 h2 => c u h0 (by omega)⟩
end
/-- All pairs, in order, stand lexicographic. -/
theorem prs_lex {n : Int} (hn : 0 ≤ n) : lexS (zp (sA (prsL n n (n + 1))) (sB (prsL n n (n + 1)))) 0 (lenP (prsL n n (n + 1))) := by
  have key : ∀ l : List (Int × Int), l.Pairwise lexP → lexS (zp (sA l) (sB l)) 0 (lenP l) := by
    intro l hl i j h0 hij hj
    unfold lenP at hj
    have := List.pairwise_iff_getElem.1 hl i.toNat j.toNat (by omega) (by omega) (by omega)
    unfold zp sA sB
    rw [List.getD_eq_getElem?_getD, List.getD_eq_getElem?_getD, List.getElem?_eq_getElem (by omega), List.getElem?_eq_getElem (by omega)]
    exact this
  refine key _ ?_
  unfold prsL
  rw [show (n + 1 - n - 1).toNat = 0 by omega]
  simp only [List.range_zero, List.map_nil, List.append_nil]
  have hr : ∀ k : Nat, (List.range k).Pairwise (· < ·) := fun k => List.pairwise_lt_range
  rw [List.pairwise_flatMap]
  refine ⟨fun a _ => ?_, ?_⟩
  · rw [List.pairwise_map]
    exact (hr _).imp fun {x y} hxy => .inr ⟨rfl, by show (a : Int) + 1 + (x : Int) < (a : Int) + 1 + (y : Int); omega⟩
  · refine (hr _).imp fun {x y} hxy => ?_
    intro p hp q hq
    obtain ⟨i, _, rfl⟩ := List.mem_map.1 hp
    obtain ⟨k, _, rfl⟩ := List.mem_map.1 hq
    unfold lexP
    simp only
    omega
theorem prs_srt {X Y A B : Int → Int} {n : Int} (hn : 0 ≤ n) (h : mrgP X Y (sA (prsL n n (n + 1))) (sB (prsL n n (n + 1))) A B 0 (lenP (prsL n n (n + 1)))) : Srt X Y A B n (lenP (prsL n n (n + 1))) where
  so := h.2
  in_ i h0 h1 := by
    obtain ⟨j, hj, e⟩ := h.1.fwd i h0 h1
    have hm := (prsL_mem hn).1 (s_mem hj.1 hj.2)
    have e1 : A i = sA (prsL n n (n + 1)) j := congrArg Prod.fst e
    have e2 : B i = sB (prsL n n (n + 1)) j := congrArg Prod.snd e
    omega
  on x y h0 h1 h2 := by
    obtain ⟨j, j0, j1, ja, jb⟩ := s_idx ((prsL_mem (x := x) (y := y) hn).2 ⟨h0, h1, h2⟩)
    obtain ⟨i, hi, e⟩ := h.1.bwd j j0 j1
    refine ⟨i, hi, e.trans ?_⟩
    show (sA _ j, sB _ j) = _
    rw [ja, jb]
theorem prs_cnt {n : Int} (hn : 0 ≤ n) (h20 : n ≤ 20) : lenP (prsL n n (n + 1)) ≤ 320 := by
  have := List.Nodup.length_le_of_subset (l₁ := prsL n n (n + 1)) (l₂ := prsL 20 20 21) ?_ ?_
  · have e : (prsL 20 20 21).length = 190 := by decide +kernel
    unfold lenP
    omega
  · have hl := prs_lex hn
    rw [List.nodup_iff_pairwise_ne, List.pairwise_iff_getElem]
    intro i j hi hj hij e
    have := hl i j (by omega) (by omega) (by unfold lenP; omega)
    unfold zp sA sB at this
    rw [List.getD_eq_getElem?_getD, List.getD_eq_getElem?_getD, Int.toNat_natCast, Int.toNat_natCast, List.getElem?_eq_getElem hi, List.getElem?_eq_getElem hj, e] at this
    exact lexP_irr _ this
  · rintro ⟨x, y⟩ hxy
    have := (prsL_mem hn).1 hxy
    exact (prsL_mem (n := 20) (by decide)).2 ⟨this.1, this.2.1, by omega⟩

end Go.Proofs.Ytcfkpdjbjfnnmaa
