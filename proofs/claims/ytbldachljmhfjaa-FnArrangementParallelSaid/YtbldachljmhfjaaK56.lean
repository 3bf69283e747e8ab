/- Arrangement: the program counts what the reference counts. -/
import Derived.Test.YtbldachljmhfjaaK55
import Derived.Test.YtbldachljmhfjaaAz
import Derived.Test.YtbldachljmhfjaaPu
set_option linter.unusedSimpArgs false
set_option linter.unusedVariables false
set_option maxRecDepth 100000
namespace Go.Proofs.Ytbldachljmhfjaa
open Go.Sym
open Go.RowKit Go.Maps Go.WideMaps
theorem snocInd {α : Type} {P : List α → Prop} (h0 : P []) (h1 : ∀ L x, P L → P (L ++ [x])) (L : List α) : P L := by
  have h : ∀ M : List α, P M.reverse := by
    intro M
    induction M with
    | nil => exact h0
    | cons x M ih => rw [List.reverse_cons]; exact h1 _ _ ih
  have := h L.reverse
  rwa [List.reverse_reverse] at this
/-- How many different ones there are. -/
def dadd (A : List R4) (x : R4) : List R4 := if x ∈ A then A else A ++ [x]
def dL (L : List R4) : List R4 := L.foldl dadd []
def dcnt (L : List R4) : Int := ((dL L).length : Int)
theorem dL_snoc (L : List R4) (x : R4) : dL (L ++ [x]) = dadd (dL L) x := by unfold dL; rw [List.foldl_append]; rfl
theorem dL_mem (x : R4) (L : List R4) : x ∈ dL L ↔ x ∈ L := by
  refine snocInd (P := fun L => x ∈ dL L ↔ x ∈ L) (by simp [dL]) (fun L y ih => ?_) L
  have hy : ∀ M : List R4, x ∈ M ++ [y] ↔ x ∈ M ∨ x = y := fun M => by simp
  rw [dL_snoc, hy]
  unfold dadd
  split
  · rename_i h
    rw [ih]
    constructor
    · exact .inl
    · rintro (h2 | h2)
      · exact h2
      · subst h2; exact ih.1 h
  · rw [hy, ih]
theorem dL_nodup (L : List R4) : (dL L).Nodup := by
  refine snocInd (P := fun L => (dL L).Nodup) (by simp [dL]) (fun L y ih => ?_) L
  rw [dL_snoc]
  unfold dadd
  split
  · exact ih
  · rename_i h
    rw [List.nodup_append]
    refine ⟨ih, by simp, fun a ha b hb e => ?_⟩
    have hb : b = y := by simpa using hb
    subst e hb
    exact h ha
theorem nl_le {L M : List R4} (hL : L.Nodup) (h : ∀ x ∈ L, x ∈ M) : (L.length : Int) ≤ M.length := by
  have := List.Nodup.length_le_of_subset hL (fun x hx => h x hx)
  omega
theorem dcnt_le {L M : List R4} (h : ∀ x ∈ L, x ∈ M) : dcnt L ≤ dcnt M := nl_le (dL_nodup L) (fun x hx => (dL_mem x M).2 (h x ((dL_mem x L).1 hx)))
theorem dcnt_eq {L M : List R4} (h : ∀ x, x ∈ L ↔ x ∈ M) : dcnt L = dcnt M := Int.le_antisymm (dcnt_le fun x => (h x).1) (dcnt_le fun x => (h x).2)
theorem dcnt_len (L : List R4) : dcnt L ≤ L.length := nl_le (dL_nodup L) (fun x hx => (dL_mem x L).1 hx)
theorem dcnt_nodup {L : List R4} (h : L.Nodup) : dcnt L = L.length := Int.le_antisymm (dcnt_len L) (nl_le h fun x hx => (dL_mem x L).2 hx)
theorem dcnt_pos (L : List R4) : 0 ≤ dcnt L := Int.natCast_nonneg _
theorem dcnt_snoc (L : List R4) (x : R4) : dcnt (L ++ [x]) = if x ∈ L then dcnt L else dcnt L + 1 := by
  unfold dcnt
  rw [dL_snoc]
  unfold dadd
  by_cases h : x ∈ L
  · rw [if_pos h, if_pos ((dL_mem x L).2 h)]
  · rw [if_neg h, if_neg (fun e => h ((dL_mem x L).1 e)), List.length_append]
    simp
theorem dcnt_append (L M : List R4) : dcnt (L ++ M) ≤ dcnt L + dcnt M := by
  have := nl_le (L := dL (L ++ M)) (M := dL L ++ dL M) (dL_nodup _) (fun x hx => by
    rw [dL_mem] at hx
    rw [List.mem_append, dL_mem, dL_mem]
    exact List.mem_append.1 hx)
  rw [List.length_append] at this
  unfold dcnt
  omega
/-! ### the reference's count -/
theorem cdf_ins (D : Bool) (k : Int) (A B : Int → Int) (v w : Int) : cdf (insF D k A v) (insF D k B w) = insF D k (cdf A B) (cd v w) := by
  funext i
  unfold cdf insF
  cases D
  · simp only [Bool.false_eq_true, if_false]
    split
    · rfl
    · split <;> rfl
  · rfl
def cX (p : R4) : Int := cd p.1 p.2.1
def cY (p : R4) : Int := cd p.2.2.1 p.2.2.2
theorem c_inj {p q : R4} (hp : red4 p) (hq : red4 q) : (cX p = cX q ∧ cY p = cY q) ↔ p = q := by
  obtain ⟨⟨a, b⟩, c, d⟩ := hp
  obtain ⟨⟨a', b'⟩, c', d'⟩ := hq
  unfold cX cY
  rw [cd_eq c c' a a', cd_eq d d' b b']
  obtain ⟨p1, p2, p3, p4⟩ := p
  obtain ⟨q1, q2, q3, q4⟩ := q
  simp only [Prod.mk.injEq, and_assoc]
theorem stR_cnt (L : List R4) : (∀ p ∈ L, red4 p) → ((stR L).n = dcnt L ∧ 0 ≤ (stR L).n) ∧ srtP (cdf (stR L).a (stR L).b) (cdf (stR L).c (stR L).d) (stR L).n ∧ ∀ qx qy, memP (cdf (stR L).a (stR L).b) (cdf (stR L).c (stR L).d) (stR L).n qx qy ↔ ∃ p ∈ L, cX p = qx ∧ cY p = qy := by
  refine snocInd (P := fun L => (∀ p ∈ L, red4 p) → ((stR L).n = dcnt L ∧ 0 ≤ (stR L).n) ∧ srtP (cdf (stR L).a (stR L).b) (cdf (stR L).c (stR L).d) (stR L).n ∧ ∀ qx qy, memP (cdf (stR L).a (stR L).b) (cdf (stR L).c (stR L).d) (stR L).n qx qy ↔ ∃ p ∈ L, cX p = qx ∧ cY p = qy) ?_ ?_ L
  · intro _
    refine ⟨⟨rfl, Int.le_refl _⟩, fun i j h1 h2 h3 => ?_, fun qx qy => ⟨?_, ?_⟩⟩
    · have h3 : j < 0 := h3
      omega
    · rintro ⟨i, ⟨h1, h2⟩, _⟩
      have h2 : i < 0 := h2
      omega
    · rintro ⟨p, hp, _⟩
      simp at hp
  · intro L p ih h
    obtain ⟨⟨i1, i0⟩, i2, i3⟩ := ih (fun q hq => h q (by simp [hq]))
    have hp := h p (by simp)
    rw [stR_snoc]
    generalize hs : stR L = s at *
    obtain ⟨g1, g2⟩ := ins_ok (cX p) (cY p) i0 i2
    have ea : cdf (addR s p).a (addR s p).b = insX (cdf s.a s.b) (cdf s.c s.d) s.n (cX p) (cY p) := cdf_ins _ _ _ _ _ _
    have ec : cdf (addR s p).c (addR s p).d = insY (cdf s.a s.b) (cdf s.c s.d) s.n (cX p) (cY p) := cdf_ins _ _ _ _ _ _
    have en : (addR s p).n = insN (cdf s.a s.b) (cdf s.c s.d) s.n (cX p) (cY p) := rfl
    have hd := insD_iff (cX p) (cY p) i0 i2
    have hm : insD (cdf s.a s.b) (cdf s.c s.d) s.n (cX p) (cY p) = true ↔ p ∈ L := by
      rw [hd, i3]
      constructor
      · rintro ⟨q, hq, e⟩
        have := (c_inj (h q (by simp [hq])) hp).1 e
        rw [← this]; exact hq
      · exact fun hq => ⟨p, hq, rfl, rfl⟩
    rw [ea, ec, en]
    refine ⟨⟨?_, ?_⟩, g1, fun qx qy => ?_⟩
    · rw [dcnt_snoc, ← i1]
      unfold insN
      by_cases hh : p ∈ L
      · rw [if_pos hh, if_pos (hm.2 hh)]
      · rw [if_neg hh, if_neg (fun e => hh (hm.1 e))]
    · unfold insN; split <;> omega
    · rw [g2, i3]
      constructor
      · rintro (⟨q, hq, e⟩ | ⟨rfl, rfl⟩)
        · exact ⟨q, by simp [hq], e⟩
        · exact ⟨p, by simp, rfl, rfl⟩
      · rintro ⟨q, hq, e⟩
        rcases List.mem_append.1 hq with hq | hq
        · exact .inl ⟨q, hq, e⟩
        · have e2 : q = p := by simpa using hq
          subst e2
          exact .inr ⟨e.1.symm, e.2.symm⟩
/-! ### the rows -/
def crow (X Y : Int → Int) (n i : Int) : List R4 := (crL X Y i n.toNat).map (ptR X Y i)
theorem crow_len (X Y : Int → Int) (n i : Int) : ((crow X Y n i).length : Int) = len' (crL X Y i n.toNat) := by
  unfold crow len'; rw [List.length_map]
theorem crL_has {X Y : Int → Int} {i : Int} : ∀ m : Nat, ∀ k : Int, 0 ≤ k → k < m → X k ≠ X i → ∃ a ∈ crL X Y i m, xN X Y i a = xN X Y i k ∧ xD X Y i a = xD X Y i k
  | 0, k, h0, h1, _ => by omega
  | m + 1, k, h0, h1, hx => by
    have ih := crL_has (X := X) (Y := Y) (i := i) m
    rw [crL]
    by_cases e : k = m
    · subst e
      rw [if_neg hx]
      split
      · rename_i h
        obtain ⟨j, hj, e⟩ := isX_iff.1 h
        unfold eqX at e
        rw [Bool.and_eq_true, decide_eq_true_eq, decide_eq_true_eq] at e
        exact ⟨_, selL_mem' hj.1 hj.2, e⟩
      · exact ⟨(m : Int), by simp, rfl, rfl⟩
    · obtain ⟨a, ha, e2⟩ := ih k h0 (by omega) hx
      split
      · exact ⟨a, ha, e2⟩
      · split
        · exact ⟨a, ha, e2⟩
        · exact ⟨a, by simp [ha], e2⟩
theorem mem_selL {l : List Int} {a : Int} (h : a ∈ l) : ∃ j, (0 ≤ j ∧ j < len' l) ∧ selL l j = a := by
  obtain ⟨j, hj, e⟩ := List.mem_iff_getElem.1 h
  refine ⟨j, ⟨by omega, by unfold len'; omega⟩, ?_⟩
  unfold selL
  rw [List.getD_eq_getElem?_getD, Int.toNat_natCast, List.getElem?_eq_getElem hj, e]
  rfl
theorem crow_nodup (X Y : Int → Int) (n i : Int) : (crow X Y n i).Nodup := by
  unfold crow
  generalize n.toNat = m
  induction m with
  | zero => simp [crL]
  | succ m ih =>
    rw [crL]
    split
    · exact ih
    · split
      · exact ih
      · rename_i h
        rw [List.map_append, List.nodup_append]
        refine ⟨ih, by simp, fun u hu v hv e => ?_⟩
        have hv : v = ptR X Y i m := by simpa using hv
        subst e hv
        obtain ⟨a, ha, e⟩ := List.mem_map.1 hu
        obtain ⟨j, hj, e3⟩ := mem_selL ha
        refine h (isX_iff.2 ⟨j, hj, ?_⟩)
        unfold eqX
        rw [e3]
        unfold ptR at e
        simp only [Prod.mk.injEq] at e
        rw [decide_eq_true e.1, decide_eq_true e.2.1]
        rfl
theorem ptR_same {X Y : Int → Int} {i a k : Int} (h : xN X Y i a = xN X Y i k ∧ xD X Y i a = xD X Y i k) : ptR X Y i a = ptR X Y i k := by
  unfold ptR yN yD
  rw [h.1, h.2]
theorem crow_mem {X Y : Int → Int} {n i : Int} (v : R4) : v ∈ crow X Y n i ↔ ∃ k, (0 ≤ k ∧ k < n) ∧ X k ≠ X i ∧ ptR X Y i k = v := by
  unfold crow
  constructor
  · intro h
    obtain ⟨a, ha, e⟩ := List.mem_map.1 h
    have := crL_mem n.toNat a ha
    exact ⟨a, ⟨this.1.1, by omega⟩, this.2, e⟩
  · rintro ⟨k, hk, hx, rfl⟩
    obtain ⟨a, ha, e⟩ := crL_has (Y := Y) n.toNat k hk.1 (by omega) hx
    exact List.mem_map.2 ⟨a, ha, ptR_same e⟩
theorem rowL_all (X Y : Int → Int) (n i : Int) : rowL X Y n i (crL X Y i n.toNat).length = crow X Y n i := by
  unfold rowL crow
  rw [List.take_length]
theorem allL_mem {X Y : Int → Int} {n : Int} (v : R4) : ∀ m : Nat, v ∈ allL X Y n m ↔ ∃ i : Int, (0 ≤ i ∧ i < m) ∧ v ∈ crow X Y n i
  | 0 => by
    rw [allL]
    constructor
    · intro h; simp at h
    · rintro ⟨i, h, _⟩; omega
  | m + 1 => by
    rw [allL, List.mem_append, allL_mem v m, rowL_all]
    constructor
    · rintro (⟨i, h, e⟩ | h)
      · exact ⟨i, ⟨h.1, by omega⟩, e⟩
      · exact ⟨m, ⟨by omega, by omega⟩, h⟩
    · rintro ⟨i, h, e⟩
      by_cases hi : i = m
      · subst hi; exact .inr e
      · exact .inl ⟨i, ⟨h.1, by omega⟩, e⟩
/-- All meeting points, each once for each graph that it is on. -/
def mpts (X Y : Int → Int) (n : Int) : List R4 := allL X Y n n.toNat
theorem mpts_mem {X Y : Int → Int} {n : Int} (v : R4) : v ∈ mpts X Y n ↔ ∃ i k, ((0 ≤ i ∧ i < n) ∧ 0 ≤ k ∧ k < n) ∧ X k ≠ X i ∧ ptR X Y i k = v := by
  unfold mpts
  rw [allL_mem]
  constructor
  · rintro ⟨i, h, e⟩
    obtain ⟨k, hk, e⟩ := (crow_mem v).1 e
    exact ⟨i, k, ⟨⟨h.1, by omega⟩, hk⟩, e⟩
  · rintro ⟨i, k, ⟨hi, hk⟩, e⟩
    exact ⟨i, ⟨hi.1, by omega⟩, (crow_mem v).2 ⟨k, hk, e⟩⟩
theorem arL_all (X Y : Int → Int) (n : Int) : arL X Y n n 0 = mpts X Y n := by
  unfold arL mpts rowL
  simp
theorem mpts_red {X Y : Int → Int} {n : Int} (h : okL X Y n) : ∀ p ∈ mpts X Y n, red4 p := by
  intro p hp
  obtain ⟨i, k, ⟨hi, hk⟩, hx, rfl⟩ := (mpts_mem p).1 hp
  exact (pt_red h hi hk hx).1
theorem rN_cnt {X Y : Int → Int} {n : Int} (h : okL X Y n) : rN X Y n n 0 = dcnt (mpts X Y n) := by
  unfold rN
  rw [arL_all]
  exact (stR_cnt _ (mpts_red h)).1.1
/-! ### the program's count -/
theorem red_flip {a b : Int} (hb : b ≠ 0) : redN a b = redN (-a) (-b) ∧ redD a b = redD (-a) (-b) := by
  by_cases h : b < 0
  · exact red_neg h
  · have := red_neg (a := -a) (b := -b) (by omega)
    rw [Int.neg_neg, Int.neg_neg] at this
    exact ⟨this.1.symm, this.2.symm⟩
noncomputable def KK (v : R4) : Lit := (keyOf Try.prog KB (.agg #[.int .i64 v.1, .int .i64 v.2.1, .int .i64 v.2.2.1, .int .i64 v.2.2.2])).getD (.bool false)
def good (v : R4) : Prop := keyOf Try.prog KB (.agg #[.int .i64 v.1, .int .i64 v.2.1, .int .i64 v.2.2.1, .int .i64 v.2.2.2]) = some (KK v)
theorem KK_inj {u v : R4} (hu : good u) (hv : good v) (h : KK u = KK v) : u = v := by
  unfold good at hu hv
  rw [← h] at hv
  have e := key_law.inj hu hv
  obtain ⟨u1, u2, u3, u4⟩ := u
  obtain ⟨v1, v2, v3, v4⟩ := v
  simpa using e
theorem cnt_dcnt (L : List R4) : (∀ v ∈ L, good v) → ((cntOf (L.map KK) : Nat) : Int) = dcnt L := by
  refine snocInd (P := fun L => (∀ v ∈ L, good v) → ((cntOf (L.map KK) : Nat) : Int) = dcnt L) (fun _ => rfl) (fun L x ih h => ?_) L
  have hk : ∀ y ∈ L.map KK, WideAt.IsKeyLit y := by
    intro y hy
    obtain ⟨v, hv, rfl⟩ := List.mem_map.1 hy
    exact key_law.key (h v (by simp [hv]))
  have hx := h x (by simp)
  have ih := ih (fun v hv => h v (by simp [hv]))
  rw [dcnt_snoc, ← ih]
  unfold cntOf
  rw [List.map_append]
  show ((Maps.size (setOf UU (L.map KK ++ [KK x])) : Nat) : Int) = _
  rw [setOf_snoc, Maps.size_put (tidy_setOf UU _ hk), has_setOf UU _ _ hk]
  have hm : ((L.map KK).any fun y => y.sameKey (KK x)) = true ↔ x ∈ L := by
    rw [List.any_eq_true]
    constructor
    · rintro ⟨y, hy, e⟩
      obtain ⟨v, hv, rfl⟩ := List.mem_map.1 hy
      have := KK_inj (h v (by simp [hv])) hx (WideAt.sameKey_eq e)
      rw [← this]; exact hv
    · exact fun hh => ⟨KK x, List.mem_map.2 ⟨x, hh, rfl⟩, WideAt.sameKey_self (key_law.key hx)⟩
  by_cases hh : x ∈ L
  · rw [if_pos hh, if_pos (hm.2 hh)]
  · rw [if_neg hh, if_neg (fun e => hh (hm.1 e))]
    omega
def val (p q : Pt) : R4 := (mxN p.1 p.2 q.1 q.2, mxD p.1 p.2 q.1 q.2, myN p.1 p.2 q.1 q.2, myD p.1 p.2 q.1 q.2)
def valsOf (p : Pt) (l : List Pt) : List R4 := (l.filter fun q => !(decide (p.1 = q.1))).map (val p)
def valsAll (l m : List Pt) : List R4 := l.flatMap fun p => valsOf p m
theorem keysOf_eq (p : Pt) (l : List Pt) : keysOf p l = (valsOf p l).map KK := by
  unfold keysOf valsOf
  rw [List.map_map]
  rfl
theorem keysAll_eq (l m : List Pt) : keysAll l m = (valsAll l m).map KK := by
  unfold keysAll valsAll
  rw [List.map_flatMap]
  congr 1
  funext p
  exact keysOf_eq p m
theorem val_pt {X Y : Int → Int} {i k : Int} (h : X k ≠ X i) : val (X i, Y i) (X k, Y k) = ptR X Y i k := by
  have h' : ¬ X i = X k := fun e => h e.symm
  have hf := red_flip (a := Y i - Y k) (b := X i - X k) (by omega)
  rw [show -(Y i - Y k) = Y k - Y i by omega, show -(X i - X k) = X k - X i by omega] at hf
  have e1 : mxN (X i) (Y i) (X k) (Y k) = xN X Y i k := by unfold mxN xN; rw [if_neg h', hf.1]
  have e2 : mxD (X i) (Y i) (X k) (Y k) = xD X Y i k := by unfold mxD xD; rw [if_neg h', hf.2]
  have e3 : myN (X i) (Y i) (X k) (Y k) = yN X Y i k := by unfold myN yN; rw [if_neg h', e1, e2]
  have e4 : myD (X i) (Y i) (X k) (Y k) = yD X Y i k := by unfold myD yD; rw [if_neg h', e1, e2]
  unfold val ptR
  simp only [e1, e2, e3, e4]
theorem gL_mem {X Y : Int → Int} {n : Int} (q : Pt) : q ∈ gL X Y n ↔ ∃ k : Int, (0 ≤ k ∧ k < n) ∧ q = (X k, Y k) := by
  unfold gL
  rw [List.mem_map]
  constructor
  · rintro ⟨j, hj, rfl⟩
    rw [List.mem_range] at hj
    exact ⟨j, ⟨by omega, by omega⟩, rfl⟩
  · rintro ⟨k, hk, rfl⟩
    exact ⟨k.toNat, List.mem_range.2 (by omega), by rw [Int.toNat_of_nonneg hk.1]⟩
theorem valsOf_mem {X Y : Int → Int} {n i : Int} (v : R4) : v ∈ valsOf (X i, Y i) (gL X Y n) ↔ v ∈ crow X Y n i := by
  rw [crow_mem]
  unfold valsOf
  rw [List.mem_map]
  constructor
  · rintro ⟨q, hq, rfl⟩
    rw [List.mem_filter, gL_mem] at hq
    obtain ⟨⟨k, hk, rfl⟩, hne⟩ := hq
    have hne : X k ≠ X i := by
      intro e
      simp [e] at hne
    exact ⟨k, hk, hne, (val_pt hne).symm⟩
  · rintro ⟨k, hk, hx, rfl⟩
    refine ⟨(X k, Y k), ?_, val_pt hx⟩
    rw [List.mem_filter, gL_mem]
    refine ⟨⟨k, hk, rfl⟩, ?_⟩
    rw [Bool.not_eq_true', decide_eq_false_iff_not]
    exact fun e => hx e.symm
theorem okG_gL {X Y : Int → Int} {n : Int} (h : okL X Y n) : ∀ q ∈ gL X Y n, okG q := by
  intro q hq
  obtain ⟨k, hk, rfl⟩ := (gL_mem q).1 hq
  exact h k hk.1 hk.2
theorem vals_good {X Y : Int → Int} {n : Int} (h : okL X Y n) {p : Pt} (hp : okG p) : ∀ v ∈ valsOf p (gL X Y n), good v := by
  intro v hv
  unfold valsOf at hv
  obtain ⟨q, hq, rfl⟩ := List.mem_map.1 hv
  exact key_ok hp (okG_gL h q (List.mem_filter.1 hq).1)
theorem row_cnt {X Y : Int → Int} {n i : Int} (h : okL X Y n) (hi : 0 ≤ i ∧ i < n) : ((cntOf (keysOf (X i, Y i) (gL X Y n)) : Nat) : Int) = len' (crL X Y i n.toNat) := by
  rw [keysOf_eq, cnt_dcnt _ (vals_good h (p := (X i, Y i)) (h i hi.1 hi.2)), ← crow_len, ← dcnt_nodup (crow_nodup X Y n i)]
  exact dcnt_eq fun v => valsOf_mem v
theorem all_cnt {X Y : Int → Int} {n : Int} (h : okL X Y n) : ((cntOf (keysAll (gL X Y n) (gL X Y n)) : Nat) : Int) = dcnt (mpts X Y n) := by
  rw [keysAll_eq, cnt_dcnt]
  · refine dcnt_eq fun v => ?_
    unfold valsAll
    rw [List.mem_flatMap, mpts_mem]
    constructor
    · rintro ⟨p, hp, hv⟩
      obtain ⟨i, hi, rfl⟩ := (gL_mem p).1 hp
      obtain ⟨k, hk, e⟩ := (crow_mem v).1 ((valsOf_mem v).1 hv)
      exact ⟨i, k, ⟨hi, hk⟩, e⟩
    · rintro ⟨i, k, ⟨hi, hk⟩, e⟩
      exact ⟨_, (gL_mem _).2 ⟨i, hi, rfl⟩, (valsOf_mem v).2 ((crow_mem v).2 ⟨k, hk, e⟩)⟩
  · intro v hv
    unfold valsAll at hv
    obtain ⟨p, hp, hv⟩ := List.mem_flatMap.1 hv
    exact vals_good h (okG_gL h p hp) v hv
theorem gL_get (X Y : Int → Int) (n : Int) {i : Nat} (h : i < n.toNat) : (gL X Y n)[i]? = some (X i, Y i) := by
  unfold gL
  rw [List.getElem?_map, List.getElem?_range h]
  rfl
theorem parts_smf {X Y : Int → Int} {n : Int} (h : okL X Y n) : ∀ i : Nat, i ≤ n.toNat → partsOf (gL X Y n) ((gL X Y n).take i) = smf (edF X Y n) i
  | 0, _ => rfl
  | i + 1, hi => by
    rw [parts_take (gL_get X Y n (by omega)), parts_smf h i (by omega), smf, row_cnt h ⟨by omega, by omega⟩]
    rfl
theorem parts_all {X Y : Int → Int} {n : Int} (h : okL X Y n) : partsOf (gL X Y n) (gL X Y n) = smf (edF X Y n) n.toNat := by
  rw [← parts_smf h n.toNat (Nat.le_refl _), List.take_of_length_le (by simp [gL])]
theorem ar_sa (X Y : Int → Int) (n : Int) : arV X Y n = saV X Y n ∧ arE X Y n = saE X Y n ∧ arF X Y n = saF X Y n := by
  unfold arV arE arF saV saE saF
  by_cases hg : gok X Y n = true
  · have h := (gok_ok hg).1
    rw [if_pos hg, if_pos hg, if_pos hg, if_pos hg, if_pos hg, if_pos hg, all_cnt h, parts_all h, rN_cnt h]
    exact ⟨rfl, rfl, rfl⟩
  · rw [if_neg hg, if_neg hg, if_neg hg, if_neg hg, if_neg hg, if_neg hg]
    exact ⟨rfl, rfl, rfl⟩

end Go.Proofs.Ytbldachljmhfjaa
