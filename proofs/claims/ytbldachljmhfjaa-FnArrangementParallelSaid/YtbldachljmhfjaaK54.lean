/- Arrangement: the reference. -/
import Derived.Test.YtbldachljmhfjaaK52
import Derived.Test.YtbldachljmhfjaaK53
set_option linter.unusedSimpArgs false
set_option linter.unusedVariables false
set_option maxRecDepth 100000
namespace Go.Proofs.Ytbldachljmhfjaa
open Go.Sym
abbrev R4 := Int × Int × Int × Int
structure RLs where
  n : Int
  a : Int → Int
  b : Int → Int
  c : Int → Int
  d : Int → Int
def addR (s : RLs) (p : R4) : RLs :=
  ⟨insN (cdf s.a s.b) (cdf s.c s.d) s.n (cd p.1 p.2.1) (cd p.2.2.1 p.2.2.2),
   fun i => insF (insD (cdf s.a s.b) (cdf s.c s.d) s.n (cd p.1 p.2.1) (cd p.2.2.1 p.2.2.2)) (ipos (cdf s.a s.b) (cdf s.c s.d) s.n (cd p.1 p.2.1) (cd p.2.2.1 p.2.2.2)) s.a p.1 i,
   fun i => insF (insD (cdf s.a s.b) (cdf s.c s.d) s.n (cd p.1 p.2.1) (cd p.2.2.1 p.2.2.2)) (ipos (cdf s.a s.b) (cdf s.c s.d) s.n (cd p.1 p.2.1) (cd p.2.2.1 p.2.2.2)) s.b p.2.1 i,
   fun i => insF (insD (cdf s.a s.b) (cdf s.c s.d) s.n (cd p.1 p.2.1) (cd p.2.2.1 p.2.2.2)) (ipos (cdf s.a s.b) (cdf s.c s.d) s.n (cd p.1 p.2.1) (cd p.2.2.1 p.2.2.2)) s.c p.2.2.1 i,
   fun i => insF (insD (cdf s.a s.b) (cdf s.c s.d) s.n (cd p.1 p.2.1) (cd p.2.2.1 p.2.2.2)) (ipos (cdf s.a s.b) (cdf s.c s.d) s.n (cd p.1 p.2.1) (cd p.2.2.1 p.2.2.2)) s.d p.2.2.2 i⟩
def stR (L : List R4) : RLs := L.foldl addR ⟨0, fun _ => 0, fun _ => 0, fun _ => 0, fun _ => 0⟩
theorem stR_snoc (L : List R4) (p : R4) : stR (L ++ [p]) = addR (stR L) p := by unfold stR; rw [List.foldl_append]; rfl
def yN (X Y : Int → Int) (i k : Int) : Int := redN (X i * xN X Y i k - Y i * xD X Y i k) (xD X Y i k)
def yD (X Y : Int → Int) (i k : Int) : Int := redD (X i * xN X Y i k - Y i * xD X Y i k) (xD X Y i k)
def ptR (X Y : Int → Int) (i k : Int) : R4 := (xN X Y i k, xD X Y i k, yN X Y i k, yD X Y i k)
def rowL (X Y : Int → Int) (n i : Int) (m : Nat) : List R4 := ((crL X Y i n.toNat).take m).map (ptR X Y i)
def allL (X Y : Int → Int) (n : Int) : Nat → List R4
  | 0 => []
  | i + 1 => allL X Y n i ++ rowL X Y n i (crL X Y i n.toNat).length
/-- The points put in when m of row i are done. -/
def arL (X Y : Int → Int) (n i m : Int) : List R4 := allL X Y n i.toNat ++ rowL X Y n i m.toNat
def rN (X Y : Int → Int) (n i m : Int) : Int := (stR (arL X Y n i m)).n
def rA (X Y : Int → Int) (n i m j : Int) : Int := (stR (arL X Y n i m)).a j
def rB (X Y : Int → Int) (n i m j : Int) : Int := (stR (arL X Y n i m)).b j
def rC (X Y : Int → Int) (n i m j : Int) : Int := (stR (arL X Y n i m)).c j
def rD (X Y : Int → Int) (n i m j : Int) : Int := (stR (arL X Y n i m)).d j
theorem arL_next {X Y : Int → Int} {n i m : Int} (h0 : 0 ≤ m) (h1 : m < len' (crL X Y i n.toNat)) : arL X Y n i (m + 1) = arL X Y n i m ++ [ptR X Y i (selL (crL X Y i n.toNat) m)] := by
  unfold arL rowL
  unfold len' at h1
  rw [show (m + 1).toNat = m.toNat + 1 by omega, List.take_add_one, List.getElem?_eq_getElem (by omega), List.map_append, List.append_assoc]
  have e : selL (crL X Y i n.toNat) m = (crL X Y i n.toNat)[m.toNat]'(by omega) := by
    unfold selL
    rw [List.getD_eq_getElem?_getD, List.getElem?_eq_getElem (by omega)]
    rfl
  rw [e]
  rfl
theorem arL_row {X Y : Int → Int} {n i m : Int} (h : 0 ≤ i) (h0 : len' (crL X Y i n.toNat) ≤ m) (h1 : m ≤ len' (crL X Y i n.toNat)) : arL X Y n (i + 1) 0 = arL X Y n i m := by
  unfold len' at h0 h1
  unfold arL
  rw [show (i + 1).toNat = i.toNat + 1 by omega, allL, show ((i.toNat : Nat) : Int) = i by omega, show m.toNat = (crL X Y i n.toNat).length by omega]
  show _ ++ rowL X Y n (i + 1) 0 = _
  unfold rowL
  simp
theorem arL_0 (X Y : Int → Int) (n : Int) : arL X Y n 0 0 = [] := by
  unfold arL rowL
  simp [allL]
theorem r_next {X Y : Int → Int} {n i m : Int} (h0 : 0 ≤ m) (h1 : m < len' (crL X Y i n.toNat)) : stR (arL X Y n i (m + 1)) = addR (stR (arL X Y n i m)) (ptR X Y i (selL (crL X Y i n.toNat) m)) := by
  rw [arL_next h0 h1, stR_snoc]
theorem rN_next {X Y : Int → Int} {n i m : Int} (h0 : 0 ≤ m) (h1 : m < len' (crL X Y i n.toNat)) : insN (cdf (rA X Y n i m) (rB X Y n i m)) (cdf (rC X Y n i m) (rD X Y n i m)) (rN X Y n i m) (cd (xN X Y i (selL (crL X Y i n.toNat) m)) (xD X Y i (selL (crL X Y i n.toNat) m))) (cd (yN X Y i (selL (crL X Y i n.toNat) m)) (yD X Y i (selL (crL X Y i n.toNat) m))) = rN X Y n i (m + 1) := by
  unfold rN
  rw [r_next h0 h1]
  rfl
theorem rX_next {X Y : Int → Int} {n i m : Int} (h0 : 0 ≤ m) (h1 : m < len' (crL X Y i n.toNat)) (j : Int) :
    (rA X Y n i (m + 1) j = (addR (stR (arL X Y n i m)) (ptR X Y i (selL (crL X Y i n.toNat) m))).a j ∧ rB X Y n i (m + 1) j = (addR (stR (arL X Y n i m)) (ptR X Y i (selL (crL X Y i n.toNat) m))).b j) ∧
    rC X Y n i (m + 1) j = (addR (stR (arL X Y n i m)) (ptR X Y i (selL (crL X Y i n.toNat) m))).c j ∧ rD X Y n i (m + 1) j = (addR (stR (arL X Y n i m)) (ptR X Y i (selL (crL X Y i n.toNat) m))).d j := by
  unfold rA rB rC rD
  rw [r_next h0 h1]
  exact ⟨⟨rfl, rfl⟩, rfl, rfl⟩
def red4 (p : R4) : Prop := redP p.1 p.2.1 p.2.2.1 p.2.2.2
theorem insF_all {P : Int → Prop} {D : Bool} {k n v i : Int} {A : Int → Int} (hA : ∀ i, 0 ≤ i → i < n → P (A i)) (hv : P v) (hk : 0 ≤ k) (hkn : k ≤ n) (h0 : 0 ≤ i) (h1 : i < if D = true then n else n + 1) : P (insF D k A v i) := by
  unfold insF
  cases D
  · simp only [Bool.false_eq_true, if_false] at h1 ⊢
    by_cases e : i < k
    · rw [if_pos e]; exact hA i h0 (by omega)
    · rw [if_neg e]
      by_cases e2 : i = k
      · rw [if_pos e2]; exact hv
      · rw [if_neg e2]; exact hA _ (by omega) (by omega)
  · simp only [if_true] at h1 ⊢
    exact hA i h0 h1
theorem insF_cases (D : Bool) (k n i : Int) (hk : 0 ≤ k) (hkn : k ≤ n) (h0 : 0 ≤ i) (h1 : i < if D = true then n else n + 1) : (∀ (A : Int → Int) v, insF D k A v i = v) ∨ ∃ j, (0 ≤ j ∧ j < n) ∧ ∀ (A : Int → Int) v, insF D k A v i = A j := by
  unfold insF
  cases D
  · simp only [Bool.false_eq_true, if_false] at h1 ⊢
    by_cases e : i < k
    · exact .inr ⟨i, ⟨h0, by omega⟩, fun A v => if_pos e⟩
    · by_cases e2 : i = k
      · exact .inl fun A v => by rw [if_neg e, if_pos e2]
      · exact .inr ⟨i - 1, ⟨by omega, by omega⟩, fun A v => by rw [if_neg e, if_neg e2]⟩
  · simp only [if_true] at h1 ⊢
    exact .inr ⟨i, ⟨h0, h1⟩, fun A v => rfl⟩
theorem addR_ok {s : RLs} {p : R4} (hn : 0 ≤ s.n) (h : redR s.a s.b s.c s.d s.n) (hp : red4 p) : redR (addR s p).a (addR s p).b (addR s p).c (addR s p).d (addR s p).n ∧ 0 ≤ (addR s p).n ∧ (addR s p).n ≤ s.n + 1 := by
  obtain ⟨k0, k1, _, _⟩ := ipos_spec (cdf s.a s.b) (cdf s.c s.d) (cd p.1 p.2.1) (cd p.2.2.1 p.2.2.2) hn
  refine ⟨fun i h0 h1 => ?_, ?_, ?_⟩
  · have h1 : i < if insD (cdf s.a s.b) (cdf s.c s.d) s.n (cd p.1 p.2.1) (cd p.2.2.1 p.2.2.2) = true then s.n else s.n + 1 := h1
    rcases insF_cases _ _ _ _ k0 k1 h0 h1 with e | ⟨j, hj, e⟩
    · simp only [addR, e]
      exact hp
    · simp only [addR, e]
      exact h j hj.1 hj.2
  · show 0 ≤ insN _ _ _ _ _
    unfold insN
    split <;> omega
  · show insN _ _ _ _ _ ≤ _
    unfold insN
    split <;> omega
theorem fold_ok : ∀ (L : List R4) (s : RLs), 0 ≤ s.n → redR s.a s.b s.c s.d s.n → (∀ p ∈ L, red4 p) → redR (L.foldl addR s).a (L.foldl addR s).b (L.foldl addR s).c (L.foldl addR s).d (L.foldl addR s).n ∧ 0 ≤ (L.foldl addR s).n ∧ (L.foldl addR s).n ≤ s.n + L.length
  | [], s, hn, h, _ => ⟨h, hn, by simp⟩
  | p :: L, s, hn, h, hp => by
    obtain ⟨a, b, c⟩ := addR_ok hn h (hp p (by simp))
    obtain ⟨d, e, f⟩ := fold_ok L (addR s p) b a (fun q hq => hp q (by simp [hq]))
    rw [List.foldl_cons]
    refine ⟨d, e, ?_⟩
    rw [List.length_cons]
    omega
theorem stR_ok {L : List R4} (h : ∀ p ∈ L, red4 p) : redR (stR L).a (stR L).b (stR L).c (stR L).d (stR L).n ∧ 0 ≤ (stR L).n ∧ (stR L).n ≤ L.length := by
  have := fold_ok L ⟨0, fun _ => 0, fun _ => 0, fun _ => 0, fun _ => 0⟩ (Int.le_refl _) (fun i h0 h1 => by have h1 : i < 0 := h1; omega) h
  refine ⟨this.1, this.2.1, ?_⟩
  have h3 := this.2.2
  unfold stR
  simp only at h3
  omega
theorem crL_mem {X Y : Int → Int} {i : Int} : ∀ k : Nat, ∀ a ∈ crL X Y i k, (0 ≤ a ∧ a < k) ∧ X a ≠ X i
  | 0 => fun a ha => by simp [crL] at ha
  | k + 1 => fun a ha => by
    have ih := crL_mem (X := X) (Y := Y) (i := i) k
    rw [crL] at ha
    split at ha
    · have := ih a ha; exact ⟨⟨this.1.1, by omega⟩, this.2⟩
    · split at ha
      · have := ih a ha; exact ⟨⟨this.1.1, by omega⟩, this.2⟩
      · rcases List.mem_append.1 ha with ha | ha
        · have := ih a ha; exact ⟨⟨this.1.1, by omega⟩, this.2⟩
        · have e : a = k := by simpa using ha
          subst e
          exact ⟨⟨by omega, by omega⟩, by assumption⟩
theorem red_any {a b : Int} (hb : b ≠ 0) : gcdI (redN a b) (redD a b) = 1 := by
  by_cases h : b < 0
  · rw [(red_neg h).1, (red_neg h).2]; exact red_cop _ _ (by omega)
  · exact red_cop _ _ (by omega)
def okL (X Y : Int → Int) (n : Int) : Prop := ∀ i, 0 ≤ i → i < n → (-1000 ≤ X i ∧ X i ≤ 1000) ∧ -1000 ≤ Y i ∧ Y i ≤ 1000
theorem pt_red {X Y : Int → Int} {n i k : Int} (h : okL X Y n) (hi : 0 ≤ i ∧ i < n) (hk : 0 ≤ k ∧ k < n) (hx : X k ≠ X i) : red4 (ptR X Y i k) ∧ (-5000000 ≤ yN X Y i k ∧ yN X Y i k ≤ 5000000) ∧
    ((-2000000 ≤ X i * xN X Y i k ∧ X i * xN X Y i k ≤ 2000000) ∧ -2000000 ≤ Y i * xD X Y i k ∧ Y i * xD X Y i k ≤ 2000000) := by
  have a := h i hi.1 hi.2
  have b := h k hk.1 hk.2
  have hb := x_bd hx a.1 a.2 b.1 b.2
  have m1 := mul_bd (X i) (xN X Y i k) 1000 2000 (by omega) (by omega) (by omega) (by omega)
  have m2 := mul_bd (Y i) (xD X Y i k) 1000 2000 (by omega) (by omega) (by omega) (by omega)
  have hy := red_bd (X i * xN X Y i k - Y i * xD X Y i k) (xD X Y i k) 4000000 2000 (by omega) (by omega) (by omega) (by omega) (by omega)
  refine ⟨⟨⟨red_any (by omega), red_any (by omega)⟩, hb.2, hy.2⟩, ?_, ⟨by omega, by omega⟩, by omega, by omega⟩
  show -5000000 ≤ redN _ _ ∧ redN _ _ ≤ 5000000
  omega
theorem rowL_red {X Y : Int → Int} {n i : Int} {m : Nat} (h : okL X Y n) (hi : 0 ≤ i ∧ i < n) : ∀ p ∈ rowL X Y n i m, red4 p := by
  intro p hp
  unfold rowL at hp
  obtain ⟨k, hk, rfl⟩ := List.mem_map.1 hp
  have := crL_mem n.toNat k (List.mem_of_mem_take hk)
  exact (pt_red h hi ⟨this.1.1, by omega⟩ this.2).1
theorem rowL_len {X Y : Int → Int} {n i : Int} {m : Nat} (hn : 0 ≤ n) : ((rowL X Y n i m).length : Int) ≤ n := by
  have := (crL_len X Y i n.toNat).2
  unfold len' at this
  unfold rowL
  rw [List.length_map, List.length_take]
  omega
theorem allL_ok {X Y : Int → Int} {n : Int} (h : okL X Y n) (hn : 0 ≤ n) : ∀ i : Nat, (i : Int) ≤ n → (∀ p ∈ allL X Y n i, red4 p) ∧ ((allL X Y n i).length : Int) ≤ n * i
  | 0, _ => ⟨fun p hp => by simp [allL] at hp, by simp [allL]⟩
  | i + 1, hi => by
    obtain ⟨a, b⟩ := allL_ok h hn i (by omega)
    rw [allL]
    refine ⟨fun p hp => ?_, ?_⟩
    · rcases List.mem_append.1 hp with hp | hp
      · exact a p hp
      · exact rowL_red h ⟨by omega, by omega⟩ p hp
    · have := rowL_len (X := X) (Y := Y) (i := i) (m := (crL X Y i n.toNat).length) hn
      rw [List.length_append, show ((i + 1 : Nat) : Int) = (i : Int) + 1 by omega, Int.mul_add]
      omega
theorem ar_ok {X Y : Int → Int} {n i m : Int} (h : okL X Y n) (hn : 0 ≤ n ∧ n ≤ 8) (hi : 0 ≤ i ∧ i < n ∨ (i = n ∧ m = 0)) : redR (rA X Y n i m) (rB X Y n i m) (rC X Y n i m) (rD X Y n i m) (rN X Y n i m) ∧ 0 ≤ rN X Y n i m ∧ rN X Y n i m ≤ 64 := by
  have hA := allL_ok h hn.1 i.toNat (by omega)
  have hred : ∀ p ∈ arL X Y n i m, red4 p := by
    intro p hp
    rcases List.mem_append.1 hp with hp | hp
    · exact hA.1 p hp
    · rcases hi with hi | hi
      · exact rowL_red h hi p hp
      · rw [hi.2] at hp
        simp [rowL] at hp
  obtain ⟨a, b, c⟩ := stR_ok hred
  refine ⟨a, b, ?_⟩
  have hl : ((arL X Y n i m).length : Int) ≤ 64 := by
    unfold arL
    rw [List.length_append]
    have h1 := hA.2
    rw [show ((i.toNat : Nat) : Int) = i by omega] at h1
    rcases hi with hi | hi
    · have h2 := rowL_len (X := X) (Y := Y) (i := i) (m := m.toNat) hn.1
      have h3 : n * i ≤ 8 * 7 := Int.mul_le_mul hn.2 (by omega) hi.1 (by omega)
      omega
    · have h3 : n * i ≤ 8 * 8 := Int.mul_le_mul hn.2 (by omega) (by omega) (by omega)
      have h2 : (rowL X Y n i m.toNat).length = 0 := by rw [hi.2]; simp [rowL]
      omega
  exact Int.le_trans c hl
/-- What the reference answers. -/
def edF (X Y : Int → Int) (n i : Int) : Int := len' (crL X Y i n.toNat) + 1
def saV (X Y : Int → Int) (n : Int) : Int := if gok X Y n = true then rN X Y n n 0 else -1
def saE (X Y : Int → Int) (n : Int) : Int := if gok X Y n = true then smf (edF X Y n) n.toNat else -1
def saF (X Y : Int → Int) (n : Int) : Int := if gok X Y n = true then smf (edF X Y n) n.toNat - rN X Y n n 0 + 1 else -1
theorem ed_bd {X Y : Int → Int} {n j : Int} (hn : 0 ≤ n ∧ n ≤ 8) (h0 : 0 ≤ j) (h1 : j ≤ n) : 0 ≤ smf (edF X Y n) j.toNat ∧ smf (edF X Y n) j.toNat ≤ 9 * j := by
  have := smf_bd (f := edF X Y n) (c := 9) j.toNat (fun t a b => by
    have := crL_len X Y t n.toNat
    unfold edF; omega)
  omega
theorem sa_y {X Y : Int → Int} {n : Int} (h : gok X Y n = true) : saV X Y n = rN X Y n n 0 ∧ saE X Y n = smf (edF X Y n) n.toNat ∧ saF X Y n = smf (edF X Y n) n.toNat - rN X Y n n 0 + 1 := by
  unfold saV saE saF
  rw [if_pos h, if_pos h, if_pos h]
  exact ⟨rfl, rfl, rfl⟩
theorem sa_n {X Y : Int → Int} {n : Int} (h : gok X Y n = false) : saV X Y n = -1 ∧ saE X Y n = -1 ∧ saF X Y n = -1 := by
  unfold saV saE saF
  rw [if_neg (by rw [h]; decide), if_neg (by rw [h]; decide), if_neg (by rw [h]; decide)]
  exact ⟨rfl, rfl, rfl⟩
theorem gok_ok {X Y : Int → Int} {n : Int} (h : gok X Y n = true) : okL X Y n ∧ n ≤ 8 := by
  obtain ⟨a, b⟩ := gok_iff.1 h
  refine ⟨fun i h0 h1 => ?_, b⟩
  have := okP_iff.1 (a i h0 h1).1
  omega
theorem selL_mem' {l : List Int} {i : Int} (h0 : 0 ≤ i) (h1 : i < len' l) : selL l i ∈ l := by
  unfold selL len' at *
  rw [List.getD_eq_getElem?_getD, List.getElem?_eq_getElem (by omega)]
  exact List.getElem_mem _
theorem sel_ok {X Y : Int → Int} {n i m : Int} (h0 : 0 ≤ m) (h1 : m < len' (crL X Y i n.toNat)) (hn : 0 ≤ n) : (0 ≤ selL (crL X Y i n.toNat) m ∧ selL (crL X Y i n.toNat) m < n) ∧ X (selL (crL X Y i n.toNat) m) ≠ X i := by
  have := crL_mem n.toNat _ (selL_mem' h0 h1)
  exact ⟨⟨this.1.1, by omega⟩, this.2⟩
end Go.Proofs.Ytbldachljmhfjaa
