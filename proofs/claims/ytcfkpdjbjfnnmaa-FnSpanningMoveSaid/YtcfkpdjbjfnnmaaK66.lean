/- The stable sort of pairs: the merge. -/
import Derived.Test.YtcfkpdjbjfnnmaaK65
set_option linter.unusedSimpArgs false
set_option linter.unusedVariables false
set_option maxRecDepth 100000
namespace Go.Proofs.Ytcfkpdjbjfnnmaa
open Go.Sym
theorem half_bd {i j : Int} (h0 : 0 ≤ i) (h1 : i < j) : i ≤ Int.tdiv (i + j) 2 ∧ Int.tdiv (i + j) 2 < j := by
  rw [Int.tdiv_eq_ediv_of_nonneg (by omega)]; omega
theorem half_eq {i j : Int} (h0 : 0 ≤ i) (h1 : 0 ≤ j) : 2 * Int.tdiv (i + j) 2 ≤ i + j ∧ i + j ≤ 2 * Int.tdiv (i + j) 2 + 1 := by
  rw [Int.tdiv_eq_ediv_of_nonneg (by omega)]; omega
def mrgR (X Y A B : Int → Int) (n m a c b : Int) : Prop := edR A B n m ∧ (0 ≤ a ∧ a < c ∧ c < b ∧ b ≤ m) ∧ SoF X Y (zp A B) a c ∧ SoF X Y (zp A B) c b ∧ LxF (zp A B) a c b
section
variable {X Y A B : Int → Int} {F : PF} {n m a c b i j k s r : Int}
/-! one on the left -/
def se1 (X Y A B : Int → Int) (a c b i j : Int) : Prop := (c ≤ i ∧ i ≤ j ∧ j ≤ b) ∧ (∀ t, c ≤ t → t < i → Dp X Y (zp A B t) < Dp X Y (zp A B a)) ∧ ∀ t, j ≤ t → t < b → Dp X Y (zp A B a) ≤ Dp X Y (zp A B t)
theorem se1_0 (hp : mrgR X Y A B n m a c b) : se1 X Y A B a c b c b := ⟨by have := hp.2.1; omega, fun t h0 h1 => by omega, fun t h0 h1 => by omega⟩
theorem se1_lo (hp : mrgR X Y A B n m a c b) (h : se1 X Y A B a c b i j) (hij : i < j) (hc : cmD X Y (A (Int.tdiv (i + j) 2), B (Int.tdiv (i + j) 2)) (A a, B a) < 0) : se1 X Y A B a c b (Int.tdiv (i + j) 2 + 1) j := by
  have h1 := h.1
  have h2 := hp.2.1
  have hh := half_bd (i := i) (j := j) (by omega) hij
  have hc := cmD_neg.1 hc
  refine ⟨by omega, fun t t0 t1 => ?_, h.2.2⟩
  have := hp.2.2.2.1.le (i := t) (j := Int.tdiv (i + j) 2) t0 (by omega) (by omega)
  exact Int.lt_of_le_of_lt this hc
theorem se1_hi (hp : mrgR X Y A B n m a c b) (h : se1 X Y A B a c b i j) (hij : i < j) (hc : 0 ≤ cmD X Y (A (Int.tdiv (i + j) 2), B (Int.tdiv (i + j) 2)) (A a, B a)) : se1 X Y A B a c b i (Int.tdiv (i + j) 2) := by
  have h1 := h.1
  have h2 := hp.2.1
  have hh := half_bd (i := i) (j := j) (by omega) hij
  have hc := cmD_nn.1 hc
  refine ⟨by omega, h.2.1, fun t t0 t1 => ?_⟩
  have := hp.2.2.2.1.le (i := Int.tdiv (i + j) 2) (j := t) (by omega) t0 t1
  exact Int.le_trans hc this
theorem se1_end (hp : mrgR X Y A B n m a c b) (h : se1 X Y A B a c b i j) (hij : j ≤ i) (hc : c - a = 1) (hk : a ≤ k ∧ k ≤ i - 1) (hk2 : i - 1 ≤ k) : mrgP X Y A B (fun t => (shF (zp A B) a k t).1) (fun t => (shF (zp A B) a k t).2) a b := by
  have h1 := h.1
  have h2 := hp.2.1
  obtain rfl : c = a + 1 := by omega
  obtain rfl : k = i - 1 := by omega
  exact one_left hp.2.2.2.1 hp.2.2.2.2 (by omega) (by omega) h.2.1 (fun t t0 t1 => h.2.2 t (by omega) t1)
theorem sh_st {t : Int} (h : a ≤ k) : shF F a (k + 1) t = if t = k then shF F a k (k + 1) else if t = k + 1 then shF F a k k else shF F a k t := by
  rw [← shF_next h]; rfl
theorem sh_a {t : Int} (h : a ≤ k) (e : t = k) : shF F a k (k + 1) = shF F a (k + 1) t := by rw [sh_st h, if_pos e]
theorem sh_b {t : Int} (h : a ≤ k) (e : t = k + 1) : shF F a k k = shF F a (k + 1) t := by rw [sh_st h, if_neg (by omega), if_pos e]
theorem sh_n {t : Int} (h : a ≤ k) (e : t ≠ k) (e2 : t ≠ k + 1) : shF F a k t = shF F a (k + 1) t := by rw [sh_st h, if_neg e, if_neg e2]
/-! one on the right -/
def se2 (X Y A B : Int → Int) (a c i j : Int) : Prop := (a ≤ i ∧ i ≤ j ∧ j ≤ c) ∧ (∀ t, a ≤ t → t < i → Dp X Y (zp A B t) ≤ Dp X Y (zp A B c)) ∧ ∀ t, j ≤ t → t < c → Dp X Y (zp A B c) < Dp X Y (zp A B t)
theorem se2_0 (hp : mrgR X Y A B n m a c b) : se2 X Y A B a c a c := ⟨by have := hp.2.1; omega, fun t h0 h1 => by omega, fun t h0 h1 => by omega⟩
theorem se2_lo (hp : mrgR X Y A B n m a c b) (h : se2 X Y A B a c i j) (hij : i < j) (hc : 0 ≤ cmD X Y (A c, B c) (A (Int.tdiv (i + j) 2), B (Int.tdiv (i + j) 2))) : se2 X Y A B a c (Int.tdiv (i + j) 2 + 1) j := by
  have h1 := h.1
  have h2 := hp.2.1
  have hh := half_bd (i := i) (j := j) (by omega) hij
  have hc := cmD_nn.1 hc
  refine ⟨by omega, fun t t0 t1 => ?_, h.2.2⟩
  have := hp.2.2.1.le (i := t) (j := Int.tdiv (i + j) 2) t0 (by omega) (by omega)
  exact Int.le_trans this hc
theorem se2_hi (hp : mrgR X Y A B n m a c b) (h : se2 X Y A B a c i j) (hij : i < j) (hc : cmD X Y (A c, B c) (A (Int.tdiv (i + j) 2), B (Int.tdiv (i + j) 2)) < 0) : se2 X Y A B a c i (Int.tdiv (i + j) 2) := by
  have h1 := h.1
  have h2 := hp.2.1
  have hh := half_bd (i := i) (j := j) (by omega) hij
  have hc := cmD_neg.1 hc
  refine ⟨by omega, h.2.1, fun t t0 t1 => ?_⟩
  have := hp.2.2.1.le (i := Int.tdiv (i + j) 2) (j := t) (by omega) t0 t1
  exact Int.lt_of_lt_of_le hc this
theorem se2_end (hp : mrgR X Y A B n m a c b) (h : se2 X Y A B a c i j) (hij : j ≤ i) (hc : b - c = 1) (hk : i ≤ k ∧ k ≤ c) (hk2 : k ≤ i) : mrgP X Y A B (fun t => (shB (zp A B) c k t).1) (fun t => (shB (zp A B) c k t).2) a b := by
  have h1 := h.1
  have h2 := hp.2.1
  obtain rfl : b = c + 1 := by omega
  obtain rfl : k = i := by omega
  exact one_right hp.2.2.1 hp.2.2.2.2 (by omega) (by omega) h.2.1 (fun t t0 t1 => h.2.2 t (by omega) t1)
theorem sb_st {t : Int} (h : k ≤ c) : shB F c (k - 1) t = if t = k then shB F c k (k - 1) else if t = k - 1 then shB F c k k else shB F c k t := by
  rw [← shB_next h]; rfl
theorem sb_a {t : Int} (h : k ≤ c) (e : t = k) : shB F c k (k - 1) = shB F c (k - 1) t := by rw [sb_st h, if_pos e]
theorem sb_b {t : Int} (h : k ≤ c) (e : t = k - 1) : shB F c k k = shB F c (k - 1) t := by rw [sb_st h, if_neg (by omega), if_pos e]
theorem sb_n {t : Int} (h : k ≤ c) (e : t ≠ k) (e2 : t ≠ k - 1) : shB F c k t = shB F c (k - 1) t := by rw [sb_st h, if_neg e, if_neg e2]
/-! the cut -/
def mgLo (a c b : Int) : Int := if Int.tdiv (a + b) 2 < c then Int.tdiv (a + b) 2 + c - b else a
def mgHi (a c b : Int) : Int := if Int.tdiv (a + b) 2 < c then Int.tdiv (a + b) 2 else c
def smI (X Y A B : Int → Int) (a c b s r : Int) : Prop := (mgLo a c b ≤ s ∧ s ≤ r ∧ r ≤ mgHi a c b) ∧ (∀ t, mgLo a c b ≤ t → t < s → Dp X Y (zp A B t) ≤ Dp X Y (zp A B (Int.tdiv (a + b) 2 + c - 1 - t))) ∧ ∀ t, r ≤ t → t < mgHi a c b → Dp X Y (zp A B (Int.tdiv (a + b) 2 + c - 1 - t)) < Dp X Y (zp A B t)
theorem mg_bd (h : 0 ≤ a ∧ a < c ∧ c < b ∧ b ≤ m) : (a < Int.tdiv (a + b) 2 ∧ Int.tdiv (a + b) 2 < b) ∧ (a ≤ mgLo a c b ∧ mgLo a c b ≤ mgHi a c b ∧ mgHi a c b ≤ c ∧ mgHi a c b ≤ Int.tdiv (a + b) 2) ∧ (∀ t, mgLo a c b ≤ t → t < mgHi a c b → (a ≤ t ∧ t < c) ∧ c ≤ Int.tdiv (a + b) 2 + c - 1 - t ∧ Int.tdiv (a + b) 2 + c - 1 - t < b) ∧
    (mgLo a c b = a ∨ mgLo a c b = Int.tdiv (a + b) 2 + c - b) ∧ (mgHi a c b = c ∨ mgHi a c b = Int.tdiv (a + b) 2) ∧ (∀ t, mgLo a c b ≤ t → t ≤ mgHi a c b → c ≤ Int.tdiv (a + b) 2 + c - t ∧ Int.tdiv (a + b) 2 + c - t ≤ b) := by
  have hh := half_eq (i := a) (j := b) (by omega) (by omega)
  unfold mgLo mgHi
  generalize Int.tdiv (a + b) 2 = d at *
  split
  · exact ⟨by omega, by omega, fun t _ _ => by omega, by omega, by omega, fun t _ _ => by omega⟩
  · exact ⟨by omega, by omega, fun t _ _ => by omega, by omega, by omega, fun t _ _ => by omega⟩
theorem smI_y (hp : mrgR X Y A B n m a c b) (h : Int.tdiv (a + b) 2 < c) : smI X Y A B a c b (Int.tdiv (a + b) 2 + c - b) (Int.tdiv (a + b) 2) ∧ (mgLo a c b = Int.tdiv (a + b) 2 + c - b ∧ mgHi a c b = Int.tdiv (a + b) 2) := by
  have hb := mg_bd hp.2.1
  have e1 : mgLo a c b = Int.tdiv (a + b) 2 + c - b := if_pos h
  have e2 : mgHi a c b = Int.tdiv (a + b) 2 := if_pos h
  exact ⟨⟨by omega, fun t _ _ => by omega, fun t _ _ => by omega⟩, e1, e2⟩
theorem smI_n (hp : mrgR X Y A B n m a c b) (h : c ≤ Int.tdiv (a + b) 2) : smI X Y A B a c b a c ∧ (mgLo a c b = a ∧ mgHi a c b = c) := by
  have hb := mg_bd hp.2.1
  have e1 : mgLo a c b = a := if_neg (by omega)
  have e2 : mgHi a c b = c := if_neg (by omega)
  exact ⟨⟨by omega, fun t _ _ => by omega, fun t _ _ => by omega⟩, e1, e2⟩
theorem smI_bd (hp : mrgR X Y A B n m a c b) (h : smI X Y A B a c b s r) : (a ≤ s ∧ s ≤ r ∧ r ≤ c) ∧ (c ≤ Int.tdiv (a + b) 2 + c - s ∧ Int.tdiv (a + b) 2 + c - s ≤ b) ∧ (s < r → (s ≤ Int.tdiv (s + r) 2 ∧ Int.tdiv (s + r) 2 < r) ∧ (a ≤ Int.tdiv (s + r) 2 ∧ Int.tdiv (s + r) 2 < c) ∧ c ≤ Int.tdiv (a + b) 2 + c - 1 - Int.tdiv (s + r) 2 ∧ Int.tdiv (a + b) 2 + c - 1 - Int.tdiv (s + r) 2 < b) := by
  have hb := mg_bd hp.2.1
  have h1 := h.1
  have h2 := hp.2.1
  refine ⟨by omega, hb.2.2.2.2.2 s (by omega) (by omega), fun hsr => ?_⟩
  have hh := half_bd (i := s) (j := r) (by omega) hsr
  exact ⟨hh, hb.2.2.1 _ (by omega) (by omega)⟩
theorem smI_lo (hp : mrgR X Y A B n m a c b) (h : smI X Y A B a c b s r) (hsr : s < r) (hc : 0 ≤ cmD X Y (A (Int.tdiv (a + b) 2 + c - 1 - Int.tdiv (s + r) 2), B (Int.tdiv (a + b) 2 + c - 1 - Int.tdiv (s + r) 2)) (A (Int.tdiv (s + r) 2), B (Int.tdiv (s + r) 2))) : smI X Y A B a c b (Int.tdiv (s + r) 2 + 1) r := by
  have hb := mg_bd hp.2.1
  have h1 := h.1
  have hh := smI_bd hp h
  have hk := hh.2.2 hsr
  have hc := cmD_nn.1 hc
  refine ⟨by omega, fun t t0 t1 => ?_, h.2.2⟩
  have ht := hb.2.2.1 t t0 (by omega)
  have k1 := hp.2.2.1.le (i := t) (j := Int.tdiv (s + r) 2) (by omega) (by omega) (by omega)
  have k2 := hp.2.2.2.1.le (i := Int.tdiv (a + b) 2 + c - 1 - Int.tdiv (s + r) 2) (j := Int.tdiv (a + b) 2 + c - 1 - t) (by omega) (by omega) (by omega)
  exact Int.le_trans k1 (Int.le_trans hc k2)
theorem smI_hi (hp : mrgR X Y A B n m a c b) (h : smI X Y A B a c b s r) (hsr : s < r) (hc : cmD X Y (A (Int.tdiv (a + b) 2 + c - 1 - Int.tdiv (s + r) 2), B (Int.tdiv (a + b) 2 + c - 1 - Int.tdiv (s + r) 2)) (A (Int.tdiv (s + r) 2), B (Int.tdiv (s + r) 2)) < 0) : smI X Y A B a c b s (Int.tdiv (s + r) 2) := by
  have hb := mg_bd hp.2.1
  have h1 := h.1
  have hh := smI_bd hp h
  have hk := hh.2.2 hsr
  have hc := cmD_neg.1 hc
  refine ⟨by omega, h.2.1, fun t t0 t1 => ?_⟩
  have ht := hb.2.2.1 t (by omega) t1
  have k1 := hp.2.2.1.le (i := Int.tdiv (s + r) 2) (j := t) (by omega) (by omega) (by omega)
  have k2 := hp.2.2.2.1.le (i := Int.tdiv (a + b) 2 + c - 1 - t) (j := Int.tdiv (a + b) 2 + c - 1 - Int.tdiv (s + r) 2) (by omega) (by omega) (by omega)
  exact Int.lt_of_le_of_lt k2 (Int.lt_of_lt_of_le hc k1)
theorem cut_of (hp : mrgR X Y A B n m a c b) (h : smI X Y A B a c b s r) (hsr : r ≤ s) : Cut X Y (zp A B) a c b s (Int.tdiv (a + b) 2) (Int.tdiv (a + b) 2 + c - s) := by
  have hb := mg_bd hp.2.1
  have h1 := h.1
  have hh := smI_bd hp h
  refine ⟨hp.2.2.1, hp.2.2.2.1, hp.2.2.2.2, by omega, by omega, hb.1, fun h2 h3 => ?_, fun h2 h3 => ?_⟩
  · have := h.2.1 (s - 1) (by omega) (by omega)
    rwa [show Int.tdiv (a + b) 2 + c - 1 - (s - 1) = Int.tdiv (a + b) 2 + c - s by omega] at this
  · have := h.2.2 s hsr (by omega)
    rwa [show Int.tdiv (a + b) 2 + c - 1 - s = Int.tdiv (a + b) 2 + c - s - 1 by omega] at this
end
/-- The halves, cut and put together. -/
def cutd (X Y A B A' B' : Int → Int) (n m a c b s d e : Int) : Prop := Cut X Y (zp A B) a c b s d e ∧ zp A' B' = cutG (zp A B) c s e ∧ edR A B n m ∧ 0 ≤ a ∧ b ≤ m
section
variable {X Y A B A' B' A1 B1 A2 B2 : Int → Int} {n m a c b s d e : Int}
theorem cutd_no (hp : mrgR X Y A B n m a c b) (h : Cut X Y (zp A B) a c b s d e) (hn : c ≤ s ∨ e ≤ c) : cutd X Y A B A B n m a c b s d e :=
  ⟨h, (cutG_no (by have := h.bd; omega) (by have := h.bd; omega) hn).symm, hp.1, hp.2.1.1, hp.2.1.2.2.2⟩
theorem cutd_rot (hp : mrgR X Y A B n m a c b) (h : Cut X Y (zp A B) a c b s d e) : cutd X Y A B (fun t => (rotF (zp A B) s c e t).1) (fun t => (rotF (zp A B) s c e t).2) n m a c b s d e :=
  ⟨h, rfl, hp.1, hp.2.1.1, hp.2.1.2.2.2⟩
theorem cutd.ed (h : cutd X Y A B A' B' n m a c b s d e) : edR A' B' n m := edR_re h.2.2.1 (by rw [h.2.1]; exact h.1.re) h.2.2.2.1 h.2.2.2.2
theorem cutd.lreq (h : cutd X Y A B A' B' n m a c b s d e) (h1 : a < s) (h2 : s < d) : mrgR X Y A' B' n m a s d := by
  have hd := h.1.dd
  obtain ⟨l1, l2, l3⟩ := h.1.left
  rw [← h.2.1] at l1 l2 l3
  exact ⟨h.ed, by have := h.2.2.2; omega, l1, l2, l3⟩
theorem cutd.lno (h : cutd X Y A B A' B' n m a c b s d e) (hn : s ≤ a ∨ d ≤ s) : mrgP X Y A' B' A' B' a d := by
  have := h.1.left_no hn
  rw [← h.2.1] at this
  exact this
theorem cutd.rreq (h : cutd X Y A B A' B' n m a c b s d e) (g : mrgP X Y A' B' A1 B1 a d) (h1 : d < e) (h2 : e < b) : mrgR X Y A1 B1 n m d e b := by
  have hd := h.1.dd
  have hb := h.2.2.2
  have g1 := g.1
  have he := edR_re h.ed g1 hb.1 (by omega)
  rw [h.2.1] at g1
  obtain ⟨l1, l2, l3⟩ := h.1.right_so g1
  exact ⟨he, by omega, l1, l2, l3⟩
theorem cutd.rno (h : cutd X Y A B A' B' n m a c b s d e) (g : mrgP X Y A' B' A1 B1 a d) (hn : e ≤ d ∨ b ≤ e) : mrgP X Y A1 B1 A1 B1 d b := by
  have g1 := g.1
  rw [h.2.1] at g1
  exact h.1.right_no g1 hn
theorem cutd.done (h : cutd X Y A B A' B' n m a c b s d e) (g : mrgP X Y A' B' A1 B1 a d) (k : mrgP X Y A1 B1 A2 B2 d b) : mrgP X Y A B A2 B2 a b := by
  have g1 := g
  unfold mrgP at g1
  rw [h.2.1] at g1
  exact h.1.done g1 k
end

set_option maxHeartbeats 4000000
abbrev s_symMerge_S (X : Int → Int) (Y : Int → Int) (n : Int) (A : Int → Int) (B : Int → Int) (m : Int) (a : Int) (c : Int) (b : Int) : Prop := Runs Try.prog 142 [(.sl 0 2 (.lit 0) (.v fun _ => m) 1048576), (.int .i64 (.v fun _ => a) 0 1048576), (.int .i64 (.v fun _ => c) 0 1048576), (.int .i64 (.v fun _ => b) 0 1048576), (.fn 93 [(.ptr 1 1 (.lit 0) 0)])] [some ⟨58, 2, true, (.sym (.v fun _ => m) fun e => [(.int .i64 (.v fun _ => (A (e.den))) 0 1048576), (.int .i64 (.v fun _ => (B (e.den))) 0 1048576)])⟩, some ⟨27, 1, true, (.lit [[(.sl 2 2 (.lit 0) (.v fun _ => n) 1048576)]])⟩, some ⟨50, 2, true, (.sym (.v fun _ => n) fun e => [(.int .i64 (.v fun _ => (X (e.den))) (-1000) 1000), (.int .i64 (.v fun _ => (Y (e.den))) (-1000) 1000)])⟩] fun rr mm => ∃ x : (Int → Int) × (Int → Int), (mrgP X Y A B x.1 x.2 a b) ∧ rr = (.tup []) ∧ mm = [some ⟨58, 2, true, (.sym (.v fun _ => m) fun e => [(.int .i64 (.v fun _ => (x.1 (e.den))) 0 1048576), (.int .i64 (.v fun _ => (x.2 (e.den))) 0 1048576)])⟩, some ⟨27, 1, true, (.lit [[(.sl 2 2 (.lit 0) (.v fun _ => n) 1048576)]])⟩, some ⟨50, 2, true, (.sym (.v fun _ => n) fun e => [(.int .i64 (.v fun _ => (X (e.den))) (-1000) 1000), (.int .i64 (.v fun _ => (Y (e.den))) (-1000) 1000)])⟩]
def c_s_symMerge_ih {M : Nat} (ih : ∀ (X : Int → Int) (Y : Int → Int) (n : Int) (A : Int → Int) (B : Int → Int) (m : Int) (a : Int) (c : Int) (b : Int), (b - a).toNat < M → (mrgR X Y A B n m a c b) → s_symMerge_S X Y n A B m a c b) (X : Int → Int) (Y : Int → Int) (n : Int) (A : Int → Int) (B : Int → Int) (m : Int) (a : Int) (c : Int) (b : Int) : CnXH Try.prog := ⟨_, _, _, (Int → Int) × (Int → Int), (fun x => mrgP X Y A B x.1 x.2 a b), (fun x => (.tup [])), (fun x => [some ⟨58, 2, true, (.sym (.v fun _ => m) fun e => [(.int .i64 (.v fun _ => (x.1 (e.den))) 0 1048576), (.int .i64 (.v fun _ => (x.2 (e.den))) 0 1048576)])⟩, some ⟨27, 1, true, (.lit [[(.sl 2 2 (.lit 0) (.v fun _ => n) 1048576)]])⟩, some ⟨50, 2, true, (.sym (.v fun _ => n) fun e => [(.int .i64 (.v fun _ => (X (e.den))) (-1000) 1000), (.int .i64 (.v fun _ => (Y (e.den))) (-1000) 1000)])⟩]), ((b - a).toNat < M) ∧ (mrgR X Y A B n m a c b), fun h => ih X Y n A B m a c b h.1 h.2⟩
theorem s_symMerge_st (X : Int → Int) (Y : Int → Int) (n : Int) (A : Int → Int) (B : Int → Int) (m : Int) (a : Int) (c : Int) (b : Int) (hp : mrgR X Y A B n m a c b) (M : Nat) (hM : M = (b - a).toNat) (ih : ∀ (X : Int → Int) (Y : Int → Int) (n : Int) (A : Int → Int) (B : Int → Int) (m : Int) (a : Int) (c : Int) (b : Int), (b - a).toNat < M → (mrgR X Y A B n m a c b) → s_symMerge_S X Y n A B m a c b) : s_symMerge_S X Y n A B m a c b := by
  refine RunsX.go (X := (Int → Int) × (Int → Int)) (I := (fun x => mrgP X Y A B x.1 x.2 a b)) (R := (fun x => (.tup []))) (M := (fun x => [some ⟨58, 2, true, (.sym (.v fun _ => m) fun e => [(.int .i64 (.v fun _ => (x.1 (e.den))) 0 1048576), (.int .i64 (.v fun _ => (x.2 (e.den))) 0 1048576)])⟩, some ⟨27, 1, true, (.lit [[(.sl 2 2 (.lit 0) (.v fun _ => n) 1048576)]])⟩, some ⟨50, 2, true, (.sym (.v fun _ => n) fun e => [(.int .i64 (.v fun _ => (X (e.den))) (-1000) 1000), (.int .i64 (.v fun _ => (Y (e.den))) (-1000) 1000)])⟩])) env Try.func142 rfl Try.call142 rfl rfl (fun _ _ => (.ite (.loop [] [0, 1, 2] (Int × Int) (fun x1 => ⟨spl 220 0 [(0, (.sl 0 2 (.lit 0) (.v fun _ => m) 1048576)), (1, (.int .i64 (.v fun _ => a) 0 1048576)), (2, (.int .i64 (.v fun _ => c) 0 1048576)), (3, (.int .i64 (.v fun _ => b) 0 1048576)), (4, (.fn 93 [(.ptr 1 1 (.lit 0) 0)])), (10, (.int .i64 (.v fun _ => x1.1) 0 1048576)), (11, (.int .i64 (.v fun _ => x1.2) 0 1048576))], [some ⟨58, 2, true, (.sym (.v fun _ => m) fun e => [(.int .i64 (.v fun _ => (A (e.den))) 0 1048576), (.int .i64 (.v fun _ => (B (e.den))) 0 1048576)])⟩, some ⟨27, 1, true, (.lit [[(.sl 2 2 (.lit 0) (.v fun _ => n) 1048576)]])⟩, some ⟨50, 2, true, (.sym (.v fun _ => n) fun e => [(.int .i64 (.v fun _ => (X (e.den))) (-1000) 1000), (.int .i64 (.v fun _ => (Y (e.den))) (-1000) 1000)])⟩], 3⟩) (fun x1 => se1 X Y A B a c b x1.1 x1.2) (fun x1 => (x1.2 - x1.1).toNat) fun x1 => (.ite (.need (.need (.need (.need (.callH (c_SpanningTree1 X Y n ((A (Int.tdiv (x1.1 + x1.2) 2))) ((B (Int.tdiv (x1.1 + x1.2) 2))) ((A (a))) ((B (a)))) (.ite (.next [0, 1, 2]) (.next [0, 1, 2]))))))) (.out (.loop [] [0, 1, 2] (Int) (fun x12 => ⟨spl 220 0 [(0, (.sl 0 2 (.lit 0) (.v fun _ => m) 1048576)), (1, (.int .i64 (.v fun _ => a) 0 1048576)), (2, (.int .i64 (.v fun _ => c) 0 1048576)), (3, (.int .i64 (.v fun _ => b) 0 1048576)), (4, (.fn 93 [(.ptr 1 1 (.lit 0) 0)])), (10, (.int .i64 (.v fun _ => x1.1) 0 1048576)), (13, (.int .i64 (.v fun _ => x12) 0 1048576))], [some ⟨58, 2, true, (.sym (.v fun _ => m) fun e => [(.int .i64 (.v fun _ => (shF (zp A B) a x12 (e.den)).1) 0 1048576), (.int .i64 (.v fun _ => (shF (zp A B) a x12 (e.den)).2) 0 1048576)])⟩, some ⟨27, 1, true, (.lit [[(.sl 2 2 (.lit 0) (.v fun _ => n) 1048576)]])⟩, some ⟨50, 2, true, (.sym (.v fun _ => n) fun e => [(.int .i64 (.v fun _ => (X (e.den))) (-1000) 1000), (.int .i64 (.v fun _ => (Y (e.den))) (-1000) 1000)])⟩], 3⟩) (fun x12 => (a ≤ x12 ∧ x12 ≤ x1.1 - 1) ∧ se1 X Y A B a c b x1.1 x1.2 ∧ x1.2 ≤ x1.1) (fun x12 => (x1.1 - x12).toNat) fun x12 => (.ite (.need (.need (.need (.need (.need (.need (.need (.need (.next [0, 1, 2]))))))))) (.out .ret)))))) (.ite (.loop [] [0, 1, 2] (Int × Int) (fun x24 => ⟨spl 220 0 [(0, (.sl 0 2 (.lit 0) (.v fun _ => m) 1048576)), (1, (.int .i64 (.v fun _ => a) 0 1048576)), (2, (.int .i64 (.v fun _ => c) 0 1048576)), (3, (.int .i64 (.v fun _ => b) 0 1048576)), (4, (.fn 93 [(.ptr 1 1 (.lit 0) 0)])), (14, (.int .i64 (.v fun _ => x24.1) 0 1048576)), (15, (.int .i64 (.v fun _ => x24.2) 0 1048576))], [some ⟨58, 2, true, (.sym (.v fun _ => m) fun e => [(.int .i64 (.v fun _ => (A (e.den))) 0 1048576), (.int .i64 (.v fun _ => (B (e.den))) 0 1048576)])⟩, some ⟨27, 1, true, (.lit [[(.sl 2 2 (.lit 0) (.v fun _ => n) 1048576)]])⟩, some ⟨50, 2, true, (.sym (.v fun _ => n) fun e => [(.int .i64 (.v fun _ => (X (e.den))) (-1000) 1000), (.int .i64 (.v fun _ => (Y (e.den))) (-1000) 1000)])⟩], 3⟩) (fun x24 => se2 X Y A B a c x24.1 x24.2) (fun x24 => (x24.2 - x24.1).toNat) fun x24 => (.ite (.need (.need (.need (.need (.callH (c_SpanningTree1 X Y n ((A (c))) ((B (c))) ((A (Int.tdiv (x24.1 + x24.2) 2))) ((B (Int.tdiv (x24.1 + x24.2) 2)))) (.ite (.next [0, 1, 2]) (.next [0, 1, 2]))))))) (.out (.loop [] [0, 1, 2] (Int) (fun x35 => ⟨spl 220 0 [(0, (.sl 0 2 (.lit 0) (.v fun _ => m) 1048576)), (1, (.int .i64 (.v fun _ => a) 0 1048576)), (2, (.int .i64 (.v fun _ => c) 0 1048576)), (3, (.int .i64 (.v fun _ => b) 0 1048576)), (4, (.fn 93 [(.ptr 1 1 (.lit 0) 0)])), (14, (.int .i64 (.v fun _ => x24.1) 0 1048576)), (17, (.int .i64 (.v fun _ => x35) 0 1048576))], [some ⟨58, 2, true, (.sym (.v fun _ => m) fun e => [(.int .i64 (.v fun _ => (shB (zp A B) c x35 (e.den)).1) 0 1048576), (.int .i64 (.v fun _ => (shB (zp A B) c x35 (e.den)).2) 0 1048576)])⟩, some ⟨27, 1, true, (.lit [[(.sl 2 2 (.lit 0) (.v fun _ => n) 1048576)]])⟩, some ⟨50, 2, true, (.sym (.v fun _ => n) fun e => [(.int .i64 (.v fun _ => (X (e.den))) (-1000) 1000), (.int .i64 (.v fun _ => (Y (e.den))) (-1000) 1000)])⟩], 3⟩) (fun x35 => (x24.1 ≤ x35 ∧ x35 ≤ c) ∧ se2 X Y A B a c x24.1 x24.2 ∧ x24.2 ≤ x24.1) (fun x35 => x35.toNat) fun x35 => (.ite (.need (.need (.need (.need (.need (.need (.need (.need (.next [0, 1, 2]))))))))) (.out .ret)))))) (.ite (.loop [] [0, 1, 2] (Int × Int) (fun x47 => ⟨spl 220 0 [(0, (.sl 0 2 (.lit 0) (.v fun _ => m) 1048576)), (1, (.int .i64 (.v fun _ => a) 0 1048576)), (2, (.int .i64 (.v fun _ => c) 0 1048576)), (3, (.int .i64 (.v fun _ => b) 0 1048576)), (4, (.fn 93 [(.ptr 1 1 (.lit 0) 0)])), (18, (.int .i64 (.quo (.add (.v fun _ => a) (.v fun _ => b)) (.lit 2)) 0 2097152)), (19, (.int .i64 (.add (.quo (.add (.v fun _ => a) (.v fun _ => b)) (.lit 2)) (.v fun _ => c)) 0 3145728)), (20, (.int .i64 (.v fun _ => x47.1) 0 1048576)), (21, (.int .i64 (.v fun _ => x47.2) 0 1048576)), (22, (.int .i64 (.sub (.add (.quo (.add (.v fun _ => a) (.v fun _ => b)) (.lit 2)) (.v fun _ => c)) (.lit 1)) (-1) 3145727))], [some ⟨58, 2, true, (.sym (.v fun _ => m) fun e => [(.int .i64 (.v fun _ => (A (e.den))) 0 1048576), (.int .i64 (.v fun _ => (B (e.den))) 0 1048576)])⟩, some ⟨27, 1, true, (.lit [[(.sl 2 2 (.lit 0) (.v fun _ => n) 1048576)]])⟩, some ⟨50, 2, true, (.sym (.v fun _ => n) fun e => [(.int .i64 (.v fun _ => (X (e.den))) (-1000) 1000), (.int .i64 (.v fun _ => (Y (e.den))) (-1000) 1000)])⟩], 3⟩) (fun x47 => smI X Y A B a c b x47.1 x47.2) (fun x47 => (x47.2 - x47.1).toNat) fun x47 => (.ite (.need (.need (.need (.need (.callH (c_SpanningTree1 X Y n ((A ((((Int.tdiv (a + b) 2) + c) - 1) - (Int.tdiv (x47.1 + x47.2) 2)))) ((B ((((Int.tdiv (a + b) 2) + c) - 1) - (Int.tdiv (x47.1 + x47.2) 2)))) ((A (Int.tdiv (x47.1 + x47.2) 2))) ((B (Int.tdiv (x47.1 + x47.2) 2)))) (.ite (.next [0, 1, 2]) (.next [0, 1, 2]))))))) (.out (.ite (.ite (.callH (c_s_rotate X Y n A B m x47.1 c (((Int.tdiv (a + b) 2) + c) - x47.1)) (.ite (.ite (.callXH (c_s_symMerge_ih ih X Y n ((fun ι => (rotF (zp A B) x47.1 c (((Int.tdiv (a + b) 2) + c) - x47.1) (ι)).1)) ((fun ι => (rotF (zp A B) x47.1 c (((Int.tdiv (a + b) 2) + c) - x47.1) (ι)).2)) m a x47.1 (Int.tdiv (a + b) 2)) fun x62 => (.ite (.ite (.callXH (c_s_symMerge_ih ih X Y n x62.1 x62.2 m (Int.tdiv (a + b) 2) (((Int.tdiv (a + b) 2) + c) - x47.1) b) fun x67 => .ret) .ret) .ret)) (.ite (.ite (.callXH (c_s_symMerge_ih ih X Y n ((fun ι => (rotF (zp A B) x47.1 c (((Int.tdiv (a + b) 2) + c) - x47.1) (ι)).1)) ((fun ι => (rotF (zp A B) x47.1 c (((Int.tdiv (a + b) 2) + c) - x47.1) (ι)).2)) m (Int.tdiv (a + b) 2) (((Int.tdiv (a + b) 2) + c) - x47.1) b) fun x81 => .ret) .ret) .ret)) (.ite (.ite (.callXH (c_s_symMerge_ih ih X Y n ((fun ι => (rotF (zp A B) x47.1 c (((Int.tdiv (a + b) 2) + c) - x47.1) (ι)).1)) ((fun ι => (rotF (zp A B) x47.1 c (((Int.tdiv (a + b) 2) + c) - x47.1) (ι)).2)) m (Int.tdiv (a + b) 2) (((Int.tdiv (a + b) 2) + c) - x47.1) b) fun x95 => .ret) .ret) .ret))) (.ite (.ite (.callXH (c_s_symMerge_ih ih X Y n A B m a x47.1 (Int.tdiv (a + b) 2)) fun x109 => (.ite (.ite (.callXH (c_s_symMerge_ih ih X Y n x109.1 x109.2 m (Int.tdiv (a + b) 2) (((Int.tdiv (a + b) 2) + c) - x47.1) b) fun x114 => .ret) .ret) .ret)) (.ite (.ite (.callXH (c_s_symMerge_ih ih X Y n A B m (Int.tdiv (a + b) 2) (((Int.tdiv (a + b) 2) + c) - x47.1) b) fun x128 => .ret) .ret) .ret)) (.ite (.ite (.callXH (c_s_symMerge_ih ih X Y n A B m (Int.tdiv (a + b) 2) (((Int.tdiv (a + b) 2) + c) - x47.1) b) fun x142 => .ret) .ret) .ret))) (.ite (.ite (.callXH (c_s_symMerge_ih ih X Y n A B m a x47.1 (Int.tdiv (a + b) 2)) fun x156 => (.ite (.ite (.callXH (c_s_symMerge_ih ih X Y n x156.1 x156.2 m (Int.tdiv (a + b) 2) (((Int.tdiv (a + b) 2) + c) - x47.1) b) fun x161 => .ret) .ret) .ret)) (.ite (.ite (.callXH (c_s_symMerge_ih ih X Y n A B m (Int.tdiv (a + b) 2) (((Int.tdiv (a + b) 2) + c) - x47.1) b) fun x175 => .ret) .ret) .ret)) (.ite (.ite (.callXH (c_s_symMerge_ih ih X Y n A B m (Int.tdiv (a + b) 2) (((Int.tdiv (a + b) 2) + c) - x47.1) b) fun x189 => .ret) .ret) .ret)))))) (.loop [] [0, 1, 2] (Int × Int) (fun x201 => ⟨spl 220 0 [(0, (.sl 0 2 (.lit 0) (.v fun _ => m) 1048576)), (1, (.int .i64 (.v fun _ => a) 0 1048576)), (2, (.int .i64 (.v fun _ => c) 0 1048576)), (3, (.int .i64 (.v fun _ => b) 0 1048576)), (4, (.fn 93 [(.ptr 1 1 (.lit 0) 0)])), (18, (.int .i64 (.quo (.add (.v fun _ => a) (.v fun _ => b)) (.lit 2)) 0 2097152)), (19, (.int .i64 (.add (.quo (.add (.v fun _ => a) (.v fun _ => b)) (.lit 2)) (.v fun _ => c)) 0 3145728)), (20, (.int .i64 (.v fun _ => x201.1) 0 1048576)), (21, (.int .i64 (.v fun _ => x201.2) 0 1048576)), (22, (.int .i64 (.sub (.add (.quo (.add (.v fun _ => a) (.v fun _ => b)) (.lit 2)) (.v fun _ => c)) (.lit 1)) (-1) 3145727))], [some ⟨58, 2, true, (.sym (.v fun _ => m) fun e => [(.int .i64 (.v fun _ => (A (e.den))) 0 1048576), (.int .i64 (.v fun _ => (B (e.den))) 0 1048576)])⟩, some ⟨27, 1, true, (.lit [[(.sl 2 2 (.lit 0) (.v fun _ => n) 1048576)]])⟩, some ⟨50, 2, true, (.sym (.v fun _ => n) fun e => [(.int .i64 (.v fun _ => (X (e.den))) (-1000) 1000), (.int .i64 (.v fun _ => (Y (e.den))) (-1000) 1000)])⟩], 3⟩) (fun x201 => smI X Y A B a c b x201.1 x201.2) (fun x201 => (x201.2 - x201.1).toNat) fun x201 => (.ite (.need (.need (.need (.need (.callH (c_SpanningTree1 X Y n ((A ((((Int.tdiv (a + b) 2) + c) - 1) - (Int.tdiv (x201.1 + x201.2) 2)))) ((B ((((Int.tdiv (a + b) 2) + c) - 1) - (Int.tdiv (x201.1 + x201.2) 2)))) ((A (Int.tdiv (x201.1 + x201.2) 2))) ((B (Int.tdiv (x201.1 + x201.2) 2)))) (.ite (.next [0, 1, 2]) (.next [0, 1, 2]))))))) (.out (.ite (.ite (.callH (c_s_rotate X Y n A B m x201.1 c (((Int.tdiv (a + b) 2) + c) - x201.1)) (.ite (.ite (.callXH (c_s_symMerge_ih ih X Y n ((fun ι => (rotF (zp A B) x201.1 c (((Int.tdiv (a + b) 2) + c) - x201.1) (ι)).1)) ((fun ι => (rotF (zp A B) x201.1 c (((Int.tdiv (a + b) 2) + c) - x201.1) (ι)).2)) m a x201.1 (Int.tdiv (a + b) 2)) fun x216 => (.ite (.ite (.callXH (c_s_symMerge_ih ih X Y n x216.1 x216.2 m (Int.tdiv (a + b) 2) (((Int.tdiv (a + b) 2) + c) - x201.1) b) fun x221 => .ret) .ret) .ret)) (.ite (.ite (.callXH (c_s_symMerge_ih ih X Y n ((fun ι => (rotF (zp A B) x201.1 c (((Int.tdiv (a + b) 2) + c) - x201.1) (ι)).1)) ((fun ι => (rotF (zp A B) x201.1 c (((Int.tdiv (a + b) 2) + c) - x201.1) (ι)).2)) m (Int.tdiv (a + b) 2) (((Int.tdiv (a + b) 2) + c) - x201.1) b) fun x235 => .ret) .ret) .ret)) (.ite (.ite (.callXH (c_s_symMerge_ih ih X Y n ((fun ι => (rotF (zp A B) x201.1 c (((Int.tdiv (a + b) 2) + c) - x201.1) (ι)).1)) ((fun ι => (rotF (zp A B) x201.1 c (((Int.tdiv (a + b) 2) + c) - x201.1) (ι)).2)) m (Int.tdiv (a + b) 2) (((Int.tdiv (a + b) 2) + c) - x201.1) b) fun x249 => .ret) .ret) .ret))) (.ite (.ite (.callXH (c_s_symMerge_ih ih X Y n A B m a x201.1 (Int.tdiv (a + b) 2)) fun x263 => (.ite (.ite (.callXH (c_s_symMerge_ih ih X Y n x263.1 x263.2 m (Int.tdiv (a + b) 2) (((Int.tdiv (a + b) 2) + c) - x201.1) b) fun x268 => .ret) .ret) .ret)) (.ite (.ite (.callXH (c_s_symMerge_ih ih X Y n A B m (Int.tdiv (a + b) 2) (((Int.tdiv (a + b) 2) + c) - x201.1) b) fun x282 => .ret) .ret) .ret)) (.ite (.ite (.callXH (c_s_symMerge_ih ih X Y n A B m (Int.tdiv (a + b) 2) (((Int.tdiv (a + b) 2) + c) - x201.1) b) fun x296 => .ret) .ret) .ret))) (.ite (.ite (.callXH (c_s_symMerge_ih ih X Y n A B m a x201.1 (Int.tdiv (a + b) 2)) fun x310 => (.ite (.ite (.callXH (c_s_symMerge_ih ih X Y n x310.1 x310.2 m (Int.tdiv (a + b) 2) (((Int.tdiv (a + b) 2) + c) - x201.1) b) fun x315 => .ret) .ret) .ret)) (.ite (.ite (.callXH (c_s_symMerge_ih ih X Y n A B m (Int.tdiv (a + b) 2) (((Int.tdiv (a + b) 2) + c) - x201.1) b) fun x329 => .ret) .ret) .ret)) (.ite (.ite (.callXH (c_s_symMerge_ih ih X Y n A B m (Int.tdiv (a + b) 2) (((Int.tdiv (a + b) 2) + c) - x201.1) b) fun x343 => .ret) .ret) .ret)))))))))) (G := ((0 ≤ m ∧ m ≤ 1048576) ∧ ((0 ≤ a ∧ a ≤ 1048576) ∧ ((0 ≤ c ∧ c ≤ 1048576) ∧ (0 ≤ b ∧ b ≤ 1048576)))) → ((∀ e356 : E, ((0 ≤ e356.den ∧ e356.den < m) → ((0 ≤ ((A (e356.den))) ∧ ((A (e356.den))) ≤ 1048576) ∧ (0 ≤ ((B (e356.den))) ∧ ((B (e356.den))) ≤ 1048576)))) ∧ ((0 ≤ n ∧ n ≤ 1048576) ∧ (∀ e355 : E, ((0 ≤ e355.den ∧ e355.den < n) → (((-1000) ≤ ((X (e355.den))) ∧ ((X (e355.den))) ≤ 1000) ∧ ((-1000) ≤ ((Y (e355.den))) ∧ ((Y (e355.den))) ≤ 1000)))))) → ((((c - a) = 1) → ((∃ y2 : Int × Int, ((se1 X Y A B a c b y2.1 y2.2) ∧ (((m = m) ∧ ((a = a) ∧ ((c = c) ∧ ((b = b) ∧ ((c = y2.1) ∧ (b = y2.2)))))) ∧ (((m ≤ m) ∧ (∀ e4 : E, ((0 ≤ e4.den ∧ e4.den < m) → ((((A (e4.den))) = ((A (e4.den)))) ∧ (((B (e4.den))) = ((B (e4.den)))))))) ∧ ((n = n) ∧ ((n ≤ n) ∧ (∀ e3 : E, ((0 ≤ e3.den ∧ e3.den < n) → ((((X (e3.den))) = ((X (e3.den)))) ∧ (((Y (e3.den))) = ((Y (e3.den))))))))))))) ∧ (∀ x1 : Int × Int, ((se1 X Y A B a c b x1.1 x1.2) → (((x1.1 < x1.2) → ((((0 ≤ (Int.tdiv (x1.1 + x1.2) 2)) ∧ ((Int.tdiv (x1.1 + x1.2) 2) < m))) ∧ (((Int.tdiv (x1.1 + x1.2) 2) < m) ∧ ((((0 ≤ a) ∧ (a < m))) ∧ ((a < m) ∧ ((((0 ≤ ((A (Int.tdiv (x1.1 + x1.2) 2))) ∧ ((A (Int.tdiv (x1.1 + x1.2) 2))) < n) ∧ (0 ≤ ((B (Int.tdiv (x1.1 + x1.2) 2))) ∧ ((B (Int.tdiv (x1.1 + x1.2) 2))) < n)) ∧ (0 ≤ ((A (a))) ∧ ((A (a))) < n) ∧ (0 ≤ ((B (a))) ∧ ((B (a))) < n)) ∧ ((((((A (Int.tdiv (x1.1 + x1.2) 2))) = ((A (Int.tdiv (x1.1 + x1.2) 2)))) ∧ (((B (Int.tdiv (x1.1 + x1.2) 2))) = ((B (Int.tdiv (x1.1 + x1.2) 2))))) ∧ ((((A (a))) = ((A (a)))) ∧ (((B (a))) = ((B (a)))))) ∧ (((n = n) ∧ ((n ≤ n) ∧ (∀ e5 : E, ((0 ≤ e5.den ∧ e5.den < n) → ((((X (e5.den))) = ((X (e5.den)))) ∧ (((Y (e5.den))) = ((Y (e5.den))))))))) ∧ ((((cmD X Y (((A (Int.tdiv (x1.1 + x1.2) 2))), ((B (Int.tdiv (x1.1 + x1.2) 2)))) (((A (a))), ((B (a))))) < 0) → (∃ y6 : Int × Int, ((se1 X Y A B a c b y6.1 y6.2) ∧ ((((m = m) ∧ ((a = a) ∧ ((c = c) ∧ ((b = b) ∧ (((((Int.tdiv (x1.1 + x1.2) 2) + 1) = y6.1) ∧ ((1 ≤ ((Int.tdiv (x1.1 + x1.2) 2) + 1) ∧ ((Int.tdiv (x1.1 + x1.2) 2) + 1) ≤ 2097153) → (0 ≤ y6.1 ∧ y6.1 ≤ 1048576))) ∧ (x1.2 = y6.2)))))) ∧ (((m ≤ m) ∧ (∀ e8 : E, ((0 ≤ e8.den ∧ e8.den < m) → ((((A (e8.den))) = ((A (e8.den)))) ∧ (((B (e8.den))) = ((B (e8.den)))))))) ∧ ((n = n) ∧ ((n ≤ n) ∧ (∀ e7 : E, ((0 ≤ e7.den ∧ e7.den < n) → ((((X (e7.den))) = ((X (e7.den)))) ∧ (((Y (e7.den))) = ((Y (e7.den))))))))))) ∧ ((y6.2 - y6.1).toNat < (x1.2 - x1.1).toNat))))) ∧ ((0 ≤ (cmD X Y (((A (Int.tdiv (x1.1 + x1.2) 2))), ((B (Int.tdiv (x1.1 + x1.2) 2)))) (((A (a))), ((B (a)))))) → (∃ y9 : Int × Int, ((se1 X Y A B a c b y9.1 y9.2) ∧ ((((m = m) ∧ ((a = a) ∧ ((c = c) ∧ ((b = b) ∧ ((x1.1 = y9.1) ∧ (((Int.tdiv (x1.1 + x1.2) 2) = y9.2) ∧ ((0 ≤ (Int.tdiv (x1.1 + x1.2) 2) ∧ (Int.tdiv (x1.1 + x1.2) 2) ≤ 2097152) → (0 ≤ y9.2 ∧ y9.2 ≤ 1048576)))))))) ∧ (((m ≤ m) ∧ (∀ e11 : E, ((0 ≤ e11.den ∧ e11.den < m) → ((((A (e11.den))) = ((A (e11.den)))) ∧ (((B (e11.den))) = ((B (e11.den)))))))) ∧ ((n = n) ∧ ((n ≤ n) ∧ (∀ e10 : E, ((0 ≤ e10.den ∧ e10.den < n) → ((((X (e10.den))) = ((X (e10.den)))) ∧ (((Y (e10.den))) = ((Y (e10.den))))))))))) ∧ ((y9.2 - y9.1).toNat < (x1.2 - x1.1).toNat)))))))))))))) ∧ ((x1.2 ≤ x1.1) → ((∃ y13 : Int, (((a ≤ y13 ∧ y13 ≤ x1.1 - 1) ∧ se1 X Y A B a c b x1.1 x1.2 ∧ x1.2 ≤ x1.1) ∧ (((m = m) ∧ ((a = a) ∧ ((c = c) ∧ ((b = b) ∧ ((x1.1 = x1.1) ∧ (a = y13)))))) ∧ (((m ≤ m) ∧ (∀ e15 : E, ((0 ≤ e15.den ∧ e15.den < m) → ((((A (e15.den))) = ((shF (zp A B) a y13 (e15.den)).1)) ∧ (((B (e15.den))) = ((shF (zp A B) a y13 (e15.den)).2)))))) ∧ ((n = n) ∧ ((n ≤ n) ∧ (∀ e14 : E, ((0 ≤ e14.den ∧ e14.den < n) → ((((X (e14.den))) = ((X (e14.den)))) ∧ (((Y (e14.den))) = ((Y (e14.den))))))))))))) ∧ (∀ x12 : Int, (((a ≤ x12 ∧ x12 ≤ x1.1 - 1) ∧ se1 X Y A B a c b x1.1 x1.2 ∧ x1.2 ≤ x1.1) → (((x12 < (x1.1 - 1)) → ((((0 ≤ (x12 + 1)) ∧ ((x12 + 1) < m))) ∧ (((x12 + 1) < m) ∧ ((((0 ≤ x12) ∧ (x12 < m))) ∧ ((x12 < m) ∧ ((((0 ≤ x12) ∧ (x12 < m))) ∧ ((x12 < m) ∧ ((((0 ≤ (x12 + 1)) ∧ ((x12 + 1) < m))) ∧ (((x12 + 1) < m) ∧ (∃ y16 : Int, (((a ≤ y16 ∧ y16 ≤ x1.1 - 1) ∧ se1 X Y A B a c b x1.1 x1.2 ∧ x1.2 ≤ x1.1) ∧ ((((m = m) ∧ ((a = a) ∧ ((c = c) ∧ ((b = b) ∧ ((x1.1 = x1.1) ∧ (((x12 + 1) = y16) ∧ ((1 ≤ (x12 + 1) ∧ (x12 + 1) ≤ 1048577) → (0 ≤ y16 ∧ y16 ≤ 1048576)))))))) ∧ (((m = m) ∧ (((∀ e19 : E, ((0 ≤ e19.den ∧ e19.den < m ∧ e19.den ≠ (x12 + 1) ∧ e19.den ≠ x12) → ((((shF (zp A B) a x12 (e19.den)).1) = ((shF (zp A B) a y16 (e19.den)).1)) ∧ (((shF (zp A B) a x12 (e19.den)).2) = ((shF (zp A B) a y16 (e19.den)).2))))) ∧ (∀ e20 : E, ((e20.den.toNat = (x12 : Int).toNat ∧ 0 ≤ e20.den ∧ e20.den ≠ (x12 + 1)) → ((((shF (zp A B) a x12 (x12 + 1)).1) = ((shF (zp A B) a y16 (e20.den)).1)) ∧ (((shF (zp A B) a x12 (x12 + 1)).2) = ((shF (zp A B) a y16 (e20.den)).2)))))) ∧ (∀ e18 : E, ((e18.den.toNat = ((x12 + 1) : Int).toNat ∧ 0 ≤ e18.den) → ((((shF (zp A B) a x12 (x12)).1) = ((shF (zp A B) a y16 (e18.den)).1)) ∧ (((shF (zp A B) a x12 (x12)).2) = ((shF (zp A B) a y16 (e18.den)).2))))))) ∧ ((n = n) ∧ ((n ≤ n) ∧ (∀ e17 : E, ((0 ≤ e17.den ∧ e17.den < n) → ((((X (e17.den))) = ((X (e17.den)))) ∧ (((Y (e17.den))) = ((Y (e17.den))))))))))) ∧ ((x1.1 - y16).toNat < (x1.1 - x12).toNat))))))))))))) ∧ (((x1.1 - 1) ≤ x12) → (∃ y21 : (Int → Int) × (Int → Int), ((mrgP X Y A B y21.1 y21.2 a b) ∧ (((m ≤ m) ∧ (∀ e23 : E, ((0 ≤ e23.den ∧ e23.den < m) → ((((shF (zp A B) a x12 (e23.den)).1) = ((y21.1 (e23.den)))) ∧ (((shF (zp A B) a x12 (e23.den)).2) = ((y21.2 (e23.den)))))))) ∧ ((n = n) ∧ ((n ≤ n) ∧ (∀ e22 : E, ((0 ≤ e22.den ∧ e22.den < n) → ((((X (e22.den))) = ((X (e22.den)))) ∧ (((Y (e22.den))) = ((Y (e22.den))))))))))))))))))))))) ∧ (((c - a) ≠ 1) → ((((b - c) = 1) → ((∃ y25 : Int × Int, ((se2 X Y A B a c y25.1 y25.2) ∧ (((m = m) ∧ ((a = a) ∧ ((c = c) ∧ ((b = b) ∧ ((a = y25.1) ∧ (c = y25.2)))))) ∧ (((m ≤ m) ∧ (∀ e27 : E, ((0 ≤ e27.den ∧ e27.den < m) → ((((A (e27.den))) = ((A (e27.den)))) ∧ (((B (e27.den))) = ((B (e27.den)))))))) ∧ ((n = n) ∧ ((n ≤ n) ∧ (∀ e26 : E, ((0 ≤ e26.den ∧ e26.den < n) → ((((X (e26.den))) = ((X (e26.den)))) ∧ (((Y (e26.den))) = ((Y (e26.den))))))))))))) ∧ (∀ x24 : Int × Int, ((se2 X Y A B a c x24.1 x24.2) → (((x24.1 < x24.2) → ((((0 ≤ c) ∧ (c < m))) ∧ ((c < m) ∧ ((((0 ≤ (Int.tdiv (x24.1 + x24.2) 2)) ∧ ((Int.tdiv (x24.1 + x24.2) 2) < m))) ∧ (((Int.tdiv (x24.1 + x24.2) 2) < m) ∧ ((((0 ≤ ((A (c))) ∧ ((A (c))) < n) ∧ (0 ≤ ((B (c))) ∧ ((B (c))) < n)) ∧ (0 ≤ ((A (Int.tdiv (x24.1 + x24.2) 2))) ∧ ((A (Int.tdiv (x24.1 + x24.2) 2))) < n) ∧ (0 ≤ ((B (Int.tdiv (x24.1 + x24.2) 2))) ∧ ((B (Int.tdiv (x24.1 + x24.2) 2))) < n)) ∧ ((((((A (c))) = ((A (c)))) ∧ (((B (c))) = ((B (c))))) ∧ ((((A (Int.tdiv (x24.1 + x24.2) 2))) = ((A (Int.tdiv (x24.1 + x24.2) 2)))) ∧ (((B (Int.tdiv (x24.1 + x24.2) 2))) = ((B (Int.tdiv (x24.1 + x24.2) 2)))))) ∧ (((n = n) ∧ ((n ≤ n) ∧ (∀ e28 : E, ((0 ≤ e28.den ∧ e28.den < n) → ((((X (e28.den))) = ((X (e28.den)))) ∧ (((Y (e28.den))) = ((Y (e28.den))))))))) ∧ (((0 ≤ (cmD X Y (((A (c))), ((B (c)))) (((A (Int.tdiv (x24.1 + x24.2) 2))), ((B (Int.tdiv (x24.1 + x24.2) 2)))))) → (∃ y29 : Int × Int, ((se2 X Y A B a c y29.1 y29.2) ∧ ((((m = m) ∧ ((a = a) ∧ ((c = c) ∧ ((b = b) ∧ (((((Int.tdiv (x24.1 + x24.2) 2) + 1) = y29.1) ∧ ((1 ≤ ((Int.tdiv (x24.1 + x24.2) 2) + 1) ∧ ((Int.tdiv (x24.1 + x24.2) 2) + 1) ≤ 2097153) → (0 ≤ y29.1 ∧ y29.1 ≤ 1048576))) ∧ (x24.2 = y29.2)))))) ∧ (((m ≤ m) ∧ (∀ e31 : E, ((0 ≤ e31.den ∧ e31.den < m) → ((((A (e31.den))) = ((A (e31.den)))) ∧ (((B (e31.den))) = ((B (e31.den)))))))) ∧ ((n = n) ∧ ((n ≤ n) ∧ (∀ e30 : E, ((0 ≤ e30.den ∧ e30.den < n) → ((((X (e30.den))) = ((X (e30.den)))) ∧ (((Y (e30.den))) = ((Y (e30.den))))))))))) ∧ ((y29.2 - y29.1).toNat < (x24.2 - x24.1).toNat))))) ∧ (((cmD X Y (((A (c))), ((B (c)))) (((A (Int.tdiv (x24.1 + x24.2) 2))), ((B (Int.tdiv (x24.1 + x24.2) 2))))) < 0) → (∃ y32 : Int × Int, ((se2 X Y A B a c y32.1 y32.2) ∧ ((((m = m) ∧ ((a = a) ∧ ((c = c) ∧ ((b = b) ∧ ((x24.1 = y32.1) ∧ (((Int.tdiv (x24.1 + x24.2) 2) = y32.2) ∧ ((0 ≤ (Int.tdiv (x24.1 + x24.2) 2) ∧ (Int.tdiv (x24.1 + x24.2) 2) ≤ 2097152) → (0 ≤ y32.2 ∧ y32.2 ≤ 1048576)))))))) ∧ (((m ≤ m) ∧ (∀ e34 : E, ((0 ≤ e34.den ∧ e34.den < m) → ((((A (e34.den))) = ((A (e34.den)))) ∧ (((B (e34.den))) = ((B (e34.den)))))))) ∧ ((n = n) ∧ ((n ≤ n) ∧ (∀ e33 : E, ((0 ≤ e33.den ∧ e33.den < n) → ((((X (e33.den))) = ((X (e33.den)))) ∧ (((Y (e33.den))) = ((Y (e33.den))))))))))) ∧ ((y32.2 - y32.1).toNat < (x24.2 - x24.1).toNat)))))))))))))) ∧ ((x24.2 ≤ x24.1) → ((∃ y36 : Int, (((x24.1 ≤ y36 ∧ y36 ≤ c) ∧ se2 X Y A B a c x24.1 x24.2 ∧ x24.2 ≤ x24.1) ∧ (((m = m) ∧ ((a = a) ∧ ((c = c) ∧ ((b = b) ∧ ((x24.1 = x24.1) ∧ (c = y36)))))) ∧ (((m ≤ m) ∧ (∀ e38 : E, ((0 ≤ e38.den ∧ e38.den < m) → ((((A (e38.den))) = ((shB (zp A B) c y36 (e38.den)).1)) ∧ (((B (e38.den))) = ((shB (zp A B) c y36 (e38.den)).2)))))) ∧ ((n = n) ∧ ((n ≤ n) ∧ (∀ e37 : E, ((0 ≤ e37.den ∧ e37.den < n) → ((((X (e37.den))) = ((X (e37.den)))) ∧ (((Y (e37.den))) = ((Y (e37.den))))))))))))) ∧ (∀ x35 : Int, (((x24.1 ≤ x35 ∧ x35 ≤ c) ∧ se2 X Y A B a c x24.1 x24.2 ∧ x24.2 ≤ x24.1) → (((x24.1 < x35) → ((((0 ≤ (x35 - 1)) ∧ ((x35 - 1) < m))) ∧ (((x35 - 1) < m) ∧ ((((0 ≤ x35) ∧ (x35 < m))) ∧ ((x35 < m) ∧ ((((0 ≤ x35) ∧ (x35 < m))) ∧ ((x35 < m) ∧ ((((0 ≤ (x35 - 1)) ∧ ((x35 - 1) < m))) ∧ (((x35 - 1) < m) ∧ (∃ y39 : Int, (((x24.1 ≤ y39 ∧ y39 ≤ c) ∧ se2 X Y A B a c x24.1 x24.2 ∧ x24.2 ≤ x24.1) ∧ ((((m = m) ∧ ((a = a) ∧ ((c = c) ∧ ((b = b) ∧ ((x24.1 = x24.1) ∧ (((x35 - 1) = y39) ∧ (((-1) ≤ (x35 - 1) ∧ (x35 - 1) ≤ 1048575) → (0 ≤ y39 ∧ y39 ≤ 1048576)))))))) ∧ (((m = m) ∧ (((∀ e42 : E, ((0 ≤ e42.den ∧ e42.den < m ∧ e42.den ≠ (x35 - 1) ∧ e42.den ≠ x35) → ((((shB (zp A B) c x35 (e42.den)).1) = ((shB (zp A B) c y39 (e42.den)).1)) ∧ (((shB (zp A B) c x35 (e42.den)).2) = ((shB (zp A B) c y39 (e42.den)).2))))) ∧ (∀ e43 : E, ((e43.den.toNat = (x35 : Int).toNat ∧ 0 ≤ e43.den ∧ e43.den ≠ (x35 - 1)) → ((((shB (zp A B) c x35 (x35 - 1)).1) = ((shB (zp A B) c y39 (e43.den)).1)) ∧ (((shB (zp A B) c x35 (x35 - 1)).2) = ((shB (zp A B) c y39 (e43.den)).2)))))) ∧ (∀ e41 : E, ((e41.den.toNat = ((x35 - 1) : Int).toNat ∧ 0 ≤ e41.den) → ((((shB (zp A B) c x35 (x35)).1) = ((shB (zp A B) c y39 (e41.den)).1)) ∧ (((shB (zp A B) c x35 (x35)).2) = ((shB (zp A B) c y39 (e41.den)).2))))))) ∧ ((n = n) ∧ ((n ≤ n) ∧ (∀ e40 : E, ((0 ≤ e40.den ∧ e40.den < n) → ((((X (e40.den))) = ((X (e40.den)))) ∧ (((Y (e40.den))) = ((Y (e40.den))))))))))) ∧ (y39.toNat < x35.toNat))))))))))))) ∧ ((x35 ≤ x24.1) → (∃ y44 : (Int → Int) × (Int → Int), ((mrgP X Y A B y44.1 y44.2 a b) ∧ (((m ≤ m) ∧ (∀ e46 : E, ((0 ≤ e46.den ∧ e46.den < m) → ((((shB (zp A B) c x35 (e46.den)).1) = ((y44.1 (e46.den)))) ∧ (((shB (zp A B) c x35 (e46.den)).2) = ((y44.2 (e46.den)))))))) ∧ ((n = n) ∧ ((n ≤ n) ∧ (∀ e45 : E, ((0 ≤ e45.den ∧ e45.den < n) → ((((X (e45.den))) = ((X (e45.den)))) ∧ (((Y (e45.den))) = ((Y (e45.den))))))))))))))))))))))) ∧ (((b - c) ≠ 1) → ((((Int.tdiv (a + b) 2) < c) → ((∃ y48 : Int × Int, ((smI X Y A B a c b y48.1 y48.2) ∧ (((m = m) ∧ ((a = a) ∧ ((c = c) ∧ ((b = b) ∧ (((Int.tdiv (a + b) 2) = (Int.tdiv (a + b) 2)) ∧ ((((Int.tdiv (a + b) 2) + c) = ((Int.tdiv (a + b) 2) + c)) ∧ ((((((Int.tdiv (a + b) 2) + c) - b) = y48.1) ∧ (((-1048576) ≤ (((Int.tdiv (a + b) 2) + c) - b) ∧ (((Int.tdiv (a + b) 2) + c) - b) ≤ 3145728) → (0 ≤ y48.1 ∧ y48.1 ≤ 1048576))) ∧ ((((Int.tdiv (a + b) 2) = y48.2) ∧ ((0 ≤ (Int.tdiv (a + b) 2) ∧ (Int.tdiv (a + b) 2) ≤ 2097152) → (0 ≤ y48.2 ∧ y48.2 ≤ 1048576))) ∧ ((((Int.tdiv (a + b) 2) + c) - 1) = (((Int.tdiv (a + b) 2) + c) - 1)))))))))) ∧ (((m ≤ m) ∧ (∀ e50 : E, ((0 ≤ e50.den ∧ e50.den < m) → ((((A (e50.den))) = ((A (e50.den)))) ∧ (((B (e50.den))) = ((B (e50.den)))))))) ∧ ((n = n) ∧ ((n ≤ n) ∧ (∀ e49 : E, ((0 ≤ e49.den ∧ e49.den < n) → ((((X (e49.den))) = ((X (e49.den)))) ∧ (((Y (e49.den))) = ((Y (e49.den))))))))))))) ∧ (∀ x47 : Int × Int, ((smI X Y A B a c b x47.1 x47.2) → (((x47.1 < x47.2) → ((((0 ≤ ((((Int.tdiv (a + b) 2) + c) - 1) - (Int.tdiv (x47.1 + x47.2) 2))) ∧ (((((Int.tdiv (a + b) 2) + c) - 1) - (Int.tdiv (x47.1 + x47.2) 2)) < m))) ∧ ((((((Int.tdiv (a + b) 2) + c) - 1) - (Int.tdiv (x47.1 + x47.2) 2)) < m) ∧ ((((0 ≤ (Int.tdiv (x47.1 + x47.2) 2)) ∧ ((Int.tdiv (x47.1 + x47.2) 2) < m))) ∧ (((Int.tdiv (x47.1 + x47.2) 2) < m) ∧ ((((0 ≤ ((A ((((Int.tdiv (a + b) 2) + c) - 1) - (Int.tdiv (x47.1 + x47.2) 2)))) ∧ ((A ((((Int.tdiv (a + b) 2) + c) - 1) - (Int.tdiv (x47.1 + x47.2) 2)))) < n) ∧ (0 ≤ ((B ((((Int.tdiv (a + b) 2) + c) - 1) - (Int.tdiv (x47.1 + x47.2) 2)))) ∧ ((B ((((Int.tdiv (a + b) 2) + c) - 1) - (Int.tdiv (x47.1 + x47.2) 2)))) < n)) ∧ (0 ≤ ((A (Int.tdiv (x47.1 + x47.2) 2))) ∧ ((A (Int.tdiv (x47.1 + x47.2) 2))) < n) ∧ (0 ≤ ((B (Int.tdiv (x47.1 + x47.2) 2))) ∧ ((B (Int.tdiv (x47.1 + x47.2) 2))) < n)) ∧ ((((((A ((((Int.tdiv (a + b) 2) + c) - 1) - (Int.tdiv (x47.1 + x47.2) 2)))) = (((A ((((Int.tdiv (a + b) 2) + c) - 1) - (Int.tdiv (x47.1 + x47.2) 2)))))) ∧ (((B ((((Int.tdiv (a + b) 2) + c) - 1) - (Int.tdiv (x47.1 + x47.2) 2)))) = (((B ((((Int.tdiv (a + b) 2) + c) - 1) - (Int.tdiv (x47.1 + x47.2) 2))))))) ∧ ((((A (Int.tdiv (x47.1 + x47.2) 2))) = ((A (Int.tdiv (x47.1 + x47.2) 2)))) ∧ (((B (Int.tdiv (x47.1 + x47.2) 2))) = ((B (Int.tdiv (x47.1 + x47.2) 2)))))) ∧ (((n = n) ∧ ((n ≤ n) ∧ (∀ e51 : E, ((0 ≤ e51.den ∧ e51.den < n) → ((((X (e51.den))) = ((X (e51.den)))) ∧ (((Y (e51.den))) = ((Y (e51.den))))))))) ∧ (((0 ≤ (cmD X Y (((A ((((Int.tdiv (a + b) 2) + c) - 1) - (Int.tdiv (x47.1 + x47.2) 2)))), ((B ((((Int.tdiv (a + b) 2) + c) - 1) - (Int.tdiv (x47.1 + x47.2) 2))))) (((A (Int.tdiv (x47.1 + x47.2) 2))), ((B (Int.tdiv (x47.1 + x47.2) 2)))))) → (∃ y52 : Int × Int, ((smI X Y A B a c b y52.1 y52.2) ∧ ((((m = m) ∧ ((a = a) ∧ ((c = c) ∧ ((b = b) ∧ (((Int.tdiv (a + b) 2) = (Int.tdiv (a + b) 2)) ∧ ((((Int.tdiv (a + b) 2) + c) = ((Int.tdiv (a + b) 2) + c)) ∧ (((((Int.tdiv (x47.1 + x47.2) 2) + 1) = y52.1) ∧ ((1 ≤ ((Int.tdiv (x47.1 + x47.2) 2) + 1) ∧ ((Int.tdiv (x47.1 + x47.2) 2) + 1) ≤ 2097153) → (0 ≤ y52.1 ∧ y52.1 ≤ 1048576))) ∧ ((x47.2 = y52.2) ∧ ((((Int.tdiv (a + b) 2) + c) - 1) = (((Int.tdiv (a + b) 2) + c) - 1)))))))))) ∧ (((m ≤ m) ∧ (∀ e54 : E, ((0 ≤ e54.den ∧ e54.den < m) → ((((A (e54.den))) = ((A (e54.den)))) ∧ (((B (e54.den))) = ((B (e54.den)))))))) ∧ ((n = n) ∧ ((n ≤ n) ∧ (∀ e53 : E, ((0 ≤ e53.den ∧ e53.den < n) → ((((X (e53.den))) = ((X (e53.den)))) ∧ (((Y (e53.den))) = ((Y (e53.den))))))))))) ∧ ((y52.2 - y52.1).toNat < (x47.2 - x47.1).toNat))))) ∧ (((cmD X Y (((A ((((Int.tdiv (a + b) 2) + c) - 1) - (Int.tdiv (x47.1 + x47.2) 2)))), ((B ((((Int.tdiv (a + b) 2) + c) - 1) - (Int.tdiv (x47.1 + x47.2) 2))))) (((A (Int.tdiv (x47.1 + x47.2) 2))), ((B (Int.tdiv (x47.1 + x47.2) 2))))) < 0) → (∃ y55 : Int × Int, ((smI X Y A B a c b y55.1 y55.2) ∧ ((((m = m) ∧ ((a = a) ∧ ((c = c) ∧ ((b = b) ∧ (((Int.tdiv (a + b) 2) = (Int.tdiv (a + b) 2)) ∧ ((((Int.tdiv (a + b) 2) + c) = ((Int.tdiv (a + b) 2) + c)) ∧ ((x47.1 = y55.1) ∧ ((((Int.tdiv (x47.1 + x47.2) 2) = y55.2) ∧ ((0 ≤ (Int.tdiv (x47.1 + x47.2) 2) ∧ (Int.tdiv (x47.1 + x47.2) 2) ≤ 2097152) → (0 ≤ y55.2 ∧ y55.2 ≤ 1048576))) ∧ ((((Int.tdiv (a + b) 2) + c) - 1) = (((Int.tdiv (a + b) 2) + c) - 1)))))))))) ∧ (((m ≤ m) ∧ (∀ e57 : E, ((0 ≤ e57.den ∧ e57.den < m) → ((((A (e57.den))) = ((A (e57.den)))) ∧ (((B (e57.den))) = ((B (e57.den)))))))) ∧ ((n = n) ∧ ((n ≤ n) ∧ (∀ e56 : E, ((0 ≤ e56.den ∧ e56.den < n) → ((((X (e56.den))) = ((X (e56.den)))) ∧ (((Y (e56.den))) = ((Y (e56.den))))))))))) ∧ ((y55.2 - y55.1).toNat < (x47.2 - x47.1).toNat)))))))))))))) ∧ ((x47.2 ≤ x47.1) → (((x47.1 < c) → (((c < (((Int.tdiv (a + b) 2) + c) - x47.1)) → ((edR A B n m ∧ (0 ≤ x47.1 ∧ x47.1 < c ∧ c < (((Int.tdiv (a + b) 2) + c) - x47.1) ∧ (((Int.tdiv (a + b) 2) + c) - x47.1) ≤ m)) ∧ (((m = m) ∧ ((x47.1 = x47.1) ∧ ((c = c) ∧ (((((Int.tdiv (a + b) 2) + c) - x47.1) = ((((Int.tdiv (a + b) 2) + c) - x47.1))) ∧ (((-1048576) ≤ (((Int.tdiv (a + b) 2) + c) - x47.1) ∧ (((Int.tdiv (a + b) 2) + c) - x47.1) ≤ 3145728) → (0 ≤ ((((Int.tdiv (a + b) 2) + c) - x47.1)) ∧ ((((Int.tdiv (a + b) 2) + c) - x47.1)) ≤ 1048576)))))) ∧ ((((m ≤ m) ∧ (∀ e59 : E, ((0 ≤ e59.den ∧ e59.den < m) → ((((A (e59.den))) = ((A (e59.den)))) ∧ (((B (e59.den))) = ((B (e59.den)))))))) ∧ ((n = n) ∧ ((n ≤ n) ∧ (∀ e58 : E, ((0 ≤ e58.den ∧ e58.den < n) → ((((X (e58.den))) = ((X (e58.den)))) ∧ (((Y (e58.den))) = ((Y (e58.den)))))))))) ∧ (((a < x47.1) → (((x47.1 < (Int.tdiv (a + b) 2)) → (((((Int.tdiv (a + b) 2) - a).toNat < M) ∧ (mrgR X Y ((fun ι => (rotF (zp A B) x47.1 c (((Int.tdiv (a + b) 2) + c) - x47.1) (ι)).1)) ((fun ι => (rotF (zp A B) x47.1 c (((Int.tdiv (a + b) 2) + c) - x47.1) (ι)).2)) n m a x47.1 (Int.tdiv (a + b) 2))) ∧ (((m = m) ∧ ((a = a) ∧ ((x47.1 = x47.1) ∧ (((Int.tdiv (a + b) 2) = (Int.tdiv (a + b) 2)) ∧ ((0 ≤ (Int.tdiv (a + b) 2) ∧ (Int.tdiv (a + b) 2) ≤ 2097152) → (0 ≤ (Int.tdiv (a + b) 2) ∧ (Int.tdiv (a + b) 2) ≤ 1048576)))))) ∧ ((((m ≤ m) ∧ (∀ e61 : E, ((0 ≤ e61.den ∧ e61.den < m) → ((((rotF (zp A B) x47.1 c (((Int.tdiv (a + b) 2) + c) - x47.1) (e61.den)).1) = (((rotF (zp A B) x47.1 c (((Int.tdiv (a + b) 2) + c) - x47.1) ((e61.den))).1))) ∧ (((rotF (zp A B) x47.1 c (((Int.tdiv (a + b) 2) + c) - x47.1) (e61.den)).2) = (((rotF (zp A B) x47.1 c (((Int.tdiv (a + b) 2) + c) - x47.1) ((e61.den))).2))))))) ∧ ((n = n) ∧ ((n ≤ n) ∧ (∀ e60 : E, ((0 ≤ e60.den ∧ e60.den < n) → ((((X (e60.den))) = ((X (e60.den)))) ∧ (((Y (e60.den))) = ((Y (e60.den)))))))))) ∧ (∀ x62 : (Int → Int) × (Int → Int), ((mrgP X Y ((fun ι => (rotF (zp A B) x47.1 c (((Int.tdiv (a + b) 2) + c) - x47.1) (ι)).1)) ((fun ι => (rotF (zp A B) x47.1 c (((Int.tdiv (a + b) 2) + c) - x47.1) (ι)).2)) x62.1 x62.2 a (Int.tdiv (a + b) 2)) → ((((Int.tdiv (a + b) 2) < (((Int.tdiv (a + b) 2) + c) - x47.1)) → ((((((Int.tdiv (a + b) 2) + c) - x47.1) < b) → ((((b - (Int.tdiv (a + b) 2)).toNat < M) ∧ (mrgR X Y x62.1 x62.2 n m (Int.tdiv (a + b) 2) (((Int.tdiv (a + b) 2) + c) - x47.1) b)) ∧ (((m = m) ∧ ((((Int.tdiv (a + b) 2) = (Int.tdiv (a + b) 2)) ∧ ((0 ≤ (Int.tdiv (a + b) 2) ∧ (Int.tdiv (a + b) 2) ≤ 2097152) → (0 ≤ (Int.tdiv (a + b) 2) ∧ (Int.tdiv (a + b) 2) ≤ 1048576))) ∧ ((((((Int.tdiv (a + b) 2) + c) - x47.1) = ((((Int.tdiv (a + b) 2) + c) - x47.1))) ∧ (((-1048576) ≤ (((Int.tdiv (a + b) 2) + c) - x47.1) ∧ (((Int.tdiv (a + b) 2) + c) - x47.1) ≤ 3145728) → (0 ≤ ((((Int.tdiv (a + b) 2) + c) - x47.1)) ∧ ((((Int.tdiv (a + b) 2) + c) - x47.1)) ≤ 1048576))) ∧ (b = b)))) ∧ ((((m ≤ m) ∧ (∀ e66 : E, ((0 ≤ e66.den ∧ e66.den < m) → ((((x62.1 (e66.den))) = ((x62.1 (e66.den)))) ∧ (((x62.2 (e66.den))) = ((x62.2 (e66.den)))))))) ∧ ((n = n) ∧ ((n ≤ n) ∧ (∀ e65 : E, ((0 ≤ e65.den ∧ e65.den < n) → ((((X (e65.den))) = ((X (e65.den)))) ∧ (((Y (e65.den))) = ((Y (e65.den)))))))))) ∧ (∀ x67 : (Int → Int) × (Int → Int), ((mrgP X Y x62.1 x62.2 x67.1 x67.2 (Int.tdiv (a + b) 2) b) → (∃ y70 : (Int → Int) × (Int → Int), ((mrgP X Y A B y70.1 y70.2 a b) ∧ (((m ≤ m) ∧ (∀ e72 : E, ((0 ≤ e72.den ∧ e72.den < m) → ((((x67.1 (e72.den))) = ((y70.1 (e72.den)))) ∧ (((x67.2 (e72.den))) = ((y70.2 (e72.den)))))))) ∧ ((n = n) ∧ ((n ≤ n) ∧ (∀ e71 : E, ((0 ≤ e71.den ∧ e71.den < n) → ((((X (e71.den))) = ((X (e71.den)))) ∧ (((Y (e71.den))) = ((Y (e71.den)))))))))))))))))) ∧ ((b ≤ (((Int.tdiv (a + b) 2) + c) - x47.1)) → (∃ y73 : (Int → Int) × (Int → Int), ((mrgP X Y A B y73.1 y73.2 a b) ∧ (((m ≤ m) ∧ (∀ e75 : E, ((0 ≤ e75.den ∧ e75.den < m) → ((((x62.1 (e75.den))) = ((y73.1 (e75.den)))) ∧ (((x62.2 (e75.den))) = ((y73.2 (e75.den)))))))) ∧ ((n = n) ∧ ((n ≤ n) ∧ (∀ e74 : E, ((0 ≤ e74.den ∧ e74.den < n) → ((((X (e74.den))) = ((X (e74.den)))) ∧ (((Y (e74.den))) = ((Y (e74.den))))))))))))))) ∧ (((((Int.tdiv (a + b) 2) + c) - x47.1) ≤ (Int.tdiv (a + b) 2)) → (∃ y76 : (Int → Int) × (Int → Int), ((mrgP X Y A B y76.1 y76.2 a b) ∧ (((m ≤ m) ∧ (∀ e78 : E, ((0 ≤ e78.den ∧ e78.den < m) → ((((x62.1 (e78.den))) = ((y76.1 (e78.den)))) ∧ (((x62.2 (e78.den))) = ((y76.2 (e78.den)))))))) ∧ ((n = n) ∧ ((n ≤ n) ∧ (∀ e77 : E, ((0 ≤ e77.den ∧ e77.den < n) → ((((X (e77.den))) = ((X (e77.den)))) ∧ (((Y (e77.den))) = ((Y (e77.den)))))))))))))))))))) ∧ (((Int.tdiv (a + b) 2) ≤ x47.1) → ((((Int.tdiv (a + b) 2) < (((Int.tdiv (a + b) 2) + c) - x47.1)) → ((((((Int.tdiv (a + b) 2) + c) - x47.1) < b) → ((((b - (Int.tdiv (a + b) 2)).toNat < M) ∧ (mrgR X Y ((fun ι => (rotF (zp A B) x47.1 c (((Int.tdiv (a + b) 2) + c) - x47.1) (ι)).1)) ((fun ι => (rotF (zp A B) x47.1 c (((Int.tdiv (a + b) 2) + c) - x47.1) (ι)).2)) n m (Int.tdiv (a + b) 2) (((Int.tdiv (a + b) 2) + c) - x47.1) b)) ∧ (((m = m) ∧ ((((Int.tdiv (a + b) 2) = (Int.tdiv (a + b) 2)) ∧ ((0 ≤ (Int.tdiv (a + b) 2) ∧ (Int.tdiv (a + b) 2) ≤ 2097152) → (0 ≤ (Int.tdiv (a + b) 2) ∧ (Int.tdiv (a + b) 2) ≤ 1048576))) ∧ ((((((Int.tdiv (a + b) 2) + c) - x47.1) = ((((Int.tdiv (a + b) 2) + c) - x47.1))) ∧ (((-1048576) ≤ (((Int.tdiv (a + b) 2) + c) - x47.1) ∧ (((Int.tdiv (a + b) 2) + c) - x47.1) ≤ 3145728) → (0 ≤ ((((Int.tdiv (a + b) 2) + c) - x47.1)) ∧ ((((Int.tdiv (a + b) 2) + c) - x47.1)) ≤ 1048576))) ∧ (b = b)))) ∧ ((((m ≤ m) ∧ (∀ e80 : E, ((0 ≤ e80.den ∧ e80.den < m) → ((((rotF (zp A B) x47.1 c (((Int.tdiv (a + b) 2) + c) - x47.1) (e80.den)).1) = (((rotF (zp A B) x47.1 c (((Int.tdiv (a + b) 2) + c) - x47.1) ((e80.den))).1))) ∧ (((rotF (zp A B) x47.1 c (((Int.tdiv (a + b) 2) + c) - x47.1) (e80.den)).2) = (((rotF (zp A B) x47.1 c (((Int.tdiv (a + b) 2) + c) - x47.1) ((e80.den))).2))))))) ∧ ((n = n) ∧ ((n ≤ n) ∧ (∀ e79 : E, ((0 ≤ e79.den ∧ e79.den < n) → ((((X (e79.den))) = ((X (e79.den)))) ∧ (((Y (e79.den))) = ((Y (e79.den)))))))))) ∧ (∀ x81 : (Int → Int) × (Int → Int), ((mrgP X Y ((fun ι => (rotF (zp A B) x47.1 c (((Int.tdiv (a + b) 2) + c) - x47.1) (ι)).1)) ((fun ι => (rotF (zp A B) x47.1 c (((Int.tdiv (a + b) 2) + c) - x47.1) (ι)).2)) x81.1 x81.2 (Int.tdiv (a + b) 2) b) → (∃ y84 : (Int → Int) × (Int → Int), ((mrgP X Y A B y84.1 y84.2 a b) ∧ (((m ≤ m) ∧ (∀ e86 : E, ((0 ≤ e86.den ∧ e86.den < m) → ((((x81.1 (e86.den))) = ((y84.1 (e86.den)))) ∧ (((x81.2 (e86.den))) = ((y84.2 (e86.den)))))))) ∧ ((n = n) ∧ ((n ≤ n) ∧ (∀ e85 : E, ((0 ≤ e85.den ∧ e85.den < n) → ((((X (e85.den))) = ((X (e85.den)))) ∧ (((Y (e85.den))) = ((Y (e85.den)))))))))))))))))) ∧ ((b ≤ (((Int.tdiv (a + b) 2) + c) - x47.1)) → (∃ y87 : (Int → Int) × (Int → Int), ((mrgP X Y A B y87.1 y87.2 a b) ∧ (((m ≤ m) ∧ (∀ e89 : E, ((0 ≤ e89.den ∧ e89.den < m) → ((((rotF (zp A B) x47.1 c (((Int.tdiv (a + b) 2) + c) - x47.1) (e89.den)).1) = ((y87.1 (e89.den)))) ∧ (((rotF (zp A B) x47.1 c (((Int.tdiv (a + b) 2) + c) - x47.1) (e89.den)).2) = ((y87.2 (e89.den)))))))) ∧ ((n = n) ∧ ((n ≤ n) ∧ (∀ e88 : E, ((0 ≤ e88.den ∧ e88.den < n) → ((((X (e88.den))) = ((X (e88.den)))) ∧ (((Y (e88.den))) = ((Y (e88.den))))))))))))))) ∧ (((((Int.tdiv (a + b) 2) + c) - x47.1) ≤ (Int.tdiv (a + b) 2)) → (∃ y90 : (Int → Int) × (Int → Int), ((mrgP X Y A B y90.1 y90.2 a b) ∧ (((m ≤ m) ∧ (∀ e92 : E, ((0 ≤ e92.den ∧ e92.den < m) → ((((rotF (zp A B) x47.1 c (((Int.tdiv (a + b) 2) + c) - x47.1) (e92.den)).1) = ((y90.1 (e92.den)))) ∧ (((rotF (zp A B) x47.1 c (((Int.tdiv (a + b) 2) + c) - x47.1) (e92.den)).2) = ((y90.2 (e92.den)))))))) ∧ ((n = n) ∧ ((n ≤ n) ∧ (∀ e91 : E, ((0 ≤ e91.den ∧ e91.den < n) → ((((X (e91.den))) = ((X (e91.den)))) ∧ (((Y (e91.den))) = ((Y (e91.den))))))))))))))))) ∧ ((x47.1 ≤ a) → ((((Int.tdiv (a + b) 2) < (((Int.tdiv (a + b) 2) + c) - x47.1)) → ((((((Int.tdiv (a + b) 2) + c) - x47.1) < b) → ((((b - (Int.tdiv (a + b) 2)).toNat < M) ∧ (mrgR X Y ((fun ι => (rotF (zp A B) x47.1 c (((Int.tdiv (a + b) 2) + c) - x47.1) (ι)).1)) ((fun ι => (rotF (zp A B) x47.1 c (((Int.tdiv (a + b) 2) + c) - x47.1) (ι)).2)) n m (Int.tdiv (a + b) 2) (((Int.tdiv (a + b) 2) + c) - x47.1) b)) ∧ (((m = m) ∧ ((((Int.tdiv (a + b) 2) = (Int.tdiv (a + b) 2)) ∧ ((0 ≤ (Int.tdiv (a + b) 2) ∧ (Int.tdiv (a + b) 2) ≤ 2097152) → (0 ≤ (Int.tdiv (a + b) 2) ∧ (Int.tdiv (a + b) 2) ≤ 1048576))) ∧ ((((((Int.tdiv (a + b) 2) + c) - x47.1) = ((((Int.tdiv (a + b) 2) + c) - x47.1))) ∧ (((-1048576) ≤ (((Int.tdiv (a + b) 2) + c) - x47.1) ∧ (((Int.tdiv (a + b) 2) + c) - x47.1) ≤ 3145728) → (0 ≤ ((((Int.tdiv (a + b) 2) + c) - x47.1)) ∧ ((((Int.tdiv (a + b) 2) + c) - x47.1)) ≤ 1048576))) ∧ (b = b)))) ∧ ((((m ≤ m) ∧ (∀ e94 : E, ((0 ≤ e94.den ∧ e94.den < m) → ((((rotF (zp A B) x47.1 c (((Int.tdiv (a + b) 2) + c) - x47.1) (e94.den)).1) = (((rotF (zp A B) x47.1 c (((Int.tdiv (a + b) 2) + c) - x47.1) ((e94.den))).1))) ∧ (((rotF (zp A B) x47.1 c (((Int.tdiv (a + b) 2) + c) - x47.1) (e94.den)).2) = (((rotF (zp A B) x47.1 c (((Int.tdiv (a + b) 2) + c) - x47.1) ((e94.den))).2))))))) ∧ ((n = n) ∧ ((n ≤ n) ∧ (∀ e93 : E, ((0 ≤ e93.den ∧ e93.den < n) → ((((X (e93.den))) = ((X (e93.den)))) ∧ (((Y (e93.den))) = ((Y (e93.den)))))))))) ∧ (∀ x95 : (Int → Int) × (Int → Int), ((mrgP X Y ((fun ι => (rotF (zp A B) x47.1 c (((Int.tdiv (a + b) 2) + c) - x47.1) (ι)).1)) ((fun ι => (rotF (zp A B) x47.1 c (((Int.tdiv (a + b) 2) + c) - x47.1) (ι)).2)) x95.1 x95.2 (Int.tdiv (a + b) 2) b) → (∃ y98 : (Int → Int) × (Int → Int), ((mrgP X Y A B y98.1 y98.2 a b) ∧ (((m ≤ m) ∧ (∀ e100 : E, ((0 ≤ e100.den ∧ e100.den < m) → ((((x95.1 (e100.den))) = ((y98.1 (e100.den)))) ∧ (((x95.2 (e100.den))) = ((y98.2 (e100.den)))))))) ∧ ((n = n) ∧ ((n ≤ n) ∧ (∀ e99 : E, ((0 ≤ e99.den ∧ e99.den < n) → ((((X (e99.den))) = ((X (e99.den)))) ∧ (((Y (e99.den))) = ((Y (e99.den)))))))))))))))))) ∧ ((b ≤ (((Int.tdiv (a + b) 2) + c) - x47.1)) → (∃ y101 : (Int → Int) × (Int → Int), ((mrgP X Y A B y101.1 y101.2 a b) ∧ (((m ≤ m) ∧ (∀ e103 : E, ((0 ≤ e103.den ∧ e103.den < m) → ((((rotF (zp A B) x47.1 c (((Int.tdiv (a + b) 2) + c) - x47.1) (e103.den)).1) = ((y101.1 (e103.den)))) ∧ (((rotF (zp A B) x47.1 c (((Int.tdiv (a + b) 2) + c) - x47.1) (e103.den)).2) = ((y101.2 (e103.den)))))))) ∧ ((n = n) ∧ ((n ≤ n) ∧ (∀ e102 : E, ((0 ≤ e102.den ∧ e102.den < n) → ((((X (e102.den))) = ((X (e102.den)))) ∧ (((Y (e102.den))) = ((Y (e102.den))))))))))))))) ∧ (((((Int.tdiv (a + b) 2) + c) - x47.1) ≤ (Int.tdiv (a + b) 2)) → (∃ y104 : (Int → Int) × (Int → Int), ((mrgP X Y A B y104.1 y104.2 a b) ∧ (((m ≤ m) ∧ (∀ e106 : E, ((0 ≤ e106.den ∧ e106.den < m) → ((((rotF (zp A B) x47.1 c (((Int.tdiv (a + b) 2) + c) - x47.1) (e106.den)).1) = ((y104.1 (e106.den)))) ∧ (((rotF (zp A B) x47.1 c (((Int.tdiv (a + b) 2) + c) - x47.1) (e106.den)).2) = ((y104.2 (e106.den)))))))) ∧ ((n = n) ∧ ((n ≤ n) ∧ (∀ e105 : E, ((0 ≤ e105.den ∧ e105.den < n) → ((((X (e105.den))) = ((X (e105.den)))) ∧ (((Y (e105.den))) = ((Y (e105.den)))))))))))))))))))) ∧ (((((Int.tdiv (a + b) 2) + c) - x47.1) ≤ c) → (((a < x47.1) → (((x47.1 < (Int.tdiv (a + b) 2)) → (((((Int.tdiv (a + b) 2) - a).toNat < M) ∧ (mrgR X Y A B n m a x47.1 (Int.tdiv (a + b) 2))) ∧ (((m = m) ∧ ((a = a) ∧ ((x47.1 = x47.1) ∧ (((Int.tdiv (a + b) 2) = (Int.tdiv (a + b) 2)) ∧ ((0 ≤ (Int.tdiv (a + b) 2) ∧ (Int.tdiv (a + b) 2) ≤ 2097152) → (0 ≤ (Int.tdiv (a + b) 2) ∧ (Int.tdiv (a + b) 2) ≤ 1048576)))))) ∧ ((((m ≤ m) ∧ (∀ e108 : E, ((0 ≤ e108.den ∧ e108.den < m) → ((((A (e108.den))) = ((A (e108.den)))) ∧ (((B (e108.den))) = ((B (e108.den)))))))) ∧ ((n = n) ∧ ((n ≤ n) ∧ (∀ e107 : E, ((0 ≤ e107.den ∧ e107.den < n) → ((((X (e107.den))) = ((X (e107.den)))) ∧ (((Y (e107.den))) = ((Y (e107.den)))))))))) ∧ (∀ x109 : (Int → Int) × (Int → Int), ((mrgP X Y A B x109.1 x109.2 a (Int.tdiv (a + b) 2)) → ((((Int.tdiv (a + b) 2) < (((Int.tdiv (a + b) 2) + c) - x47.1)) → ((((((Int.tdiv (a + b) 2) + c) - x47.1) < b) → ((((b - (Int.tdiv (a + b) 2)).toNat < M) ∧ (mrgR X Y x109.1 x109.2 n m (Int.tdiv (a + b) 2) (((Int.tdiv (a + b) 2) + c) - x47.1) b)) ∧ (((m = m) ∧ ((((Int.tdiv (a + b) 2) = (Int.tdiv (a + b) 2)) ∧ ((0 ≤ (Int.tdiv (a + b) 2) ∧ (Int.tdiv (a + b) 2) ≤ 2097152) → (0 ≤ (Int.tdiv (a + b) 2) ∧ (Int.tdiv (a + b) 2) ≤ 1048576))) ∧ ((((((Int.tdiv (a + b) 2) + c) - x47.1) = ((((Int.tdiv (a + b) 2) + c) - x47.1))) ∧ (((-1048576) ≤ (((Int.tdiv (a + b) 2) + c) - x47.1) ∧ (((Int.tdiv (a + b) 2) + c) - x47.1) ≤ 3145728) → (0 ≤ ((((Int.tdiv (a + b) 2) + c) - x47.1)) ∧ ((((Int.tdiv (a + b) 2) + c) - x47.1)) ≤ 1048576))) ∧ (b = b)))) ∧ ((((m ≤ m) ∧ (∀ e113 : E, ((0 ≤ e113.den ∧ e113.den < m) → ((((x109.1 (e113.den))) = ((x109.1 (e113.den)))) ∧ (((x109.2 (e113.den))) = ((x109.2 (e113.den)))))))) ∧ ((n = n) ∧ ((n ≤ n) ∧ (∀ e112 : E, ((0 ≤ e112.den ∧ e112.den < n) → ((((X (e112.den))) = ((X (e112.den)))) ∧ (((Y (e112.den))) = ((Y (e112.den)))))))))) ∧ (∀ x114 : (Int → Int) × (Int → Int), ((mrgP X Y x109.1 x109.2 x114.1 x114.2 (Int.tdiv (a + b) 2) b) → (∃ y117 : (Int → Int) × (Int → Int), ((mrgP X Y A B y117.1 y117.2 a b) ∧ (((m ≤ m) ∧ (∀ e119 : E, ((0 ≤ e119.den ∧ e119.den < m) → ((((x114.1 (e119.den))) = ((y117.1 (e119.den)))) ∧ (((x114.2 (e119.den))) = ((y117.2 (e119.den)))))))) ∧ ((n = n) ∧ ((n ≤ n) ∧ (∀ e118 : E, ((0 ≤ e118.den ∧ e118.den < n) → ((((X (e118.den))) = ((X (e118.den)))) ∧ (((Y (e118.den))) = ((Y (e118.den)))))))))))))))))) ∧ ((b ≤ (((Int.tdiv (a + b) 2) + c) - x47.1)) → (∃ y120 : (Int → Int) × (Int → Int), ((mrgP X Y A B y120.1 y120.2 a b) ∧ (((m ≤ m) ∧ (∀ e122 : E, ((0 ≤ e122.den ∧ e122.den < m) → ((((x109.1 (e122.den))) = ((y120.1 (e122.den)))) ∧ (((x109.2 (e122.den))) = ((y120.2 (e122.den)))))))) ∧ ((n = n) ∧ ((n ≤ n) ∧ (∀ e121 : E, ((0 ≤ e121.den ∧ e121.den < n) → ((((X (e121.den))) = ((X (e121.den)))) ∧ (((Y (e121.den))) = ((Y (e121.den))))))))))))))) ∧ (((((Int.tdiv (a + b) 2) + c) - x47.1) ≤ (Int.tdiv (a + b) 2)) → (∃ y123 : (Int → Int) × (Int → Int), ((mrgP X Y A B y123.1 y123.2 a b) ∧ (((m ≤ m) ∧ (∀ e125 : E, ((0 ≤ e125.den ∧ e125.den < m) → ((((x109.1 (e125.den))) = ((y123.1 (e125.den)))) ∧ (((x109.2 (e125.den))) = ((y123.2 (e125.den)))))))) ∧ ((n = n) ∧ ((n ≤ n) ∧ (∀ e124 : E, ((0 ≤ e124.den ∧ e124.den < n) → ((((X (e124.den))) = ((X (e124.den)))) ∧ (((Y (e124.den))) = ((Y (e124.den)))))))))))))))))))) ∧ (((Int.tdiv (a + b) 2) ≤ x47.1) → ((((Int.tdiv (a + b) 2) < (((Int.tdiv (a + b) 2) + c) - x47.1)) → ((((((Int.tdiv (a + b) 2) + c) - x47.1) < b) → ((((b - (Int.tdiv (a + b) 2)).toNat < M) ∧ (mrgR X Y A B n m (Int.tdiv (a + b) 2) (((Int.tdiv (a + b) 2) + c) - x47.1) b)) ∧ (((m = m) ∧ ((((Int.tdiv (a + b) 2) = (Int.tdiv (a + b) 2)) ∧ ((0 ≤ (Int.tdiv (a + b) 2) ∧ (Int.tdiv (a + b) 2) ≤ 2097152) → (0 ≤ (Int.tdiv (a + b) 2) ∧ (Int.tdiv (a + b) 2) ≤ 1048576))) ∧ ((((((Int.tdiv (a + b) 2) + c) - x47.1) = ((((Int.tdiv (a + b) 2) + c) - x47.1))) ∧ (((-1048576) ≤ (((Int.tdiv (a + b) 2) + c) - x47.1) ∧ (((Int.tdiv (a + b) 2) + c) - x47.1) ≤ 3145728) → (0 ≤ ((((Int.tdiv (a + b) 2) + c) - x47.1)) ∧ ((((Int.tdiv (a + b) 2) + c) - x47.1)) ≤ 1048576))) ∧ (b = b)))) ∧ ((((m ≤ m) ∧ (∀ e127 : E, ((0 ≤ e127.den ∧ e127.den < m) → ((((A (e127.den))) = ((A (e127.den)))) ∧ (((B (e127.den))) = ((B (e127.den)))))))) ∧ ((n = n) ∧ ((n ≤ n) ∧ (∀ e126 : E, ((0 ≤ e126.den ∧ e126.den < n) → ((((X (e126.den))) = ((X (e126.den)))) ∧ (((Y (e126.den))) = ((Y (e126.den)))))))))) ∧ (∀ x128 : (Int → Int) × (Int → Int), ((mrgP X Y A B x128.1 x128.2 (Int.tdiv (a + b) 2) b) → (∃ y131 : (Int → Int) × (Int → Int), ((mrgP X Y A B y131.1 y131.2 a b) ∧ (((m ≤ m) ∧ (∀ e133 : E, ((0 ≤ e133.den ∧ e133.den < m) → ((((x128.1 (e133.den))) = ((y131.1 (e133.den)))) ∧ (((x128.2 (e133.den))) = ((y131.2 (e133.den)))))))) ∧ ((n = n) ∧ ((n ≤ n) ∧ (∀ e132 : E, ((0 ≤ e132.den ∧ e132.den < n) → ((((X (e132.den))) = ((X (e132.den)))) ∧ (((Y (e132.den))) = ((Y (e132.den)))))))))))))))))) ∧ ((b ≤ (((Int.tdiv (a + b) 2) + c) - x47.1)) → (∃ y134 : (Int → Int) × (Int → Int), ((mrgP X Y A B y134.1 y134.2 a b) ∧ (((m ≤ m) ∧ (∀ e136 : E, ((0 ≤ e136.den ∧ e136.den < m) → ((((A (e136.den))) = ((y134.1 (e136.den)))) ∧ (((B (e136.den))) = ((y134.2 (e136.den)))))))) ∧ ((n = n) ∧ ((n ≤ n) ∧ (∀ e135 : E, ((0 ≤ e135.den ∧ e135.den < n) → ((((X (e135.den))) = ((X (e135.den)))) ∧ (((Y (e135.den))) = ((Y (e135.den))))))))))))))) ∧ (((((Int.tdiv (a + b) 2) + c) - x47.1) ≤ (Int.tdiv (a + b) 2)) → (∃ y137 : (Int → Int) × (Int → Int), ((mrgP X Y A B y137.1 y137.2 a b) ∧ (((m ≤ m) ∧ (∀ e139 : E, ((0 ≤ e139.den ∧ e139.den < m) → ((((A (e139.den))) = ((y137.1 (e139.den)))) ∧ (((B (e139.den))) = ((y137.2 (e139.den)))))))) ∧ ((n = n) ∧ ((n ≤ n) ∧ (∀ e138 : E, ((0 ≤ e138.den ∧ e138.den < n) → ((((X (e138.den))) = ((X (e138.den)))) ∧ (((Y (e138.den))) = ((Y (e138.den))))))))))))))))) ∧ ((x47.1 ≤ a) → ((((Int.tdiv (a + b) 2) < (((Int.tdiv (a + b) 2) + c) - x47.1)) → ((((((Int.tdiv (a + b) 2) + c) - x47.1) < b) → ((((b - (Int.tdiv (a + b) 2)).toNat < M) ∧ (mrgR X Y A B n m (Int.tdiv (a + b) 2) (((Int.tdiv (a + b) 2) + c) - x47.1) b)) ∧ (((m = m) ∧ ((((Int.tdiv (a + b) 2) = (Int.tdiv (a + b) 2)) ∧ ((0 ≤ (Int.tdiv (a + b) 2) ∧ (Int.tdiv (a + b) 2) ≤ 2097152) → (0 ≤ (Int.tdiv (a + b) 2) ∧ (Int.tdiv (a + b) 2) ≤ 1048576))) ∧ ((((((Int.tdiv (a + b) 2) + c) - x47.1) = ((((Int.tdiv (a + b) 2) + c) - x47.1))) ∧ (((-1048576) ≤ (((Int.tdiv (a + b) 2) + c) - x47.1) ∧ (((Int.tdiv (a + b) 2) + c) - x47.1) ≤ 3145728) → (0 ≤ ((((Int.tdiv (a + b) 2) + c) - x47.1)) ∧ ((((Int.tdiv (a + b) 2) + c) - x47.1)) ≤ 1048576))) ∧ (b = b)))) ∧ ((((m ≤ m) ∧ (∀ e141 : E, ((0 ≤ e141.den ∧ e141.den < m) → ((((A (e141.den))) = ((A (e141.den)))) ∧ (((B (e141.den))) = ((B (e141.den)))))))) ∧ ((n = n) ∧ ((n ≤ n) ∧ (∀ e140 : E, ((0 ≤ e140.den ∧ e140.den < n) → ((((X (e140.den))) = ((X (e140.den)))) ∧ (((Y (e140.den))) = ((Y (e140.den)))))))))) ∧ (∀ x142 : (Int → Int) × (Int → Int), ((mrgP X Y A B x142.1 x142.2 (Int.tdiv (a + b) 2) b) → (∃ y145 : (Int → Int) × (Int → Int), ((mrgP X Y A B y145.1 y145.2 a b) ∧ (((m ≤ m) ∧ (∀ e147 : E, ((0 ≤ e147.den ∧ e147.den < m) → ((((x142.1 (e147.den))) = ((y145.1 (e147.den)))) ∧ (((x142.2 (e147.den))) = ((y145.2 (e147.den)))))))) ∧ ((n = n) ∧ ((n ≤ n) ∧ (∀ e146 : E, ((0 ≤ e146.den ∧ e146.den < n) → ((((X (e146.den))) = ((X (e146.den)))) ∧ (((Y (e146.den))) = ((Y (e146.den)))))))))))))))))) ∧ ((b ≤ (((Int.tdiv (a + b) 2) + c) - x47.1)) → (∃ y148 : (Int → Int) × (Int → Int), ((mrgP X Y A B y148.1 y148.2 a b) ∧ (((m ≤ m) ∧ (∀ e150 : E, ((0 ≤ e150.den ∧ e150.den < m) → ((((A (e150.den))) = ((y148.1 (e150.den)))) ∧ (((B (e150.den))) = ((y148.2 (e150.den)))))))) ∧ ((n = n) ∧ ((n ≤ n) ∧ (∀ e149 : E, ((0 ≤ e149.den ∧ e149.den < n) → ((((X (e149.den))) = ((X (e149.den)))) ∧ (((Y (e149.den))) = ((Y (e149.den))))))))))))))) ∧ (((((Int.tdiv (a + b) 2) + c) - x47.1) ≤ (Int.tdiv (a + b) 2)) → (∃ y151 : (Int → Int) × (Int → Int), ((mrgP X Y A B y151.1 y151.2 a b) ∧ (((m ≤ m) ∧ (∀ e153 : E, ((0 ≤ e153.den ∧ e153.den < m) → ((((A (e153.den))) = ((y151.1 (e153.den)))) ∧ (((B (e153.den))) = ((y151.2 (e153.den)))))))) ∧ ((n = n) ∧ ((n ≤ n) ∧ (∀ e152 : E, ((0 ≤ e152.den ∧ e152.den < n) → ((((X (e152.den))) = ((X (e152.den)))) ∧ (((Y (e152.den))) = ((Y (e152.den))))))))))))))))))) ∧ ((c ≤ x47.1) → (((a < x47.1) → (((x47.1 < (Int.tdiv (a + b) 2)) → (((((Int.tdiv (a + b) 2) - a).toNat < M) ∧ (mrgR X Y A B n m a x47.1 (Int.tdiv (a + b) 2))) ∧ (((m = m) ∧ ((a = a) ∧ ((x47.1 = x47.1) ∧ (((Int.tdiv (a + b) 2) = (Int.tdiv (a + b) 2)) ∧ ((0 ≤ (Int.tdiv (a + b) 2) ∧ (Int.tdiv (a + b) 2) ≤ 2097152) → (0 ≤ (Int.tdiv (a + b) 2) ∧ (Int.tdiv (a + b) 2) ≤ 1048576)))))) ∧ ((((m ≤ m) ∧ (∀ e155 : E, ((0 ≤ e155.den ∧ e155.den < m) → ((((A (e155.den))) = ((A (e155.den)))) ∧ (((B (e155.den))) = ((B (e155.den)))))))) ∧ ((n = n) ∧ ((n ≤ n) ∧ (∀ e154 : E, ((0 ≤ e154.den ∧ e154.den < n) → ((((X (e154.den))) = ((X (e154.den)))) ∧ (((Y (e154.den))) = ((Y (e154.den)))))))))) ∧ (∀ x156 : (Int → Int) × (Int → Int), ((mrgP X Y A B x156.1 x156.2 a (Int.tdiv (a + b) 2)) → ((((Int.tdiv (a + b) 2) < (((Int.tdiv (a + b) 2) + c) - x47.1)) → ((((((Int.tdiv (a + b) 2) + c) - x47.1) < b) → ((((b - (Int.tdiv (a + b) 2)).toNat < M) ∧ (mrgR X Y x156.1 x156.2 n m (Int.tdiv (a + b) 2) (((Int.tdiv (a + b) 2) + c) - x47.1) b)) ∧ (((m = m) ∧ ((((Int.tdiv (a + b) 2) = (Int.tdiv (a + b) 2)) ∧ ((0 ≤ (Int.tdiv (a + b) 2) ∧ (Int.tdiv (a + b) 2) ≤ 2097152) → (0 ≤ (Int.tdiv (a + b) 2) ∧ (Int.tdiv (a + b) 2) ≤ 1048576))) ∧ ((((((Int.tdiv (a + b) 2) + c) - x47.1) = ((((Int.tdiv (a + b) 2) + c) - x47.1))) ∧ (((-1048576) ≤ (((Int.tdiv (a + b) 2) + c) - x47.1) ∧ (((Int.tdiv (a + b) 2) + c) - x47.1) ≤ 3145728) → (0 ≤ ((((Int.tdiv (a + b) 2) + c) - x47.1)) ∧ ((((Int.tdiv (a + b) 2) + c) - x47.1)) ≤ 1048576))) ∧ (b = b)))) ∧ ((((m ≤ m) ∧ (∀ e160 : E, ((0 ≤ e160.den ∧ e160.den < m) → ((((x156.1 (e160.den))) = ((x156.1 (e160.den)))) ∧ (((x156.2 (e160.den))) = ((x156.2 (e160.den)))))))) ∧ ((n = n) ∧ ((n ≤ n) ∧ (∀ e159 : E, ((0 ≤ e159.den ∧ e159.den < n) → ((((X (e159.den))) = ((X (e159.den)))) ∧ (((Y (e159.den))) = ((Y (e159.den)))))))))) ∧ (∀ x161 : (Int → Int) × (Int → Int), ((mrgP X Y x156.1 x156.2 x161.1 x161.2 (Int.tdiv (a + b) 2) b) → (∃ y164 : (Int → Int) × (Int → Int), ((mrgP X Y A B y164.1 y164.2 a b) ∧ (((m ≤ m) ∧ (∀ e166 : E, ((0 ≤ e166.den ∧ e166.den < m) → ((((x161.1 (e166.den))) = ((y164.1 (e166.den)))) ∧ (((x161.2 (e166.den))) = ((y164.2 (e166.den)))))))) ∧ ((n = n) ∧ ((n ≤ n) ∧ (∀ e165 : E, ((0 ≤ e165.den ∧ e165.den < n) → ((((X (e165.den))) = ((X (e165.den)))) ∧ (((Y (e165.den))) = ((Y (e165.den)))))))))))))))))) ∧ ((b ≤ (((Int.tdiv (a + b) 2) + c) - x47.1)) → (∃ y167 : (Int → Int) × (Int → Int), ((mrgP X Y A B y167.1 y167.2 a b) ∧ (((m ≤ m) ∧ (∀ e169 : E, ((0 ≤ e169.den ∧ e169.den < m) → ((((x156.1 (e169.den))) = ((y167.1 (e169.den)))) ∧ (((x156.2 (e169.den))) = ((y167.2 (e169.den)))))))) ∧ ((n = n) ∧ ((n ≤ n) ∧ (∀ e168 : E, ((0 ≤ e168.den ∧ e168.den < n) → ((((X (e168.den))) = ((X (e168.den)))) ∧ (((Y (e168.den))) = ((Y (e168.den))))))))))))))) ∧ (((((Int.tdiv (a + b) 2) + c) - x47.1) ≤ (Int.tdiv (a + b) 2)) → (∃ y170 : (Int → Int) × (Int → Int), ((mrgP X Y A B y170.1 y170.2 a b) ∧ (((m ≤ m) ∧ (∀ e172 : E, ((0 ≤ e172.den ∧ e172.den < m) → ((((x156.1 (e172.den))) = ((y170.1 (e172.den)))) ∧ (((x156.2 (e172.den))) = ((y170.2 (e172.den)))))))) ∧ ((n = n) ∧ ((n ≤ n) ∧ (∀ e171 : E, ((0 ≤ e171.den ∧ e171.den < n) → ((((X (e171.den))) = ((X (e171.den)))) ∧ (((Y (e171.den))) = ((Y (e171.den)))))))))))))))))))) ∧ (((Int.tdiv (a + b) 2) ≤ x47.1) → ((((Int.tdiv (a + b) 2) < (((Int.tdiv (a + b) 2) + c) - x47.1)) → ((((((Int.tdiv (a + b) 2) + c) - x47.1) < b) → ((((b - (Int.tdiv (a + b) 2)).toNat < M) ∧ (mrgR X Y A B n m (Int.tdiv (a + b) 2) (((Int.tdiv (a + b) 2) + c) - x47.1) b)) ∧ (((m = m) ∧ ((((Int.tdiv (a + b) 2) = (Int.tdiv (a + b) 2)) ∧ ((0 ≤ (Int.tdiv (a + b) 2) ∧ (Int.tdiv (a + b) 2) ≤ 2097152) → (0 ≤ (Int.tdiv (a + b) 2) ∧ (Int.tdiv (a + b) 2) ≤ 1048576))) ∧ ((((((Int.tdiv (a + b) 2) + c) - x47.1) = ((((Int.tdiv (a + b) 2) + c) - x47.1))) ∧ (((-1048576) ≤ (((Int.tdiv (a + b) 2) + c) - x47.1) ∧ (((Int.tdiv (a + b) 2) + c) - x47.1) ≤ 3145728) → (0 ≤ ((((Int.tdiv (a + b) 2) + c) - x47.1)) ∧ ((((Int.tdiv (a + b) 2) + c) - x47.1)) ≤ 1048576))) ∧ (b = b)))) ∧ ((((m ≤ m) ∧ (∀ e174 : E, ((0 ≤ e174.den ∧ e174.den < m) → ((((A (e174.den))) = ((A (e174.den)))) ∧ (((B (e174.den))) = ((B (e174.den)))))))) ∧ ((n = n) ∧ ((n ≤ n) ∧ (∀ e173 : E, ((0 ≤ e173.den ∧ e173.den < n) → ((((X (e173.den))) = ((X (e173.den)))) ∧ (((Y (e173.den))) = ((Y (e173.den)))))))))) ∧ (∀ x175 : (Int → Int) × (Int → Int), ((mrgP X Y A B x175.1 x175.2 (Int.tdiv (a + b) 2) b) → (∃ y178 : (Int → Int) × (Int → Int), ((mrgP X Y A B y178.1 y178.2 a b) ∧ (((m ≤ m) ∧ (∀ e180 : E, ((0 ≤ e180.den ∧ e180.den < m) → ((((x175.1 (e180.den))) = ((y178.1 (e180.den)))) ∧ (((x175.2 (e180.den))) = ((y178.2 (e180.den)))))))) ∧ ((n = n) ∧ ((n ≤ n) ∧ (∀ e179 : E, ((0 ≤ e179.den ∧ e179.den < n) → ((((X (e179.den))) = ((X (e179.den)))) ∧ (((Y (e179.den))) = ((Y (e179.den)))))))))))))))))) ∧ ((b ≤ (((Int.tdiv (a + b) 2) + c) - x47.1)) → (∃ y181 : (Int → Int) × (Int → Int), ((mrgP X Y A B y181.1 y181.2 a b) ∧ (((m ≤ m) ∧ (∀ e183 : E, ((0 ≤ e183.den ∧ e183.den < m) → ((((A (e183.den))) = ((y181.1 (e183.den)))) ∧ (((B (e183.den))) = ((y181.2 (e183.den)))))))) ∧ ((n = n) ∧ ((n ≤ n) ∧ (∀ e182 : E, ((0 ≤ e182.den ∧ e182.den < n) → ((((X (e182.den))) = ((X (e182.den)))) ∧ (((Y (e182.den))) = ((Y (e182.den))))))))))))))) ∧ (((((Int.tdiv (a + b) 2) + c) - x47.1) ≤ (Int.tdiv (a + b) 2)) → (∃ y184 : (Int → Int) × (Int → Int), ((mrgP X Y A B y184.1 y184.2 a b) ∧ (((m ≤ m) ∧ (∀ e186 : E, ((0 ≤ e186.den ∧ e186.den < m) → ((((A (e186.den))) = ((y184.1 (e186.den)))) ∧ (((B (e186.den))) = ((y184.2 (e186.den)))))))) ∧ ((n = n) ∧ ((n ≤ n) ∧ (∀ e185 : E, ((0 ≤ e185.den ∧ e185.den < n) → ((((X (e185.den))) = ((X (e185.den)))) ∧ (((Y (e185.den))) = ((Y (e185.den))))))))))))))))) ∧ ((x47.1 ≤ a) → ((((Int.tdiv (a + b) 2) < (((Int.tdiv (a + b) 2) + c) - x47.1)) → ((((((Int.tdiv (a + b) 2) + c) - x47.1) < b) → ((((b - (Int.tdiv (a + b) 2)).toNat < M) ∧ (mrgR X Y A B n m (Int.tdiv (a + b) 2) (((Int.tdiv (a + b) 2) + c) - x47.1) b)) ∧ (((m = m) ∧ ((((Int.tdiv (a + b) 2) = (Int.tdiv (a + b) 2)) ∧ ((0 ≤ (Int.tdiv (a + b) 2) ∧ (Int.tdiv (a + b) 2) ≤ 2097152) → (0 ≤ (Int.tdiv (a + b) 2) ∧ (Int.tdiv (a + b) 2) ≤ 1048576))) ∧ ((((((Int.tdiv (a + b) 2) + c) - x47.1) = ((((Int.tdiv (a + b) 2) + c) - x47.1))) ∧ (((-1048576) ≤ (((Int.tdiv (a + b) 2) + c) - x47.1) ∧ (((Int.tdiv (a + b) 2) + c) - x47.1) ≤ 3145728) → (0 ≤ ((((Int.tdiv (a + b) 2) + c) - x47.1)) ∧ ((((Int.tdiv (a + b) 2) + c) - x47.1)) ≤ 1048576))) ∧ (b = b)))) ∧ ((((m ≤ m) ∧ (∀ e188 : E, ((0 ≤ e188.den ∧ e188.den < m) → ((((A (e188.den))) = ((A (e188.den)))) ∧ (((B (e188.den))) = ((B (e188.den)))))))) ∧ ((n = n) ∧ ((n ≤ n) ∧ (∀ e187 : E, ((0 ≤ e187.den ∧ e187.den < n) → ((((X (e187.den))) = ((X (e187.den)))) ∧ (((Y (e187.den))) = ((Y (e187.den)))))))))) ∧ (∀ x189 : (Int → Int) × (Int → Int), ((mrgP X Y A B x189.1 x189.2 (Int.tdiv (a + b) 2) b) → (∃ y192 : (Int → Int) × (Int → Int), ((mrgP X Y A B y192.1 y192.2 a b) ∧ (((m ≤ m) ∧ (∀ e194 : E, ((0 ≤ e194.den ∧ e194.den < m) → ((((x189.1 (e194.den))) = ((y192.1 (e194.den)))) ∧ (((x189.2 (e194.den))) = ((y192.2 (e194.den)))))))) ∧ ((n = n) ∧ ((n ≤ n) ∧ (∀ e193 : E, ((0 ≤ e193.den ∧ e193.den < n) → ((((X (e193.den))) = ((X (e193.den)))) ∧ (((Y (e193.den))) = ((Y (e193.den)))))))))))))))))) ∧ ((b ≤ (((Int.tdiv (a + b) 2) + c) - x47.1)) → (∃ y195 : (Int → Int) × (Int → Int), ((mrgP X Y A B y195.1 y195.2 a b) ∧ (((m ≤ m) ∧ (∀ e197 : E, ((0 ≤ e197.den ∧ e197.den < m) → ((((A (e197.den))) = ((y195.1 (e197.den)))) ∧ (((B (e197.den))) = ((y195.2 (e197.den)))))))) ∧ ((n = n) ∧ ((n ≤ n) ∧ (∀ e196 : E, ((0 ≤ e196.den ∧ e196.den < n) → ((((X (e196.den))) = ((X (e196.den)))) ∧ (((Y (e196.den))) = ((Y (e196.den))))))))))))))) ∧ (((((Int.tdiv (a + b) 2) + c) - x47.1) ≤ (Int.tdiv (a + b) 2)) → (∃ y198 : (Int → Int) × (Int → Int), ((mrgP X Y A B y198.1 y198.2 a b) ∧ (((m ≤ m) ∧ (∀ e200 : E, ((0 ≤ e200.den ∧ e200.den < m) → ((((A (e200.den))) = ((y198.1 (e200.den)))) ∧ (((B (e200.den))) = ((y198.2 (e200.den)))))))) ∧ ((n = n) ∧ ((n ≤ n) ∧ (∀ e199 : E, ((0 ≤ e199.den ∧ e199.den < n) → ((((X (e199.den))) = ((X (e199.den)))) ∧ (((Y (e199.den))) = ((Y (e199.den)))))))))))))))))))))))) ∧ ((c ≤ (Int.tdiv (a + b) 2)) → ((∃ y202 : Int × Int, ((smI X Y A B a c b y202.1 y202.2) ∧ (((m = m) ∧ ((a = a) ∧ ((c = c) ∧ ((b = b) ∧ (((Int.tdiv (a + b) 2) = (Int.tdiv (a + b) 2)) ∧ ((((Int.tdiv (a + b) 2) + c) = ((Int.tdiv (a + b) 2) + c)) ∧ ((a = y202.1) ∧ ((c = y202.2) ∧ ((((Int.tdiv (a + b) 2) + c) - 1) = (((Int.tdiv (a + b) 2) + c) - 1)))))))))) ∧ (((m ≤ m) ∧ (∀ e204 : E, ((0 ≤ e204.den ∧ e204.den < m) → ((((A (e204.den))) = ((A (e204.den)))) ∧ (((B (e204.den))) = ((B (e204.den)))))))) ∧ ((n = n) ∧ ((n ≤ n) ∧ (∀ e203 : E, ((0 ≤ e203.den ∧ e203.den < n) → ((((X (e203.den))) = ((X (e203.den)))) ∧ (((Y (e203.den))) = ((Y (e203.den))))))))))))) ∧ (∀ x201 : Int × Int, ((smI X Y A B a c b x201.1 x201.2) → (((x201.1 < x201.2) → ((((0 ≤ ((((Int.tdiv (a + b) 2) + c) - 1) - (Int.tdiv (x201.1 + x201.2) 2))) ∧ (((((Int.tdiv (a + b) 2) + c) - 1) - (Int.tdiv (x201.1 + x201.2) 2)) < m))) ∧ ((((((Int.tdiv (a + b) 2) + c) - 1) - (Int.tdiv (x201.1 + x201.2) 2)) < m) ∧ ((((0 ≤ (Int.tdiv (x201.1 + x201.2) 2)) ∧ ((Int.tdiv (x201.1 + x201.2) 2) < m))) ∧ (((Int.tdiv (x201.1 + x201.2) 2) < m) ∧ ((((0 ≤ ((A ((((Int.tdiv (a + b) 2) + c) - 1) - (Int.tdiv (x201.1 + x201.2) 2)))) ∧ ((A ((((Int.tdiv (a + b) 2) + c) - 1) - (Int.tdiv (x201.1 + x201.2) 2)))) < n) ∧ (0 ≤ ((B ((((Int.tdiv (a + b) 2) + c) - 1) - (Int.tdiv (x201.1 + x201.2) 2)))) ∧ ((B ((((Int.tdiv (a + b) 2) + c) - 1) - (Int.tdiv (x201.1 + x201.2) 2)))) < n)) ∧ (0 ≤ ((A (Int.tdiv (x201.1 + x201.2) 2))) ∧ ((A (Int.tdiv (x201.1 + x201.2) 2))) < n) ∧ (0 ≤ ((B (Int.tdiv (x201.1 + x201.2) 2))) ∧ ((B (Int.tdiv (x201.1 + x201.2) 2))) < n)) ∧ ((((((A ((((Int.tdiv (a + b) 2) + c) - 1) - (Int.tdiv (x201.1 + x201.2) 2)))) = (((A ((((Int.tdiv (a + b) 2) + c) - 1) - (Int.tdiv (x201.1 + x201.2) 2)))))) ∧ (((B ((((Int.tdiv (a + b) 2) + c) - 1) - (Int.tdiv (x201.1 + x201.2) 2)))) = (((B ((((Int.tdiv (a + b) 2) + c) - 1) - (Int.tdiv (x201.1 + x201.2) 2))))))) ∧ ((((A (Int.tdiv (x201.1 + x201.2) 2))) = ((A (Int.tdiv (x201.1 + x201.2) 2)))) ∧ (((B (Int.tdiv (x201.1 + x201.2) 2))) = ((B (Int.tdiv (x201.1 + x201.2) 2)))))) ∧ (((n = n) ∧ ((n ≤ n) ∧ (∀ e205 : E, ((0 ≤ e205.den ∧ e205.den < n) → ((((X (e205.den))) = ((X (e205.den)))) ∧ (((Y (e205.den))) = ((Y (e205.den))))))))) ∧ (((0 ≤ (cmD X Y (((A ((((Int.tdiv (a + b) 2) + c) - 1) - (Int.tdiv (x201.1 + x201.2) 2)))), ((B ((((Int.tdiv (a + b) 2) + c) - 1) - (Int.tdiv (x201.1 + x201.2) 2))))) (((A (Int.tdiv (x201.1 + x201.2) 2))), ((B (Int.tdiv (x201.1 + x201.2) 2)))))) → (∃ y206 : Int × Int, ((smI X Y A B a c b y206.1 y206.2) ∧ ((((m = m) ∧ ((a = a) ∧ ((c = c) ∧ ((b = b) ∧ (((Int.tdiv (a + b) 2) = (Int.tdiv (a + b) 2)) ∧ ((((Int.tdiv (a + b) 2) + c) = ((Int.tdiv (a + b) 2) + c)) ∧ (((((Int.tdiv (x201.1 + x201.2) 2) + 1) = y206.1) ∧ ((1 ≤ ((Int.tdiv (x201.1 + x201.2) 2) + 1) ∧ ((Int.tdiv (x201.1 + x201.2) 2) + 1) ≤ 2097153) → (0 ≤ y206.1 ∧ y206.1 ≤ 1048576))) ∧ ((x201.2 = y206.2) ∧ ((((Int.tdiv (a + b) 2) + c) - 1) = (((Int.tdiv (a + b) 2) + c) - 1)))))))))) ∧ (((m ≤ m) ∧ (∀ e208 : E, ((0 ≤ e208.den ∧ e208.den < m) → ((((A (e208.den))) = ((A (e208.den)))) ∧ (((B (e208.den))) = ((B (e208.den)))))))) ∧ ((n = n) ∧ ((n ≤ n) ∧ (∀ e207 : E, ((0 ≤ e207.den ∧ e207.den < n) → ((((X (e207.den))) = ((X (e207.den)))) ∧ (((Y (e207.den))) = ((Y (e207.den))))))))))) ∧ ((y206.2 - y206.1).toNat < (x201.2 - x201.1).toNat))))) ∧ (((cmD X Y (((A ((((Int.tdiv (a + b) 2) + c) - 1) - (Int.tdiv (x201.1 + x201.2) 2)))), ((B ((((Int.tdiv (a + b) 2) + c) - 1) - (Int.tdiv (x201.1 + x201.2) 2))))) (((A (Int.tdiv (x201.1 + x201.2) 2))), ((B (Int.tdiv (x201.1 + x201.2) 2))))) < 0) → (∃ y209 : Int × Int, ((smI X Y A B a c b y209.1 y209.2) ∧ ((((m = m) ∧ ((a = a) ∧ ((c = c) ∧ ((b = b) ∧ (((Int.tdiv (a + b) 2) = (Int.tdiv (a + b) 2)) ∧ ((((Int.tdiv (a + b) 2) + c) = ((Int.tdiv (a + b) 2) + c)) ∧ ((x201.1 = y209.1) ∧ ((((Int.tdiv (x201.1 + x201.2) 2) = y209.2) ∧ ((0 ≤ (Int.tdiv (x201.1 + x201.2) 2) ∧ (Int.tdiv (x201.1 + x201.2) 2) ≤ 2097152) → (0 ≤ y209.2 ∧ y209.2 ≤ 1048576))) ∧ ((((Int.tdiv (a + b) 2) + c) - 1) = (((Int.tdiv (a + b) 2) + c) - 1)))))))))) ∧ (((m ≤ m) ∧ (∀ e211 : E, ((0 ≤ e211.den ∧ e211.den < m) → ((((A (e211.den))) = ((A (e211.den)))) ∧ (((B (e211.den))) = ((B (e211.den)))))))) ∧ ((n = n) ∧ ((n ≤ n) ∧ (∀ e210 : E, ((0 ≤ e210.den ∧ e210.den < n) → ((((X (e210.den))) = ((X (e210.den)))) ∧ (((Y (e210.den))) = ((Y (e210.den))))))))))) ∧ ((y209.2 - y209.1).toNat < (x201.2 - x201.1).toNat)))))))))))))) ∧ ((x201.2 ≤ x201.1) → (((x201.1 < c) → (((c < (((Int.tdiv (a + b) 2) + c) - x201.1)) → ((edR A B n m ∧ (0 ≤ x201.1 ∧ x201.1 < c ∧ c < (((Int.tdiv (a + b) 2) + c) - x201.1) ∧ (((Int.tdiv (a + b) 2) + c) - x201.1) ≤ m)) ∧ (((m = m) ∧ ((x201.1 = x201.1) ∧ ((c = c) ∧ (((((Int.tdiv (a + b) 2) + c) - x201.1) = ((((Int.tdiv (a + b) 2) + c) - x201.1))) ∧ (((-1048576) ≤ (((Int.tdiv (a + b) 2) + c) - x201.1) ∧ (((Int.tdiv (a + b) 2) + c) - x201.1) ≤ 3145728) → (0 ≤ ((((Int.tdiv (a + b) 2) + c) - x201.1)) ∧ ((((Int.tdiv (a + b) 2) + c) - x201.1)) ≤ 1048576)))))) ∧ ((((m ≤ m) ∧ (∀ e213 : E, ((0 ≤ e213.den ∧ e213.den < m) → ((((A (e213.den))) = ((A (e213.den)))) ∧ (((B (e213.den))) = ((B (e213.den)))))))) ∧ ((n = n) ∧ ((n ≤ n) ∧ (∀ e212 : E, ((0 ≤ e212.den ∧ e212.den < n) → ((((X (e212.den))) = ((X (e212.den)))) ∧ (((Y (e212.den))) = ((Y (e212.den)))))))))) ∧ (((a < x201.1) → (((x201.1 < (Int.tdiv (a + b) 2)) → (((((Int.tdiv (a + b) 2) - a).toNat < M) ∧ (mrgR X Y ((fun ι => (rotF (zp A B) x201.1 c (((Int.tdiv (a + b) 2) + c) - x201.1) (ι)).1)) ((fun ι => (rotF (zp A B) x201.1 c (((Int.tdiv (a + b) 2) + c) - x201.1) (ι)).2)) n m a x201.1 (Int.tdiv (a + b) 2))) ∧ (((m = m) ∧ ((a = a) ∧ ((x201.1 = x201.1) ∧ (((Int.tdiv (a + b) 2) = (Int.tdiv (a + b) 2)) ∧ ((0 ≤ (Int.tdiv (a + b) 2) ∧ (Int.tdiv (a + b) 2) ≤ 2097152) → (0 ≤ (Int.tdiv (a + b) 2) ∧ (Int.tdiv (a + b) 2) ≤ 1048576)))))) ∧ ((((m ≤ m) ∧ (∀ e215 : E, ((0 ≤ e215.den ∧ e215.den < m) → ((((rotF (zp A B) x201.1 c (((Int.tdiv (a + b) 2) + c) - x201.1) (e215.den)).1) = (((rotF (zp A B) x201.1 c (((Int.tdiv (a + b) 2) + c) - x201.1) ((e215.den))).1))) ∧ (((rotF (zp A B) x201.1 c (((Int.tdiv (a + b) 2) + c) - x201.1) (e215.den)).2) = (((rotF (zp A B) x201.1 c (((Int.tdiv (a + b) 2) + c) - x201.1) ((e215.den))).2))))))) ∧ ((n = n) ∧ ((n ≤ n) ∧ (∀ e214 : E, ((0 ≤ e214.den ∧ e214.den < n) → ((((X (e214.den))) = ((X (e214.den)))) ∧ (((Y (e214.den))) = ((Y (e214.den)))))))))) ∧ (∀ x216 : (Int → Int) × (Int → Int), ((mrgP X Y ((fun ι => (rotF (zp A B) x201.1 c (((Int.tdiv (a + b) 2) + c) - x201.1) (ι)).1)) ((fun ι => (rotF (zp A B) x201.1 c (((Int.tdiv (a + b) 2) + c) - x201.1) (ι)).2)) x216.1 x216.2 a (Int.tdiv (a + b) 2)) → ((((Int.tdiv (a + b) 2) < (((Int.tdiv (a + b) 2) + c) - x201.1)) → ((((((Int.tdiv (a + b) 2) + c) - x201.1) < b) → ((((b - (Int.tdiv (a + b) 2)).toNat < M) ∧ (mrgR X Y x216.1 x216.2 n m (Int.tdiv (a + b) 2) (((Int.tdiv (a + b) 2) + c) - x201.1) b)) ∧ (((m = m) ∧ ((((Int.tdiv (a + b) 2) = (Int.tdiv (a + b) 2)) ∧ ((0 ≤ (Int.tdiv (a + b) 2) ∧ (Int.tdiv (a + b) 2) ≤ 2097152) → (0 ≤ (Int.tdiv (a + b) 2) ∧ (Int.tdiv (a + b) 2) ≤ 1048576))) ∧ ((((((Int.tdiv (a + b) 2) + c) - x201.1) = ((((Int.tdiv (a + b) 2) + c) - x201.1))) ∧ (((-1048576) ≤ (((Int.tdiv (a + b) 2) + c) - x201.1) ∧ (((Int.tdiv (a + b) 2) + c) - x201.1) ≤ 3145728) → (0 ≤ ((((Int.tdiv (a + b) 2) + c) - x201.1)) ∧ ((((Int.tdiv (a + b) 2) + c) - x201.1)) ≤ 1048576))) ∧ (b = b)))) ∧ ((((m ≤ m) ∧ (∀ e220 : E, ((0 ≤ e220.den ∧ e220.den < m) → ((((x216.1 (e220.den))) = ((x216.1 (e220.den)))) ∧ (((x216.2 (e220.den))) = ((x216.2 (e220.den)))))))) ∧ ((n = n) ∧ ((n ≤ n) ∧ (∀ e219 : E, ((0 ≤ e219.den ∧ e219.den < n) → ((((X (e219.den))) = ((X (e219.den)))) ∧ (((Y (e219.den))) = ((Y (e219.den)))))))))) ∧ (∀ x221 : (Int → Int) × (Int → Int), ((mrgP X Y x216.1 x216.2 x221.1 x221.2 (Int.tdiv (a + b) 2) b) → (∃ y224 : (Int → Int) × (Int → Int), ((mrgP X Y A B y224.1 y224.2 a b) ∧ (((m ≤ m) ∧ (∀ e226 : E, ((0 ≤ e226.den ∧ e226.den < m) → ((((x221.1 (e226.den))) = ((y224.1 (e226.den)))) ∧ (((x221.2 (e226.den))) = ((y224.2 (e226.den)))))))) ∧ ((n = n) ∧ ((n ≤ n) ∧ (∀ e225 : E, ((0 ≤ e225.den ∧ e225.den < n) → ((((X (e225.den))) = ((X (e225.den)))) ∧ (((Y (e225.den))) = ((Y (e225.den)))))))))))))))))) ∧ ((b ≤ (((Int.tdiv (a + b) 2) + c) - x201.1)) → (∃ y227 : (Int → Int) × (Int → Int), ((mrgP X Y A B y227.1 y227.2 a b) ∧ (((m ≤ m) ∧ (∀ e229 : E, ((0 ≤ e229.den ∧ e229.den < m) → ((((x216.1 (e229.den))) = ((y227.1 (e229.den)))) ∧ (((x216.2 (e229.den))) = ((y227.2 (e229.den)))))))) ∧ ((n = n) ∧ ((n ≤ n) ∧ (∀ e228 : E, ((0 ≤ e228.den ∧ e228.den < n) → ((((X (e228.den))) = ((X (e228.den)))) ∧ (((Y (e228.den))) = ((Y (e228.den))))))))))))))) ∧ (((((Int.tdiv (a + b) 2) + c) - x201.1) ≤ (Int.tdiv (a + b) 2)) → (∃ y230 : (Int → Int) × (Int → Int), ((mrgP X Y A B y230.1 y230.2 a b) ∧ (((m ≤ m) ∧ (∀ e232 : E, ((0 ≤ e232.den ∧ e232.den < m) → ((((x216.1 (e232.den))) = ((y230.1 (e232.den)))) ∧ (((x216.2 (e232.den))) = ((y230.2 (e232.den)))))))) ∧ ((n = n) ∧ ((n ≤ n) ∧ (∀ e231 : E, ((0 ≤ e231.den ∧ e231.den < n) → ((((X (e231.den))) = ((X (e231.den)))) ∧ (((Y (e231.den))) = ((Y (e231.den)))))))))))))))))))) ∧ (((Int.tdiv (a + b) 2) ≤ x201.1) → ((((Int.tdiv (a + b) 2) < (((Int.tdiv (a + b) 2) + c) - x201.1)) → ((((((Int.tdiv (a + b) 2) + c) - x201.1) < b) → ((((b - (Int.tdiv (a + b) 2)).toNat < M) ∧ (mrgR X Y ((fun ι => (rotF (zp A B) x201.1 c (((Int.tdiv (a + b) 2) + c) - x201.1) (ι)).1)) ((fun ι => (rotF (zp A B) x201.1 c (((Int.tdiv (a + b) 2) + c) - x201.1) (ι)).2)) n m (Int.tdiv (a + b) 2) (((Int.tdiv (a + b) 2) + c) - x201.1) b)) ∧ (((m = m) ∧ ((((Int.tdiv (a + b) 2) = (Int.tdiv (a + b) 2)) ∧ ((0 ≤ (Int.tdiv (a + b) 2) ∧ (Int.tdiv (a + b) 2) ≤ 2097152) → (0 ≤ (Int.tdiv (a + b) 2) ∧ (Int.tdiv (a + b) 2) ≤ 1048576))) ∧ ((((((Int.tdiv (a + b) 2) + c) - x201.1) = ((((Int.tdiv (a + b) 2) + c) - x201.1))) ∧ (((-1048576) ≤ (((Int.tdiv (a + b) 2) + c) - x201.1) ∧ (((Int.tdiv (a + b) 2) + c) - x201.1) ≤ 3145728) → (0 ≤ ((((Int.tdiv (a + b) 2) + c) - x201.1)) ∧ ((((Int.tdiv (a + b) 2) + c) - x201.1)) ≤ 1048576))) ∧ (b = b)))) ∧ ((((m ≤ m) ∧ (∀ e234 : E, ((0 ≤ e234.den ∧ e234.den < m) → ((((rotF (zp A B) x201.1 c (((Int.tdiv (a + b) 2) + c) - x201.1) (e234.den)).1) = (((rotF (zp A B) x201.1 c (((Int.tdiv (a + b) 2) + c) - x201.1) ((e234.den))).1))) ∧ (((rotF (zp A B) x201.1 c (((Int.tdiv (a + b) 2) + c) - x201.1) (e234.den)).2) = (((rotF (zp A B) x201.1 c (((Int.tdiv (a + b) 2) + c) - x201.1) ((e234.den))).2))))))) ∧ ((n = n) ∧ ((n ≤ n) ∧ (∀ e233 : E, ((0 ≤ e233.den ∧ e233.den < n) → ((((X (e233.den))) = ((X (e233.den)))) ∧ (((Y (e233.den))) = ((Y (e233.den)))))))))) ∧ (∀ x235 : (Int → Int) × (Int → Int), ((mrgP X Y ((fun ι => (rotF (zp A B) x201.1 c (((Int.tdiv (a + b) 2) + c) - x201.1) (ι)).1)) ((fun ι => (rotF (zp A B) x201.1 c (((Int.tdiv (a + b) 2) + c) - x201.1) (ι)).2)) x235.1 x235.2 (Int.tdiv (a + b) 2) b) → (∃ y238 : (Int → Int) × (Int → Int), ((mrgP X Y A B y238.1 y238.2 a b) ∧ (((m ≤ m) ∧ (∀ e240 : E, ((0 ≤ e240.den ∧ e240.den < m) → ((((x235.1 (e240.den))) = ((y238.1 (e240.den)))) ∧ (((x235.2 (e240.den))) = ((y238.2 (e240.den)))))))) ∧ ((n = n) ∧ ((n ≤ n) ∧ (∀ e239 : E, ((0 ≤ e239.den ∧ e239.den < n) → ((((X (e239.den))) = ((X (e239.den)))) ∧ (((Y (e239.den))) = ((Y (e239.den)))))))))))))))))) ∧ ((b ≤ (((Int.tdiv (a + b) 2) + c) - x201.1)) → (∃ y241 : (Int → Int) × (Int → Int), ((mrgP X Y A B y241.1 y241.2 a b) ∧ (((m ≤ m) ∧ (∀ e243 : E, ((0 ≤ e243.den ∧ e243.den < m) → ((((rotF (zp A B) x201.1 c (((Int.tdiv (a + b) 2) + c) - x201.1) (e243.den)).1) = ((y241.1 (e243.den)))) ∧ (((rotF (zp A B) x201.1 c (((Int.tdiv (a + b) 2) + c) - x201.1) (e243.den)).2) = ((y241.2 (e243.den)))))))) ∧ ((n = n) ∧ ((n ≤ n) ∧ (∀ e242 : E, ((0 ≤ e242.den ∧ e242.den < n) → ((((X (e242.den))) = ((X (e242.den)))) ∧ (((Y (e242.den))) = ((Y (e242.den))))))))))))))) ∧ (((((Int.tdiv (a + b) 2) + c) - x201.1) ≤ (Int.tdiv (a + b) 2)) → (∃ y244 : (Int → Int) × (Int → Int), ((mrgP X Y A B y244.1 y244.2 a b) ∧ (((m ≤ m) ∧ (∀ e246 : E, ((0 ≤ e246.den ∧ e246.den < m) → ((((rotF (zp A B) x201.1 c (((Int.tdiv (a + b) 2) + c) - x201.1) (e246.den)).1) = ((y244.1 (e246.den)))) ∧ (((rotF (zp A B) x201.1 c (((Int.tdiv (a + b) 2) + c) - x201.1) (e246.den)).2) = ((y244.2 (e246.den)))))))) ∧ ((n = n) ∧ ((n ≤ n) ∧ (∀ e245 : E, ((0 ≤ e245.den ∧ e245.den < n) → ((((X (e245.den))) = ((X (e245.den)))) ∧ (((Y (e245.den))) = ((Y (e245.den))))))))))))))))) ∧ ((x201.1 ≤ a) → ((((Int.tdiv (a + b) 2) < (((Int.tdiv (a + b) 2) + c) - x201.1)) → ((((((Int.tdiv (a + b) 2) + c) - x201.1) < b) → ((((b - (Int.tdiv (a + b) 2)).toNat < M) ∧ (mrgR X Y ((fun ι => (rotF (zp A B) x201.1 c (((Int.tdiv (a + b) 2) + c) - x201.1) (ι)).1)) ((fun ι => (rotF (zp A B) x201.1 c (((Int.tdiv (a + b) 2) + c) - x201.1) (ι)).2)) n m (Int.tdiv (a + b) 2) (((Int.tdiv (a + b) 2) + c) - x201.1) b)) ∧ (((m = m) ∧ ((((Int.tdiv (a + b) 2) = (Int.tdiv (a + b) 2)) ∧ ((0 ≤ (Int.tdiv (a + b) 2) ∧ (Int.tdiv (a + b) 2) ≤ 2097152) → (0 ≤ (Int.tdiv (a + b) 2) ∧ (Int.tdiv (a + b) 2) ≤ 1048576))) ∧ ((((((Int.tdiv (a + b) 2) + c) - x201.1) = ((((Int.tdiv (a + b) 2) + c) - x201.1))) ∧ (((-1048576) ≤ (((Int.tdiv (a + b) 2) + c) - x201.1) ∧ (((Int.tdiv (a + b) 2) + c) - x201.1) ≤ 3145728) → (0 ≤ ((((Int.tdiv (a + b) 2) + c) - x201.1)) ∧ ((((Int.tdiv (a + b) 2) + c) - x201.1)) ≤ 1048576))) ∧ (b = b)))) ∧ ((((m ≤ m) ∧ (∀ e248 : E, ((0 ≤ e248.den ∧ e248.den < m) → ((((rotF (zp A B) x201.1 c (((Int.tdiv (a + b) 2) + c) - x201.1) (e248.den)).1) = (((rotF (zp A B) x201.1 c (((Int.tdiv (a + b) 2) + c) - x201.1) ((e248.den))).1))) ∧ (((rotF (zp A B) x201.1 c (((Int.tdiv (a + b) 2) + c) - x201.1) (e248.den)).2) = (((rotF (zp A B) x201.1 c (((Int.tdiv (a + b) 2) + c) - x201.1) ((e248.den))).2))))))) ∧ ((n = n) ∧ ((n ≤ n) ∧ (∀ e247 : E, ((0 ≤ e247.den ∧ e247.den < n) → ((((X (e247.den))) = ((X (e247.den)))) ∧ (((Y (e247.den))) = ((Y (e247.den)))))))))) ∧ (∀ x249 : (Int → Int) × (Int → Int), ((mrgP X Y ((fun ι => (rotF (zp A B) x201.1 c (((Int.tdiv (a + b) 2) + c) - x201.1) (ι)).1)) ((fun ι => (rotF (zp A B) x201.1 c (((Int.tdiv (a + b) 2) + c) - x201.1) (ι)).2)) x249.1 x249.2 (Int.tdiv (a + b) 2) b) → (∃ y252 : (Int → Int) × (Int → Int), ((mrgP X Y A B y252.1 y252.2 a b) ∧ (((m ≤ m) ∧ (∀ e254 : E, ((0 ≤ e254.den ∧ e254.den < m) → ((((x249.1 (e254.den))) = ((y252.1 (e254.den)))) ∧ (((x249.2 (e254.den))) = ((y252.2 (e254.den)))))))) ∧ ((n = n) ∧ ((n ≤ n) ∧ (∀ e253 : E, ((0 ≤ e253.den ∧ e253.den < n) → ((((X (e253.den))) = ((X (e253.den)))) ∧ (((Y (e253.den))) = ((Y (e253.den)))))))))))))))))) ∧ ((b ≤ (((Int.tdiv (a + b) 2) + c) - x201.1)) → (∃ y255 : (Int → Int) × (Int → Int), ((mrgP X Y A B y255.1 y255.2 a b) ∧ (((m ≤ m) ∧ (∀ e257 : E, ((0 ≤ e257.den ∧ e257.den < m) → ((((rotF (zp A B) x201.1 c (((Int.tdiv (a + b) 2) + c) - x201.1) (e257.den)).1) = ((y255.1 (e257.den)))) ∧ (((rotF (zp A B) x201.1 c (((Int.tdiv (a + b) 2) + c) - x201.1) (e257.den)).2) = ((y255.2 (e257.den)))))))) ∧ ((n = n) ∧ ((n ≤ n) ∧ (∀ e256 : E, ((0 ≤ e256.den ∧ e256.den < n) → ((((X (e256.den))) = ((X (e256.den)))) ∧ (((Y (e256.den))) = ((Y (e256.den))))))))))))))) ∧ (((((Int.tdiv (a + b) 2) + c) - x201.1) ≤ (Int.tdiv (a + b) 2)) → (∃ y258 : (Int → Int) × (Int → Int), ((mrgP X Y A B y258.1 y258.2 a b) ∧ (((m ≤ m) ∧ (∀ e260 : E, ((0 ≤ e260.den ∧ e260.den < m) → ((((rotF (zp A B) x201.1 c (((Int.tdiv (a + b) 2) + c) - x201.1) (e260.den)).1) = ((y258.1 (e260.den)))) ∧ (((rotF (zp A B) x201.1 c (((Int.tdiv (a + b) 2) + c) - x201.1) (e260.den)).2) = ((y258.2 (e260.den)))))))) ∧ ((n = n) ∧ ((n ≤ n) ∧ (∀ e259 : E, ((0 ≤ e259.den ∧ e259.den < n) → ((((X (e259.den))) = ((X (e259.den)))) ∧ (((Y (e259.den))) = ((Y (e259.den)))))))))))))))))))) ∧ (((((Int.tdiv (a + b) 2) + c) - x201.1) ≤ c) → (((a < x201.1) → (((x201.1 < (Int.tdiv (a + b) 2)) → (((((Int.tdiv (a + b) 2) - a).toNat < M) ∧ (mrgR X Y A B n m a x201.1 (Int.tdiv (a + b) 2))) ∧ (((m = m) ∧ ((a = a) ∧ ((x201.1 = x201.1) ∧ (((Int.tdiv (a + b) 2) = (Int.tdiv (a + b) 2)) ∧ ((0 ≤ (Int.tdiv (a + b) 2) ∧ (Int.tdiv (a + b) 2) ≤ 2097152) → (0 ≤ (Int.tdiv (a + b) 2) ∧ (Int.tdiv (a + b) 2) ≤ 1048576)))))) ∧ ((((m ≤ m) ∧ (∀ e262 : E, ((0 ≤ e262.den ∧ e262.den < m) → ((((A (e262.den))) = ((A (e262.den)))) ∧ (((B (e262.den))) = ((B (e262.den)))))))) ∧ ((n = n) ∧ ((n ≤ n) ∧ (∀ e261 : E, ((0 ≤ e261.den ∧ e261.den < n) → ((((X (e261.den))) = ((X (e261.den)))) ∧ (((Y (e261.den))) = ((Y (e261.den)))))))))) ∧ (∀ x263 : (Int → Int) × (Int → Int), ((mrgP X Y A B x263.1 x263.2 a (Int.tdiv (a + b) 2)) → ((((Int.tdiv (a + b) 2) < (((Int.tdiv (a + b) 2) + c) - x201.1)) → ((((((Int.tdiv (a + b) 2) + c) - x201.1) < b) → ((((b - (Int.tdiv (a + b) 2)).toNat < M) ∧ (mrgR X Y x263.1 x263.2 n m (Int.tdiv (a + b) 2) (((Int.tdiv (a + b) 2) + c) - x201.1) b)) ∧ (((m = m) ∧ ((((Int.tdiv (a + b) 2) = (Int.tdiv (a + b) 2)) ∧ ((0 ≤ (Int.tdiv (a + b) 2) ∧ (Int.tdiv (a + b) 2) ≤ 2097152) → (0 ≤ (Int.tdiv (a + b) 2) ∧ (Int.tdiv (a + b) 2) ≤ 1048576))) ∧ ((((((Int.tdiv (a + b) 2) + c) - x201.1) = ((((Int.tdiv (a + b) 2) + c) - x201.1))) ∧ (((-1048576) ≤ (((Int.tdiv (a + b) 2) + c) - x201.1) ∧ (((Int.tdiv (a + b) 2) + c) - x201.1) ≤ 3145728) → (0 ≤ ((((Int.tdiv (a + b) 2) + c) - x201.1)) ∧ ((((Int.tdiv (a + b) 2) + c) - x201.1)) ≤ 1048576))) ∧ (b = b)))) ∧ ((((m ≤ m) ∧ (∀ e267 : E, ((0 ≤ e267.den ∧ e267.den < m) → ((((x263.1 (e267.den))) = ((x263.1 (e267.den)))) ∧ (((x263.2 (e267.den))) = ((x263.2 (e267.den)))))))) ∧ ((n = n) ∧ ((n ≤ n) ∧ (∀ e266 : E, ((0 ≤ e266.den ∧ e266.den < n) → ((((X (e266.den))) = ((X (e266.den)))) ∧ (((Y (e266.den))) = ((Y (e266.den)))))))))) ∧ (∀ x268 : (Int → Int) × (Int → Int), ((mrgP X Y x263.1 x263.2 x268.1 x268.2 (Int.tdiv (a + b) 2) b) → (∃ y271 : (Int → Int) × (Int → Int), ((mrgP X Y A B y271.1 y271.2 a b) ∧ (((m ≤ m) ∧ (∀ e273 : E, ((0 ≤ e273.den ∧ e273.den < m) → ((((x268.1 (e273.den))) = ((y271.1 (e273.den)))) ∧ (((x268.2 (e273.den))) = ((y271.2 (e273.den)))))))) ∧ ((n = n) ∧ ((n ≤ n) ∧ (∀ e272 : E, ((0 ≤ e272.den ∧ e272.den < n) → ((((X (e272.den))) = ((X (e272.den)))) ∧ (((Y (e272.den))) = ((Y (e272.den)))))))))))))))))) ∧ ((b ≤ (((Int.tdiv (a + b) 2) + c) - x201.1)) → (∃ y274 : (Int → Int) × (Int → Int), ((mrgP X Y A B y274.1 y274.2 a b) ∧ (((m ≤ m) ∧ (∀ e276 : E, ((0 ≤ e276.den ∧ e276.den < m) → ((((x263.1 (e276.den))) = ((y274.1 (e276.den)))) ∧ (((x263.2 (e276.den))) = ((y274.2 (e276.den)))))))) ∧ ((n = n) ∧ ((n ≤ n) ∧ (∀ e275 : E, ((0 ≤ e275.den ∧ e275.den < n) → ((((X (e275.den))) = ((X (e275.den)))) ∧ (((Y (e275.den))) = ((Y (e275.den))))))))))))))) ∧ (((((Int.tdiv (a + b) 2) + c) - x201.1) ≤ (Int.tdiv (a + b) 2)) → (∃ y277 : (Int → Int) × (Int → Int), ((mrgP X Y A B y277.1 y277.2 a b) ∧ (((m ≤ m) ∧ (∀ e279 : E, ((0 ≤ e279.den ∧ e279.den < m) → ((((x263.1 (e279.den))) = ((y277.1 (e279.den)))) ∧ (((x263.2 (e279.den))) = ((y277.2 (e279.den)))))))) ∧ ((n = n) ∧ ((n ≤ n) ∧ (∀ e278 : E, ((0 ≤ e278.den ∧ e278.den < n) → ((((X (e278.den))) = ((X (e278.den)))) ∧ (((Y (e278.den))) = ((Y (e278.den)))))))))))))))))))) ∧ (((Int.tdiv (a + b) 2) ≤ x201.1) → ((((Int.tdiv (a + b) 2) < (((Int.tdiv (a + b) 2) + c) - x201.1)) → ((((((Int.tdiv (a + b) 2) + c) - x201.1) < b) → ((((b - (Int.tdiv (a + b) 2)).toNat < M) ∧ (mrgR X Y A B n m (Int.tdiv (a + b) 2) (((Int.tdiv (a + b) 2) + c) - x201.1) b)) ∧ (((m = m) ∧ ((((Int.tdiv (a + b) 2) = (Int.tdiv (a + b) 2)) ∧ ((0 ≤ (Int.tdiv (a + b) 2) ∧ (Int.tdiv (a + b) 2) ≤ 2097152) → (0 ≤ (Int.tdiv (a + b) 2) ∧ (Int.tdiv (a + b) 2) ≤ 1048576))) ∧ ((((((Int.tdiv (a + b) 2) + c) - x201.1) = ((((Int.tdiv (a + b) 2) + c) - x201.1))) ∧ (((-1048576) ≤ (((Int.tdiv (a + b) 2) + c) - x201.1) ∧ (((Int.tdiv (a + b) 2) + c) - x201.1) ≤ 3145728) → (0 ≤ ((((Int.tdiv (a + b) 2) + c) - x201.1)) ∧ ((((Int.tdiv (a + b) 2) + c) - x201.1)) ≤ 1048576))) ∧ (b = b)))) ∧ ((((m ≤ m) ∧ (∀ e281 : E, ((0 ≤ e281.den ∧ e281.den < m) → ((((A (e281.den))) = ((A (e281.den)))) ∧ (((B (e281.den))) = ((B (e281.den)))))))) ∧ ((n = n) ∧ ((n ≤ n) ∧ (∀ e280 : E, ((0 ≤ e280.den ∧ e280.den < n) → ((((X (e280.den))) = ((X (e280.den)))) ∧ (((Y (e280.den))) = ((Y (e280.den)))))))))) ∧ (∀ x282 : (Int → Int) × (Int → Int), ((mrgP X Y A B x282.1 x282.2 (Int.tdiv (a + b) 2) b) → (∃ y285 : (Int → Int) × (Int → Int), ((mrgP X Y A B y285.1 y285.2 a b) ∧ (((m ≤ m) ∧ (∀ e287 : E, ((0 ≤ e287.den ∧ e287.den < m) → ((((x282.1 (e287.den))) = ((y285.1 (e287.den)))) ∧ (((x282.2 (e287.den))) = ((y285.2 (e287.den)))))))) ∧ ((n = n) ∧ ((n ≤ n) ∧ (∀ e286 : E, ((0 ≤ e286.den ∧ e286.den < n) → ((((X (e286.den))) = ((X (e286.den)))) ∧ (((Y (e286.den))) = ((Y (e286.den)))))))))))))))))) ∧ ((b ≤ (((Int.tdiv (a + b) 2) + c) - x201.1)) → (∃ y288 : (Int → Int) × (Int → Int), ((mrgP X Y A B y288.1 y288.2 a b) ∧ (((m ≤ m) ∧ (∀ e290 : E, ((0 ≤ e290.den ∧ e290.den < m) → ((((A (e290.den))) = ((y288.1 (e290.den)))) ∧ (((B (e290.den))) = ((y288.2 (e290.den)))))))) ∧ ((n = n) ∧ ((n ≤ n) ∧ (∀ e289 : E, ((0 ≤ e289.den ∧ e289.den < n) → ((((X (e289.den))) = ((X (e289.den)))) ∧ (((Y (e289.den))) = ((Y (e289.den))))))))))))))) ∧ (((((Int.tdiv (a + b) 2) + c) - x201.1) ≤ (Int.tdiv (a + b) 2)) → (∃ y291 : (Int → Int) × (Int → Int), ((mrgP X Y A B y291.1 y291.2 a b) ∧ (((m ≤ m) ∧ (∀ e293 : E, ((0 ≤ e293.den ∧ e293.den < m) → ((((A (e293.den))) = ((y291.1 (e293.den)))) ∧ (((B (e293.den))) = ((y291.2 (e293.den)))))))) ∧ ((n = n) ∧ ((n ≤ n) ∧ (∀ e292 : E, ((0 ≤ e292.den ∧ e292.den < n) → ((((X (e292.den))) = ((X (e292.den)))) ∧ (((Y (e292.den))) = ((Y (e292.den))))))))))))))))) ∧ ((x201.1 ≤ a) → ((((Int.tdiv (a + b) 2) < (((Int.tdiv (a + b) 2) + c) - x201.1)) → ((((((Int.tdiv (a + b) 2) + c) - x201.1) < b) → ((((b - (Int.tdiv (a + b) 2)).toNat < M) ∧ (mrgR X Y A B n m (Int.tdiv (a + b) 2) (((Int.tdiv (a + b) 2) + c) - x201.1) b)) ∧ (((m = m) ∧ ((((Int.tdiv (a + b) 2) = (Int.tdiv (a + b) 2)) ∧ ((0 ≤ (Int.tdiv (a + b) 2) ∧ (Int.tdiv (a + b) 2) ≤ 2097152) → (0 ≤ (Int.tdiv (a + b) 2) ∧ (Int.tdiv (a + b) 2) ≤ 1048576))) ∧ ((((((Int.tdiv (a + b) 2) + c) - x201.1) = ((((Int.tdiv (a + b) 2) + c) - x201.1))) ∧ (((-1048576) ≤ (((Int.tdiv (a + b) 2) + c) - x201.1) ∧ (((Int.tdiv (a + b) 2) + c) - x201.1) ≤ 3145728) → (0 ≤ ((((Int.tdiv (a + b) 2) + c) - x201.1)) ∧ ((((Int.tdiv (a + b) 2) + c) - x201.1)) ≤ 1048576))) ∧ (b = b)))) ∧ ((((m ≤ m) ∧ (∀ e295 : E, ((0 ≤ e295.den ∧ e295.den < m) → ((((A (e295.den))) = ((A (e295.den)))) ∧ (((B (e295.den))) = ((B (e295.den)))))))) ∧ ((n = n) ∧ ((n ≤ n) ∧ (∀ e294 : E, ((0 ≤ e294.den ∧ e294.den < n) → ((((X (e294.den))) = ((X (e294.den)))) ∧ (((Y (e294.den))) = ((Y (e294.den)))))))))) ∧ (∀ x296 : (Int → Int) × (Int → Int), ((mrgP X Y A B x296.1 x296.2 (Int.tdiv (a + b) 2) b) → (∃ y299 : (Int → Int) × (Int → Int), ((mrgP X Y A B y299.1 y299.2 a b) ∧ (((m ≤ m) ∧ (∀ e301 : E, ((0 ≤ e301.den ∧ e301.den < m) → ((((x296.1 (e301.den))) = ((y299.1 (e301.den)))) ∧ (((x296.2 (e301.den))) = ((y299.2 (e301.den)))))))) ∧ ((n = n) ∧ ((n ≤ n) ∧ (∀ e300 : E, ((0 ≤ e300.den ∧ e300.den < n) → ((((X (e300.den))) = ((X (e300.den)))) ∧ (((Y (e300.den))) = ((Y (e300.den)))))))))))))))))) ∧ ((b ≤ (((Int.tdiv (a + b) 2) + c) - x201.1)) → (∃ y302 : (Int → Int) × (Int → Int), ((mrgP X Y A B y302.1 y302.2 a b) ∧ (((m ≤ m) ∧ (∀ e304 : E, ((0 ≤ e304.den ∧ e304.den < m) → ((((A (e304.den))) = ((y302.1 (e304.den)))) ∧ (((B (e304.den))) = ((y302.2 (e304.den)))))))) ∧ ((n = n) ∧ ((n ≤ n) ∧ (∀ e303 : E, ((0 ≤ e303.den ∧ e303.den < n) → ((((X (e303.den))) = ((X (e303.den)))) ∧ (((Y (e303.den))) = ((Y (e303.den))))))))))))))) ∧ (((((Int.tdiv (a + b) 2) + c) - x201.1) ≤ (Int.tdiv (a + b) 2)) → (∃ y305 : (Int → Int) × (Int → Int), ((mrgP X Y A B y305.1 y305.2 a b) ∧ (((m ≤ m) ∧ (∀ e307 : E, ((0 ≤ e307.den ∧ e307.den < m) → ((((A (e307.den))) = ((y305.1 (e307.den)))) ∧ (((B (e307.den))) = ((y305.2 (e307.den)))))))) ∧ ((n = n) ∧ ((n ≤ n) ∧ (∀ e306 : E, ((0 ≤ e306.den ∧ e306.den < n) → ((((X (e306.den))) = ((X (e306.den)))) ∧ (((Y (e306.den))) = ((Y (e306.den))))))))))))))))))) ∧ ((c ≤ x201.1) → (((a < x201.1) → (((x201.1 < (Int.tdiv (a + b) 2)) → (((((Int.tdiv (a + b) 2) - a).toNat < M) ∧ (mrgR X Y A B n m a x201.1 (Int.tdiv (a + b) 2))) ∧ (((m = m) ∧ ((a = a) ∧ ((x201.1 = x201.1) ∧ (((Int.tdiv (a + b) 2) = (Int.tdiv (a + b) 2)) ∧ ((0 ≤ (Int.tdiv (a + b) 2) ∧ (Int.tdiv (a + b) 2) ≤ 2097152) → (0 ≤ (Int.tdiv (a + b) 2) ∧ (Int.tdiv (a + b) 2) ≤ 1048576)))))) ∧ ((((m ≤ m) ∧ (∀ e309 : E, ((0 ≤ e309.den ∧ e309.den < m) → ((((A (e309.den))) = ((A (e309.den)))) ∧ (((B (e309.den))) = ((B (e309.den)))))))) ∧ ((n = n) ∧ ((n ≤ n) ∧ (∀ e308 : E, ((0 ≤ e308.den ∧ e308.den < n) → ((((X (e308.den))) = ((X (e308.den)))) ∧ (((Y (e308.den))) = ((Y (e308.den)))))))))) ∧ (∀ x310 : (Int → Int) × (Int → Int), ((mrgP X Y A B x310.1 x310.2 a (Int.tdiv (a + b) 2)) → ((((Int.tdiv (a + b) 2) < (((Int.tdiv (a + b) 2) + c) - x201.1)) → ((((((Int.tdiv (a + b) 2) + c) - x201.1) < b) → ((((b - (Int.tdiv (a + b) 2)).toNat < M) ∧ (mrgR X Y x310.1 x310.2 n m (Int.tdiv (a + b) 2) (((Int.tdiv (a + b) 2) + c) - x201.1) b)) ∧ (((m = m) ∧ ((((Int.tdiv (a + b) 2) = (Int.tdiv (a + b) 2)) ∧ ((0 ≤ (Int.tdiv (a + b) 2) ∧ (Int.tdiv (a + b) 2) ≤ 2097152) → (0 ≤ (Int.tdiv (a + b) 2) ∧ (Int.tdiv (a + b) 2) ≤ 1048576))) ∧ ((((((Int.tdiv (a + b) 2) + c) - x201.1) = ((((Int.tdiv (a + b) 2) + c) - x201.1))) ∧ (((-1048576) ≤ (((Int.tdiv (a + b) 2) + c) - x201.1) ∧ (((Int.tdiv (a + b) 2) + c) - x201.1) ≤ 3145728) → (0 ≤ ((((Int.tdiv (a + b) 2) + c) - x201.1)) ∧ ((((Int.tdiv (a + b) 2) + c) - x201.1)) ≤ 1048576))) ∧ (b = b)))) ∧ ((((m ≤ m) ∧ (∀ e314 : E, ((0 ≤ e314.den ∧ e314.den < m) → ((((x310.1 (e314.den))) = ((x310.1 (e314.den)))) ∧ (((x310.2 (e314.den))) = ((x310.2 (e314.den)))))))) ∧ ((n = n) ∧ ((n ≤ n) ∧ (∀ e313 : E, ((0 ≤ e313.den ∧ e313.den < n) → ((((X (e313.den))) = ((X (e313.den)))) ∧ (((Y (e313.den))) = ((Y (e313.den)))))))))) ∧ (∀ x315 : (Int → Int) × (Int → Int), ((mrgP X Y x310.1 x310.2 x315.1 x315.2 (Int.tdiv (a + b) 2) b) → (∃ y318 : (Int → Int) × (Int → Int), ((mrgP X Y A B y318.1 y318.2 a b) ∧ (((m ≤ m) ∧ (∀ e320 : E, ((0 ≤ e320.den ∧ e320.den < m) → ((((x315.1 (e320.den))) = ((y318.1 (e320.den)))) ∧ (((x315.2 (e320.den))) = ((y318.2 (e320.den)))))))) ∧ ((n = n) ∧ ((n ≤ n) ∧ (∀ e319 : E, ((0 ≤ e319.den ∧ e319.den < n) → ((((X (e319.den))) = ((X (e319.den)))) ∧ (((Y (e319.den))) = ((Y (e319.den)))))))))))))))))) ∧ ((b ≤ (((Int.tdiv (a + b) 2) + c) - x201.1)) → (∃ y321 : (Int → Int) × (Int → Int), ((mrgP X Y A B y321.1 y321.2 a b) ∧ (((m ≤ m) ∧ (∀ e323 : E, ((0 ≤ e323.den ∧ e323.den < m) → ((((x310.1 (e323.den))) = ((y321.1 (e323.den)))) ∧ (((x310.2 (e323.den))) = ((y321.2 (e323.den)))))))) ∧ ((n = n) ∧ ((n ≤ n) ∧ (∀ e322 : E, ((0 ≤ e322.den ∧ e322.den < n) → ((((X (e322.den))) = ((X (e322.den)))) ∧ (((Y (e322.den))) = ((Y (e322.den))))))))))))))) ∧ (((((Int.tdiv (a + b) 2) + c) - x201.1) ≤ (Int.tdiv (a + b) 2)) → (∃ y324 : (Int → Int) × (Int → Int), ((mrgP X Y A B y324.1 y324.2 a b) ∧ (((m ≤ m) ∧ (∀ e326 : E, ((0 ≤ e326.den ∧ e326.den < m) → ((((x310.1 (e326.den))) = ((y324.1 (e326.den)))) ∧ (((x310.2 (e326.den))) = ((y324.2 (e326.den)))))))) ∧ ((n = n) ∧ ((n ≤ n) ∧ (∀ e325 : E, ((0 ≤ e325.den ∧ e325.den < n) → ((((X (e325.den))) = ((X (e325.den)))) ∧ (((Y (e325.den))) = ((Y (e325.den)))))))))))))))))))) ∧ (((Int.tdiv (a + b) 2) ≤ x201.1) → ((((Int.tdiv (a + b) 2) < (((Int.tdiv (a + b) 2) + c) - x201.1)) → ((((((Int.tdiv (a + b) 2) + c) - x201.1) < b) → ((((b - (Int.tdiv (a + b) 2)).toNat < M) ∧ (mrgR X Y A B n m (Int.tdiv (a + b) 2) (((Int.tdiv (a + b) 2) + c) - x201.1) b)) ∧ (((m = m) ∧ ((((Int.tdiv (a + b) 2) = (Int.tdiv (a + b) 2)) ∧ ((0 ≤ (Int.tdiv (a + b) 2) ∧ (Int.tdiv (a + b) 2) ≤ 2097152) → (0 ≤ (Int.tdiv (a + b) 2) ∧ (Int.tdiv (a + b) 2) ≤ 1048576))) ∧ ((((((Int.tdiv (a + b) 2) + c) - x201.1) = ((((Int.tdiv (a + b) 2) + c) - x201.1))) ∧ (((-1048576) ≤ (((Int.tdiv (a + b) 2) + c) - x201.1) ∧ (((Int.tdiv (a + b) 2) + c) - x201.1) ≤ 3145728) → (0 ≤ ((((Int.tdiv (a + b) 2) + c) - x201.1)) ∧ ((((Int.tdiv (a + b) 2) + c) - x201.1)) ≤ 1048576))) ∧ (b = b)))) ∧ ((((m ≤ m) ∧ (∀ e328 : E, ((0 ≤ e328.den ∧ e328.den < m) → ((((A (e328.den))) = ((A (e328.den)))) ∧ (((B (e328.den))) = ((B (e328.den)))))))) ∧ ((n = n) ∧ ((n ≤ n) ∧ (∀ e327 : E, ((0 ≤ e327.den ∧ e327.den < n) → ((((X (e327.den))) = ((X (e327.den)))) ∧ (((Y (e327.den))) = ((Y (e327.den)))))))))) ∧ (∀ x329 : (Int → Int) × (Int → Int), ((mrgP X Y A B x329.1 x329.2 (Int.tdiv (a + b) 2) b) → (∃ y332 : (Int → Int) × (Int → Int), ((mrgP X Y A B y332.1 y332.2 a b) ∧ (((m ≤ m) ∧ (∀ e334 : E, ((0 ≤ e334.den ∧ e334.den < m) → ((((x329.1 (e334.den))) = ((y332.1 (e334.den)))) ∧ (((x329.2 (e334.den))) = ((y332.2 (e334.den)))))))) ∧ ((n = n) ∧ ((n ≤ n) ∧ (∀ e333 : E, ((0 ≤ e333.den ∧ e333.den < n) → ((((X (e333.den))) = ((X (e333.den)))) ∧ (((Y (e333.den))) = ((Y (e333.den)))))))))))))))))) ∧ ((b ≤ (((Int.tdiv (a + b) 2) + c) - x201.1)) → (∃ y335 : (Int → Int) × (Int → Int), ((mrgP X Y A B y335.1 y335.2 a b) ∧ (((m ≤ m) ∧ (∀ e337 : E, ((0 ≤ e337.den ∧ e337.den < m) → ((((A (e337.den))) = ((y335.1 (e337.den)))) ∧ (((B (e337.den))) = ((y335.2 (e337.den)))))))) ∧ ((n = n) ∧ ((n ≤ n) ∧ (∀ e336 : E, ((0 ≤ e336.den ∧ e336.den < n) → ((((X (e336.den))) = ((X (e336.den)))) ∧ (((Y (e336.den))) = ((Y (e336.den))))))))))))))) ∧ (((((Int.tdiv (a + b) 2) + c) - x201.1) ≤ (Int.tdiv (a + b) 2)) → (∃ y338 : (Int → Int) × (Int → Int), ((mrgP X Y A B y338.1 y338.2 a b) ∧ (((m ≤ m) ∧ (∀ e340 : E, ((0 ≤ e340.den ∧ e340.den < m) → ((((A (e340.den))) = ((y338.1 (e340.den)))) ∧ (((B (e340.den))) = ((y338.2 (e340.den)))))))) ∧ ((n = n) ∧ ((n ≤ n) ∧ (∀ e339 : E, ((0 ≤ e339.den ∧ e339.den < n) → ((((X (e339.den))) = ((X (e339.den)))) ∧ (((Y (e339.den))) = ((Y (e339.den))))))))))))))))) ∧ ((x201.1 ≤ a) → ((((Int.tdiv (a + b) 2) < (((Int.tdiv (a + b) 2) + c) - x201.1)) → ((((((Int.tdiv (a + b) 2) + c) - x201.1) < b) → ((((b - (Int.tdiv (a + b) 2)).toNat < M) ∧ (mrgR X Y A B n m (Int.tdiv (a + b) 2) (((Int.tdiv (a + b) 2) + c) - x201.1) b)) ∧ (((m = m) ∧ ((((Int.tdiv (a + b) 2) = (Int.tdiv (a + b) 2)) ∧ ((0 ≤ (Int.tdiv (a + b) 2) ∧ (Int.tdiv (a + b) 2) ≤ 2097152) → (0 ≤ (Int.tdiv (a + b) 2) ∧ (Int.tdiv (a + b) 2) ≤ 1048576))) ∧ ((((((Int.tdiv (a + b) 2) + c) - x201.1) = ((((Int.tdiv (a + b) 2) + c) - x201.1))) ∧ (((-1048576) ≤ (((Int.tdiv (a + b) 2) + c) - x201.1) ∧ (((Int.tdiv (a + b) 2) + c) - x201.1) ≤ 3145728) → (0 ≤ ((((Int.tdiv (a + b) 2) + c) - x201.1)) ∧ ((((Int.tdiv (a + b) 2) + c) - x201.1)) ≤ 1048576))) ∧ (b = b)))) ∧ ((((m ≤ m) ∧ (∀ e342 : E, ((0 ≤ e342.den ∧ e342.den < m) → ((((A (e342.den))) = ((A (e342.den)))) ∧ (((B (e342.den))) = ((B (e342.den)))))))) ∧ ((n = n) ∧ ((n ≤ n) ∧ (∀ e341 : E, ((0 ≤ e341.den ∧ e341.den < n) → ((((X (e341.den))) = ((X (e341.den)))) ∧ (((Y (e341.den))) = ((Y (e341.den)))))))))) ∧ (∀ x343 : (Int → Int) × (Int → Int), ((mrgP X Y A B x343.1 x343.2 (Int.tdiv (a + b) 2) b) → (∃ y346 : (Int → Int) × (Int → Int), ((mrgP X Y A B y346.1 y346.2 a b) ∧ (((m ≤ m) ∧ (∀ e348 : E, ((0 ≤ e348.den ∧ e348.den < m) → ((((x343.1 (e348.den))) = ((y346.1 (e348.den)))) ∧ (((x343.2 (e348.den))) = ((y346.2 (e348.den)))))))) ∧ ((n = n) ∧ ((n ≤ n) ∧ (∀ e347 : E, ((0 ≤ e347.den ∧ e347.den < n) → ((((X (e347.den))) = ((X (e347.den)))) ∧ (((Y (e347.den))) = ((Y (e347.den)))))))))))))))))) ∧ ((b ≤ (((Int.tdiv (a + b) 2) + c) - x201.1)) → (∃ y349 : (Int → Int) × (Int → Int), ((mrgP X Y A B y349.1 y349.2 a b) ∧ (((m ≤ m) ∧ (∀ e351 : E, ((0 ≤ e351.den ∧ e351.den < m) → ((((A (e351.den))) = ((y349.1 (e351.den)))) ∧ (((B (e351.den))) = ((y349.2 (e351.den)))))))) ∧ ((n = n) ∧ ((n ≤ n) ∧ (∀ e350 : E, ((0 ≤ e350.den ∧ e350.den < n) → ((((X (e350.den))) = ((X (e350.den)))) ∧ (((Y (e350.den))) = ((Y (e350.den))))))))))))))) ∧ (((((Int.tdiv (a + b) 2) + c) - x201.1) ≤ (Int.tdiv (a + b) 2)) → (∃ y352 : (Int → Int) × (Int → Int), ((mrgP X Y A B y352.1 y352.2 a b) ∧ (((m ≤ m) ∧ (∀ e354 : E, ((0 ≤ e354.den ∧ e354.den < m) → ((((A (e354.den))) = ((y352.1 (e354.den)))) ∧ (((B (e354.den))) = ((y352.2 (e354.den)))))))) ∧ ((n = n) ∧ ((n ≤ n) ∧ (∀ e353 : E, ((0 ≤ e353.den ∧ e353.den < n) → ((((X (e353.den))) = ((X (e353.den)))) ∧ (((Y (e353.den))) = ((Y (e353.den)))))))))))))))))))))))))))))) (by kernel_rfl) ?_
  intro h1 h2
  refine ⟨?_, ?_⟩
  · intro c357
    refine ⟨?_, ?_⟩
    · refine ⟨(c, b), ?_⟩
      try dsimp only
      refine ⟨?_, ?_, ⟨Int.le_refl _, fun _ => fun _ => ⟨rfl, rfl⟩⟩, rfl, Int.le_refl _, fun _ => fun _ => ⟨rfl, rfl⟩⟩
      · have hq := hp.2.1; exact se1_0 hp
      · refine ⟨rfl, rfl, rfl, rfl, ?_, ?_⟩
        · rfl
        · rfl
    · rintro ⟨i, j⟩
      dsimp only
      intro I1
      refine ⟨?_, ?_⟩
      · intro c358
        refine ⟨?_, ?_, ?_, ?_, ?_, ⟨⟨rfl, rfl⟩, ⟨rfl, rfl⟩⟩, ⟨rfl, ⟨Int.le_refl _, fun _ => fun _ => ⟨rfl, rfl⟩⟩⟩, ?_, ?_⟩
        · have hq := hp.2.1; have hi := I1.1; have hh := half_bd (i := i) (j := j) (by omega) (by omega); omega
        · have hq := hp.2.1; have hi := I1.1; have hh := half_bd (i := i) (j := j) (by omega) (by omega); omega
        · have hq := hp.2.1; omega
        · have hq := hp.2.1; omega
        · have hq := hp.2.1; have hi := I1.1; have hh := half_bd (i := i) (j := j) (by omega) (by omega); exact ⟨hp.1 _ (by omega) (by omega), hp.1 _ (by omega) (by omega)⟩
        · intro c359
          refine ⟨((Int.tdiv (i + j) 2) + 1, j), ?_⟩
          try dsimp only
          refine ⟨?_, ?_, ?_⟩
          · exact se1_lo hp I1 (by omega) (by assumption)
          · refine ⟨?_, ⟨Int.le_refl _, fun _ => fun _ => ⟨rfl, rfl⟩⟩, rfl, Int.le_refl _, fun _ => fun _ => ⟨rfl, rfl⟩⟩
            refine ⟨rfl, rfl, rfl, rfl, ?_, ?_⟩
            · refine ⟨?_, ?_⟩
              · rfl
              · intro c360
                have hq := hp.2.1; have hi := I1.1; have hh := half_bd (i := i) (j := j) (by omega) (by omega); omega
            · rfl
          · have hq := hp.2.1; have hi := I1.1; have hh := half_bd (i := i) (j := j) (by omega) (by omega); omega
        · intro c361
          refine ⟨(i, Int.tdiv (i + j) 2), ?_⟩
          try dsimp only
          refine ⟨?_, ?_, ?_⟩
          · exact se1_hi hp I1 (by omega) (by assumption)
          · refine ⟨?_, ⟨Int.le_refl _, fun _ => fun _ => ⟨rfl, rfl⟩⟩, rfl, Int.le_refl _, fun _ => fun _ => ⟨rfl, rfl⟩⟩
            refine ⟨rfl, rfl, rfl, rfl, ?_, ?_, ?_⟩
            · rfl
            · rfl
            · intro c362
              have hq := hp.2.1; have hi := I1.1; have hh := half_bd (i := i) (j := j) (by omega) (by omega); omega
          · have hq := hp.2.1; have hi := I1.1; have hh := half_bd (i := i) (j := j) (by omega) (by omega); omega
      · intro c363
        refine ⟨?_, ?_⟩
        · refine ⟨a, ?_⟩
          try dsimp only
          refine ⟨?_, ?_, ?_, rfl, Int.le_refl _, fun _ => fun _ => ⟨rfl, rfl⟩⟩
          · have hq := hp.2.1; (have h3 := (show se1 X Y A B a c b i j by assumption).1; exact ⟨by omega, by assumption, by omega⟩)
          · refine ⟨rfl, rfl, rfl, rfl, rfl, ?_⟩
            rfl
          · refine ⟨Int.le_refl _, ?_⟩
            intro e15
            intro c364
            refine ⟨?_, ?_⟩
            · rw [shF_0]; rfl
            · rw [shF_0]; rfl
        · intro k
          intro I1
          refine ⟨?_, ?_⟩
          · intro c365
            refine ⟨?_, ?_, ?_, ?_, ?_, ?_, ?_, ?_, ?_⟩
            · have hq := hp.2.1; have h3 := I1.2.1.1; omega
            · have hq := hp.2.1; have h3 := I1.2.1.1; omega
            · have hq := hp.2.1; have h3 := I1.2.1.1; omega
            · have hq := hp.2.1; have h3 := I1.2.1.1; omega
            · have hq := hp.2.1; have h3 := I1.2.1.1; omega
            · have hq := hp.2.1; have h3 := I1.2.1.1; omega
            · have hq := hp.2.1; have h3 := I1.2.1.1; omega
            · have hq := hp.2.1; have h3 := I1.2.1.1; omega
            · refine ⟨k + 1, ?_⟩
              try dsimp only
              refine ⟨?_, ?_, ?_⟩
              · have hq := hp.2.1; have h3 := I1.2.1.1; exact ⟨by omega, I1.2⟩
              · refine ⟨?_, ?_, rfl, Int.le_refl _, fun _ => fun _ => ⟨rfl, rfl⟩⟩
                · refine ⟨rfl, rfl, rfl, rfl, rfl, ?_, ?_⟩
                  · rfl
                  · intro c366
                    have hq := hp.2.1; have h3 := I1.2.1.1; omega
                · refine ⟨rfl, ?_, ?_⟩
                  · refine ⟨?_, ?_⟩
                    · intro e19
                      intro c367
                      refine ⟨?_, ?_⟩
                      · exact congrArg Prod.fst (sh_n I1.1.1 (by omega) (by omega))
                      · exact congrArg Prod.snd (sh_n I1.1.1 (by omega) (by omega))
                    · intro e20
                      intro c368
                      refine ⟨?_, ?_⟩
                      · exact congrArg Prod.fst (sh_a I1.1.1 (by omega))
                      · exact congrArg Prod.snd (sh_a I1.1.1 (by omega))
                  · intro e18
                    intro c369
                    refine ⟨?_, ?_⟩
                    · exact congrArg Prod.fst (sh_b I1.1.1 (by omega))
                    · exact congrArg Prod.snd (sh_b I1.1.1 (by omega))
              · omega
          · intro c370
            refine ⟨((fun ι => (shF (zp A B) a k (ι)).1), (fun ι => (shF (zp A B) a k (ι)).2)), ?_⟩
            try dsimp only
            refine ⟨?_, ?_, rfl, Int.le_refl _, fun _ => fun _ => ⟨rfl, rfl⟩⟩
            · exact se1_end hp I1.2.1 I1.2.2 (by assumption) I1.1 (by omega)
            · refine ⟨Int.le_refl _, ?_⟩
              intro e23
              intro c371
              refine ⟨?_, ?_⟩
              · rfl
              · rfl
  · intro c372
    refine ⟨?_, ?_⟩
    · intro c373
      refine ⟨?_, ?_⟩
      · refine ⟨(a, c), ?_⟩
        try dsimp only
        refine ⟨?_, ?_, ⟨Int.le_refl _, fun _ => fun _ => ⟨rfl, rfl⟩⟩, rfl, Int.le_refl _, fun _ => fun _ => ⟨rfl, rfl⟩⟩
        · have hq := hp.2.1; exact se2_0 hp
        · refine ⟨rfl, rfl, rfl, rfl, ?_, ?_⟩
          · rfl
          · rfl
      · rintro ⟨i, j⟩
        dsimp only
        intro I1
        refine ⟨?_, ?_⟩
        · intro c374
          refine ⟨?_, ?_, ?_, ?_, ?_, ⟨⟨rfl, rfl⟩, ⟨rfl, rfl⟩⟩, ⟨rfl, ⟨Int.le_refl _, fun _ => fun _ => ⟨rfl, rfl⟩⟩⟩, ?_, ?_⟩
          · have hq := hp.2.1; omega
          · have hq := hp.2.1; omega
          · have hq := hp.2.1; have hi := I1.1; have hh := half_bd (i := i) (j := j) (by omega) (by omega); omega
          · have hq := hp.2.1; have hi := I1.1; have hh := half_bd (i := i) (j := j) (by omega) (by omega); omega
          · have hq := hp.2.1; have hi := I1.1; have hh := half_bd (i := i) (j := j) (by omega) (by omega); exact ⟨hp.1 _ (by omega) (by omega), hp.1 _ (by omega) (by omega)⟩
          · intro c375
            refine ⟨((Int.tdiv (i + j) 2) + 1, j), ?_⟩
            try dsimp only
            refine ⟨?_, ?_, ?_⟩
            · exact se2_lo hp I1 (by omega) (by assumption)
            · refine ⟨?_, ⟨Int.le_refl _, fun _ => fun _ => ⟨rfl, rfl⟩⟩, rfl, Int.le_refl _, fun _ => fun _ => ⟨rfl, rfl⟩⟩
              refine ⟨rfl, rfl, rfl, rfl, ?_, ?_⟩
              · refine ⟨?_, ?_⟩
                · rfl
                · intro c376
                  have hq := hp.2.1; have hi := I1.1; have hh := half_bd (i := i) (j := j) (by omega) (by omega); omega
              · rfl
            · have hq := hp.2.1; have hi := I1.1; have hh := half_bd (i := i) (j := j) (by omega) (by omega); omega
          · intro c377
            refine ⟨(i, Int.tdiv (i + j) 2), ?_⟩
            try dsimp only
            refine ⟨?_, ?_, ?_⟩
            · exact se2_hi hp I1 (by omega) (by assumption)
            · refine ⟨?_, ⟨Int.le_refl _, fun _ => fun _ => ⟨rfl, rfl⟩⟩, rfl, Int.le_refl _, fun _ => fun _ => ⟨rfl, rfl⟩⟩
              refine ⟨rfl, rfl, rfl, rfl, ?_, ?_, ?_⟩
              · rfl
              · rfl
              · intro c378
                have hq := hp.2.1; have hi := I1.1; have hh := half_bd (i := i) (j := j) (by omega) (by omega); omega
            · have hq := hp.2.1; have hi := I1.1; have hh := half_bd (i := i) (j := j) (by omega) (by omega); omega
        · intro c379
          refine ⟨?_, ?_⟩
          · refine ⟨c, ?_⟩
            try dsimp only
            refine ⟨?_, ?_, ?_, rfl, Int.le_refl _, fun _ => fun _ => ⟨rfl, rfl⟩⟩
            · have hq := hp.2.1; (have h3 := (show se2 X Y A B a c i j by assumption).1; exact ⟨by omega, by assumption, by omega⟩)
            · refine ⟨rfl, rfl, rfl, rfl, rfl, ?_⟩
              rfl
            · refine ⟨Int.le_refl _, ?_⟩
              intro e38
              intro c380
              refine ⟨?_, ?_⟩
              · rw [shB_0]; rfl
              · rw [shB_0]; rfl
          · intro k
            intro I1
            refine ⟨?_, ?_⟩
            · intro c381
              refine ⟨?_, ?_, ?_, ?_, ?_, ?_, ?_, ?_, ?_⟩
              · have hq := hp.2.1; have h3 := I1.2.1.1; omega
              · have hq := hp.2.1; omega
              · have hq := hp.2.1; have h3 := I1.2.1.1; omega
              · have hq := hp.2.1; omega
              · have hq := hp.2.1; have h3 := I1.2.1.1; omega
              · have hq := hp.2.1; omega
              · have hq := hp.2.1; have h3 := I1.2.1.1; omega
              · have hq := hp.2.1; omega
              · refine ⟨k - 1, ?_⟩
                try dsimp only
                refine ⟨?_, ?_, ?_⟩
                · have hq := hp.2.1; have h3 := I1.2.1.1; exact ⟨by omega, I1.2⟩
                · refine ⟨?_, ?_, rfl, Int.le_refl _, fun _ => fun _ => ⟨rfl, rfl⟩⟩
                  · refine ⟨rfl, rfl, rfl, rfl, rfl, ?_, ?_⟩
                    · rfl
                    · intro c382
                      have hq := hp.2.1; have h3 := I1.2.1.1; omega
                  · refine ⟨rfl, ?_, ?_⟩
                    · refine ⟨?_, ?_⟩
                      · intro e42
                        intro c383
                        refine ⟨?_, ?_⟩
                        · have hq := hp.2.1; have h3 := I1.2.1.1; exact congrArg Prod.fst (sb_n I1.1.2 (by omega) (by omega))
                        · have hq := hp.2.1; have h3 := I1.2.1.1; exact congrArg Prod.snd (sb_n I1.1.2 (by omega) (by omega))
                      · intro e43
                        intro c384
                        refine ⟨?_, ?_⟩
                        · have hq := hp.2.1; have h3 := I1.2.1.1; exact congrArg Prod.fst (sb_a I1.1.2 (by omega))
                        · have hq := hp.2.1; have h3 := I1.2.1.1; exact congrArg Prod.snd (sb_a I1.1.2 (by omega))
                    · intro e41
                      intro c385
                      refine ⟨?_, ?_⟩
                      · have hq := hp.2.1; have h3 := I1.2.1.1; exact congrArg Prod.fst (sb_b I1.1.2 (by omega))
                      · have hq := hp.2.1; have h3 := I1.2.1.1; exact congrArg Prod.snd (sb_b I1.1.2 (by omega))
                · have hq := hp.2.1; have h3 := I1.2.1.1; omega
            · intro c386
              refine ⟨((fun ι => (shB (zp A B) c k (ι)).1), (fun ι => (shB (zp A B) c k (ι)).2)), ?_⟩
              try dsimp only
              refine ⟨?_, ?_, rfl, Int.le_refl _, fun _ => fun _ => ⟨rfl, rfl⟩⟩
              · exact se2_end hp I1.2.1 I1.2.2 (by assumption) I1.1 (by omega)
              · refine ⟨Int.le_refl _, ?_⟩
                intro e46
                intro c387
                refine ⟨?_, ?_⟩
                · rfl
                · rfl
    · intro c388
      refine ⟨?_, ?_⟩
      · intro c389
        refine ⟨?_, ?_⟩
        · refine ⟨(((Int.tdiv (a + b) 2) + c) - b, Int.tdiv (a + b) 2), ?_⟩
          try dsimp only
          refine ⟨?_, ?_, ⟨Int.le_refl _, fun _ => fun _ => ⟨rfl, rfl⟩⟩, rfl, Int.le_refl _, fun _ => fun _ => ⟨rfl, rfl⟩⟩
          · exact (smI_y hp (by assumption)).1
          · refine ⟨rfl, rfl, rfl, rfl, rfl, rfl, ?_, ?_, rfl⟩
            · refine ⟨?_, ?_⟩
              · rfl
              · intro c390
                have hs := smI_y hp (by assumption); have hb := mg_bd hp.2.1; have hq := hp.2.1; omega
            · refine ⟨?_, ?_⟩
              · rfl
              · intro c391
                omega
        · rintro ⟨s, r⟩
          dsimp only
          intro I1
          refine ⟨?_, ?_⟩
          · intro c392
            refine ⟨?_, ?_, ?_, ?_, ?_, ⟨⟨rfl, rfl⟩, ⟨rfl, rfl⟩⟩, ⟨rfl, ⟨Int.le_refl _, fun _ => fun _ => ⟨rfl, rfl⟩⟩⟩, ?_, ?_⟩
            · have hh := smI_bd hp I1; have hq := hp.2.1; have hm := (mg_bd hp.2.1).1; omega
            · have hh := smI_bd hp I1; have hq := hp.2.1; have hm := (mg_bd hp.2.1).1; omega
            · have hh := smI_bd hp I1; have hq := hp.2.1; have hm := (mg_bd hp.2.1).1; omega
            · have hh := smI_bd hp I1; have hq := hp.2.1; have hm := (mg_bd hp.2.1).1; omega
            · have hh := smI_bd hp I1; have hq := hp.2.1; have hm := (mg_bd hp.2.1).1; have hk := hh.2.2 (by omega); exact ⟨hp.1 _ (by omega) (by omega), hp.1 _ (by omega) (by omega)⟩
            · intro c393
              refine ⟨((Int.tdiv (s + r) 2) + 1, r), ?_⟩
              try dsimp only
              refine ⟨?_, ?_, ?_⟩
              · exact smI_lo hp I1 (by omega) (by assumption)
              · refine ⟨?_, ⟨Int.le_refl _, fun _ => fun _ => ⟨rfl, rfl⟩⟩, rfl, Int.le_refl _, fun _ => fun _ => ⟨rfl, rfl⟩⟩
                refine ⟨rfl, rfl, rfl, rfl, rfl, rfl, ?_, ?_, rfl⟩
                · refine ⟨?_, ?_⟩
                  · rfl
                  · intro c394
                    have hh := smI_bd hp I1; have hq := hp.2.1; have hm := (mg_bd hp.2.1).1; omega
                · rfl
              · have hh := smI_bd hp I1; have hq := hp.2.1; have hm := (mg_bd hp.2.1).1; omega
            · intro c395
              refine ⟨(s, Int.tdiv (s + r) 2), ?_⟩
              try dsimp only
              refine ⟨?_, ?_, ?_⟩
              · exact smI_hi hp I1 (by omega) (by assumption)
              · refine ⟨?_, ⟨Int.le_refl _, fun _ => fun _ => ⟨rfl, rfl⟩⟩, rfl, Int.le_refl _, fun _ => fun _ => ⟨rfl, rfl⟩⟩
                refine ⟨rfl, rfl, rfl, rfl, rfl, rfl, ?_, ?_, rfl⟩
                · rfl
                · refine ⟨?_, ?_⟩
                  · rfl
                  · intro c396
                    have hh := smI_bd hp I1; have hq := hp.2.1; have hm := (mg_bd hp.2.1).1; omega
              · have hh := smI_bd hp I1; have hq := hp.2.1; have hm := (mg_bd hp.2.1).1; omega
          · intro c397
            refine ⟨?_, ?_⟩
            · intro c398
              refine ⟨?_, ?_⟩
              · intro c399
                refine ⟨?_, ?_, ⟨⟨Int.le_refl _, fun _ => fun _ => ⟨rfl, rfl⟩⟩, ⟨rfl, ⟨Int.le_refl _, fun _ => fun _ => ⟨rfl, rfl⟩⟩⟩⟩, ?_, ?_⟩
                · have hh := smI_bd hp I1; have hq := hp.2.1; have hm := (mg_bd hp.2.1).1; have hc := cut_of (s := s) (r := r) hp I1 (by omega); exact ⟨hp.1, by omega⟩
                · refine ⟨rfl, rfl, rfl, rfl, ?_⟩
                  intro c400
                  have hh := smI_bd hp I1; have hq := hp.2.1; have hm := (mg_bd hp.2.1).1; omega
                · intro c401
                  refine ⟨?_, ?_⟩
                  · intro c402
                    refine ⟨?_, ?_, ⟨⟨Int.le_refl _, fun _ => fun _ => ⟨rfl, rfl⟩⟩, ⟨rfl, ⟨Int.le_refl _, fun _ => fun _ => ⟨rfl, rfl⟩⟩⟩⟩, ?_⟩
                    · have hh := smI_bd hp I1; have hq := hp.2.1; have hm := (mg_bd hp.2.1).1; have hc := cut_of (s := s) (r := r) hp I1 (by omega); have hd := cutd_rot hp hc; exact ⟨by omega, hd.lreq (by omega) (by omega)⟩
                    · refine ⟨rfl, rfl, rfl, rfl, ?_⟩
                      intro c403
                      omega
                    · rintro ⟨A263, B264⟩
                      dsimp only
                      intro c404
                      refine ⟨?_, ?_⟩
                      · intro c405
                        refine ⟨?_, ?_⟩
                        · intro c406
                          refine ⟨?_, ?_, ⟨⟨Int.le_refl _, fun _ => fun _ => ⟨rfl, rfl⟩⟩, ⟨rfl, ⟨Int.le_refl _, fun _ => fun _ => ⟨rfl, rfl⟩⟩⟩⟩, ?_⟩
                          · have hh := smI_bd hp I1; have hq := hp.2.1; have hm := (mg_bd hp.2.1).1; have hc := cut_of (s := s) (r := r) hp I1 (by omega); have hd := cutd_rot hp hc; exact ⟨by omega, hd.rreq (by assumption) (by omega) (by omega)⟩
                          · refine ⟨rfl, ?_, ?_, rfl⟩
                            · refine ⟨rfl, ?_⟩
                              intro c407
                              omega
                            · refine ⟨rfl, ?_⟩
                              intro c408
                              omega
                          · rintro ⟨A268, B269⟩
                            dsimp only
                            intro c409
                            refine ⟨(A268, B269), ?_⟩
                            try dsimp only
                            refine ⟨?_, ?_, rfl, Int.le_refl _, fun _ => fun _ => ⟨rfl, rfl⟩⟩
                            · have hh := smI_bd hp I1; have hq := hp.2.1; have hm := (mg_bd hp.2.1).1; have hc := cut_of (s := s) (r := r) hp I1 (by omega); have hd := cutd_rot hp hc; exact hd.done (by assumption) (by assumption)
                            · refine ⟨Int.le_refl _, ?_⟩
                              intro e72
                              intro c410
                              refine ⟨?_, ?_⟩
                              · rfl
                              · rfl
                        · intro c411
                          refine ⟨(A263, B264), ?_⟩
                          try dsimp only
                          refine ⟨?_, ?_, rfl, Int.le_refl _, fun _ => fun _ => ⟨rfl, rfl⟩⟩
                          · have hh := smI_bd hp I1; have hq := hp.2.1; have hm := (mg_bd hp.2.1).1; have hc := cut_of (s := s) (r := r) hp I1 (by omega); have hd := cutd_rot hp hc; exact hd.done (by assumption) (hd.rno (by assumption) (by omega))
                          · refine ⟨Int.le_refl _, ?_⟩
                            intro e75
                            intro c412
                            refine ⟨?_, ?_⟩
                            · rfl
                            · rfl
                      · intro c413
                        refine ⟨(A263, B264), ?_⟩
                        try dsimp only
                        refine ⟨?_, ?_, rfl, Int.le_refl _, fun _ => fun _ => ⟨rfl, rfl⟩⟩
                        · omega
                        · refine ⟨Int.le_refl _, ?_⟩
                          intro e78
                          intro c414
                          refine ⟨?_, ?_⟩
                          · rfl
                          · rfl
                  · intro c415
                    refine ⟨?_, ?_⟩
                    · intro c416
                      refine ⟨?_, ?_⟩
                      · intro c417
                        refine ⟨?_, ?_, ⟨⟨Int.le_refl _, fun _ => fun _ => ⟨rfl, rfl⟩⟩, ⟨rfl, ⟨Int.le_refl _, fun _ => fun _ => ⟨rfl, rfl⟩⟩⟩⟩, ?_⟩
                        · omega
                        · refine ⟨rfl, ?_, ?_, rfl⟩
                          · refine ⟨rfl, ?_⟩
                            intro c418
                            omega
                          · refine ⟨rfl, ?_⟩
                            intro c419
                            omega
                        · rintro ⟨A282, B283⟩
                          dsimp only
                          intro c420
                          refine ⟨(A282, B283), ?_⟩
                          try dsimp only
                          refine ⟨?_, ?_, rfl, Int.le_refl _, fun _ => fun _ => ⟨rfl, rfl⟩⟩
                          · omega
                          · refine ⟨Int.le_refl _, ?_⟩
                            intro e86
                            intro c421
                            refine ⟨?_, ?_⟩
                            · rfl
                            · rfl
                      · intro c422
                        refine ⟨((fun ι => (rotF (zp A B) s c (((Int.tdiv (a + b) 2) + c) - s) (ι)).1), (fun ι => (rotF (zp A B) s c (((Int.tdiv (a + b) 2) + c) - s) (ι)).2)), ?_⟩
                        try dsimp only
                        refine ⟨?_, ?_, rfl, Int.le_refl _, fun _ => fun _ => ⟨rfl, rfl⟩⟩
                        · omega
                        · refine ⟨Int.le_refl _, ?_⟩
                          intro e89
                          intro c423
                          refine ⟨?_, ?_⟩
                          · rfl
                          · rfl
                    · intro c424
                      refine ⟨((fun ι => (rotF (zp A B) s c (((Int.tdiv (a + b) 2) + c) - s) (ι)).1), (fun ι => (rotF (zp A B) s c (((Int.tdiv (a + b) 2) + c) - s) (ι)).2)), ?_⟩
                      try dsimp only
                      refine ⟨?_, ?_, rfl, Int.le_refl _, fun _ => fun _ => ⟨rfl, rfl⟩⟩
                      · omega
                      · refine ⟨Int.le_refl _, ?_⟩
                        intro e92
                        intro c425
                        refine ⟨?_, ?_⟩
                        · rfl
                        · rfl
                · intro c426
                  refine ⟨?_, ?_⟩
                  · intro c427
                    refine ⟨?_, ?_⟩
                    · intro c428
                      refine ⟨?_, ?_, ⟨⟨Int.le_refl _, fun _ => fun _ => ⟨rfl, rfl⟩⟩, ⟨rfl, ⟨Int.le_refl _, fun _ => fun _ => ⟨rfl, rfl⟩⟩⟩⟩, ?_⟩
                      · have hs := smI_y hp (by assumption); have hb := mg_bd hp.2.1; have hq := hp.2.1; omega
                      · refine ⟨rfl, ?_, ?_, rfl⟩
                        · refine ⟨rfl, ?_⟩
                          intro c429
                          omega
                        · refine ⟨rfl, ?_⟩
                          intro c430
                          omega
                      · rintro ⟨A296, B297⟩
                        dsimp only
                        intro c431
                        refine ⟨(A296, B297), ?_⟩
                        try dsimp only
                        refine ⟨?_, ?_, rfl, Int.le_refl _, fun _ => fun _ => ⟨rfl, rfl⟩⟩
                        · have hs := smI_y hp (by assumption); have hb := mg_bd hp.2.1; have hq := hp.2.1; omega
                        · refine ⟨Int.le_refl _, ?_⟩
                          intro e100
                          intro c432
                          refine ⟨?_, ?_⟩
                          · rfl
                          · rfl
                    · intro c433
                      refine ⟨((fun ι => (rotF (zp A B) s c (((Int.tdiv (a + b) 2) + c) - s) (ι)).1), (fun ι => (rotF (zp A B) s c (((Int.tdiv (a + b) 2) + c) - s) (ι)).2)), ?_⟩
                      try dsimp only
                      refine ⟨?_, ?_, rfl, Int.le_refl _, fun _ => fun _ => ⟨rfl, rfl⟩⟩
                      · have hh := smI_bd hp I1; have hq := hp.2.1; have hm := (mg_bd hp.2.1).1; have hc := cut_of (s := s) (r := r) hp I1 (by omega); have hd := cutd_rot hp hc; exact hd.done (hd.lno (by omega)) (hd.rno (hd.lno (by omega)) (by omega))
                      · refine ⟨Int.le_refl _, ?_⟩
                        intro e103
                        intro c434
                        refine ⟨?_, ?_⟩
                        · rfl
                        · rfl
                  · intro c435
                    refine ⟨((fun ι => (rotF (zp A B) s c (((Int.tdiv (a + b) 2) + c) - s) (ι)).1), (fun ι => (rotF (zp A B) s c (((Int.tdiv (a + b) 2) + c) - s) (ι)).2)), ?_⟩
                    try dsimp only
                    refine ⟨?_, ?_, rfl, Int.le_refl _, fun _ => fun _ => ⟨rfl, rfl⟩⟩
                    · omega
                    · refine ⟨Int.le_refl _, ?_⟩
                      intro e106
                      intro c436
                      refine ⟨?_, ?_⟩
                      · rfl
                      · rfl
              · intro c437
                refine ⟨?_, ?_⟩
                · intro c438
                  refine ⟨?_, ?_⟩
                  · intro c439
                    refine ⟨?_, ?_, ⟨⟨Int.le_refl _, fun _ => fun _ => ⟨rfl, rfl⟩⟩, ⟨rfl, ⟨Int.le_refl _, fun _ => fun _ => ⟨rfl, rfl⟩⟩⟩⟩, ?_⟩
                    · omega
                    · refine ⟨rfl, rfl, rfl, rfl, ?_⟩
                      intro c440
                      omega
                    · rintro ⟨A2110, B2111⟩
                      dsimp only
                      intro c441
                      refine ⟨?_, ?_⟩
                      · intro c442
                        refine ⟨?_, ?_⟩
                        · intro c443
                          refine ⟨?_, ?_, ⟨⟨Int.le_refl _, fun _ => fun _ => ⟨rfl, rfl⟩⟩, ⟨rfl, ⟨Int.le_refl _, fun _ => fun _ => ⟨rfl, rfl⟩⟩⟩⟩, ?_⟩
                          · omega
                          · refine ⟨rfl, ?_, ?_, rfl⟩
                            · refine ⟨rfl, ?_⟩
                              intro c444
                              omega
                            · refine ⟨rfl, ?_⟩
                              intro c445
                              omega
                          · rintro ⟨A2115, B2116⟩
                            dsimp only
                            intro c446
                            refine ⟨(A2115, B2116), ?_⟩
                            try dsimp only
                            refine ⟨?_, ?_, rfl, Int.le_refl _, fun _ => fun _ => ⟨rfl, rfl⟩⟩
                            · omega
                            · refine ⟨Int.le_refl _, ?_⟩
                              intro e119
                              intro c447
                              refine ⟨?_, ?_⟩
                              · rfl
                              · rfl
                        · intro c448
                          refine ⟨(A2110, B2111), ?_⟩
                          try dsimp only
                          refine ⟨?_, ?_, rfl, Int.le_refl _, fun _ => fun _ => ⟨rfl, rfl⟩⟩
                          · omega
                          · refine ⟨Int.le_refl _, ?_⟩
                            intro e122
                            intro c449
                            refine ⟨?_, ?_⟩
                            · rfl
                            · rfl
                      · intro c450
                        refine ⟨(A2110, B2111), ?_⟩
                        try dsimp only
                        refine ⟨?_, ?_, rfl, Int.le_refl _, fun _ => fun _ => ⟨rfl, rfl⟩⟩
                        · omega
                        · refine ⟨Int.le_refl _, ?_⟩
                          intro e125
                          intro c451
                          refine ⟨?_, ?_⟩
                          · rfl
                          · rfl
                  · intro c452
                    refine ⟨?_, ?_⟩
                    · intro c453
                      refine ⟨?_, ?_⟩
                      · intro c454
                        refine ⟨?_, ?_, ⟨⟨Int.le_refl _, fun _ => fun _ => ⟨rfl, rfl⟩⟩, ⟨rfl, ⟨Int.le_refl _, fun _ => fun _ => ⟨rfl, rfl⟩⟩⟩⟩, ?_⟩
                        · have hh := smI_bd hp I1; have hq := hp.2.1; have hm := (mg_bd hp.2.1).1; have hc := cut_of (s := s) (r := r) hp I1 (by omega); have hd := cutd_no hp hc (by omega); exact ⟨by omega, hd.rreq (hd.lno (by omega)) (by omega) (by omega)⟩
                        · refine ⟨rfl, ?_, ?_, rfl⟩
                          · refine ⟨rfl, ?_⟩
                            intro c455
                            omega
                          · refine ⟨rfl, ?_⟩
                            intro c456
                            have hs := smI_y hp (by assumption); have hb := mg_bd hp.2.1; have hq := hp.2.1; omega
                        · rintro ⟨A2129, B2130⟩
                          dsimp only
                          intro c457
                          refine ⟨(A2129, B2130), ?_⟩
                          try dsimp only
                          refine ⟨?_, ?_, rfl, Int.le_refl _, fun _ => fun _ => ⟨rfl, rfl⟩⟩
                          · have hh := smI_bd hp I1; have hq := hp.2.1; have hm := (mg_bd hp.2.1).1; have hc := cut_of (s := s) (r := r) hp I1 (by omega); have hd := cutd_no hp hc (by omega); exact hd.done (hd.lno (by omega)) (by assumption)
                          · refine ⟨Int.le_refl _, ?_⟩
                            intro e133
                            intro c458
                            refine ⟨?_, ?_⟩
                            · rfl
                            · rfl
                      · intro c459
                        refine ⟨(A, B), ?_⟩
                        try dsimp only
                        refine ⟨?_, ?_, rfl, Int.le_refl _, fun _ => fun _ => ⟨rfl, rfl⟩⟩
                        · have hq := hp.2.1; omega
                        · refine ⟨Int.le_refl _, ?_⟩
                          intro e136
                          intro c460
                          refine ⟨?_, ?_⟩
                          · rfl
                          · rfl
                    · intro c461
                      refine ⟨(A, B), ?_⟩
                      try dsimp only
                      refine ⟨?_, ?_, rfl, Int.le_refl _, fun _ => fun _ => ⟨rfl, rfl⟩⟩
                      · omega
                      · refine ⟨Int.le_refl _, ?_⟩
                        intro e139
                        intro c462
                        refine ⟨?_, ?_⟩
                        · rfl
                        · rfl
                · intro c463
                  refine ⟨?_, ?_⟩
                  · intro c464
                    refine ⟨?_, ?_⟩
                    · intro c465
                      refine ⟨?_, ?_, ⟨⟨Int.le_refl _, fun _ => fun _ => ⟨rfl, rfl⟩⟩, ⟨rfl, ⟨Int.le_refl _, fun _ => fun _ => ⟨rfl, rfl⟩⟩⟩⟩, ?_⟩
                      · have hs := smI_y hp (by assumption); have hb := mg_bd hp.2.1; have hq := hp.2.1; omega
                      · refine ⟨rfl, ?_, ?_, rfl⟩
                        · refine ⟨rfl, ?_⟩
                          intro c466
                          omega
                        · refine ⟨rfl, ?_⟩
                          intro c467
                          have hs := smI_y hp (by assumption); have hb := mg_bd hp.2.1; have hq := hp.2.1; omega
                      · rintro ⟨A2143, B2144⟩
                        dsimp only
                        intro c468
                        refine ⟨(A2143, B2144), ?_⟩
                        try dsimp only
                        refine ⟨?_, ?_, rfl, Int.le_refl _, fun _ => fun _ => ⟨rfl, rfl⟩⟩
                        · have hs := smI_y hp (by assumption); have hb := mg_bd hp.2.1; have hq := hp.2.1; omega
                        · refine ⟨Int.le_refl _, ?_⟩
                          intro e147
                          intro c469
                          refine ⟨?_, ?_⟩
                          · rfl
                          · rfl
                    · intro c470
                      refine ⟨(A, B), ?_⟩
                      try dsimp only
                      refine ⟨?_, ?_, rfl, Int.le_refl _, fun _ => fun _ => ⟨rfl, rfl⟩⟩
                      · have hq := hp.2.1; omega
                      · refine ⟨Int.le_refl _, ?_⟩
                        intro e150
                        intro c471
                        refine ⟨?_, ?_⟩
                        · rfl
                        · rfl
                  · intro c472
                    refine ⟨(A, B), ?_⟩
                    try dsimp only
                    refine ⟨?_, ?_, rfl, Int.le_refl _, fun _ => fun _ => ⟨rfl, rfl⟩⟩
                    · omega
                    · refine ⟨Int.le_refl _, ?_⟩
                      intro e153
                      intro c473
                      refine ⟨?_, ?_⟩
                      · rfl
                      · rfl
            · intro c474
              refine ⟨?_, ?_⟩
              · intro c475
                refine ⟨?_, ?_⟩
                · intro c476
                  refine ⟨?_, ?_, ⟨⟨Int.le_refl _, fun _ => fun _ => ⟨rfl, rfl⟩⟩, ⟨rfl, ⟨Int.le_refl _, fun _ => fun _ => ⟨rfl, rfl⟩⟩⟩⟩, ?_⟩
                  · omega
                  · refine ⟨rfl, rfl, rfl, rfl, ?_⟩
                    intro c477
                    omega
                  · rintro ⟨A2157, B2158⟩
                    dsimp only
                    intro c478
                    refine ⟨?_, ?_⟩
                    · intro c479
                      refine ⟨?_, ?_⟩
                      · intro c480
                        refine ⟨?_, ?_, ⟨⟨Int.le_refl _, fun _ => fun _ => ⟨rfl, rfl⟩⟩, ⟨rfl, ⟨Int.le_refl _, fun _ => fun _ => ⟨rfl, rfl⟩⟩⟩⟩, ?_⟩
                        · omega
                        · refine ⟨rfl, ?_, ?_, rfl⟩
                          · refine ⟨rfl, ?_⟩
                            intro c481
                            omega
                          · refine ⟨rfl, ?_⟩
                            intro c482
                            omega
                        · rintro ⟨A2162, B2163⟩
                          dsimp only
                          intro c483
                          refine ⟨(A2162, B2163), ?_⟩
                          try dsimp only
                          refine ⟨?_, ?_, rfl, Int.le_refl _, fun _ => fun _ => ⟨rfl, rfl⟩⟩
                          · omega
                          · refine ⟨Int.le_refl _, ?_⟩
                            intro e166
                            intro c484
                            refine ⟨?_, ?_⟩
                            · rfl
                            · rfl
                      · intro c485
                        refine ⟨(A2157, B2158), ?_⟩
                        try dsimp only
                        refine ⟨?_, ?_, rfl, Int.le_refl _, fun _ => fun _ => ⟨rfl, rfl⟩⟩
                        · omega
                        · refine ⟨Int.le_refl _, ?_⟩
                          intro e169
                          intro c486
                          refine ⟨?_, ?_⟩
                          · rfl
                          · rfl
                    · intro c487
                      refine ⟨(A2157, B2158), ?_⟩
                      try dsimp only
                      refine ⟨?_, ?_, rfl, Int.le_refl _, fun _ => fun _ => ⟨rfl, rfl⟩⟩
                      · omega
                      · refine ⟨Int.le_refl _, ?_⟩
                        intro e172
                        intro c488
                        refine ⟨?_, ?_⟩
                        · rfl
                        · rfl
                · intro c489
                  refine ⟨?_, ?_⟩
                  · intro c490
                    refine ⟨?_, ?_⟩
                    · intro c491
                      refine ⟨?_, ?_, ⟨⟨Int.le_refl _, fun _ => fun _ => ⟨rfl, rfl⟩⟩, ⟨rfl, ⟨Int.le_refl _, fun _ => fun _ => ⟨rfl, rfl⟩⟩⟩⟩, ?_⟩
                      · omega
                      · refine ⟨rfl, ?_, ?_, rfl⟩
                        · refine ⟨rfl, ?_⟩
                          intro c492
                          omega
                        · refine ⟨rfl, ?_⟩
                          intro c493
                          omega
                      · rintro ⟨A2176, B2177⟩
                        dsimp only
                        intro c494
                        refine ⟨(A2176, B2177), ?_⟩
                        try dsimp only
                        refine ⟨?_, ?_, rfl, Int.le_refl _, fun _ => fun _ => ⟨rfl, rfl⟩⟩
                        · omega
                        · refine ⟨Int.le_refl _, ?_⟩
                          intro e180
                          intro c495
                          refine ⟨?_, ?_⟩
                          · rfl
                          · rfl
                    · intro c496
                      refine ⟨(A, B), ?_⟩
                      try dsimp only
                      refine ⟨?_, ?_, rfl, Int.le_refl _, fun _ => fun _ => ⟨rfl, rfl⟩⟩
                      · omega
                      · refine ⟨Int.le_refl _, ?_⟩
                        intro e183
                        intro c497
                        refine ⟨?_, ?_⟩
                        · rfl
                        · rfl
                  · intro c498
                    refine ⟨(A, B), ?_⟩
                    try dsimp only
                    refine ⟨?_, ?_, rfl, Int.le_refl _, fun _ => fun _ => ⟨rfl, rfl⟩⟩
                    · have hh := smI_bd hp I1; have hq := hp.2.1; have hm := (mg_bd hp.2.1).1; omega
                    · refine ⟨Int.le_refl _, ?_⟩
                      intro e186
                      intro c499
                      refine ⟨?_, ?_⟩
                      · rfl
                      · rfl
              · intro c500
                refine ⟨?_, ?_⟩
                · intro c501
                  refine ⟨?_, ?_⟩
                  · intro c502
                    refine ⟨?_, ?_, ⟨⟨Int.le_refl _, fun _ => fun _ => ⟨rfl, rfl⟩⟩, ⟨rfl, ⟨Int.le_refl _, fun _ => fun _ => ⟨rfl, rfl⟩⟩⟩⟩, ?_⟩
                    · omega
                    · refine ⟨rfl, ?_, ?_, rfl⟩
                      · refine ⟨rfl, ?_⟩
                        intro c503
                        omega
                      · refine ⟨rfl, ?_⟩
                        intro c504
                        omega
                    · rintro ⟨A2190, B2191⟩
                      dsimp only
                      intro c505
                      refine ⟨(A2190, B2191), ?_⟩
                      try dsimp only
                      refine ⟨?_, ?_, rfl, Int.le_refl _, fun _ => fun _ => ⟨rfl, rfl⟩⟩
                      · omega
                      · refine ⟨Int.le_refl _, ?_⟩
                        intro e194
                        intro c506
                        refine ⟨?_, ?_⟩
                        · rfl
                        · rfl
                  · intro c507
                    refine ⟨(A, B), ?_⟩
                    try dsimp only
                    refine ⟨?_, ?_, rfl, Int.le_refl _, fun _ => fun _ => ⟨rfl, rfl⟩⟩
                    · omega
                    · refine ⟨Int.le_refl _, ?_⟩
                      intro e197
                      intro c508
                      refine ⟨?_, ?_⟩
                      · rfl
                      · rfl
                · intro c509
                  refine ⟨(A, B), ?_⟩
                  try dsimp only
                  refine ⟨?_, ?_, rfl, Int.le_refl _, fun _ => fun _ => ⟨rfl, rfl⟩⟩
                  · have hq := hp.2.1; omega
                  · refine ⟨Int.le_refl _, ?_⟩
                    intro e200
                    intro c510
                    refine ⟨?_, ?_⟩
                    · rfl
                    · rfl
      · intro c511
        refine ⟨?_, ?_⟩
        · refine ⟨(a, c), ?_⟩
          try dsimp only
          refine ⟨?_, ?_, ⟨Int.le_refl _, fun _ => fun _ => ⟨rfl, rfl⟩⟩, rfl, Int.le_refl _, fun _ => fun _ => ⟨rfl, rfl⟩⟩
          · exact (smI_n hp (by assumption)).1
          · refine ⟨rfl, rfl, rfl, rfl, rfl, rfl, ?_, ?_, rfl⟩
            · rfl
            · rfl
        · rintro ⟨s, r⟩
          dsimp only
          intro I1
          refine ⟨?_, ?_⟩
          · intro c512
            refine ⟨?_, ?_, ?_, ?_, ?_, ⟨⟨rfl, rfl⟩, ⟨rfl, rfl⟩⟩, ⟨rfl, ⟨Int.le_refl _, fun _ => fun _ => ⟨rfl, rfl⟩⟩⟩, ?_, ?_⟩
            · have hh := smI_bd hp I1; have hq := hp.2.1; have hm := (mg_bd hp.2.1).1; omega
            · have hh := smI_bd hp I1; have hq := hp.2.1; have hm := (mg_bd hp.2.1).1; omega
            · have hh := smI_bd hp I1; have hq := hp.2.1; have hm := (mg_bd hp.2.1).1; omega
            · have hh := smI_bd hp I1; have hq := hp.2.1; have hm := (mg_bd hp.2.1).1; omega
            · have hh := smI_bd hp I1; have hq := hp.2.1; have hm := (mg_bd hp.2.1).1; have hk := hh.2.2 (by omega); exact ⟨hp.1 _ (by omega) (by omega), hp.1 _ (by omega) (by omega)⟩
            · intro c513
              refine ⟨((Int.tdiv (s + r) 2) + 1, r), ?_⟩
              try dsimp only
              refine ⟨?_, ?_, ?_⟩
              · exact smI_lo hp I1 (by omega) (by assumption)
              · refine ⟨?_, ⟨Int.le_refl _, fun _ => fun _ => ⟨rfl, rfl⟩⟩, rfl, Int.le_refl _, fun _ => fun _ => ⟨rfl, rfl⟩⟩
                refine ⟨rfl, rfl, rfl, rfl, rfl, rfl, ?_, ?_, rfl⟩
                · refine ⟨?_, ?_⟩
                  · rfl
                  · intro c514
                    have hh := smI_bd hp I1; have hq := hp.2.1; have hm := (mg_bd hp.2.1).1; omega
                · rfl
              · have hh := smI_bd hp I1; have hq := hp.2.1; have hm := (mg_bd hp.2.1).1; omega
            · intro c515
              refine ⟨(s, Int.tdiv (s + r) 2), ?_⟩
              try dsimp only
              refine ⟨?_, ?_, ?_⟩
              · exact smI_hi hp I1 (by omega) (by assumption)
              · refine ⟨?_, ⟨Int.le_refl _, fun _ => fun _ => ⟨rfl, rfl⟩⟩, rfl, Int.le_refl _, fun _ => fun _ => ⟨rfl, rfl⟩⟩
                refine ⟨rfl, rfl, rfl, rfl, rfl, rfl, ?_, ?_, rfl⟩
                · rfl
                · refine ⟨?_, ?_⟩
                  · rfl
                  · intro c516
                    have hh := smI_bd hp I1; have hq := hp.2.1; have hm := (mg_bd hp.2.1).1; omega
              · have hh := smI_bd hp I1; have hq := hp.2.1; have hm := (mg_bd hp.2.1).1; omega
          · intro c517
            refine ⟨?_, ?_⟩
            · intro c518
              refine ⟨?_, ?_⟩
              · intro c519
                refine ⟨?_, ?_, ⟨⟨Int.le_refl _, fun _ => fun _ => ⟨rfl, rfl⟩⟩, ⟨rfl, ⟨Int.le_refl _, fun _ => fun _ => ⟨rfl, rfl⟩⟩⟩⟩, ?_, ?_⟩
                · have hh := smI_bd hp I1; have hq := hp.2.1; have hm := (mg_bd hp.2.1).1; have hc := cut_of (s := s) (r := r) hp I1 (by omega); exact ⟨hp.1, by omega⟩
                · refine ⟨rfl, rfl, rfl, rfl, ?_⟩
                  intro c520
                  have hh := smI_bd hp I1; have hq := hp.2.1; have hm := (mg_bd hp.2.1).1; omega
                · intro c521
                  refine ⟨?_, ?_⟩
                  · intro c522
                    refine ⟨?_, ?_, ⟨⟨Int.le_refl _, fun _ => fun _ => ⟨rfl, rfl⟩⟩, ⟨rfl, ⟨Int.le_refl _, fun _ => fun _ => ⟨rfl, rfl⟩⟩⟩⟩, ?_⟩
                    · have hh := smI_bd hp I1; have hq := hp.2.1; have hm := (mg_bd hp.2.1).1; have hc := cut_of (s := s) (r := r) hp I1 (by omega); have hd := cutd_rot hp hc; exact ⟨by omega, hd.lreq (by omega) (by omega)⟩
                    · refine ⟨rfl, rfl, rfl, rfl, ?_⟩
                      intro c523
                      have hs := smI_n hp (by assumption); have hb := mg_bd hp.2.1; have hq := hp.2.1; omega
                    · rintro ⟨A2217, B2218⟩
                      dsimp only
                      intro c524
                      refine ⟨?_, ?_⟩
                      · intro c525
                        refine ⟨?_, ?_⟩
                        · intro c526
                          refine ⟨?_, ?_, ⟨⟨Int.le_refl _, fun _ => fun _ => ⟨rfl, rfl⟩⟩, ⟨rfl, ⟨Int.le_refl _, fun _ => fun _ => ⟨rfl, rfl⟩⟩⟩⟩, ?_⟩
                          · have hh := smI_bd hp I1; have hq := hp.2.1; have hm := (mg_bd hp.2.1).1; have hc := cut_of (s := s) (r := r) hp I1 (by omega); have hd := cutd_rot hp hc; exact ⟨by omega, hd.rreq (by assumption) (by omega) (by omega)⟩
                          · refine ⟨rfl, ?_, ?_, rfl⟩
                            · refine ⟨rfl, ?_⟩
                              intro c527
                              omega
                            · refine ⟨rfl, ?_⟩
                              intro c528
                              omega
                          · rintro ⟨A2222, B2223⟩
                            dsimp only
                            intro c529
                            refine ⟨(A2222, B2223), ?_⟩
                            try dsimp only
                            refine ⟨?_, ?_, rfl, Int.le_refl _, fun _ => fun _ => ⟨rfl, rfl⟩⟩
                            · have hh := smI_bd hp I1; have hq := hp.2.1; have hm := (mg_bd hp.2.1).1; have hc := cut_of (s := s) (r := r) hp I1 (by omega); have hd := cutd_rot hp hc; exact hd.done (by assumption) (by assumption)
                            · refine ⟨Int.le_refl _, ?_⟩
                              intro e226
                              intro c530
                              refine ⟨?_, ?_⟩
                              · rfl
                              · rfl
                        · intro c531
                          refine ⟨(A2217, B2218), ?_⟩
                          try dsimp only
                          refine ⟨?_, ?_, rfl, Int.le_refl _, fun _ => fun _ => ⟨rfl, rfl⟩⟩
                          · have hh := smI_bd hp I1; have hq := hp.2.1; have hm := (mg_bd hp.2.1).1; have hc := cut_of (s := s) (r := r) hp I1 (by omega); have hd := cutd_rot hp hc; exact hd.done (by assumption) (hd.rno (by assumption) (by omega))
                          · refine ⟨Int.le_refl _, ?_⟩
                            intro e229
                            intro c532
                            refine ⟨?_, ?_⟩
                            · rfl
                            · rfl
                      · intro c533
                        refine ⟨(A2217, B2218), ?_⟩
                        try dsimp only
                        refine ⟨?_, ?_, rfl, Int.le_refl _, fun _ => fun _ => ⟨rfl, rfl⟩⟩
                        · omega
                        · refine ⟨Int.le_refl _, ?_⟩
                          intro e232
                          intro c534
                          refine ⟨?_, ?_⟩
                          · rfl
                          · rfl
                  · intro c535
                    refine ⟨?_, ?_⟩
                    · intro c536
                      refine ⟨?_, ?_⟩
                      · intro c537
                        refine ⟨?_, ?_, ⟨⟨Int.le_refl _, fun _ => fun _ => ⟨rfl, rfl⟩⟩, ⟨rfl, ⟨Int.le_refl _, fun _ => fun _ => ⟨rfl, rfl⟩⟩⟩⟩, ?_⟩
                        · omega
                        · refine ⟨rfl, ?_, ?_, rfl⟩
                          · refine ⟨rfl, ?_⟩
                            intro c538
                            omega
                          · refine ⟨rfl, ?_⟩
                            intro c539
                            omega
                        · rintro ⟨A2236, B2237⟩
                          dsimp only
                          intro c540
                          refine ⟨(A2236, B2237), ?_⟩
                          try dsimp only
                          refine ⟨?_, ?_, rfl, Int.le_refl _, fun _ => fun _ => ⟨rfl, rfl⟩⟩
                          · omega
                          · refine ⟨Int.le_refl _, ?_⟩
                            intro e240
                            intro c541
                            refine ⟨?_, ?_⟩
                            · rfl
                            · rfl
                      · intro c542
                        refine ⟨((fun ι => (rotF (zp A B) s c (((Int.tdiv (a + b) 2) + c) - s) (ι)).1), (fun ι => (rotF (zp A B) s c (((Int.tdiv (a + b) 2) + c) - s) (ι)).2)), ?_⟩
                        try dsimp only
                        refine ⟨?_, ?_, rfl, Int.le_refl _, fun _ => fun _ => ⟨rfl, rfl⟩⟩
                        · omega
                        · refine ⟨Int.le_refl _, ?_⟩
                          intro e243
                          intro c543
                          refine ⟨?_, ?_⟩
                          · rfl
                          · rfl
                    · intro c544
                      refine ⟨((fun ι => (rotF (zp A B) s c (((Int.tdiv (a + b) 2) + c) - s) (ι)).1), (fun ι => (rotF (zp A B) s c (((Int.tdiv (a + b) 2) + c) - s) (ι)).2)), ?_⟩
                      try dsimp only
                      refine ⟨?_, ?_, rfl, Int.le_refl _, fun _ => fun _ => ⟨rfl, rfl⟩⟩
                      · omega
                      · refine ⟨Int.le_refl _, ?_⟩
                        intro e246
                        intro c545
                        refine ⟨?_, ?_⟩
                        · rfl
                        · rfl
                · intro c546
                  refine ⟨?_, ?_⟩
                  · intro c547
                    refine ⟨?_, ?_⟩
                    · intro c548
                      refine ⟨?_, ?_, ⟨⟨Int.le_refl _, fun _ => fun _ => ⟨rfl, rfl⟩⟩, ⟨rfl, ⟨Int.le_refl _, fun _ => fun _ => ⟨rfl, rfl⟩⟩⟩⟩, ?_⟩
                      · have hh := smI_bd hp I1; have hq := hp.2.1; have hm := (mg_bd hp.2.1).1; have hc := cut_of (s := s) (r := r) hp I1 (by omega); have hd := cutd_rot hp hc; exact ⟨by omega, hd.rreq (hd.lno (by omega)) (by omega) (by omega)⟩
                      · refine ⟨rfl, ?_, ?_, rfl⟩
                        · refine ⟨rfl, ?_⟩
                          intro c549
                          omega
                        · refine ⟨rfl, ?_⟩
                          intro c550
                          omega
                      · rintro ⟨A2250, B2251⟩
                        dsimp only
                        intro c551
                        refine ⟨(A2250, B2251), ?_⟩
                        try dsimp only
                        refine ⟨?_, ?_, rfl, Int.le_refl _, fun _ => fun _ => ⟨rfl, rfl⟩⟩
                        · have hh := smI_bd hp I1; have hq := hp.2.1; have hm := (mg_bd hp.2.1).1; have hc := cut_of (s := s) (r := r) hp I1 (by omega); have hd := cutd_rot hp hc; exact hd.done (hd.lno (by omega)) (by assumption)
                        · refine ⟨Int.le_refl _, ?_⟩
                          intro e254
                          intro c552
                          refine ⟨?_, ?_⟩
                          · rfl
                          · rfl
                    · intro c553
                      refine ⟨((fun ι => (rotF (zp A B) s c (((Int.tdiv (a + b) 2) + c) - s) (ι)).1), (fun ι => (rotF (zp A B) s c (((Int.tdiv (a + b) 2) + c) - s) (ι)).2)), ?_⟩
                      try dsimp only
                      refine ⟨?_, ?_, rfl, Int.le_refl _, fun _ => fun _ => ⟨rfl, rfl⟩⟩
                      · have hh := smI_bd hp I1; have hq := hp.2.1; have hm := (mg_bd hp.2.1).1; have hc := cut_of (s := s) (r := r) hp I1 (by omega); have hd := cutd_rot hp hc; exact hd.done (hd.lno (by omega)) (hd.rno (hd.lno (by omega)) (by omega))
                      · refine ⟨Int.le_refl _, ?_⟩
                        intro e257
                        intro c554
                        refine ⟨?_, ?_⟩
                        · rfl
                        · rfl
                  · intro c555
                    refine ⟨((fun ι => (rotF (zp A B) s c (((Int.tdiv (a + b) 2) + c) - s) (ι)).1), (fun ι => (rotF (zp A B) s c (((Int.tdiv (a + b) 2) + c) - s) (ι)).2)), ?_⟩
                    try dsimp only
                    refine ⟨?_, ?_, rfl, Int.le_refl _, fun _ => fun _ => ⟨rfl, rfl⟩⟩
                    · omega
                    · refine ⟨Int.le_refl _, ?_⟩
                      intro e260
                      intro c556
                      refine ⟨?_, ?_⟩
                      · rfl
                      · rfl
              · intro c557
                refine ⟨?_, ?_⟩
                · intro c558
                  refine ⟨?_, ?_⟩
                  · intro c559
                    refine ⟨?_, ?_, ⟨⟨Int.le_refl _, fun _ => fun _ => ⟨rfl, rfl⟩⟩, ⟨rfl, ⟨Int.le_refl _, fun _ => fun _ => ⟨rfl, rfl⟩⟩⟩⟩, ?_⟩
                    · omega
                    · refine ⟨rfl, rfl, rfl, rfl, ?_⟩
                      intro c560
                      omega
                    · rintro ⟨A2264, B2265⟩
                      dsimp only
                      intro c561
                      refine ⟨?_, ?_⟩
                      · intro c562
                        refine ⟨?_, ?_⟩
                        · intro c563
                          refine ⟨?_, ?_, ⟨⟨Int.le_refl _, fun _ => fun _ => ⟨rfl, rfl⟩⟩, ⟨rfl, ⟨Int.le_refl _, fun _ => fun _ => ⟨rfl, rfl⟩⟩⟩⟩, ?_⟩
                          · omega
                          · refine ⟨rfl, ?_, ?_, rfl⟩
                            · refine ⟨rfl, ?_⟩
                              intro c564
                              omega
                            · refine ⟨rfl, ?_⟩
                              intro c565
                              omega
                          · rintro ⟨A2269, B2270⟩
                            dsimp only
                            intro c566
                            refine ⟨(A2269, B2270), ?_⟩
                            try dsimp only
                            refine ⟨?_, ?_, rfl, Int.le_refl _, fun _ => fun _ => ⟨rfl, rfl⟩⟩
                            · omega
                            · refine ⟨Int.le_refl _, ?_⟩
                              intro e273
                              intro c567
                              refine ⟨?_, ?_⟩
                              · rfl
                              · rfl
                        · intro c568
                          refine ⟨(A2264, B2265), ?_⟩
                          try dsimp only
                          refine ⟨?_, ?_, rfl, Int.le_refl _, fun _ => fun _ => ⟨rfl, rfl⟩⟩
                          · omega
                          · refine ⟨Int.le_refl _, ?_⟩
                            intro e276
                            intro c569
                            refine ⟨?_, ?_⟩
                            · rfl
                            · rfl
                      · intro c570
                        refine ⟨(A2264, B2265), ?_⟩
                        try dsimp only
                        refine ⟨?_, ?_, rfl, Int.le_refl _, fun _ => fun _ => ⟨rfl, rfl⟩⟩
                        · omega
                        · refine ⟨Int.le_refl _, ?_⟩
                          intro e279
                          intro c571
                          refine ⟨?_, ?_⟩
                          · rfl
                          · rfl
                  · intro c572
                    refine ⟨?_, ?_⟩
                    · intro c573
                      refine ⟨?_, ?_⟩
                      · intro c574
                        refine ⟨?_, ?_, ⟨⟨Int.le_refl _, fun _ => fun _ => ⟨rfl, rfl⟩⟩, ⟨rfl, ⟨Int.le_refl _, fun _ => fun _ => ⟨rfl, rfl⟩⟩⟩⟩, ?_⟩
                        · omega
                        · refine ⟨rfl, ?_, ?_, rfl⟩
                          · refine ⟨rfl, ?_⟩
                            intro c575
                            omega
                          · refine ⟨rfl, ?_⟩
                            intro c576
                            omega
                        · rintro ⟨A2283, B2284⟩
                          dsimp only
                          intro c577
                          refine ⟨(A2283, B2284), ?_⟩
                          try dsimp only
                          refine ⟨?_, ?_, rfl, Int.le_refl _, fun _ => fun _ => ⟨rfl, rfl⟩⟩
                          · omega
                          · refine ⟨Int.le_refl _, ?_⟩
                            intro e287
                            intro c578
                            refine ⟨?_, ?_⟩
                            · rfl
                            · rfl
                      · intro c579
                        refine ⟨(A, B), ?_⟩
                        try dsimp only
                        refine ⟨?_, ?_, rfl, Int.le_refl _, fun _ => fun _ => ⟨rfl, rfl⟩⟩
                        · omega
                        · refine ⟨Int.le_refl _, ?_⟩
                          intro e290
                          intro c580
                          refine ⟨?_, ?_⟩
                          · rfl
                          · rfl
                    · intro c581
                      refine ⟨(A, B), ?_⟩
                      try dsimp only
                      refine ⟨?_, ?_, rfl, Int.le_refl _, fun _ => fun _ => ⟨rfl, rfl⟩⟩
                      · omega
                      · refine ⟨Int.le_refl _, ?_⟩
                        intro e293
                        intro c582
                        refine ⟨?_, ?_⟩
                        · rfl
                        · rfl
                · intro c583
                  refine ⟨?_, ?_⟩
                  · intro c584
                    refine ⟨?_, ?_⟩
                    · intro c585
                      refine ⟨?_, ?_, ⟨⟨Int.le_refl _, fun _ => fun _ => ⟨rfl, rfl⟩⟩, ⟨rfl, ⟨Int.le_refl _, fun _ => fun _ => ⟨rfl, rfl⟩⟩⟩⟩, ?_⟩
                      · omega
                      · refine ⟨rfl, ?_, ?_, rfl⟩
                        · refine ⟨rfl, ?_⟩
                          intro c586
                          omega
                        · refine ⟨rfl, ?_⟩
                          intro c587
                          omega
                      · rintro ⟨A2297, B2298⟩
                        dsimp only
                        intro c588
                        refine ⟨(A2297, B2298), ?_⟩
                        try dsimp only
                        refine ⟨?_, ?_, rfl, Int.le_refl _, fun _ => fun _ => ⟨rfl, rfl⟩⟩
                        · omega
                        · refine ⟨Int.le_refl _, ?_⟩
                          intro e301
                          intro c589
                          refine ⟨?_, ?_⟩
                          · rfl
                          · rfl
                    · intro c590
                      refine ⟨(A, B), ?_⟩
                      try dsimp only
                      refine ⟨?_, ?_, rfl, Int.le_refl _, fun _ => fun _ => ⟨rfl, rfl⟩⟩
                      · omega
                      · refine ⟨Int.le_refl _, ?_⟩
                        intro e304
                        intro c591
                        refine ⟨?_, ?_⟩
                        · rfl
                        · rfl
                  · intro c592
                    refine ⟨(A, B), ?_⟩
                    try dsimp only
                    refine ⟨?_, ?_, rfl, Int.le_refl _, fun _ => fun _ => ⟨rfl, rfl⟩⟩
                    · omega
                    · refine ⟨Int.le_refl _, ?_⟩
                      intro e307
                      intro c593
                      refine ⟨?_, ?_⟩
                      · rfl
                      · rfl
            · intro c594
              refine ⟨?_, ?_⟩
              · intro c595
                refine ⟨?_, ?_⟩
                · intro c596
                  refine ⟨?_, ?_, ⟨⟨Int.le_refl _, fun _ => fun _ => ⟨rfl, rfl⟩⟩, ⟨rfl, ⟨Int.le_refl _, fun _ => fun _ => ⟨rfl, rfl⟩⟩⟩⟩, ?_⟩
                  · have hh := smI_bd hp I1; have hq := hp.2.1; have hm := (mg_bd hp.2.1).1; have hc := cut_of (s := s) (r := r) hp I1 (by omega); have hd := cutd_no hp hc (by omega); exact ⟨by omega, hd.lreq (by omega) (by omega)⟩
                  · refine ⟨rfl, rfl, rfl, rfl, ?_⟩
                    intro c597
                    have hs := smI_n hp (by assumption); have hb := mg_bd hp.2.1; have hq := hp.2.1; omega
                  · rintro ⟨A2311, B2312⟩
                    dsimp only
                    intro c598
                    refine ⟨?_, ?_⟩
                    · intro c599
                      refine ⟨?_, ?_⟩
                      · intro c600
                        refine ⟨?_, ?_, ⟨⟨Int.le_refl _, fun _ => fun _ => ⟨rfl, rfl⟩⟩, ⟨rfl, ⟨Int.le_refl _, fun _ => fun _ => ⟨rfl, rfl⟩⟩⟩⟩, ?_⟩
                        · omega
                        · refine ⟨rfl, ?_, ?_, rfl⟩
                          · refine ⟨rfl, ?_⟩
                            intro c601
                            omega
                          · refine ⟨rfl, ?_⟩
                            intro c602
                            omega
                        · rintro ⟨A2316, B2317⟩
                          dsimp only
                          intro c603
                          refine ⟨(A2316, B2317), ?_⟩
                          try dsimp only
                          refine ⟨?_, ?_, rfl, Int.le_refl _, fun _ => fun _ => ⟨rfl, rfl⟩⟩
                          · omega
                          · refine ⟨Int.le_refl _, ?_⟩
                            intro e320
                            intro c604
                            refine ⟨?_, ?_⟩
                            · rfl
                            · rfl
                      · intro c605
                        refine ⟨(A2311, B2312), ?_⟩
                        try dsimp only
                        refine ⟨?_, ?_, rfl, Int.le_refl _, fun _ => fun _ => ⟨rfl, rfl⟩⟩
                        · omega
                        · refine ⟨Int.le_refl _, ?_⟩
                          intro e323
                          intro c606
                          refine ⟨?_, ?_⟩
                          · rfl
                          · rfl
                    · intro c607
                      refine ⟨(A2311, B2312), ?_⟩
                      try dsimp only
                      refine ⟨?_, ?_, rfl, Int.le_refl _, fun _ => fun _ => ⟨rfl, rfl⟩⟩
                      · have hh := smI_bd hp I1; have hq := hp.2.1; have hm := (mg_bd hp.2.1).1; have hc := cut_of (s := s) (r := r) hp I1 (by omega); have hd := cutd_no hp hc (by omega); exact hd.done (by assumption) (hd.rno (by assumption) (by omega))
                      · refine ⟨Int.le_refl _, ?_⟩
                        intro e326
                        intro c608
                        refine ⟨?_, ?_⟩
                        · rfl
                        · rfl
                · intro c609
                  refine ⟨?_, ?_⟩
                  · intro c610
                    refine ⟨?_, ?_⟩
                    · intro c611
                      refine ⟨?_, ?_, ⟨⟨Int.le_refl _, fun _ => fun _ => ⟨rfl, rfl⟩⟩, ⟨rfl, ⟨Int.le_refl _, fun _ => fun _ => ⟨rfl, rfl⟩⟩⟩⟩, ?_⟩
                      · omega
                      · refine ⟨rfl, ?_, ?_, rfl⟩
                        · refine ⟨rfl, ?_⟩
                          intro c612
                          omega
                        · refine ⟨rfl, ?_⟩
                          intro c613
                          omega
                      · rintro ⟨A2330, B2331⟩
                        dsimp only
                        intro c614
                        refine ⟨(A2330, B2331), ?_⟩
                        try dsimp only
                        refine ⟨?_, ?_, rfl, Int.le_refl _, fun _ => fun _ => ⟨rfl, rfl⟩⟩
                        · omega
                        · refine ⟨Int.le_refl _, ?_⟩
                          intro e334
                          intro c615
                          refine ⟨?_, ?_⟩
                          · rfl
                          · rfl
                    · intro c616
                      refine ⟨(A, B), ?_⟩
                      try dsimp only
                      refine ⟨?_, ?_, rfl, Int.le_refl _, fun _ => fun _ => ⟨rfl, rfl⟩⟩
                      · omega
                      · refine ⟨Int.le_refl _, ?_⟩
                        intro e337
                        intro c617
                        refine ⟨?_, ?_⟩
                        · rfl
                        · rfl
                  · intro c618
                    refine ⟨(A, B), ?_⟩
                    try dsimp only
                    refine ⟨?_, ?_, rfl, Int.le_refl _, fun _ => fun _ => ⟨rfl, rfl⟩⟩
                    · have hh := smI_bd hp I1; have hq := hp.2.1; have hm := (mg_bd hp.2.1).1; have hc := cut_of (s := s) (r := r) hp I1 (by omega); have hd := cutd_no hp hc (by omega); exact hd.done (hd.lno (by omega)) (hd.rno (hd.lno (by omega)) (by omega))
                    · refine ⟨Int.le_refl _, ?_⟩
                      intro e340
                      intro c619
                      refine ⟨?_, ?_⟩
                      · rfl
                      · rfl
              · intro c620
                refine ⟨?_, ?_⟩
                · intro c621
                  refine ⟨?_, ?_⟩
                  · intro c622
                    refine ⟨?_, ?_, ⟨⟨Int.le_refl _, fun _ => fun _ => ⟨rfl, rfl⟩⟩, ⟨rfl, ⟨Int.le_refl _, fun _ => fun _ => ⟨rfl, rfl⟩⟩⟩⟩, ?_⟩
                    · omega
                    · refine ⟨rfl, ?_, ?_, rfl⟩
                      · refine ⟨rfl, ?_⟩
                        intro c623
                        omega
                      · refine ⟨rfl, ?_⟩
                        intro c624
                        omega
                    · rintro ⟨A2344, B2345⟩
                      dsimp only
                      intro c625
                      refine ⟨(A2344, B2345), ?_⟩
                      try dsimp only
                      refine ⟨?_, ?_, rfl, Int.le_refl _, fun _ => fun _ => ⟨rfl, rfl⟩⟩
                      · omega
                      · refine ⟨Int.le_refl _, ?_⟩
                        intro e348
                        intro c626
                        refine ⟨?_, ?_⟩
                        · rfl
                        · rfl
                  · intro c627
                    refine ⟨(A, B), ?_⟩
                    try dsimp only
                    refine ⟨?_, ?_, rfl, Int.le_refl _, fun _ => fun _ => ⟨rfl, rfl⟩⟩
                    · omega
                    · refine ⟨Int.le_refl _, ?_⟩
                      intro e351
                      intro c628
                      refine ⟨?_, ?_⟩
                      · rfl
                      · rfl
                · intro c629
                  refine ⟨(A, B), ?_⟩
                  try dsimp only
                  refine ⟨?_, ?_, rfl, Int.le_refl _, fun _ => fun _ => ⟨rfl, rfl⟩⟩
                  · have hq := hp.2.1; omega
                  · refine ⟨Int.le_refl _, ?_⟩
                    intro e354
                    intro c630
                    refine ⟨?_, ?_⟩
                    · rfl
                    · rfl
theorem s_symMerge (X : Int → Int) (Y : Int → Int) (n : Int) (A : Int → Int) (B : Int → Int) (m : Int) (a : Int) (c : Int) (b : Int) (hp : mrgR X Y A B n m a c b) : s_symMerge_S X Y n A B m a c b := by
  have key : ∀ (M : Nat) (X : Int → Int) (Y : Int → Int) (n : Int) (A : Int → Int) (B : Int → Int) (m : Int) (a : Int) (c : Int) (b : Int), (b - a).toNat = M → (mrgR X Y A B n m a c b) → s_symMerge_S X Y n A B m a c b := by
    intro M
    induction M using Nat.strongRecOn with
    | ind M IH => exact fun X Y n A B m a c b e hp => s_symMerge_st X Y n A B m a c b hp M e.symm (fun X Y n A B m a c b h1 h2 => IH _ h1 X Y n A B m a c b rfl h2)
  exact key _ X Y n A B m a c b rfl hp
def c_s_symMerge (X : Int → Int) (Y : Int → Int) (n : Int) (A : Int → Int) (B : Int → Int) (m : Int) (a : Int) (c : Int) (b : Int) : CnXH Try.prog := ⟨_, _, _, (Int → Int) × (Int → Int), (fun x => mrgP X Y A B x.1 x.2 a b), (fun x => (.tup [])), (fun x => [some ⟨58, 2, true, (.sym (.v fun _ => m) fun e => [(.int .i64 (.v fun _ => (x.1 (e.den))) 0 1048576), (.int .i64 (.v fun _ => (x.2 (e.den))) 0 1048576)])⟩, some ⟨27, 1, true, (.lit [[(.sl 2 2 (.lit 0) (.v fun _ => n) 1048576)]])⟩, some ⟨50, 2, true, (.sym (.v fun _ => n) fun e => [(.int .i64 (.v fun _ => (X (e.den))) (-1000) 1000), (.int .i64 (.v fun _ => (Y (e.den))) (-1000) 1000)])⟩]), _, s_symMerge X Y n A B m a c b⟩
end Go.Proofs.Ytcfkpdjbjfnnmaa
