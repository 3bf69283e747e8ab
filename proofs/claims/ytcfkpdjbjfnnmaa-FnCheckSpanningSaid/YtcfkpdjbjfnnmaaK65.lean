/- The stable sort of pairs: contracts. -/
import Derived.Test.YtcfkpdjbjfnnmaaK64
import Derived.Test.YtcfkpdjbjfnnmaaK61
set_option linter.unusedSimpArgs false
set_option linter.unusedVariables false
set_option maxRecDepth 100000
namespace Go.Proofs.Ytcfkpdjbjfnnmaa
open Go.Sym
def cmD (X Y : Int → Int) (p q : Int × Int) : Int := if Dp X Y p < Dp X Y q then -1 else if Dp X Y p > Dp X Y q then 1 else 0
theorem SpanningTree1 (X : Int → Int) (Y : Int → Int) (n : Int) (pA : Int) (pB : Int) (qA : Int) (qB : Int) (hp : ((0 ≤ pA ∧ pA < n) ∧ (0 ≤ pB ∧ pB < n)) ∧ (0 ≤ qA ∧ qA < n) ∧ (0 ≤ qB ∧ qB < n)) : RunsTo Try.prog 93 [(.agg [(.int .i64 (.v fun _ => pA) (-9223372036854775808) 9223372036854775807), (.int .i64 (.v fun _ => pB) (-9223372036854775808) 9223372036854775807)]), (.agg [(.int .i64 (.v fun _ => qA) (-9223372036854775808) 9223372036854775807), (.int .i64 (.v fun _ => qB) (-9223372036854775808) 9223372036854775807)]), (.ptr 0 1 (.lit 0) 0)] [some ⟨27, 1, true, (.lit [[(.sl 1 2 (.lit 0) (.v fun _ => n) 1048576)]])⟩, some ⟨50, 2, true, (.sym (.v fun _ => n) fun e => [(.int .i64 (.v fun _ => (X (e.den))) (-1000) 1000), (.int .i64 (.v fun _ => (Y (e.den))) (-1000) 1000)])⟩] (.int .i64 (.v fun _ => cmD X Y (pA, pB) (qA, qB)) (-1) 1) [some ⟨27, 1, true, (.lit [[(.sl 1 2 (.lit 0) (.v fun _ => n) 1048576)]])⟩, some ⟨50, 2, true, (.sym (.v fun _ => n) fun e => [(.int .i64 (.v fun _ => (X (e.den))) (-1000) 1000), (.int .i64 (.v fun _ => (Y (e.den))) (-1000) 1000)])⟩] := by
  refine RunsTo.go env Try.func93 rfl Try.call93 rfl rfl (fun _ _ => (.need (.need (.need (.need (.call (c_i_length ((X (pA))) ((Y (pA))) ((X (pB))) ((Y (pB)))) (.need (.need (.need (.need (.call (c_i_length ((X (qA))) ((Y (qA))) ((X (qB))) ((Y (qB)))) (.call (c_c_Compare (mht ((X (pA))) ((Y (pA))) ((X (pB))) ((Y (pB)))) (mht ((X (qA))) ((Y (qA))) ((X (qB))) ((Y (qB))))) .ret)))))))))))) (G := ((((-9223372036854775808) ≤ pA ∧ pA ≤ 9223372036854775807) ∧ ((-9223372036854775808) ≤ pB ∧ pB ≤ 9223372036854775807)) ∧ (((-9223372036854775808) ≤ qA ∧ qA ≤ 9223372036854775807) ∧ ((-9223372036854775808) ≤ qB ∧ qB ≤ 9223372036854775807))) → ((0 ≤ n ∧ n ≤ 1048576) ∧ (∀ e2 : E, ((0 ≤ e2.den ∧ e2.den < n) → (((-1000) ≤ ((X (e2.den))) ∧ ((X (e2.den))) ≤ 1000) ∧ ((-1000) ≤ ((Y (e2.den))) ∧ ((Y (e2.den))) ≤ 1000))))) → ((((0 ≤ pA) ∧ (pA < n))) ∧ ((pA < n) ∧ ((((0 ≤ pB) ∧ (pB < n))) ∧ ((pB < n) ∧ ((((((X (pA))) = ((X (pA)))) ∧ (((Y (pA))) = ((Y (pA))))) ∧ ((((X (pB))) = ((X (pB)))) ∧ (((Y (pB))) = ((Y (pB)))))) ∧ ((((0 ≤ qA) ∧ (qA < n))) ∧ ((qA < n) ∧ ((((0 ≤ qB) ∧ (qB < n))) ∧ ((qB < n) ∧ ((((((X (qA))) = ((X (qA)))) ∧ (((Y (qA))) = ((Y (qA))))) ∧ ((((X (qB))) = ((X (qB)))) ∧ (((Y (qB))) = ((Y (qB)))))) ∧ ((((mht ((X (pA))) ((Y (pA))) ((X (pB))) ((Y (pB)))) = (mht ((X (pA))) ((Y (pA))) ((X (pB))) ((Y (pB))))) ∧ ((mht ((X (qA))) ((Y (qA))) ((X (qB))) ((Y (qB)))) = (mht ((X (qA))) ((Y (qA))) ((X (qB))) ((Y (qB)))))) ∧ (((if (mht ((X (pA))) ((Y (pA))) ((X (pB))) ((Y (pB)))) < (mht ((X (qA))) ((Y (qA))) ((X (qB))) ((Y (qB)))) then -1 else if (mht ((X (pA))) ((Y (pA))) ((X (pB))) ((Y (pB)))) > (mht ((X (qA))) ((Y (qA))) ((X (qB))) ((Y (qB)))) then 1 else 0) = (cmD X Y (pA, pB) (qA, qB))) ∧ ((n = n) ∧ ((n ≤ n) ∧ (∀ e1 : E, ((0 ≤ e1.den ∧ e1.den < n) → ((((X (e1.den))) = ((X (e1.den)))) ∧ (((Y (e1.den))) = ((Y (e1.den)))))))))))))))))))))) (by kernel_rfl) ?_
  intro h1 h2
  refine ⟨?_, ?_, ?_, ?_, ⟨⟨rfl, rfl⟩, ⟨rfl, rfl⟩⟩, ?_, ?_, ?_, ?_, ⟨⟨rfl, rfl⟩, ⟨rfl, rfl⟩⟩, ⟨rfl, rfl⟩, ?_, rfl, Int.le_refl _, fun _ => fun _ => ⟨rfl, rfl⟩⟩
  · omega
  · omega
  · omega
  · omega
  · omega
  · omega
  · omega
  · omega
  · rfl
def c_SpanningTree1 (X : Int → Int) (Y : Int → Int) (n : Int) (pA : Int) (pB : Int) (qA : Int) (qB : Int) : CnH Try.prog := ⟨_, _, _, _, _, _, SpanningTree1 X Y n pA pB qA qB⟩
theorem swR_st {F : PF} {a b k t : Int} (hk : 0 ≤ k) (h : a + k < b ∨ b + k < a) : swR F a b (k + 1) t = if t = a + k then swR F a b k (b + k) else if t = b + k then swR F a b k (a + k) else swR F a b k t := by
  rw [← swR_next hk h]
  rfl
theorem swR_lo {F : PF} {a b k t : Int} (hk : 0 ≤ k) (h : a + k < b ∨ b + k < a) (e : t = a + k) : swR F a b k (b + k) = swR F a b (k + 1) t := by rw [swR_st hk h, if_pos e]
theorem swR_hi {F : PF} {a b k t : Int} (hk : 0 ≤ k) (h : a + k < b ∨ b + k < a) (e : t = b + k) : swR F a b k (a + k) = swR F a b (k + 1) t := by rw [swR_st hk h, if_neg (by omega), if_pos e]
theorem swR_no {F : PF} {a b k t : Int} (hk : 0 ≤ k) (h : a + k < b ∨ b + k < a) (e1 : t ≠ a + k) (e2 : t ≠ b + k) : swR F a b k t = swR F a b (k + 1) t := by rw [swR_st hk h, if_neg e1, if_neg e2]
theorem cmD_neg {X Y : Int → Int} {p q : Int × Int} : cmD X Y p q < 0 ↔ Dp X Y p < Dp X Y q := by
  unfold cmD
  split
  · omega
  · split <;> omega
theorem cmD_nn {X Y : Int → Int} {p q : Int × Int} : 0 ≤ cmD X Y p q ↔ Dp X Y q ≤ Dp X Y p := by
  have := cmD_neg (X := X) (Y := Y) (p := p) (q := q)
  omega
theorem edR_re {A B A2 B2 : Int → Int} {n m a b : Int} (h : edR A B n m) (r : Re (zp A B) (zp A2 B2) a b) (h0 : 0 ≤ a) (h1 : b ≤ m) : edR A2 B2 n m := by
  intro i i0 i1
  by_cases c : a ≤ i ∧ i < b
  · obtain ⟨j, hj, e⟩ := r.fwd i c.1 c.2
    have e1 : A2 i = A j := congrArg Prod.fst e
    have e2 : B2 i = B j := congrArg Prod.snd e
    rw [e1, e2]
    exact h j (by omega) (by omega)
  · have e := r.out i (by omega)
    have e1 : A2 i = A i := congrArg Prod.fst e
    have e2 : B2 i = B i := congrArg Prod.snd e
    rw [e1, e2]
    exact h i i0 i1
/-- What comes of sorting a segment. -/
def mrgP (X Y A B A2 B2 : Int → Int) (a b : Int) : Prop := Re (zp A B) (zp A2 B2) a b ∧ SoF X Y (zp A2 B2) a b
def ins1 (X Y A B A1 B1 : Int → Int) (a b i : Int) : Prop := (a + 1 ≤ i ∧ (a < b → i ≤ b)) ∧ Re (zp A B) (zp A1 B1) a i ∧ SoF X Y (zp A1 B1) a i ∧ (a = b → zp A1 B1 = zp A B)
def insQ (A B : Int → Int) (n m a b : Int) : Prop := edR A B n m ∧ (0 ≤ a ∧ a ≤ b ∧ b ≤ m) ∧ lexS (zp A B) a b
section
variable {X Y A B A1 B1 A3 B3 : Int → Int} {n m a b i j : Int}
theorem ins1_0 (hp : insQ A B n m a b) : ins1 X Y A B A B a b (a + 1) :=
  ⟨⟨by omega, by omega⟩, Re.refl _ _ _, fun p q h0 h1 h2 => by omega, fun _ => rfl⟩
theorem ins1_in (hp : insQ A B n m a b) (h : ins1 X Y A B A1 B1 a b i) (hi : i < b) : InS X Y (zp A B) (zp A1 B1) a i i ∧ a < i ∧ i < b := by
  have h1 := h.1
  exact ⟨InS.start hp.2.2 h.2.1 h.2.2.1 (by omega) hi, by omega, hi⟩
theorem ins1_ed (hp : insQ A B n m a b) (h : InS X Y (zp A B) (zp A3 B3) a i j ∧ a < i ∧ i < b) : edR A3 B3 n m ∧ a ≤ j ∧ j ≤ i := by
  have := hp.2.1
  exact ⟨edR_re hp.1 h.1.re (by omega) (by omega), h.1.bd⟩
theorem zp_sw (A B : Int → Int) (u v : Int) : zp (fun t => if t = u then A v else if t = v then A u else A t) (fun t => if t = u then B v else if t = v then B u else B t) = swF (zp A B) u v := by
  funext t
  unfold zp swF
  simp only
  split
  · rfl
  · split <;> rfl
theorem swF_comm (F : PF) (u v : Int) : swF F u v = swF F v u := by
  funext t
  unfold swF
  split
  · split
    · rename_i h1 h2; rw [← h1, h2]
    · rfl
  · split <;> rfl
theorem ins1_sw (h : InS X Y (zp A B) (zp A3 B3) a i j ∧ a < i ∧ i < b) (hj : a < j) (hD : cmD X Y (A3 j, B3 j) (A3 (j - 1), B3 (j - 1)) < 0) : InS X Y (zp A B) (zp (fun t => if t = j - 1 then A3 j else if t = j then A3 (j - 1) else A3 t) (fun t => if t = j - 1 then B3 j else if t = j then B3 (j - 1) else B3 t)) a i (j - 1) ∧ a < i ∧ i < b := by
  rw [zp_sw, swF_comm]
  exact ⟨h.1.step hj (cmD_neg.1 hD), h.2⟩
theorem ins1_nx (hp : insQ A B n m a b) (h : InS X Y (zp A B) (zp A3 B3) a i j ∧ a < i ∧ i < b) (he : a < j → 0 ≤ cmD X Y (A3 j, B3 j) (A3 (j - 1), B3 (j - 1))) : ins1 X Y A B A3 B3 a b (i + 1) := by
  obtain ⟨r, s⟩ := h.1.done fun hj => cmD_nn.1 (he hj)
  exact ⟨⟨by omega, by omega⟩, r, s, fun e => by omega⟩
theorem ins1_end (hp : insQ A B n m a b) (h : ins1 X Y A B A1 B1 a b i) (hi : b ≤ i) : mrgP X Y A B A1 B1 a b := by
  have h1 := h.1
  have h2 := hp.2.1
  by_cases e : a = b
  · have ez := h.2.2.2 e
    unfold mrgP
    rw [ez]
    exact ⟨Re.refl _ _ _, fun p q h0 h1 h2 => by omega⟩
  · have : i = b := by omega
    subst this
    exact ⟨h.2.1, h.2.2.1⟩
end
/-! ### rotation -/
def rotI (A B A1 B1 : Int → Int) (a c b i j : Int) : Prop := rotF (zp A1 B1) (c - i) c (c + j) = rotF (zp A B) a c b ∧ (0 < i ∧ 0 < j) ∧ a ≤ c - i ∧ c + j ≤ b
theorem rotI_0 {A B : Int → Int} {a c b : Int} (h1 : a < c) (h2 : c < b) : rotI A B A B a c b (c - a) (b - c) :=
  ⟨by rw [show c - (c - a) = a by omega, show c + (b - c) = b by omega], by omega, by omega⟩
theorem rotI_gt {A B A1 B1 : Int → Int} {a c b i j : Int} (h : rotI A B A1 B1 a c b i j) (hij : j < i) : rotI A B (fun t => (swR (zp A1 B1) (c - i) c j t).1) (fun t => (swR (zp A1 B1) (c - i) c j t).2) a c b (i - j) j :=
  ⟨(rot_gt h.2.1.2 hij).trans h.1, by have := h.2; omega, by have := h.2; omega, by have := h.2; omega⟩
theorem rotI_lt {A B A1 B1 : Int → Int} {a c b i j : Int} (h : rotI A B A1 B1 a c b i j) (hij : i ≤ j) (hne : i ≠ j) : rotI A B (fun t => (swR (zp A1 B1) (c - i) (c + j - i) i t).1) (fun t => (swR (zp A1 B1) (c - i) (c + j - i) i t).2) a c b i (j - i) :=
  ⟨(rot_lt h.2.1.1 (by omega)).trans h.1, by have := h.2; omega, by have := h.2; omega, by have := h.2; omega⟩
theorem rotI_end {A B A1 B1 : Int → Int} {a c b i j : Int} (h : rotI A B A1 B1 a c b i j) (e : i = j) (t : Int) : swR (zp A1 B1) (c - i) c i t = rotF (zp A B) a c b t := by
  subst e
  rw [rot_eq h.2.1.1, h.1]

theorem s_swapRange (X : Int → Int) (Y : Int → Int) (n : Int) (A : Int → Int) (B : Int → Int) (m : Int) (a : Int) (b : Int) (k : Int) (hp : (a + k ≤ m ∧ b + k ≤ m) ∧ (a + k ≤ b ∨ b + k ≤ a)) : RunsTo Try.prog 161 [(.sl 0 2 (.lit 0) (.v fun _ => m) 1048576), (.int .i64 (.v fun _ => a) 0 1048576), (.int .i64 (.v fun _ => b) 0 1048576), (.int .i64 (.v fun _ => k) 0 1048576), (.fn 93 [(.ptr 1 1 (.lit 0) 0)])] [some ⟨58, 2, true, (.sym (.v fun _ => m) fun e => [(.int .i64 (.v fun _ => (A (e.den))) 0 1048576), (.int .i64 (.v fun _ => (B (e.den))) 0 1048576)])⟩, some ⟨27, 1, true, (.lit [[(.sl 2 2 (.lit 0) (.v fun _ => n) 1048576)]])⟩, some ⟨50, 2, true, (.sym (.v fun _ => n) fun e => [(.int .i64 (.v fun _ => (X (e.den))) (-1000) 1000), (.int .i64 (.v fun _ => (Y (e.den))) (-1000) 1000)])⟩] (.tup []) [some ⟨58, 2, true, (.sym (.v fun _ => m) fun e => [(.int .i64 (.v fun _ => (swR (zp A B) a b k e.den).1) 0 1048576), (.int .i64 (.v fun _ => (swR (zp A B) a b k e.den).2) 0 1048576)])⟩, some ⟨27, 1, true, (.lit [[(.sl 2 2 (.lit 0) (.v fun _ => n) 1048576)]])⟩, some ⟨50, 2, true, (.sym (.v fun _ => n) fun e => [(.int .i64 (.v fun _ => (X (e.den))) (-1000) 1000), (.int .i64 (.v fun _ => (Y (e.den))) (-1000) 1000)])⟩] := by
  refine RunsTo.go env Try.func161 rfl Try.call161 rfl rfl (fun _ _ => (.loop [] [0, 1, 2] (Int) (fun x1 => ⟨spl 38 0 [(0, (.sl 0 2 (.lit 0) (.v fun _ => m) 1048576)), (1, (.int .i64 (.v fun _ => a) 0 1048576)), (2, (.int .i64 (.v fun _ => b) 0 1048576)), (3, (.int .i64 (.v fun _ => k) 0 1048576)), (10, (.int .i64 (.v fun _ => x1) 0 1048576))], [some ⟨58, 2, true, (.sym (.v fun _ => m) fun e => [(.int .i64 (.v fun _ => (swR (zp A B) a b x1 (e.den)).1) 0 1048576), (.int .i64 (.v fun _ => (swR (zp A B) a b x1 (e.den)).2) 0 1048576)])⟩, some ⟨27, 1, true, (.lit [[(.sl 2 2 (.lit 0) (.v fun _ => n) 1048576)]])⟩, some ⟨50, 2, true, (.sym (.v fun _ => n) fun e => [(.int .i64 (.v fun _ => (X (e.den))) (-1000) 1000), (.int .i64 (.v fun _ => (Y (e.den))) (-1000) 1000)])⟩], 3⟩) (fun x1 => 0 ≤ x1 ∧ x1 ≤ k) (fun x1 => (k - x1).toNat) fun x1 => (.ite (.need (.need (.need (.need (.need (.need (.need (.need (.next [0, 1, 2]))))))))) (.out .ret)))) (G := ((0 ≤ m ∧ m ≤ 1048576) ∧ ((0 ≤ a ∧ a ≤ 1048576) ∧ ((0 ≤ b ∧ b ≤ 1048576) ∧ (0 ≤ k ∧ k ≤ 1048576)))) → ((∀ e13 : E, ((0 ≤ e13.den ∧ e13.den < m) → ((0 ≤ ((A (e13.den))) ∧ ((A (e13.den))) ≤ 1048576) ∧ (0 ≤ ((B (e13.den))) ∧ ((B (e13.den))) ≤ 1048576)))) ∧ ((0 ≤ n ∧ n ≤ 1048576) ∧ (∀ e12 : E, ((0 ≤ e12.den ∧ e12.den < n) → (((-1000) ≤ ((X (e12.den))) ∧ ((X (e12.den))) ≤ 1000) ∧ ((-1000) ≤ ((Y (e12.den))) ∧ ((Y (e12.den))) ≤ 1000)))))) → ((∃ y2 : Int, ((0 ≤ y2 ∧ y2 ≤ k) ∧ (((m = m) ∧ ((a = a) ∧ ((b = b) ∧ ((k = k) ∧ ((0 : Int) = y2))))) ∧ (((m ≤ m) ∧ (∀ e4 : E, ((0 ≤ e4.den ∧ e4.den < m) → ((((A (e4.den))) = ((swR (zp A B) a b y2 (e4.den)).1)) ∧ (((B (e4.den))) = ((swR (zp A B) a b y2 (e4.den)).2)))))) ∧ ((n = n) ∧ ((n ≤ n) ∧ (∀ e3 : E, ((0 ≤ e3.den ∧ e3.den < n) → ((((X (e3.den))) = ((X (e3.den)))) ∧ (((Y (e3.den))) = ((Y (e3.den))))))))))))) ∧ (∀ x1 : Int, ((0 ≤ x1 ∧ x1 ≤ k) → (((x1 < k) → ((((0 ≤ (b + x1)) ∧ ((b + x1) < m))) ∧ (((b + x1) < m) ∧ ((((0 ≤ (a + x1)) ∧ ((a + x1) < m))) ∧ (((a + x1) < m) ∧ ((((0 ≤ (a + x1)) ∧ ((a + x1) < m))) ∧ (((a + x1) < m) ∧ ((((0 ≤ (b + x1)) ∧ ((b + x1) < m))) ∧ (((b + x1) < m) ∧ (∃ y5 : Int, ((0 ≤ y5 ∧ y5 ≤ k) ∧ ((((m = m) ∧ ((a = a) ∧ ((b = b) ∧ ((k = k) ∧ (((x1 + 1) = y5) ∧ ((1 ≤ (x1 + 1) ∧ (x1 + 1) ≤ 1048577) → (0 ≤ y5 ∧ y5 ≤ 1048576))))))) ∧ (((m = m) ∧ (((∀ e8 : E, ((0 ≤ e8.den ∧ e8.den < m ∧ e8.den ≠ (b + x1) ∧ e8.den ≠ (a + x1)) → ((((swR (zp A B) a b x1 (e8.den)).1) = ((swR (zp A B) a b y5 (e8.den)).1)) ∧ (((swR (zp A B) a b x1 (e8.den)).2) = ((swR (zp A B) a b y5 (e8.den)).2))))) ∧ (∀ e9 : E, ((e9.den.toNat = ((a + x1) : Int).toNat ∧ 0 ≤ e9.den ∧ e9.den ≠ (b + x1)) → ((((swR (zp A B) a b x1 (b + x1)).1) = ((swR (zp A B) a b y5 (e9.den)).1)) ∧ (((swR (zp A B) a b x1 (b + x1)).2) = ((swR (zp A B) a b y5 (e9.den)).2)))))) ∧ (∀ e7 : E, ((e7.den.toNat = ((b + x1) : Int).toNat ∧ 0 ≤ e7.den) → ((((swR (zp A B) a b x1 (a + x1)).1) = ((swR (zp A B) a b y5 (e7.den)).1)) ∧ (((swR (zp A B) a b x1 (a + x1)).2) = ((swR (zp A B) a b y5 (e7.den)).2))))))) ∧ ((n = n) ∧ ((n ≤ n) ∧ (∀ e6 : E, ((0 ≤ e6.den ∧ e6.den < n) → ((((X (e6.den))) = ((X (e6.den)))) ∧ (((Y (e6.den))) = ((Y (e6.den))))))))))) ∧ ((k - y5).toNat < (k - x1).toNat))))))))))))) ∧ ((k ≤ x1) → (((m ≤ m) ∧ (∀ e11 : E, ((0 ≤ e11.den ∧ e11.den < m) → ((((swR (zp A B) a b x1 (e11.den)).1) = ((swR (zp A B) a b k e11.den).1)) ∧ (((swR (zp A B) a b x1 (e11.den)).2) = ((swR (zp A B) a b k e11.den).2)))))) ∧ ((n = n) ∧ ((n ≤ n) ∧ (∀ e10 : E, ((0 ≤ e10.den ∧ e10.den < n) → ((((X (e10.den))) = ((X (e10.den)))) ∧ (((Y (e10.den))) = ((Y (e10.den)))))))))))))))) (by kernel_rfl) ?_
  intro h1 h2
  refine ⟨?_, ?_⟩
  · refine ⟨0, ?_⟩
    try dsimp only
    refine ⟨?_, ?_, ?_, rfl, Int.le_refl _, fun _ => fun _ => ⟨rfl, rfl⟩⟩
    · omega
    · refine ⟨rfl, rfl, rfl, rfl, ?_⟩
      rfl
    · refine ⟨Int.le_refl _, ?_⟩
      intro e4
      intro c14
      refine ⟨?_, ?_⟩
      · rw [swR_0]; rfl
      · rw [swR_0]; rfl
  · intro j
    intro I1
    refine ⟨?_, ?_⟩
    · intro c15
      refine ⟨?_, ?_, ?_, ?_, ?_, ?_, ?_, ?_, ?_⟩
      · omega
      · omega
      · omega
      · omega
      · omega
      · omega
      · omega
      · omega
      · refine ⟨j + 1, ?_⟩
        try dsimp only
        refine ⟨?_, ?_, ?_⟩
        · omega
        · refine ⟨?_, ?_, rfl, Int.le_refl _, fun _ => fun _ => ⟨rfl, rfl⟩⟩
          · refine ⟨rfl, rfl, rfl, rfl, ?_, ?_⟩
            · rfl
            · intro c16
              omega
          · refine ⟨rfl, ?_, ?_⟩
            · refine ⟨?_, ?_⟩
              · intro e8
                intro c17
                refine ⟨?_, ?_⟩
                · exact congrArg Prod.fst (swR_no (by omega) (by omega) (by omega) (by omega))
                · exact congrArg Prod.snd (swR_no (by omega) (by omega) (by omega) (by omega))
              · intro e9
                intro c18
                refine ⟨?_, ?_⟩
                · exact congrArg Prod.fst (swR_lo (by omega) (by omega) (by omega))
                · exact congrArg Prod.snd (swR_lo (by omega) (by omega) (by omega))
            · intro e7
              intro c19
              refine ⟨?_, ?_⟩
              · exact congrArg Prod.fst (swR_hi (by omega) (by omega) (by omega))
              · exact congrArg Prod.snd (swR_hi (by omega) (by omega) (by omega))
        · omega
    · intro c20
      refine ⟨?_, rfl, Int.le_refl _, fun _ => fun _ => ⟨rfl, rfl⟩⟩
      refine ⟨Int.le_refl _, ?_⟩
      intro e11
      intro c21
      refine ⟨?_, ?_⟩
      · have e : j = k := (by omega); subst e; rfl
      · have e : j = k := (by omega); subst e; rfl
def c_s_swapRange (X : Int → Int) (Y : Int → Int) (n : Int) (A : Int → Int) (B : Int → Int) (m : Int) (a : Int) (b : Int) (k : Int) : CnH Try.prog := ⟨_, _, _, _, _, _, s_swapRange X Y n A B m a b k⟩
theorem s_rotate (X : Int → Int) (Y : Int → Int) (n : Int) (A : Int → Int) (B : Int → Int) (m : Int) (a : Int) (c : Int) (b : Int) (hp : edR A B n m ∧ (0 ≤ a ∧ a < c ∧ c < b ∧ b ≤ m)) : RunsTo Try.prog 155 [(.sl 0 2 (.lit 0) (.v fun _ => m) 1048576), (.int .i64 (.v fun _ => a) 0 1048576), (.int .i64 (.v fun _ => c) 0 1048576), (.int .i64 (.v fun _ => b) 0 1048576), (.fn 93 [(.ptr 1 1 (.lit 0) 0)])] [some ⟨58, 2, true, (.sym (.v fun _ => m) fun e => [(.int .i64 (.v fun _ => (A (e.den))) 0 1048576), (.int .i64 (.v fun _ => (B (e.den))) 0 1048576)])⟩, some ⟨27, 1, true, (.lit [[(.sl 2 2 (.lit 0) (.v fun _ => n) 1048576)]])⟩, some ⟨50, 2, true, (.sym (.v fun _ => n) fun e => [(.int .i64 (.v fun _ => (X (e.den))) (-1000) 1000), (.int .i64 (.v fun _ => (Y (e.den))) (-1000) 1000)])⟩] (.tup []) [some ⟨58, 2, true, (.sym (.v fun _ => m) fun e => [(.int .i64 (.v fun _ => (rotF (zp A B) a c b e.den).1) 0 1048576), (.int .i64 (.v fun _ => (rotF (zp A B) a c b e.den).2) 0 1048576)])⟩, some ⟨27, 1, true, (.lit [[(.sl 2 2 (.lit 0) (.v fun _ => n) 1048576)]])⟩, some ⟨50, 2, true, (.sym (.v fun _ => n) fun e => [(.int .i64 (.v fun _ => (X (e.den))) (-1000) 1000), (.int .i64 (.v fun _ => (Y (e.den))) (-1000) 1000)])⟩] := by
  refine RunsTo.go env Try.func155 rfl Try.call155 rfl rfl (fun _ _ => (.loop [] [0, 1, 2] ((Int → Int) × (Int → Int) × Int × Int) (fun x1 => ⟨spl 58 0 [(0, (.sl 0 2 (.lit 0) (.v fun _ => m) 1048576)), (2, (.int .i64 (.v fun _ => c) 0 1048576)), (4, (.fn 93 [(.ptr 1 1 (.lit 0) 0)])), (10, (.int .i64 (.v fun _ => x1.2.2.1) 0 1048576)), (11, (.int .i64 (.v fun _ => x1.2.2.2) 0 1048576))], [some ⟨58, 2, true, (.sym (.v fun _ => m) fun e => [(.int .i64 (.v fun _ => (x1.1 (e.den))) 0 1048576), (.int .i64 (.v fun _ => (x1.2.1 (e.den))) 0 1048576)])⟩, some ⟨27, 1, true, (.lit [[(.sl 2 2 (.lit 0) (.v fun _ => n) 1048576)]])⟩, some ⟨50, 2, true, (.sym (.v fun _ => n) fun e => [(.int .i64 (.v fun _ => (X (e.den))) (-1000) 1000), (.int .i64 (.v fun _ => (Y (e.den))) (-1000) 1000)])⟩], 3⟩) (fun x1 => rotI A B x1.1 x1.2.1 a c b x1.2.2.1 x1.2.2.2) (fun x1 => (x1.2.2.1 + x1.2.2.2).toNat) fun x1 => (.ite (.ite (.callH (c_s_swapRange X Y n x1.1 x1.2.1 m (c - x1.2.2.1) c x1.2.2.2) (.next [0, 1, 2])) (.callH (c_s_swapRange X Y n x1.1 x1.2.1 m (c - x1.2.2.1) ((c + x1.2.2.2) - x1.2.2.1) x1.2.2.1) (.next [0, 1, 2]))) (.out (.callH (c_s_swapRange X Y n x1.1 x1.2.1 m (c - x1.2.2.1) c x1.2.2.1) .ret))))) (G := ((0 ≤ m ∧ m ≤ 1048576) ∧ ((0 ≤ a ∧ a ≤ 1048576) ∧ ((0 ≤ c ∧ c ≤ 1048576) ∧ (0 ≤ b ∧ b ≤ 1048576)))) → ((∀ e20 : E, ((0 ≤ e20.den ∧ e20.den < m) → ((0 ≤ ((A (e20.den))) ∧ ((A (e20.den))) ≤ 1048576) ∧ (0 ≤ ((B (e20.den))) ∧ ((B (e20.den))) ≤ 1048576)))) ∧ ((0 ≤ n ∧ n ≤ 1048576) ∧ (∀ e19 : E, ((0 ≤ e19.den ∧ e19.den < n) → (((-1000) ≤ ((X (e19.den))) ∧ ((X (e19.den))) ≤ 1000) ∧ ((-1000) ≤ ((Y (e19.den))) ∧ ((Y (e19.den))) ≤ 1000)))))) → ((∃ y2 : (Int → Int) × (Int → Int) × Int × Int, ((rotI A B y2.1 y2.2.1 a c b y2.2.2.1 y2.2.2.2) ∧ (((m = m) ∧ ((c = c) ∧ ((((c - a) = y2.2.2.1) ∧ (((-1048576) ≤ (c - a) ∧ (c - a) ≤ 1048576) → (0 ≤ y2.2.2.1 ∧ y2.2.2.1 ≤ 1048576))) ∧ (((b - c) = y2.2.2.2) ∧ (((-1048576) ≤ (b - c) ∧ (b - c) ≤ 1048576) → (0 ≤ y2.2.2.2 ∧ y2.2.2.2 ≤ 1048576)))))) ∧ (((m ≤ m) ∧ (∀ e4 : E, ((0 ≤ e4.den ∧ e4.den < m) → ((((A (e4.den))) = ((y2.1 (e4.den)))) ∧ (((B (e4.den))) = ((y2.2.1 (e4.den)))))))) ∧ ((n = n) ∧ ((n ≤ n) ∧ (∀ e3 : E, ((0 ≤ e3.den ∧ e3.den < n) → ((((X (e3.den))) = ((X (e3.den)))) ∧ (((Y (e3.den))) = ((Y (e3.den))))))))))))) ∧ (∀ x1 : (Int → Int) × (Int → Int) × Int × Int, ((rotI A B x1.1 x1.2.1 a c b x1.2.2.1 x1.2.2.2) → (((x1.2.2.1 ≠ x1.2.2.2) → (((x1.2.2.2 < x1.2.2.1) → ((((c - x1.2.2.1) + x1.2.2.2 ≤ m ∧ c + x1.2.2.2 ≤ m) ∧ ((c - x1.2.2.1) + x1.2.2.2 ≤ c ∨ c + x1.2.2.2 ≤ (c - x1.2.2.1))) ∧ (((m = m) ∧ ((((c - x1.2.2.1) = (c - x1.2.2.1)) ∧ (((-1048576) ≤ (c - x1.2.2.1) ∧ (c - x1.2.2.1) ≤ 1048576) → (0 ≤ (c - x1.2.2.1) ∧ (c - x1.2.2.1) ≤ 1048576))) ∧ ((c = c) ∧ (x1.2.2.2 = x1.2.2.2)))) ∧ ((((m ≤ m) ∧ (∀ e6 : E, ((0 ≤ e6.den ∧ e6.den < m) → ((((x1.1 (e6.den))) = ((x1.1 (e6.den)))) ∧ (((x1.2.1 (e6.den))) = ((x1.2.1 (e6.den)))))))) ∧ ((n = n) ∧ ((n ≤ n) ∧ (∀ e5 : E, ((0 ≤ e5.den ∧ e5.den < n) → ((((X (e5.den))) = ((X (e5.den)))) ∧ (((Y (e5.den))) = ((Y (e5.den)))))))))) ∧ (∃ y7 : (Int → Int) × (Int → Int) × Int × Int, ((rotI A B y7.1 y7.2.1 a c b y7.2.2.1 y7.2.2.2) ∧ ((((m = m) ∧ ((c = c) ∧ ((((x1.2.2.1 - x1.2.2.2) = y7.2.2.1) ∧ (((-1048576) ≤ (x1.2.2.1 - x1.2.2.2) ∧ (x1.2.2.1 - x1.2.2.2) ≤ 1048576) → (0 ≤ y7.2.2.1 ∧ y7.2.2.1 ≤ 1048576))) ∧ (x1.2.2.2 = y7.2.2.2)))) ∧ (((m ≤ m) ∧ (∀ e9 : E, ((0 ≤ e9.den ∧ e9.den < m) → ((((swR (zp x1.1 x1.2.1) (c - x1.2.2.1) c x1.2.2.2 (e9.den)).1) = ((y7.1 (e9.den)))) ∧ (((swR (zp x1.1 x1.2.1) (c - x1.2.2.1) c x1.2.2.2 (e9.den)).2) = ((y7.2.1 (e9.den)))))))) ∧ ((n = n) ∧ ((n ≤ n) ∧ (∀ e8 : E, ((0 ≤ e8.den ∧ e8.den < n) → ((((X (e8.den))) = ((X (e8.den)))) ∧ (((Y (e8.den))) = ((Y (e8.den))))))))))) ∧ ((y7.2.2.1 + y7.2.2.2).toNat < (x1.2.2.1 + x1.2.2.2).toNat)))))))) ∧ ((x1.2.2.1 ≤ x1.2.2.2) → ((((c - x1.2.2.1) + x1.2.2.1 ≤ m ∧ ((c + x1.2.2.2) - x1.2.2.1) + x1.2.2.1 ≤ m) ∧ ((c - x1.2.2.1) + x1.2.2.1 ≤ ((c + x1.2.2.2) - x1.2.2.1) ∨ ((c + x1.2.2.2) - x1.2.2.1) + x1.2.2.1 ≤ (c - x1.2.2.1))) ∧ (((m = m) ∧ ((((c - x1.2.2.1) = (c - x1.2.2.1)) ∧ (((-1048576) ≤ (c - x1.2.2.1) ∧ (c - x1.2.2.1) ≤ 1048576) → (0 ≤ (c - x1.2.2.1) ∧ (c - x1.2.2.1) ≤ 1048576))) ∧ (((((c + x1.2.2.2) - x1.2.2.1) = ((c + x1.2.2.2) - x1.2.2.1)) ∧ (((-1048576) ≤ ((c + x1.2.2.2) - x1.2.2.1) ∧ ((c + x1.2.2.2) - x1.2.2.1) ≤ 2097152) → (0 ≤ ((c + x1.2.2.2) - x1.2.2.1) ∧ ((c + x1.2.2.2) - x1.2.2.1) ≤ 1048576))) ∧ (x1.2.2.1 = x1.2.2.1)))) ∧ ((((m ≤ m) ∧ (∀ e11 : E, ((0 ≤ e11.den ∧ e11.den < m) → ((((x1.1 (e11.den))) = ((x1.1 (e11.den)))) ∧ (((x1.2.1 (e11.den))) = ((x1.2.1 (e11.den)))))))) ∧ ((n = n) ∧ ((n ≤ n) ∧ (∀ e10 : E, ((0 ≤ e10.den ∧ e10.den < n) → ((((X (e10.den))) = ((X (e10.den)))) ∧ (((Y (e10.den))) = ((Y (e10.den)))))))))) ∧ (∃ y12 : (Int → Int) × (Int → Int) × Int × Int, ((rotI A B y12.1 y12.2.1 a c b y12.2.2.1 y12.2.2.2) ∧ ((((m = m) ∧ ((c = c) ∧ ((x1.2.2.1 = y12.2.2.1) ∧ (((x1.2.2.2 - x1.2.2.1) = y12.2.2.2) ∧ (((-1048576) ≤ (x1.2.2.2 - x1.2.2.1) ∧ (x1.2.2.2 - x1.2.2.1) ≤ 1048576) → (0 ≤ y12.2.2.2 ∧ y12.2.2.2 ≤ 1048576)))))) ∧ (((m ≤ m) ∧ (∀ e14 : E, ((0 ≤ e14.den ∧ e14.den < m) → ((((swR (zp x1.1 x1.2.1) (c - x1.2.2.1) ((c + x1.2.2.2) - x1.2.2.1) x1.2.2.1 (e14.den)).1) = ((y12.1 (e14.den)))) ∧ (((swR (zp x1.1 x1.2.1) (c - x1.2.2.1) ((c + x1.2.2.2) - x1.2.2.1) x1.2.2.1 (e14.den)).2) = ((y12.2.1 (e14.den)))))))) ∧ ((n = n) ∧ ((n ≤ n) ∧ (∀ e13 : E, ((0 ≤ e13.den ∧ e13.den < n) → ((((X (e13.den))) = ((X (e13.den)))) ∧ (((Y (e13.den))) = ((Y (e13.den))))))))))) ∧ ((y12.2.2.1 + y12.2.2.2).toNat < (x1.2.2.1 + x1.2.2.2).toNat)))))))))) ∧ ((x1.2.2.1 = x1.2.2.2) → ((((c - x1.2.2.1) + x1.2.2.1 ≤ m ∧ c + x1.2.2.1 ≤ m) ∧ ((c - x1.2.2.1) + x1.2.2.1 ≤ c ∨ c + x1.2.2.1 ≤ (c - x1.2.2.1))) ∧ (((m = m) ∧ ((((c - x1.2.2.1) = (c - x1.2.2.1)) ∧ (((-1048576) ≤ (c - x1.2.2.1) ∧ (c - x1.2.2.1) ≤ 1048576) → (0 ≤ (c - x1.2.2.1) ∧ (c - x1.2.2.1) ≤ 1048576))) ∧ ((c = c) ∧ (x1.2.2.1 = x1.2.2.1)))) ∧ ((((m ≤ m) ∧ (∀ e16 : E, ((0 ≤ e16.den ∧ e16.den < m) → ((((x1.1 (e16.den))) = ((x1.1 (e16.den)))) ∧ (((x1.2.1 (e16.den))) = ((x1.2.1 (e16.den)))))))) ∧ ((n = n) ∧ ((n ≤ n) ∧ (∀ e15 : E, ((0 ≤ e15.den ∧ e15.den < n) → ((((X (e15.den))) = ((X (e15.den)))) ∧ (((Y (e15.den))) = ((Y (e15.den)))))))))) ∧ (((m ≤ m) ∧ (∀ e18 : E, ((0 ≤ e18.den ∧ e18.den < m) → ((((swR (zp x1.1 x1.2.1) (c - x1.2.2.1) c x1.2.2.1 (e18.den)).1) = ((rotF (zp A B) a c b e18.den).1)) ∧ (((swR (zp x1.1 x1.2.1) (c - x1.2.2.1) c x1.2.2.1 (e18.den)).2) = ((rotF (zp A B) a c b e18.den).2)))))) ∧ ((n = n) ∧ ((n ≤ n) ∧ (∀ e17 : E, ((0 ≤ e17.den ∧ e17.den < n) → ((((X (e17.den))) = ((X (e17.den)))) ∧ (((Y (e17.den))) = ((Y (e17.den))))))))))))))))))) (by kernel_rfl) ?_
  intro h1 h2
  refine ⟨?_, ?_⟩
  · refine ⟨(A, B, c - a, b - c), ?_⟩
    try dsimp only
    refine ⟨?_, ?_, ?_, rfl, Int.le_refl _, fun _ => fun _ => ⟨rfl, rfl⟩⟩
    · exact rotI_0 (by omega) (by omega)
    · refine ⟨rfl, rfl, ?_, ?_, ?_⟩
      · refine ⟨?_, ?_⟩
        · rfl
        · intro c21
          omega
      · rfl
      · intro c22
        omega
    · refine ⟨Int.le_refl _, ?_⟩
      intro e4
      intro c23
      refine ⟨?_, ?_⟩
      · rfl
      · rfl
  · rintro ⟨A1, B1, i, j⟩
    dsimp only
    intro I1
    refine ⟨?_, ?_⟩
    · intro c24
      refine ⟨?_, ?_⟩
      · intro c25
        refine ⟨?_, ?_, ⟨⟨Int.le_refl _, fun _ => fun _ => ⟨rfl, rfl⟩⟩, ⟨rfl, ⟨Int.le_refl _, fun _ => fun _ => ⟨rfl, rfl⟩⟩⟩⟩, ?_⟩
        · have hi := I1.2; omega
        · refine ⟨rfl, ?_, rfl, rfl⟩
          refine ⟨rfl, ?_⟩
          intro c26
          have hi := I1.2; omega
        · refine ⟨((fun ι => (swR (zp A1 B1) (c - i) c j (ι)).1), (fun ι => (swR (zp A1 B1) (c - i) c j (ι)).2), i - j, j), ?_⟩
          try dsimp only
          refine ⟨?_, ?_, ?_⟩
          · exact rotI_gt I1 (by omega)
          · refine ⟨?_, ?_, rfl, Int.le_refl _, fun _ => fun _ => ⟨rfl, rfl⟩⟩
            · refine ⟨rfl, rfl, ?_, ?_⟩
              · refine ⟨?_, ?_⟩
                · rfl
                · intro c27
                  omega
              · rfl
            · refine ⟨Int.le_refl _, ?_⟩
              intro e9
              intro c28
              refine ⟨?_, ?_⟩
              · rfl
              · rfl
          · have hi := I1.2; omega
      · intro c29
        refine ⟨?_, ?_, ⟨⟨Int.le_refl _, fun _ => fun _ => ⟨rfl, rfl⟩⟩, ⟨rfl, ⟨Int.le_refl _, fun _ => fun _ => ⟨rfl, rfl⟩⟩⟩⟩, ?_⟩
        · have hi := I1.2; omega
        · refine ⟨rfl, ?_, ?_, rfl⟩
          · refine ⟨rfl, ?_⟩
            intro c30
            have hi := I1.2; omega
          · refine ⟨rfl, ?_⟩
            intro c31
            have hi := I1.2; omega
        · refine ⟨((fun ι => (swR (zp A1 B1) (c - i) ((c + j) - i) i (ι)).1), (fun ι => (swR (zp A1 B1) (c - i) ((c + j) - i) i (ι)).2), i, j - i), ?_⟩
          try dsimp only
          refine ⟨?_, ?_, ?_⟩
          · exact rotI_lt I1 (by omega) (by assumption)
          · refine ⟨?_, ?_, rfl, Int.le_refl _, fun _ => fun _ => ⟨rfl, rfl⟩⟩
            · refine ⟨rfl, rfl, ?_, ?_, ?_⟩
              · rfl
              · rfl
              · intro c32
                omega
            · refine ⟨Int.le_refl _, ?_⟩
              intro e14
              intro c33
              refine ⟨?_, ?_⟩
              · rfl
              · rfl
          · have hi := I1.2; omega
    · intro c34
      refine ⟨?_, ?_, ⟨⟨Int.le_refl _, fun _ => fun _ => ⟨rfl, rfl⟩⟩, ⟨rfl, ⟨Int.le_refl _, fun _ => fun _ => ⟨rfl, rfl⟩⟩⟩⟩, ?_, rfl, Int.le_refl _, fun _ => fun _ => ⟨rfl, rfl⟩⟩
      · have hi := I1.2; omega
      · refine ⟨rfl, ?_, rfl, rfl⟩
        refine ⟨rfl, ?_⟩
        intro c35
        have hi := I1.2; omega
      · refine ⟨Int.le_refl _, ?_⟩
        intro e18
        intro c36
        refine ⟨?_, ?_⟩
        · exact congrArg Prod.fst (rotI_end I1 (by assumption) _)
        · exact congrArg Prod.snd (rotI_end I1 (by assumption) _)
def c_s_rotate (X : Int → Int) (Y : Int → Int) (n : Int) (A : Int → Int) (B : Int → Int) (m : Int) (a : Int) (c : Int) (b : Int) : CnH Try.prog := ⟨_, _, _, _, _, _, s_rotate X Y n A B m a c b⟩
theorem s_insert (X : Int → Int) (Y : Int → Int) (n : Int) (A : Int → Int) (B : Int → Int) (m : Int) (a : Int) (b : Int) (hp : insQ A B n m a b) : Runs Try.prog 141 [(.sl 0 2 (.lit 0) (.v fun _ => m) 1048576), (.int .i64 (.v fun _ => a) 0 1048576), (.int .i64 (.v fun _ => b) 0 1048576), (.fn 93 [(.ptr 1 1 (.lit 0) 0)])] [some ⟨58, 2, true, (.sym (.v fun _ => m) fun e => [(.int .i64 (.v fun _ => (A (e.den))) 0 1048576), (.int .i64 (.v fun _ => (B (e.den))) 0 1048576)])⟩, some ⟨27, 1, true, (.lit [[(.sl 2 2 (.lit 0) (.v fun _ => n) 1048576)]])⟩, some ⟨50, 2, true, (.sym (.v fun _ => n) fun e => [(.int .i64 (.v fun _ => (X (e.den))) (-1000) 1000), (.int .i64 (.v fun _ => (Y (e.den))) (-1000) 1000)])⟩] fun rr mm => ∃ x : (Int → Int) × (Int → Int), (mrgP X Y A B x.1 x.2 a b) ∧ rr = (.tup []) ∧ mm = [some ⟨58, 2, true, (.sym (.v fun _ => m) fun e => [(.int .i64 (.v fun _ => (x.1 (e.den))) 0 1048576), (.int .i64 (.v fun _ => (x.2 (e.den))) 0 1048576)])⟩, some ⟨27, 1, true, (.lit [[(.sl 2 2 (.lit 0) (.v fun _ => n) 1048576)]])⟩, some ⟨50, 2, true, (.sym (.v fun _ => n) fun e => [(.int .i64 (.v fun _ => (X (e.den))) (-1000) 1000), (.int .i64 (.v fun _ => (Y (e.den))) (-1000) 1000)])⟩] := by
  refine RunsX.go (X := (Int → Int) × (Int → Int)) (I := (fun x => mrgP X Y A B x.1 x.2 a b)) (R := (fun x => (.tup []))) (M := (fun x => [some ⟨58, 2, true, (.sym (.v fun _ => m) fun e => [(.int .i64 (.v fun _ => (x.1 (e.den))) 0 1048576), (.int .i64 (.v fun _ => (x.2 (e.den))) 0 1048576)])⟩, some ⟨27, 1, true, (.lit [[(.sl 2 2 (.lit 0) (.v fun _ => n) 1048576)]])⟩, some ⟨50, 2, true, (.sym (.v fun _ => n) fun e => [(.int .i64 (.v fun _ => (X (e.den))) (-1000) 1000), (.int .i64 (.v fun _ => (Y (e.den))) (-1000) 1000)])⟩])) env Try.func141 rfl Try.call141 rfl rfl (fun _ _ => (.loop [] [0, 1, 2] ((Int → Int) × (Int → Int) × Int) (fun x1 => ⟨spl 53 0 [(0, (.sl 0 2 (.lit 0) (.v fun _ => m) 1048576)), (1, (.int .i64 (.v fun _ => a) 0 1048576)), (2, (.int .i64 (.v fun _ => b) 0 1048576)), (3, (.fn 93 [(.ptr 1 1 (.lit 0) 0)])), (8, (.int .i64 (.v fun _ => x1.2.2) 0 1048577))], [some ⟨58, 2, true, (.sym (.v fun _ => m) fun e => [(.int .i64 (.v fun _ => (x1.1 (e.den))) 0 1048576), (.int .i64 (.v fun _ => (x1.2.1 (e.den))) 0 1048576)])⟩, some ⟨27, 1, true, (.lit [[(.sl 2 2 (.lit 0) (.v fun _ => n) 1048576)]])⟩, some ⟨50, 2, true, (.sym (.v fun _ => n) fun e => [(.int .i64 (.v fun _ => (X (e.den))) (-1000) 1000), (.int .i64 (.v fun _ => (Y (e.den))) (-1000) 1000)])⟩], 3⟩) (fun x1 => ins1 X Y A B x1.1 x1.2.1 a b x1.2.2) (fun x1 => (b - x1.2.2).toNat) fun x1 => (.ite (.loop [] [0, 1, 2] ((Int → Int) × (Int → Int) × Int) (fun x5 => ⟨spl 53 0 [(0, (.sl 0 2 (.lit 0) (.v fun _ => m) 1048576)), (1, (.int .i64 (.v fun _ => a) 0 1048576)), (2, (.int .i64 (.v fun _ => b) 0 1048576)), (3, (.fn 93 [(.ptr 1 1 (.lit 0) 0)])), (8, (.int .i64 (.v fun _ => x1.2.2) 0 1048577)), (9, (.int .i64 (.v fun _ => x5.2.2) 0 1048576)), (12, (.int .i64 (.v fun _ => x1.2.2) 0 1048577)), (13, (.int .i64 (.v fun _ => b) 0 1048576)), (14, (.bool (.lt (.v fun _ => x1.2.2) (.v fun _ => b)))), (17, (.int .i64 (.v fun _ => x1.2.2) 0 1048577))], [some ⟨58, 2, true, (.sym (.v fun _ => m) fun e => [(.int .i64 (.v fun _ => (x5.1 (e.den))) 0 1048576), (.int .i64 (.v fun _ => (x5.2.1 (e.den))) 0 1048576)])⟩, some ⟨27, 1, true, (.lit [[(.sl 2 2 (.lit 0) (.v fun _ => n) 1048576)]])⟩, some ⟨50, 2, true, (.sym (.v fun _ => n) fun e => [(.int .i64 (.v fun _ => (X (e.den))) (-1000) 1000), (.int .i64 (.v fun _ => (Y (e.den))) (-1000) 1000)])⟩], 3⟩) (fun x5 => InS X Y (zp A B) (zp x5.1 x5.2.1) a x1.2.2 x5.2.2 ∧ a < x1.2.2 ∧ x1.2.2 < b) (fun x5 => x5.2.2.toNat) fun x5 => (.ite (.need (.need (.need (.need (.callH (c_SpanningTree1 X Y n ((x5.1 (x5.2.2))) ((x5.2.1 (x5.2.2))) ((x5.1 (x5.2.2 - 1))) ((x5.2.1 (x5.2.2 - 1)))) (.ite (.need (.need (.need (.need (.need (.need (.need (.need (.next [0, 1, 2]))))))))) (.out (.next [0, 1, 2])))))))) (.out (.next [0, 1, 2])))) (.out .ret)))) (G := ((0 ≤ m ∧ m ≤ 1048576) ∧ ((0 ≤ a ∧ a ≤ 1048576) ∧ (0 ≤ b ∧ b ≤ 1048576))) → ((∀ e25 : E, ((0 ≤ e25.den ∧ e25.den < m) → ((0 ≤ ((A (e25.den))) ∧ ((A (e25.den))) ≤ 1048576) ∧ (0 ≤ ((B (e25.den))) ∧ ((B (e25.den))) ≤ 1048576)))) ∧ ((0 ≤ n ∧ n ≤ 1048576) ∧ (∀ e24 : E, ((0 ≤ e24.den ∧ e24.den < n) → (((-1000) ≤ ((X (e24.den))) ∧ ((X (e24.den))) ≤ 1000) ∧ ((-1000) ≤ ((Y (e24.den))) ∧ ((Y (e24.den))) ≤ 1000)))))) → ((∃ y2 : (Int → Int) × (Int → Int) × Int, ((ins1 X Y A B y2.1 y2.2.1 a b y2.2.2) ∧ (((m = m) ∧ ((a = a) ∧ ((b = b) ∧ ((a + 1) = y2.2.2)))) ∧ (((m ≤ m) ∧ (∀ e4 : E, ((0 ≤ e4.den ∧ e4.den < m) → ((((A (e4.den))) = ((y2.1 (e4.den)))) ∧ (((B (e4.den))) = ((y2.2.1 (e4.den)))))))) ∧ ((n = n) ∧ ((n ≤ n) ∧ (∀ e3 : E, ((0 ≤ e3.den ∧ e3.den < n) → ((((X (e3.den))) = ((X (e3.den)))) ∧ (((Y (e3.den))) = ((Y (e3.den))))))))))))) ∧ (∀ x1 : (Int → Int) × (Int → Int) × Int, ((ins1 X Y A B x1.1 x1.2.1 a b x1.2.2) → (((x1.2.2 < b) → ((∃ y6 : (Int → Int) × (Int → Int) × Int, ((InS X Y (zp A B) (zp y6.1 y6.2.1) a x1.2.2 y6.2.2 ∧ a < x1.2.2 ∧ x1.2.2 < b) ∧ (((m = m) ∧ ((a = a) ∧ ((b = b) ∧ ((x1.2.2 = x1.2.2) ∧ (((x1.2.2 = y6.2.2) ∧ ((0 ≤ x1.2.2 ∧ x1.2.2 ≤ 1048577) → (0 ≤ y6.2.2 ∧ y6.2.2 ≤ 1048576))) ∧ ((x1.2.2 = x1.2.2) ∧ ((b = b) ∧ (((x1.2.2 < b) ↔ (x1.2.2 < b)) ∧ (x1.2.2 = x1.2.2))))))))) ∧ (((m ≤ m) ∧ (∀ e8 : E, ((0 ≤ e8.den ∧ e8.den < m) → ((((x1.1 (e8.den))) = ((y6.1 (e8.den)))) ∧ (((x1.2.1 (e8.den))) = ((y6.2.1 (e8.den)))))))) ∧ ((n = n) ∧ ((n ≤ n) ∧ (∀ e7 : E, ((0 ≤ e7.den ∧ e7.den < n) → ((((X (e7.den))) = ((X (e7.den)))) ∧ (((Y (e7.den))) = ((Y (e7.den))))))))))))) ∧ (∀ x5 : (Int → Int) × (Int → Int) × Int, ((InS X Y (zp A B) (zp x5.1 x5.2.1) a x1.2.2 x5.2.2 ∧ a < x1.2.2 ∧ x1.2.2 < b) → (((a < x5.2.2) → ((((0 ≤ x5.2.2) ∧ (x5.2.2 < m))) ∧ ((x5.2.2 < m) ∧ ((((0 ≤ (x5.2.2 - 1)) ∧ ((x5.2.2 - 1) < m))) ∧ (((x5.2.2 - 1) < m) ∧ ((((0 ≤ ((x5.1 (x5.2.2))) ∧ ((x5.1 (x5.2.2))) < n) ∧ (0 ≤ ((x5.2.1 (x5.2.2))) ∧ ((x5.2.1 (x5.2.2))) < n)) ∧ (0 ≤ ((x5.1 (x5.2.2 - 1))) ∧ ((x5.1 (x5.2.2 - 1))) < n) ∧ (0 ≤ ((x5.2.1 (x5.2.2 - 1))) ∧ ((x5.2.1 (x5.2.2 - 1))) < n)) ∧ ((((((x5.1 (x5.2.2))) = ((x5.1 (x5.2.2)))) ∧ (((x5.2.1 (x5.2.2))) = ((x5.2.1 (x5.2.2))))) ∧ ((((x5.1 (x5.2.2 - 1))) = ((x5.1 (x5.2.2 - 1)))) ∧ (((x5.2.1 (x5.2.2 - 1))) = ((x5.2.1 (x5.2.2 - 1)))))) ∧ (((n = n) ∧ ((n ≤ n) ∧ (∀ e9 : E, ((0 ≤ e9.den ∧ e9.den < n) → ((((X (e9.den))) = ((X (e9.den)))) ∧ (((Y (e9.den))) = ((Y (e9.den))))))))) ∧ ((((cmD X Y (((x5.1 (x5.2.2))), ((x5.2.1 (x5.2.2)))) (((x5.1 (x5.2.2 - 1))), ((x5.2.1 (x5.2.2 - 1))))) < 0) → ((((0 ≤ (x5.2.2 - 1)) ∧ ((x5.2.2 - 1) < m))) ∧ (((x5.2.2 - 1) < m) ∧ ((((0 ≤ x5.2.2) ∧ (x5.2.2 < m))) ∧ ((x5.2.2 < m) ∧ ((((0 ≤ x5.2.2) ∧ (x5.2.2 < m))) ∧ ((x5.2.2 < m) ∧ ((((0 ≤ (x5.2.2 - 1)) ∧ ((x5.2.2 - 1) < m))) ∧ (((x5.2.2 - 1) < m) ∧ (∃ y10 : (Int → Int) × (Int → Int) × Int, ((InS X Y (zp A B) (zp y10.1 y10.2.1) a x1.2.2 y10.2.2 ∧ a < x1.2.2 ∧ x1.2.2 < b) ∧ ((((m = m) ∧ ((a = a) ∧ ((b = b) ∧ ((x1.2.2 = x1.2.2) ∧ ((((x5.2.2 - 1) = y10.2.2) ∧ (((-1) ≤ (x5.2.2 - 1) ∧ (x5.2.2 - 1) ≤ 1048575) → (0 ≤ y10.2.2 ∧ y10.2.2 ≤ 1048576))) ∧ ((x1.2.2 = x1.2.2) ∧ ((b = b) ∧ (((x1.2.2 < b) ↔ (x1.2.2 < b)) ∧ (x1.2.2 = x1.2.2))))))))) ∧ (((m = m) ∧ (((∀ e13 : E, ((0 ≤ e13.den ∧ e13.den < m ∧ e13.den ≠ (x5.2.2 - 1) ∧ e13.den ≠ x5.2.2) → ((((x5.1 (e13.den))) = ((y10.1 (e13.den)))) ∧ (((x5.2.1 (e13.den))) = ((y10.2.1 (e13.den))))))) ∧ (∀ e14 : E, ((e14.den.toNat = (x5.2.2 : Int).toNat ∧ 0 ≤ e14.den ∧ e14.den ≠ (x5.2.2 - 1)) → ((((x5.1 (x5.2.2 - 1))) = ((y10.1 (e14.den)))) ∧ (((x5.2.1 (x5.2.2 - 1))) = ((y10.2.1 (e14.den)))))))) ∧ (∀ e12 : E, ((e12.den.toNat = ((x5.2.2 - 1) : Int).toNat ∧ 0 ≤ e12.den) → ((((x5.1 (x5.2.2))) = ((y10.1 (e12.den)))) ∧ (((x5.2.1 (x5.2.2))) = ((y10.2.1 (e12.den))))))))) ∧ ((n = n) ∧ ((n ≤ n) ∧ (∀ e11 : E, ((0 ≤ e11.den ∧ e11.den < n) → ((((X (e11.den))) = ((X (e11.den)))) ∧ (((Y (e11.den))) = ((Y (e11.den))))))))))) ∧ (y10.2.2.toNat < x5.2.2.toNat))))))))))))) ∧ ((0 ≤ (cmD X Y (((x5.1 (x5.2.2))), ((x5.2.1 (x5.2.2)))) (((x5.1 (x5.2.2 - 1))), ((x5.2.1 (x5.2.2 - 1)))))) → (∃ y15 : (Int → Int) × (Int → Int) × Int, ((ins1 X Y A B y15.1 y15.2.1 a b y15.2.2) ∧ ((((m = m) ∧ ((a = a) ∧ ((b = b) ∧ (((x1.2.2 + 1) = y15.2.2) ∧ ((1 ≤ (x1.2.2 + 1) ∧ (x1.2.2 + 1) ≤ 1048578) → (0 ≤ y15.2.2 ∧ y15.2.2 ≤ 1048577)))))) ∧ (((m ≤ m) ∧ (∀ e17 : E, ((0 ≤ e17.den ∧ e17.den < m) → ((((x5.1 (e17.den))) = ((y15.1 (e17.den)))) ∧ (((x5.2.1 (e17.den))) = ((y15.2.1 (e17.den)))))))) ∧ ((n = n) ∧ ((n ≤ n) ∧ (∀ e16 : E, ((0 ≤ e16.den ∧ e16.den < n) → ((((X (e16.den))) = ((X (e16.den)))) ∧ (((Y (e16.den))) = ((Y (e16.den))))))))))) ∧ ((b - y15.2.2).toNat < (b - x1.2.2).toNat)))))))))))))) ∧ ((x5.2.2 ≤ a) → (∃ y18 : (Int → Int) × (Int → Int) × Int, ((ins1 X Y A B y18.1 y18.2.1 a b y18.2.2) ∧ ((((m = m) ∧ ((a = a) ∧ ((b = b) ∧ (((x1.2.2 + 1) = y18.2.2) ∧ ((1 ≤ (x1.2.2 + 1) ∧ (x1.2.2 + 1) ≤ 1048578) → (0 ≤ y18.2.2 ∧ y18.2.2 ≤ 1048577)))))) ∧ (((m ≤ m) ∧ (∀ e20 : E, ((0 ≤ e20.den ∧ e20.den < m) → ((((x5.1 (e20.den))) = ((y18.1 (e20.den)))) ∧ (((x5.2.1 (e20.den))) = ((y18.2.1 (e20.den)))))))) ∧ ((n = n) ∧ ((n ≤ n) ∧ (∀ e19 : E, ((0 ≤ e19.den ∧ e19.den < n) → ((((X (e19.den))) = ((X (e19.den)))) ∧ (((Y (e19.den))) = ((Y (e19.den))))))))))) ∧ ((b - y18.2.2).toNat < (b - x1.2.2).toNat)))))))))) ∧ ((b ≤ x1.2.2) → (∃ y21 : (Int → Int) × (Int → Int), ((mrgP X Y A B y21.1 y21.2 a b) ∧ (((m ≤ m) ∧ (∀ e23 : E, ((0 ≤ e23.den ∧ e23.den < m) → ((((x1.1 (e23.den))) = ((y21.1 (e23.den)))) ∧ (((x1.2.1 (e23.den))) = ((y21.2 (e23.den)))))))) ∧ ((n = n) ∧ ((n ≤ n) ∧ (∀ e22 : E, ((0 ≤ e22.den ∧ e22.den < n) → ((((X (e22.den))) = ((X (e22.den)))) ∧ (((Y (e22.den))) = ((Y (e22.den)))))))))))))))))) (by kernel_rfl) ?_
  intro h1 h2
  refine ⟨?_, ?_⟩
  · refine ⟨(A, B, a + 1), ?_⟩
    try dsimp only
    refine ⟨?_, ?_, ?_, rfl, Int.le_refl _, fun _ => fun _ => ⟨rfl, rfl⟩⟩
    · exact ins1_0 hp
    · refine ⟨rfl, rfl, rfl, ?_⟩
      rfl
    · refine ⟨Int.le_refl _, ?_⟩
      intro e4
      intro c26
      refine ⟨?_, ?_⟩
      · rfl
      · rfl
  · rintro ⟨A1, B1, i⟩
    dsimp only
    intro I1
    refine ⟨?_, ?_⟩
    · intro c27
      refine ⟨?_, ?_⟩
      · refine ⟨(A1, B1, i), ?_⟩
        try dsimp only
        refine ⟨?_, ?_, ?_, rfl, Int.le_refl _, fun _ => fun _ => ⟨rfl, rfl⟩⟩
        · exact ins1_in hp I1 (by omega)
        · refine ⟨rfl, rfl, rfl, rfl, ?_, rfl, rfl, Iff.rfl, rfl⟩
          refine ⟨?_, ?_⟩
          · rfl
          · intro c28
            omega
        · refine ⟨Int.le_refl _, ?_⟩
          intro e8
          intro c29
          refine ⟨?_, ?_⟩
          · rfl
          · rfl
      · rintro ⟨A3, B3, j⟩
        dsimp only
        intro I2
        refine ⟨?_, ?_⟩
        · intro c30
          refine ⟨?_, ?_, ?_, ?_, ?_, ⟨⟨rfl, rfl⟩, ⟨rfl, rfl⟩⟩, ⟨rfl, ⟨Int.le_refl _, fun _ => fun _ => ⟨rfl, rfl⟩⟩⟩, ?_, ?_⟩
          · have hq := hp.2.1; have hi := I1.1; have he := ins1_ed hp I2; omega
          · have hq := hp.2.1; have hi := I1.1; have he := ins1_ed hp I2; omega
          · have hq := hp.2.1; have hi := I1.1; have he := ins1_ed hp I2; omega
          · have hq := hp.2.1; have hi := I1.1; have he := ins1_ed hp I2; omega
          · have hq := hp.2.1; have hi := I1.1; have he := ins1_ed hp I2; exact ⟨he.1 j (by omega) (by omega), he.1 (j - 1) (by omega) (by omega)⟩
          · intro c31
            refine ⟨?_, ?_, ?_, ?_, ?_, ?_, ?_, ?_, ?_⟩
            · have hq := hp.2.1; have hi := I1.1; have he := ins1_ed hp I2; omega
            · have hq := hp.2.1; have hi := I1.1; have he := ins1_ed hp I2; omega
            · have hq := hp.2.1; have hi := I1.1; have he := ins1_ed hp I2; omega
            · have hq := hp.2.1; have hi := I1.1; have he := ins1_ed hp I2; omega
            · have hq := hp.2.1; have hi := I1.1; have he := ins1_ed hp I2; omega
            · have hq := hp.2.1; have hi := I1.1; have he := ins1_ed hp I2; omega
            · have hq := hp.2.1; have hi := I1.1; have he := ins1_ed hp I2; omega
            · have hq := hp.2.1; have hi := I1.1; have he := ins1_ed hp I2; omega
            · refine ⟨((fun ι => if ι = (j - 1) then ((A3 (j))) else (if ι = j then ((A3 (j - 1))) else ((A3 (ι))))), (fun ι => if ι = (j - 1) then ((B3 (j))) else (if ι = j then ((B3 (j - 1))) else ((B3 (ι))))), j - 1), ?_⟩
              try dsimp only
              refine ⟨?_, ?_, ?_⟩
              · exact ins1_sw I2 (by omega) (by assumption)
              · refine ⟨?_, ?_, rfl, Int.le_refl _, fun _ => fun _ => ⟨rfl, rfl⟩⟩
                · refine ⟨rfl, rfl, rfl, rfl, ?_, rfl, rfl, Iff.rfl, rfl⟩
                  refine ⟨?_, ?_⟩
                  · rfl
                  · intro c32
                    omega
                · refine ⟨rfl, ?_, ?_⟩
                  · refine ⟨?_, ?_⟩
                    · intro e13
                      intro c33
                      refine ⟨?_, ?_⟩
                      · omega
                      · omega
                    · intro e14
                      intro c34
                      refine ⟨?_, ?_⟩
                      · omega
                      · omega
                  · intro e12
                    intro c35
                    refine ⟨?_, ?_⟩
                    · omega
                    · omega
              · omega
          · intro c36
            refine ⟨(A3, B3, i + 1), ?_⟩
            try dsimp only
            refine ⟨?_, ?_, ?_⟩
            · exact ins1_nx hp I2 (fun h => by first | (exfalso; omega) | assumption)
            · refine ⟨?_, ?_, rfl, Int.le_refl _, fun _ => fun _ => ⟨rfl, rfl⟩⟩
              · refine ⟨rfl, rfl, rfl, ?_, ?_⟩
                · rfl
                · intro c37
                  omega
              · refine ⟨Int.le_refl _, ?_⟩
                intro e17
                intro c38
                refine ⟨?_, ?_⟩
                · rfl
                · rfl
            · omega
        · intro c39
          refine ⟨(A3, B3, i + 1), ?_⟩
          try dsimp only
          refine ⟨?_, ?_, ?_⟩
          · exact ins1_nx hp I2 (fun h => by first | (exfalso; omega) | assumption)
          · refine ⟨?_, ?_, rfl, Int.le_refl _, fun _ => fun _ => ⟨rfl, rfl⟩⟩
            · refine ⟨rfl, rfl, rfl, ?_, ?_⟩
              · rfl
              · intro c40
                omega
            · refine ⟨Int.le_refl _, ?_⟩
              intro e20
              intro c41
              refine ⟨?_, ?_⟩
              · rfl
              · rfl
          · omega
    · intro c42
      refine ⟨(A1, B1), ?_⟩
      try dsimp only
      refine ⟨?_, ?_, rfl, Int.le_refl _, fun _ => fun _ => ⟨rfl, rfl⟩⟩
      · exact ins1_end hp I1 (by omega)
      · refine ⟨Int.le_refl _, ?_⟩
        intro e23
        intro c43
        refine ⟨?_, ?_⟩
        · rfl
        · rfl
def c_s_insert (X : Int → Int) (Y : Int → Int) (n : Int) (A : Int → Int) (B : Int → Int) (m : Int) (a : Int) (b : Int) : CnXH Try.prog := ⟨_, _, _, (Int → Int) × (Int → Int), (fun x => mrgP X Y A B x.1 x.2 a b), (fun x => (.tup [])), (fun x => [some ⟨58, 2, true, (.sym (.v fun _ => m) fun e => [(.int .i64 (.v fun _ => (x.1 (e.den))) 0 1048576), (.int .i64 (.v fun _ => (x.2 (e.den))) 0 1048576)])⟩, some ⟨27, 1, true, (.lit [[(.sl 2 2 (.lit 0) (.v fun _ => n) 1048576)]])⟩, some ⟨50, 2, true, (.sym (.v fun _ => n) fun e => [(.int .i64 (.v fun _ => (X (e.den))) (-1000) 1000), (.int .i64 (.v fun _ => (Y (e.den))) (-1000) 1000)])⟩]), _, s_insert X Y n A B m a b⟩
end Go.Proofs.Ytcfkpdjbjfnnmaa
