/- Two segments drawn; symmetry of relations. -/
import Derived.Test.YtoielngedkbmbaaK18
set_option linter.unusedSimpArgs false
set_option linter.unusedVariables false
set_option maxRecDepth 100000
namespace Go.Proofs.Ytoielngedkbmbaa
open Go.Sym
theorem relR_pos' {sAX sAY sBX sBY tAX tAY tBX tBY : Int} (h : 0 ≤ relR sAX sAY sBX sBY tAX tAY tBX tBY) : okS sAX sAY sBX sBY = true ∧ okS tAX tAY tBX tBY = true ∧ relR sAX sAY sBX sBY tAX tAY tBX tBY = relI sAX sAY sBX sBY tAX tAY tBX tBY := by
  unfold relR at h ⊢
  by_cases hc : okS sAX sAY sBX sBY = true ∧ okS tAX tAY tBX tBY = true
  · exact ⟨hc.1, hc.2, if_pos hc⟩
  · rw [if_neg hc] at h; omega
def b1 (b : Bool) : Int := if b = true then 1 else 0
def eP (ax ay bx bY : Int) : Bool := decide (ax = bx) && decide (ay = bY)
theorem eP_iff {ax ay bx bY : Int} : eP ax ay bx bY = true ↔ ax = bx ∧ ay = bY := by unfold eP; simp
theorem eP_comm (ax ay bx bY : Int) : eP ax ay bx bY = eP bx bY ax ay := by
  rw [Bool.eq_iff_iff, eP_iff, eP_iff]
  exact ⟨fun h => ⟨h.1.symm, h.2.symm⟩, fun h => ⟨h.1.symm, h.2.symm⟩⟩
theorem b1_bd (b : Bool) : 0 ≤ b1 b ∧ b1 b ≤ 1 := by cases b <;> decide
theorem b1_or {a b : Bool} (h : ¬ (a = true ∧ b = true)) : b1 (a || b) = b1 a + b1 b := by
  cases a <;> cases b <;> first | rfl | exact absurd ⟨rfl, rfl⟩ h
theorem b1_sub {c e : Bool} (h : e = true → c = true) : b1 (c && !e) = b1 c - b1 e := by
  cases c <;> cases e <;> first | rfl | exact absurd (h rfl) (by decide)
theorem fl_b1 (q : Int → Bool) {j : Int} (h : 0 ≤ j) : len' (fl q (j + 1)) = len' (fl q j) + b1 (q j) := by
  rw [fl_succ q h]
  unfold b1
  split
  · rw [len'_snoc]
  · omega
theorem fl4 (q : Int → Bool) : len' (fl q 4) = b1 (q 0) + b1 (q 1) + b1 (q 2) + b1 (q 3) := by
  have a := fl_b1 q (j := 0) (by decide)
  have b := fl_b1 q (j := 1) (by decide)
  have c := fl_b1 q (j := 2) (by decide)
  have d := fl_b1 q (j := 3) (by decide)
  have e : len' (fl q 0) = 0 := rfl
  simp only [Int.zero_add, show (1 : Int) + 1 = 2 from rfl, show (2 : Int) + 1 = 3 from rfl, show (3 : Int) + 1 = 4 from rfl] at a b c d
  omega
theorem onB_eq {ax ay bx bY px py qx qy : Int} (h : eP px py qx qy = true) : onB ax ay bx bY px py = onB ax ay bx bY qx qy := by
  obtain ⟨rfl, rfl⟩ := eP_iff.1 h; rfl
/-- The number of common ends, both sides alike. -/
theorem cmN_sum {sAX sAY sBX sBY tAX tAY tBX tBY : Int} (hs : okS sAX sAY sBX sBY = true) (ht : okS tAX tAY tBX tBY = true) :
    cmN sAX sAY sBX sBY tAX tAY tBX tBY = b1 (onB tAX tAY tBX tBY sAX sAY) + b1 (onB tAX tAY tBX tBY sBX sBY) + b1 (onB sAX sAY sBX sBY tAX tAY) + b1 (onB sAX sAY sBX sBY tBX tBY)
      - b1 (eP sAX sAY tAX tAY) - b1 (eP sAX sAY tBX tBY) - b1 (eP sBX sBY tAX tAY) - b1 (eP sBX sBY tBX tBY) := by
  have h1 := (okS_ne hs).2.2
  have h2 := (okS_ne ht).2.2
  have s0 := (onB_end (ax := sAX) (ay := sAY) (bx := sBX) (bY := sBY)).1
  have s1 := (onB_end (ax := sAX) (ay := sAY) (bx := sBX) (bY := sBY)).2
  have q0 : cmQ sAX sAY sBX sBY tAX tAY tBX tBY 0 = onB tAX tAY tBX tBY sAX sAY := rfl
  have q1 : cmQ sAX sAY sBX sBY tAX tAY tBX tBY 1 = onB tAX tAY tBX tBY sBX sBY := rfl
  have q2 : cmQ sAX sAY sBX sBY tAX tAY tBX tBY 2 = (onB sAX sAY sBX sBY tAX tAY && !(isE tAX tAY tBX tBY tAX tAY && isE sAX sAY sBX sBY tAX tAY)) := rfl
  have q3 : cmQ sAX sAY sBX sBY tAX tAY tBX tBY 3 = (onB sAX sAY sBX sBY tBX tBY && !(isE tAX tAY tBX tBY tBX tBY && isE sAX sAY sBX sBY tBX tBY)) := rfl
  have e2 : isE tAX tAY tBX tBY tAX tAY = true := by simp [isE]
  have e3 : isE tAX tAY tBX tBY tBX tBY = true := by simp [isE]
  have part : ∀ px py, b1 (onB sAX sAY sBX sBY px py && !isE sAX sAY sBX sBY px py) = b1 (onB sAX sAY sBX sBY px py) - b1 (eP sAX sAY px py) - b1 (eP sBX sBY px py) := by
    intro px py
    have e : isE sAX sAY sBX sBY px py = (eP sAX sAY px py || eP sBX sBY px py) := by
      rw [eP_comm sAX sAY, eP_comm sBX sBY]; rfl
    rw [b1_sub, e, b1_or]
    · omega
    · rintro ⟨a, b⟩
      rw [eP_iff] at a b
      exact h1 ⟨a.1.trans b.1.symm, a.2.trans b.2.symm⟩
    · intro h
      rw [e, Bool.or_eq_true] at h
      rcases h with h | h
      · rw [← onB_eq h]; exact s0
      · rw [← onB_eq h]; exact s1
  unfold cmN
  rw [fl4, q0, q1, q2, q3, e2, e3, Bool.true_and, Bool.true_and, part, part]
  omega
theorem onB_rev (ax ay bx bY px py : Int) : onB bx bY ax ay px py = onB ax ay bx bY px py := by
  have e1 : trn bx bY ax ay px py = -trn ax ay bx bY px py := by unfold trn; grind
  have e2 : dotp bx bY ax ay px py = dotp ax ay bx bY px py := by unfold dotp; grind
  unfold onB
  rw [e1, e2, Bool.eq_iff_iff, Bool.and_eq_true, Bool.and_eq_true, decide_eq_true_eq, decide_eq_true_eq, decide_eq_true_eq]
  omega
theorem sgn_neg' (x : Int) : sgn (-x) = -sgn x := by
  unfold sgn
  (repeat' split) <;> omega
theorem crsB_swap (sAX sAY sBX sBY tAX tAY tBX tBY : Int) : crsB tAX tAY tBX tBY sAX sAY sBX sBY = crsB sAX sAY sBX sBY tAX tAY tBX tBY := by
  unfold crsB; rw [Bool.and_comm]
theorem crsB_rev (sAX sAY sBX sBY tAX tAY tBX tBY : Int) : crsB sBX sBY sAX sAY tAX tAY tBX tBY = crsB sAX sAY sBX sBY tAX tAY tBX tBY := by
  have e : ∀ x y, trn sBX sBY sAX sAY x y = -trn sAX sAY sBX sBY x y := fun x y => by unfold trn; grind
  unfold crsB
  rw [e, e, sgn_neg', sgn_neg', Int.neg_mul_neg, Int.mul_comm (sgn (trn tAX tAY tBX tBY sBX sBY))]
theorem okS_rev {ax ay bx bY : Int} : okS bx bY ax ay = okS ax ay bx bY := by
  unfold okS
  rw [Bool.eq_iff_iff]
  simp only [Bool.and_eq_true, Bool.not_eq_true', Bool.and_eq_false_iff, decide_eq_false_iff_not]
  constructor
  · rintro ⟨⟨a, b⟩, c⟩; exact ⟨⟨b, a⟩, by omega⟩
  · rintro ⟨⟨a, b⟩, c⟩; exact ⟨⟨b, a⟩, by omega⟩
/-- The relation does not depend on the order of the segments, nor of their ends; a segment overlaps with itself. -/
theorem rel_law {sAX sAY sBX sBY tAX tAY tBX tBY : Int} (h : 0 ≤ relR sAX sAY sBX sBY tAX tAY tBX tBY) : relR tAX tAY tBX tBY sAX sAY sBX sBY = relR sAX sAY sBX sBY tAX tAY tBX tBY ∧ relR sBX sBY sAX sAY tAX tAY tBX tBY = relR sAX sAY sBX sBY tAX tAY tBX tBY ∧ relR sAX sAY sBX sBY sAX sAY sBX sBY = 3 := by
  obtain ⟨hs, ht, he⟩ := relR_pos' h
  have hs' : okS sBX sBY sAX sAY = true := by rw [okS_rev]; exact hs
  have c0 := cmN_sum hs ht
  have c1 := cmN_sum ht hs
  have c2 := cmN_sum hs' ht
  have c3 := cmN_sum hs hs
  have s0 := onB_end (ax := sAX) (ay := sAY) (bx := sBX) (bY := sBY)
  have hne := (okS_ne hs).2.2
  have x1 := eP_comm tAX tAY sAX sAY
  have x2 := eP_comm tAX tAY sBX sBY
  have x3 := eP_comm tBX tBY sAX sAY
  have x4 := eP_comm tBX tBY sBX sBY
  refine ⟨?_, ?_, ?_⟩
  · rw [he]
    unfold relR
    rw [if_pos ⟨ht, hs⟩]
    unfold relI
    rw [crsB_swap, show cmN tAX tAY tBX tBY sAX sAY sBX sBY = cmN sAX sAY sBX sBY tAX tAY tBX tBY by rw [c0, c1, x1, x2, x3, x4]; omega]
  · rw [he]
    unfold relR
    rw [if_pos ⟨hs', ht⟩]
    unfold relI
    rw [crsB_rev, show cmN sBX sBY sAX sAY tAX tAY tBX tBY = cmN sAX sAY sBX sBY tAX tAY tBX tBY by rw [c0, c2, onB_rev sAX, onB_rev sAX]; omega]
  · unfold relR
    rw [if_pos ⟨hs, hs⟩]
    unfold relI
    have e1 : eP sAX sAY sAX sAY = true := eP_iff.2 ⟨rfl, rfl⟩
    have e2 : eP sBX sBY sBX sBY = true := eP_iff.2 ⟨rfl, rfl⟩
    have e3 : eP sAX sAY sBX sBY = false := by rw [← Bool.not_eq_true, eP_iff]; exact hne
    have e4 : eP sBX sBY sAX sAY = false := by rw [eP_comm]; exact e3
    rw [s0.1, s0.2, e1, e2, e3, e4] at c3
    have c4 : cmN sAX sAY sBX sBY sAX sAY sBX sBY = 2 := c3
    rw [c4]; rfl
/-- Touching or overlapping: an end of one segment is on the other. -/
theorem ends_law {sAX sAY sBX sBY tAX tAY tBX tBY : Int} (h : 0 ≤ relR sAX sAY sBX sBY tAX tAY tBX tBY) :
    (onB sAX sAY sBX sBY tAX tAY = true ∨ onB sAX sAY sBX sBY tBX tBY = true ∨ onB tAX tAY tBX tBY sAX sAY = true ∨ onB tAX tAY tBX tBY sBX sBY = true) ↔ (relR sAX sAY sBX sBY tAX tAY tBX tBY = 1 ∨ relR sAX sAY sBX sBY tAX tAY tBX tBY = 3) := by
  obtain ⟨hs, ht, he⟩ := relR_pos' h
  rw [he]
  have hN := fl4 (cmQ sAX sAY sBX sBY tAX tAY tBX tBY)
  have hN' : cmN sAX sAY sBX sBY tAX tAY tBX tBY = b1 (onB tAX tAY tBX tBY sAX sAY) + b1 (onB tAX tAY tBX tBY sBX sBY) + b1 (cmQ sAX sAY sBX sBY tAX tAY tBX tBY 2) + b1 (cmQ sAX sAY sBX sBY tAX tAY tBX tBY 3) := hN
  have sum := cmN_sum hs ht
  have p1 := b1_bd (onB tAX tAY tBX tBY sAX sAY)
  have p2 := b1_bd (onB tAX tAY tBX tBY sBX sBY)
  have p3 := b1_bd (cmQ sAX sAY sBX sBY tAX tAY tBX tBY 2)
  have p4 := b1_bd (cmQ sAX sAY sBX sBY tAX tAY tBX tBY 3)
  have y : ∀ b, b = true → b1 b = 1 := fun b h => by rw [h]; rfl
  have n : ∀ b, b1 b = 1 → b = true := fun b h => by cases b; exact absurd h (by decide); rfl
  have z : ∀ b, ¬ b = true → b1 b = 0 := fun b h => by cases b; rfl; exact absurd rfl h
  have t0 := onB_end (ax := tAX) (ay := tAY) (bx := tBX) (bY := tBY)
  have hr : relI sAX sAY sBX sBY tAX tAY tBX tBY = 1 ∨ relI sAX sAY sBX sBY tAX tAY tBX tBY = 3 ↔ cmN sAX sAY sBX sBY tAX tAY tBX tBY ≠ 0 := by
    unfold relI relN
    by_cases e : cmN sAX sAY sBX sBY tAX tAY tBX tBY = 0
    · rw [if_pos e]; split <;> omega
    · rw [if_neg e]; split <;> omega
  rw [hr]
  constructor
  · intro h0 h9
    have a1 : ¬ onB tAX tAY tBX tBY sAX sAY = true := fun h => by have := y _ h; omega
    have a2 : ¬ onB tAX tAY tBX tBY sBX sBY = true := fun h => by have := y _ h; omega
    have k1 : eP sAX sAY tAX tAY = false := by rw [← Bool.not_eq_true]; exact fun h => a1 (by rw [onB_eq h]; exact t0.1)
    have k2 : eP sAX sAY tBX tBY = false := by rw [← Bool.not_eq_true]; exact fun h => a1 (by rw [onB_eq h]; exact t0.2)
    have k3 : eP sBX sBY tAX tAY = false := by rw [← Bool.not_eq_true]; exact fun h => a2 (by rw [onB_eq h]; exact t0.1)
    have k4 : eP sBX sBY tBX tBY = false := by rw [← Bool.not_eq_true]; exact fun h => a2 (by rw [onB_eq h]; exact t0.2)
    rw [k1, k2, k3, k4] at sum
    have e0 : b1 false = 0 := rfl
    have p5 := b1_bd (onB sAX sAY sBX sBY tAX tAY)
    have p6 := b1_bd (onB sAX sAY sBX sBY tBX tBY)
    rcases h0 with h | h | h | h
    · have := y _ h; omega
    · have := y _ h; omega
    · exact a1 h
    · exact a2 h
  · intro h0
    refine Classical.byContradiction fun hno => h0 ?_
    have a1 := z (onB sAX sAY sBX sBY tAX tAY) (fun h => hno (.inl h))
    have a2 := z (onB sAX sAY sBX sBY tBX tBY) (fun h => hno (.inr (.inl h)))
    have a3 := z (onB tAX tAY tBX tBY sAX sAY) (fun h => hno (.inr (.inr (.inl h))))
    have a4 := z (onB tAX tAY tBX tBY sBX sBY) (fun h => hno (.inr (.inr (.inr h))))
    have p5 := b1_bd (eP sAX sAY tAX tAY)
    have p6 := b1_bd (eP sAX sAY tBX tBY)
    have p7 := b1_bd (eP sBX sBY tAX tAY)
    have p8 := b1_bd (eP sBX sBY tBX tBY)
    omega

def w0 (C : Int → Int) (n : Int) : Int := sgP C (cut n) 0
def w1 (C : Int → Int) (n : Int) : Int := sgP C (cut n) (w0 C n)
def wk (C : Int → Int) (n : Int) : Int := pk C (cut n) (w1 C n) 5
def aAX (C : Int → Int) (n : Int) : Int := apX C (cut n) 0
def aAY (C : Int → Int) (n : Int) : Int := apY C (cut n) 0
def aBX (C : Int → Int) (n : Int) : Int := sgX C (cut n) 0
def aBY (C : Int → Int) (n : Int) : Int := sgY C (cut n) 0
def bAX (C : Int → Int) (n : Int) : Int := if wk C n = 0 then aBX C n else if wk C n = 1 then 2 * aBX C n - aAX C n else apX C (cut n) (w0 C n)
def bAY (C : Int → Int) (n : Int) : Int := if wk C n = 0 then aBY C n else if wk C n = 1 then 2 * aBY C n - aAY C n else apY C (cut n) (w0 C n)
def bBX (C : Int → Int) (n : Int) : Int := if wk C n = 1 then (if pk C (cut n) (w1 C n + 1) 2 = 0 then aAX C n else aBX C n) else sgX C (cut n) (w0 C n)
def bBY (C : Int → Int) (n : Int) : Int := if wk C n = 1 then (if pk C (cut n) (w1 C n + 1) 2 = 0 then aAY C n else aBY C n) else sgY C (cut n) (w0 C n)
theorem r_points (C : Int → Int) (n : Int) (p : Int) (sAX : Int) (sAY : Int) (sBX : Int) (sBY : Int) : RunsTo Try.prog 130 [(.ptr 0 2 (.lit 0) 0), (.agg [(.int .i64 (.v fun _ => sAX) (-2002) 2002), (.int .i64 (.v fun _ => sAY) (-2002) 2002), (.int .i64 (.v fun _ => sBX) (-2002) 2002), (.int .i64 (.v fun _ => sBY) (-2002) 2002)])] [some ⟨136, 2, true, (.lit [[(.sl 1 1 (.lit 0) (.v fun _ => n) 2000), (.int .i64 (.v fun _ => p) 0 9999990)]])⟩, some ⟨5, 1, false, (.sym (.v fun _ => n) fun e => [(.int .u8 (.v fun _ => (C (e.den))) 0 255)])⟩] (.agg [(.int .i64 (.v fun _ => if pk C n p 2 = 0 then sAX else sBX) (-2002) 2002), (.int .i64 (.v fun _ => if pk C n p 2 = 0 then sAY else sBY) (-2002) 2002)]) [some ⟨136, 2, true, (.lit [[(.sl 1 1 (.lit 0) (.v fun _ => n) 2000), (.int .i64 (.v fun _ => p + 1) 0 9999991)]])⟩, some ⟨5, 1, false, (.sym (.v fun _ => n) fun e => [(.int .u8 (.v fun _ => (C (e.den))) 0 255)])⟩] := by
  refine RunsTo.go env Try.func130 rfl Try.call130 rfl rfl (fun _ _ => (.call (c_pick_2 C n p) (.ite .ret .ret))) (G := (((-2002) ≤ sAX ∧ sAX ≤ 2002) ∧ (((-2002) ≤ sAY ∧ sAY ≤ 2002) ∧ (((-2002) ≤ sBX ∧ sBX ≤ 2002) ∧ ((-2002) ≤ sBY ∧ sBY ≤ 2002)))) → (((0 ≤ n ∧ n ≤ 2000) ∧ (0 ≤ p ∧ p ≤ 9999990)) ∧ (∀ e4 : E, ((0 ≤ e4.den ∧ e4.den < n) → (0 ≤ ((C (e4.den))) ∧ ((C (e4.den))) ≤ 255)))) → ((((n = n) ∧ (p = p)) ∧ ((n ≤ n) ∧ (∀ e1 : E, ((0 ≤ e1.den ∧ e1.den < n) → (((C (e1.den))) = ((C (e1.den)))))))) ∧ ((((pk C n p 2) = 0) → (((sAX = (if pk C n p 2 = 0 then sAX else sBX)) ∧ (sAY = (if pk C n p 2 = 0 then sAY else sBY))) ∧ (((n = n) ∧ (((p + 1) = (p + 1)) ∧ ((0 ≤ (p + 1) ∧ (p + 1) ≤ 10000001) → (0 ≤ (p + 1) ∧ (p + 1) ≤ 9999991)))) ∧ ((n ≤ n) ∧ (∀ e2 : E, ((0 ≤ e2.den ∧ e2.den < n) → (((C (e2.den))) = ((C (e2.den)))))))))) ∧ (((pk C n p 2) ≠ 0) → (((sBX = (if pk C n p 2 = 0 then sAX else sBX)) ∧ (sBY = (if pk C n p 2 = 0 then sAY else sBY))) ∧ (((n = n) ∧ (((p + 1) = (p + 1)) ∧ ((0 ≤ (p + 1) ∧ (p + 1) ≤ 10000001) → (0 ≤ (p + 1) ∧ (p + 1) ≤ 9999991)))) ∧ ((n ≤ n) ∧ (∀ e3 : E, ((0 ≤ e3.den ∧ e3.den < n) → (((C (e3.den))) = ((C (e3.den))))))))))))) (by kernel_rfl) ?_
  intro h1 h2
  refine ⟨⟨⟨rfl, rfl⟩, ⟨Int.le_refl _, fun _ => fun _ => rfl⟩⟩, ?_, ?_⟩
  · intro c5
    refine ⟨?_, ?_, Int.le_refl _, fun _ => fun _ => rfl⟩
    · refine ⟨?_, ?_⟩
      · omega
      · omega
    · refine ⟨rfl, rfl, ?_⟩
      intro c6
      omega
  · intro c7
    refine ⟨?_, ?_, Int.le_refl _, fun _ => fun _ => rfl⟩
    · refine ⟨?_, ?_⟩
      · omega
      · omega
    · refine ⟨rfl, rfl, ?_⟩
      intro c8
      omega
def c_r_points (C : Int → Int) (n : Int) (p : Int) (sAX : Int) (sAY : Int) (sBX : Int) (sBY : Int) : Cn Try.prog := ⟨_, _, _, _, _, r_points C n p sAX sAY sBX sBY⟩
theorem s_twoSegments (C : Int → Int) (n : Int) : RunsTo Try.prog 72 [(.sl 0 1 (.lit 0) (.v fun _ => n) 9223372036854775807)] [some ⟨5, 1, false, (.sym (.v fun _ => n) fun e => [(.int .u8 (.v fun _ => (C (e.den))) 0 255)])⟩] (.tup [(.agg [(.int .i64 (.v fun _ => aAX C n) (-1001) 1001), (.int .i64 (.v fun _ => aAY C n) (-1001) 1001), (.int .i64 (.v fun _ => aBX C n) (-1001) 1001), (.int .i64 (.v fun _ => aBY C n) (-1001) 1001)]), (.agg [(.int .i64 (.v fun _ => bAX C n) (-3003) 3003), (.int .i64 (.v fun _ => bAY C n) (-3003) 3003), (.int .i64 (.v fun _ => bBX C n) (-3003) 3003), (.int .i64 (.v fun _ => bBY C n) (-3003) 3003)])]) [some ⟨5, 1, false, (.sym (.v fun _ => cut n) fun e => [(.int .u8 (.v fun _ => (C (e.den))) 0 255)])⟩] := by
  refine RunsTo.go env Try.func72 rfl Try.call72 rfl rfl (fun _ _ => (.call (c_s_newReader C n) (.call (c_anySegment C (cut n) 0) (.call (c_anySegment C (cut n) (sgP C (cut n) 0)) (.call (c_pick_5 C (cut n) (sgP C (cut n) (sgP C (cut n) 0))) (.ite .ret (.ite (.call (c_r_points C (cut n) ((sgP C (cut n) (sgP C (cut n) 0)) + 1) (apX C (cut n) 0) (apY C (cut n) 0) (sgX C (cut n) 0) (sgY C (cut n) 0)) .ret) .ret))))))) (G := (0 ≤ n ∧ n ≤ 9223372036854775807) → (∀ e9 : E, ((0 ≤ e9.den ∧ e9.den < n) → (0 ≤ ((C (e9.den))) ∧ ((C (e9.den))) ≤ 255))) → ((n = n) ∧ (((n ≤ n) ∧ (∀ e1 : E, ((0 ≤ e1.den ∧ e1.den < n) → (((C (e1.den))) = ((C (e1.den))))))) ∧ (((((cut n) = (cut n)) ∧ ((0 : Int) = 0)) ∧ (((cut n) ≤ (cut n)) ∧ (∀ e2 : E, ((0 ≤ e2.den ∧ e2.den < (cut n)) → (((C (e2.den))) = ((C (e2.den)))))))) ∧ (((((cut n) = (cut n)) ∧ (((sgP C (cut n) 0) = (sgP C (cut n) 0)) ∧ ((0 ≤ (sgP C (cut n) 0) ∧ (sgP C (cut n) 0) ≤ 9999720) → (0 ≤ (sgP C (cut n) 0) ∧ (sgP C (cut n) 0) ≤ 9999700)))) ∧ (((cut n) ≤ (cut n)) ∧ (∀ e3 : E, ((0 ≤ e3.den ∧ e3.den < (cut n)) → (((C (e3.den))) = ((C (e3.den)))))))) ∧ (((((cut n) = (cut n)) ∧ ((sgP C (cut n) (sgP C (cut n) 0)) = (sgP C (cut n) (sgP C (cut n) 0)))) ∧ (((cut n) ≤ (cut n)) ∧ (∀ e4 : E, ((0 ≤ e4.den ∧ e4.den < (cut n)) → (((C (e4.den))) = ((C (e4.den)))))))) ∧ ((((pk C (cut n) (sgP C (cut n) (sgP C (cut n) 0)) 5) = 0) → (((((apX C (cut n) 0) = (aAX C n)) ∧ (((apY C (cut n) 0) = (aAY C n)) ∧ (((sgX C (cut n) 0) = (aBX C n)) ∧ ((sgY C (cut n) 0) = (aBY C n))))) ∧ (((sgX C (cut n) 0) = (bAX C n)) ∧ (((sgY C (cut n) 0) = (bAY C n)) ∧ (((sgX C (cut n) (sgP C (cut n) 0)) = (bBX C n)) ∧ ((sgY C (cut n) (sgP C (cut n) 0)) = (bBY C n)))))) ∧ (((cut n) ≤ (cut n)) ∧ (∀ e5 : E, ((0 ≤ e5.den ∧ e5.den < (cut n)) → (((C (e5.den))) = ((C (e5.den))))))))) ∧ (((pk C (cut n) (sgP C (cut n) (sgP C (cut n) 0)) 5) ≠ 0) → ((((pk C (cut n) (sgP C (cut n) (sgP C (cut n) 0)) 5) = 1) → ((((apX C (cut n) 0) = (apX C (cut n) 0)) ∧ (((apY C (cut n) 0) = (apY C (cut n) 0)) ∧ (((sgX C (cut n) 0) = (sgX C (cut n) 0)) ∧ ((sgY C (cut n) 0) = (sgY C (cut n) 0))))) ∧ (((((cut n) = (cut n)) ∧ ((((sgP C (cut n) (sgP C (cut n) 0)) + 1) = (((sgP C (cut n) (sgP C (cut n) 0)) + 1))) ∧ ((0 ≤ ((sgP C (cut n) (sgP C (cut n) 0)) + 1) ∧ ((sgP C (cut n) (sgP C (cut n) 0)) + 1) ≤ 10000001) → (0 ≤ (((sgP C (cut n) (sgP C (cut n) 0)) + 1)) ∧ (((sgP C (cut n) (sgP C (cut n) 0)) + 1)) ≤ 9999990)))) ∧ (((cut n) ≤ (cut n)) ∧ (∀ e6 : E, ((0 ≤ e6.den ∧ e6.den < (cut n)) → (((C (e6.den))) = ((C (e6.den)))))))) ∧ (((((apX C (cut n) 0) = (aAX C n)) ∧ (((apY C (cut n) 0) = (aAY C n)) ∧ (((sgX C (cut n) 0) = (aBX C n)) ∧ ((sgY C (cut n) 0) = (aBY C n))))) ∧ ((((2 * (sgX C (cut n) 0)) - (apX C (cut n) 0)) = (bAX C n)) ∧ ((((2 * (sgY C (cut n) 0)) - (apY C (cut n) 0)) = (bAY C n)) ∧ (((if pk C (cut n) ((sgP C (cut n) (sgP C (cut n) 0)) + 1) 2 = 0 then (apX C (cut n) 0) else (sgX C (cut n) 0)) = (bBX C n)) ∧ ((if pk C (cut n) ((sgP C (cut n) (sgP C (cut n) 0)) + 1) 2 = 0 then (apY C (cut n) 0) else (sgY C (cut n) 0)) = (bBY C n)))))) ∧ (((cut n) ≤ (cut n)) ∧ (∀ e7 : E, ((0 ≤ e7.den ∧ e7.den < (cut n)) → (((C (e7.den))) = ((C (e7.den))))))))))) ∧ (((pk C (cut n) (sgP C (cut n) (sgP C (cut n) 0)) 5) ≠ 1) → (((((apX C (cut n) 0) = (aAX C n)) ∧ (((apY C (cut n) 0) = (aAY C n)) ∧ (((sgX C (cut n) 0) = (aBX C n)) ∧ ((sgY C (cut n) 0) = (aBY C n))))) ∧ (((apX C (cut n) (sgP C (cut n) 0)) = (bAX C n)) ∧ (((apY C (cut n) (sgP C (cut n) 0)) = (bAY C n)) ∧ (((sgX C (cut n) (sgP C (cut n) 0)) = (bBX C n)) ∧ ((sgY C (cut n) (sgP C (cut n) 0)) = (bBY C n)))))) ∧ (((cut n) ≤ (cut n)) ∧ (∀ e8 : E, ((0 ≤ e8.den ∧ e8.den < (cut n)) → (((C (e8.den))) = ((C (e8.den)))))))))))))))))) (by kernel_rfl) ?_
  intro h1 h2
  have ha := sgP_bd C (cut n) 0
  have hb := sgP_bd C (cut n) (sgP C (cut n) 0)
  refine ⟨rfl, ⟨Int.le_refl _, fun _ => fun _ => rfl⟩, ⟨⟨rfl, rfl⟩, ⟨Int.le_refl _, fun _ => fun _ => rfl⟩⟩, ?_, ⟨⟨rfl, rfl⟩, ⟨Int.le_refl _, fun _ => fun _ => rfl⟩⟩, ?_, ?_⟩
  · refine ⟨?_, Int.le_refl _, fun _ => fun _ => rfl⟩
    refine ⟨rfl, rfl, ?_⟩
    intro c10
    omega
  · intro c11
    refine ⟨?_, Int.le_refl _, fun _ => fun _ => rfl⟩
    refine ⟨?_, ?_, ?_, ?_, ?_⟩
    · refine ⟨?_, ?_, ?_, ?_⟩
      · rfl
      · rfl
      · rfl
      · rfl
    · simp_all [bAX, bAY, bBX, bBY, wk, w1, w0, aAX, aAY, aBX, aBY]; done
    · simp_all [bAX, bAY, bBX, bBY, wk, w1, w0, aAX, aAY, aBX, aBY]; done
    · simp_all [bAX, bAY, bBX, bBY, wk, w1, w0, aAX, aAY, aBX, aBY]; done
    · simp_all [bAX, bAY, bBX, bBY, wk, w1, w0, aAX, aAY, aBX, aBY]; done
  · intro c12
    refine ⟨?_, ?_⟩
    · intro c13
      refine ⟨⟨rfl, ⟨rfl, ⟨rfl, rfl⟩⟩⟩, ?_, ?_, Int.le_refl _, fun _ => fun _ => rfl⟩
      · refine ⟨?_, Int.le_refl _, fun _ => fun _ => rfl⟩
        refine ⟨rfl, rfl, ?_⟩
        intro c14
        omega
      · refine ⟨?_, ?_, ?_, ?_, ?_⟩
        · refine ⟨?_, ?_, ?_, ?_⟩
          · rfl
          · rfl
          · rfl
          · rfl
        · simp_all [bAX, bAY, bBX, bBY, wk, w1, w0, aAX, aAY, aBX, aBY]; done
        · simp_all [bAX, bAY, bBX, bBY, wk, w1, w0, aAX, aAY, aBX, aBY]; done
        · simp_all [bAX, bAY, bBX, bBY, wk, w1, w0, aAX, aAY, aBX, aBY]; omega
        · simp_all [bAX, bAY, bBX, bBY, wk, w1, w0, aAX, aAY, aBX, aBY]; omega
    · intro c15
      refine ⟨?_, Int.le_refl _, fun _ => fun _ => rfl⟩
      refine ⟨?_, ?_, ?_, ?_, ?_⟩
      · refine ⟨?_, ?_, ?_, ?_⟩
        · rfl
        · rfl
        · rfl
        · rfl
      · simp_all [bAX, bAY, bBX, bBY, wk, w1, w0, aAX, aAY, aBX, aBY]; done
      · simp_all [bAX, bAY, bBX, bBY, wk, w1, w0, aAX, aAY, aBX, aBY]; done
      · simp_all [bAX, bAY, bBX, bBY, wk, w1, w0, aAX, aAY, aBX, aBY]; done
      · simp_all [bAX, bAY, bBX, bBY, wk, w1, w0, aAX, aAY, aBX, aBY]; done
def c_s_twoSegments (C : Int → Int) (n : Int) : Cn Try.prog := ⟨_, _, _, _, _, s_twoSegments C n⟩
theorem s_DrawRelation (C : Int → Int) (n : Int) : RunsTo Try.prog 28 [(.sl 0 1 (.lit 0) (.v fun _ => n) 9223372036854775807)] [some ⟨5, 1, false, (.sym (.v fun _ => n) fun e => [(.int .u8 (.v fun _ => (C (e.den))) 0 255)])⟩] (.tup [(.agg [(.int .i64 (.v fun _ => aAX C n) (-1001) 1001), (.int .i64 (.v fun _ => aAY C n) (-1001) 1001), (.int .i64 (.v fun _ => aBX C n) (-1001) 1001), (.int .i64 (.v fun _ => aBY C n) (-1001) 1001)]), (.agg [(.int .i64 (.v fun _ => bAX C n) (-3003) 3003), (.int .i64 (.v fun _ => bAY C n) (-3003) 3003), (.int .i64 (.v fun _ => bBX C n) (-3003) 3003), (.int .i64 (.v fun _ => bBY C n) (-3003) 3003)])]) [some ⟨5, 1, false, (.sym (.v fun _ => cut n) fun e => [(.int .u8 (.v fun _ => (C (e.den))) 0 255)])⟩] := by
  refine RunsTo.go env Try.func28 rfl Try.call28 rfl rfl (fun _ _ => (.call (c_s_twoSegments C n) .ret)) (G := (0 ≤ n ∧ n ≤ 9223372036854775807) → (∀ e3 : E, ((0 ≤ e3.den ∧ e3.den < n) → (0 ≤ ((C (e3.den))) ∧ ((C (e3.den))) ≤ 255))) → ((n = n) ∧ (((n ≤ n) ∧ (∀ e1 : E, ((0 ≤ e1.den ∧ e1.den < n) → (((C (e1.den))) = ((C (e1.den))))))) ∧ (((((aAX C n) = (aAX C n)) ∧ (((aAY C n) = (aAY C n)) ∧ (((aBX C n) = (aBX C n)) ∧ ((aBY C n) = (aBY C n))))) ∧ (((bAX C n) = (bAX C n)) ∧ (((bAY C n) = (bAY C n)) ∧ (((bBX C n) = (bBX C n)) ∧ ((bBY C n) = (bBY C n)))))) ∧ (((cut n) ≤ (cut n)) ∧ (∀ e2 : E, ((0 ≤ e2.den ∧ e2.den < (cut n)) → (((C (e2.den))) = ((C (e2.den))))))))))) (by kernel_rfl) ?_
  intro h1 h2
  exact ⟨rfl, ⟨⟨Int.le_refl _, fun _ => fun _ => rfl⟩, ⟨⟨⟨rfl, ⟨rfl, ⟨rfl, rfl⟩⟩⟩, ⟨rfl, ⟨rfl, ⟨rfl, rfl⟩⟩⟩⟩, ⟨Int.le_refl _, fun _ => fun _ => rfl⟩⟩⟩⟩
def c_s_DrawRelation (C : Int → Int) (n : Int) : Cn Try.prog := ⟨_, _, _, _, _, s_DrawRelation C n⟩
theorem s_DrawMeetPoint (C : Int → Int) (n : Int) : RunsTo Try.prog 36 [(.sl 0 1 (.lit 0) (.v fun _ => n) 9223372036854775807)] [some ⟨5, 1, false, (.sym (.v fun _ => n) fun e => [(.int .u8 (.v fun _ => (C (e.den))) 0 255)])⟩] (.tup [(.agg [(.int .i64 (.v fun _ => aAX C n) (-1001) 1001), (.int .i64 (.v fun _ => aAY C n) (-1001) 1001), (.int .i64 (.v fun _ => aBX C n) (-1001) 1001), (.int .i64 (.v fun _ => aBY C n) (-1001) 1001)]), (.agg [(.int .i64 (.v fun _ => bAX C n) (-3003) 3003), (.int .i64 (.v fun _ => bAY C n) (-3003) 3003), (.int .i64 (.v fun _ => bBX C n) (-3003) 3003), (.int .i64 (.v fun _ => bBY C n) (-3003) 3003)])]) [some ⟨5, 1, false, (.sym (.v fun _ => cut n) fun e => [(.int .u8 (.v fun _ => (C (e.den))) 0 255)])⟩] := by
  refine RunsTo.go env Try.func36 rfl Try.call36 rfl rfl (fun _ _ => (.call (c_s_twoSegments C n) .ret)) (G := (0 ≤ n ∧ n ≤ 9223372036854775807) → (∀ e3 : E, ((0 ≤ e3.den ∧ e3.den < n) → (0 ≤ ((C (e3.den))) ∧ ((C (e3.den))) ≤ 255))) → ((n = n) ∧ (((n ≤ n) ∧ (∀ e1 : E, ((0 ≤ e1.den ∧ e1.den < n) → (((C (e1.den))) = ((C (e1.den))))))) ∧ (((((aAX C n) = (aAX C n)) ∧ (((aAY C n) = (aAY C n)) ∧ (((aBX C n) = (aBX C n)) ∧ ((aBY C n) = (aBY C n))))) ∧ (((bAX C n) = (bAX C n)) ∧ (((bAY C n) = (bAY C n)) ∧ (((bBX C n) = (bBX C n)) ∧ ((bBY C n) = (bBY C n)))))) ∧ (((cut n) ≤ (cut n)) ∧ (∀ e2 : E, ((0 ≤ e2.den ∧ e2.den < (cut n)) → (((C (e2.den))) = ((C (e2.den))))))))))) (by kernel_rfl) ?_
  intro h1 h2
  exact ⟨rfl, ⟨⟨Int.le_refl _, fun _ => fun _ => rfl⟩, ⟨⟨⟨rfl, ⟨rfl, ⟨rfl, rfl⟩⟩⟩, ⟨rfl, ⟨rfl, ⟨rfl, rfl⟩⟩⟩⟩, ⟨Int.le_refl _, fun _ => fun _ => rfl⟩⟩⟩⟩
def c_s_DrawMeetPoint (C : Int → Int) (n : Int) : Cn Try.prog := ⟨_, _, _, _, _, s_DrawMeetPoint C n⟩
theorem i_wOnSegment (sAX : Int) (sAY : Int) (sBX : Int) (sBY : Int) (pX : Int) (pY : Int) : RunsTo Try.prog 29 [(.agg [(.int .i64 (.v fun _ => sAX) (-9223372036854775808) 9223372036854775807), (.int .i64 (.v fun _ => sAY) (-9223372036854775808) 9223372036854775807), (.int .i64 (.v fun _ => sBX) (-9223372036854775808) 9223372036854775807), (.int .i64 (.v fun _ => sBY) (-9223372036854775808) 9223372036854775807)]), (.agg [(.int .i64 (.v fun _ => pX) (-9223372036854775808) 9223372036854775807), (.int .i64 (.v fun _ => pY) (-9223372036854775808) 9223372036854775807)])] [] (.bool (.v fun _ => onSeg sAX sAY sBX sBY pX pY)) [] := by
  refine RunsTo.go env Try.func29 rfl Try.call29 rfl rfl (fun _ _ => (.call (c_i_wSvalid sAX sAY sBX sBY) (.ite (.call (c_i_valid pX pY) (.ite (.call (c_i_has sAX sAY sBX sBY pX pY) .ret) .ret)) .ret))) (G := ((((-9223372036854775808) ≤ sAX ∧ sAX ≤ 9223372036854775807) ∧ (((-9223372036854775808) ≤ sAY ∧ sAY ≤ 9223372036854775807) ∧ (((-9223372036854775808) ≤ sBX ∧ sBX ≤ 9223372036854775807) ∧ ((-9223372036854775808) ≤ sBY ∧ sBY ≤ 9223372036854775807)))) ∧ (((-9223372036854775808) ≤ pX ∧ pX ≤ 9223372036854775807) ∧ ((-9223372036854775808) ≤ pY ∧ pY ≤ 9223372036854775807))) → (True) → (((sAX = sAX) ∧ ((sAY = sAY) ∧ ((sBX = sBX) ∧ (sBY = sBY)))) ∧ ((((okS sAX sAY sBX sBY) = true) → (((pX = pX) ∧ (pY = pY)) ∧ ((((okP pX pY) = true) → (((((sAX = sAX) ∧ (((-9223372036854775808) ≤ sAX ∧ sAX ≤ 9223372036854775807) → ((-2002) ≤ sAX ∧ sAX ≤ 2002))) ∧ (((sAY = sAY) ∧ (((-9223372036854775808) ≤ sAY ∧ sAY ≤ 9223372036854775807) → ((-2002) ≤ sAY ∧ sAY ≤ 2002))) ∧ (((sBX = sBX) ∧ (((-9223372036854775808) ≤ sBX ∧ sBX ≤ 9223372036854775807) → ((-2002) ≤ sBX ∧ sBX ≤ 2002))) ∧ ((sBY = sBY) ∧ (((-9223372036854775808) ≤ sBY ∧ sBY ≤ 9223372036854775807) → ((-2002) ≤ sBY ∧ sBY ≤ 2002)))))) ∧ (((pX = pX) ∧ (((-9223372036854775808) ≤ pX ∧ pX ≤ 9223372036854775807) → ((-2002) ≤ pX ∧ pX ≤ 2002))) ∧ ((pY = pY) ∧ (((-9223372036854775808) ≤ pY ∧ pY ≤ 9223372036854775807) → ((-2002) ≤ pY ∧ pY ≤ 2002))))) ∧ (((onB sAX sAY sBX sBY pX pY) = true) ↔ ((onSeg sAX sAY sBX sBY pX pY) = true)))) ∧ (((okP pX pY) = false) → ((onSeg sAX sAY sBX sBY pX pY) = false))))) ∧ (((okS sAX sAY sBX sBY) = false) → ((onSeg sAX sAY sBX sBY pX pY) = false))))) (by kernel_rfl) ?_
  intro h1 h2
  refine ⟨⟨rfl, ⟨rfl, ⟨rfl, rfl⟩⟩⟩, ?_, ?_⟩
  · intro c1
    refine ⟨⟨rfl, rfl⟩, ?_, ?_⟩
    · intro c2
      refine ⟨?_, ?_⟩
      · refine ⟨?_, ?_, rfl, ?_⟩
        · refine ⟨?_, ?_, ?_, rfl, ?_⟩
          · refine ⟨rfl, ?_⟩
            intro c3
            have ho := okS_ne (ax := sAX) (ay := sAY) (bx := sBX) (bY := sBY) (by assumption); omega
          · refine ⟨rfl, ?_⟩
            intro c4
            have ho := okS_ne (ax := sAX) (ay := sAY) (bx := sBX) (bY := sBY) (by assumption); omega
          · refine ⟨rfl, ?_⟩
            intro c5
            have ho := okS_ne (ax := sAX) (ay := sAY) (bx := sBX) (bY := sBY) (by assumption); omega
          · intro c6
            have ho := okS_ne (ax := sAX) (ay := sAY) (bx := sBX) (bY := sBY) (by assumption); omega
        · refine ⟨rfl, ?_⟩
          intro c7
          have hq := okP_iff.1 (show okP pX pY = true by assumption); omega
        · intro c8
          have hq := okP_iff.1 (show okP pX pY = true by assumption); omega
      · simp_all [onSeg]; done
    · intro c9
      simp_all [onSeg]; done
  · intro c10
    simp_all [onSeg]; done
def c_i_wOnSegment (sAX : Int) (sAY : Int) (sBX : Int) (sBY : Int) (pX : Int) (pY : Int) : Cn Try.prog := ⟨_, _, _, _, _, i_wOnSegment sAX sAY sBX sBY pX pY⟩
end Go.Proofs.Ytoielngedkbmbaa
