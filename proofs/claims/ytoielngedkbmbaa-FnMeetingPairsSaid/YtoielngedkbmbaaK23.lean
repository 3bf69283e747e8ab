/- Lists of segments, pairs of indices, drawings. -/
import Derived.Test.YtoielngedkbmbaaK19
import Derived.Test.YtoielngedkbmbaaK21
set_option linter.unusedSimpArgs false
set_option linter.unusedVariables false
set_option maxRecDepth 100000
namespace Go.Proofs.Ytoielngedkbmbaa
open Go.Sym
def sgB (P Q R S : Int → Int) (n : Int) : Bool := decide (n ≤ 12) && allB (fun i => okS (P i) (Q i) (R i) (S i)) n
/-- All pairs of indices before (j, k). -/
def prsL (n j k : Int) : List (Int × Int) := ((List.range j.toNat).flatMap fun (a : Nat) => (List.range (n.toNat - a - 1)).map fun (i : Nat) => ((a : Int), (a : Int) + 1 + (i : Int))) ++ (List.range (k - j - 1).toNat).map fun (i : Nat) => (j, j + 1 + (i : Int))
def lenP (l : List (Int × Int)) : Int := (l.length : Nat)
def sA (l : List (Int × Int)) (i : Int) : Int := (l.getD i.toNat (0, 0)).1
def sB (l : List (Int × Int)) (i : Int) : Int := (l.getD i.toNat (0, 0)).2
theorem prsL_0 (n : Int) : prsL n 0 (0 + 1) = [] := rfl
theorem prsL_in {n j k : Int} (h : j + 1 ≤ k) : prsL n j (k + 1) = prsL n j k ++ [(j, k)] := by
  unfold prsL
  rw [show (k + 1 - j - 1).toNat = (k - j - 1).toNat + 1 by omega, List.range_succ, List.map_append, ← List.append_assoc]
  simp only [List.map_cons, List.map_nil]
  rw [show j + 1 + (((k - j - 1).toNat : Nat) : Int) = k by omega]
theorem prsL_out {n j : Int} (h0 : 0 ≤ j) (h1 : j < n) : prsL n (j + 1) (j + 1 + 1) = prsL n j n := by
  unfold prsL
  rw [show (j + 1 + 1 - (j + 1) - 1).toNat = 0 by omega, show (j + 1).toNat = j.toNat + 1 by omega, List.range_succ, List.flatMap_append]
  simp only [List.range_zero, List.map_nil, List.append_nil, List.flatMap_cons, List.flatMap_nil]
  rw [show n.toNat - j.toNat - 1 = (n - j - 1).toNat by omega, show ((j.toNat : Nat) : Int) = j by omega]
theorem prsL_mem {n x y : Int} (h : 0 ≤ n) : (x, y) ∈ prsL n n (n + 1) ↔ 0 ≤ x ∧ x < y ∧ y < n := by
  unfold prsL
  rw [show (n + 1 - n - 1).toNat = 0 by omega]
  simp only [List.range_zero, List.map_nil, List.append_nil, List.mem_flatMap, List.mem_range, List.mem_map, Prod.mk.injEq]
  constructor
  · rintro ⟨a, ha, i, hi, rfl, rfl⟩; omega
  · rintro ⟨h1, h2, h3⟩
    exact ⟨x.toNat, by omega, (y - x - 1).toNat, by omega, by omega, by omega⟩
theorem lenP_snoc (l : List (Int × Int)) (x : Int × Int) : lenP (l ++ [x]) = lenP l + 1 := by unfold lenP; simp
theorem lenP_nn (l : List (Int × Int)) : 0 ≤ lenP l := by unfold lenP; omega
theorem s_old {l : List (Int × Int)} {x : Int × Int} {i : Int} (h : 0 ≤ i) (h1 : i < lenP l) : sA (l ++ [x]) i = sA l i ∧ sB (l ++ [x]) i = sB l i := by
  unfold sA sB lenP at *
  rw [List.getD_eq_getElem?_getD, List.getD_eq_getElem?_getD, List.getElem?_append_left (by omega)]
  exact ⟨rfl, rfl⟩
theorem s_new {l : List (Int × Int)} {x : Int × Int} {i : Int} (h1 : i = lenP l) : sA (l ++ [x]) i = x.1 ∧ sB (l ++ [x]) i = x.2 := by
  unfold sA sB lenP at *
  rw [List.getD_eq_getElem?_getD, List.getElem?_append_right (by omega)]
  simp [show i.toNat - l.length = 0 by omega]
theorem s_mem {l : List (Int × Int)} {i : Int} (h0 : 0 ≤ i) (h1 : i < lenP l) : (sA l i, sB l i) ∈ l := by
  unfold sA sB lenP at *
  rw [List.getD_eq_getElem?_getD, List.getElem?_eq_getElem (by omega)]
  exact List.getElem_mem _
theorem s_idx {l : List (Int × Int)} {x y : Int} (h : (x, y) ∈ l) : ∃ i, 0 ≤ i ∧ i < lenP l ∧ sA l i = x ∧ sB l i = y := by
  obtain ⟨i, hi, e⟩ := List.mem_iff_getElem.1 h
  refine ⟨(i : Nat), by omega, by unfold lenP; omega, ?_, ?_⟩
  · unfold sA; rw [Int.toNat_natCast, List.getD_eq_getElem?_getD, List.getElem?_eq_getElem hi, e]; rfl
  · unfold sB; rw [Int.toNat_natCast, List.getD_eq_getElem?_getD, List.getElem?_eq_getElem hi, e]; rfl
/-- Two segments meet in an end of both at most. -/
def gdI (sAX sAY sBX sBY tAX tAY tBX tBY : Int) : Bool := if cmN sAX sAY sBX sBY tAX tAY tBX tBY = 0 then decide (relI sAX sAY sBX sBY tAX tAY tBX tBY = 0) else if cmN sAX sAY sBX sBY tAX tAY tBX tBY = 1 then isE sAX sAY sBX sBY (p4X sAX sBX tAX tBX (cm0 sAX sAY sBX sBY tAX tAY tBX tBY)) (p4X sAY sBY tAY tBY (cm0 sAX sAY sBX sBY tAX tAY tBX tBY)) && isE tAX tAY tBX tBY (p4X sAX sBX tAX tBX (cm0 sAX sAY sBX sBY tAX tAY tBX tBY)) (p4X sAY sBY tAY tBY (cm0 sAX sAY sBX sBY tAX tAY tBX tBY)) else false
def gdL (P Q R S : Int → Int) (a b : Int) : Bool := gdI (P a) (Q a) (R a) (S a) (P b) (Q b) (R b) (S b)
def gdA (P Q R S : Int → Int) (n : Int) : Bool := allB (fun i => allB (fun k => decide (k ≤ i) || gdL P Q R S i k) n) n
def rwB (P Q R S : Int → Int) (n i : Int) : Bool := allB (fun k => decide (k ≤ i) || gdL P Q R S i k) n
def dwB (P Q R S : Int → Int) (n : Int) : Bool := sgB P Q R S n && gdA P Q R S n
theorem gdA_pairs {P Q R S : Int → Int} {n : Int} (hn : 0 ≤ n) : allB (fun i => gdL P Q R S (sA (prsL n n (n + 1)) i) (sB (prsL n n (n + 1)) i)) (lenP (prsL n n (n + 1))) = gdA P Q R S n := by
  rw [Bool.eq_iff_iff]
  unfold gdA
  rw [allB_iff, allB_iff]
  constructor
  · intro h i h0 h1
    rw [allB_iff]
    intro k k0 k1
    by_cases hk : k ≤ i
    · rw [decide_eq_true hk]; rfl
    · obtain ⟨q, q0, q1, qa, qb⟩ := s_idx ((prsL_mem (x := i) (y := k) hn).2 ⟨h0, by omega, k1⟩)
      have := h q q0 q1
      rw [qa, qb] at this
      rw [this]; simp
  · intro h i h0 h1
    have hm := (prsL_mem hn).1 (s_mem h0 h1)
    have := allB_iff.1 (h (sA (prsL n n (n + 1)) i) (by omega) (by omega)) (sB (prsL n n (n + 1)) i) (by omega) (by omega)
    rw [decide_eq_false (by omega), Bool.false_or] at this
    exact this
theorem sgB_ok {P Q R S : Int → Int} {n : Int} (h : sgB P Q R S n = true) : n ≤ 12 ∧ ∀ i, 0 ≤ i → i < n → okS (P i) (Q i) (R i) (S i) = true ∧ (-1000 ≤ P i ∧ P i ≤ 1000) ∧ (-1000 ≤ Q i ∧ Q i ≤ 1000) ∧ (-1000 ≤ R i ∧ R i ≤ 1000) ∧ (-1000 ≤ S i ∧ S i ≤ 1000) := by
  simp only [sgB, Bool.and_eq_true, decide_eq_true_eq] at h
  refine ⟨h.1, fun i h0 h1 => ?_⟩
  have h2 := allB_iff.1 h.2 i h0 h1
  have h3 := okS_ne h2
  exact ⟨h2, by omega, by omega, by omega, by omega⟩
theorem i_segmentsOk1 (sAX : Int) (sAY : Int) (sBX : Int) (sBY : Int) : RunsTo Try.prog 147 [(.agg [(.int .i64 (.v fun _ => sAX) (-9223372036854775808) 9223372036854775807), (.int .i64 (.v fun _ => sAY) (-9223372036854775808) 9223372036854775807), (.int .i64 (.v fun _ => sBX) (-9223372036854775808) 9223372036854775807), (.int .i64 (.v fun _ => sBY) (-9223372036854775808) 9223372036854775807)])] [] (.bool (.v fun _ => !(okS sAX sAY sBX sBY))) [] := by
  refine RunsTo.go env Try.func147 rfl Try.call147 rfl rfl (fun _ _ => (.call (c_i_wSvalid sAX sAY sBX sBY) .ret)) (G := (((-9223372036854775808) ≤ sAX ∧ sAX ≤ 9223372036854775807) ∧ (((-9223372036854775808) ≤ sAY ∧ sAY ≤ 9223372036854775807) ∧ (((-9223372036854775808) ≤ sBX ∧ sBX ≤ 9223372036854775807) ∧ ((-9223372036854775808) ≤ sBY ∧ sBY ≤ 9223372036854775807)))) → (True) → (((sAX = sAX) ∧ ((sAY = sAY) ∧ ((sBX = sBX) ∧ (sBY = sBY)))) ∧ (((okS sAX sAY sBX sBY) = false) ↔ ((!(okS sAX sAY sBX sBY)) = true)))) (by kernel_rfl) ?_
  intro h1 h2
  refine ⟨⟨rfl, ⟨rfl, ⟨rfl, rfl⟩⟩⟩, ?_⟩
  simp; done
def c_i_segmentsOk1 (sAX : Int) (sAY : Int) (sBX : Int) (sBY : Int) : Cn Try.prog := ⟨_, _, _, _, _, i_segmentsOk1 sAX sAY sBX sBY⟩
theorem IndexFunc_s (P : Int → Int) (Q : Int → Int) (R : Int → Int) (S : Int → Int) (n : Int) : RunsTo Try.prog 157 [(.sl 0 4 (.lit 0) (.v fun _ => n) 1048576), (.fn 147 [])] [some ⟨45, 4, true, (.sym (.v fun _ => n) fun e => [(.int .i64 (.v fun _ => (P (e.den))) (-9223372036854775808) 9223372036854775807), (.int .i64 (.v fun _ => (Q (e.den))) (-9223372036854775808) 9223372036854775807), (.int .i64 (.v fun _ => (R (e.den))) (-9223372036854775808) 9223372036854775807), (.int .i64 (.v fun _ => (S (e.den))) (-9223372036854775808) 9223372036854775807)])⟩] (.int .i64 (.v fun _ => fidx (fun i => !(okS (P (i)) (Q (i)) (R (i)) (S (i)))) n) (-1) 1048576) [some ⟨45, 4, true, (.sym (.v fun _ => n) fun e => [(.int .i64 (.v fun _ => (P (e.den))) (-9223372036854775808) 9223372036854775807), (.int .i64 (.v fun _ => (Q (e.den))) (-9223372036854775808) 9223372036854775807), (.int .i64 (.v fun _ => (R (e.den))) (-9223372036854775808) 9223372036854775807), (.int .i64 (.v fun _ => (S (e.den))) (-9223372036854775808) 9223372036854775807)])⟩] := by
  refine RunsTo.go env Try.func157 rfl Try.call157 rfl rfl (fun _ _ => (.loop [] [0] (Int) (fun x1 => ⟨spl 19 0 [(0, (.sl 0 4 (.lit 0) (.v fun _ => n) 1048576)), (1, (.fn 147 [])), (7, (.int .i64 (.v fun _ => n) 0 1048576)), (8, (.int .i64 (.v fun _ => x1) 0 1048576))], [some ⟨45, 4, true, (.sym (.v fun _ => n) fun e => [(.int .i64 (.v fun _ => (P (e.den))) (-9223372036854775808) 9223372036854775807), (.int .i64 (.v fun _ => (Q (e.den))) (-9223372036854775808) 9223372036854775807), (.int .i64 (.v fun _ => (R (e.den))) (-9223372036854775808) 9223372036854775807), (.int .i64 (.v fun _ => (S (e.den))) (-9223372036854775808) 9223372036854775807)])⟩], 1⟩) (fun x1 => (0 ≤ x1 ∧ x1 ≤ n) ∧ ∀ i, 0 ≤ i → i < x1 → (!(okS (P (i)) (Q (i)) (R (i)) (S (i)))) = false) (fun x1 => (n - x1).toNat) fun x1 => (.ite (.need (.need (.call (c_i_segmentsOk1 ((P (x1))) ((Q (x1))) ((R (x1))) ((S (x1)))) (.ite (.out .ret) (.next [0]))))) (.out .ret)))) (G := (0 ≤ n ∧ n ≤ 1048576) → (∀ e8 : E, ((0 ≤ e8.den ∧ e8.den < n) → (((-9223372036854775808) ≤ ((P (e8.den))) ∧ ((P (e8.den))) ≤ 9223372036854775807) ∧ (((-9223372036854775808) ≤ ((Q (e8.den))) ∧ ((Q (e8.den))) ≤ 9223372036854775807) ∧ (((-9223372036854775808) ≤ ((R (e8.den))) ∧ ((R (e8.den))) ≤ 9223372036854775807) ∧ ((-9223372036854775808) ≤ ((S (e8.den))) ∧ ((S (e8.den))) ≤ 9223372036854775807)))))) → ((∃ y2 : Int, (((0 ≤ y2 ∧ y2 ≤ n) ∧ ∀ i, 0 ≤ i → i < y2 → (!(okS (P (i)) (Q (i)) (R (i)) (S (i)))) = false) ∧ (((n = n) ∧ ((n = n) ∧ ((0 : Int) = y2))) ∧ ((n ≤ n) ∧ (∀ e3 : E, ((0 ≤ e3.den ∧ e3.den < n) → ((((P (e3.den))) = ((P (e3.den)))) ∧ ((((Q (e3.den))) = ((Q (e3.den)))) ∧ ((((R (e3.den))) = ((R (e3.den)))) ∧ (((S (e3.den))) = ((S (e3.den))))))))))))) ∧ (∀ x1 : Int, (((0 ≤ x1 ∧ x1 ≤ n) ∧ ∀ i, 0 ≤ i → i < x1 → (!(okS (P (i)) (Q (i)) (R (i)) (S (i)))) = false) → (((x1 < n) → ((((0 ≤ x1) ∧ (x1 < n))) ∧ ((x1 < n) ∧ (((((P (x1))) = ((P (x1)))) ∧ ((((Q (x1))) = ((Q (x1)))) ∧ ((((R (x1))) = ((R (x1)))) ∧ (((S (x1))) = ((S (x1))))))) ∧ ((((!(okS ((P (x1))) ((Q (x1))) ((R (x1))) ((S (x1))))) = true) → ((x1 = (fidx (fun i => !(okS (P (i)) (Q (i)) (R (i)) (S (i)))) n)) ∧ ((n ≤ n) ∧ (∀ e4 : E, ((0 ≤ e4.den ∧ e4.den < n) → ((((P (e4.den))) = ((P (e4.den)))) ∧ ((((Q (e4.den))) = ((Q (e4.den)))) ∧ ((((R (e4.den))) = ((R (e4.den)))) ∧ (((S (e4.den))) = ((S (e4.den)))))))))))) ∧ (((!(okS ((P (x1))) ((Q (x1))) ((R (x1))) ((S (x1))))) = false) → (∃ y5 : Int, (((0 ≤ y5 ∧ y5 ≤ n) ∧ ∀ i, 0 ≤ i → i < y5 → (!(okS (P (i)) (Q (i)) (R (i)) (S (i)))) = false) ∧ ((((n = n) ∧ ((n = n) ∧ (((x1 + 1) = y5) ∧ ((1 ≤ (x1 + 1) ∧ (x1 + 1) ≤ 1048577) → (0 ≤ y5 ∧ y5 ≤ 1048576))))) ∧ ((n ≤ n) ∧ (∀ e6 : E, ((0 ≤ e6.den ∧ e6.den < n) → ((((P (e6.den))) = ((P (e6.den)))) ∧ ((((Q (e6.den))) = ((Q (e6.den)))) ∧ ((((R (e6.den))) = ((R (e6.den)))) ∧ (((S (e6.den))) = ((S (e6.den))))))))))) ∧ ((n - y5).toNat < (n - x1).toNat)))))))))) ∧ ((n ≤ x1) → ((((-1) : Int) = (fidx (fun i => !(okS (P (i)) (Q (i)) (R (i)) (S (i)))) n)) ∧ ((n ≤ n) ∧ (∀ e7 : E, ((0 ≤ e7.den ∧ e7.den < n) → ((((P (e7.den))) = ((P (e7.den)))) ∧ ((((Q (e7.den))) = ((Q (e7.den)))) ∧ ((((R (e7.den))) = ((R (e7.den)))) ∧ (((S (e7.den))) = ((S (e7.den))))))))))))))))) (by kernel_rfl) ?_
  intro h1 h2
  have hb := fidx_bd (fun i => !(okS (P (i)) (Q (i)) (R (i)) (S (i)))) h1.1
  refine ⟨?_, ?_⟩
  · refine ⟨0, ?_⟩
    try dsimp only
    refine ⟨?_, ?_, Int.le_refl _, fun _ => fun _ => ⟨rfl, ⟨rfl, ⟨rfl, rfl⟩⟩⟩⟩
    · exact ⟨by omega, fun i a b => by omega⟩
    · refine ⟨rfl, rfl, ?_⟩
      rfl
  · intro j
    intro I1
    refine ⟨?_, ?_⟩
    · intro c9
      refine ⟨?_, ?_, ⟨rfl, ⟨rfl, ⟨rfl, rfl⟩⟩⟩, ?_, ?_⟩
      · omega
      · omega
      · intro c10
        refine ⟨?_, Int.le_refl _, fun _ => fun _ => ⟨rfl, ⟨rfl, ⟨rfl, rfl⟩⟩⟩⟩
        exact (fidx_found I1.1.1 (by omega) (by assumption) I1.2).symm
      · intro c11
        refine ⟨j + 1, ?_⟩
        try dsimp only
        refine ⟨?_, ?_, ?_⟩
        · refine ⟨by omega, fun i a b => ?_⟩; by_cases e : i = j; (subst e; assumption); exact I1.2 i a (by omega)
        · refine ⟨?_, Int.le_refl _, fun _ => fun _ => ⟨rfl, ⟨rfl, ⟨rfl, rfl⟩⟩⟩⟩
          refine ⟨rfl, rfl, ?_, ?_⟩
          · rfl
          · intro c12
            omega
        · omega
    · intro c13
      refine ⟨?_, Int.le_refl _, fun _ => fun _ => ⟨rfl, ⟨rfl, ⟨rfl, rfl⟩⟩⟩⟩
      exact (fidx_none fun i a b => I1.2 i a (by omega)).symm
def c_IndexFunc_s (P : Int → Int) (Q : Int → Int) (R : Int → Int) (S : Int → Int) (n : Int) : Cn Try.prog := ⟨_, _, _, _, _, IndexFunc_s P Q R S n⟩
theorem ContainsFunc_s (P : Int → Int) (Q : Int → Int) (R : Int → Int) (S : Int → Int) (n : Int) : RunsTo Try.prog 146 [(.sl 0 4 (.lit 0) (.v fun _ => n) 1048576), (.fn 147 [])] [some ⟨45, 4, true, (.sym (.v fun _ => n) fun e => [(.int .i64 (.v fun _ => (P (e.den))) (-9223372036854775808) 9223372036854775807), (.int .i64 (.v fun _ => (Q (e.den))) (-9223372036854775808) 9223372036854775807), (.int .i64 (.v fun _ => (R (e.den))) (-9223372036854775808) 9223372036854775807), (.int .i64 (.v fun _ => (S (e.den))) (-9223372036854775808) 9223372036854775807)])⟩] (.bool (.v fun _ => decide (0 ≤ fidx (fun i => !(okS (P (i)) (Q (i)) (R (i)) (S (i)))) n))) [some ⟨45, 4, true, (.sym (.v fun _ => n) fun e => [(.int .i64 (.v fun _ => (P (e.den))) (-9223372036854775808) 9223372036854775807), (.int .i64 (.v fun _ => (Q (e.den))) (-9223372036854775808) 9223372036854775807), (.int .i64 (.v fun _ => (R (e.den))) (-9223372036854775808) 9223372036854775807), (.int .i64 (.v fun _ => (S (e.den))) (-9223372036854775808) 9223372036854775807)])⟩] := by
  refine RunsTo.go env Try.func146 rfl Try.call146 rfl rfl (fun _ _ => (.call (c_IndexFunc_s P Q R S n) .ret)) (G := (0 ≤ n ∧ n ≤ 1048576) → (∀ e3 : E, ((0 ≤ e3.den ∧ e3.den < n) → (((-9223372036854775808) ≤ ((P (e3.den))) ∧ ((P (e3.den))) ≤ 9223372036854775807) ∧ (((-9223372036854775808) ≤ ((Q (e3.den))) ∧ ((Q (e3.den))) ≤ 9223372036854775807) ∧ (((-9223372036854775808) ≤ ((R (e3.den))) ∧ ((R (e3.den))) ≤ 9223372036854775807) ∧ ((-9223372036854775808) ≤ ((S (e3.den))) ∧ ((S (e3.den))) ≤ 9223372036854775807)))))) → ((n = n) ∧ (((n ≤ n) ∧ (∀ e1 : E, ((0 ≤ e1.den ∧ e1.den < n) → ((((P (e1.den))) = ((P (e1.den)))) ∧ ((((Q (e1.den))) = ((Q (e1.den)))) ∧ ((((R (e1.den))) = ((R (e1.den)))) ∧ (((S (e1.den))) = ((S (e1.den)))))))))) ∧ (((0 ≤ (fidx (fun i => !(okS ((P (i))) ((Q (i))) ((R (i))) ((S (i))))) n)) ↔ ((decide (0 ≤ fidx (fun i => !(okS (P (i)) (Q (i)) (R (i)) (S (i)))) n)) = true)) ∧ ((n ≤ n) ∧ (∀ e2 : E, ((0 ≤ e2.den ∧ e2.den < n) → ((((P (e2.den))) = ((P (e2.den)))) ∧ ((((Q (e2.den))) = ((Q (e2.den)))) ∧ ((((R (e2.den))) = ((R (e2.den)))) ∧ (((S (e2.den))) = ((S (e2.den)))))))))))))) (by kernel_rfl) ?_
  intro h1 h2
  refine ⟨rfl, ⟨Int.le_refl _, fun _ => fun _ => ⟨rfl, ⟨rfl, ⟨rfl, rfl⟩⟩⟩⟩, ?_, Int.le_refl _, fun _ => fun _ => ⟨rfl, ⟨rfl, ⟨rfl, rfl⟩⟩⟩⟩
  -- 1: (0 ≤ (fidx (fun i => !(okS ((P (i))) ((Q (i))) ((R (i))) ((S (i))))) n)) ↔ ((decide (0 ≤ fidx (fun i
  simp
def c_ContainsFunc_s (P : Int → Int) (Q : Int → Int) (R : Int → Int) (S : Int → Int) (n : Int) : Cn Try.prog := ⟨_, _, _, _, _, ContainsFunc_s P Q R S n⟩
theorem i_segmentsOk (P : Int → Int) (Q : Int → Int) (R : Int → Int) (S : Int → Int) (n : Int) : RunsTo Try.prog 101 [(.sl 0 4 (.lit 0) (.v fun _ => n) 1048576)] [some ⟨45, 4, true, (.sym (.v fun _ => n) fun e => [(.int .i64 (.v fun _ => (P (e.den))) (-9223372036854775808) 9223372036854775807), (.int .i64 (.v fun _ => (Q (e.den))) (-9223372036854775808) 9223372036854775807), (.int .i64 (.v fun _ => (R (e.den))) (-9223372036854775808) 9223372036854775807), (.int .i64 (.v fun _ => (S (e.den))) (-9223372036854775808) 9223372036854775807)])⟩] (.bool (.v fun _ => sgB P Q R S n)) [some ⟨45, 4, true, (.sym (.v fun _ => n) fun e => [(.int .i64 (.v fun _ => (P (e.den))) (-9223372036854775808) 9223372036854775807), (.int .i64 (.v fun _ => (Q (e.den))) (-9223372036854775808) 9223372036854775807), (.int .i64 (.v fun _ => (R (e.den))) (-9223372036854775808) 9223372036854775807), (.int .i64 (.v fun _ => (S (e.den))) (-9223372036854775808) 9223372036854775807)])⟩] := by
  refine RunsTo.go env Try.func101 rfl Try.call101 rfl rfl (fun _ _ => (.ite (.call (c_ContainsFunc_s P Q R S n) .ret) .ret)) (G := (0 ≤ n ∧ n ≤ 1048576) → (∀ e4 : E, ((0 ≤ e4.den ∧ e4.den < n) → (((-9223372036854775808) ≤ ((P (e4.den))) ∧ ((P (e4.den))) ≤ 9223372036854775807) ∧ (((-9223372036854775808) ≤ ((Q (e4.den))) ∧ ((Q (e4.den))) ≤ 9223372036854775807) ∧ (((-9223372036854775808) ≤ ((R (e4.den))) ∧ ((R (e4.den))) ≤ 9223372036854775807) ∧ ((-9223372036854775808) ≤ ((S (e4.den))) ∧ ((S (e4.den))) ≤ 9223372036854775807)))))) → (((n ≤ 12) → ((n = n) ∧ (((n ≤ n) ∧ (∀ e1 : E, ((0 ≤ e1.den ∧ e1.den < n) → ((((P (e1.den))) = ((P (e1.den)))) ∧ ((((Q (e1.den))) = ((Q (e1.den)))) ∧ ((((R (e1.den))) = ((R (e1.den)))) ∧ (((S (e1.den))) = ((S (e1.den)))))))))) ∧ ((((decide (0 ≤ fidx (fun i => !(okS ((P (i))) ((Q (i))) ((R (i))) ((S (i))))) n)) = false) ↔ ((sgB P Q R S n) = true)) ∧ ((n ≤ n) ∧ (∀ e2 : E, ((0 ≤ e2.den ∧ e2.den < n) → ((((P (e2.den))) = ((P (e2.den)))) ∧ ((((Q (e2.den))) = ((Q (e2.den)))) ∧ ((((R (e2.den))) = ((R (e2.den)))) ∧ (((S (e2.den))) = ((S (e2.den)))))))))))))) ∧ ((12 < n) → (((sgB P Q R S n) = false) ∧ ((n ≤ n) ∧ (∀ e3 : E, ((0 ≤ e3.den ∧ e3.den < n) → ((((P (e3.den))) = ((P (e3.den)))) ∧ ((((Q (e3.den))) = ((Q (e3.den)))) ∧ ((((R (e3.den))) = ((R (e3.den)))) ∧ (((S (e3.den))) = ((S (e3.den)))))))))))))) (by kernel_rfl) ?_
  intro h1 h2
  refine ⟨?_, ?_⟩
  · intro c5
    refine ⟨rfl, ⟨Int.le_refl _, fun _ => fun _ => ⟨rfl, ⟨rfl, ⟨rfl, rfl⟩⟩⟩⟩, ?_, Int.le_refl _, fun _ => fun _ => ⟨rfl, ⟨rfl, ⟨rfl, rfl⟩⟩⟩⟩
    have hf := fidx_neg (q := fun i => okS (P i) (Q i) (R i) (S i)) (n := n); simp [sgB, *]; done
  · intro c6
    refine ⟨?_, Int.le_refl _, fun _ => fun _ => ⟨rfl, ⟨rfl, ⟨rfl, rfl⟩⟩⟩⟩
    simp [sgB, *]; omega
def c_i_segmentsOk (P : Int → Int) (Q : Int → Int) (R : Int → Int) (S : Int → Int) (n : Int) : Cn Try.prog := ⟨_, _, _, _, _, i_segmentsOk P Q R S n⟩
theorem s_validSegments (P : Int → Int) (Q : Int → Int) (R : Int → Int) (S : Int → Int) (n : Int) : RunsTo Try.prog 99 [(.sl 0 4 (.lit 0) (.v fun _ => n) 1048576)] [some ⟨45, 4, true, (.sym (.v fun _ => n) fun e => [(.int .i64 (.v fun _ => (P (e.den))) (-9223372036854775808) 9223372036854775807), (.int .i64 (.v fun _ => (Q (e.den))) (-9223372036854775808) 9223372036854775807), (.int .i64 (.v fun _ => (R (e.den))) (-9223372036854775808) 9223372036854775807), (.int .i64 (.v fun _ => (S (e.den))) (-9223372036854775808) 9223372036854775807)])⟩] (.bool (.v fun _ => sgB P Q R S n)) [some ⟨45, 4, true, (.sym (.v fun _ => n) fun e => [(.int .i64 (.v fun _ => (P (e.den))) (-9223372036854775808) 9223372036854775807), (.int .i64 (.v fun _ => (Q (e.den))) (-9223372036854775808) 9223372036854775807), (.int .i64 (.v fun _ => (R (e.den))) (-9223372036854775808) 9223372036854775807), (.int .i64 (.v fun _ => (S (e.den))) (-9223372036854775808) 9223372036854775807)])⟩] := by
  refine RunsTo.go env Try.func99 rfl Try.call99 rfl rfl (fun _ _ => (.loop [] [0] (Int) (fun x1 => ⟨spl 19 0 [(0, (.sl 0 4 (.lit 0) (.v fun _ => n) 1048576)), (3, (.int .i64 (.v fun _ => x1) 0 1048576))], [some ⟨45, 4, true, (.sym (.v fun _ => n) fun e => [(.int .i64 (.v fun _ => (P (e.den))) (-9223372036854775808) 9223372036854775807), (.int .i64 (.v fun _ => (Q (e.den))) (-9223372036854775808) 9223372036854775807), (.int .i64 (.v fun _ => (R (e.den))) (-9223372036854775808) 9223372036854775807), (.int .i64 (.v fun _ => (S (e.den))) (-9223372036854775808) 9223372036854775807)])⟩], 1⟩) (fun x1 => (0 ≤ x1 ∧ x1 ≤ n) ∧ ∀ i, 0 ≤ i → i < x1 → okS (P (i)) (Q (i)) (R (i)) (S (i)) = true) (fun x1 => (n - x1).toNat) fun x1 => (.ite (.need (.need (.call (c_s_wvalidSegment ((P (x1))) ((Q (x1))) ((R (x1))) ((S (x1)))) (.ite (.out .ret) (.next [0]))))) (.out .ret)))) (G := (0 ≤ n ∧ n ≤ 1048576) → (∀ e8 : E, ((0 ≤ e8.den ∧ e8.den < n) → (((-9223372036854775808) ≤ ((P (e8.den))) ∧ ((P (e8.den))) ≤ 9223372036854775807) ∧ (((-9223372036854775808) ≤ ((Q (e8.den))) ∧ ((Q (e8.den))) ≤ 9223372036854775807) ∧ (((-9223372036854775808) ≤ ((R (e8.den))) ∧ ((R (e8.den))) ≤ 9223372036854775807) ∧ ((-9223372036854775808) ≤ ((S (e8.den))) ∧ ((S (e8.den))) ≤ 9223372036854775807)))))) → ((∃ y2 : Int, (((0 ≤ y2 ∧ y2 ≤ n) ∧ ∀ i, 0 ≤ i → i < y2 → okS (P (i)) (Q (i)) (R (i)) (S (i)) = true) ∧ (((n = n) ∧ ((0 : Int) = y2)) ∧ ((n ≤ n) ∧ (∀ e3 : E, ((0 ≤ e3.den ∧ e3.den < n) → ((((P (e3.den))) = ((P (e3.den)))) ∧ ((((Q (e3.den))) = ((Q (e3.den)))) ∧ ((((R (e3.den))) = ((R (e3.den)))) ∧ (((S (e3.den))) = ((S (e3.den))))))))))))) ∧ (∀ x1 : Int, (((0 ≤ x1 ∧ x1 ≤ n) ∧ ∀ i, 0 ≤ i → i < x1 → okS (P (i)) (Q (i)) (R (i)) (S (i)) = true) → (((x1 < n) → ((((0 ≤ x1) ∧ (x1 < n))) ∧ ((x1 < n) ∧ (((((P (x1))) = ((P (x1)))) ∧ ((((Q (x1))) = ((Q (x1)))) ∧ ((((R (x1))) = ((R (x1)))) ∧ (((S (x1))) = ((S (x1))))))) ∧ ((((okS ((P (x1))) ((Q (x1))) ((R (x1))) ((S (x1)))) = false) → (((sgB P Q R S n) = false) ∧ ((n ≤ n) ∧ (∀ e4 : E, ((0 ≤ e4.den ∧ e4.den < n) → ((((P (e4.den))) = ((P (e4.den)))) ∧ ((((Q (e4.den))) = ((Q (e4.den)))) ∧ ((((R (e4.den))) = ((R (e4.den)))) ∧ (((S (e4.den))) = ((S (e4.den)))))))))))) ∧ (((okS ((P (x1))) ((Q (x1))) ((R (x1))) ((S (x1)))) = true) → (∃ y5 : Int, (((0 ≤ y5 ∧ y5 ≤ n) ∧ ∀ i, 0 ≤ i → i < y5 → okS (P (i)) (Q (i)) (R (i)) (S (i)) = true) ∧ ((((n = n) ∧ (((x1 + 1) = y5) ∧ ((1 ≤ (x1 + 1) ∧ (x1 + 1) ≤ 1048577) → (0 ≤ y5 ∧ y5 ≤ 1048576)))) ∧ ((n ≤ n) ∧ (∀ e6 : E, ((0 ≤ e6.den ∧ e6.den < n) → ((((P (e6.den))) = ((P (e6.den)))) ∧ ((((Q (e6.den))) = ((Q (e6.den)))) ∧ ((((R (e6.den))) = ((R (e6.den)))) ∧ (((S (e6.den))) = ((S (e6.den))))))))))) ∧ ((n - y5).toNat < (n - x1).toNat)))))))))) ∧ ((n ≤ x1) → (((n ≤ 12) ↔ ((sgB P Q R S n) = true)) ∧ ((n ≤ n) ∧ (∀ e7 : E, ((0 ≤ e7.den ∧ e7.den < n) → ((((P (e7.den))) = ((P (e7.den)))) ∧ ((((Q (e7.den))) = ((Q (e7.den)))) ∧ ((((R (e7.den))) = ((R (e7.den)))) ∧ (((S (e7.den))) = ((S (e7.den))))))))))))))))) (by kernel_rfl) ?_
  intro h1 h2
  refine ⟨?_, ?_⟩
  · refine ⟨0, ?_⟩
    try dsimp only
    refine ⟨?_, ?_, Int.le_refl _, fun _ => fun _ => ⟨rfl, ⟨rfl, ⟨rfl, rfl⟩⟩⟩⟩
    · refine ⟨by omega, fun i a b => ?_⟩; first | (exfalso; omega) | (by_cases e : i = j; (subst e; assumption); exact I1.2 i a (by omega))
    · refine ⟨rfl, ?_⟩
      rfl
  · intro j
    intro I1
    refine ⟨?_, ?_⟩
    · intro c9
      refine ⟨?_, ?_, ⟨rfl, ⟨rfl, ⟨rfl, rfl⟩⟩⟩, ?_, ?_⟩
      · omega
      · omega
      · intro c10
        refine ⟨?_, Int.le_refl _, fun _ => fun _ => ⟨rfl, ⟨rfl, ⟨rfl, rfl⟩⟩⟩⟩
        simp only [sgB]; rw [allB_false (q := fun i => okS (P i) (Q i) (R i) (S i)) I1.1.1 (by omega) (by assumption)]; simp; done
      · intro c11
        refine ⟨j + 1, ?_⟩
        try dsimp only
        refine ⟨?_, ?_, ?_⟩
        · refine ⟨by omega, fun i a b => ?_⟩; first | (exfalso; omega) | (by_cases e : i = j; (subst e; assumption); exact I1.2 i a (by omega))
        · refine ⟨?_, Int.le_refl _, fun _ => fun _ => ⟨rfl, ⟨rfl, ⟨rfl, rfl⟩⟩⟩⟩
          refine ⟨rfl, ?_, ?_⟩
          · rfl
          · intro c12
            omega
        · omega
    · intro c13
      refine ⟨?_, Int.le_refl _, fun _ => fun _ => ⟨rfl, ⟨rfl, ⟨rfl, rfl⟩⟩⟩⟩
      have e : allB (fun i => okS (P i) (Q i) (R i) (S i)) n = true := (allB_iff.2 fun i a b => I1.2 i a (by omega)); simp [sgB, e]; done
def c_s_validSegments (P : Int → Int) (Q : Int → Int) (R : Int → Int) (S : Int → Int) (n : Int) : Cn Try.prog := ⟨_, _, _, _, _, s_validSegments P Q R S n⟩
theorem i_pairs (n : Int) : RunsTo Try.prog 103 [(.int .i64 (.v fun _ => n) 0 12)] [] (.sl 0 2 (.lit 0) (.v fun _ => lenP (prsL n n (n + 1))) 1048576) [some ⟨85, 2, true, (.sym (.v fun _ => lenP (prsL n n (n + 1))) fun e => [(.int .i64 (.v fun _ => sA (prsL n n (n + 1)) e.den) 0 1048576), (.int .i64 (.v fun _ => sB (prsL n n (n + 1)) e.den) 0 1048576)])⟩] := by
  refine RunsTo.go env Try.func103 rfl Try.call103 rfl rfl (fun _ _ => (.loop [] [0] (Int) (fun x1 => ⟨spl 26 0 [(0, (.int .i64 (.v fun _ => n) 0 12)), (2, (.raw (.slice none 0 0))), (3, (.sl 0 2 (.lit 0) (.v fun _ => lenP (prsL n x1 (x1 + 1))) 1048576)), (7, (.int .i64 (.v fun _ => n) 0 12)), (8, (.int .i64 (.v fun _ => x1) 0 12))], [some ⟨85, 2, true, (.sym (.v fun _ => lenP (prsL n x1 (x1 + 1))) fun e => [(.int .i64 (.v fun _ => sA (prsL n x1 (x1 + 1)) (e.den)) 0 1048576), (.int .i64 (.v fun _ => sB (prsL n x1 (x1 + 1)) (e.den)) 0 1048576)])⟩], 0⟩) (fun x1 => (0 ≤ x1 ∧ x1 ≤ n) ∧ lenP (prsL n x1 (x1 + 1)) ≤ 12 * x1 + (x1 + 1)) (fun x1 => (n - x1).toNat) fun x1 => (.ite (.loop [] [0] (Int) (fun x3 => ⟨spl 26 0 [(0, (.int .i64 (.v fun _ => n) 0 12)), (2, (.raw (.slice none 0 0))), (3, (.sl 0 2 (.lit 0) (.v fun _ => lenP (prsL n x1 x3)) 1048576)), (4, (.int .i64 (.v fun _ => x1) 0 12)), (5, (.int .i64 (.v fun _ => x3) 0 13)), (7, (.int .i64 (.v fun _ => n) 0 12)), (8, (.int .i64 (.v fun _ => x1) 0 12)), (9, (.bool (.lt (.v fun _ => x1) (.v fun _ => n)))), (10, (.int .i64 (.v fun _ => x1) 0 12)), (11, (.int .i64 (.v fun _ => x1) 0 12)), (12, (.int .i64 (.add (.v fun _ => x1) (.lit 1)) 1 13))], [some ⟨85, 2, true, (.sym (.v fun _ => lenP (prsL n x1 x3)) fun e => [(.int .i64 (.v fun _ => sA (prsL n x1 x3) (e.den)) 0 1048576), (.int .i64 (.v fun _ => sB (prsL n x1 x3) (e.den)) 0 1048576)])⟩], 0⟩) (fun x3 => (0 ≤ x1 ∧ x1 + 1 ≤ x3 ∧ x3 ≤ n) ∧ lenP (prsL n x1 x3) ≤ 12 * x1 + x3) (fun x3 => (n - x3).toNat) fun x3 => (.ite (.need (.next [0])) (.out (.next [0])))) (.out .ret)))) (G := (0 ≤ n ∧ n ≤ 12) → (True) → ((∃ y2 : Int, (((0 ≤ y2 ∧ y2 ≤ n) ∧ lenP (prsL n y2 (y2 + 1)) ≤ 12 * y2 + (y2 + 1)) ∧ (((n = n) ∧ ((((.slice none 0 0) : Value) = (.slice none 0 0)) ∧ (((0 : Int) = (lenP (prsL n y2 (y2 + 1)))) ∧ ((n = n) ∧ ((0 : Int) = y2))))) ∧ ((lenP (prsL n y2 (y2 + 1))) = 0)))) ∧ (∀ x1 : Int, (((0 ≤ x1 ∧ x1 ≤ n) ∧ lenP (prsL n x1 (x1 + 1)) ≤ 12 * x1 + (x1 + 1)) → (((x1 < n) → ((∃ y4 : Int, (((0 ≤ x1 ∧ x1 + 1 ≤ y4 ∧ y4 ≤ n) ∧ lenP (prsL n x1 y4) ≤ 12 * x1 + y4) ∧ (((n = n) ∧ ((((.slice none 0 0) : Value) = (.slice none 0 0)) ∧ (((lenP (prsL n x1 (x1 + 1))) = (lenP (prsL n x1 y4))) ∧ ((x1 = x1) ∧ (((x1 + 1) = y4) ∧ ((n = n) ∧ ((x1 = x1) ∧ (((x1 < n) ↔ (x1 < n)) ∧ ((x1 = x1) ∧ ((x1 = x1) ∧ ((x1 + 1) = (x1 + 1)))))))))))) ∧ (((lenP (prsL n x1 y4)) ≤ (lenP (prsL n x1 (x1 + 1)))) ∧ (∀ e5 : E, ((0 ≤ e5.den ∧ e5.den < (lenP (prsL n x1 y4))) → (((sA (prsL n x1 (x1 + 1)) (e5.den)) = (sA (prsL n x1 y4) (e5.den))) ∧ ((sB (prsL n x1 (x1 + 1)) (e5.den)) = (sB (prsL n x1 y4) (e5.den)))))))))) ∧ (∀ x3 : Int, (((0 ≤ x1 ∧ x1 + 1 ≤ x3 ∧ x3 ≤ n) ∧ lenP (prsL n x1 x3) ≤ 12 * x1 + x3) → (((x3 < n) → (((lenP (prsL n x1 x3)) = (lenP (prsL n x1 x3))) ∧ (∃ y6 : Int, (((0 ≤ x1 ∧ x1 + 1 ≤ y6 ∧ y6 ≤ n) ∧ lenP (prsL n x1 y6) ≤ 12 * x1 + y6) ∧ ((((n = n) ∧ ((((.slice none 0 0) : Value) = (.slice none 0 0)) ∧ (((((lenP (prsL n x1 x3)) + 1) = (lenP (prsL n x1 y6))) ∧ ((((lenP (prsL n x1 x3)) + 1) ≤ 1048577) → ((lenP (prsL n x1 y6)) ≤ 1048576))) ∧ ((x1 = x1) ∧ ((((x3 + 1) = y6) ∧ ((1 ≤ (x3 + 1) ∧ (x3 + 1) ≤ 14) → (0 ≤ y6 ∧ y6 ≤ 13))) ∧ ((n = n) ∧ ((x1 = x1) ∧ (((x1 < n) ↔ (x1 < n)) ∧ ((x1 = x1) ∧ ((x1 = x1) ∧ ((x1 + 1) = (x1 + 1)))))))))))) ∧ (((0 : Int) ≤ (lenP (prsL n x1 x3)) ∧ (lenP (prsL n x1 y6)) = (lenP (prsL n x1 x3)) + 1) ∧ ((((lenP (prsL n x1 x3)) ≤ (lenP (prsL n x1 x3))) ∧ (∀ e8 : E, ((0 ≤ e8.den ∧ e8.den < (lenP (prsL n x1 x3))) → (((sA (prsL n x1 x3) (e8.den)) = (sA (prsL n x1 y6) (e8.den))) ∧ ((sB (prsL n x1 x3) (e8.den)) = (sB (prsL n x1 y6) (e8.den))))))) ∧ (∀ e7 : E, ((e7.den = (lenP (prsL n x1 x3))) → ((x1 = (sA (prsL n x1 y6) (e7.den))) ∧ (x3 = (sB (prsL n x1 y6) (e7.den))))))))) ∧ ((n - y6).toNat < (n - x3).toNat)))))) ∧ ((n ≤ x3) → (∃ y9 : Int, (((0 ≤ y9 ∧ y9 ≤ n) ∧ lenP (prsL n y9 (y9 + 1)) ≤ 12 * y9 + (y9 + 1)) ∧ ((((n = n) ∧ ((((.slice none 0 0) : Value) = (.slice none 0 0)) ∧ (((lenP (prsL n x1 x3)) = (lenP (prsL n y9 (y9 + 1)))) ∧ ((n = n) ∧ (((x1 + 1) = y9) ∧ ((1 ≤ (x1 + 1) ∧ (x1 + 1) ≤ 13) → (0 ≤ y9 ∧ y9 ≤ 12))))))) ∧ (((lenP (prsL n y9 (y9 + 1))) ≤ (lenP (prsL n x1 x3))) ∧ (∀ e10 : E, ((0 ≤ e10.den ∧ e10.den < (lenP (prsL n y9 (y9 + 1)))) → (((sA (prsL n x1 x3) (e10.den)) = (sA (prsL n y9 (y9 + 1)) (e10.den))) ∧ ((sB (prsL n x1 x3) (e10.den)) = (sB (prsL n y9 (y9 + 1)) (e10.den)))))))) ∧ ((n - y9).toNat < (n - x1).toNat)))))))))) ∧ ((n ≤ x1) → (((lenP (prsL n x1 (x1 + 1))) = (lenP (prsL n n (n + 1)))) ∧ (((lenP (prsL n n (n + 1))) ≤ (lenP (prsL n x1 (x1 + 1)))) ∧ (∀ e11 : E, ((0 ≤ e11.den ∧ e11.den < (lenP (prsL n n (n + 1)))) → (((sA (prsL n x1 (x1 + 1)) (e11.den)) = (sA (prsL n n (n + 1)) e11.den)) ∧ ((sB (prsL n x1 (x1 + 1)) (e11.den)) = (sB (prsL n n (n + 1)) e11.den))))))))))))) (by kernel_rfl) ?_
  intro h1 h2
  refine ⟨?_, ?_⟩
  · refine ⟨0, ?_⟩
    try dsimp only
    refine ⟨?_, ?_, ?_⟩
    · have hz : lenP (prsL n 0 (0 + 1)) = 0 := rfl; omega
    · refine ⟨rfl, rfl, ?_, rfl, ?_⟩
      · rfl
      · rfl
    · rfl
  · intro j
    intro I1
    refine ⟨?_, ?_⟩
    · intro c12
      refine ⟨?_, ?_⟩
      · refine ⟨j + 1, ?_⟩
        try dsimp only
        refine ⟨?_, ?_, ?_, ?_⟩
        · omega
        · refine ⟨rfl, rfl, ?_, rfl, ?_, rfl, rfl, Iff.rfl, rfl, rfl, rfl⟩
          · rfl
          · rfl
        · omega
        · intro e5
          intro c13
          refine ⟨?_, ?_⟩
          · rfl
          · rfl
      · intro k
        intro I2
        refine ⟨?_, ?_⟩
        · intro c14
          refine ⟨?_, ?_⟩
          · rfl
          · refine ⟨k + 1, ?_⟩
            try dsimp only
            refine ⟨?_, ?_, ?_⟩
            · have hz := lenP_nn (prsL n j k); have hy := lenP_snoc (prsL n j k) (j, k); rw [← prsL_in (by omega)] at hy; omega
            · refine ⟨?_, ?_, ?_, ?_⟩
              · refine ⟨rfl, rfl, ?_, rfl, ?_, rfl, rfl, Iff.rfl, rfl, rfl, rfl⟩
                · refine ⟨?_, ?_⟩
                  · have hz := lenP_nn (prsL n j k); have hy := lenP_snoc (prsL n j k) (j, k); rw [← prsL_in (by omega)] at hy; omega
                  · intro c15
                    have hz := lenP_nn (prsL n j k); have hy := lenP_snoc (prsL n j k) (j, k); rw [← prsL_in (by omega)] at hy; omega
                · refine ⟨?_, ?_⟩
                  · rfl
                  · intro c16
                    omega
              · have hz := lenP_nn (prsL n j k); have hy := lenP_snoc (prsL n j k) (j, k); rw [← prsL_in (by omega)] at hy; omega
              · refine ⟨Int.le_refl _, ?_⟩
                intro e8
                intro c17
                refine ⟨?_, ?_⟩
                · rw [prsL_in (by omega), (s_old (by omega) (by omega)).1]; done
                · rw [prsL_in (by omega), (s_old (by omega) (by omega)).2]; done
              · intro e7
                intro c18
                refine ⟨?_, ?_⟩
                · rw [prsL_in (by omega), (s_new (by omega)).1]; done
                · rw [prsL_in (by omega), (s_new (by omega)).2]; done
            · omega
        · intro c19
          refine ⟨j + 1, ?_⟩
          try dsimp only
          refine ⟨?_, ?_, ?_⟩
          · have e : k = n := (by omega); subst e; rw [prsL_out (by omega) (by omega)]; first | done | exact Int.le_refl _ | omega
          · refine ⟨?_, ?_, ?_⟩
            · refine ⟨rfl, rfl, ?_, rfl, ?_, ?_⟩
              · have e : k = n := (by omega); subst e; rw [prsL_out (by omega) (by omega)]; first | done | exact Int.le_refl _ | omega
              · rfl
              · intro c20
                omega
            · have e : k = n := (by omega); subst e; rw [prsL_out (by omega) (by omega)]; first | done | exact Int.le_refl _ | omega
            · intro e10
              intro c21
              refine ⟨?_, ?_⟩
              · have e : k = n := (by omega); subst e; rw [prsL_out (by omega) (by omega)]; first | done | exact Int.le_refl _ | omega
              · have e : k = n := (by omega); subst e; rw [prsL_out (by omega) (by omega)]; first | done | exact Int.le_refl _ | omega
          · omega
    · intro c22
      refine ⟨?_, ?_, ?_⟩
      · have e : j = n := (by omega); subst e; first | rfl | exact Int.le_refl _ | (have hz := lenP_nn (prsL j j (j + 1)); omega)
      · have e : j = n := (by omega); subst e; first | rfl | exact Int.le_refl _ | (have hz := lenP_nn (prsL j j (j + 1)); omega)
      · intro e11
        intro c23
        refine ⟨?_, ?_⟩
        · have e : j = n := (by omega); subst e; first | rfl | exact Int.le_refl _ | (have hz := lenP_nn (prsL j j (j + 1)); omega)
        · have e : j = n := (by omega); subst e; first | rfl | exact Int.le_refl _ | (have hz := lenP_nn (prsL j j (j + 1)); omega)
def c_i_pairs (n : Int) : Cn Try.prog := ⟨_, _, _, _, _, i_pairs n⟩
theorem gd_0 {sAX sAY sBX sBY tAX tAY tBX tBY : Int} (h : len' (fl (cmQ sAX sAY sBX sBY tAX tAY tBX tBY) 4) = 0) : gdI sAX sAY sBX sBY tAX tAY tBX tBY = decide (relI sAX sAY sBX sBY tAX tAY tBX tBY = 0) := by
  have h' : cmN sAX sAY sBX sBY tAX tAY tBX tBY = 0 := h
  unfold gdI; rw [if_pos h']
theorem gd_1 {sAX sAY sBX sBY tAX tAY tBX tBY : Int} (h : len' (fl (cmQ sAX sAY sBX sBY tAX tAY tBX tBY) 4) = 1) : gdI sAX sAY sBX sBY tAX tAY tBX tBY = (isE sAX sAY sBX sBY (p4X sAX sBX tAX tBX (cm0 sAX sAY sBX sBY tAX tAY tBX tBY)) (p4X sAY sBY tAY tBY (cm0 sAX sAY sBX sBY tAX tAY tBX tBY)) && isE tAX tAY tBX tBY (p4X sAX sBX tAX tBX (cm0 sAX sAY sBX sBY tAX tAY tBX tBY)) (p4X sAY sBY tAY tBY (cm0 sAX sAY sBX sBY tAX tAY tBX tBY))) := by
  have h' : cmN sAX sAY sBX sBY tAX tAY tBX tBY = 1 := h
  unfold gdI; rw [if_neg (by omega), if_pos h']
theorem gd_2 {sAX sAY sBX sBY tAX tAY tBX tBY : Int} (h : len' (fl (cmQ sAX sAY sBX sBY tAX tAY tBX tBY) 4) ≠ 0) (h1 : len' (fl (cmQ sAX sAY sBX sBY tAX tAY tBX tBY) 4) ≠ 1) : gdI sAX sAY sBX sBY tAX tAY tBX tBY = false := by
  have h' : cmN sAX sAY sBX sBY tAX tAY tBX tBY ≠ 0 := h
  have h1' : cmN sAX sAY sBX sBY tAX tAY tBX tBY ≠ 1 := h1
  unfold gdI; rw [if_neg h', if_neg h1']
theorem IsDrawing1 (P : Int → Int) (Q : Int → Int) (R : Int → Int) (S : Int → Int) (n : Int) (pA : Int) (pB : Int) (hp : (0 ≤ pA ∧ pA < n) ∧ (0 ≤ pB ∧ pB < n)) : RunsTo Try.prog 104 [(.agg [(.int .i64 (.v fun _ => pA) 0 1048576), (.int .i64 (.v fun _ => pB) 0 1048576)]), (.ptr 0 1 (.lit 0) 0)] [some ⟨76, 1, true, (.lit [[(.sl 1 4 (.lit 0) (.v fun _ => n) 1048576)]])⟩, some ⟨45, 4, true, (.sym (.v fun _ => n) fun e => [(.int .i64 (.v fun _ => (P (e.den))) (-1000) 1000), (.int .i64 (.v fun _ => (Q (e.den))) (-1000) 1000), (.int .i64 (.v fun _ => (R (e.den))) (-1000) 1000), (.int .i64 (.v fun _ => (S (e.den))) (-1000) 1000)])⟩] (.bool (.v fun _ => !(gdL P Q R S pA pB))) [some ⟨76, 1, true, (.lit [[(.sl 1 4 (.lit 0) (.v fun _ => n) 1048576)]])⟩, some ⟨45, 4, true, (.sym (.v fun _ => n) fun e => [(.int .i64 (.v fun _ => (P (e.den))) (-1000) 1000), (.int .i64 (.v fun _ => (Q (e.den))) (-1000) 1000), (.int .i64 (.v fun _ => (R (e.den))) (-1000) 1000), (.int .i64 (.v fun _ => (S (e.den))) (-1000) 1000)])⟩] := by
  refine RunsTo.go env Try.func104 rfl Try.call104 rfl rfl (fun _ _ => (.need (.need (.need (.need (.call (c_i_common ((P (pA))) ((Q (pA))) ((R (pA))) ((S (pA))) ((P (pB))) ((Q (pB))) ((R (pB))) ((S (pB)))) (.ite (.call (c_i_relation ((P (pA))) ((Q (pA))) ((R (pA))) ((S (pA))) ((P (pB))) ((Q (pB))) ((R (pB))) ((S (pB)))) .ret) (.ite (.need (.need (.call (c_i_atEnds ((P (pA))) ((Q (pA))) ((R (pA))) ((S (pA))) ((P (pB))) ((Q (pB))) ((R (pB))) ((S (pB))) (p4X ((P (pA))) ((R (pA))) ((P (pB))) ((R (pB))) (selL (fl (cmQ ((P (pA))) ((Q (pA))) ((R (pA))) ((S (pA))) ((P (pB))) ((Q (pB))) ((R (pB))) ((S (pB)))) 4) (0))) (p4X ((Q (pA))) ((S (pA))) ((Q (pB))) ((S (pB))) (selL (fl (cmQ ((P (pA))) ((Q (pA))) ((R (pA))) ((S (pA))) ((P (pB))) ((Q (pB))) ((R (pB))) ((S (pB)))) 4) (0)))) .ret))) .ret)))))))) (G := ((0 ≤ pA ∧ pA ≤ 1048576) ∧ (0 ≤ pB ∧ pB ≤ 1048576)) → ((0 ≤ n ∧ n ≤ 1048576) ∧ (∀ e4 : E, ((0 ≤ e4.den ∧ e4.den < n) → (((-1000) ≤ ((P (e4.den))) ∧ ((P (e4.den))) ≤ 1000) ∧ (((-1000) ≤ ((Q (e4.den))) ∧ ((Q (e4.den))) ≤ 1000) ∧ (((-1000) ≤ ((R (e4.den))) ∧ ((R (e4.den))) ≤ 1000) ∧ ((-1000) ≤ ((S (e4.den))) ∧ ((S (e4.den))) ≤ 1000))))))) → ((((0 ≤ pA) ∧ (pA < n))) ∧ ((pA < n) ∧ ((((0 ≤ pB) ∧ (pB < n))) ∧ ((pB < n) ∧ ((((((P (pA))) = ((P (pA)))) ∧ ((((Q (pA))) = ((Q (pA)))) ∧ ((((R (pA))) = ((R (pA)))) ∧ (((S (pA))) = ((S (pA))))))) ∧ ((((P (pB))) = ((P (pB)))) ∧ ((((Q (pB))) = ((Q (pB)))) ∧ ((((R (pB))) = ((R (pB)))) ∧ (((S (pB))) = ((S (pB)))))))) ∧ ((((len' (fl (cmQ ((P (pA))) ((Q (pA))) ((R (pA))) ((S (pA))) ((P (pB))) ((Q (pB))) ((R (pB))) ((S (pB)))) 4)) = 0) → ((((((P (pA))) = ((P (pA)))) ∧ ((((Q (pA))) = ((Q (pA)))) ∧ ((((R (pA))) = ((R (pA)))) ∧ (((S (pA))) = ((S (pA))))))) ∧ ((((P (pB))) = ((P (pB)))) ∧ ((((Q (pB))) = ((Q (pB)))) ∧ ((((R (pB))) = ((R (pB)))) ∧ (((S (pB))) = ((S (pB)))))))) ∧ ((((relI ((P (pA))) ((Q (pA))) ((R (pA))) ((S (pA))) ((P (pB))) ((Q (pB))) ((R (pB))) ((S (pB)))) ≠ 0) ↔ ((!(gdL P Q R S pA pB)) = true)) ∧ ((n = n) ∧ ((n ≤ n) ∧ (∀ e1 : E, ((0 ≤ e1.den ∧ e1.den < n) → ((((P (e1.den))) = ((P (e1.den)))) ∧ ((((Q (e1.den))) = ((Q (e1.den)))) ∧ ((((R (e1.den))) = ((R (e1.den)))) ∧ (((S (e1.den))) = ((S (e1.den)))))))))))))) ∧ (((len' (fl (cmQ ((P (pA))) ((Q (pA))) ((R (pA))) ((S (pA))) ((P (pB))) ((Q (pB))) ((R (pB))) ((S (pB)))) 4)) ≠ 0) → ((((len' (fl (cmQ ((P (pA))) ((Q (pA))) ((R (pA))) ((S (pA))) ((P (pB))) ((Q (pB))) ((R (pB))) ((S (pB)))) 4)) = 1) → ((0 < (len' (fl (cmQ ((P (pA))) ((Q (pA))) ((R (pA))) ((S (pA))) ((P (pB))) ((Q (pB))) ((R (pB))) ((S (pB)))) 4))) ∧ ((0 < (len' (fl (cmQ ((P (pA))) ((Q (pA))) ((R (pA))) ((S (pA))) ((P (pB))) ((Q (pB))) ((R (pB))) ((S (pB)))) 4))) ∧ ((((((P (pA))) = ((P (pA)))) ∧ ((((Q (pA))) = ((Q (pA)))) ∧ ((((R (pA))) = ((R (pA)))) ∧ (((S (pA))) = ((S (pA))))))) ∧ (((((P (pB))) = ((P (pB)))) ∧ ((((Q (pB))) = ((Q (pB)))) ∧ ((((R (pB))) = ((R (pB)))) ∧ (((S (pB))) = ((S (pB))))))) ∧ (((p4X ((P (pA))) ((R (pA))) ((P (pB))) ((R (pB))) (selL (fl (cmQ ((P (pA))) ((Q (pA))) ((R (pA))) ((S (pA))) ((P (pB))) ((Q (pB))) ((R (pB))) ((S (pB)))) 4) (0))) = ((p4X ((P (pA))) ((R (pA))) ((P (pB))) ((R (pB))) (selL (fl (cmQ ((P (pA))) ((Q (pA))) ((R (pA))) ((S (pA))) ((P (pB))) ((Q (pB))) ((R (pB))) ((S (pB)))) 4) (0))))) ∧ ((p4X ((Q (pA))) ((S (pA))) ((Q (pB))) ((S (pB))) (selL (fl (cmQ ((P (pA))) ((Q (pA))) ((R (pA))) ((S (pA))) ((P (pB))) ((Q (pB))) ((R (pB))) ((S (pB)))) 4) (0))) = ((p4X ((Q (pA))) ((S (pA))) ((Q (pB))) ((S (pB))) (selL (fl (cmQ ((P (pA))) ((Q (pA))) ((R (pA))) ((S (pA))) ((P (pB))) ((Q (pB))) ((R (pB))) ((S (pB)))) 4) (0)))))))) ∧ ((((isE ((P (pA))) ((Q (pA))) ((R (pA))) ((S (pA))) (p4X ((P (pA))) ((R (pA))) ((P (pB))) ((R (pB))) (selL (fl (cmQ ((P (pA))) ((Q (pA))) ((R (pA))) ((S (pA))) ((P (pB))) ((Q (pB))) ((R (pB))) ((S (pB)))) 4) (0))) (p4X ((Q (pA))) ((S (pA))) ((Q (pB))) ((S (pB))) (selL (fl (cmQ ((P (pA))) ((Q (pA))) ((R (pA))) ((S (pA))) ((P (pB))) ((Q (pB))) ((R (pB))) ((S (pB)))) 4) (0))) && isE ((P (pB))) ((Q (pB))) ((R (pB))) ((S (pB))) (p4X ((P (pA))) ((R (pA))) ((P (pB))) ((R (pB))) (selL (fl (cmQ ((P (pA))) ((Q (pA))) ((R (pA))) ((S (pA))) ((P (pB))) ((Q (pB))) ((R (pB))) ((S (pB)))) 4) (0))) (p4X ((Q (pA))) ((S (pA))) ((Q (pB))) ((S (pB))) (selL (fl (cmQ ((P (pA))) ((Q (pA))) ((R (pA))) ((S (pA))) ((P (pB))) ((Q (pB))) ((R (pB))) ((S (pB)))) 4) (0)))) = false) ↔ ((!(gdL P Q R S pA pB)) = true)) ∧ ((n = n) ∧ ((n ≤ n) ∧ (∀ e2 : E, ((0 ≤ e2.den ∧ e2.den < n) → ((((P (e2.den))) = ((P (e2.den)))) ∧ ((((Q (e2.den))) = ((Q (e2.den)))) ∧ ((((R (e2.den))) = ((R (e2.den)))) ∧ (((S (e2.den))) = ((S (e2.den)))))))))))))))) ∧ (((len' (fl (cmQ ((P (pA))) ((Q (pA))) ((R (pA))) ((S (pA))) ((P (pB))) ((Q (pB))) ((R (pB))) ((S (pB)))) 4)) ≠ 1) → (((!(gdL P Q R S pA pB)) = true) ∧ ((n = n) ∧ ((n ≤ n) ∧ (∀ e3 : E, ((0 ≤ e3.den ∧ e3.den < n) → ((((P (e3.den))) = ((P (e3.den)))) ∧ ((((Q (e3.den))) = ((Q (e3.den)))) ∧ ((((R (e3.den))) = ((R (e3.den)))) ∧ (((S (e3.den))) = ((S (e3.den)))))))))))))))))))))) (by kernel_rfl) ?_
  intro h1 h2
  refine ⟨?_, ?_, ?_, ?_, ⟨⟨rfl, ⟨rfl, ⟨rfl, rfl⟩⟩⟩, ⟨rfl, ⟨rfl, ⟨rfl, rfl⟩⟩⟩⟩, ?_, ?_⟩
  · omega
  · omega
  · omega
  · omega
  · intro c5
    refine ⟨⟨⟨rfl, ⟨rfl, ⟨rfl, rfl⟩⟩⟩, ⟨rfl, ⟨rfl, ⟨rfl, rfl⟩⟩⟩⟩, ?_, rfl, Int.le_refl _, fun _ => fun _ => ⟨rfl, ⟨rfl, ⟨rfl, rfl⟩⟩⟩⟩
    have hc := gd_0 (by assumption); unfold gdL; rw [hc]; first | (simp; done) | (simp; omega) | (simp_all; done) | fail
  · intro c6
    refine ⟨?_, ?_⟩
    · intro c7
      refine ⟨?_, ?_, ⟨⟨rfl, ⟨rfl, ⟨rfl, rfl⟩⟩⟩, ⟨⟨rfl, ⟨rfl, ⟨rfl, rfl⟩⟩⟩, ⟨rfl, rfl⟩⟩⟩, ?_, rfl, Int.le_refl _, fun _ => fun _ => ⟨rfl, ⟨rfl, ⟨rfl, rfl⟩⟩⟩⟩
      · omega
      · omega
      · have hc := gd_1 (by assumption); unfold gdL; rw [hc]; first | (unfold cm0; constructor; (intro h; rw [h]; rfl); (intro h; rw [Bool.not_eq_true'] at h; exact h)) | (unfold cm0; simp; done) | (simp_all [cm0]; done) | rfl | fail
    · intro c8
      refine ⟨?_, rfl, Int.le_refl _, fun _ => fun _ => ⟨rfl, ⟨rfl, ⟨rfl, rfl⟩⟩⟩⟩
      have hc := gd_2 (by assumption) (by assumption); unfold gdL; rw [hc]; first | rfl | (simp; done)
def c_IsDrawing1 (P : Int → Int) (Q : Int → Int) (R : Int → Int) (S : Int → Int) (n : Int) (pA : Int) (pB : Int) : CnH Try.prog := ⟨_, _, _, _, _, _, IsDrawing1 P Q R S n pA pB⟩
theorem IndexFunc_d (P : Int → Int) (Q : Int → Int) (R : Int → Int) (S : Int → Int) (n : Int) (A : Int → Int) (B : Int → Int) (m : Int) (hp : ∀ i, 0 ≤ i → i < m → (0 ≤ A i ∧ A i < n) ∧ (0 ≤ B i ∧ B i < n)) : RunsTo Try.prog 148 [(.sl 0 2 (.lit 0) (.v fun _ => m) 1048576), (.fn 104 [(.ptr 1 1 (.lit 0) 0)])] [some ⟨85, 2, true, (.sym (.v fun _ => m) fun e => [(.int .i64 (.v fun _ => (A (e.den))) 0 1048576), (.int .i64 (.v fun _ => (B (e.den))) 0 1048576)])⟩, some ⟨76, 1, true, (.lit [[(.sl 2 4 (.lit 0) (.v fun _ => n) 1048576)]])⟩, some ⟨45, 4, true, (.sym (.v fun _ => n) fun e => [(.int .i64 (.v fun _ => (P (e.den))) (-1000) 1000), (.int .i64 (.v fun _ => (Q (e.den))) (-1000) 1000), (.int .i64 (.v fun _ => (R (e.den))) (-1000) 1000), (.int .i64 (.v fun _ => (S (e.den))) (-1000) 1000)])⟩] (.int .i64 (.v fun _ => fidx (fun i => !(gdL P Q R S (A (i)) (B (i)))) m) (-1) 1048576) [some ⟨85, 2, true, (.sym (.v fun _ => m) fun e => [(.int .i64 (.v fun _ => (A (e.den))) 0 1048576), (.int .i64 (.v fun _ => (B (e.den))) 0 1048576)])⟩, some ⟨76, 1, true, (.lit [[(.sl 2 4 (.lit 0) (.v fun _ => n) 1048576)]])⟩, some ⟨45, 4, true, (.sym (.v fun _ => n) fun e => [(.int .i64 (.v fun _ => (P (e.den))) (-1000) 1000), (.int .i64 (.v fun _ => (Q (e.den))) (-1000) 1000), (.int .i64 (.v fun _ => (R (e.den))) (-1000) 1000), (.int .i64 (.v fun _ => (S (e.den))) (-1000) 1000)])⟩] := by
  refine RunsTo.go env Try.func148 rfl Try.call148 rfl rfl (fun _ _ => (.loop [] [0, 1, 2] (Int) (fun x1 => ⟨spl 19 0 [(0, (.sl 0 2 (.lit 0) (.v fun _ => m) 1048576)), (1, (.fn 104 [(.ptr 1 1 (.lit 0) 0)])), (7, (.int .i64 (.v fun _ => m) 0 1048576)), (8, (.int .i64 (.v fun _ => x1) 0 1048576))], [some ⟨85, 2, true, (.sym (.v fun _ => m) fun e => [(.int .i64 (.v fun _ => (A (e.den))) 0 1048576), (.int .i64 (.v fun _ => (B (e.den))) 0 1048576)])⟩, some ⟨76, 1, true, (.lit [[(.sl 2 4 (.lit 0) (.v fun _ => n) 1048576)]])⟩, some ⟨45, 4, true, (.sym (.v fun _ => n) fun e => [(.int .i64 (.v fun _ => (P (e.den))) (-1000) 1000), (.int .i64 (.v fun _ => (Q (e.den))) (-1000) 1000), (.int .i64 (.v fun _ => (R (e.den))) (-1000) 1000), (.int .i64 (.v fun _ => (S (e.den))) (-1000) 1000)])⟩], 3⟩) (fun x1 => (0 ≤ x1 ∧ x1 ≤ m) ∧ ∀ i, 0 ≤ i → i < x1 → (!(gdL P Q R S (A (i)) (B (i)))) = false) (fun x1 => (m - x1).toNat) fun x1 => (.ite (.need (.need (.callH (c_IsDrawing1 P Q R S n ((A (x1))) ((B (x1)))) (.ite (.out .ret) (.next [0, 1, 2]))))) (.out .ret)))) (G := (0 ≤ m ∧ m ≤ 1048576) → ((∀ e14 : E, ((0 ≤ e14.den ∧ e14.den < m) → ((0 ≤ ((A (e14.den))) ∧ ((A (e14.den))) ≤ 1048576) ∧ (0 ≤ ((B (e14.den))) ∧ ((B (e14.den))) ≤ 1048576)))) ∧ ((0 ≤ n ∧ n ≤ 1048576) ∧ (∀ e13 : E, ((0 ≤ e13.den ∧ e13.den < n) → (((-1000) ≤ ((P (e13.den))) ∧ ((P (e13.den))) ≤ 1000) ∧ (((-1000) ≤ ((Q (e13.den))) ∧ ((Q (e13.den))) ≤ 1000) ∧ (((-1000) ≤ ((R (e13.den))) ∧ ((R (e13.den))) ≤ 1000) ∧ ((-1000) ≤ ((S (e13.den))) ∧ ((S (e13.den))) ≤ 1000)))))))) → ((∃ y2 : Int, (((0 ≤ y2 ∧ y2 ≤ m) ∧ ∀ i, 0 ≤ i → i < y2 → (!(gdL P Q R S (A (i)) (B (i)))) = false) ∧ (((m = m) ∧ ((m = m) ∧ ((0 : Int) = y2))) ∧ (((m ≤ m) ∧ (∀ e4 : E, ((0 ≤ e4.den ∧ e4.den < m) → ((((A (e4.den))) = ((A (e4.den)))) ∧ (((B (e4.den))) = ((B (e4.den)))))))) ∧ ((n = n) ∧ ((n ≤ n) ∧ (∀ e3 : E, ((0 ≤ e3.den ∧ e3.den < n) → ((((P (e3.den))) = ((P (e3.den)))) ∧ ((((Q (e3.den))) = ((Q (e3.den)))) ∧ ((((R (e3.den))) = ((R (e3.den)))) ∧ (((S (e3.den))) = ((S (e3.den))))))))))))))) ∧ (∀ x1 : Int, (((0 ≤ x1 ∧ x1 ≤ m) ∧ ∀ i, 0 ≤ i → i < x1 → (!(gdL P Q R S (A (i)) (B (i)))) = false) → (((x1 < m) → ((((0 ≤ x1) ∧ (x1 < m))) ∧ ((x1 < m) ∧ (((0 ≤ ((A (x1))) ∧ ((A (x1))) < n) ∧ (0 ≤ ((B (x1))) ∧ ((B (x1))) < n)) ∧ (((((A (x1))) = ((A (x1)))) ∧ (((B (x1))) = ((B (x1))))) ∧ (((n = n) ∧ ((n ≤ n) ∧ (∀ e5 : E, ((0 ≤ e5.den ∧ e5.den < n) → ((((P (e5.den))) = ((P (e5.den)))) ∧ ((((Q (e5.den))) = ((Q (e5.den)))) ∧ ((((R (e5.den))) = ((R (e5.den)))) ∧ (((S (e5.den))) = ((S (e5.den))))))))))) ∧ ((((!(gdL P Q R S ((A (x1))) ((B (x1))))) = true) → ((x1 = (fidx (fun i => !(gdL P Q R S (A (i)) (B (i)))) m)) ∧ (((m ≤ m) ∧ (∀ e7 : E, ((0 ≤ e7.den ∧ e7.den < m) → ((((A (e7.den))) = ((A (e7.den)))) ∧ (((B (e7.den))) = ((B (e7.den)))))))) ∧ ((n = n) ∧ ((n ≤ n) ∧ (∀ e6 : E, ((0 ≤ e6.den ∧ e6.den < n) → ((((P (e6.den))) = ((P (e6.den)))) ∧ ((((Q (e6.den))) = ((Q (e6.den)))) ∧ ((((R (e6.den))) = ((R (e6.den)))) ∧ (((S (e6.den))) = ((S (e6.den)))))))))))))) ∧ (((!(gdL P Q R S ((A (x1))) ((B (x1))))) = false) → (∃ y8 : Int, (((0 ≤ y8 ∧ y8 ≤ m) ∧ ∀ i, 0 ≤ i → i < y8 → (!(gdL P Q R S (A (i)) (B (i)))) = false) ∧ ((((m = m) ∧ ((m = m) ∧ (((x1 + 1) = y8) ∧ ((1 ≤ (x1 + 1) ∧ (x1 + 1) ≤ 1048577) → (0 ≤ y8 ∧ y8 ≤ 1048576))))) ∧ (((m ≤ m) ∧ (∀ e10 : E, ((0 ≤ e10.den ∧ e10.den < m) → ((((A (e10.den))) = ((A (e10.den)))) ∧ (((B (e10.den))) = ((B (e10.den)))))))) ∧ ((n = n) ∧ ((n ≤ n) ∧ (∀ e9 : E, ((0 ≤ e9.den ∧ e9.den < n) → ((((P (e9.den))) = ((P (e9.den)))) ∧ ((((Q (e9.den))) = ((Q (e9.den)))) ∧ ((((R (e9.den))) = ((R (e9.den)))) ∧ (((S (e9.den))) = ((S (e9.den))))))))))))) ∧ ((m - y8).toNat < (m - x1).toNat)))))))))))) ∧ ((m ≤ x1) → ((((-1) : Int) = (fidx (fun i => !(gdL P Q R S (A (i)) (B (i)))) m)) ∧ (((m ≤ m) ∧ (∀ e12 : E, ((0 ≤ e12.den ∧ e12.den < m) → ((((A (e12.den))) = ((A (e12.den)))) ∧ (((B (e12.den))) = ((B (e12.den)))))))) ∧ ((n = n) ∧ ((n ≤ n) ∧ (∀ e11 : E, ((0 ≤ e11.den ∧ e11.den < n) → ((((P (e11.den))) = ((P (e11.den)))) ∧ ((((Q (e11.den))) = ((Q (e11.den)))) ∧ ((((R (e11.den))) = ((R (e11.den)))) ∧ (((S (e11.den))) = ((S (e11.den))))))))))))))))))) (by kernel_rfl) ?_
  intro h1 h2
  have hb := fidx_bd (fun i => !(gdL P Q R S (A (i)) (B (i)))) h1.1
  refine ⟨?_, ?_⟩
  · refine ⟨0, ?_⟩
    try dsimp only
    refine ⟨?_, ?_, ⟨Int.le_refl _, fun _ => fun _ => ⟨rfl, rfl⟩⟩, rfl, Int.le_refl _, fun _ => fun _ => ⟨rfl, ⟨rfl, ⟨rfl, rfl⟩⟩⟩⟩
    · exact ⟨by omega, fun i a b => by omega⟩
    · refine ⟨rfl, rfl, ?_⟩
      rfl
  · intro j
    intro I1
    refine ⟨?_, ?_⟩
    · intro c15
      refine ⟨?_, ?_, ?_, ⟨rfl, rfl⟩, ⟨rfl, ⟨Int.le_refl _, fun _ => fun _ => ⟨rfl, ⟨rfl, ⟨rfl, rfl⟩⟩⟩⟩⟩, ?_, ?_⟩
      · omega
      · omega
      · have hz := hp j (by omega) (by omega); omega
      · intro c16
        refine ⟨?_, ⟨Int.le_refl _, fun _ => fun _ => ⟨rfl, rfl⟩⟩, rfl, Int.le_refl _, fun _ => fun _ => ⟨rfl, ⟨rfl, ⟨rfl, rfl⟩⟩⟩⟩
        exact (fidx_found I1.1.1 (by omega) (by assumption) I1.2).symm
      · intro c17
        refine ⟨j + 1, ?_⟩
        try dsimp only
        refine ⟨?_, ?_, ?_⟩
        · refine ⟨by omega, fun i a b => ?_⟩; by_cases e : i = j; (subst e; assumption); exact I1.2 i a (by omega)
        · refine ⟨?_, ⟨Int.le_refl _, fun _ => fun _ => ⟨rfl, rfl⟩⟩, rfl, Int.le_refl _, fun _ => fun _ => ⟨rfl, ⟨rfl, ⟨rfl, rfl⟩⟩⟩⟩
          refine ⟨rfl, rfl, ?_, ?_⟩
          · rfl
          · intro c18
            omega
        · omega
    · intro c19
      refine ⟨?_, ⟨Int.le_refl _, fun _ => fun _ => ⟨rfl, rfl⟩⟩, rfl, Int.le_refl _, fun _ => fun _ => ⟨rfl, ⟨rfl, ⟨rfl, rfl⟩⟩⟩⟩
      exact (fidx_none fun i a b => I1.2 i a (by omega)).symm
def c_IndexFunc_d (P : Int → Int) (Q : Int → Int) (R : Int → Int) (S : Int → Int) (n : Int) (A : Int → Int) (B : Int → Int) (m : Int) : CnH Try.prog := ⟨_, _, _, _, _, _, IndexFunc_d P Q R S n A B m⟩
theorem ContainsFunc_d (P : Int → Int) (Q : Int → Int) (R : Int → Int) (S : Int → Int) (n : Int) (A : Int → Int) (B : Int → Int) (m : Int) (hp : ∀ i, 0 ≤ i → i < m → (0 ≤ A i ∧ A i < n) ∧ (0 ≤ B i ∧ B i < n)) : RunsTo Try.prog 102 [(.sl 0 2 (.lit 0) (.v fun _ => m) 1048576), (.fn 104 [(.ptr 1 1 (.lit 0) 0)])] [some ⟨85, 2, true, (.sym (.v fun _ => m) fun e => [(.int .i64 (.v fun _ => (A (e.den))) 0 1048576), (.int .i64 (.v fun _ => (B (e.den))) 0 1048576)])⟩, some ⟨76, 1, true, (.lit [[(.sl 2 4 (.lit 0) (.v fun _ => n) 1048576)]])⟩, some ⟨45, 4, true, (.sym (.v fun _ => n) fun e => [(.int .i64 (.v fun _ => (P (e.den))) (-1000) 1000), (.int .i64 (.v fun _ => (Q (e.den))) (-1000) 1000), (.int .i64 (.v fun _ => (R (e.den))) (-1000) 1000), (.int .i64 (.v fun _ => (S (e.den))) (-1000) 1000)])⟩] (.bool (.v fun _ => decide (0 ≤ fidx (fun i => !(gdL P Q R S (A (i)) (B (i)))) m))) [some ⟨85, 2, true, (.sym (.v fun _ => m) fun e => [(.int .i64 (.v fun _ => (A (e.den))) 0 1048576), (.int .i64 (.v fun _ => (B (e.den))) 0 1048576)])⟩, some ⟨76, 1, true, (.lit [[(.sl 2 4 (.lit 0) (.v fun _ => n) 1048576)]])⟩, some ⟨45, 4, true, (.sym (.v fun _ => n) fun e => [(.int .i64 (.v fun _ => (P (e.den))) (-1000) 1000), (.int .i64 (.v fun _ => (Q (e.den))) (-1000) 1000), (.int .i64 (.v fun _ => (R (e.den))) (-1000) 1000), (.int .i64 (.v fun _ => (S (e.den))) (-1000) 1000)])⟩] := by
  refine RunsTo.go env Try.func102 rfl Try.call102 rfl rfl (fun _ _ => (.callH (c_IndexFunc_d P Q R S n A B m) .ret)) (G := (0 ≤ m ∧ m ≤ 1048576) → ((∀ e6 : E, ((0 ≤ e6.den ∧ e6.den < m) → ((0 ≤ ((A (e6.den))) ∧ ((A (e6.den))) ≤ 1048576) ∧ (0 ≤ ((B (e6.den))) ∧ ((B (e6.den))) ≤ 1048576)))) ∧ ((0 ≤ n ∧ n ≤ 1048576) ∧ (∀ e5 : E, ((0 ≤ e5.den ∧ e5.den < n) → (((-1000) ≤ ((P (e5.den))) ∧ ((P (e5.den))) ≤ 1000) ∧ (((-1000) ≤ ((Q (e5.den))) ∧ ((Q (e5.den))) ≤ 1000) ∧ (((-1000) ≤ ((R (e5.den))) ∧ ((R (e5.den))) ≤ 1000) ∧ ((-1000) ≤ ((S (e5.den))) ∧ ((S (e5.den))) ≤ 1000)))))))) → ((∀ i, 0 ≤ i → i < m → (0 ≤ A i ∧ A i < n) ∧ (0 ≤ B i ∧ B i < n)) ∧ ((m = m) ∧ ((((m ≤ m) ∧ (∀ e2 : E, ((0 ≤ e2.den ∧ e2.den < m) → ((((A (e2.den))) = ((A (e2.den)))) ∧ (((B (e2.den))) = ((B (e2.den)))))))) ∧ ((n = n) ∧ ((n ≤ n) ∧ (∀ e1 : E, ((0 ≤ e1.den ∧ e1.den < n) → ((((P (e1.den))) = ((P (e1.den)))) ∧ ((((Q (e1.den))) = ((Q (e1.den)))) ∧ ((((R (e1.den))) = ((R (e1.den)))) ∧ (((S (e1.den))) = ((S (e1.den)))))))))))) ∧ (((0 ≤ (fidx (fun i => !(gdL P Q R S ((A (i))) ((B (i))))) m)) ↔ ((decide (0 ≤ fidx (fun i => !(gdL P Q R S (A (i)) (B (i)))) m)) = true)) ∧ (((m ≤ m) ∧ (∀ e4 : E, ((0 ≤ e4.den ∧ e4.den < m) → ((((A (e4.den))) = ((A (e4.den)))) ∧ (((B (e4.den))) = ((B (e4.den)))))))) ∧ ((n = n) ∧ ((n ≤ n) ∧ (∀ e3 : E, ((0 ≤ e3.den ∧ e3.den < n) → ((((P (e3.den))) = ((P (e3.den)))) ∧ ((((Q (e3.den))) = ((Q (e3.den)))) ∧ ((((R (e3.den))) = ((R (e3.den)))) ∧ (((S (e3.den))) = ((S (e3.den))))))))))))))))) (by kernel_rfl) ?_
  intro h1 h2
  refine ⟨?_, rfl, ⟨⟨Int.le_refl _, fun _ => fun _ => ⟨rfl, rfl⟩⟩, ⟨rfl, ⟨Int.le_refl _, fun _ => fun _ => ⟨rfl, ⟨rfl, ⟨rfl, rfl⟩⟩⟩⟩⟩⟩, ?_, ⟨Int.le_refl _, fun _ => fun _ => ⟨rfl, rfl⟩⟩, rfl, Int.le_refl _, fun _ => fun _ => ⟨rfl, ⟨rfl, ⟨rfl, rfl⟩⟩⟩⟩
  · exact hp
  · simp; done
def c_ContainsFunc_d (P : Int → Int) (Q : Int → Int) (R : Int → Int) (S : Int → Int) (n : Int) (A : Int → Int) (B : Int → Int) (m : Int) : CnH Try.prog := ⟨_, _, _, _, _, _, ContainsFunc_d P Q R S n A B m⟩
theorem gd_same {sAX sAY sBX sBY tAX tAY tBX tBY : Int} (hs : okS sAX sAY sBX sBY = true) (ht : okS tAX tAY tBX tBY = true) : gdI sAX sAY sBX sBY tAX tAY tBX tBY = true ↔ relS sAX sAY sBX sBY tAX tAY tBX tBY = 0 ∨ (relS sAX sAY sBX sBY tAX tAY tBX tBY = 1 ∧ ((eP sAX sAY tAX tAY = true ∨ eP sAX sAY tBX tBY = true) ∨ (eP sBX sBY tAX tAY = true ∨ eP sBX sBY tBX tBY = true))) := by
  rw [rel_eq hs ht]
  have hb := cmN_bd sAX sAY sBX sBY tAX tAY tBX tBY
  have s0 := onB_end (ax := sAX) (ay := sAY) (bx := sBX) (bY := sBY)
  have t0 := onB_end (ax := tAX) (ay := tAY) (bx := tBX) (bY := tBY)
  have f1 := p4_0 sAX sBX tAX tBX
  have f2 := p4_0 sAY sBY tAY tBY
  by_cases h0 : cmN sAX sAY sBX sBY tAX tAY tBX tBY = 0
  · rw [gd_0 h0, decide_eq_true_eq]
    have hr : relI sAX sAY sBX sBY tAX tAY tBX tBY ≠ 1 := by
      unfold relI relN; rw [if_pos h0]; split <;> omega
    omega
  · by_cases h1 : cmN sAX sAY sBX sBY tAX tAY tBX tBY = 1
    · have hr : relI sAX sAY sBX sBY tAX tAY tBX tBY = 1 := by unfold relI relN; rw [if_neg h0, if_pos h1]
      obtain ⟨⟨i0, i1⟩, hq, hu⟩ := touch_pt hs ht h1
      rw [gd_1 h1, hr, Bool.and_eq_true]
      have go : ∀ k k' : Int, 0 ≤ k → k < 2 → 2 ≤ k' → k' < 4 → eP (p4X sAX sBX tAX tBX k) (p4X sAY sBY tAY tBY k) (p4X sAX sBX tAX tBX k') (p4X sAY sBY tAY tBY k') = true → onB sAX sAY sBX sBY (p4X sAX sBX tAX tBX k) (p4X sAY sBY tAY tBY k) = true → onB tAX tAY tBX tBY (p4X sAX sBX tAX tBX k') (p4X sAY sBY tAY tBY k') = true →
          (p4X sAX sBX tAX tBX k = p4X sAX sBX tAX tBX (cm0 sAX sAY sBX sBY tAX tAY tBX tBY) ∧ p4X sAY sBY tAY tBY k = p4X sAY sBY tAY tBY (cm0 sAX sAY sBX sBY tAX tAY tBX tBY)) ∧ (p4X sAX sBX tAX tBX k' = p4X sAX sBX tAX tBX (cm0 sAX sAY sBX sBY tAX tAY tBX tBY) ∧ p4X sAY sBY tAY tBY k' = p4X sAY sBY tAY tBY (cm0 sAX sAY sBX sBY tAX tAY tBX tBY)) := by
        intro k k' k0 k1 k2 k3 he ha hb2
        have hc : ccB sAX sAY sBX sBY tAX tAY tBX tBY k = true := by unfold ccB; rw [ha, onB_eq he, hb2]; rfl
        have h5 := hu k k0 (by omega) hc
        rw [eP_iff] at he
        exact ⟨h5, by rw [← he.1]; exact h5.1, by rw [← he.2]; exact h5.2⟩
      generalize cm0 sAX sAY sBX sBY tAX tAY tBX tBY = c at *
      constructor
      · rintro ⟨ha, hb2⟩
        right
        refine ⟨rfl, ?_⟩
        unfold isE at ha hb2
        simp only [Bool.or_eq_true, Bool.and_eq_true, decide_eq_true_eq] at ha hb2
        simp only [eP_iff]
        omega
      · rintro (h | ⟨_, h⟩)
        · omega
        · have fin9 : ∀ k k' : Int, 0 ≤ k → k < 2 → 2 ≤ k' → k' < 4 → (p4X sAX sBX tAX tBX k = p4X sAX sBX tAX tBX c ∧ p4X sAY sBY tAY tBY k = p4X sAY sBY tAY tBY c) ∧ (p4X sAX sBX tAX tBX k' = p4X sAX sBX tAX tBX c ∧ p4X sAY sBY tAY tBY k' = p4X sAY sBY tAY tBY c) → isE sAX sAY sBX sBY (p4X sAX sBX tAX tBX c) (p4X sAY sBY tAY tBY c) = true ∧ isE tAX tAY tBX tBY (p4X sAX sBX tAX tBX c) (p4X sAY sBY tAY tBY c) = true := by
            intro k k' k0 k1 k2 k3 hh
            unfold isE
            simp only [Bool.or_eq_true, Bool.and_eq_true, decide_eq_true_eq]
            obtain e | e : k = 0 ∨ k = 1 := by omega
            all_goals obtain e' | e' : k' = 2 ∨ k' = 3 := by omega
            all_goals subst e; subst e'; omega
          rcases h with (h | h) | (h | h)
          · exact fin9 0 2 (by decide) (by decide) (by decide) (by decide) (go 0 2 (by decide) (by decide) (by decide) (by decide) h s0.1 t0.1)
          · exact fin9 0 3 (by decide) (by decide) (by decide) (by decide) (go 0 3 (by decide) (by decide) (by decide) (by decide) h s0.1 t0.2)
          · exact fin9 1 2 (by decide) (by decide) (by decide) (by decide) (go 1 2 (by decide) (by decide) (by decide) (by decide) h s0.2 t0.1)
          · exact fin9 1 3 (by decide) (by decide) (by decide) (by decide) (go 1 3 (by decide) (by decide) (by decide) (by decide) h s0.2 t0.2)
    · have hr : relI sAX sAY sBX sBY tAX tAY tBX tBY = 3 := by unfold relI relN; rw [if_neg h0, if_neg h1]
      rw [gd_2 h0 h1, hr]
      exact ⟨fun h => (by cases h), fun h => (by omega)⟩
theorem dw_false {P Q R S : Int → Int} {n j k : Int} (h0 : 0 ≤ j) (h1 : j < k) (h2 : k < n) (h : gdL P Q R S j k = false) : dwB P Q R S n = false := by
  have hr : rwB P Q R S n j = false := by
    unfold rwB
    refine allB_false (j := k) (by omega) h2 ?_
    rw [h, decide_eq_false (by omega)]; rfl
  have hg : gdA P Q R S n = false := by
    show allB (rwB P Q R S n) n = false
    exact allB_false h0 (by omega) hr
  unfold dwB
  rw [hg, Bool.and_false]
theorem dw_true {P Q R S : Int → Int} {n : Int} (hs : sgB P Q R S n = true) (h : ∀ i, 0 ≤ i → i < n → rwB P Q R S n i = true) : dwB P Q R S n = true := by
  unfold dwB
  rw [hs, Bool.true_and]
  exact allB_iff.2 h
theorem rw_true {P Q R S : Int → Int} {n j : Int} (h : ∀ q, j < q → q < n → gdL P Q R S j q = true) : rwB P Q R S n j = true := by
  unfold rwB
  rw [allB_iff]
  intro k k0 k1
  by_cases hk : k ≤ j
  · rw [decide_eq_true hk]; rfl
  · rw [h k (by omega) k1]; simp
theorem dw_no {P Q R S : Int → Int} {n : Int} (hs : sgB P Q R S n = false) : dwB P Q R S n = false := by unfold dwB; rw [hs]; rfl
theorem pr_rng {n : Int} (hn : 0 ≤ n) : ∀ i, 0 ≤ i → i < lenP (prsL n n (n + 1)) → (0 ≤ sA (prsL n n (n + 1)) i ∧ sA (prsL n n (n + 1)) i < n) ∧ (0 ≤ sB (prsL n n (n + 1)) i ∧ sB (prsL n n (n + 1)) i < n) := by
  intro i h0 h1
  have := (prsL_mem hn).1 (s_mem h0 h1)
  omega
theorem dw_idx {P Q R S : Int → Int} {n : Int} (hn : 0 ≤ n) (hs : sgB P Q R S n = true) : fidx (fun i => !(gdL P Q R S (sA (prsL n n (n + 1)) i) (sB (prsL n n (n + 1)) i))) (lenP (prsL n n (n + 1))) < 0 ↔ dwB P Q R S n = true := by
  rw [fidx_neg (q := fun i => gdL P Q R S (sA (prsL n n (n + 1)) i) (sB (prsL n n (n + 1)) i)), gdA_pairs hn]
  unfold dwB
  rw [hs, Bool.true_and]
theorem i_IsDrawing (P : Int → Int) (Q : Int → Int) (R : Int → Int) (S : Int → Int) (n : Int) : RunsTo Try.prog 45 [(.sl 0 4 (.lit 0) (.v fun _ => n) 1048576)] [some ⟨45, 4, true, (.sym (.v fun _ => n) fun e => [(.int .i64 (.v fun _ => (P (e.den))) (-9223372036854775808) 9223372036854775807), (.int .i64 (.v fun _ => (Q (e.den))) (-9223372036854775808) 9223372036854775807), (.int .i64 (.v fun _ => (R (e.den))) (-9223372036854775808) 9223372036854775807), (.int .i64 (.v fun _ => (S (e.den))) (-9223372036854775808) 9223372036854775807)])⟩] (.bool (.v fun _ => dwB P Q R S n)) [some ⟨45, 4, true, (.sym (.v fun _ => n) fun e => [(.int .i64 (.v fun _ => (P (e.den))) (-9223372036854775808) 9223372036854775807), (.int .i64 (.v fun _ => (Q (e.den))) (-9223372036854775808) 9223372036854775807), (.int .i64 (.v fun _ => (R (e.den))) (-9223372036854775808) 9223372036854775807), (.int .i64 (.v fun _ => (S (e.den))) (-9223372036854775808) 9223372036854775807)])⟩] := by
  refine RunsTo.go env Try.func45 rfl Try.call45 rfl rfl (fun _ _ => (.call (c_i_segmentsOk P Q R S n) (.ite .ret (.call (c_i_pairs n) (.callH (c_ContainsFunc_d P Q R S n (sA (prsL n n (n + 1))) (sB (prsL n n (n + 1))) (lenP (prsL n n (n + 1)))) .ret))))) (G := (0 ≤ n ∧ n ≤ 1048576) → (∀ e6 : E, ((0 ≤ e6.den ∧ e6.den < n) → (((-9223372036854775808) ≤ ((P (e6.den))) ∧ ((P (e6.den))) ≤ 9223372036854775807) ∧ (((-9223372036854775808) ≤ ((Q (e6.den))) ∧ ((Q (e6.den))) ≤ 9223372036854775807) ∧ (((-9223372036854775808) ≤ ((R (e6.den))) ∧ ((R (e6.den))) ≤ 9223372036854775807) ∧ ((-9223372036854775808) ≤ ((S (e6.den))) ∧ ((S (e6.den))) ≤ 9223372036854775807)))))) → ((n = n) ∧ (((n ≤ n) ∧ (∀ e1 : E, ((0 ≤ e1.den ∧ e1.den < n) → ((((P (e1.den))) = ((P (e1.den)))) ∧ ((((Q (e1.den))) = ((Q (e1.den)))) ∧ ((((R (e1.den))) = ((R (e1.den)))) ∧ (((S (e1.den))) = ((S (e1.den)))))))))) ∧ ((((sgB P Q R S n) = false) → (((dwB P Q R S n) = false) ∧ ((n ≤ n) ∧ (∀ e2 : E, ((0 ≤ e2.den ∧ e2.den < n) → ((((P (e2.den))) = ((P (e2.den)))) ∧ ((((Q (e2.den))) = ((Q (e2.den)))) ∧ ((((R (e2.den))) = ((R (e2.den)))) ∧ (((S (e2.den))) = ((S (e2.den)))))))))))) ∧ (((sgB P Q R S n) = true) → (((n = n) ∧ ((0 ≤ n ∧ n ≤ 1048576) → (0 ≤ n ∧ n ≤ 12))) ∧ ((∀ i, 0 ≤ i → i < (lenP (prsL n n (n + 1))) → (0 ≤ (sA (prsL n n (n + 1))) i ∧ (sA (prsL n n (n + 1))) i < n) ∧ (0 ≤ (sB (prsL n n (n + 1))) i ∧ (sB (prsL n n (n + 1))) i < n)) ∧ (((lenP (prsL n n (n + 1))) = (lenP (prsL n n (n + 1)))) ∧ (((((lenP (prsL n n (n + 1))) ≤ (lenP (prsL n n (n + 1)))) ∧ (∀ e4 : E, ((0 ≤ e4.den ∧ e4.den < (lenP (prsL n n (n + 1)))) → (((sA (prsL n n (n + 1)) (e4.den)) = (sA (prsL n n (n + 1)) ((e4.den)))) ∧ ((sB (prsL n n (n + 1)) (e4.den)) = (sB (prsL n n (n + 1)) ((e4.den)))))))) ∧ ((n = n) ∧ ((n ≤ n) ∧ (∀ e3 : E, ((0 ≤ e3.den ∧ e3.den < n) → (((((P (e3.den))) = ((P (e3.den)))) ∧ (((-9223372036854775808) ≤ ((P (e3.den))) ∧ ((P (e3.den))) ≤ 9223372036854775807) → ((-1000) ≤ ((P (e3.den))) ∧ ((P (e3.den))) ≤ 1000))) ∧ (((((Q (e3.den))) = ((Q (e3.den)))) ∧ (((-9223372036854775808) ≤ ((Q (e3.den))) ∧ ((Q (e3.den))) ≤ 9223372036854775807) → ((-1000) ≤ ((Q (e3.den))) ∧ ((Q (e3.den))) ≤ 1000))) ∧ (((((R (e3.den))) = ((R (e3.den)))) ∧ (((-9223372036854775808) ≤ ((R (e3.den))) ∧ ((R (e3.den))) ≤ 9223372036854775807) → ((-1000) ≤ ((R (e3.den))) ∧ ((R (e3.den))) ≤ 1000))) ∧ ((((S (e3.den))) = ((S (e3.den)))) ∧ (((-9223372036854775808) ≤ ((S (e3.den))) ∧ ((S (e3.den))) ≤ 9223372036854775807) → ((-1000) ≤ ((S (e3.den))) ∧ ((S (e3.den))) ≤ 1000))))))))))) ∧ ((((decide (0 ≤ fidx (fun i => !(gdL P Q R S (sA (prsL n n (n + 1)) (i)) (sB (prsL n n (n + 1)) (i)))) (lenP (prsL n n (n + 1))))) = false) ↔ ((dwB P Q R S n) = true)) ∧ ((n ≤ n) ∧ (∀ e5 : E, ((0 ≤ e5.den ∧ e5.den < n) → ((((P (e5.den))) = ((P (e5.den)))) ∧ ((((Q (e5.den))) = ((Q (e5.den)))) ∧ ((((R (e5.den))) = ((R (e5.den)))) ∧ (((S (e5.den))) = ((S (e5.den)))))))))))))))))))) (by kernel_rfl) ?_
  intro h1 h2
  refine ⟨rfl, ⟨Int.le_refl _, fun _ => fun _ => ⟨rfl, ⟨rfl, ⟨rfl, rfl⟩⟩⟩⟩, ?_, ?_⟩
  · intro c7
    refine ⟨?_, Int.le_refl _, fun _ => fun _ => ⟨rfl, ⟨rfl, ⟨rfl, rfl⟩⟩⟩⟩
    exact dw_no (by assumption)
  · intro c8
    refine ⟨?_, ?_, rfl, ?_, ?_, Int.le_refl _, fun _ => fun _ => ⟨rfl, ⟨rfl, ⟨rfl, rfl⟩⟩⟩⟩
    · refine ⟨rfl, ?_⟩
      intro c9
      have hs : sgB P Q R S n = true := (by assumption); have hk := sgB_ok hs; first | omega | exact pr_rng (by omega) | (have hx := dw_idx (P := P) (Q := Q) (R := R) (S := S) (n := n) (by omega) hs; first | omega | (rw [← hx]; omega) | (rw [← Bool.not_eq_true, ← hx]; omega) | (rw [Bool.eq_iff_iff, ← hx]; simp; omega) | (simp [← hx]; done) | (simp [← hx]; omega)) | (have hz := hk.2 e3.den (by omega) (by omega); omega) | (have hz := hk.2 e4.den (by omega) (by omega); omega) | (have hz := hk.2 e5.den (by omega) (by omega); omega) | (have hz := hk.2 e6.den (by omega) (by omega); omega) | (have hz := hk.2 e7.den (by omega) (by omega); omega) | (have hz := hk.2 e8.den (by omega) (by omega); omega) | (have hz := hk.2 e9.den (by omega) (by omega); omega) | (have hz := hk.2 e10.den (by omega) (by omega); omega) | (have hz := hk.2 e11.den (by omega) (by omega); omega) | (have hz := hk.2 e12.den (by omega) (by omega); omega) | (have hz := hk.2 e13.den (by omega) (by omega); omega)
    · have hs : sgB P Q R S n = true := (by assumption); have hk := sgB_ok hs; first | omega | exact pr_rng (by omega) | (have hx := dw_idx (P := P) (Q := Q) (R := R) (S := S) (n := n) (by omega) hs; first | omega | (rw [← hx]; omega) | (rw [← Bool.not_eq_true, ← hx]; omega) | (rw [Bool.eq_iff_iff, ← hx]; simp; omega) | (simp [← hx]; done) | (simp [← hx]; omega)) | (have hz := hk.2 e3.den (by omega) (by omega); omega) | (have hz := hk.2 e4.den (by omega) (by omega); omega) | (have hz := hk.2 e5.den (by omega) (by omega); omega) | (have hz := hk.2 e6.den (by omega) (by omega); omega) | (have hz := hk.2 e7.den (by omega) (by omega); omega) | (have hz := hk.2 e8.den (by omega) (by omega); omega) | (have hz := hk.2 e9.den (by omega) (by omega); omega) | (have hz := hk.2 e10.den (by omega) (by omega); omega) | (have hz := hk.2 e11.den (by omega) (by omega); omega) | (have hz := hk.2 e12.den (by omega) (by omega); omega) | (have hz := hk.2 e13.den (by omega) (by omega); omega)
    · refine ⟨⟨Int.le_refl _, fun _ => fun _ => ⟨rfl, rfl⟩⟩, rfl, Int.le_refl _, ?_⟩
      intro e3
      intro c10
      refine ⟨?_, ?_, ?_, rfl, ?_⟩
      · refine ⟨rfl, ?_⟩
        intro c11
        have hs : sgB P Q R S n = true := (by assumption); have hk := sgB_ok hs; first | omega | exact pr_rng (by omega) | (have hx := dw_idx (P := P) (Q := Q) (R := R) (S := S) (n := n) (by omega) hs; first | omega | (rw [← hx]; omega) | (rw [← Bool.not_eq_true, ← hx]; omega) | (rw [Bool.eq_iff_iff, ← hx]; simp; omega) | (simp [← hx]; done) | (simp [← hx]; omega)) | (have hz := hk.2 e3.den (by omega) (by omega); omega) | (have hz := hk.2 e4.den (by omega) (by omega); omega) | (have hz := hk.2 e5.den (by omega) (by omega); omega) | (have hz := hk.2 e6.den (by omega) (by omega); omega) | (have hz := hk.2 e7.den (by omega) (by omega); omega) | (have hz := hk.2 e8.den (by omega) (by omega); omega) | (have hz := hk.2 e9.den (by omega) (by omega); omega) | (have hz := hk.2 e10.den (by omega) (by omega); omega) | (have hz := hk.2 e11.den (by omega) (by omega); omega) | (have hz := hk.2 e12.den (by omega) (by omega); omega) | (have hz := hk.2 e13.den (by omega) (by omega); omega)
      · refine ⟨rfl, ?_⟩
        intro c12
        have hs : sgB P Q R S n = true := (by assumption); have hk := sgB_ok hs; first | omega | exact pr_rng (by omega) | (have hx := dw_idx (P := P) (Q := Q) (R := R) (S := S) (n := n) (by omega) hs; first | omega | (rw [← hx]; omega) | (rw [← Bool.not_eq_true, ← hx]; omega) | (rw [Bool.eq_iff_iff, ← hx]; simp; omega) | (simp [← hx]; done) | (simp [← hx]; omega)) | (have hz := hk.2 e3.den (by omega) (by omega); omega) | (have hz := hk.2 e4.den (by omega) (by omega); omega) | (have hz := hk.2 e5.den (by omega) (by omega); omega) | (have hz := hk.2 e6.den (by omega) (by omega); omega) | (have hz := hk.2 e7.den (by omega) (by omega); omega) | (have hz := hk.2 e8.den (by omega) (by omega); omega) | (have hz := hk.2 e9.den (by omega) (by omega); omega) | (have hz := hk.2 e10.den (by omega) (by omega); omega) | (have hz := hk.2 e11.den (by omega) (by omega); omega) | (have hz := hk.2 e12.den (by omega) (by omega); omega) | (have hz := hk.2 e13.den (by omega) (by omega); omega)
      · refine ⟨rfl, ?_⟩
        intro c13
        have hs : sgB P Q R S n = true := (by assumption); have hk := sgB_ok hs; first | omega | exact pr_rng (by omega) | (have hx := dw_idx (P := P) (Q := Q) (R := R) (S := S) (n := n) (by omega) hs; first | omega | (rw [← hx]; omega) | (rw [← Bool.not_eq_true, ← hx]; omega) | (rw [Bool.eq_iff_iff, ← hx]; simp; omega) | (simp [← hx]; done) | (simp [← hx]; omega)) | (have hz := hk.2 e3.den (by omega) (by omega); omega) | (have hz := hk.2 e4.den (by omega) (by omega); omega) | (have hz := hk.2 e5.den (by omega) (by omega); omega) | (have hz := hk.2 e6.den (by omega) (by omega); omega) | (have hz := hk.2 e7.den (by omega) (by omega); omega) | (have hz := hk.2 e8.den (by omega) (by omega); omega) | (have hz := hk.2 e9.den (by omega) (by omega); omega) | (have hz := hk.2 e10.den (by omega) (by omega); omega) | (have hz := hk.2 e11.den (by omega) (by omega); omega) | (have hz := hk.2 e12.den (by omega) (by omega); omega) | (have hz := hk.2 e13.den (by omega) (by omega); omega)
      · intro c14
        have hs : sgB P Q R S n = true := (by assumption); have hk := sgB_ok hs; first | omega | exact pr_rng (by omega) | (have hx := dw_idx (P := P) (Q := Q) (R := R) (S := S) (n := n) (by omega) hs; first | omega | (rw [← hx]; omega) | (rw [← Bool.not_eq_true, ← hx]; omega) | (rw [Bool.eq_iff_iff, ← hx]; simp; omega) | (simp [← hx]; done) | (simp [← hx]; omega)) | (have hz := hk.2 e3.den (by omega) (by omega); omega) | (have hz := hk.2 e4.den (by omega) (by omega); omega) | (have hz := hk.2 e5.den (by omega) (by omega); omega) | (have hz := hk.2 e6.den (by omega) (by omega); omega) | (have hz := hk.2 e7.den (by omega) (by omega); omega) | (have hz := hk.2 e8.den (by omega) (by omega); omega) | (have hz := hk.2 e9.den (by omega) (by omega); omega) | (have hz := hk.2 e10.den (by omega) (by omega); omega) | (have hz := hk.2 e11.den (by omega) (by omega); omega) | (have hz := hk.2 e12.den (by omega) (by omega); omega) | (have hz := hk.2 e13.den (by omega) (by omega); omega)
    · have hs : sgB P Q R S n = true := (by assumption); have hk := sgB_ok hs; first | omega | exact pr_rng (by omega) | (have hx := dw_idx (P := P) (Q := Q) (R := R) (S := S) (n := n) (by omega) hs; first | omega | (rw [← hx]; omega) | (rw [← Bool.not_eq_true, ← hx]; omega) | (rw [Bool.eq_iff_iff, ← hx]; simp; omega) | (simp [← hx]; done) | (simp [← hx]; omega)) | (have hz := hk.2 e3.den (by omega) (by omega); omega) | (have hz := hk.2 e4.den (by omega) (by omega); omega) | (have hz := hk.2 e5.den (by omega) (by omega); omega) | (have hz := hk.2 e6.den (by omega) (by omega); omega) | (have hz := hk.2 e7.den (by omega) (by omega); omega) | (have hz := hk.2 e8.den (by omega) (by omega); omega) | (have hz := hk.2 e9.den (by omega) (by omega); omega) | (have hz := hk.2 e10.den (by omega) (by omega); omega) | (have hz := hk.2 e11.den (by omega) (by omega); omega) | (have hz := hk.2 e12.den (by omega) (by omega); omega) | (have hz := hk.2 e13.den (by omega) (by omega); omega)
def c_i_IsDrawing (P : Int → Int) (Q : Int → Int) (R : Int → Int) (S : Int → Int) (n : Int) : Cn Try.prog := ⟨_, _, _, _, _, i_IsDrawing P Q R S n⟩
theorem s_sharedEnd (sAX : Int) (sAY : Int) (sBX : Int) (sBY : Int) (tAX : Int) (tAY : Int) (tBX : Int) (tBY : Int) : RunsTo Try.prog 100 [(.agg [(.int .i64 (.v fun _ => sAX) (-2002) 2002), (.int .i64 (.v fun _ => sAY) (-2002) 2002), (.int .i64 (.v fun _ => sBX) (-2002) 2002), (.int .i64 (.v fun _ => sBY) (-2002) 2002)]), (.agg [(.int .i64 (.v fun _ => tAX) (-2002) 2002), (.int .i64 (.v fun _ => tAY) (-2002) 2002), (.int .i64 (.v fun _ => tBX) (-2002) 2002), (.int .i64 (.v fun _ => tBY) (-2002) 2002)])] [] (.bool (.v fun _ => (eP sAX sAY tAX tAY || eP sAX sAY tBX tBY) || (eP sBX sBY tAX tAY || eP sBX sBY tBX tBY))) [] := by
  refine RunsTo.go env Try.func100 rfl Try.call100 rfl rfl (fun _ _ => (.ite .ret (.ite .ret (.ite .ret .ret)))) (G := ((((-2002) ≤ sAX ∧ sAX ≤ 2002) ∧ (((-2002) ≤ sAY ∧ sAY ≤ 2002) ∧ (((-2002) ≤ sBX ∧ sBX ≤ 2002) ∧ ((-2002) ≤ sBY ∧ sBY ≤ 2002)))) ∧ (((-2002) ≤ tAX ∧ tAX ≤ 2002) ∧ (((-2002) ≤ tAY ∧ tAY ≤ 2002) ∧ (((-2002) ≤ tBX ∧ tBX ≤ 2002) ∧ ((-2002) ≤ tBY ∧ tBY ≤ 2002))))) → (True) → (((((sAX = tAX) ∧ (sAY = tAY))) → (((eP sAX sAY tAX tAY || eP sAX sAY tBX tBY) || (eP sBX sBY tAX tAY || eP sBX sBY tBX tBY)) = true)) ∧ ((((sAX ≠ tAX) ∨ (sAY ≠ tAY))) → (((((sAX = tBX) ∧ (sAY = tBY))) → (((eP sAX sAY tAX tAY || eP sAX sAY tBX tBY) || (eP sBX sBY tAX tAY || eP sBX sBY tBX tBY)) = true)) ∧ ((((sAX ≠ tBX) ∨ (sAY ≠ tBY))) → (((((sBX = tAX) ∧ (sBY = tAY))) → (((eP sAX sAY tAX tAY || eP sAX sAY tBX tBY) || (eP sBX sBY tAX tAY || eP sBX sBY tBX tBY)) = true)) ∧ ((((sBX ≠ tAX) ∨ (sBY ≠ tAY))) → ((((sBX = tBX) ∧ (sBY = tBY))) ↔ (((eP sAX sAY tAX tAY || eP sAX sAY tBX tBY) || (eP sBX sBY tAX tAY || eP sBX sBY tBX tBY)) = true))))))))) (by kernel_rfl) ?_
  intro h1 h2
  refine ⟨?_, ?_⟩
  · intro c1
    simp_all [eP]; done
  · intro c2
    refine ⟨?_, ?_⟩
    · intro c3
      simp_all [eP]; done
    · intro c4
      refine ⟨?_, ?_⟩
      · intro c5
        simp_all [eP]; done
      · intro c6
        simp_all [eP]; omega
def c_s_sharedEnd (sAX : Int) (sAY : Int) (sBX : Int) (sBY : Int) (tAX : Int) (tAY : Int) (tBX : Int) (tBY : Int) : Cn Try.prog := ⟨_, _, _, _, _, s_sharedEnd sAX sAY sBX sBY tAX tAY tBX tBY⟩
theorem s_IsDrawing (P : Int → Int) (Q : Int → Int) (R : Int → Int) (S : Int → Int) (n : Int) : RunsTo Try.prog 43 [(.sl 0 4 (.lit 0) (.v fun _ => n) 1048576)] [some ⟨45, 4, true, (.sym (.v fun _ => n) fun e => [(.int .i64 (.v fun _ => (P (e.den))) (-9223372036854775808) 9223372036854775807), (.int .i64 (.v fun _ => (Q (e.den))) (-9223372036854775808) 9223372036854775807), (.int .i64 (.v fun _ => (R (e.den))) (-9223372036854775808) 9223372036854775807), (.int .i64 (.v fun _ => (S (e.den))) (-9223372036854775808) 9223372036854775807)])⟩] (.bool (.v fun _ => dwB P Q R S n)) [some ⟨45, 4, true, (.sym (.v fun _ => n) fun e => [(.int .i64 (.v fun _ => (P (e.den))) (-9223372036854775808) 9223372036854775807), (.int .i64 (.v fun _ => (Q (e.den))) (-9223372036854775808) 9223372036854775807), (.int .i64 (.v fun _ => (R (e.den))) (-9223372036854775808) 9223372036854775807), (.int .i64 (.v fun _ => (S (e.den))) (-9223372036854775808) 9223372036854775807)])⟩] := by
  refine RunsTo.go env Try.func43 rfl Try.call43 rfl rfl (fun _ _ => (.call (c_s_validSegments P Q R S n) (.ite .ret (.loop [] [0] (Int) (fun x3 => ⟨spl 50 0 [(0, (.sl 0 4 (.lit 0) (.v fun _ => n) 1048576)), (3, (.int .i64 (.v fun _ => x3) 0 1048576))], [some ⟨45, 4, true, (.sym (.v fun _ => n) fun e => [(.int .i64 (.v fun _ => ((P (e.den)))) (-9223372036854775808) 9223372036854775807), (.int .i64 (.v fun _ => ((Q (e.den)))) (-9223372036854775808) 9223372036854775807), (.int .i64 (.v fun _ => ((R (e.den)))) (-9223372036854775808) 9223372036854775807), (.int .i64 (.v fun _ => ((S (e.den)))) (-9223372036854775808) 9223372036854775807)])⟩], 1⟩) (fun x3 => (0 ≤ x3 ∧ x3 ≤ n) ∧ ∀ i, 0 ≤ i → i < x3 → rwB P Q R S n i = true) (fun x3 => (n - x3).toNat) fun x3 => (.ite (.loop [] [0] (Int) (fun x6 => ⟨spl 50 0 [(0, (.sl 0 4 (.lit 0) (.v fun _ => n) 1048576)), (3, (.int .i64 (.v fun _ => x3) 0 1048576)), (4, (.int .i64 (.v fun _ => x6) 0 1048577)), (9, (.int .i64 (.v fun _ => x3) 0 1048576)), (10, (.sl 0 4 (.lit 0) (.v fun _ => n) 1048576)), (11, (.int .i64 (.v fun _ => n) 0 1048576)), (12, (.bool (.lt (.v fun _ => x3) (.v fun _ => n)))), (15, (.int .i64 (.v fun _ => x3) 0 1048576)), (16, (.int .i64 (.add (.v fun _ => x3) (.lit 1)) 1 1048577))], [some ⟨45, 4, true, (.sym (.v fun _ => n) fun e => [(.int .i64 (.v fun _ => ((P (e.den)))) (-9223372036854775808) 9223372036854775807), (.int .i64 (.v fun _ => ((Q (e.den)))) (-9223372036854775808) 9223372036854775807), (.int .i64 (.v fun _ => ((R (e.den)))) (-9223372036854775808) 9223372036854775807), (.int .i64 (.v fun _ => ((S (e.den)))) (-9223372036854775808) 9223372036854775807)])⟩], 1⟩) (fun x6 => (0 ≤ x3 ∧ x3 < n ∧ x3 + 1 ≤ x6 ∧ x6 ≤ n) ∧ ∀ q, x3 < q → q < x6 → gdL P Q R S x3 q = true) (fun x6 => (n - x6).toNat) fun x6 => (.ite (.need (.need (.need (.need (.call (c_s_relation ((P (x3))) ((Q (x3))) ((R (x3))) ((S (x3))) ((P (x6))) ((Q (x6))) ((R (x6))) ((S (x6)))) (.ite (.ite (.out (.out .ret)) (.need (.need (.need (.need (.call (c_s_sharedEnd ((P (x3))) ((Q (x3))) ((R (x3))) ((S (x3))) ((P (x6))) ((Q (x6))) ((R (x6))) ((S (x6)))) (.ite (.out (.out .ret)) (.next [0])))))))) (.next [0]))))))) (.out (.next [0])))) (.out .ret)))))) (G := (0 ≤ n ∧ n ≤ 1048576) → (∀ e18 : E, ((0 ≤ e18.den ∧ e18.den < n) → (((-9223372036854775808) ≤ ((P (e18.den))) ∧ ((P (e18.den))) ≤ 9223372036854775807) ∧ (((-9223372036854775808) ≤ ((Q (e18.den))) ∧ ((Q (e18.den))) ≤ 9223372036854775807) ∧ (((-9223372036854775808) ≤ ((R (e18.den))) ∧ ((R (e18.den))) ≤ 9223372036854775807) ∧ ((-9223372036854775808) ≤ ((S (e18.den))) ∧ ((S (e18.den))) ≤ 9223372036854775807)))))) → ((n = n) ∧ (((n ≤ n) ∧ (∀ e1 : E, ((0 ≤ e1.den ∧ e1.den < n) → ((((P (e1.den))) = ((P (e1.den)))) ∧ ((((Q (e1.den))) = ((Q (e1.den)))) ∧ ((((R (e1.den))) = ((R (e1.den)))) ∧ (((S (e1.den))) = ((S (e1.den)))))))))) ∧ ((((sgB P Q R S n) = false) → (((dwB P Q R S n) = false) ∧ ((n ≤ n) ∧ (∀ e2 : E, ((0 ≤ e2.den ∧ e2.den < n) → ((((P (e2.den))) = ((P (e2.den)))) ∧ ((((Q (e2.den))) = ((Q (e2.den)))) ∧ ((((R (e2.den))) = ((R (e2.den)))) ∧ (((S (e2.den))) = ((S (e2.den)))))))))))) ∧ (((sgB P Q R S n) = true) → ((∃ y4 : Int, (((0 ≤ y4 ∧ y4 ≤ n) ∧ ∀ i, 0 ≤ i → i < y4 → rwB P Q R S n i = true) ∧ (((n = n) ∧ ((0 : Int) = y4)) ∧ ((n ≤ n) ∧ (∀ e5 : E, ((0 ≤ e5.den ∧ e5.den < n) → ((((P (e5.den))) = ((P (e5.den)))) ∧ ((((Q (e5.den))) = ((Q (e5.den)))) ∧ ((((R (e5.den))) = ((R (e5.den)))) ∧ (((S (e5.den))) = ((S (e5.den))))))))))))) ∧ (∀ x3 : Int, (((0 ≤ x3 ∧ x3 ≤ n) ∧ ∀ i, 0 ≤ i → i < x3 → rwB P Q R S n i = true) → (((x3 < n) → ((∃ y7 : Int, (((0 ≤ x3 ∧ x3 < n ∧ x3 + 1 ≤ y7 ∧ y7 ≤ n) ∧ ∀ q, x3 < q → q < y7 → gdL P Q R S x3 q = true) ∧ (((n = n) ∧ ((x3 = x3) ∧ (((x3 + 1) = y7) ∧ ((x3 = x3) ∧ ((n = n) ∧ ((n = n) ∧ (((x3 < n) ↔ (x3 < n)) ∧ ((x3 = x3) ∧ ((x3 + 1) = (x3 + 1)))))))))) ∧ ((n ≤ n) ∧ (∀ e8 : E, ((0 ≤ e8.den ∧ e8.den < n) → ((((P (e8.den))) = ((P (e8.den)))) ∧ ((((Q (e8.den))) = ((Q (e8.den)))) ∧ ((((R (e8.den))) = ((R (e8.den)))) ∧ (((S (e8.den))) = ((S (e8.den))))))))))))) ∧ (∀ x6 : Int, (((0 ≤ x3 ∧ x3 < n ∧ x3 + 1 ≤ x6 ∧ x6 ≤ n) ∧ ∀ q, x3 < q → q < x6 → gdL P Q R S x3 q = true) → (((x6 < n) → ((((0 ≤ x3) ∧ (x3 < n))) ∧ ((x3 < n) ∧ ((((0 ≤ x6) ∧ (x6 < n))) ∧ ((x6 < n) ∧ (((((((P (x3))) = ((P (x3)))) ∧ (((-9223372036854775808) ≤ ((P (x3))) ∧ ((P (x3))) ≤ 9223372036854775807) → ((-2002) ≤ ((P (x3))) ∧ ((P (x3))) ≤ 2002))) ∧ (((((Q (x3))) = ((Q (x3)))) ∧ (((-9223372036854775808) ≤ ((Q (x3))) ∧ ((Q (x3))) ≤ 9223372036854775807) → ((-2002) ≤ ((Q (x3))) ∧ ((Q (x3))) ≤ 2002))) ∧ (((((R (x3))) = ((R (x3)))) ∧ (((-9223372036854775808) ≤ ((R (x3))) ∧ ((R (x3))) ≤ 9223372036854775807) → ((-2002) ≤ ((R (x3))) ∧ ((R (x3))) ≤ 2002))) ∧ ((((S (x3))) = ((S (x3)))) ∧ (((-9223372036854775808) ≤ ((S (x3))) ∧ ((S (x3))) ≤ 9223372036854775807) → ((-2002) ≤ ((S (x3))) ∧ ((S (x3))) ≤ 2002)))))) ∧ (((((P (x6))) = ((P (x6)))) ∧ (((-9223372036854775808) ≤ ((P (x6))) ∧ ((P (x6))) ≤ 9223372036854775807) → ((-2002) ≤ ((P (x6))) ∧ ((P (x6))) ≤ 2002))) ∧ (((((Q (x6))) = ((Q (x6)))) ∧ (((-9223372036854775808) ≤ ((Q (x6))) ∧ ((Q (x6))) ≤ 9223372036854775807) → ((-2002) ≤ ((Q (x6))) ∧ ((Q (x6))) ≤ 2002))) ∧ (((((R (x6))) = ((R (x6)))) ∧ (((-9223372036854775808) ≤ ((R (x6))) ∧ ((R (x6))) ≤ 9223372036854775807) → ((-2002) ≤ ((R (x6))) ∧ ((R (x6))) ≤ 2002))) ∧ ((((S (x6))) = ((S (x6)))) ∧ (((-9223372036854775808) ≤ ((S (x6))) ∧ ((S (x6))) ≤ 9223372036854775807) → ((-2002) ≤ ((S (x6))) ∧ ((S (x6))) ≤ 2002))))))) ∧ ((((relS ((P (x3))) ((Q (x3))) ((R (x3))) ((S (x3))) ((P (x6))) ((Q (x6))) ((R (x6))) ((S (x6)))) ≠ 0) → ((((relS ((P (x3))) ((Q (x3))) ((R (x3))) ((S (x3))) ((P (x6))) ((Q (x6))) ((R (x6))) ((S (x6)))) ≠ 1) → (((dwB P Q R S n) = false) ∧ ((n ≤ n) ∧ (∀ e9 : E, ((0 ≤ e9.den ∧ e9.den < n) → ((((P (e9.den))) = ((P (e9.den)))) ∧ ((((Q (e9.den))) = ((Q (e9.den)))) ∧ ((((R (e9.den))) = ((R (e9.den)))) ∧ (((S (e9.den))) = ((S (e9.den)))))))))))) ∧ (((relS ((P (x3))) ((Q (x3))) ((R (x3))) ((S (x3))) ((P (x6))) ((Q (x6))) ((R (x6))) ((S (x6)))) = 1) → ((((0 ≤ x3) ∧ (x3 < n))) ∧ ((x3 < n) ∧ ((((0 ≤ x6) ∧ (x6 < n))) ∧ ((x6 < n) ∧ (((((((P (x3))) = ((P (x3)))) ∧ (((-9223372036854775808) ≤ ((P (x3))) ∧ ((P (x3))) ≤ 9223372036854775807) → ((-2002) ≤ ((P (x3))) ∧ ((P (x3))) ≤ 2002))) ∧ (((((Q (x3))) = ((Q (x3)))) ∧ (((-9223372036854775808) ≤ ((Q (x3))) ∧ ((Q (x3))) ≤ 9223372036854775807) → ((-2002) ≤ ((Q (x3))) ∧ ((Q (x3))) ≤ 2002))) ∧ (((((R (x3))) = ((R (x3)))) ∧ (((-9223372036854775808) ≤ ((R (x3))) ∧ ((R (x3))) ≤ 9223372036854775807) → ((-2002) ≤ ((R (x3))) ∧ ((R (x3))) ≤ 2002))) ∧ ((((S (x3))) = ((S (x3)))) ∧ (((-9223372036854775808) ≤ ((S (x3))) ∧ ((S (x3))) ≤ 9223372036854775807) → ((-2002) ≤ ((S (x3))) ∧ ((S (x3))) ≤ 2002)))))) ∧ (((((P (x6))) = ((P (x6)))) ∧ (((-9223372036854775808) ≤ ((P (x6))) ∧ ((P (x6))) ≤ 9223372036854775807) → ((-2002) ≤ ((P (x6))) ∧ ((P (x6))) ≤ 2002))) ∧ (((((Q (x6))) = ((Q (x6)))) ∧ (((-9223372036854775808) ≤ ((Q (x6))) ∧ ((Q (x6))) ≤ 9223372036854775807) → ((-2002) ≤ ((Q (x6))) ∧ ((Q (x6))) ≤ 2002))) ∧ (((((R (x6))) = ((R (x6)))) ∧ (((-9223372036854775808) ≤ ((R (x6))) ∧ ((R (x6))) ≤ 9223372036854775807) → ((-2002) ≤ ((R (x6))) ∧ ((R (x6))) ≤ 2002))) ∧ ((((S (x6))) = ((S (x6)))) ∧ (((-9223372036854775808) ≤ ((S (x6))) ∧ ((S (x6))) ≤ 9223372036854775807) → ((-2002) ≤ ((S (x6))) ∧ ((S (x6))) ≤ 2002))))))) ∧ (((((eP ((P (x3))) ((Q (x3))) ((P (x6))) ((Q (x6))) || eP ((P (x3))) ((Q (x3))) ((R (x6))) ((S (x6)))) || (eP ((R (x3))) ((S (x3))) ((P (x6))) ((Q (x6))) || eP ((R (x3))) ((S (x3))) ((R (x6))) ((S (x6))))) = false) → (((dwB P Q R S n) = false) ∧ ((n ≤ n) ∧ (∀ e10 : E, ((0 ≤ e10.den ∧ e10.den < n) → ((((P (e10.den))) = ((P (e10.den)))) ∧ ((((Q (e10.den))) = ((Q (e10.den)))) ∧ ((((R (e10.den))) = ((R (e10.den)))) ∧ (((S (e10.den))) = ((S (e10.den)))))))))))) ∧ ((((eP ((P (x3))) ((Q (x3))) ((P (x6))) ((Q (x6))) || eP ((P (x3))) ((Q (x3))) ((R (x6))) ((S (x6)))) || (eP ((R (x3))) ((S (x3))) ((P (x6))) ((Q (x6))) || eP ((R (x3))) ((S (x3))) ((R (x6))) ((S (x6))))) = true) → (∃ y11 : Int, (((0 ≤ x3 ∧ x3 < n ∧ x3 + 1 ≤ y11 ∧ y11 ≤ n) ∧ ∀ q, x3 < q → q < y11 → gdL P Q R S x3 q = true) ∧ ((((n = n) ∧ ((x3 = x3) ∧ ((((x6 + 1) = y11) ∧ ((1 ≤ (x6 + 1) ∧ (x6 + 1) ≤ 1048578) → (0 ≤ y11 ∧ y11 ≤ 1048577))) ∧ ((x3 = x3) ∧ ((n = n) ∧ ((n = n) ∧ (((x3 < n) ↔ (x3 < n)) ∧ ((x3 = x3) ∧ ((x3 + 1) = (x3 + 1)))))))))) ∧ ((n ≤ n) ∧ (∀ e12 : E, ((0 ≤ e12.den ∧ e12.den < n) → ((((P (e12.den))) = ((P (e12.den)))) ∧ ((((Q (e12.den))) = ((Q (e12.den)))) ∧ ((((R (e12.den))) = ((R (e12.den)))) ∧ (((S (e12.den))) = ((S (e12.den))))))))))) ∧ ((n - y11).toNat < (n - x6).toNat)))))))))))))) ∧ (((relS ((P (x3))) ((Q (x3))) ((R (x3))) ((S (x3))) ((P (x6))) ((Q (x6))) ((R (x6))) ((S (x6)))) = 0) → (∃ y13 : Int, (((0 ≤ x3 ∧ x3 < n ∧ x3 + 1 ≤ y13 ∧ y13 ≤ n) ∧ ∀ q, x3 < q → q < y13 → gdL P Q R S x3 q = true) ∧ ((((n = n) ∧ ((x3 = x3) ∧ ((((x6 + 1) = y13) ∧ ((1 ≤ (x6 + 1) ∧ (x6 + 1) ≤ 1048578) → (0 ≤ y13 ∧ y13 ≤ 1048577))) ∧ ((x3 = x3) ∧ ((n = n) ∧ ((n = n) ∧ (((x3 < n) ↔ (x3 < n)) ∧ ((x3 = x3) ∧ ((x3 + 1) = (x3 + 1)))))))))) ∧ ((n ≤ n) ∧ (∀ e14 : E, ((0 ≤ e14.den ∧ e14.den < n) → ((((P (e14.den))) = ((P (e14.den)))) ∧ ((((Q (e14.den))) = ((Q (e14.den)))) ∧ ((((R (e14.den))) = ((R (e14.den)))) ∧ (((S (e14.den))) = ((S (e14.den))))))))))) ∧ ((n - y13).toNat < (n - x6).toNat)))))))))))) ∧ ((n ≤ x6) → (∃ y15 : Int, (((0 ≤ y15 ∧ y15 ≤ n) ∧ ∀ i, 0 ≤ i → i < y15 → rwB P Q R S n i = true) ∧ ((((n = n) ∧ (((x3 + 1) = y15) ∧ ((1 ≤ (x3 + 1) ∧ (x3 + 1) ≤ 1048577) → (0 ≤ y15 ∧ y15 ≤ 1048576)))) ∧ ((n ≤ n) ∧ (∀ e16 : E, ((0 ≤ e16.den ∧ e16.den < n) → ((((P (e16.den))) = ((P (e16.den)))) ∧ ((((Q (e16.den))) = ((Q (e16.den)))) ∧ ((((R (e16.den))) = ((R (e16.den)))) ∧ (((S (e16.den))) = ((S (e16.den))))))))))) ∧ ((n - y15).toNat < (n - x3).toNat)))))))))) ∧ ((n ≤ x3) → (((dwB P Q R S n) = true) ∧ ((n ≤ n) ∧ (∀ e17 : E, ((0 ≤ e17.den ∧ e17.den < n) → ((((P (e17.den))) = ((P (e17.den)))) ∧ ((((Q (e17.den))) = ((Q (e17.den)))) ∧ ((((R (e17.den))) = ((R (e17.den)))) ∧ (((S (e17.den))) = ((S (e17.den))))))))))))))))))))) (by kernel_rfl) ?_
  intro h1 h2
  refine ⟨rfl, ⟨Int.le_refl _, fun _ => fun _ => ⟨rfl, ⟨rfl, ⟨rfl, rfl⟩⟩⟩⟩, ?_, ?_⟩
  · intro c19
    refine ⟨?_, Int.le_refl _, fun _ => fun _ => ⟨rfl, ⟨rfl, ⟨rfl, rfl⟩⟩⟩⟩
    exact dw_no (by assumption)
  · intro c20
    refine ⟨?_, ?_⟩
    · refine ⟨0, ?_⟩
      try dsimp only
      refine ⟨?_, ?_, Int.le_refl _, fun _ => fun _ => ⟨rfl, ⟨rfl, ⟨rfl, rfl⟩⟩⟩⟩
      · refine ⟨by omega, fun i a b => ?_⟩; first | (exfalso; omega) | (by_cases e : i = j; (subst e; exact rw_true (fun q a b => I2.2 q a (by omega))); exact I1.2 i a (by omega))
      · refine ⟨rfl, ?_⟩
        rfl
    · intro j
      intro I1
      refine ⟨?_, ?_⟩
      · intro c21
        refine ⟨?_, ?_⟩
        · refine ⟨j + 1, ?_⟩
          try dsimp only
          refine ⟨?_, ?_, Int.le_refl _, fun _ => fun _ => ⟨rfl, ⟨rfl, ⟨rfl, rfl⟩⟩⟩⟩
          · refine ⟨by omega, fun i a b => ?_⟩; first | (exfalso; omega) | (by_cases e : i = j; (subst e; exact rw_true (fun q a b => I2.2 q a (by omega))); exact I1.2 i a (by omega))
          · refine ⟨rfl, rfl, ?_, rfl, rfl, rfl, Iff.rfl, rfl, rfl⟩
            rfl
        · intro k
          intro I2
          refine ⟨?_, ?_⟩
          · intro c22
            refine ⟨?_, ?_, ?_, ?_, ?_, ?_, ?_⟩
            · omega
            · omega
            · omega
            · omega
            · refine ⟨?_, ?_, ?_, ?_, rfl, ?_⟩
              · refine ⟨?_, ?_, ?_, rfl, ?_⟩
                · refine ⟨rfl, ?_⟩
                  intro c23
                  have hk := sgB_ok (show sgB P Q R S n = true by assumption); have hj := hk.2 j (by omega) (by omega); have hq := hk.2 k (by omega) (by omega); have hg := gd_same hj.1 hq.1; first | omega | (refine dw_false (j := j) (k := k) (by omega) (by omega) (by omega) ?_; rw [← Bool.not_eq_true]; unfold gdL; rw [hg]; intro hh; rcases hh with hh | ⟨h5, h6⟩; omega; first | omega | (simp_all; done)) | (refine ⟨by omega, fun q a b => ?_⟩; by_cases e : q = k; (subst e; unfold gdL; rw [hg]; first | omega | (left; omega) | (right; refine ⟨by omega, ?_⟩; rw [← Bool.or_eq_true, ← Bool.or_eq_true, ← Bool.or_eq_true]; assumption) | (simp_all; done)); exact I2.2 q a (by omega))
                · refine ⟨rfl, ?_⟩
                  intro c24
                  have hk := sgB_ok (show sgB P Q R S n = true by assumption); have hj := hk.2 j (by omega) (by omega); have hq := hk.2 k (by omega) (by omega); have hg := gd_same hj.1 hq.1; first | omega | (refine dw_false (j := j) (k := k) (by omega) (by omega) (by omega) ?_; rw [← Bool.not_eq_true]; unfold gdL; rw [hg]; intro hh; rcases hh with hh | ⟨h5, h6⟩; omega; first | omega | (simp_all; done)) | (refine ⟨by omega, fun q a b => ?_⟩; by_cases e : q = k; (subst e; unfold gdL; rw [hg]; first | omega | (left; omega) | (right; refine ⟨by omega, ?_⟩; rw [← Bool.or_eq_true, ← Bool.or_eq_true, ← Bool.or_eq_true]; assumption) | (simp_all; done)); exact I2.2 q a (by omega))
                · refine ⟨rfl, ?_⟩
                  intro c25
                  have hk := sgB_ok (show sgB P Q R S n = true by assumption); have hj := hk.2 j (by omega) (by omega); have hq := hk.2 k (by omega) (by omega); have hg := gd_same hj.1 hq.1; first | omega | (refine dw_false (j := j) (k := k) (by omega) (by omega) (by omega) ?_; rw [← Bool.not_eq_true]; unfold gdL; rw [hg]; intro hh; rcases hh with hh | ⟨h5, h6⟩; omega; first | omega | (simp_all; done)) | (refine ⟨by omega, fun q a b => ?_⟩; by_cases e : q = k; (subst e; unfold gdL; rw [hg]; first | omega | (left; omega) | (right; refine ⟨by omega, ?_⟩; rw [← Bool.or_eq_true, ← Bool.or_eq_true, ← Bool.or_eq_true]; assumption) | (simp_all; done)); exact I2.2 q a (by omega))
                · intro c26
                  have hk := sgB_ok (show sgB P Q R S n = true by assumption); have hj := hk.2 j (by omega) (by omega); have hq := hk.2 k (by omega) (by omega); have hg := gd_same hj.1 hq.1; first | omega | (refine dw_false (j := j) (k := k) (by omega) (by omega) (by omega) ?_; rw [← Bool.not_eq_true]; unfold gdL; rw [hg]; intro hh; rcases hh with hh | ⟨h5, h6⟩; omega; first | omega | (simp_all; done)) | (refine ⟨by omega, fun q a b => ?_⟩; by_cases e : q = k; (subst e; unfold gdL; rw [hg]; first | omega | (left; omega) | (right; refine ⟨by omega, ?_⟩; rw [← Bool.or_eq_true, ← Bool.or_eq_true, ← Bool.or_eq_true]; assumption) | (simp_all; done)); exact I2.2 q a (by omega))
              · refine ⟨rfl, ?_⟩
                intro c27
                have hk := sgB_ok (show sgB P Q R S n = true by assumption); have hj := hk.2 j (by omega) (by omega); have hq := hk.2 k (by omega) (by omega); have hg := gd_same hj.1 hq.1; first | omega | (refine dw_false (j := j) (k := k) (by omega) (by omega) (by omega) ?_; rw [← Bool.not_eq_true]; unfold gdL; rw [hg]; intro hh; rcases hh with hh | ⟨h5, h6⟩; omega; first | omega | (simp_all; done)) | (refine ⟨by omega, fun q a b => ?_⟩; by_cases e : q = k; (subst e; unfold gdL; rw [hg]; first | omega | (left; omega) | (right; refine ⟨by omega, ?_⟩; rw [← Bool.or_eq_true, ← Bool.or_eq_true, ← Bool.or_eq_true]; assumption) | (simp_all; done)); exact I2.2 q a (by omega))
              · refine ⟨rfl, ?_⟩
                intro c28
                have hk := sgB_ok (show sgB P Q R S n = true by assumption); have hj := hk.2 j (by omega) (by omega); have hq := hk.2 k (by omega) (by omega); have hg := gd_same hj.1 hq.1; first | omega | (refine dw_false (j := j) (k := k) (by omega) (by omega) (by omega) ?_; rw [← Bool.not_eq_true]; unfold gdL; rw [hg]; intro hh; rcases hh with hh | ⟨h5, h6⟩; omega; first | omega | (simp_all; done)) | (refine ⟨by omega, fun q a b => ?_⟩; by_cases e : q = k; (subst e; unfold gdL; rw [hg]; first | omega | (left; omega) | (right; refine ⟨by omega, ?_⟩; rw [← Bool.or_eq_true, ← Bool.or_eq_true, ← Bool.or_eq_true]; assumption) | (simp_all; done)); exact I2.2 q a (by omega))
              · refine ⟨rfl, ?_⟩
                intro c29
                have hk := sgB_ok (show sgB P Q R S n = true by assumption); have hj := hk.2 j (by omega) (by omega); have hq := hk.2 k (by omega) (by omega); have hg := gd_same hj.1 hq.1; first | omega | (refine dw_false (j := j) (k := k) (by omega) (by omega) (by omega) ?_; rw [← Bool.not_eq_true]; unfold gdL; rw [hg]; intro hh; rcases hh with hh | ⟨h5, h6⟩; omega; first | omega | (simp_all; done)) | (refine ⟨by omega, fun q a b => ?_⟩; by_cases e : q = k; (subst e; unfold gdL; rw [hg]; first | omega | (left; omega) | (right; refine ⟨by omega, ?_⟩; rw [← Bool.or_eq_true, ← Bool.or_eq_true, ← Bool.or_eq_true]; assumption) | (simp_all; done)); exact I2.2 q a (by omega))
              · intro c30
                have hk := sgB_ok (show sgB P Q R S n = true by assumption); have hj := hk.2 j (by omega) (by omega); have hq := hk.2 k (by omega) (by omega); have hg := gd_same hj.1 hq.1; first | omega | (refine dw_false (j := j) (k := k) (by omega) (by omega) (by omega) ?_; rw [← Bool.not_eq_true]; unfold gdL; rw [hg]; intro hh; rcases hh with hh | ⟨h5, h6⟩; omega; first | omega | (simp_all; done)) | (refine ⟨by omega, fun q a b => ?_⟩; by_cases e : q = k; (subst e; unfold gdL; rw [hg]; first | omega | (left; omega) | (right; refine ⟨by omega, ?_⟩; rw [← Bool.or_eq_true, ← Bool.or_eq_true, ← Bool.or_eq_true]; assumption) | (simp_all; done)); exact I2.2 q a (by omega))
            · intro c31
              refine ⟨?_, ?_⟩
              · intro c32
                refine ⟨?_, Int.le_refl _, fun _ => fun _ => ⟨rfl, ⟨rfl, ⟨rfl, rfl⟩⟩⟩⟩
                have hk := sgB_ok (show sgB P Q R S n = true by assumption); have hj := hk.2 j (by omega) (by omega); have hq := hk.2 k (by omega) (by omega); have hg := gd_same hj.1 hq.1; first | omega | (refine dw_false (j := j) (k := k) (by omega) (by omega) (by omega) ?_; rw [← Bool.not_eq_true]; unfold gdL; rw [hg]; intro hh; rcases hh with hh | ⟨h5, h6⟩; omega; first | omega | (simp_all; done)) | (refine ⟨by omega, fun q a b => ?_⟩; by_cases e : q = k; (subst e; unfold gdL; rw [hg]; first | omega | (left; omega) | (right; refine ⟨by omega, ?_⟩; rw [← Bool.or_eq_true, ← Bool.or_eq_true, ← Bool.or_eq_true]; assumption) | (simp_all; done)); exact I2.2 q a (by omega))
              · intro c33
                refine ⟨?_, ?_, ?_, ?_, ?_, ?_, ?_⟩
                · omega
                · omega
                · omega
                · omega
                · refine ⟨?_, ?_, ?_, ?_, rfl, ?_⟩
                  · refine ⟨?_, ?_, ?_, rfl, ?_⟩
                    · refine ⟨rfl, ?_⟩
                      intro c34
                      have hk := sgB_ok (show sgB P Q R S n = true by assumption); have hj := hk.2 j (by omega) (by omega); have hq := hk.2 k (by omega) (by omega); have hg := gd_same hj.1 hq.1; first | omega | (refine dw_false (j := j) (k := k) (by omega) (by omega) (by omega) ?_; rw [← Bool.not_eq_true]; unfold gdL; rw [hg]; intro hh; rcases hh with hh | ⟨h5, h6⟩; omega; first | omega | (simp_all; done)) | (refine ⟨by omega, fun q a b => ?_⟩; by_cases e : q = k; (subst e; unfold gdL; rw [hg]; first | omega | (left; omega) | (right; refine ⟨by omega, ?_⟩; rw [← Bool.or_eq_true, ← Bool.or_eq_true, ← Bool.or_eq_true]; assumption) | (simp_all; done)); exact I2.2 q a (by omega))
                    · refine ⟨rfl, ?_⟩
                      intro c35
                      have hk := sgB_ok (show sgB P Q R S n = true by assumption); have hj := hk.2 j (by omega) (by omega); have hq := hk.2 k (by omega) (by omega); have hg := gd_same hj.1 hq.1; first | omega | (refine dw_false (j := j) (k := k) (by omega) (by omega) (by omega) ?_; rw [← Bool.not_eq_true]; unfold gdL; rw [hg]; intro hh; rcases hh with hh | ⟨h5, h6⟩; omega; first | omega | (simp_all; done)) | (refine ⟨by omega, fun q a b => ?_⟩; by_cases e : q = k; (subst e; unfold gdL; rw [hg]; first | omega | (left; omega) | (right; refine ⟨by omega, ?_⟩; rw [← Bool.or_eq_true, ← Bool.or_eq_true, ← Bool.or_eq_true]; assumption) | (simp_all; done)); exact I2.2 q a (by omega))
                    · refine ⟨rfl, ?_⟩
                      intro c36
                      have hk := sgB_ok (show sgB P Q R S n = true by assumption); have hj := hk.2 j (by omega) (by omega); have hq := hk.2 k (by omega) (by omega); have hg := gd_same hj.1 hq.1; first | omega | (refine dw_false (j := j) (k := k) (by omega) (by omega) (by omega) ?_; rw [← Bool.not_eq_true]; unfold gdL; rw [hg]; intro hh; rcases hh with hh | ⟨h5, h6⟩; omega; first | omega | (simp_all; done)) | (refine ⟨by omega, fun q a b => ?_⟩; by_cases e : q = k; (subst e; unfold gdL; rw [hg]; first | omega | (left; omega) | (right; refine ⟨by omega, ?_⟩; rw [← Bool.or_eq_true, ← Bool.or_eq_true, ← Bool.or_eq_true]; assumption) | (simp_all; done)); exact I2.2 q a (by omega))
                    · intro c37
                      have hk := sgB_ok (show sgB P Q R S n = true by assumption); have hj := hk.2 j (by omega) (by omega); have hq := hk.2 k (by omega) (by omega); have hg := gd_same hj.1 hq.1; first | omega | (refine dw_false (j := j) (k := k) (by omega) (by omega) (by omega) ?_; rw [← Bool.not_eq_true]; unfold gdL; rw [hg]; intro hh; rcases hh with hh | ⟨h5, h6⟩; omega; first | omega | (simp_all; done)) | (refine ⟨by omega, fun q a b => ?_⟩; by_cases e : q = k; (subst e; unfold gdL; rw [hg]; first | omega | (left; omega) | (right; refine ⟨by omega, ?_⟩; rw [← Bool.or_eq_true, ← Bool.or_eq_true, ← Bool.or_eq_true]; assumption) | (simp_all; done)); exact I2.2 q a (by omega))
                  · refine ⟨rfl, ?_⟩
                    intro c38
                    have hk := sgB_ok (show sgB P Q R S n = true by assumption); have hj := hk.2 j (by omega) (by omega); have hq := hk.2 k (by omega) (by omega); have hg := gd_same hj.1 hq.1; first | omega | (refine dw_false (j := j) (k := k) (by omega) (by omega) (by omega) ?_; rw [← Bool.not_eq_true]; unfold gdL; rw [hg]; intro hh; rcases hh with hh | ⟨h5, h6⟩; omega; first | omega | (simp_all; done)) | (refine ⟨by omega, fun q a b => ?_⟩; by_cases e : q = k; (subst e; unfold gdL; rw [hg]; first | omega | (left; omega) | (right; refine ⟨by omega, ?_⟩; rw [← Bool.or_eq_true, ← Bool.or_eq_true, ← Bool.or_eq_true]; assumption) | (simp_all; done)); exact I2.2 q a (by omega))
                  · refine ⟨rfl, ?_⟩
                    intro c39
                    have hk := sgB_ok (show sgB P Q R S n = true by assumption); have hj := hk.2 j (by omega) (by omega); have hq := hk.2 k (by omega) (by omega); have hg := gd_same hj.1 hq.1; first | omega | (refine dw_false (j := j) (k := k) (by omega) (by omega) (by omega) ?_; rw [← Bool.not_eq_true]; unfold gdL; rw [hg]; intro hh; rcases hh with hh | ⟨h5, h6⟩; omega; first | omega | (simp_all; done)) | (refine ⟨by omega, fun q a b => ?_⟩; by_cases e : q = k; (subst e; unfold gdL; rw [hg]; first | omega | (left; omega) | (right; refine ⟨by omega, ?_⟩; rw [← Bool.or_eq_true, ← Bool.or_eq_true, ← Bool.or_eq_true]; assumption) | (simp_all; done)); exact I2.2 q a (by omega))
                  · refine ⟨rfl, ?_⟩
                    intro c40
                    have hk := sgB_ok (show sgB P Q R S n = true by assumption); have hj := hk.2 j (by omega) (by omega); have hq := hk.2 k (by omega) (by omega); have hg := gd_same hj.1 hq.1; first | omega | (refine dw_false (j := j) (k := k) (by omega) (by omega) (by omega) ?_; rw [← Bool.not_eq_true]; unfold gdL; rw [hg]; intro hh; rcases hh with hh | ⟨h5, h6⟩; omega; first | omega | (simp_all; done)) | (refine ⟨by omega, fun q a b => ?_⟩; by_cases e : q = k; (subst e; unfold gdL; rw [hg]; first | omega | (left; omega) | (right; refine ⟨by omega, ?_⟩; rw [← Bool.or_eq_true, ← Bool.or_eq_true, ← Bool.or_eq_true]; assumption) | (simp_all; done)); exact I2.2 q a (by omega))
                  · intro c41
                    have hk := sgB_ok (show sgB P Q R S n = true by assumption); have hj := hk.2 j (by omega) (by omega); have hq := hk.2 k (by omega) (by omega); have hg := gd_same hj.1 hq.1; first | omega | (refine dw_false (j := j) (k := k) (by omega) (by omega) (by omega) ?_; rw [← Bool.not_eq_true]; unfold gdL; rw [hg]; intro hh; rcases hh with hh | ⟨h5, h6⟩; omega; first | omega | (simp_all; done)) | (refine ⟨by omega, fun q a b => ?_⟩; by_cases e : q = k; (subst e; unfold gdL; rw [hg]; first | omega | (left; omega) | (right; refine ⟨by omega, ?_⟩; rw [← Bool.or_eq_true, ← Bool.or_eq_true, ← Bool.or_eq_true]; assumption) | (simp_all; done)); exact I2.2 q a (by omega))
                · intro c42
                  refine ⟨?_, Int.le_refl _, fun _ => fun _ => ⟨rfl, ⟨rfl, ⟨rfl, rfl⟩⟩⟩⟩
                  have hk := sgB_ok (show sgB P Q R S n = true by assumption); have hj := hk.2 j (by omega) (by omega); have hq := hk.2 k (by omega) (by omega); have hg := gd_same hj.1 hq.1; first | omega | (refine dw_false (j := j) (k := k) (by omega) (by omega) (by omega) ?_; rw [← Bool.not_eq_true]; unfold gdL; rw [hg]; intro hh; rcases hh with hh | ⟨h5, h6⟩; omega; first | omega | (simp_all; done)) | (refine ⟨by omega, fun q a b => ?_⟩; by_cases e : q = k; (subst e; unfold gdL; rw [hg]; first | omega | (left; omega) | (right; refine ⟨by omega, ?_⟩; rw [← Bool.or_eq_true, ← Bool.or_eq_true, ← Bool.or_eq_true]; assumption) | (simp_all; done)); exact I2.2 q a (by omega))
                · intro c43
                  refine ⟨k + 1, ?_⟩
                  try dsimp only
                  refine ⟨?_, ?_, ?_⟩
                  · have hk := sgB_ok (show sgB P Q R S n = true by assumption); have hj := hk.2 j (by omega) (by omega); have hq := hk.2 k (by omega) (by omega); have hg := gd_same hj.1 hq.1; first | omega | (refine dw_false (j := j) (k := k) (by omega) (by omega) (by omega) ?_; rw [← Bool.not_eq_true]; unfold gdL; rw [hg]; intro hh; rcases hh with hh | ⟨h5, h6⟩; omega; first | omega | (simp_all; done)) | (refine ⟨by omega, fun q a b => ?_⟩; by_cases e : q = k; (subst e; unfold gdL; rw [hg]; first | omega | (left; omega) | (right; refine ⟨by omega, ?_⟩; rw [← Bool.or_eq_true, ← Bool.or_eq_true, ← Bool.or_eq_true]; assumption) | (simp_all; done)); exact I2.2 q a (by omega))
                  · refine ⟨?_, Int.le_refl _, fun _ => fun _ => ⟨rfl, ⟨rfl, ⟨rfl, rfl⟩⟩⟩⟩
                    refine ⟨rfl, rfl, ?_, rfl, rfl, rfl, Iff.rfl, rfl, rfl⟩
                    refine ⟨?_, ?_⟩
                    · rfl
                    · intro c44
                      omega
                  · omega
            · intro c45
              refine ⟨k + 1, ?_⟩
              try dsimp only
              refine ⟨?_, ?_, ?_⟩
              · have hk := sgB_ok (show sgB P Q R S n = true by assumption); have hj := hk.2 j (by omega) (by omega); have hq := hk.2 k (by omega) (by omega); have hg := gd_same hj.1 hq.1; first | omega | (refine dw_false (j := j) (k := k) (by omega) (by omega) (by omega) ?_; rw [← Bool.not_eq_true]; unfold gdL; rw [hg]; intro hh; rcases hh with hh | ⟨h5, h6⟩; omega; first | omega | (simp_all; done)) | (refine ⟨by omega, fun q a b => ?_⟩; by_cases e : q = k; (subst e; unfold gdL; rw [hg]; first | omega | (left; omega) | (right; refine ⟨by omega, ?_⟩; rw [← Bool.or_eq_true, ← Bool.or_eq_true, ← Bool.or_eq_true]; assumption) | (simp_all; done)); exact I2.2 q a (by omega))
              · refine ⟨?_, Int.le_refl _, fun _ => fun _ => ⟨rfl, ⟨rfl, ⟨rfl, rfl⟩⟩⟩⟩
                refine ⟨rfl, rfl, ?_, rfl, rfl, rfl, Iff.rfl, rfl, rfl⟩
                refine ⟨?_, ?_⟩
                · rfl
                · intro c46
                  omega
              · omega
          · intro c47
            refine ⟨j + 1, ?_⟩
            try dsimp only
            refine ⟨?_, ?_, ?_⟩
            · refine ⟨by omega, fun i a b => ?_⟩; first | (exfalso; omega) | (by_cases e : i = j; (subst e; exact rw_true (fun q a b => I2.2 q a (by omega))); exact I1.2 i a (by omega))
            · refine ⟨?_, Int.le_refl _, fun _ => fun _ => ⟨rfl, ⟨rfl, ⟨rfl, rfl⟩⟩⟩⟩
              refine ⟨rfl, ?_, ?_⟩
              · rfl
              · intro c48
                omega
            · omega
      · intro c49
        refine ⟨?_, Int.le_refl _, fun _ => fun _ => ⟨rfl, ⟨rfl, ⟨rfl, rfl⟩⟩⟩⟩
        exact dw_true (by assumption) (fun i a b => I1.2 i a (by omega))
def c_s_IsDrawing (P : Int → Int) (Q : Int → Int) (R : Int → Int) (S : Int → Int) (n : Int) : Cn Try.prog := ⟨_, _, _, _, _, s_IsDrawing P Q R S n⟩
end Go.Proofs.Ytoielngedkbmbaa
