/- Rectangles: the walks of the cells. -/
import Derived.Test.YtpnjopppclmfkaaK34
import Derived.Test.YtpnjopppclmfkaaLi
set_option linter.unusedSimpArgs false
set_option linter.unusedVariables false
set_option maxRecDepth 100000
namespace Go.Proofs.Ytpnjopppclmfkaa
open Go.Sym
theorem srtY_noY (X : Int → Int) (n : Int) : srtY X noY n = noY := by
  funext i
  unfold srtY
  have h : ∀ p ∈ srtL X noY n, p.2 = 0 := by
    intro p hp
    have hp := List.mem_mergeSort.1 hp
    unfold ptsL at hp
    obtain ⟨k, _, rfl⟩ := List.mem_map.1 hp
    rfl
  show _ = (0 : Int)
  rw [List.getD_eq_getElem?_getD]
  cases hh : (srtL X noY n)[i.toNat]? with
  | none => rfl
  | some p => exact h p (List.mem_of_getElem? hh)
theorem iN_int (X : Int → Int) (n : Int) : len' (fl (cK (srtX X noY n) noY) n) = iN X noY n := by
  unfold iN
  rw [srtY_noY]
theorem iX_int (X : Int → Int) (n i : Int) : srtX X noY n (selL (fl (cK (srtX X noY n) noY) n) i) = iX X noY n i := by
  unfold iX
  rw [srtY_noY]
theorem dl_noY (K : Int → Bool) (j i : Int) : dl K noY j i = 0 := by
  unfold dl
  split <;> rfl
theorem cpi_old {X : Int → Int} {k j : Int} (hk : 1 ≤ k) (hj : 1 ≤ j) (hI : len' (fl (cK X noY) (k + j)) < k + j ∧ 0 ≤ len' (fl (cK X noY) (k + j)))
    (h : dl (cK X noY) X (k + j) (k + j) = dl (cK X noY) X (k + j) (k + (j - 1))) : cK X noY (k + j) = false :=
  cp_old hk hj hI ⟨h, by rw [dl_noY, dl_noY]⟩
theorem ltP_i {a b : Int} : ltP a 0 b 0 = true ↔ a < b := by rw [ltP_iff]; omega
theorem ipos_i {X : Int → Int} {n p k : Int} (h0 : 0 ≤ k) (h1 : k ≤ n) (h2 : ∀ i, 0 ≤ i → i < k → X i < p) (h3 : k < n → ¬ X k < p) : ipos X noY n p 0 = k :=
  ipos_eq h0 h1 (fun i a b => ltP_i.2 (h2 i a b)) (fun h => by
    rw [← Bool.not_eq_true]
    intro hh
    exact h3 h (ltP_i.1 hh))
theorem insD_y {X : Int → Int} {n p k : Int} (hk : ipos X noY n p 0 = k) (h1 : k < n) (h2 : X k = p) : insD X noY n p 0 = true := by
  unfold insD
  rw [hk, decide_eq_true h1, decide_eq_true h2]
  rfl
theorem insD_n {X : Int → Int} {n p k : Int} (hk : ipos X noY n p 0 = k) (h : ¬ (k < n ∧ X k = p)) : insD X noY n p 0 = false := by
  rw [← Bool.not_eq_true]
  unfold insD
  rw [hk]
  simp only [Bool.and_eq_true, decide_eq_true_eq]
  rintro ⟨a, b, _⟩
  exact h ⟨a, b⟩
theorem soY_0 (X : Int → Int) (j : Int) : soY X noY j = noY := by
  have key : ∀ m : Nat, (ceL X noY (fun _ => true) m).y = noY := by
    intro m
    induction m with
    | zero => rfl
    | succ m ih =>
      rw [ceL, if_pos rfl]
      show insY _ _ _ _ _ = noY
      funext i
      rw [ih]
      unfold insY insF
      split
      · rfl
      · split
        · rfl
        · split <;> rfl
  unfold soY soS
  funext i
  rw [key]
theorem soi_N {X : Int → Int} {j : Int} (h : 0 ≤ j) : soN X noY (j + 1) = insN (soX X noY j) noY (soN X noY j) (X j) 0 := by
  rw [so_N h, soY_0]
theorem soi_X {X : Int → Int} {j : Int} (h : 0 ≤ j) (i : Int) : soX X noY (j + 1) i = insX (soX X noY j) noY (soN X noY j) (X j) 0 i := by
  rw [so_X h, soY_0]
/-- Two more. -/
theorem so2_N {A D : Int → Int} {j : Int} (h : 0 ≤ j) : insN (insX (soX (il A D) noY (2 * j)) noY (soN (il A D) noY (2 * j)) (A j) 0) noY (insN (soX (il A D) noY (2 * j)) noY (soN (il A D) noY (2 * j)) (A j) 0) (D j) 0 = soN (il A D) noY (2 * (j + 1)) := by
  have ea : il A D (2 * j) = A j := il_even rfl
  have ed : il A D (2 * j + 1) = D j := il_odd rfl
  rw [show 2 * (j + 1) = 2 * j + 1 + 1 by omega, soi_N (by omega), soi_N (by omega), ea, ed]
  congr 1
  funext i
  rw [soi_X (by omega), ea]
theorem so2_X {A D : Int → Int} {j : Int} (h : 0 ≤ j) (i : Int) : insX (insX (soX (il A D) noY (2 * j)) noY (soN (il A D) noY (2 * j)) (A j) 0) noY (insN (soX (il A D) noY (2 * j)) noY (soN (il A D) noY (2 * j)) (A j) 0) (D j) 0 i = soX (il A D) noY (2 * (j + 1)) i := by
  have ea : il A D (2 * j) = A j := il_even rfl
  have ed : il A D (2 * j + 1) = D j := il_odd rfl
  rw [show 2 * (j + 1) = 2 * j + 1 + 1 by omega, soi_X (by omega), soi_N (by omega), ea, ed]
  congr 1
  funext i
  rw [soi_X (by omega), ea]
theorem so_u (A D : Int → Int) {n : Int} (h : 0 ≤ n) : soN (il A D) noY (2 * n) = uN A D n := (so_i (il A D) noY (by omega)).1
theorem so_v {A D : Int → Int} {n i : Int} (h : 0 ≤ n) (h0 : 0 ≤ i) (h1 : i < uN A D n) : soX (il A D) noY (2 * n) i = uX A D n i := ((so_i (il A D) noY (n := 2 * n) (by omega)).2 i h0 (by rw [so_u A D h]; exact h1)).1

theorem Sort_i (X : Int → Int) (n : Int) : RunsTo Try.prog 109 [(.sl 0 1 (.lit 0) (.v fun _ => n) 1048576)] [some ⟨3, 1, true, (.sym (.v fun _ => n) fun e => [(.int .i64 (.v fun _ => (X (e.den))) (-9223372036854775808) 9223372036854775807)])⟩] (.tup []) [some ⟨3, 1, true, (.sym (.v fun _ => n) fun e => [(.int .i64 (.v fun _ => srtX X noY n e.den) (-9223372036854775808) 9223372036854775807)])⟩] := by
  have h := sort_ints laySortI Try.call109 3 X n 1048576 (by decide)
  exact h
def c_Sort_i (X : Int → Int) (n : Int) : Cn Try.prog := ⟨_, _, _, _, _, Sort_i X n⟩
theorem Compact_i (X : Int → Int) (n : Int) : RunsTo Try.prog 110 [(.sl 0 1 (.lit 0) (.v fun _ => n) 1048576)] [some ⟨3, 1, true, (.sym (.v fun _ => n) fun e => [(.int .i64 (.v fun _ => (X (e.den))) (-9223372036854775808) 9223372036854775807)])⟩] (.sl 0 1 (.lit 0) (.v fun _ => len' (fl (cK X noY) n)) 1048576) [some ⟨3, 1, true, (.sym (.v fun _ => len' (fl (cK X noY) n)) fun e => [(.int .i64 (.v fun _ => (X (selL (fl (cK X noY) n) e.den))) (-9223372036854775808) 9223372036854775807)])⟩] := by
  refine RunsTo.go env Try.func110 rfl Try.call110 rfl rfl (fun _ _ => (.ite .ret (.loop [] [0] (Int) (fun x2 => ⟨spl 61 0 [(0, (.sl 0 1 (.lit 0) (.v fun _ => n) 1048576)), (3, (.int .i64 (.v fun _ => x2) 1 1048576))], [some ⟨3, 1, true, (.sym (.v fun _ => n) fun e => [(.int .i64 (.v fun _ => (X (e.den))) (-9223372036854775808) 9223372036854775807)])⟩], 1⟩) (fun x2 => (1 ≤ x2 ∧ x2 ≤ n) ∧ ∀ i, 0 ≤ i → i < x2 → cK X noY i = true) (fun x2 => (n - x2).toNat) fun x2 => (.ite (.need (.need (.need (.need (.ite (.need (.loop [] [0] (Int) (fun x5 => ⟨spl 61 0 [(0, (.sl 0 1 (.lit 0) (.v fun _ => n) 1048576)), (3, (.int .i64 (.v fun _ => len' (fl (cK X noY) (x2 + x5))) 0 1048576)), (4, (.sl 0 1 (.v fun _ => x2) (.sub (.v fun _ => n) (.v fun _ => x2)) 1048576)), (5, (.int .i64 (.v fun _ => x5) 1 1048576)), (10, (.int .i64 (.v fun _ => x2) 1 1048576)), (11, (.sl 0 1 (.lit 0) (.v fun _ => n) 1048576)), (12, (.int .i64 (.v fun _ => n) 0 1048576)), (13, (.bool (.lt (.v fun _ => x2) (.v fun _ => n)))), (16, (.sl 0 1 (.lit 0) (.v fun _ => n) 1048576)), (17, (.int .i64 (.v fun _ => x2) 1 1048576)), (18, (.ptr 0 1 (.v fun _ => x2) 0)), (19, (.int .i64 (.v fun _ => (X (x2))) (-9223372036854775808) 9223372036854775807)), (20, (.sl 0 1 (.lit 0) (.v fun _ => n) 1048576)), (21, (.int .i64 (.v fun _ => x2) 1 1048576)), (22, (.int .i64 (.sub (.v fun _ => x2) (.lit 1)) 0 1048575)), (23, (.ptr 0 1 (.sub (.v fun _ => x2) (.lit 1)) 0)), (24, (.int .i64 (.v fun _ => (X (x2 - 1))) (-9223372036854775808) 9223372036854775807)), (25, (.bool (.eq (.v fun _ => (X (x2))) (.v fun _ => (X (x2 - 1)))))), (26, (.sl 0 1 (.lit 0) (.v fun _ => n) 1048576)), (27, (.int .i64 (.v fun _ => x2) 1 1048576)), (28, (.sl 0 1 (.v fun _ => x2) (.sub (.v fun _ => n) (.v fun _ => x2)) 1048576))], [some ⟨3, 1, true, (.sym (.v fun _ => n) fun e => [(.int .i64 (.v fun _ => dl (cK X noY) X (x2 + x5) (e.den)) (-9223372036854775808) 9223372036854775807)])⟩], 1⟩) (fun x5 => (1 ≤ x5 ∧ x2 + x5 ≤ n) ∧ len' (fl (cK X noY) (x2 + x5)) < x2 + x5 ∧ 0 ≤ len' (fl (cK X noY) (x2 + x5))) (fun x5 => (n - x5).toNat) fun x5 => (.ite (.need (.need (.need (.need (.ite (.need (.need (.need (.need (.next [0]))))) (.next [0])))))) (.out (.need (.need (.need (.out .ret)))))))) (.next [0])))))) (.out .ret))))) (G := (0 ≤ n ∧ n ≤ 1048576) → (∀ e17 : E, ((0 ≤ e17.den ∧ e17.den < n) → ((-9223372036854775808) ≤ ((X (e17.den))) ∧ ((X (e17.den))) ≤ 9223372036854775807))) → (((n < 2) → ((n = (len' (fl (cK X noY) n))) ∧ (((len' (fl (cK X noY) n)) ≤ n) ∧ (∀ e1 : E, ((0 ≤ e1.den ∧ e1.den < (len' (fl (cK X noY) n))) → (((X (e1.den))) = ((X (selL (fl (cK X noY) n) e1.den))))))))) ∧ ((2 ≤ n) → ((∃ y3 : Int, (((1 ≤ y3 ∧ y3 ≤ n) ∧ ∀ i, 0 ≤ i → i < y3 → cK X noY i = true) ∧ (((n = n) ∧ ((1 : Int) = y3)) ∧ ((n ≤ n) ∧ (∀ e4 : E, ((0 ≤ e4.den ∧ e4.den < n) → (((X (e4.den))) = ((X (e4.den)))))))))) ∧ (∀ x2 : Int, (((1 ≤ x2 ∧ x2 ≤ n) ∧ ∀ i, 0 ≤ i → i < x2 → cK X noY i = true) → (((x2 < n) → ((((0 ≤ x2) ∧ (x2 < n))) ∧ ((x2 < n) ∧ ((((0 ≤ (x2 - 1)) ∧ ((x2 - 1) < n))) ∧ (((x2 - 1) < n) ∧ (((((X (x2))) = ((X (x2 - 1)))) → ((((0 ≤ x2) ∧ (x2 ≤ n))) ∧ ((∃ y6 : Int, (((1 ≤ y6 ∧ x2 + y6 ≤ n) ∧ len' (fl (cK X noY) (x2 + y6)) < x2 + y6 ∧ 0 ≤ len' (fl (cK X noY) (x2 + y6))) ∧ (((n = n) ∧ ((x2 = (len' (fl (cK X noY) (x2 + y6)))) ∧ (((x2 = x2) ∧ ((n - x2) = (n - x2))) ∧ (((1 : Int) = y6) ∧ ((x2 = x2) ∧ ((n = n) ∧ ((n = n) ∧ (((x2 < n) ↔ (x2 < n)) ∧ ((n = n) ∧ ((x2 = x2) ∧ ((x2 = x2) ∧ ((((X (x2))) = ((X (x2)))) ∧ ((n = n) ∧ ((x2 = x2) ∧ (((x2 - 1) = (x2 - 1)) ∧ (((x2 - 1) = (x2 - 1)) ∧ ((((X (x2 - 1))) = ((X (x2 - 1)))) ∧ (((((X (x2))) = ((X (x2 - 1)))) ↔ (((X (x2))) = ((X (x2 - 1))))) ∧ ((n = n) ∧ ((x2 = x2) ∧ ((x2 = x2) ∧ ((n - x2) = (n - x2))))))))))))))))))))))) ∧ ((n ≤ n) ∧ (∀ e7 : E, ((0 ≤ e7.den ∧ e7.den < n) → (((X (e7.den))) = (dl (cK X noY) X (x2 + y6) (e7.den))))))))) ∧ (∀ x5 : Int, (((1 ≤ x5 ∧ x2 + x5 ≤ n) ∧ len' (fl (cK X noY) (x2 + x5)) < x2 + x5 ∧ 0 ≤ len' (fl (cK X noY) (x2 + x5))) → (((x5 < (n - x2)) → ((((0 ≤ x5) ∧ (x5 < (n - x2)))) ∧ (((x2 + x5) < n) ∧ ((((0 ≤ (x5 - 1)) ∧ ((x5 - 1) < (n - x2)))) ∧ (((x2 + (x5 - 1)) < n) ∧ ((((dl (cK X noY) X (x2 + x5) (x2 + x5)) ≠ (dl (cK X noY) X (x2 + x5) (x2 + (x5 - 1)))) → ((((0 ≤ x5) ∧ (x5 < (n - x2)))) ∧ (((x2 + x5) < n) ∧ ((((0 ≤ (len' (fl (cK X noY) (x2 + x5)))) ∧ ((len' (fl (cK X noY) (x2 + x5))) < n))) ∧ (((len' (fl (cK X noY) (x2 + x5))) < n) ∧ (∃ y8 : Int, (((1 ≤ y8 ∧ x2 + y8 ≤ n) ∧ len' (fl (cK X noY) (x2 + y8)) < x2 + y8 ∧ 0 ≤ len' (fl (cK X noY) (x2 + y8))) ∧ ((((n = n) ∧ (((((len' (fl (cK X noY) (x2 + x5))) + 1) = (len' (fl (cK X noY) (x2 + y8)))) ∧ ((1 ≤ ((len' (fl (cK X noY) (x2 + x5))) + 1) ∧ ((len' (fl (cK X noY) (x2 + x5))) + 1) ≤ 1048577) → (0 ≤ (len' (fl (cK X noY) (x2 + y8))) ∧ (len' (fl (cK X noY) (x2 + y8))) ≤ 1048576))) ∧ (((x2 = x2) ∧ ((n - x2) = (n - x2))) ∧ ((((x5 + 1) = y8) ∧ ((2 ≤ (x5 + 1) ∧ (x5 + 1) ≤ 1048577) → (1 ≤ y8 ∧ y8 ≤ 1048576))) ∧ ((x2 = x2) ∧ ((n = n) ∧ ((n = n) ∧ (((x2 < n) ↔ (x2 < n)) ∧ ((n = n) ∧ ((x2 = x2) ∧ ((x2 = x2) ∧ ((((X (x2))) = ((X (x2)))) ∧ ((n = n) ∧ ((x2 = x2) ∧ (((x2 - 1) = (x2 - 1)) ∧ (((x2 - 1) = (x2 - 1)) ∧ ((((X (x2 - 1))) = ((X (x2 - 1)))) ∧ (((((X (x2))) = ((X (x2 - 1)))) ↔ (((X (x2))) = ((X (x2 - 1))))) ∧ ((n = n) ∧ ((x2 = x2) ∧ ((x2 = x2) ∧ ((n - x2) = (n - x2))))))))))))))))))))))) ∧ ((n = n) ∧ ((∀ e10 : E, ((0 ≤ e10.den ∧ e10.den < n ∧ e10.den ≠ (len' (fl (cK X noY) (x2 + x5)))) → ((dl (cK X noY) X (x2 + x5) (e10.den)) = (dl (cK X noY) X (x2 + y8) (e10.den))))) ∧ (∀ e9 : E, ((e9.den.toNat = ((len' (fl (cK X noY) (x2 + x5))) : Int).toNat ∧ 0 ≤ e9.den) → ((dl (cK X noY) X (x2 + x5) (x2 + x5)) = (dl (cK X noY) X (x2 + y8) (e9.den)))))))) ∧ ((n - y8).toNat < (n - x5).toNat))))))))) ∧ (((dl (cK X noY) X (x2 + x5) (x2 + x5)) = (dl (cK X noY) X (x2 + x5) (x2 + (x5 - 1)))) → (∃ y11 : Int, (((1 ≤ y11 ∧ x2 + y11 ≤ n) ∧ len' (fl (cK X noY) (x2 + y11)) < x2 + y11 ∧ 0 ≤ len' (fl (cK X noY) (x2 + y11))) ∧ ((((n = n) ∧ (((len' (fl (cK X noY) (x2 + x5))) = (len' (fl (cK X noY) (x2 + y11)))) ∧ (((x2 = x2) ∧ ((n - x2) = (n - x2))) ∧ ((((x5 + 1) = y11) ∧ ((2 ≤ (x5 + 1) ∧ (x5 + 1) ≤ 1048577) → (1 ≤ y11 ∧ y11 ≤ 1048576))) ∧ ((x2 = x2) ∧ ((n = n) ∧ ((n = n) ∧ (((x2 < n) ↔ (x2 < n)) ∧ ((n = n) ∧ ((x2 = x2) ∧ ((x2 = x2) ∧ ((((X (x2))) = ((X (x2)))) ∧ ((n = n) ∧ ((x2 = x2) ∧ (((x2 - 1) = (x2 - 1)) ∧ (((x2 - 1) = (x2 - 1)) ∧ ((((X (x2 - 1))) = ((X (x2 - 1)))) ∧ (((((X (x2))) = ((X (x2 - 1)))) ↔ (((X (x2))) = ((X (x2 - 1))))) ∧ ((n = n) ∧ ((x2 = x2) ∧ ((x2 = x2) ∧ ((n - x2) = (n - x2))))))))))))))))))))))) ∧ ((n ≤ n) ∧ (∀ e12 : E, ((0 ≤ e12.den ∧ e12.den < n) → ((dl (cK X noY) X (x2 + x5) (e12.den)) = (dl (cK X noY) X (x2 + y11) (e12.den))))))) ∧ ((n - y11).toNat < (n - x5).toNat))))))))))) ∧ (((n - x2) ≤ x5) → ((((0 ≤ (len' (fl (cK X noY) (x2 + x5)))) ∧ ((len' (fl (cK X noY) (x2 + x5))) ≤ n))) ∧ ((((0 ≤ (n - (len' (fl (cK X noY) (x2 + x5))))) ∧ ((len' (fl (cK X noY) (x2 + x5))) ≤ n))) ∧ ((((0 ≤ (len' (fl (cK X noY) (x2 + x5)))) ∧ ((len' (fl (cK X noY) (x2 + x5))) ≤ n))) ∧ (((len' (fl (cK X noY) (x2 + x5))) = (len' (fl (cK X noY) n))) ∧ (((len' (fl (cK X noY) n)) ≤ (len' (fl (cK X noY) (x2 + x5)))) ∧ (∀ e13 : E, ((0 ≤ e13.den ∧ e13.den < (len' (fl (cK X noY) n))) → ((dl (cK X noY) X (x2 + x5) (e13.den)) = ((X (selL (fl (cK X noY) n) e13.den)))))))))))))))))) ∧ ((((X (x2))) ≠ ((X (x2 - 1)))) → (∃ y14 : Int, (((1 ≤ y14 ∧ y14 ≤ n) ∧ ∀ i, 0 ≤ i → i < y14 → cK X noY i = true) ∧ ((((n = n) ∧ (((x2 + 1) = y14) ∧ ((2 ≤ (x2 + 1) ∧ (x2 + 1) ≤ 1048577) → (1 ≤ y14 ∧ y14 ≤ 1048576)))) ∧ ((n ≤ n) ∧ (∀ e15 : E, ((0 ≤ e15.den ∧ e15.den < n) → (((X (e15.den))) = ((X (e15.den)))))))) ∧ ((n - y14).toNat < (n - x2).toNat))))))))))) ∧ ((n ≤ x2) → ((n = (len' (fl (cK X noY) n))) ∧ (((len' (fl (cK X noY) n)) ≤ n) ∧ (∀ e16 : E, ((0 ≤ e16.den ∧ e16.den < (len' (fl (cK X noY) n))) → (((X (e16.den))) = ((X (selL (fl (cK X noY) n) e16.den)))))))))))))))) (by kernel_rfl) ?_
  intro h1 h2
  refine ⟨?_, ?_⟩
  · intro c18
    refine ⟨?_, ?_, ?_⟩
    · have ha := fl_allI (K := (cK X noY)) (m := n) (by omega) (cp_small (by omega)); first | omega | (rw [ha.2 e0.den (by omega) (by omega)]; done)
    · have ha := fl_allI (K := (cK X noY)) (m := n) (by omega) (cp_small (by omega)); first | omega | (rw [ha.2 e0.den (by omega) (by omega)]; done)
    · intro e1
      intro c19
      have ha := fl_allI (K := (cK X noY)) (m := n) (by omega) (cp_small (by omega)); first | omega | (rw [ha.2 e1.den (by omega) (by omega)]; done)
  · intro c20
    refine ⟨?_, ?_⟩
    · refine ⟨1, ?_⟩
      try dsimp only
      refine ⟨?_, ?_, Int.le_refl _, fun _ => fun _ => rfl⟩
      · exact ⟨by omega, cp_small (by omega)⟩
      · refine ⟨rfl, ?_⟩
        rfl
    · intro k
      intro I1
      refine ⟨?_, ?_⟩
      · intro c21
        refine ⟨?_, ?_, ?_, ?_, ?_, ?_⟩
        · omega
        · omega
        · omega
        · omega
        · intro c22
          refine ⟨?_, ?_, ?_⟩
          · omega
          · refine ⟨1, ?_⟩
            try dsimp only
            refine ⟨?_, ?_, Int.le_refl _, ?_⟩
            · have hK : (cK X noY) k = false := cK_no.2 ⟨by omega, by assumption, rfl⟩; have hsa := dl_start (A := X) (j := k) (by omega) hK I1.2; first | omega | exact ⟨by omega, by omega, by omega⟩ | exact hsa.1.symm | exact (hsa.2 _ (by omega)).symm
            · refine ⟨rfl, ?_, ⟨rfl, rfl⟩, ?_, rfl, rfl, rfl, Iff.rfl, rfl, rfl, rfl, rfl, rfl, rfl, rfl, rfl, rfl, Iff.rfl, rfl, rfl, rfl, rfl⟩
              · have hK : (cK X noY) k = false := cK_no.2 ⟨by omega, by assumption, rfl⟩; have hsa := dl_start (A := X) (j := k) (by omega) hK I1.2; first | omega | exact ⟨by omega, by omega, by omega⟩ | exact hsa.1.symm | exact (hsa.2 _ (by omega)).symm
              · rfl
            · intro e7
              intro c23
              have hK : (cK X noY) k = false := cK_no.2 ⟨by omega, by assumption, rfl⟩; have hsa := dl_start (A := X) (j := k) (by omega) hK I1.2; first | omega | exact ⟨by omega, by omega, by omega⟩ | exact hsa.1.symm | exact (hsa.2 _ (by omega)).symm
          · intro j
            intro I2
            refine ⟨?_, ?_⟩
            · intro c24
              refine ⟨?_, ?_, ?_, ?_, ?_, ?_⟩
              · omega
              · omega
              · omega
              · omega
              · intro c25
                refine ⟨?_, ?_, ?_, ?_, ?_⟩
                · omega
                · omega
                · omega
                · omega
                · refine ⟨j + 1, ?_⟩
                  try dsimp only
                  refine ⟨?_, ?_, ?_⟩
                  · have hK := cp_new (X := X) (Y := noY) (by omega) (by omega) I2.2 (.inl (by assumption)); have hfb := fl_bd (cK X noY) (n := k + j) (by omega); have hn : len' (fl (cK X noY) (k + (j + 1))) = len' (fl (cK X noY) (k + j)) + 1 := (by rw [show k + (j + 1) = k + j + 1 by omega, fl_yes (by omega) hK, len'_snoc]); first | omega | exact ⟨by omega, by omega, by omega⟩ | (rw [show k + (j + 1) = k + j + 1 by omega]; have hy := dl_yes (A := X) (i := e0.den) (by omega) hK (by omega); first | exact (hy.1 (by omega)).symm | (rw [dl_self (by omega)]; exact (hy.2 (by omega)).symm))
                  · refine ⟨?_, rfl, ?_, ?_⟩
                    · refine ⟨rfl, ?_, ⟨rfl, rfl⟩, ?_, rfl, rfl, rfl, Iff.rfl, rfl, rfl, rfl, rfl, rfl, rfl, rfl, rfl, rfl, Iff.rfl, rfl, rfl, rfl, rfl⟩
                      · refine ⟨?_, ?_⟩
                        · have hK := cp_new (X := X) (Y := noY) (by omega) (by omega) I2.2 (.inl (by assumption)); have hfb := fl_bd (cK X noY) (n := k + j) (by omega); have hn : len' (fl (cK X noY) (k + (j + 1))) = len' (fl (cK X noY) (k + j)) + 1 := (by rw [show k + (j + 1) = k + j + 1 by omega, fl_yes (by omega) hK, len'_snoc]); first | omega | exact ⟨by omega, by omega, by omega⟩ | (rw [show k + (j + 1) = k + j + 1 by omega]; have hy := dl_yes (A := X) (i := e0.den) (by omega) hK (by omega); first | exact (hy.1 (by omega)).symm | (rw [dl_self (by omega)]; exact (hy.2 (by omega)).symm))
                        · intro c26
                          have hK := cp_new (X := X) (Y := noY) (by omega) (by omega) I2.2 (.inl (by assumption)); have hfb := fl_bd (cK X noY) (n := k + j) (by omega); have hn : len' (fl (cK X noY) (k + (j + 1))) = len' (fl (cK X noY) (k + j)) + 1 := (by rw [show k + (j + 1) = k + j + 1 by omega, fl_yes (by omega) hK, len'_snoc]); first | omega | exact ⟨by omega, by omega, by omega⟩ | (rw [show k + (j + 1) = k + j + 1 by omega]; have hy := dl_yes (A := X) (i := e0.den) (by omega) hK (by omega); first | exact (hy.1 (by omega)).symm | (rw [dl_self (by omega)]; exact (hy.2 (by omega)).symm))
                      · refine ⟨?_, ?_⟩
                        · rfl
                        · intro c27
                          omega
                    · intro e10
                      intro c28
                      have hK := cp_new (X := X) (Y := noY) (by omega) (by omega) I2.2 (.inl (by assumption)); have hfb := fl_bd (cK X noY) (n := k + j) (by omega); have hn : len' (fl (cK X noY) (k + (j + 1))) = len' (fl (cK X noY) (k + j)) + 1 := (by rw [show k + (j + 1) = k + j + 1 by omega, fl_yes (by omega) hK, len'_snoc]); first | omega | exact ⟨by omega, by omega, by omega⟩ | (rw [show k + (j + 1) = k + j + 1 by omega]; have hy := dl_yes (A := X) (i := e10.den) (by omega) hK (by omega); first | exact (hy.1 (by omega)).symm | (rw [dl_self (by omega)]; exact (hy.2 (by omega)).symm))
                    · intro e9
                      intro c29
                      have hK := cp_new (X := X) (Y := noY) (by omega) (by omega) I2.2 (.inl (by assumption)); have hfb := fl_bd (cK X noY) (n := k + j) (by omega); have hn : len' (fl (cK X noY) (k + (j + 1))) = len' (fl (cK X noY) (k + j)) + 1 := (by rw [show k + (j + 1) = k + j + 1 by omega, fl_yes (by omega) hK, len'_snoc]); first | omega | exact ⟨by omega, by omega, by omega⟩ | (rw [show k + (j + 1) = k + j + 1 by omega]; have hy := dl_yes (A := X) (i := e9.den) (by omega) hK (by omega); first | exact (hy.1 (by omega)).symm | (rw [dl_self (by omega)]; exact (hy.2 (by omega)).symm))
                  · omega
              · intro c30
                refine ⟨j + 1, ?_⟩
                try dsimp only
                refine ⟨?_, ?_, ?_⟩
                · have hK := cpi_old (X := X) (by omega) (by omega) I2.2 (by assumption); have hfb := fl_bd (cK X noY) (n := k + j) (by omega); have hn : len' (fl (cK X noY) (k + (j + 1))) = len' (fl (cK X noY) (k + j)) := (by rw [show k + (j + 1) = k + j + 1 by omega, fl_no (by omega) hK]); first | omega | exact ⟨by omega, by omega, by omega⟩ | (rw [show k + (j + 1) = k + j + 1 by omega]; exact (dl_no (by omega) hK).symm)
                · refine ⟨?_, Int.le_refl _, ?_⟩
                  · refine ⟨rfl, ?_, ⟨rfl, rfl⟩, ?_, rfl, rfl, rfl, Iff.rfl, rfl, rfl, rfl, rfl, rfl, rfl, rfl, rfl, rfl, Iff.rfl, rfl, rfl, rfl, rfl⟩
                    · have hK := cpi_old (X := X) (by omega) (by omega) I2.2 (by assumption); have hfb := fl_bd (cK X noY) (n := k + j) (by omega); have hn : len' (fl (cK X noY) (k + (j + 1))) = len' (fl (cK X noY) (k + j)) := (by rw [show k + (j + 1) = k + j + 1 by omega, fl_no (by omega) hK]); first | omega | exact ⟨by omega, by omega, by omega⟩ | (rw [show k + (j + 1) = k + j + 1 by omega]; exact (dl_no (by omega) hK).symm)
                    · refine ⟨?_, ?_⟩
                      · rfl
                      · intro c31
                        omega
                  · intro e12
                    intro c32
                    have hK := cpi_old (X := X) (by omega) (by omega) I2.2 (by assumption); have hfb := fl_bd (cK X noY) (n := k + j) (by omega); have hn : len' (fl (cK X noY) (k + (j + 1))) = len' (fl (cK X noY) (k + j)) := (by rw [show k + (j + 1) = k + j + 1 by omega, fl_no (by omega) hK]); first | omega | exact ⟨by omega, by omega, by omega⟩ | (rw [show k + (j + 1) = k + j + 1 by omega]; exact (dl_no (by omega) hK).symm)
                · omega
            · intro c33
              refine ⟨?_, ?_, ?_, ?_, ?_, ?_⟩
              · omega
              · omega
              · omega
              · obtain rfl : n = k + j := (by omega); first | exact Int.le_refl _ | rfl | exact dl_at (by omega) | omega
              · obtain rfl : n = k + j := (by omega); first | exact Int.le_refl _ | rfl | exact dl_at (by omega) | omega
              · intro e13
                intro c34
                obtain rfl : n = k + j := (by omega); first | exact Int.le_refl _ | rfl | exact dl_at (by omega) | omega
        · intro c35
          refine ⟨k + 1, ?_⟩
          try dsimp only
          refine ⟨?_, ?_, ?_⟩
          · exact ⟨by omega, cp_next I1.2 (.inl (by assumption))⟩
          · refine ⟨?_, Int.le_refl _, fun _ => fun _ => rfl⟩
            refine ⟨rfl, ?_, ?_⟩
            · rfl
            · intro c36
              omega
          · omega
      · intro c37
        refine ⟨?_, ?_, ?_⟩
        · obtain rfl : n = k := (by omega); have ha := fl_allI (K := (cK X noY)) (m := n) (by omega) I1.2; first | omega | (rw [ha.2 e0.den (by omega) (by omega)]; done)
        · obtain rfl : n = k := (by omega); have ha := fl_allI (K := (cK X noY)) (m := n) (by omega) I1.2; first | omega | (rw [ha.2 e0.den (by omega) (by omega)]; done)
        · intro e16
          intro c38
          obtain rfl : n = k := (by omega); have ha := fl_allI (K := (cK X noY)) (m := n) (by omega) I1.2; first | omega | (rw [ha.2 e16.den (by omega) (by omega)]; done)
def c_Compact_i (X : Int → Int) (n : Int) : Cn Try.prog := ⟨_, _, _, _, _, Compact_i X n⟩
theorem i_cells (A : Int → Int) (B : Int → Int) (D : Int → Int) (F : Int → Int) (n : Int) : RunsTo Try.prog 73 [(.sl 0 4 (.lit 0) (.v fun _ => n) 12)] [some ⟨57, 4, true, (.sym (.v fun _ => n) fun e => [(.int .i64 (.v fun _ => (A (e.den))) (-1000) 1000), (.int .i64 (.v fun _ => (B (e.den))) (-1000) 1000), (.int .i64 (.v fun _ => (D (e.den))) (-1000) 1000), (.int .i64 (.v fun _ => (F (e.den))) (-1000) 1000)])⟩] (.sl 1 5 (.lit 0) (.v fun _ => clN A B D F n) 600) [some ⟨57, 4, true, (.sym (.v fun _ => n) fun e => [(.int .i64 (.v fun _ => (A (e.den))) (-1000) 1000), (.int .i64 (.v fun _ => (B (e.den))) (-1000) 1000), (.int .i64 (.v fun _ => (D (e.den))) (-1000) 1000), (.int .i64 (.v fun _ => (F (e.den))) (-1000) 1000)])⟩, some ⟨88, 5, true, (.sym (.v fun _ => clN A B D F n) fun e => [(.int .i64 (.v fun _ => clA A B D F n e.den) (-1000) 1000), (.int .i64 (.v fun _ => clB A B D F n e.den) (-1000) 1000), (.int .i64 (.v fun _ => clD A B D F n e.den) (-1000) 1000), (.int .i64 (.v fun _ => clF A B D F n e.den) (-1000) 1000), (.int .i64 (.v fun _ => clK A B D F n e.den) 0 12)])⟩] := by
  refine RunsTo.go env Try.func73 rfl Try.call73 rfl rfl (fun _ _ => (.loop [] [0, 1, 2] (Int) (fun x1 => ⟨spl 137 0 [(0, (.sl 0 4 (.lit 0) (.v fun _ => n) 12)), (2, (.raw (.slice none 0 0))), (3, (.sl 1 1 (.lit 0) (.v fun _ => 2 * x1) 24)), (4, (.sl 2 1 (.lit 0) (.v fun _ => 2 * x1) 24)), (15, (.sl 0 4 (.lit 0) (.v fun _ => n) 12)), (16, (.int .i64 (.v fun _ => n) 0 12)), (17, (.int .i64 (.v fun _ => x1) 0 12))], [some ⟨57, 4, true, (.sym (.v fun _ => n) fun e => [(.int .i64 (.v fun _ => (A (e.den))) (-1000) 1000), (.int .i64 (.v fun _ => (B (e.den))) (-1000) 1000), (.int .i64 (.v fun _ => (D (e.den))) (-1000) 1000), (.int .i64 (.v fun _ => (F (e.den))) (-1000) 1000)])⟩, some ⟨3, 1, true, (.sym (.v fun _ => 2 * x1) fun e => [(.int .i64 (.v fun _ => il A D (e.den)) (-1000) 1000)])⟩, some ⟨3, 1, true, (.sym (.v fun _ => 2 * x1) fun e => [(.int .i64 (.v fun _ => il B F (e.den)) (-1000) 1000)])⟩], 1⟩) (fun x1 => 0 ≤ x1 ∧ x1 ≤ n) (fun x1 => (n - x1).toNat) fun x1 => (.ite (.need (.need (.need (.need (.next [0, 1, 2]))))) (.out (.call (c_Sort_i (il A D) (2 * x1)) (.call (c_Sort_i (il B F) (2 * x1)) (.callF (c_Compact_i (srtX (il A D) noY (2 * x1)) (2 * x1)) (.callF (c_Compact_i (srtX (il B F) noY (2 * x1)) (2 * x1)) (.loop [] [0, 1, 2, 3] (Int) (fun x16 => ⟨spl 137 0 [(0, (.sl 0 4 (.lit 0) (.v fun _ => n) 12)), (2, (.raw (.slice none 0 0))), (3, (.sl 1 1 (.lit 0) (.v fun _ => uN A D n) 24)), (4, (.sl 2 1 (.lit 0) (.v fun _ => uN B F n) 24)), (7, (.sl 3 5 (.lit 0) (.v fun _ => gN (uN B F n - 1) (x16 - 1) 0) 600)), (8, (.int .i64 (.v fun _ => x16) 1 25))], [some ⟨57, 4, true, (.sym (.v fun _ => n) fun e => [(.int .i64 (.v fun _ => (A (e.den))) (-1000) 1000), (.int .i64 (.v fun _ => (B (e.den))) (-1000) 1000), (.int .i64 (.v fun _ => (D (e.den))) (-1000) 1000), (.int .i64 (.v fun _ => (F (e.den))) (-1000) 1000)])⟩, some ⟨3, 1, true, (.sym (.v fun _ => uN A D n) fun e => [(.int .i64 (.v fun _ => uX A D n (e.den)) (-1000) 1000)])⟩, some ⟨3, 1, true, (.sym (.v fun _ => uN B F n) fun e => [(.int .i64 (.v fun _ => uX B F n (e.den)) (-1000) 1000)])⟩, some ⟨88, 5, true, (.sym (.v fun _ => gN (uN B F n - 1) (x16 - 1) 0) fun e => [(.int .i64 (.v fun _ => clA A B D F n (e.den)) (-1000) 1000), (.int .i64 (.v fun _ => clB A B D F n (e.den)) (-1000) 1000), (.int .i64 (.v fun _ => clD A B D F n (e.den)) (-1000) 1000), (.int .i64 (.v fun _ => clF A B D F n (e.den)) (-1000) 1000), (.int .i64 (.v fun _ => clK A B D F n (e.den)) 0 12)])⟩], 1⟩) (fun x16 => 1 ≤ x16 ∧ (x16 ≤ uN A D n ∨ x16 = 1)) (fun x16 => (uN A D n - x16).toNat) fun x16 => (.ite (.loop [] [0, 1, 2, 3] (Int) (fun x21 => ⟨spl 137 0 [(0, (.sl 0 4 (.lit 0) (.v fun _ => n) 12)), (2, (.raw (.slice none 0 0))), (3, (.sl 1 1 (.lit 0) (.v fun _ => uN A D n) 24)), (4, (.sl 2 1 (.lit 0) (.v fun _ => uN B F n) 24)), (7, (.sl 3 5 (.lit 0) (.v fun _ => gN (uN B F n - 1) (x16 - 1) (x21 - 1)) 600)), (8, (.int .i64 (.v fun _ => x16) 1 25)), (9, (.int .i64 (.v fun _ => x21) 1 25)), (49, (.int .i64 (.v fun _ => x16) 1 25)), (50, (.sl 1 1 (.lit 0) (.v fun _ => uN A D n) 24)), (51, (.int .i64 (.v fun _ => uN A D n) 0 24)), (52, (.bool (.lt (.v fun _ => x16) (.v fun _ => uN A D n))))], [some ⟨57, 4, true, (.sym (.v fun _ => n) fun e => [(.int .i64 (.v fun _ => (A (e.den))) (-1000) 1000), (.int .i64 (.v fun _ => (B (e.den))) (-1000) 1000), (.int .i64 (.v fun _ => (D (e.den))) (-1000) 1000), (.int .i64 (.v fun _ => (F (e.den))) (-1000) 1000)])⟩, some ⟨3, 1, true, (.sym (.v fun _ => uN A D n) fun e => [(.int .i64 (.v fun _ => uX A D n (e.den)) (-1000) 1000)])⟩, some ⟨3, 1, true, (.sym (.v fun _ => uN B F n) fun e => [(.int .i64 (.v fun _ => uX B F n (e.den)) (-1000) 1000)])⟩, some ⟨88, 5, true, (.sym (.v fun _ => gN (uN B F n - 1) (x16 - 1) (x21 - 1)) fun e => [(.int .i64 (.v fun _ => clA A B D F n (e.den)) (-1000) 1000), (.int .i64 (.v fun _ => clB A B D F n (e.den)) (-1000) 1000), (.int .i64 (.v fun _ => clD A B D F n (e.den)) (-1000) 1000), (.int .i64 (.v fun _ => clF A B D F n (e.den)) (-1000) 1000), (.int .i64 (.v fun _ => clK A B D F n (e.den)) 0 12)])⟩], 1⟩) (fun x21 => (1 ≤ x16 ∧ x16 < uN A D n) ∧ 1 ≤ x21 ∧ x21 ≤ uN B F n) (fun x21 => (uN B F n - x21).toNat) fun x21 => (.ite (.need (.need (.need (.need (.need (.need (.need (.need (.loop [] [0, 1, 2, 3, 26] (Int) (fun x27 => ⟨spl 137 0 [(0, (.sl 0 4 (.lit 0) (.v fun _ => n) 12)), (2, (.raw (.slice none 0 0))), (3, (.sl 1 1 (.lit 0) (.v fun _ => uN A D n) 24)), (4, (.sl 2 1 (.lit 0) (.v fun _ => uN B F n) 24)), (7, (.sl 3 5 (.lit 0) (.v fun _ => gN (uN B F n - 1) (x16 - 1) (x21 - 1)) 600)), (8, (.int .i64 (.v fun _ => x16) 1 25)), (9, (.int .i64 (.v fun _ => x21) 1 25)), (10, (.ptr 4 5 (.lit 0) 0)), (49, (.int .i64 (.v fun _ => x16) 1 25)), (50, (.sl 1 1 (.lit 0) (.v fun _ => uN A D n) 24)), (51, (.int .i64 (.v fun _ => uN A D n) 0 24)), (52, (.bool (.lt (.v fun _ => x16) (.v fun _ => uN A D n)))), (55, (.int .i64 (.v fun _ => x21) 1 25)), (56, (.sl 2 1 (.lit 0) (.v fun _ => uN B F n) 24)), (57, (.int .i64 (.v fun _ => uN B F n) 0 24)), (58, (.bool (.lt (.v fun _ => x21) (.v fun _ => uN B F n)))), (61, (.sl 1 1 (.lit 0) (.v fun _ => uN A D n) 24)), (62, (.int .i64 (.v fun _ => x16) 1 25)), (63, (.int .i64 (.sub (.v fun _ => x16) (.lit 1)) 0 24)), (64, (.ptr 1 1 (.sub (.v fun _ => x16) (.lit 1)) 0)), (65, (.int .i64 (.v fun _ => uX A D n (x16 - 1)) (-1000) 1000)), (66, (.sl 2 1 (.lit 0) (.v fun _ => uN B F n) 24)), (67, (.int .i64 (.v fun _ => x21) 1 25)), (68, (.int .i64 (.sub (.v fun _ => x21) (.lit 1)) 0 24)), (69, (.ptr 2 1 (.sub (.v fun _ => x21) (.lit 1)) 0)), (70, (.int .i64 (.v fun _ => uX B F n (x21 - 1)) (-1000) 1000)), (71, (.agg [(.int .i64 (.v fun _ => uX A D n (x16 - 1)) (-1000) 1000), (.int .i64 (.v fun _ => uX B F n (x21 - 1)) (-1000) 1000)])), (72, (.sl 1 1 (.lit 0) (.v fun _ => uN A D n) 24)), (73, (.int .i64 (.v fun _ => x16) 1 25)), (74, (.ptr 1 1 (.v fun _ => x16) 0)), (75, (.int .i64 (.v fun _ => uX A D n (x16)) (-1000) 1000)), (76, (.sl 2 1 (.lit 0) (.v fun _ => uN B F n) 24)), (77, (.int .i64 (.v fun _ => x21) 1 25)), (78, (.ptr 2 1 (.v fun _ => x21) 0)), (79, (.int .i64 (.v fun _ => uX B F n (x21)) (-1000) 1000)), (80, (.agg [(.int .i64 (.v fun _ => uX A D n (x16)) (-1000) 1000), (.int .i64 (.v fun _ => uX B F n (x21)) (-1000) 1000)])), (81, (.agg [(.int .i64 (.v fun _ => uX A D n (x16 - 1)) (-1000) 1000), (.int .i64 (.v fun _ => uX B F n (x21 - 1)) (-1000) 1000), (.int .i64 (.v fun _ => uX A D n (x16)) (-1000) 1000), (.int .i64 (.v fun _ => uX B F n (x21)) (-1000) 1000)])), (82, (.agg [(.int .i64 (.v fun _ => uX A D n (x16 - 1)) (-1000) 1000), (.int .i64 (.v fun _ => uX B F n (x21 - 1)) (-1000) 1000), (.int .i64 (.v fun _ => uX A D n (x16)) (-1000) 1000), (.int .i64 (.v fun _ => uX B F n (x21)) (-1000) 1000), (.int .i64 (.lit 0) 0 0)])), (83, (.sl 0 4 (.lit 0) (.v fun _ => n) 12)), (84, (.int .i64 (.v fun _ => n) 0 12)), (85, (.int .i64 (.v fun _ => x27) 0 12))], [some ⟨57, 4, true, (.sym (.v fun _ => n) fun e => [(.int .i64 (.v fun _ => (A (e.den))) (-1000) 1000), (.int .i64 (.v fun _ => (B (e.den))) (-1000) 1000), (.int .i64 (.v fun _ => (D (e.den))) (-1000) 1000), (.int .i64 (.v fun _ => (F (e.den))) (-1000) 1000)])⟩, some ⟨3, 1, true, (.sym (.v fun _ => uN A D n) fun e => [(.int .i64 (.v fun _ => uX A D n (e.den)) (-1000) 1000)])⟩, some ⟨3, 1, true, (.sym (.v fun _ => uN B F n) fun e => [(.int .i64 (.v fun _ => uX B F n (e.den)) (-1000) 1000)])⟩, some ⟨88, 5, true, (.sym (.v fun _ => gN (uN B F n - 1) (x16 - 1) (x21 - 1)) fun e => [(.int .i64 (.v fun _ => clA A B D F n (e.den)) (-1000) 1000), (.int .i64 (.v fun _ => clB A B D F n (e.den)) (-1000) 1000), (.int .i64 (.v fun _ => clD A B D F n (e.den)) (-1000) 1000), (.int .i64 (.v fun _ => clF A B D F n (e.den)) (-1000) 1000), (.int .i64 (.v fun _ => clK A B D F n (e.den)) 0 12)])⟩, some ⟨88, 5, true, (.lit [[(.int .i64 (.v fun _ => uX A D n (x16 - 1)) (-1000) 1000), (.int .i64 (.v fun _ => uX B F n (x21 - 1)) (-1000) 1000), (.int .i64 (.v fun _ => uX A D n x16) (-1000) 1000), (.int .i64 (.v fun _ => uX B F n x21) (-1000) 1000), (.int .i64 (.v fun _ => len' (fl (inc A B D F (uX A D n (x16 - 1)) (uX B F n (x21 - 1)) (uX A D n x16) (uX B F n x21)) x27)) 0 12)]])⟩], 1⟩) (fun x27 => ((1 ≤ x16 ∧ x16 < uN A D n) ∧ 1 ≤ x21 ∧ x21 < uN B F n) ∧ 0 ≤ x27 ∧ x27 ≤ n) (fun x27 => (n - x27).toNat) fun x27 => (.ite (.need (.need (.ite (.ite (.ite (.ite (.next [0, 1, 2, 3, 4]) (.next [0, 1, 2, 3, 4])) (.next [0, 1, 2, 3, 4])) (.next [0, 1, 2, 3, 4])) (.next [0, 1, 2, 3, 4])))) (.out (.need (.next [0, 1, 2, 3]))))))))))))) (.out (.next [0, 1, 2, 3])))) (.out .ret))))))))))) (G := (0 ≤ n ∧ n ≤ 12) → (∀ e71 : E, ((0 ≤ e71.den ∧ e71.den < n) → (((-1000) ≤ ((A (e71.den))) ∧ ((A (e71.den))) ≤ 1000) ∧ (((-1000) ≤ ((B (e71.den))) ∧ ((B (e71.den))) ≤ 1000) ∧ (((-1000) ≤ ((D (e71.den))) ∧ ((D (e71.den))) ≤ 1000) ∧ ((-1000) ≤ ((F (e71.den))) ∧ ((F (e71.den))) ≤ 1000)))))) → ((∃ y2 : Int, ((0 ≤ y2 ∧ y2 ≤ n) ∧ (((n = n) ∧ ((((.slice none 0 0) : Value) = (.slice none 0 0)) ∧ (((0 : Int) = (2 * y2)) ∧ (((0 : Int) = (2 * y2)) ∧ ((n = n) ∧ ((n = n) ∧ ((0 : Int) = y2))))))) ∧ (((n ≤ n) ∧ (∀ e3 : E, ((0 ≤ e3.den ∧ e3.den < n) → ((((A (e3.den))) = ((A (e3.den)))) ∧ ((((B (e3.den))) = ((B (e3.den)))) ∧ ((((D (e3.den))) = ((D (e3.den)))) ∧ (((F (e3.den))) = ((F (e3.den)))))))))) ∧ (((2 * y2) = 0) ∧ ((2 * y2) = 0)))))) ∧ (∀ x1 : Int, ((0 ≤ x1 ∧ x1 ≤ n) → (((x1 < n) → ((((0 ≤ x1) ∧ (x1 < n))) ∧ ((x1 < n) ∧ (((2 * x1) = (2 * x1)) ∧ (((2 * x1) = (2 * x1)) ∧ (∃ y4 : Int, ((0 ≤ y4 ∧ y4 ≤ n) ∧ ((((n = n) ∧ ((((.slice none 0 0) : Value) = (.slice none 0 0)) ∧ (((((2 * x1) + 2) = (2 * y4)) ∧ ((((2 * x1) + 2) ≤ 26) → ((2 * y4) ≤ 24))) ∧ (((((2 * x1) + 2) = (2 * y4)) ∧ ((((2 * x1) + 2) ≤ 26) → ((2 * y4) ≤ 24))) ∧ ((n = n) ∧ ((n = n) ∧ (((x1 + 1) = y4) ∧ ((1 ≤ (x1 + 1) ∧ (x1 + 1) ≤ 13) → (0 ≤ y4 ∧ y4 ≤ 12))))))))) ∧ (((n ≤ n) ∧ (∀ e11 : E, ((0 ≤ e11.den ∧ e11.den < n) → ((((A (e11.den))) = ((A (e11.den)))) ∧ ((((B (e11.den))) = ((B (e11.den)))) ∧ ((((D (e11.den))) = ((D (e11.den)))) ∧ (((F (e11.den))) = ((F (e11.den)))))))))) ∧ ((((0 : Int) ≤ ((2 * x1) + 1) ∧ (2 * y4) = ((2 * x1) + 1) + 1) ∧ ((((0 : Int) ≤ (2 * x1) ∧ ((2 * x1) + 1) = (2 * x1) + 1) ∧ ((((2 * x1) ≤ (2 * x1)) ∧ (∀ e10 : E, ((0 ≤ e10.den ∧ e10.den < (2 * x1)) → ((il A D (e10.den)) = (il A D (e10.den)))))) ∧ (∀ e9 : E, ((e9.den = (2 * x1)) → (((A (x1))) = (il A D (e9.den))))))) ∧ (∀ e8 : E, ((e8.den = ((2 * x1) + 1)) → (((D (x1))) = (il A D (e8.den))))))) ∧ (((0 : Int) ≤ ((2 * x1) + 1) ∧ (2 * y4) = ((2 * x1) + 1) + 1) ∧ ((((0 : Int) ≤ (2 * x1) ∧ ((2 * x1) + 1) = (2 * x1) + 1) ∧ ((((2 * x1) ≤ (2 * x1)) ∧ (∀ e7 : E, ((0 ≤ e7.den ∧ e7.den < (2 * x1)) → ((il B F (e7.den)) = (il B F (e7.den)))))) ∧ (∀ e6 : E, ((e6.den = (2 * x1)) → (((B (x1))) = (il B F (e6.den))))))) ∧ (∀ e5 : E, ((e5.den = ((2 * x1) + 1)) → (((F (x1))) = (il B F (e5.den)))))))))) ∧ ((n - y4).toNat < (n - x1).toNat))))))))) ∧ ((n ≤ x1) → (((2 * x1) = (2 * x1)) ∧ ((((2 * x1) ≤ (2 * x1)) ∧ (∀ e12 : E, ((0 ≤ e12.den ∧ e12.den < (2 * x1)) → ((il A D (e12.den)) = (il A D ((e12.den))))))) ∧ (((2 * x1) = (2 * x1)) ∧ ((((2 * x1) ≤ (2 * x1)) ∧ (∀ e13 : E, ((0 ≤ e13.den ∧ e13.den < (2 * x1)) → ((il B F (e13.den)) = (il B F ((e13.den))))))) ∧ (((2 * x1) = (2 * x1)) ∧ ((((2 * x1) ≤ (2 * x1)) ∧ (∀ e14 : E, ((0 ≤ e14.den ∧ e14.den < (2 * x1)) → ((srtX (il A D) noY (2 * x1) (e14.den)) = (srtX (il A D) noY (2 * x1) ((e14.den))))))) ∧ ((0 ≤ (len' (fl (cK (srtX (il A D) noY (2 * x1)) noY) (2 * x1))) ∧ (len' (fl (cK (srtX (il A D) noY (2 * x1)) noY) (2 * x1))) ≤ 1048576) → (((2 * x1) = (2 * x1)) ∧ ((((2 * x1) ≤ (2 * x1)) ∧ (∀ e15 : E, ((0 ≤ e15.den ∧ e15.den < (2 * x1)) → ((srtX (il B F) noY (2 * x1) (e15.den)) = (srtX (il B F) noY (2 * x1) ((e15.den))))))) ∧ ((0 ≤ (len' (fl (cK (srtX (il B F) noY (2 * x1)) noY) (2 * x1))) ∧ (len' (fl (cK (srtX (il B F) noY (2 * x1)) noY) (2 * x1))) ≤ 1048576) → ((∃ y17 : Int, ((1 ≤ y17 ∧ (y17 ≤ uN A D n ∨ y17 = 1)) ∧ (((n = n) ∧ ((((.slice none 0 0) : Value) = (.slice none 0 0)) ∧ ((((len' (fl (cK (srtX (il A D) noY (2 * x1)) noY) (2 * x1))) = (uN A D n)) ∧ (((len' (fl (cK (srtX (il A D) noY (2 * x1)) noY) (2 * x1))) ≤ 1048576) → ((uN A D n) ≤ 24))) ∧ ((((len' (fl (cK (srtX (il B F) noY (2 * x1)) noY) (2 * x1))) = (uN B F n)) ∧ (((len' (fl (cK (srtX (il B F) noY (2 * x1)) noY) (2 * x1))) ≤ 1048576) → ((uN B F n) ≤ 24))) ∧ (((0 : Int) = (gN (uN B F n - 1) (y17 - 1) 0)) ∧ ((1 : Int) = y17)))))) ∧ (((n ≤ n) ∧ (∀ e20 : E, ((0 ≤ e20.den ∧ e20.den < n) → ((((A (e20.den))) = ((A (e20.den)))) ∧ ((((B (e20.den))) = ((B (e20.den)))) ∧ ((((D (e20.den))) = ((D (e20.den)))) ∧ (((F (e20.den))) = ((F (e20.den)))))))))) ∧ ((((uN A D n) ≤ (len' (fl (cK (srtX (il A D) noY (2 * x1)) noY) (2 * x1)))) ∧ (∀ e19 : E, ((0 ≤ e19.den ∧ e19.den < (uN A D n)) → ((((srtX (il A D) noY (2 * x1) ((selL (fl (cK (srtX (il A D) noY (2 * x1)) noY) (2 * x1)) (e19.den))))) = (uX A D n (e19.den))) ∧ (((-9223372036854775808) ≤ ((srtX (il A D) noY (2 * x1) ((selL (fl (cK (srtX (il A D) noY (2 * x1)) noY) (2 * x1)) (e19.den))))) ∧ ((srtX (il A D) noY (2 * x1) ((selL (fl (cK (srtX (il A D) noY (2 * x1)) noY) (2 * x1)) (e19.den))))) ≤ 9223372036854775807) → ((-1000) ≤ (uX A D n (e19.den)) ∧ (uX A D n (e19.den)) ≤ 1000)))))) ∧ ((((uN B F n) ≤ (len' (fl (cK (srtX (il B F) noY (2 * x1)) noY) (2 * x1)))) ∧ (∀ e18 : E, ((0 ≤ e18.den ∧ e18.den < (uN B F n)) → ((((srtX (il B F) noY (2 * x1) ((selL (fl (cK (srtX (il B F) noY (2 * x1)) noY) (2 * x1)) (e18.den))))) = (uX B F n (e18.den))) ∧ (((-9223372036854775808) ≤ ((srtX (il B F) noY (2 * x1) ((selL (fl (cK (srtX (il B F) noY (2 * x1)) noY) (2 * x1)) (e18.den))))) ∧ ((srtX (il B F) noY (2 * x1) ((selL (fl (cK (srtX (il B F) noY (2 * x1)) noY) (2 * x1)) (e18.den))))) ≤ 9223372036854775807) → ((-1000) ≤ (uX B F n (e18.den)) ∧ (uX B F n (e18.den)) ≤ 1000)))))) ∧ ((gN (uN B F n - 1) (y17 - 1) 0) = 0))))))) ∧ (∀ x16 : Int, ((1 ≤ x16 ∧ (x16 ≤ uN A D n ∨ x16 = 1)) → (((x16 < (uN A D n)) → ((∃ y22 : Int, (((1 ≤ x16 ∧ x16 < uN A D n) ∧ 1 ≤ y22 ∧ y22 ≤ uN B F n) ∧ (((n = n) ∧ ((((.slice none 0 0) : Value) = (.slice none 0 0)) ∧ (((uN A D n) = (uN A D n)) ∧ (((uN B F n) = (uN B F n)) ∧ (((gN (uN B F n - 1) (x16 - 1) 0) = (gN (uN B F n - 1) (x16 - 1) (y22 - 1))) ∧ ((x16 = x16) ∧ (((1 : Int) = y22) ∧ ((x16 = x16) ∧ (((uN A D n) = (uN A D n)) ∧ (((uN A D n) = (uN A D n)) ∧ ((x16 < (uN A D n)) ↔ (x16 < (uN A D n))))))))))))) ∧ (((n ≤ n) ∧ (∀ e26 : E, ((0 ≤ e26.den ∧ e26.den < n) → ((((A (e26.den))) = ((A (e26.den)))) ∧ ((((B (e26.den))) = ((B (e26.den)))) ∧ ((((D (e26.den))) = ((D (e26.den)))) ∧ (((F (e26.den))) = ((F (e26.den)))))))))) ∧ ((((uN A D n) ≤ (uN A D n)) ∧ (∀ e25 : E, ((0 ≤ e25.den ∧ e25.den < (uN A D n)) → ((uX A D n (e25.den)) = (uX A D n (e25.den)))))) ∧ ((((uN B F n) ≤ (uN B F n)) ∧ (∀ e24 : E, ((0 ≤ e24.den ∧ e24.den < (uN B F n)) → ((uX B F n (e24.den)) = (uX B F n (e24.den)))))) ∧ (((gN (uN B F n - 1) (x16 - 1) (y22 - 1)) ≤ (gN (uN B F n - 1) (x16 - 1) 0)) ∧ (∀ e23 : E, ((0 ≤ e23.den ∧ e23.den < (gN (uN B F n - 1) (x16 - 1) (y22 - 1))) → (((clA A B D F n (e23.den)) = (clA A B D F n (e23.den))) ∧ (((clB A B D F n (e23.den)) = (clB A B D F n (e23.den))) ∧ (((clD A B D F n (e23.den)) = (clD A B D F n (e23.den))) ∧ (((clF A B D F n (e23.den)) = (clF A B D F n (e23.den))) ∧ ((clK A B D F n (e23.den)) = (clK A B D F n (e23.den)))))))))))))))) ∧ (∀ x21 : Int, (((1 ≤ x16 ∧ x16 < uN A D n) ∧ 1 ≤ x21 ∧ x21 ≤ uN B F n) → (((x21 < (uN B F n)) → ((((0 ≤ (x16 - 1)) ∧ ((x16 - 1) < (uN A D n)))) ∧ (((x16 - 1) < (uN A D n)) ∧ ((((0 ≤ (x21 - 1)) ∧ ((x21 - 1) < (uN B F n)))) ∧ (((x21 - 1) < (uN B F n)) ∧ ((((0 ≤ x16) ∧ (x16 < (uN A D n)))) ∧ ((x16 < (uN A D n)) ∧ ((((0 ≤ x21) ∧ (x21 < (uN B F n)))) ∧ ((x21 < (uN B F n)) ∧ ((∃ y28 : Int, ((((1 ≤ x16 ∧ x16 < uN A D n) ∧ 1 ≤ x21 ∧ x21 < uN B F n) ∧ 0 ≤ y28 ∧ y28 ≤ n) ∧ (((n = n) ∧ ((((.slice none 0 0) : Value) = (.slice none 0 0)) ∧ (((uN A D n) = (uN A D n)) ∧ (((uN B F n) = (uN B F n)) ∧ (((gN (uN B F n - 1) (x16 - 1) (x21 - 1)) = (gN (uN B F n - 1) (x16 - 1) (x21 - 1))) ∧ ((x16 = x16) ∧ ((x21 = x21) ∧ ((x16 = x16) ∧ (((uN A D n) = (uN A D n)) ∧ (((uN A D n) = (uN A D n)) ∧ (((x16 < (uN A D n)) ↔ (x16 < (uN A D n))) ∧ ((x21 = x21) ∧ (((uN B F n) = (uN B F n)) ∧ (((uN B F n) = (uN B F n)) ∧ (((x21 < (uN B F n)) ↔ (x21 < (uN B F n))) ∧ (((uN A D n) = (uN A D n)) ∧ ((x16 = x16) ∧ (((x16 - 1) = (x16 - 1)) ∧ (((x16 - 1) = (x16 - 1)) ∧ (((uX A D n (x16 - 1)) = (uX A D n (x16 - 1))) ∧ (((uN B F n) = (uN B F n)) ∧ ((x21 = x21) ∧ (((x21 - 1) = (x21 - 1)) ∧ (((x21 - 1) = (x21 - 1)) ∧ (((uX B F n (x21 - 1)) = (uX B F n (x21 - 1))) ∧ ((((uX A D n (x16 - 1)) = (uX A D n (x16 - 1))) ∧ ((uX B F n (x21 - 1)) = (uX B F n (x21 - 1)))) ∧ (((uN A D n) = (uN A D n)) ∧ ((x16 = x16) ∧ ((x16 = x16) ∧ (((uX A D n (x16)) = (uX A D n (x16))) ∧ (((uN B F n) = (uN B F n)) ∧ ((x21 = x21) ∧ ((x21 = x21) ∧ (((uX B F n (x21)) = (uX B F n (x21))) ∧ ((((uX A D n (x16)) = (uX A D n (x16))) ∧ ((uX B F n (x21)) = (uX B F n (x21)))) ∧ ((((uX A D n (x16 - 1)) = (uX A D n (x16 - 1))) ∧ (((uX B F n (x21 - 1)) = (uX B F n (x21 - 1))) ∧ (((uX A D n (x16)) = (uX A D n (x16))) ∧ ((uX B F n (x21)) = (uX B F n (x21)))))) ∧ ((((uX A D n (x16 - 1)) = (uX A D n (x16 - 1))) ∧ (((uX B F n (x21 - 1)) = (uX B F n (x21 - 1))) ∧ (((uX A D n (x16)) = (uX A D n (x16))) ∧ ((uX B F n (x21)) = (uX B F n (x21)))))) ∧ ((n = n) ∧ ((n = n) ∧ ((0 : Int) = y28)))))))))))))))))))))))))))))))))))))))) ∧ (((n ≤ n) ∧ (∀ e32 : E, ((0 ≤ e32.den ∧ e32.den < n) → ((((A (e32.den))) = ((A (e32.den)))) ∧ ((((B (e32.den))) = ((B (e32.den)))) ∧ ((((D (e32.den))) = ((D (e32.den)))) ∧ (((F (e32.den))) = ((F (e32.den)))))))))) ∧ ((((uN A D n) ≤ (uN A D n)) ∧ (∀ e31 : E, ((0 ≤ e31.den ∧ e31.den < (uN A D n)) → ((uX A D n (e31.den)) = (uX A D n (e31.den)))))) ∧ ((((uN B F n) ≤ (uN B F n)) ∧ (∀ e30 : E, ((0 ≤ e30.den ∧ e30.den < (uN B F n)) → ((uX B F n (e30.den)) = (uX B F n (e30.den)))))) ∧ ((((gN (uN B F n - 1) (x16 - 1) (x21 - 1)) ≤ (gN (uN B F n - 1) (x16 - 1) (x21 - 1))) ∧ (∀ e29 : E, ((0 ≤ e29.den ∧ e29.den < (gN (uN B F n - 1) (x16 - 1) (x21 - 1))) → (((clA A B D F n (e29.den)) = (clA A B D F n (e29.den))) ∧ (((clB A B D F n (e29.den)) = (clB A B D F n (e29.den))) ∧ (((clD A B D F n (e29.den)) = (clD A B D F n (e29.den))) ∧ (((clF A B D F n (e29.den)) = (clF A B D F n (e29.den))) ∧ ((clK A B D F n (e29.den)) = (clK A B D F n (e29.den)))))))))) ∧ (((uX A D n (x16 - 1)) = (uX A D n (x16 - 1))) ∧ (((uX B F n (x21 - 1)) = (uX B F n (x21 - 1))) ∧ (((uX A D n (x16)) = (uX A D n x16)) ∧ (((uX B F n (x21)) = (uX B F n x21)) ∧ ((0 : Int) = (len' (fl (inc A B D F (uX A D n (x16 - 1)) (uX B F n (x21 - 1)) (uX A D n x16) (uX B F n x21)) y28)))))))))))))) ∧ (∀ x27 : Int, ((((1 ≤ x16 ∧ x16 < uN A D n) ∧ 1 ≤ x21 ∧ x21 < uN B F n) ∧ 0 ≤ x27 ∧ x27 ≤ n) → (((x27 < n) → ((((0 ≤ x27) ∧ (x27 < n))) ∧ ((x27 < n) ∧ (((((A (x27))) ≤ (uX A D n (x16 - 1))) → ((((uX A D n x16) ≤ ((D (x27)))) → (((((B (x27))) ≤ (uX B F n (x21 - 1))) → ((((uX B F n x21) ≤ ((F (x27)))) → (∃ y33 : Int, ((((1 ≤ x16 ∧ x16 < uN A D n) ∧ 1 ≤ x21 ∧ x21 < uN B F n) ∧ 0 ≤ y33 ∧ y33 ≤ n) ∧ ((((n = n) ∧ ((((.slice none 0 0) : Value) = (.slice none 0 0)) ∧ (((uN A D n) = (uN A D n)) ∧ (((uN B F n) = (uN B F n)) ∧ (((gN (uN B F n - 1) (x16 - 1) (x21 - 1)) = (gN (uN B F n - 1) (x16 - 1) (x21 - 1))) ∧ ((x16 = x16) ∧ ((x21 = x21) ∧ ((x16 = x16) ∧ (((uN A D n) = (uN A D n)) ∧ (((uN A D n) = (uN A D n)) ∧ (((x16 < (uN A D n)) ↔ (x16 < (uN A D n))) ∧ ((x21 = x21) ∧ (((uN B F n) = (uN B F n)) ∧ (((uN B F n) = (uN B F n)) ∧ (((x21 < (uN B F n)) ↔ (x21 < (uN B F n))) ∧ (((uN A D n) = (uN A D n)) ∧ ((x16 = x16) ∧ (((x16 - 1) = (x16 - 1)) ∧ (((x16 - 1) = (x16 - 1)) ∧ (((uX A D n (x16 - 1)) = (uX A D n (x16 - 1))) ∧ (((uN B F n) = (uN B F n)) ∧ ((x21 = x21) ∧ (((x21 - 1) = (x21 - 1)) ∧ (((x21 - 1) = (x21 - 1)) ∧ (((uX B F n (x21 - 1)) = (uX B F n (x21 - 1))) ∧ ((((uX A D n (x16 - 1)) = (uX A D n (x16 - 1))) ∧ ((uX B F n (x21 - 1)) = (uX B F n (x21 - 1)))) ∧ (((uN A D n) = (uN A D n)) ∧ ((x16 = x16) ∧ ((x16 = x16) ∧ (((uX A D n (x16)) = (uX A D n (x16))) ∧ (((uN B F n) = (uN B F n)) ∧ ((x21 = x21) ∧ ((x21 = x21) ∧ (((uX B F n (x21)) = (uX B F n (x21))) ∧ ((((uX A D n (x16)) = (uX A D n (x16))) ∧ ((uX B F n (x21)) = (uX B F n (x21)))) ∧ ((((uX A D n (x16 - 1)) = (uX A D n (x16 - 1))) ∧ (((uX B F n (x21 - 1)) = (uX B F n (x21 - 1))) ∧ (((uX A D n (x16)) = (uX A D n (x16))) ∧ ((uX B F n (x21)) = (uX B F n (x21)))))) ∧ ((((uX A D n (x16 - 1)) = (uX A D n (x16 - 1))) ∧ (((uX B F n (x21 - 1)) = (uX B F n (x21 - 1))) ∧ (((uX A D n (x16)) = (uX A D n (x16))) ∧ ((uX B F n (x21)) = (uX B F n (x21)))))) ∧ ((n = n) ∧ ((n = n) ∧ (((x27 + 1) = y33) ∧ ((1 ≤ (x27 + 1) ∧ (x27 + 1) ≤ 13) → (0 ≤ y33 ∧ y33 ≤ 12)))))))))))))))))))))))))))))))))))))))))) ∧ (((n ≤ n) ∧ (∀ e37 : E, ((0 ≤ e37.den ∧ e37.den < n) → ((((A (e37.den))) = ((A (e37.den)))) ∧ ((((B (e37.den))) = ((B (e37.den)))) ∧ ((((D (e37.den))) = ((D (e37.den)))) ∧ (((F (e37.den))) = ((F (e37.den)))))))))) ∧ ((((uN A D n) ≤ (uN A D n)) ∧ (∀ e36 : E, ((0 ≤ e36.den ∧ e36.den < (uN A D n)) → ((uX A D n (e36.den)) = (uX A D n (e36.den)))))) ∧ ((((uN B F n) ≤ (uN B F n)) ∧ (∀ e35 : E, ((0 ≤ e35.den ∧ e35.den < (uN B F n)) → ((uX B F n (e35.den)) = (uX B F n (e35.den)))))) ∧ ((((gN (uN B F n - 1) (x16 - 1) (x21 - 1)) ≤ (gN (uN B F n - 1) (x16 - 1) (x21 - 1))) ∧ (∀ e34 : E, ((0 ≤ e34.den ∧ e34.den < (gN (uN B F n - 1) (x16 - 1) (x21 - 1))) → (((clA A B D F n (e34.den)) = (clA A B D F n (e34.den))) ∧ (((clB A B D F n (e34.den)) = (clB A B D F n (e34.den))) ∧ (((clD A B D F n (e34.den)) = (clD A B D F n (e34.den))) ∧ (((clF A B D F n (e34.den)) = (clF A B D F n (e34.den))) ∧ ((clK A B D F n (e34.den)) = (clK A B D F n (e34.den)))))))))) ∧ (((uX A D n (x16 - 1)) = (uX A D n (x16 - 1))) ∧ (((uX B F n (x21 - 1)) = (uX B F n (x21 - 1))) ∧ (((uX A D n x16) = (uX A D n x16)) ∧ (((uX B F n x21) = (uX B F n x21)) ∧ ((((len' (fl (inc A B D F (uX A D n (x16 - 1)) (uX B F n (x21 - 1)) (uX A D n x16) (uX B F n x21)) x27)) + 1) = (len' (fl (inc A B D F (uX A D n (x16 - 1)) (uX B F n (x21 - 1)) (uX A D n x16) (uX B F n x21)) y33))) ∧ ((1 ≤ ((len' (fl (inc A B D F (uX A D n (x16 - 1)) (uX B F n (x21 - 1)) (uX A D n x16) (uX B F n x21)) x27)) + 1) ∧ ((len' (fl (inc A B D F (uX A D n (x16 - 1)) (uX B F n (x21 - 1)) (uX A D n x16) (uX B F n x21)) x27)) + 1) ≤ 13) → (0 ≤ (len' (fl (inc A B D F (uX A D n (x16 - 1)) (uX B F n (x21 - 1)) (uX A D n x16) (uX B F n x21)) y33)) ∧ (len' (fl (inc A B D F (uX A D n (x16 - 1)) (uX B F n (x21 - 1)) (uX A D n x16) (uX B F n x21)) y33)) ≤ 12)))))))))))) ∧ ((n - y33).toNat < (n - x27).toNat))))) ∧ ((((F (x27))) < (uX B F n x21)) → (∃ y38 : Int, ((((1 ≤ x16 ∧ x16 < uN A D n) ∧ 1 ≤ x21 ∧ x21 < uN B F n) ∧ 0 ≤ y38 ∧ y38 ≤ n) ∧ ((((n = n) ∧ ((((.slice none 0 0) : Value) = (.slice none 0 0)) ∧ (((uN A D n) = (uN A D n)) ∧ (((uN B F n) = (uN B F n)) ∧ (((gN (uN B F n - 1) (x16 - 1) (x21 - 1)) = (gN (uN B F n - 1) (x16 - 1) (x21 - 1))) ∧ ((x16 = x16) ∧ ((x21 = x21) ∧ ((x16 = x16) ∧ (((uN A D n) = (uN A D n)) ∧ (((uN A D n) = (uN A D n)) ∧ (((x16 < (uN A D n)) ↔ (x16 < (uN A D n))) ∧ ((x21 = x21) ∧ (((uN B F n) = (uN B F n)) ∧ (((uN B F n) = (uN B F n)) ∧ (((x21 < (uN B F n)) ↔ (x21 < (uN B F n))) ∧ (((uN A D n) = (uN A D n)) ∧ ((x16 = x16) ∧ (((x16 - 1) = (x16 - 1)) ∧ (((x16 - 1) = (x16 - 1)) ∧ (((uX A D n (x16 - 1)) = (uX A D n (x16 - 1))) ∧ (((uN B F n) = (uN B F n)) ∧ ((x21 = x21) ∧ (((x21 - 1) = (x21 - 1)) ∧ (((x21 - 1) = (x21 - 1)) ∧ (((uX B F n (x21 - 1)) = (uX B F n (x21 - 1))) ∧ ((((uX A D n (x16 - 1)) = (uX A D n (x16 - 1))) ∧ ((uX B F n (x21 - 1)) = (uX B F n (x21 - 1)))) ∧ (((uN A D n) = (uN A D n)) ∧ ((x16 = x16) ∧ ((x16 = x16) ∧ (((uX A D n (x16)) = (uX A D n (x16))) ∧ (((uN B F n) = (uN B F n)) ∧ ((x21 = x21) ∧ ((x21 = x21) ∧ (((uX B F n (x21)) = (uX B F n (x21))) ∧ ((((uX A D n (x16)) = (uX A D n (x16))) ∧ ((uX B F n (x21)) = (uX B F n (x21)))) ∧ ((((uX A D n (x16 - 1)) = (uX A D n (x16 - 1))) ∧ (((uX B F n (x21 - 1)) = (uX B F n (x21 - 1))) ∧ (((uX A D n (x16)) = (uX A D n (x16))) ∧ ((uX B F n (x21)) = (uX B F n (x21)))))) ∧ ((((uX A D n (x16 - 1)) = (uX A D n (x16 - 1))) ∧ (((uX B F n (x21 - 1)) = (uX B F n (x21 - 1))) ∧ (((uX A D n (x16)) = (uX A D n (x16))) ∧ ((uX B F n (x21)) = (uX B F n (x21)))))) ∧ ((n = n) ∧ ((n = n) ∧ (((x27 + 1) = y38) ∧ ((1 ≤ (x27 + 1) ∧ (x27 + 1) ≤ 13) → (0 ≤ y38 ∧ y38 ≤ 12)))))))))))))))))))))))))))))))))))))))))) ∧ (((n ≤ n) ∧ (∀ e42 : E, ((0 ≤ e42.den ∧ e42.den < n) → ((((A (e42.den))) = ((A (e42.den)))) ∧ ((((B (e42.den))) = ((B (e42.den)))) ∧ ((((D (e42.den))) = ((D (e42.den)))) ∧ (((F (e42.den))) = ((F (e42.den)))))))))) ∧ ((((uN A D n) ≤ (uN A D n)) ∧ (∀ e41 : E, ((0 ≤ e41.den ∧ e41.den < (uN A D n)) → ((uX A D n (e41.den)) = (uX A D n (e41.den)))))) ∧ ((((uN B F n) ≤ (uN B F n)) ∧ (∀ e40 : E, ((0 ≤ e40.den ∧ e40.den < (uN B F n)) → ((uX B F n (e40.den)) = (uX B F n (e40.den)))))) ∧ ((((gN (uN B F n - 1) (x16 - 1) (x21 - 1)) ≤ (gN (uN B F n - 1) (x16 - 1) (x21 - 1))) ∧ (∀ e39 : E, ((0 ≤ e39.den ∧ e39.den < (gN (uN B F n - 1) (x16 - 1) (x21 - 1))) → (((clA A B D F n (e39.den)) = (clA A B D F n (e39.den))) ∧ (((clB A B D F n (e39.den)) = (clB A B D F n (e39.den))) ∧ (((clD A B D F n (e39.den)) = (clD A B D F n (e39.den))) ∧ (((clF A B D F n (e39.den)) = (clF A B D F n (e39.den))) ∧ ((clK A B D F n (e39.den)) = (clK A B D F n (e39.den)))))))))) ∧ (((uX A D n (x16 - 1)) = (uX A D n (x16 - 1))) ∧ (((uX B F n (x21 - 1)) = (uX B F n (x21 - 1))) ∧ (((uX A D n x16) = (uX A D n x16)) ∧ (((uX B F n x21) = (uX B F n x21)) ∧ ((len' (fl (inc A B D F (uX A D n (x16 - 1)) (uX B F n (x21 - 1)) (uX A D n x16) (uX B F n x21)) x27)) = (len' (fl (inc A B D F (uX A D n (x16 - 1)) (uX B F n (x21 - 1)) (uX A D n x16) (uX B F n x21)) y38)))))))))))) ∧ ((n - y38).toNat < (n - x27).toNat))))))) ∧ (((uX B F n (x21 - 1)) < ((B (x27)))) → (∃ y43 : Int, ((((1 ≤ x16 ∧ x16 < uN A D n) ∧ 1 ≤ x21 ∧ x21 < uN B F n) ∧ 0 ≤ y43 ∧ y43 ≤ n) ∧ ((((n = n) ∧ ((((.slice none 0 0) : Value) = (.slice none 0 0)) ∧ (((uN A D n) = (uN A D n)) ∧ (((uN B F n) = (uN B F n)) ∧ (((gN (uN B F n - 1) (x16 - 1) (x21 - 1)) = (gN (uN B F n - 1) (x16 - 1) (x21 - 1))) ∧ ((x16 = x16) ∧ ((x21 = x21) ∧ ((x16 = x16) ∧ (((uN A D n) = (uN A D n)) ∧ (((uN A D n) = (uN A D n)) ∧ (((x16 < (uN A D n)) ↔ (x16 < (uN A D n))) ∧ ((x21 = x21) ∧ (((uN B F n) = (uN B F n)) ∧ (((uN B F n) = (uN B F n)) ∧ (((x21 < (uN B F n)) ↔ (x21 < (uN B F n))) ∧ (((uN A D n) = (uN A D n)) ∧ ((x16 = x16) ∧ (((x16 - 1) = (x16 - 1)) ∧ (((x16 - 1) = (x16 - 1)) ∧ (((uX A D n (x16 - 1)) = (uX A D n (x16 - 1))) ∧ (((uN B F n) = (uN B F n)) ∧ ((x21 = x21) ∧ (((x21 - 1) = (x21 - 1)) ∧ (((x21 - 1) = (x21 - 1)) ∧ (((uX B F n (x21 - 1)) = (uX B F n (x21 - 1))) ∧ ((((uX A D n (x16 - 1)) = (uX A D n (x16 - 1))) ∧ ((uX B F n (x21 - 1)) = (uX B F n (x21 - 1)))) ∧ (((uN A D n) = (uN A D n)) ∧ ((x16 = x16) ∧ ((x16 = x16) ∧ (((uX A D n (x16)) = (uX A D n (x16))) ∧ (((uN B F n) = (uN B F n)) ∧ ((x21 = x21) ∧ ((x21 = x21) ∧ (((uX B F n (x21)) = (uX B F n (x21))) ∧ ((((uX A D n (x16)) = (uX A D n (x16))) ∧ ((uX B F n (x21)) = (uX B F n (x21)))) ∧ ((((uX A D n (x16 - 1)) = (uX A D n (x16 - 1))) ∧ (((uX B F n (x21 - 1)) = (uX B F n (x21 - 1))) ∧ (((uX A D n (x16)) = (uX A D n (x16))) ∧ ((uX B F n (x21)) = (uX B F n (x21)))))) ∧ ((((uX A D n (x16 - 1)) = (uX A D n (x16 - 1))) ∧ (((uX B F n (x21 - 1)) = (uX B F n (x21 - 1))) ∧ (((uX A D n (x16)) = (uX A D n (x16))) ∧ ((uX B F n (x21)) = (uX B F n (x21)))))) ∧ ((n = n) ∧ ((n = n) ∧ (((x27 + 1) = y43) ∧ ((1 ≤ (x27 + 1) ∧ (x27 + 1) ≤ 13) → (0 ≤ y43 ∧ y43 ≤ 12)))))))))))))))))))))))))))))))))))))))))) ∧ (((n ≤ n) ∧ (∀ e47 : E, ((0 ≤ e47.den ∧ e47.den < n) → ((((A (e47.den))) = ((A (e47.den)))) ∧ ((((B (e47.den))) = ((B (e47.den)))) ∧ ((((D (e47.den))) = ((D (e47.den)))) ∧ (((F (e47.den))) = ((F (e47.den)))))))))) ∧ ((((uN A D n) ≤ (uN A D n)) ∧ (∀ e46 : E, ((0 ≤ e46.den ∧ e46.den < (uN A D n)) → ((uX A D n (e46.den)) = (uX A D n (e46.den)))))) ∧ ((((uN B F n) ≤ (uN B F n)) ∧ (∀ e45 : E, ((0 ≤ e45.den ∧ e45.den < (uN B F n)) → ((uX B F n (e45.den)) = (uX B F n (e45.den)))))) ∧ ((((gN (uN B F n - 1) (x16 - 1) (x21 - 1)) ≤ (gN (uN B F n - 1) (x16 - 1) (x21 - 1))) ∧ (∀ e44 : E, ((0 ≤ e44.den ∧ e44.den < (gN (uN B F n - 1) (x16 - 1) (x21 - 1))) → (((clA A B D F n (e44.den)) = (clA A B D F n (e44.den))) ∧ (((clB A B D F n (e44.den)) = (clB A B D F n (e44.den))) ∧ (((clD A B D F n (e44.den)) = (clD A B D F n (e44.den))) ∧ (((clF A B D F n (e44.den)) = (clF A B D F n (e44.den))) ∧ ((clK A B D F n (e44.den)) = (clK A B D F n (e44.den)))))))))) ∧ (((uX A D n (x16 - 1)) = (uX A D n (x16 - 1))) ∧ (((uX B F n (x21 - 1)) = (uX B F n (x21 - 1))) ∧ (((uX A D n x16) = (uX A D n x16)) ∧ (((uX B F n x21) = (uX B F n x21)) ∧ ((len' (fl (inc A B D F (uX A D n (x16 - 1)) (uX B F n (x21 - 1)) (uX A D n x16) (uX B F n x21)) x27)) = (len' (fl (inc A B D F (uX A D n (x16 - 1)) (uX B F n (x21 - 1)) (uX A D n x16) (uX B F n x21)) y43)))))))))))) ∧ ((n - y43).toNat < (n - x27).toNat))))))) ∧ ((((D (x27))) < (uX A D n x16)) → (∃ y48 : Int, ((((1 ≤ x16 ∧ x16 < uN A D n) ∧ 1 ≤ x21 ∧ x21 < uN B F n) ∧ 0 ≤ y48 ∧ y48 ≤ n) ∧ ((((n = n) ∧ ((((.slice none 0 0) : Value) = (.slice none 0 0)) ∧ (((uN A D n) = (uN A D n)) ∧ (((uN B F n) = (uN B F n)) ∧ (((gN (uN B F n - 1) (x16 - 1) (x21 - 1)) = (gN (uN B F n - 1) (x16 - 1) (x21 - 1))) ∧ ((x16 = x16) ∧ ((x21 = x21) ∧ ((x16 = x16) ∧ (((uN A D n) = (uN A D n)) ∧ (((uN A D n) = (uN A D n)) ∧ (((x16 < (uN A D n)) ↔ (x16 < (uN A D n))) ∧ ((x21 = x21) ∧ (((uN B F n) = (uN B F n)) ∧ (((uN B F n) = (uN B F n)) ∧ (((x21 < (uN B F n)) ↔ (x21 < (uN B F n))) ∧ (((uN A D n) = (uN A D n)) ∧ ((x16 = x16) ∧ (((x16 - 1) = (x16 - 1)) ∧ (((x16 - 1) = (x16 - 1)) ∧ (((uX A D n (x16 - 1)) = (uX A D n (x16 - 1))) ∧ (((uN B F n) = (uN B F n)) ∧ ((x21 = x21) ∧ (((x21 - 1) = (x21 - 1)) ∧ (((x21 - 1) = (x21 - 1)) ∧ (((uX B F n (x21 - 1)) = (uX B F n (x21 - 1))) ∧ ((((uX A D n (x16 - 1)) = (uX A D n (x16 - 1))) ∧ ((uX B F n (x21 - 1)) = (uX B F n (x21 - 1)))) ∧ (((uN A D n) = (uN A D n)) ∧ ((x16 = x16) ∧ ((x16 = x16) ∧ (((uX A D n (x16)) = (uX A D n (x16))) ∧ (((uN B F n) = (uN B F n)) ∧ ((x21 = x21) ∧ ((x21 = x21) ∧ (((uX B F n (x21)) = (uX B F n (x21))) ∧ ((((uX A D n (x16)) = (uX A D n (x16))) ∧ ((uX B F n (x21)) = (uX B F n (x21)))) ∧ ((((uX A D n (x16 - 1)) = (uX A D n (x16 - 1))) ∧ (((uX B F n (x21 - 1)) = (uX B F n (x21 - 1))) ∧ (((uX A D n (x16)) = (uX A D n (x16))) ∧ ((uX B F n (x21)) = (uX B F n (x21)))))) ∧ ((((uX A D n (x16 - 1)) = (uX A D n (x16 - 1))) ∧ (((uX B F n (x21 - 1)) = (uX B F n (x21 - 1))) ∧ (((uX A D n (x16)) = (uX A D n (x16))) ∧ ((uX B F n (x21)) = (uX B F n (x21)))))) ∧ ((n = n) ∧ ((n = n) ∧ (((x27 + 1) = y48) ∧ ((1 ≤ (x27 + 1) ∧ (x27 + 1) ≤ 13) → (0 ≤ y48 ∧ y48 ≤ 12)))))))))))))))))))))))))))))))))))))))))) ∧ (((n ≤ n) ∧ (∀ e52 : E, ((0 ≤ e52.den ∧ e52.den < n) → ((((A (e52.den))) = ((A (e52.den)))) ∧ ((((B (e52.den))) = ((B (e52.den)))) ∧ ((((D (e52.den))) = ((D (e52.den)))) ∧ (((F (e52.den))) = ((F (e52.den)))))))))) ∧ ((((uN A D n) ≤ (uN A D n)) ∧ (∀ e51 : E, ((0 ≤ e51.den ∧ e51.den < (uN A D n)) → ((uX A D n (e51.den)) = (uX A D n (e51.den)))))) ∧ ((((uN B F n) ≤ (uN B F n)) ∧ (∀ e50 : E, ((0 ≤ e50.den ∧ e50.den < (uN B F n)) → ((uX B F n (e50.den)) = (uX B F n (e50.den)))))) ∧ ((((gN (uN B F n - 1) (x16 - 1) (x21 - 1)) ≤ (gN (uN B F n - 1) (x16 - 1) (x21 - 1))) ∧ (∀ e49 : E, ((0 ≤ e49.den ∧ e49.den < (gN (uN B F n - 1) (x16 - 1) (x21 - 1))) → (((clA A B D F n (e49.den)) = (clA A B D F n (e49.den))) ∧ (((clB A B D F n (e49.den)) = (clB A B D F n (e49.den))) ∧ (((clD A B D F n (e49.den)) = (clD A B D F n (e49.den))) ∧ (((clF A B D F n (e49.den)) = (clF A B D F n (e49.den))) ∧ ((clK A B D F n (e49.den)) = (clK A B D F n (e49.den)))))))))) ∧ (((uX A D n (x16 - 1)) = (uX A D n (x16 - 1))) ∧ (((uX B F n (x21 - 1)) = (uX B F n (x21 - 1))) ∧ (((uX A D n x16) = (uX A D n x16)) ∧ (((uX B F n x21) = (uX B F n x21)) ∧ ((len' (fl (inc A B D F (uX A D n (x16 - 1)) (uX B F n (x21 - 1)) (uX A D n x16) (uX B F n x21)) x27)) = (len' (fl (inc A B D F (uX A D n (x16 - 1)) (uX B F n (x21 - 1)) (uX A D n x16) (uX B F n x21)) y48)))))))))))) ∧ ((n - y48).toNat < (n - x27).toNat))))))) ∧ (((uX A D n (x16 - 1)) < ((A (x27)))) → (∃ y53 : Int, ((((1 ≤ x16 ∧ x16 < uN A D n) ∧ 1 ≤ x21 ∧ x21 < uN B F n) ∧ 0 ≤ y53 ∧ y53 ≤ n) ∧ ((((n = n) ∧ ((((.slice none 0 0) : Value) = (.slice none 0 0)) ∧ (((uN A D n) = (uN A D n)) ∧ (((uN B F n) = (uN B F n)) ∧ (((gN (uN B F n - 1) (x16 - 1) (x21 - 1)) = (gN (uN B F n - 1) (x16 - 1) (x21 - 1))) ∧ ((x16 = x16) ∧ ((x21 = x21) ∧ ((x16 = x16) ∧ (((uN A D n) = (uN A D n)) ∧ (((uN A D n) = (uN A D n)) ∧ (((x16 < (uN A D n)) ↔ (x16 < (uN A D n))) ∧ ((x21 = x21) ∧ (((uN B F n) = (uN B F n)) ∧ (((uN B F n) = (uN B F n)) ∧ (((x21 < (uN B F n)) ↔ (x21 < (uN B F n))) ∧ (((uN A D n) = (uN A D n)) ∧ ((x16 = x16) ∧ (((x16 - 1) = (x16 - 1)) ∧ (((x16 - 1) = (x16 - 1)) ∧ (((uX A D n (x16 - 1)) = (uX A D n (x16 - 1))) ∧ (((uN B F n) = (uN B F n)) ∧ ((x21 = x21) ∧ (((x21 - 1) = (x21 - 1)) ∧ (((x21 - 1) = (x21 - 1)) ∧ (((uX B F n (x21 - 1)) = (uX B F n (x21 - 1))) ∧ ((((uX A D n (x16 - 1)) = (uX A D n (x16 - 1))) ∧ ((uX B F n (x21 - 1)) = (uX B F n (x21 - 1)))) ∧ (((uN A D n) = (uN A D n)) ∧ ((x16 = x16) ∧ ((x16 = x16) ∧ (((uX A D n (x16)) = (uX A D n (x16))) ∧ (((uN B F n) = (uN B F n)) ∧ ((x21 = x21) ∧ ((x21 = x21) ∧ (((uX B F n (x21)) = (uX B F n (x21))) ∧ ((((uX A D n (x16)) = (uX A D n (x16))) ∧ ((uX B F n (x21)) = (uX B F n (x21)))) ∧ ((((uX A D n (x16 - 1)) = (uX A D n (x16 - 1))) ∧ (((uX B F n (x21 - 1)) = (uX B F n (x21 - 1))) ∧ (((uX A D n (x16)) = (uX A D n (x16))) ∧ ((uX B F n (x21)) = (uX B F n (x21)))))) ∧ ((((uX A D n (x16 - 1)) = (uX A D n (x16 - 1))) ∧ (((uX B F n (x21 - 1)) = (uX B F n (x21 - 1))) ∧ (((uX A D n (x16)) = (uX A D n (x16))) ∧ ((uX B F n (x21)) = (uX B F n (x21)))))) ∧ ((n = n) ∧ ((n = n) ∧ (((x27 + 1) = y53) ∧ ((1 ≤ (x27 + 1) ∧ (x27 + 1) ≤ 13) → (0 ≤ y53 ∧ y53 ≤ 12)))))))))))))))))))))))))))))))))))))))))) ∧ (((n ≤ n) ∧ (∀ e57 : E, ((0 ≤ e57.den ∧ e57.den < n) → ((((A (e57.den))) = ((A (e57.den)))) ∧ ((((B (e57.den))) = ((B (e57.den)))) ∧ ((((D (e57.den))) = ((D (e57.den)))) ∧ (((F (e57.den))) = ((F (e57.den)))))))))) ∧ ((((uN A D n) ≤ (uN A D n)) ∧ (∀ e56 : E, ((0 ≤ e56.den ∧ e56.den < (uN A D n)) → ((uX A D n (e56.den)) = (uX A D n (e56.den)))))) ∧ ((((uN B F n) ≤ (uN B F n)) ∧ (∀ e55 : E, ((0 ≤ e55.den ∧ e55.den < (uN B F n)) → ((uX B F n (e55.den)) = (uX B F n (e55.den)))))) ∧ ((((gN (uN B F n - 1) (x16 - 1) (x21 - 1)) ≤ (gN (uN B F n - 1) (x16 - 1) (x21 - 1))) ∧ (∀ e54 : E, ((0 ≤ e54.den ∧ e54.den < (gN (uN B F n - 1) (x16 - 1) (x21 - 1))) → (((clA A B D F n (e54.den)) = (clA A B D F n (e54.den))) ∧ (((clB A B D F n (e54.den)) = (clB A B D F n (e54.den))) ∧ (((clD A B D F n (e54.den)) = (clD A B D F n (e54.den))) ∧ (((clF A B D F n (e54.den)) = (clF A B D F n (e54.den))) ∧ ((clK A B D F n (e54.den)) = (clK A B D F n (e54.den)))))))))) ∧ (((uX A D n (x16 - 1)) = (uX A D n (x16 - 1))) ∧ (((uX B F n (x21 - 1)) = (uX B F n (x21 - 1))) ∧ (((uX A D n x16) = (uX A D n x16)) ∧ (((uX B F n x21) = (uX B F n x21)) ∧ ((len' (fl (inc A B D F (uX A D n (x16 - 1)) (uX B F n (x21 - 1)) (uX A D n x16) (uX B F n x21)) x27)) = (len' (fl (inc A B D F (uX A D n (x16 - 1)) (uX B F n (x21 - 1)) (uX A D n x16) (uX B F n x21)) y53)))))))))))) ∧ ((n - y53).toNat < (n - x27).toNat))))))))) ∧ ((n ≤ x27) → (((gN (uN B F n - 1) (x16 - 1) (x21 - 1)) = (gN (uN B F n - 1) (x16 - 1) (x21 - 1))) ∧ (∃ y58 : Int, (((1 ≤ x16 ∧ x16 < uN A D n) ∧ 1 ≤ y58 ∧ y58 ≤ uN B F n) ∧ ((((n = n) ∧ ((((.slice none 0 0) : Value) = (.slice none 0 0)) ∧ (((uN A D n) = (uN A D n)) ∧ (((uN B F n) = (uN B F n)) ∧ (((((gN (uN B F n - 1) (x16 - 1) (x21 - 1)) + 1) = (gN (uN B F n - 1) (x16 - 1) (y58 - 1))) ∧ ((((gN (uN B F n - 1) (x16 - 1) (x21 - 1)) + 1) ≤ 601) → ((gN (uN B F n - 1) (x16 - 1) (y58 - 1)) ≤ 600))) ∧ ((x16 = x16) ∧ ((((x21 + 1) = y58) ∧ ((2 ≤ (x21 + 1) ∧ (x21 + 1) ≤ 26) → (1 ≤ y58 ∧ y58 ≤ 25))) ∧ ((x16 = x16) ∧ (((uN A D n) = (uN A D n)) ∧ (((uN A D n) = (uN A D n)) ∧ ((x16 < (uN A D n)) ↔ (x16 < (uN A D n))))))))))))) ∧ (((n ≤ n) ∧ (∀ e63 : E, ((0 ≤ e63.den ∧ e63.den < n) → ((((A (e63.den))) = ((A (e63.den)))) ∧ ((((B (e63.den))) = ((B (e63.den)))) ∧ ((((D (e63.den))) = ((D (e63.den)))) ∧ (((F (e63.den))) = ((F (e63.den)))))))))) ∧ ((((uN A D n) ≤ (uN A D n)) ∧ (∀ e62 : E, ((0 ≤ e62.den ∧ e62.den < (uN A D n)) → ((uX A D n (e62.den)) = (uX A D n (e62.den)))))) ∧ ((((uN B F n) ≤ (uN B F n)) ∧ (∀ e61 : E, ((0 ≤ e61.den ∧ e61.den < (uN B F n)) → ((uX B F n (e61.den)) = (uX B F n (e61.den)))))) ∧ (((0 : Int) ≤ (gN (uN B F n - 1) (x16 - 1) (x21 - 1)) ∧ (gN (uN B F n - 1) (x16 - 1) (y58 - 1)) = (gN (uN B F n - 1) (x16 - 1) (x21 - 1)) + 1) ∧ ((((gN (uN B F n - 1) (x16 - 1) (x21 - 1)) ≤ (gN (uN B F n - 1) (x16 - 1) (x21 - 1))) ∧ (∀ e60 : E, ((0 ≤ e60.den ∧ e60.den < (gN (uN B F n - 1) (x16 - 1) (x21 - 1))) → (((clA A B D F n (e60.den)) = (clA A B D F n (e60.den))) ∧ (((clB A B D F n (e60.den)) = (clB A B D F n (e60.den))) ∧ (((clD A B D F n (e60.den)) = (clD A B D F n (e60.den))) ∧ (((clF A B D F n (e60.den)) = (clF A B D F n (e60.den))) ∧ ((clK A B D F n (e60.den)) = (clK A B D F n (e60.den)))))))))) ∧ (∀ e59 : E, ((e59.den = (gN (uN B F n - 1) (x16 - 1) (x21 - 1))) → (((uX A D n (x16 - 1)) = (clA A B D F n (e59.den))) ∧ (((uX B F n (x21 - 1)) = (clB A B D F n (e59.den))) ∧ (((uX A D n x16) = (clD A B D F n (e59.den))) ∧ (((uX B F n x21) = (clF A B D F n (e59.den))) ∧ ((len' (fl (inc A B D F (uX A D n (x16 - 1)) (uX B F n (x21 - 1)) (uX A D n x16) (uX B F n x21)) x27)) = (clK A B D F n (e59.den))))))))))))))) ∧ ((uN B F n - y58).toNat < (uN B F n - x21).toNat))))))))))))))))))) ∧ (((uN B F n) ≤ x21) → (∃ y64 : Int, ((1 ≤ y64 ∧ (y64 ≤ uN A D n ∨ y64 = 1)) ∧ ((((n = n) ∧ ((((.slice none 0 0) : Value) = (.slice none 0 0)) ∧ (((uN A D n) = (uN A D n)) ∧ (((uN B F n) = (uN B F n)) ∧ (((gN (uN B F n - 1) (x16 - 1) (x21 - 1)) = (gN (uN B F n - 1) (y64 - 1) 0)) ∧ (((x16 + 1) = y64) ∧ ((2 ≤ (x16 + 1) ∧ (x16 + 1) ≤ 26) → (1 ≤ y64 ∧ y64 ≤ 25)))))))) ∧ (((n ≤ n) ∧ (∀ e68 : E, ((0 ≤ e68.den ∧ e68.den < n) → ((((A (e68.den))) = ((A (e68.den)))) ∧ ((((B (e68.den))) = ((B (e68.den)))) ∧ ((((D (e68.den))) = ((D (e68.den)))) ∧ (((F (e68.den))) = ((F (e68.den)))))))))) ∧ ((((uN A D n) ≤ (uN A D n)) ∧ (∀ e67 : E, ((0 ≤ e67.den ∧ e67.den < (uN A D n)) → ((uX A D n (e67.den)) = (uX A D n (e67.den)))))) ∧ ((((uN B F n) ≤ (uN B F n)) ∧ (∀ e66 : E, ((0 ≤ e66.den ∧ e66.den < (uN B F n)) → ((uX B F n (e66.den)) = (uX B F n (e66.den)))))) ∧ (((gN (uN B F n - 1) (y64 - 1) 0) ≤ (gN (uN B F n - 1) (x16 - 1) (x21 - 1))) ∧ (∀ e65 : E, ((0 ≤ e65.den ∧ e65.den < (gN (uN B F n - 1) (y64 - 1) 0)) → (((clA A B D F n (e65.den)) = (clA A B D F n (e65.den))) ∧ (((clB A B D F n (e65.den)) = (clB A B D F n (e65.den))) ∧ (((clD A B D F n (e65.den)) = (clD A B D F n (e65.den))) ∧ (((clF A B D F n (e65.den)) = (clF A B D F n (e65.den))) ∧ ((clK A B D F n (e65.den)) = (clK A B D F n (e65.den)))))))))))))) ∧ ((uN A D n - y64).toNat < (uN A D n - x16).toNat)))))))))) ∧ (((uN A D n) ≤ x16) → (((gN (uN B F n - 1) (x16 - 1) 0) = (clN A B D F n)) ∧ (((n ≤ n) ∧ (∀ e70 : E, ((0 ≤ e70.den ∧ e70.den < n) → ((((A (e70.den))) = ((A (e70.den)))) ∧ ((((B (e70.den))) = ((B (e70.den)))) ∧ ((((D (e70.den))) = ((D (e70.den)))) ∧ (((F (e70.den))) = ((F (e70.den)))))))))) ∧ (((clN A B D F n) ≤ (gN (uN B F n - 1) (x16 - 1) 0)) ∧ (∀ e69 : E, ((0 ≤ e69.den ∧ e69.den < (clN A B D F n)) → (((clA A B D F n (e69.den)) = (clA A B D F n e69.den)) ∧ (((clB A B D F n (e69.den)) = (clB A B D F n e69.den)) ∧ (((clD A B D F n (e69.den)) = (clD A B D F n e69.den)) ∧ (((clF A B D F n (e69.den)) = (clF A B D F n e69.den)) ∧ ((clK A B D F n (e69.den)) = (clK A B D F n e69.den)))))))))))))))))))))))))))))))) (by kernel_rfl) ?_
  intro h1 h2
  have hR : okR A B D F n := (fun r a b => by have h : (-1000 ≤ A r ∧ A r ≤ 1000) ∧ (-1000 ≤ B r ∧ B r ≤ 1000) ∧ (-1000 ≤ D r ∧ D r ≤ 1000) ∧ (-1000 ≤ F r ∧ F r ≤ 1000) := h2 (.lit r) ⟨a, b⟩; exact ⟨⟨h.1, h.2.2.1⟩, h.2.1, h.2.2.2⟩)
  have hu := uN_bd A D (n := n) h1.1
  have hv := uN_bd B F (n := n) h1.1
  refine ⟨?_, ?_⟩
  · refine ⟨0, ?_⟩
    try dsimp only
    refine ⟨?_, ?_, ⟨Int.le_refl _, fun _ => fun _ => ⟨rfl, ⟨rfl, ⟨rfl, rfl⟩⟩⟩⟩, ?_, ?_⟩
    · omega
    · refine ⟨rfl, rfl, ?_, ?_, rfl, rfl, ?_⟩
      · rfl
      · rfl
      · rfl
    · rfl
    · rfl
  · intro j
    intro I1
    refine ⟨?_, ?_⟩
    · intro c72
      refine ⟨?_, ?_, ?_, ?_, ?_⟩
      · omega
      · omega
      · rfl
      · rfl
      · refine ⟨j + 1, ?_⟩
        try dsimp only
        refine ⟨?_, ?_, ?_⟩
        · omega
        · refine ⟨?_, ⟨Int.le_refl _, fun _ => fun _ => ⟨rfl, ⟨rfl, ⟨rfl, rfl⟩⟩⟩⟩, ?_, ?_, ?_, ?_⟩
          · refine ⟨rfl, rfl, ?_, ?_, rfl, rfl, ?_, ?_⟩
            · refine ⟨?_, ?_⟩
              · omega
              · intro c73
                omega
            · refine ⟨?_, ?_⟩
              · omega
              · intro c74
                omega
            · rfl
            · intro c75
              omega
          · refine ⟨?_, ?_, ?_⟩
            · omega
            · refine ⟨?_, ⟨Int.le_refl _, fun _ => fun _ => rfl⟩, ?_⟩
              · omega
              · intro e9
                intro c76
                exact (il_even (by omega)).symm
            · intro e8
              intro c77
              exact (il_odd (by omega)).symm
          · omega
          · refine ⟨?_, ⟨Int.le_refl _, fun _ => fun _ => rfl⟩, ?_⟩
            · omega
            · intro e6
              intro c78
              exact (il_even (by omega)).symm
          · intro e5
            intro c79
            exact (il_odd (by omega)).symm
        · omega
    · intro c80
      refine ⟨rfl, ⟨Int.le_refl _, fun _ => fun _ => rfl⟩, rfl, ⟨Int.le_refl _, fun _ => fun _ => rfl⟩, rfl, ⟨Int.le_refl _, fun _ => fun _ => rfl⟩, ?_⟩
      intro c81
      refine ⟨rfl, ⟨Int.le_refl _, fun _ => fun _ => rfl⟩, ?_⟩
      intro c82
      refine ⟨?_, ?_⟩
      · refine ⟨1, ?_⟩
        try dsimp only
        refine ⟨?_, ?_, ⟨Int.le_refl _, fun _ => fun _ => ⟨rfl, ⟨rfl, ⟨rfl, rfl⟩⟩⟩⟩, ?_, ?_, ?_⟩
        · omega
        · refine ⟨rfl, rfl, ?_, ?_, ?_, ?_⟩
          · refine ⟨?_, ?_⟩
            · have e : j = n := (by omega); subst e; first | exact iN_int _ _ | exact Int.le_of_eq (iN_int _ _).symm | exact iX_int _ _ _
            · intro c83
              omega
          · refine ⟨?_, ?_⟩
            · have e : j = n := (by omega); subst e; first | exact iN_int _ _ | exact Int.le_of_eq (iN_int _ _).symm | exact iX_int _ _ _
            · intro c84
              omega
          · exact (gN_z (by omega)).symm
          · rfl
        · refine ⟨?_, ?_⟩
          · have e : j = n := (by omega); subst e; first | exact iN_int _ _ | exact Int.le_of_eq (iN_int _ _).symm | exact iX_int _ _ _
          · intro e19
            intro c85
            refine ⟨?_, ?_⟩
            · have e : j = n := (by omega); subst e; first | exact iN_int _ _ | exact Int.le_of_eq (iN_int _ _).symm | exact iX_int _ _ _
            · intro c86
              exact okR_x hR (by omega) (by omega)
        · refine ⟨?_, ?_⟩
          · have e : j = n := (by omega); subst e; first | exact iN_int _ _ | exact Int.le_of_eq (iN_int _ _).symm | exact iX_int _ _ _
          · intro e18
            intro c87
            refine ⟨?_, ?_⟩
            · have e : j = n := (by omega); subst e; first | exact iN_int _ _ | exact Int.le_of_eq (iN_int _ _).symm | exact iX_int _ _ _
            · intro c88
              exact okR_y hR (by omega) (by omega)
        · exact gN_z (by omega)
      · intro p
        intro I1
        refine ⟨?_, ?_⟩
        · intro c89
          refine ⟨?_, ?_⟩
          · refine ⟨1, ?_⟩
            try dsimp only
            refine ⟨?_, ?_, ⟨Int.le_refl _, fun _ => fun _ => ⟨rfl, ⟨rfl, ⟨rfl, rfl⟩⟩⟩⟩, ⟨Int.le_refl _, fun _ => fun _ => rfl⟩, ⟨Int.le_refl _, fun _ => fun _ => rfl⟩, ?_, fun _ => fun _ => ⟨rfl, ⟨rfl, ⟨rfl, ⟨rfl, rfl⟩⟩⟩⟩⟩
            · have hp := uN_p A D (n := n) (by omega) (by omega); have hq := uN_1 B F hp; omega
            · refine ⟨rfl, rfl, rfl, rfl, ?_, rfl, ?_, rfl, rfl, rfl, Iff.rfl⟩
              · rfl
              · rfl
            · exact Int.le_of_eq (gN_c (by omega))
          · intro k
            intro I2
            refine ⟨?_, ?_⟩
            · intro c90
              refine ⟨?_, ?_, ?_, ?_, ?_, ?_, ?_, ?_, ?_, ?_⟩
              · omega
              · omega
              · omega
              · omega
              · omega
              · omega
              · omega
              · omega
              · refine ⟨0, ?_⟩
                try dsimp only
                refine ⟨?_, ?_, ⟨Int.le_refl _, fun _ => fun _ => ⟨rfl, ⟨rfl, ⟨rfl, rfl⟩⟩⟩⟩, ⟨Int.le_refl _, fun _ => fun _ => rfl⟩, ⟨Int.le_refl _, fun _ => fun _ => rfl⟩, ⟨Int.le_refl _, fun _ => fun _ => ⟨rfl, ⟨rfl, ⟨rfl, ⟨rfl, rfl⟩⟩⟩⟩⟩, rfl, rfl, rfl, rfl, ?_⟩
                · omega
                · refine ⟨rfl, rfl, rfl, rfl, rfl, rfl, rfl, rfl, rfl, rfl, Iff.rfl, rfl, rfl, rfl, Iff.rfl, rfl, rfl, rfl, rfl, rfl, rfl, rfl, rfl, rfl, rfl, ⟨rfl, rfl⟩, rfl, rfl, rfl, rfl, rfl, rfl, rfl, rfl, ⟨rfl, rfl⟩, ⟨rfl, ⟨rfl, ⟨rfl, rfl⟩⟩⟩, ⟨rfl, ⟨rfl, ⟨rfl, rfl⟩⟩⟩, rfl, rfl, ?_⟩
                  rfl
                · rfl
              · intro m
                intro I3
                refine ⟨?_, ?_⟩
                · intro c91
                  refine ⟨?_, ?_, ?_, ?_⟩
                  · omega
                  · omega
                  · intro c92
                    refine ⟨?_, ?_⟩
                    · intro c93
                      refine ⟨?_, ?_⟩
                      · intro c94
                        refine ⟨?_, ?_⟩
                        · intro c95
                          refine ⟨m + 1, ?_⟩
                          try dsimp only
                          refine ⟨?_, ?_, ?_⟩
                          · omega
                          · refine ⟨?_, ⟨Int.le_refl _, fun _ => fun _ => ⟨rfl, ⟨rfl, ⟨rfl, rfl⟩⟩⟩⟩, ⟨Int.le_refl _, fun _ => fun _ => rfl⟩, ⟨Int.le_refl _, fun _ => fun _ => rfl⟩, ⟨Int.le_refl _, fun _ => fun _ => ⟨rfl, ⟨rfl, ⟨rfl, ⟨rfl, rfl⟩⟩⟩⟩⟩, rfl, rfl, rfl, rfl, ?_, ?_⟩
                            · refine ⟨rfl, rfl, rfl, rfl, rfl, rfl, rfl, rfl, rfl, rfl, Iff.rfl, rfl, rfl, rfl, Iff.rfl, rfl, rfl, rfl, rfl, rfl, rfl, rfl, rfl, rfl, rfl, ⟨rfl, rfl⟩, rfl, rfl, rfl, rfl, rfl, rfl, rfl, rfl, ⟨rfl, rfl⟩, ⟨rfl, ⟨rfl, ⟨rfl, rfl⟩⟩⟩, ⟨rfl, ⟨rfl, ⟨rfl, rfl⟩⟩⟩, rfl, rfl, ?_, ?_⟩
                              · rfl
                              · intro c96
                                omega
                            · have hq : inc A B D F (uX A D n (p - 1)) (uX B F n (k - 1)) (uX A D n p) (uX B F n k) m = true := inc_iff.2 (by omega); rw [fl_yes (by omega) hq, len'_snoc]; done
                            · intro c97
                              have hb := fl_bd (inc A B D F (uX A D n (p - 1)) (uX B F n (k - 1)) (uX A D n p) (uX B F n k)) (n := m + 1) (by omega); omega
                          · omega
                        · intro c98
                          refine ⟨m + 1, ?_⟩
                          try dsimp only
                          refine ⟨?_, ?_, ?_⟩
                          · omega
                          · refine ⟨?_, ⟨Int.le_refl _, fun _ => fun _ => ⟨rfl, ⟨rfl, ⟨rfl, rfl⟩⟩⟩⟩, ⟨Int.le_refl _, fun _ => fun _ => rfl⟩, ⟨Int.le_refl _, fun _ => fun _ => rfl⟩, ⟨Int.le_refl _, fun _ => fun _ => ⟨rfl, ⟨rfl, ⟨rfl, ⟨rfl, rfl⟩⟩⟩⟩⟩, rfl, rfl, rfl, rfl, ?_⟩
                            · refine ⟨rfl, rfl, rfl, rfl, rfl, rfl, rfl, rfl, rfl, rfl, Iff.rfl, rfl, rfl, rfl, Iff.rfl, rfl, rfl, rfl, rfl, rfl, rfl, rfl, rfl, rfl, rfl, ⟨rfl, rfl⟩, rfl, rfl, rfl, rfl, rfl, rfl, rfl, rfl, ⟨rfl, rfl⟩, ⟨rfl, ⟨rfl, ⟨rfl, rfl⟩⟩⟩, ⟨rfl, ⟨rfl, ⟨rfl, rfl⟩⟩⟩, rfl, rfl, ?_, ?_⟩
                              · rfl
                              · intro c99
                                omega
                            · have hq : inc A B D F (uX A D n (p - 1)) (uX B F n (k - 1)) (uX A D n p) (uX B F n k) m = false := (by rw [← Bool.not_eq_true, inc_iff]; omega); rw [fl_no (by omega) hq]; done
                          · omega
                      · intro c100
                        refine ⟨m + 1, ?_⟩
                        try dsimp only
                        refine ⟨?_, ?_, ?_⟩
                        · omega
                        · refine ⟨?_, ⟨Int.le_refl _, fun _ => fun _ => ⟨rfl, ⟨rfl, ⟨rfl, rfl⟩⟩⟩⟩, ⟨Int.le_refl _, fun _ => fun _ => rfl⟩, ⟨Int.le_refl _, fun _ => fun _ => rfl⟩, ⟨Int.le_refl _, fun _ => fun _ => ⟨rfl, ⟨rfl, ⟨rfl, ⟨rfl, rfl⟩⟩⟩⟩⟩, rfl, rfl, rfl, rfl, ?_⟩
                          · refine ⟨rfl, rfl, rfl, rfl, rfl, rfl, rfl, rfl, rfl, rfl, Iff.rfl, rfl, rfl, rfl, Iff.rfl, rfl, rfl, rfl, rfl, rfl, rfl, rfl, rfl, rfl, rfl, ⟨rfl, rfl⟩, rfl, rfl, rfl, rfl, rfl, rfl, rfl, rfl, ⟨rfl, rfl⟩, ⟨rfl, ⟨rfl, ⟨rfl, rfl⟩⟩⟩, ⟨rfl, ⟨rfl, ⟨rfl, rfl⟩⟩⟩, rfl, rfl, ?_, ?_⟩
                            · rfl
                            · intro c101
                              omega
                          · have hq : inc A B D F (uX A D n (p - 1)) (uX B F n (k - 1)) (uX A D n p) (uX B F n k) m = false := (by rw [← Bool.not_eq_true, inc_iff]; omega); rw [fl_no (by omega) hq]; done
                        · omega
                    · intro c102
                      refine ⟨m + 1, ?_⟩
                      try dsimp only
                      refine ⟨?_, ?_, ?_⟩
                      · omega
                      · refine ⟨?_, ⟨Int.le_refl _, fun _ => fun _ => ⟨rfl, ⟨rfl, ⟨rfl, rfl⟩⟩⟩⟩, ⟨Int.le_refl _, fun _ => fun _ => rfl⟩, ⟨Int.le_refl _, fun _ => fun _ => rfl⟩, ⟨Int.le_refl _, fun _ => fun _ => ⟨rfl, ⟨rfl, ⟨rfl, ⟨rfl, rfl⟩⟩⟩⟩⟩, rfl, rfl, rfl, rfl, ?_⟩
                        · refine ⟨rfl, rfl, rfl, rfl, rfl, rfl, rfl, rfl, rfl, rfl, Iff.rfl, rfl, rfl, rfl, Iff.rfl, rfl, rfl, rfl, rfl, rfl, rfl, rfl, rfl, rfl, rfl, ⟨rfl, rfl⟩, rfl, rfl, rfl, rfl, rfl, rfl, rfl, rfl, ⟨rfl, rfl⟩, ⟨rfl, ⟨rfl, ⟨rfl, rfl⟩⟩⟩, ⟨rfl, ⟨rfl, ⟨rfl, rfl⟩⟩⟩, rfl, rfl, ?_, ?_⟩
                          · rfl
                          · intro c103
                            omega
                        · have hq : inc A B D F (uX A D n (p - 1)) (uX B F n (k - 1)) (uX A D n p) (uX B F n k) m = false := (by rw [← Bool.not_eq_true, inc_iff]; omega); rw [fl_no (by omega) hq]; done
                      · omega
                  · intro c104
                    refine ⟨m + 1, ?_⟩
                    try dsimp only
                    refine ⟨?_, ?_, ?_⟩
                    · omega
                    · refine ⟨?_, ⟨Int.le_refl _, fun _ => fun _ => ⟨rfl, ⟨rfl, ⟨rfl, rfl⟩⟩⟩⟩, ⟨Int.le_refl _, fun _ => fun _ => rfl⟩, ⟨Int.le_refl _, fun _ => fun _ => rfl⟩, ⟨Int.le_refl _, fun _ => fun _ => ⟨rfl, ⟨rfl, ⟨rfl, ⟨rfl, rfl⟩⟩⟩⟩⟩, rfl, rfl, rfl, rfl, ?_⟩
                      · refine ⟨rfl, rfl, rfl, rfl, rfl, rfl, rfl, rfl, rfl, rfl, Iff.rfl, rfl, rfl, rfl, Iff.rfl, rfl, rfl, rfl, rfl, rfl, rfl, rfl, rfl, rfl, rfl, ⟨rfl, rfl⟩, rfl, rfl, rfl, rfl, rfl, rfl, rfl, rfl, ⟨rfl, rfl⟩, ⟨rfl, ⟨rfl, ⟨rfl, rfl⟩⟩⟩, ⟨rfl, ⟨rfl, ⟨rfl, rfl⟩⟩⟩, rfl, rfl, ?_, ?_⟩
                        · rfl
                        · intro c105
                          omega
                      · have hq : inc A B D F (uX A D n (p - 1)) (uX B F n (k - 1)) (uX A D n p) (uX B F n k) m = false := (by rw [← Bool.not_eq_true, inc_iff]; omega); rw [fl_no (by omega) hq]; done
                    · omega
                · intro c106
                  refine ⟨?_, ?_⟩
                  · rfl
                  · refine ⟨k + 1, ?_⟩
                    try dsimp only
                    refine ⟨?_, ?_, ?_⟩
                    · omega
                    · refine ⟨?_, ⟨Int.le_refl _, fun _ => fun _ => ⟨rfl, ⟨rfl, ⟨rfl, rfl⟩⟩⟩⟩, ⟨Int.le_refl _, fun _ => fun _ => rfl⟩, ⟨Int.le_refl _, fun _ => fun _ => rfl⟩, ?_, ⟨Int.le_refl _, fun _ => fun _ => ⟨rfl, ⟨rfl, ⟨rfl, ⟨rfl, rfl⟩⟩⟩⟩⟩, ?_⟩
                      · refine ⟨rfl, rfl, rfl, rfl, ?_, rfl, ?_, rfl, rfl, rfl, Iff.rfl⟩
                        · refine ⟨?_, ?_⟩
                          · rw [show k + 1 - 1 = (k - 1) + 1 by omega, gN_k]; done
                          · intro c107
                            have hb := gN_bd (w := uN B F n - 1) (i := p - 1) (k := k + 1 - 1) (by omega) (by omega) (by omega); omega
                        · refine ⟨?_, ?_⟩
                          · rfl
                          · intro c108
                            omega
                      · have hb := gN_bd (w := uN B F n - 1) (i := p - 1) (k := k - 1) (by omega) (by omega) (by omega); have hc := gN_k (uN B F n - 1) (p - 1) (k - 1); rw [show k - 1 + 1 = k + 1 - 1 by omega] at hc; omega
                      · intro e59
                        intro c109
                        refine ⟨?_, ?_, ?_, ?_, ?_⟩
                        · have hc := cl_at (A := A) (B := B) (D := D) (F := F) (n := n) (i := p - 1) (k := k - 1) (by omega) (by omega); rw [show p - 1 + 1 = p by omega, show k - 1 + 1 = k by omega] at hc; rw [show e59.den = gN (uN B F n - 1) (p - 1) (k - 1) by omega]; first | exact hc.1.1.symm | exact hc.1.2.symm | exact hc.2.1.symm | exact hc.2.2.symm
                        · have hc := cl_at (A := A) (B := B) (D := D) (F := F) (n := n) (i := p - 1) (k := k - 1) (by omega) (by omega); rw [show p - 1 + 1 = p by omega, show k - 1 + 1 = k by omega] at hc; rw [show e59.den = gN (uN B F n - 1) (p - 1) (k - 1) by omega]; first | exact hc.1.1.symm | exact hc.1.2.symm | exact hc.2.1.symm | exact hc.2.2.symm
                        · have hc := cl_at (A := A) (B := B) (D := D) (F := F) (n := n) (i := p - 1) (k := k - 1) (by omega) (by omega); rw [show p - 1 + 1 = p by omega, show k - 1 + 1 = k by omega] at hc; rw [show e59.den = gN (uN B F n - 1) (p - 1) (k - 1) by omega]; first | exact hc.1.1.symm | exact hc.1.2.symm | exact hc.2.1.symm | exact hc.2.2.symm
                        · have hc := cl_at (A := A) (B := B) (D := D) (F := F) (n := n) (i := p - 1) (k := k - 1) (by omega) (by omega); rw [show p - 1 + 1 = p by omega, show k - 1 + 1 = k by omega] at hc; rw [show e59.den = gN (uN B F n - 1) (p - 1) (k - 1) by omega]; first | exact hc.1.1.symm | exact hc.1.2.symm | exact hc.2.1.symm | exact hc.2.2.symm
                        · have hc := cl_k (A := A) (B := B) (D := D) (F := F) (n := n) (i := p - 1) (k := k - 1) (by omega) (by omega); rw [show p - 1 + 1 = p by omega, show k - 1 + 1 = k by omega] at hc; rw [show e59.den = gN (uN B F n - 1) (p - 1) (k - 1) by omega, hc, show m = n by omega]; done
                    · omega
            · intro c110
              refine ⟨p + 1, ?_⟩
              try dsimp only
              refine ⟨?_, ?_, ?_⟩
              · omega
              · refine ⟨?_, ⟨Int.le_refl _, fun _ => fun _ => ⟨rfl, ⟨rfl, ⟨rfl, rfl⟩⟩⟩⟩, ⟨Int.le_refl _, fun _ => fun _ => rfl⟩, ⟨Int.le_refl _, fun _ => fun _ => rfl⟩, ?_, fun _ => fun _ => ⟨rfl, ⟨rfl, ⟨rfl, ⟨rfl, rfl⟩⟩⟩⟩⟩
                · refine ⟨rfl, rfl, rfl, rfl, ?_, ?_, ?_⟩
                  · rw [show p + 1 - 1 = (p - 1) + 1 by omega, gN_i, show k = uN B F n by omega]; done
                  · rfl
                  · intro c111
                    omega
                · rw [show p + 1 - 1 = (p - 1) + 1 by omega, gN_i, show k = uN B F n by omega]; exact Int.le_refl _
              · omega
        · intro c112
          refine ⟨?_, ⟨Int.le_refl _, fun _ => fun _ => ⟨rfl, ⟨rfl, ⟨rfl, rfl⟩⟩⟩⟩, ?_, fun _ => fun _ => ⟨rfl, ⟨rfl, ⟨rfl, ⟨rfl, rfl⟩⟩⟩⟩⟩
          · exact cl_end h1.1 (by omega) (by omega) (by omega)
          · exact Int.le_of_eq (cl_end h1.1 (by omega) (by omega) (by omega)).symm
def c_i_cells (A : Int → Int) (B : Int → Int) (D : Int → Int) (F : Int → Int) (n : Int) : Cn Try.prog := ⟨_, _, _, _, _, i_cells A B D F n⟩
theorem s_addInt (X : Int → Int) (n : Int) (p : Int) : RunsTo Try.prog 111 [(.sl 0 1 (.lit 0) (.v fun _ => n) 1048576), (.int .i64 (.v fun _ => p) (-9223372036854775808) 9223372036854775807)] [some ⟨3, 1, true, (.sym (.v fun _ => n) fun e => [(.int .i64 (.v fun _ => (X (e.den))) (-9223372036854775808) 9223372036854775807)])⟩] (.sl 1 1 (.lit 0) (.v fun _ => insN X noY n p 0) 4194304) [none, some ⟨3, 1, true, (.sym (.v fun _ => insN X noY n p 0) fun e => [(.int .i64 (.v fun _ => insX X noY n p 0 e.den) (-9223372036854775808) 9223372036854775807)])⟩] := by
  refine RunsTo.go env Try.func111 rfl Try.call111 rfl rfl (fun _ _ => (.loop [] [0] (Int) (fun x1 => ⟨spl 48 0 [(0, (.sl 0 1 (.lit 0) (.v fun _ => n) 1048576)), (1, (.int .i64 (.v fun _ => p) (-9223372036854775808) 9223372036854775807)), (4, (.raw (.slice none 0 0))), (5, (.int .i64 (.v fun _ => x1) 0 1048576))], [some ⟨3, 1, true, (.sym (.v fun _ => n) fun e => [(.int .i64 (.v fun _ => (X (e.den))) (-9223372036854775808) 9223372036854775807)])⟩], 1⟩) (fun x1 => (0 ≤ x1 ∧ x1 ≤ n) ∧ ∀ i, 0 ≤ i → i < x1 → (X (i)) < p) (fun x1 => (n - x1).toNat) fun x1 => (.ite (.need (.need (.ite (.next [0]) (.out (.ite (.need (.need (.ite .ret (.need (.need (.need (.need (.need .ret)))))))) (.need (.need (.need (.need (.need .ret)))))))))) (.out (.ite (.need (.need (.ite .ret (.need (.need (.need (.need (.need .ret)))))))) (.need (.need (.need (.need (.need .ret)))))))))) (G := ((0 ≤ n ∧ n ≤ 1048576) ∧ ((-9223372036854775808) ≤ p ∧ p ≤ 9223372036854775807)) → (∀ e12 : E, ((0 ≤ e12.den ∧ e12.den < n) → ((-9223372036854775808) ≤ ((X (e12.den))) ∧ ((X (e12.den))) ≤ 9223372036854775807))) → ((∃ y2 : Int, (((0 ≤ y2 ∧ y2 ≤ n) ∧ ∀ i, 0 ≤ i → i < y2 → (X (i)) < p) ∧ (((n = n) ∧ ((p = p) ∧ ((((.slice none 0 0) : Value) = (.slice none 0 0)) ∧ ((0 : Int) = y2)))) ∧ ((n ≤ n) ∧ (∀ e3 : E, ((0 ≤ e3.den ∧ e3.den < n) → (((X (e3.den))) = ((X (e3.den)))))))))) ∧ (∀ x1 : Int, (((0 ≤ x1 ∧ x1 ≤ n) ∧ ∀ i, 0 ≤ i → i < x1 → (X (i)) < p) → (((x1 < n) → ((((0 ≤ x1) ∧ (x1 < n))) ∧ ((x1 < n) ∧ (((((X (x1))) < p) → (∃ y4 : Int, (((0 ≤ y4 ∧ y4 ≤ n) ∧ ∀ i, 0 ≤ i → i < y4 → (X (i)) < p) ∧ ((((n = n) ∧ ((p = p) ∧ ((((.slice none 0 0) : Value) = (.slice none 0 0)) ∧ (((x1 + 1) = y4) ∧ ((1 ≤ (x1 + 1) ∧ (x1 + 1) ≤ 1048577) → (0 ≤ y4 ∧ y4 ≤ 1048576)))))) ∧ ((n ≤ n) ∧ (∀ e5 : E, ((0 ≤ e5.den ∧ e5.den < n) → (((X (e5.den))) = ((X (e5.den)))))))) ∧ ((n - y4).toNat < (n - x1).toNat))))) ∧ ((p ≤ ((X (x1)))) → (((x1 < n) → ((((0 ≤ x1) ∧ (x1 < n))) ∧ ((x1 < n) ∧ (((((X (x1))) = p) → ((n = (insN X noY n p 0)) ∧ (((insN X noY n p 0) ≤ n) ∧ (∀ e6 : E, ((0 ≤ e6.den ∧ e6.den < (insN X noY n p 0)) → (((X (e6.den))) = (insX X noY n p 0 e6.den))))))) ∧ ((((X (x1))) ≠ p) → ((((0 ≤ x1) ∧ (x1 ≤ n))) ∧ (((x1 ≤ n) ∧ ((oneF (.v fun _ => n) (fun e => [(.int .i64 (.v fun _ => (X (e.den))) (-9223372036854775808) 9223372036854775807)])) = true)) ∧ ((x1 = x1) ∧ ((((0 ≤ x1) ∧ (x1 ≤ n))) ∧ ((((x1 + 1) = (x1 + 1)) ∧ (((x1 + (n - x1)) ≤ n) ∧ ((oneF (.v fun _ => n) (fun e => [(.int .i64 (.v fun _ => (X (e.den))) (-9223372036854775808) 9223372036854775807)])) = true))) ∧ ((((x1 + 1) + (n - x1)) = (insN X noY n p 0)) ∧ (((insN X noY n p 0) ≤ ((x1 + 1) + (n - x1))) ∧ (∀ e7 : E, ((0 ≤ e7.den ∧ e7.den < (insN X noY n p 0)) → ((if decide (e7.den < (x1 + 1)) = true then (if decide (e7.den < x1) = true then ((X (e7.den))) else p) else ((X ((e7.den - (x1 + 1)) + x1)))) = (insX X noY n p 0 e7.den)))))))))))))))) ∧ ((n ≤ x1) → ((((0 ≤ x1) ∧ (x1 ≤ n))) ∧ (((x1 ≤ n) ∧ ((oneF (.v fun _ => n) (fun e => [(.int .i64 (.v fun _ => (X (e.den))) (-9223372036854775808) 9223372036854775807)])) = true)) ∧ ((x1 = x1) ∧ ((((0 ≤ x1) ∧ (x1 ≤ n))) ∧ ((((x1 + 1) = (x1 + 1)) ∧ (((x1 + (n - x1)) ≤ n) ∧ ((oneF (.v fun _ => n) (fun e => [(.int .i64 (.v fun _ => (X (e.den))) (-9223372036854775808) 9223372036854775807)])) = true))) ∧ ((((x1 + 1) + (n - x1)) = (insN X noY n p 0)) ∧ (((insN X noY n p 0) ≤ ((x1 + 1) + (n - x1))) ∧ (∀ e8 : E, ((0 ≤ e8.den ∧ e8.den < (insN X noY n p 0)) → ((if decide (e8.den < (x1 + 1)) = true then (if decide (e8.den < x1) = true then ((X (e8.den))) else p) else ((X ((e8.den - (x1 + 1)) + x1)))) = (insX X noY n p 0 e8.den)))))))))))))))))) ∧ ((n ≤ x1) → (((x1 < n) → ((((0 ≤ x1) ∧ (x1 < n))) ∧ ((x1 < n) ∧ (((((X (x1))) = p) → ((n = (insN X noY n p 0)) ∧ (((insN X noY n p 0) ≤ n) ∧ (∀ e9 : E, ((0 ≤ e9.den ∧ e9.den < (insN X noY n p 0)) → (((X (e9.den))) = (insX X noY n p 0 e9.den))))))) ∧ ((((X (x1))) ≠ p) → ((((0 ≤ x1) ∧ (x1 ≤ n))) ∧ (((x1 ≤ n) ∧ ((oneF (.v fun _ => n) (fun e => [(.int .i64 (.v fun _ => (X (e.den))) (-9223372036854775808) 9223372036854775807)])) = true)) ∧ ((x1 = x1) ∧ ((((0 ≤ x1) ∧ (x1 ≤ n))) ∧ ((((x1 + 1) = (x1 + 1)) ∧ (((x1 + (n - x1)) ≤ n) ∧ ((oneF (.v fun _ => n) (fun e => [(.int .i64 (.v fun _ => (X (e.den))) (-9223372036854775808) 9223372036854775807)])) = true))) ∧ ((((x1 + 1) + (n - x1)) = (insN X noY n p 0)) ∧ (((insN X noY n p 0) ≤ ((x1 + 1) + (n - x1))) ∧ (∀ e10 : E, ((0 ≤ e10.den ∧ e10.den < (insN X noY n p 0)) → ((if decide (e10.den < (x1 + 1)) = true then (if decide (e10.den < x1) = true then ((X (e10.den))) else p) else ((X ((e10.den - (x1 + 1)) + x1)))) = (insX X noY n p 0 e10.den)))))))))))))))) ∧ ((n ≤ x1) → ((((0 ≤ x1) ∧ (x1 ≤ n))) ∧ (((x1 ≤ n) ∧ ((oneF (.v fun _ => n) (fun e => [(.int .i64 (.v fun _ => (X (e.den))) (-9223372036854775808) 9223372036854775807)])) = true)) ∧ ((x1 = x1) ∧ ((((0 ≤ x1) ∧ (x1 ≤ n))) ∧ ((((x1 + 1) = (x1 + 1)) ∧ (((x1 + (n - x1)) ≤ n) ∧ ((oneF (.v fun _ => n) (fun e => [(.int .i64 (.v fun _ => (X (e.den))) (-9223372036854775808) 9223372036854775807)])) = true))) ∧ ((((x1 + 1) + (n - x1)) = (insN X noY n p 0)) ∧ (((insN X noY n p 0) ≤ ((x1 + 1) + (n - x1))) ∧ (∀ e11 : E, ((0 ≤ e11.den ∧ e11.den < (insN X noY n p 0)) → ((if decide (e11.den < (x1 + 1)) = true then (if decide (e11.den < x1) = true then ((X (e11.den))) else p) else ((X ((e11.den - (x1 + 1)) + x1)))) = (insX X noY n p 0 e11.den))))))))))))))))))) (by kernel_rfl) ?_
  intro h1 h2
  refine ⟨?_, ?_⟩
  · refine ⟨0, ?_⟩
    try dsimp only
    refine ⟨?_, ?_, Int.le_refl _, fun _ => fun _ => rfl⟩
    · refine ⟨by omega, fun i a b => ?_⟩; first | (exfalso; omega) | (by_cases e : i = j; (subst e; first | assumption | fail); exact I1.2 i a (by omega))
    · refine ⟨rfl, rfl, rfl, ?_⟩
      rfl
  · intro j
    intro I1
    refine ⟨?_, ?_⟩
    · intro c13
      refine ⟨?_, ?_, ?_, ?_⟩
      · omega
      · omega
      · intro c14
        refine ⟨j + 1, ?_⟩
        try dsimp only
        refine ⟨?_, ?_, ?_⟩
        · refine ⟨by omega, fun i a b => ?_⟩; first | (exfalso; omega) | (by_cases e : i = j; (subst e; first | assumption | fail); exact I1.2 i a (by omega))
        · refine ⟨?_, Int.le_refl _, fun _ => fun _ => rfl⟩
          refine ⟨rfl, rfl, rfl, ?_, ?_⟩
          · rfl
          · intro c15
            omega
        · omega
      · intro c16
        refine ⟨?_, ?_⟩
        · intro c17
          refine ⟨?_, ?_, ?_, ?_⟩
          · omega
          · omega
          · intro c18
            refine ⟨?_, ?_, ?_⟩
            · have hk : ipos X noY n p 0 = j := ipos_i (by omega) (by omega) I1.2 (by intro hh; first | assumption | omega); first | (have hd : insD X noY n p 0 = true := insD_y hk (by omega) (by omega); first | (unfold insN; rw [if_pos hd]; done) | (unfold insN; rw [if_pos hd]; omega) | (unfold insX; rw [insF_at hd]; done)) | (have hd : insD X noY n p 0 = false := insD_n hk (by omega); first | (unfold insN; rw [hd]; simp; omega) | (unfold insX; rw [hk]; exact insF_cat hd))
            · have hk : ipos X noY n p 0 = j := ipos_i (by omega) (by omega) I1.2 (by intro hh; first | assumption | omega); first | (have hd : insD X noY n p 0 = true := insD_y hk (by omega) (by omega); first | (unfold insN; rw [if_pos hd]; done) | (unfold insN; rw [if_pos hd]; omega) | (unfold insX; rw [insF_at hd]; done)) | (have hd : insD X noY n p 0 = false := insD_n hk (by omega); first | (unfold insN; rw [hd]; simp; omega) | (unfold insX; rw [hk]; exact insF_cat hd))
            · intro e6
              intro c19
              have hk : ipos X noY n p 0 = j := ipos_i (by omega) (by omega) I1.2 (by intro hh; first | assumption | omega); first | (have hd : insD X noY n p 0 = true := insD_y hk (by omega) (by omega); first | (unfold insN; rw [if_pos hd]; done) | (unfold insN; rw [if_pos hd]; omega) | (unfold insX; rw [insF_at hd]; done)) | (have hd : insD X noY n p 0 = false := insD_n hk (by omega); first | (unfold insN; rw [hd]; simp; omega) | (unfold insX; rw [hk]; exact insF_cat hd))
          · intro c20
            refine ⟨?_, ?_, ?_, ?_, ?_, ?_, ?_, ?_⟩
            · omega
            · refine ⟨?_, ?_⟩
              · omega
                -- 16: (oneF (.v fun _ => n) (fun e => [(.int .i64 (.v fun _ => (X (e.den))) (-9223372036854775808) 9223372
              · exact oneF_of (fun _ => rfl)
            · rfl
            · omega
            · refine ⟨?_, ?_, ?_⟩
              · rfl
              · omega
                -- 21: (oneF (.v fun _ => n) (fun e => [(.int .i64 (.v fun _ => (X (e.den))) (-9223372036854775808) 9223372
              · exact oneF_of (fun _ => rfl)
            · have hk : ipos X noY n p 0 = j := ipos_i (by omega) (by omega) I1.2 (by intro hh; first | assumption | omega); first | (have hd : insD X noY n p 0 = true := insD_y hk (by omega) (by omega); first | (unfold insN; rw [if_pos hd]; done) | (unfold insN; rw [if_pos hd]; omega) | (unfold insX; rw [insF_at hd]; done)) | (have hd : insD X noY n p 0 = false := insD_n hk (by omega); first | (unfold insN; rw [hd]; simp; omega) | (unfold insX; rw [hk]; exact insF_cat hd))
            · have hk : ipos X noY n p 0 = j := ipos_i (by omega) (by omega) I1.2 (by intro hh; first | assumption | omega); first | (have hd : insD X noY n p 0 = true := insD_y hk (by omega) (by omega); first | (unfold insN; rw [if_pos hd]; done) | (unfold insN; rw [if_pos hd]; omega) | (unfold insX; rw [insF_at hd]; done)) | (have hd : insD X noY n p 0 = false := insD_n hk (by omega); first | (unfold insN; rw [hd]; simp; omega) | (unfold insX; rw [hk]; exact insF_cat hd))
            · intro e7
              intro c21
              have hk : ipos X noY n p 0 = j := ipos_i (by omega) (by omega) I1.2 (by intro hh; first | assumption | omega); first | (have hd : insD X noY n p 0 = true := insD_y hk (by omega) (by omega); first | (unfold insN; rw [if_pos hd]; done) | (unfold insN; rw [if_pos hd]; omega) | (unfold insX; rw [insF_at hd]; done)) | (have hd : insD X noY n p 0 = false := insD_n hk (by omega); first | (unfold insN; rw [hd]; simp; omega) | (unfold insX; rw [hk]; exact insF_cat hd))
        · intro c22
          refine ⟨?_, ?_, ?_, ?_, ?_, ?_, ?_, ?_⟩
          · omega
          · refine ⟨?_, ?_⟩
            · omega
              -- 27: (oneF (.v fun _ => n) (fun e => [(.int .i64 (.v fun _ => (X (e.den))) (-9223372036854775808) 9223372
            · exact oneF_of (fun _ => rfl)
          · rfl
          · omega
          · refine ⟨?_, ?_, ?_⟩
            · rfl
            · omega
              -- 32: (oneF (.v fun _ => n) (fun e => [(.int .i64 (.v fun _ => (X (e.den))) (-9223372036854775808) 9223372
            · exact oneF_of (fun _ => rfl)
          · omega
          · omega
          · intro e8
            intro c23
            omega
    · intro c24
      refine ⟨?_, ?_⟩
      · intro c25
        refine ⟨?_, ?_, ?_, ?_⟩
        · omega
        · omega
        · intro c26
          refine ⟨?_, ?_, ?_⟩
          · omega
          · omega
          · intro e9
            intro c27
            omega
        · intro c28
          refine ⟨?_, ?_, ?_, ?_, ?_, ?_, ?_, ?_⟩
          · omega
          · refine ⟨?_, ?_⟩
            · omega
              -- 43: (oneF (.v fun _ => n) (fun e => [(.int .i64 (.v fun _ => (X (e.den))) (-9223372036854775808) 9223372
            · exact oneF_of (fun _ => rfl)
          · rfl
          · omega
          · refine ⟨?_, ?_, ?_⟩
            · rfl
            · omega
              -- 48: (oneF (.v fun _ => n) (fun e => [(.int .i64 (.v fun _ => (X (e.den))) (-9223372036854775808) 9223372
            · exact oneF_of (fun _ => rfl)
          · omega
          · omega
          · intro e10
            intro c29
            omega
      · intro c30
        refine ⟨?_, ?_, ?_, ?_, ?_, ?_, ?_, ?_⟩
        · omega
        · refine ⟨?_, ?_⟩
          · omega
            -- 54: (oneF (.v fun _ => n) (fun e => [(.int .i64 (.v fun _ => (X (e.den))) (-9223372036854775808) 9223372
          · exact oneF_of (fun _ => rfl)
        · rfl
        · omega
        · refine ⟨?_, ?_, ?_⟩
          · rfl
          · omega
            -- 59: (oneF (.v fun _ => n) (fun e => [(.int .i64 (.v fun _ => (X (e.den))) (-9223372036854775808) 9223372
          · exact oneF_of (fun _ => rfl)
        · have hk : ipos X noY n p 0 = j := ipos_i (by omega) (by omega) I1.2 (by intro hh; first | assumption | omega); first | (have hd : insD X noY n p 0 = true := insD_y hk (by omega) (by omega); first | (unfold insN; rw [if_pos hd]; done) | (unfold insN; rw [if_pos hd]; omega) | (unfold insX; rw [insF_at hd]; done)) | (have hd : insD X noY n p 0 = false := insD_n hk (by omega); first | (unfold insN; rw [hd]; simp; omega) | (unfold insX; rw [hk]; exact insF_cat hd))
        · have hk : ipos X noY n p 0 = j := ipos_i (by omega) (by omega) I1.2 (by intro hh; first | assumption | omega); first | (have hd : insD X noY n p 0 = true := insD_y hk (by omega) (by omega); first | (unfold insN; rw [if_pos hd]; done) | (unfold insN; rw [if_pos hd]; omega) | (unfold insX; rw [insF_at hd]; done)) | (have hd : insD X noY n p 0 = false := insD_n hk (by omega); first | (unfold insN; rw [hd]; simp; omega) | (unfold insX; rw [hk]; exact insF_cat hd))
        · intro e11
          intro c31
          have hk : ipos X noY n p 0 = j := ipos_i (by omega) (by omega) I1.2 (by intro hh; first | assumption | omega); first | (have hd : insD X noY n p 0 = true := insD_y hk (by omega) (by omega); first | (unfold insN; rw [if_pos hd]; done) | (unfold insN; rw [if_pos hd]; omega) | (unfold insX; rw [insF_at hd]; done)) | (have hd : insD X noY n p 0 = false := insD_n hk (by omega); first | (unfold insN; rw [hd]; simp; omega) | (unfold insX; rw [hk]; exact insF_cat hd))
def c_s_addInt (X : Int → Int) (n : Int) (p : Int) : Cn Try.prog := ⟨_, _, _, _, _, s_addInt X n p⟩
theorem s_cells (A : Int → Int) (B : Int → Int) (D : Int → Int) (F : Int → Int) (n : Int) : RunsTo Try.prog 76 [(.sl 0 4 (.lit 0) (.v fun _ => n) 12)] [some ⟨57, 4, true, (.sym (.v fun _ => n) fun e => [(.int .i64 (.v fun _ => (A (e.den))) (-1000) 1000), (.int .i64 (.v fun _ => (B (e.den))) (-1000) 1000), (.int .i64 (.v fun _ => (D (e.den))) (-1000) 1000), (.int .i64 (.v fun _ => (F (e.den))) (-1000) 1000)])⟩] (.tup [(.sl 1 1 (.lit 0) (.v fun _ => uN A D n) 24), (.sl 2 1 (.lit 0) (.v fun _ => uN B F n) 24)]) [some ⟨57, 4, true, (.sym (.v fun _ => n) fun e => [(.int .i64 (.v fun _ => (A (e.den))) (-1000) 1000), (.int .i64 (.v fun _ => (B (e.den))) (-1000) 1000), (.int .i64 (.v fun _ => (D (e.den))) (-1000) 1000), (.int .i64 (.v fun _ => (F (e.den))) (-1000) 1000)])⟩, some ⟨3, 1, true, (.sym (.v fun _ => uN A D n) fun e => [(.int .i64 (.v fun _ => uX A D n e.den) (-1000) 1000)])⟩, some ⟨3, 1, true, (.sym (.v fun _ => uN B F n) fun e => [(.int .i64 (.v fun _ => uX B F n e.den) (-1000) 1000)])⟩] := by
  refine RunsTo.go env Try.func76 rfl Try.call76 rfl rfl (fun _ _ => (.loop [] [0, 1, 2] (Int) (fun x1 => ⟨spl 47 0 [(0, (.sl 0 4 (.lit 0) (.v fun _ => n) 12)), (2, (.raw (.slice none 0 0))), (3, (.raw (.slice none 0 0))), (4, (.sl 1 1 (.lit 0) (.v fun _ => soN (il A D) noY (2 * x1)) 24)), (5, (.sl 2 1 (.lit 0) (.v fun _ => soN (il B F) noY (2 * x1)) 24)), (6, (.int .i64 (.v fun _ => x1) 0 12))], [some ⟨57, 4, true, (.sym (.v fun _ => n) fun e => [(.int .i64 (.v fun _ => (A (e.den))) (-1000) 1000), (.int .i64 (.v fun _ => (B (e.den))) (-1000) 1000), (.int .i64 (.v fun _ => (D (e.den))) (-1000) 1000), (.int .i64 (.v fun _ => (F (e.den))) (-1000) 1000)])⟩, some ⟨3, 1, true, (.sym (.v fun _ => soN (il A D) noY (2 * x1)) fun e => [(.int .i64 (.v fun _ => soX (il A D) noY (2 * x1) (e.den)) (-9223372036854775808) 9223372036854775807)])⟩, some ⟨3, 1, true, (.sym (.v fun _ => soN (il B F) noY (2 * x1)) fun e => [(.int .i64 (.v fun _ => soX (il B F) noY (2 * x1) (e.den)) (-9223372036854775808) 9223372036854775807)])⟩], 1⟩) (fun x1 => 0 ≤ x1 ∧ x1 ≤ n) (fun x1 => (n - x1).toNat) fun x1 => (.ite (.need (.need (.call (c_s_addInt (soX (il A D) noY (2 * x1)) (soN (il A D) noY (2 * x1)) ((A (x1)))) (.need (.need (.callF (c_s_addInt (insX (soX (il A D) noY (2 * x1)) noY (soN (il A D) noY (2 * x1)) (A x1) 0) (insN (soX (il A D) noY (2 * x1)) noY (soN (il A D) noY (2 * x1)) ((A (x1))) 0) ((D (x1)))) (.need (.need (.call (c_s_addInt (soX (il B F) noY (2 * x1)) (soN (il B F) noY (2 * x1)) ((B (x1)))) (.need (.need (.callF (c_s_addInt (insX (soX (il B F) noY (2 * x1)) noY (soN (il B F) noY (2 * x1)) (B x1) 0) (insN (soX (il B F) noY (2 * x1)) noY (soN (il B F) noY (2 * x1)) ((B (x1))) 0) ((F (x1)))) (.next [0, 11, 20]))))))))))))) (.out .ret)))) (G := (0 ≤ n ∧ n ≤ 12) → (∀ e15 : E, ((0 ≤ e15.den ∧ e15.den < n) → (((-1000) ≤ ((A (e15.den))) ∧ ((A (e15.den))) ≤ 1000) ∧ (((-1000) ≤ ((B (e15.den))) ∧ ((B (e15.den))) ≤ 1000) ∧ (((-1000) ≤ ((D (e15.den))) ∧ ((D (e15.den))) ≤ 1000) ∧ ((-1000) ≤ ((F (e15.den))) ∧ ((F (e15.den))) ≤ 1000)))))) → ((∃ y2 : Int, ((0 ≤ y2 ∧ y2 ≤ n) ∧ (((n = n) ∧ ((((.slice none 0 0) : Value) = (.slice none 0 0)) ∧ ((((.slice none 0 0) : Value) = (.slice none 0 0)) ∧ (((0 : Int) = (soN (il A D) noY (2 * y2))) ∧ (((0 : Int) = (soN (il B F) noY (2 * y2))) ∧ ((0 : Int) = y2)))))) ∧ (((n ≤ n) ∧ (∀ e3 : E, ((0 ≤ e3.den ∧ e3.den < n) → ((((A (e3.den))) = ((A (e3.den)))) ∧ ((((B (e3.den))) = ((B (e3.den)))) ∧ ((((D (e3.den))) = ((D (e3.den)))) ∧ (((F (e3.den))) = ((F (e3.den)))))))))) ∧ (((soN (il A D) noY (2 * y2)) = 0) ∧ ((soN (il B F) noY (2 * y2)) = 0)))))) ∧ (∀ x1 : Int, ((0 ≤ x1 ∧ x1 ≤ n) → (((x1 < n) → ((((0 ≤ x1) ∧ (x1 < n))) ∧ ((x1 < n) ∧ ((((soN (il A D) noY (2 * x1)) = (soN (il A D) noY (2 * x1))) ∧ (((A (x1))) = ((A (x1))))) ∧ ((((soN (il A D) noY (2 * x1)) ≤ (soN (il A D) noY (2 * x1))) ∧ (∀ e4 : E, ((0 ≤ e4.den ∧ e4.den < (soN (il A D) noY (2 * x1))) → ((soX (il A D) noY (2 * x1) (e4.den)) = (soX (il A D) noY (2 * x1) ((e4.den))))))) ∧ ((((0 ≤ x1) ∧ (x1 < n))) ∧ ((x1 < n) ∧ (((((insN (soX (il A D) noY (2 * x1)) noY (soN (il A D) noY (2 * x1)) ((A (x1))) 0) = (insN (soX (il A D) noY (2 * x1)) noY (soN (il A D) noY (2 * x1)) ((A (x1))) 0)) ∧ (((insN (soX (il A D) noY (2 * x1)) noY (soN (il A D) noY (2 * x1)) ((A (x1))) 0) ≤ 4194304) → ((insN (soX (il A D) noY (2 * x1)) noY (soN (il A D) noY (2 * x1)) ((A (x1))) 0) ≤ 1048576))) ∧ (((D (x1))) = ((D (x1))))) ∧ ((((insN (soX (il A D) noY (2 * x1)) noY (soN (il A D) noY (2 * x1)) ((A (x1))) 0) ≤ (insN (soX (il A D) noY (2 * x1)) noY (soN (il A D) noY (2 * x1)) ((A (x1))) 0)) ∧ (∀ e5 : E, ((0 ≤ e5.den ∧ e5.den < (insN (soX (il A D) noY (2 * x1)) noY (soN (il A D) noY (2 * x1)) ((A (x1))) 0)) → ((insX (soX (il A D) noY (2 * x1)) noY (soN (il A D) noY (2 * x1)) ((A (x1))) 0 (e5.den)) = (insX (soX (il A D) noY (2 * x1)) noY (soN (il A D) noY (2 * x1)) ((A (x1))) 0 ((e5.den))))))) ∧ ((0 ≤ (insN (insX (soX (il A D) noY (2 * x1)) noY (soN (il A D) noY (2 * x1)) (A x1) 0) noY (insN (soX (il A D) noY (2 * x1)) noY (soN (il A D) noY (2 * x1)) ((A (x1))) 0) ((D (x1))) 0) ∧ (insN (insX (soX (il A D) noY (2 * x1)) noY (soN (il A D) noY (2 * x1)) (A x1) 0) noY (insN (soX (il A D) noY (2 * x1)) noY (soN (il A D) noY (2 * x1)) ((A (x1))) 0) ((D (x1))) 0) ≤ 4194304) → ((((0 ≤ x1) ∧ (x1 < n))) ∧ ((x1 < n) ∧ ((((soN (il B F) noY (2 * x1)) = (soN (il B F) noY (2 * x1))) ∧ (((B (x1))) = ((B (x1))))) ∧ ((((soN (il B F) noY (2 * x1)) ≤ (soN (il B F) noY (2 * x1))) ∧ (∀ e6 : E, ((0 ≤ e6.den ∧ e6.den < (soN (il B F) noY (2 * x1))) → ((soX (il B F) noY (2 * x1) (e6.den)) = (soX (il B F) noY (2 * x1) ((e6.den))))))) ∧ ((((0 ≤ x1) ∧ (x1 < n))) ∧ ((x1 < n) ∧ (((((insN (soX (il B F) noY (2 * x1)) noY (soN (il B F) noY (2 * x1)) ((B (x1))) 0) = (insN (soX (il B F) noY (2 * x1)) noY (soN (il B F) noY (2 * x1)) ((B (x1))) 0)) ∧ (((insN (soX (il B F) noY (2 * x1)) noY (soN (il B F) noY (2 * x1)) ((B (x1))) 0) ≤ 4194304) → ((insN (soX (il B F) noY (2 * x1)) noY (soN (il B F) noY (2 * x1)) ((B (x1))) 0) ≤ 1048576))) ∧ (((F (x1))) = ((F (x1))))) ∧ ((((insN (soX (il B F) noY (2 * x1)) noY (soN (il B F) noY (2 * x1)) ((B (x1))) 0) ≤ (insN (soX (il B F) noY (2 * x1)) noY (soN (il B F) noY (2 * x1)) ((B (x1))) 0)) ∧ (∀ e7 : E, ((0 ≤ e7.den ∧ e7.den < (insN (soX (il B F) noY (2 * x1)) noY (soN (il B F) noY (2 * x1)) ((B (x1))) 0)) → ((insX (soX (il B F) noY (2 * x1)) noY (soN (il B F) noY (2 * x1)) ((B (x1))) 0 (e7.den)) = (insX (soX (il B F) noY (2 * x1)) noY (soN (il B F) noY (2 * x1)) ((B (x1))) 0 ((e7.den))))))) ∧ ((0 ≤ (insN (insX (soX (il B F) noY (2 * x1)) noY (soN (il B F) noY (2 * x1)) (B x1) 0) noY (insN (soX (il B F) noY (2 * x1)) noY (soN (il B F) noY (2 * x1)) ((B (x1))) 0) ((F (x1))) 0) ∧ (insN (insX (soX (il B F) noY (2 * x1)) noY (soN (il B F) noY (2 * x1)) (B x1) 0) noY (insN (soX (il B F) noY (2 * x1)) noY (soN (il B F) noY (2 * x1)) ((B (x1))) 0) ((F (x1))) 0) ≤ 4194304) → (∃ y8 : Int, ((0 ≤ y8 ∧ y8 ≤ n) ∧ ((((n = n) ∧ ((((.slice none 0 0) : Value) = (.slice none 0 0)) ∧ ((((.slice none 0 0) : Value) = (.slice none 0 0)) ∧ ((((insN (insX (soX (il A D) noY (2 * x1)) noY (soN (il A D) noY (2 * x1)) (A x1) 0) noY (insN (soX (il A D) noY (2 * x1)) noY (soN (il A D) noY (2 * x1)) ((A (x1))) 0) ((D (x1))) 0) = (soN (il A D) noY (2 * y8))) ∧ (((insN (insX (soX (il A D) noY (2 * x1)) noY (soN (il A D) noY (2 * x1)) (A x1) 0) noY (insN (soX (il A D) noY (2 * x1)) noY (soN (il A D) noY (2 * x1)) ((A (x1))) 0) ((D (x1))) 0) ≤ 4194304) → ((soN (il A D) noY (2 * y8)) ≤ 24))) ∧ ((((insN (insX (soX (il B F) noY (2 * x1)) noY (soN (il B F) noY (2 * x1)) (B x1) 0) noY (insN (soX (il B F) noY (2 * x1)) noY (soN (il B F) noY (2 * x1)) ((B (x1))) 0) ((F (x1))) 0) = (soN (il B F) noY (2 * y8))) ∧ (((insN (insX (soX (il B F) noY (2 * x1)) noY (soN (il B F) noY (2 * x1)) (B x1) 0) noY (insN (soX (il B F) noY (2 * x1)) noY (soN (il B F) noY (2 * x1)) ((B (x1))) 0) ((F (x1))) 0) ≤ 4194304) → ((soN (il B F) noY (2 * y8)) ≤ 24))) ∧ (((x1 + 1) = y8) ∧ ((1 ≤ (x1 + 1) ∧ (x1 + 1) ≤ 13) → (0 ≤ y8 ∧ y8 ≤ 12)))))))) ∧ (((n ≤ n) ∧ (∀ e11 : E, ((0 ≤ e11.den ∧ e11.den < n) → ((((A (e11.den))) = ((A (e11.den)))) ∧ ((((B (e11.den))) = ((B (e11.den)))) ∧ ((((D (e11.den))) = ((D (e11.den)))) ∧ (((F (e11.den))) = ((F (e11.den)))))))))) ∧ ((((soN (il A D) noY (2 * y8)) ≤ (insN (insX (soX (il A D) noY (2 * x1)) noY (soN (il A D) noY (2 * x1)) (A x1) 0) noY (insN (soX (il A D) noY (2 * x1)) noY (soN (il A D) noY (2 * x1)) ((A (x1))) 0) ((D (x1))) 0)) ∧ (∀ e10 : E, ((0 ≤ e10.den ∧ e10.den < (soN (il A D) noY (2 * y8))) → ((insX (insX (soX (il A D) noY (2 * x1)) noY (soN (il A D) noY (2 * x1)) (A x1) 0) noY (insN (soX (il A D) noY (2 * x1)) noY (soN (il A D) noY (2 * x1)) ((A (x1))) 0) ((D (x1))) 0 (e10.den)) = (soX (il A D) noY (2 * y8) (e10.den)))))) ∧ (((soN (il B F) noY (2 * y8)) ≤ (insN (insX (soX (il B F) noY (2 * x1)) noY (soN (il B F) noY (2 * x1)) (B x1) 0) noY (insN (soX (il B F) noY (2 * x1)) noY (soN (il B F) noY (2 * x1)) ((B (x1))) 0) ((F (x1))) 0)) ∧ (∀ e9 : E, ((0 ≤ e9.den ∧ e9.den < (soN (il B F) noY (2 * y8))) → ((insX (insX (soX (il B F) noY (2 * x1)) noY (soN (il B F) noY (2 * x1)) (B x1) 0) noY (insN (soX (il B F) noY (2 * x1)) noY (soN (il B F) noY (2 * x1)) ((B (x1))) 0) ((F (x1))) 0 (e9.den)) = (soX (il B F) noY (2 * y8) (e9.den))))))))) ∧ ((n - y8).toNat < (n - x1).toNat))))))))))))))))))))))) ∧ ((n ≤ x1) → ((((soN (il A D) noY (2 * x1)) = (uN A D n)) ∧ ((soN (il B F) noY (2 * x1)) = (uN B F n))) ∧ (((n ≤ n) ∧ (∀ e14 : E, ((0 ≤ e14.den ∧ e14.den < n) → ((((A (e14.den))) = ((A (e14.den)))) ∧ ((((B (e14.den))) = ((B (e14.den)))) ∧ ((((D (e14.den))) = ((D (e14.den)))) ∧ (((F (e14.den))) = ((F (e14.den)))))))))) ∧ ((((uN A D n) ≤ (soN (il A D) noY (2 * x1))) ∧ (∀ e13 : E, ((0 ≤ e13.den ∧ e13.den < (uN A D n)) → (((soX (il A D) noY (2 * x1) (e13.den)) = (uX A D n e13.den)) ∧ (((-9223372036854775808) ≤ (soX (il A D) noY (2 * x1) (e13.den)) ∧ (soX (il A D) noY (2 * x1) (e13.den)) ≤ 9223372036854775807) → ((-1000) ≤ (uX A D n e13.den) ∧ (uX A D n e13.den) ≤ 1000)))))) ∧ (((uN B F n) ≤ (soN (il B F) noY (2 * x1))) ∧ (∀ e12 : E, ((0 ≤ e12.den ∧ e12.den < (uN B F n)) → (((soX (il B F) noY (2 * x1) (e12.den)) = (uX B F n e12.den)) ∧ (((-9223372036854775808) ≤ (soX (il B F) noY (2 * x1) (e12.den)) ∧ (soX (il B F) noY (2 * x1) (e12.den)) ≤ 9223372036854775807) → ((-1000) ≤ (uX B F n e12.den) ∧ (uX B F n e12.den) ≤ 1000))))))))))))))) (by kernel_rfl) ?_
  intro h1 h2
  have hR : okR A B D F n := (fun r a b => by have h : (-1000 ≤ A r ∧ A r ≤ 1000) ∧ (-1000 ≤ B r ∧ B r ≤ 1000) ∧ (-1000 ≤ D r ∧ D r ≤ 1000) ∧ (-1000 ≤ F r ∧ F r ≤ 1000) := h2 (.lit r) ⟨a, b⟩; exact ⟨⟨h.1, h.2.2.1⟩, h.2.1, h.2.2.2⟩)
  have hu := uN_bd A D (n := n) h1.1
  have hv := uN_bd B F (n := n) h1.1
  refine ⟨?_, ?_⟩
  · refine ⟨0, ?_⟩
    try dsimp only
    refine ⟨?_, ?_, ⟨Int.le_refl _, fun _ => fun _ => ⟨rfl, ⟨rfl, ⟨rfl, rfl⟩⟩⟩⟩, ?_, ?_⟩
    · omega
    · refine ⟨rfl, rfl, rfl, ?_, ?_, ?_⟩
      · rfl
      · rfl
      · omega
    · rfl
    · rfl
  · intro j
    intro I1
    refine ⟨?_, ?_⟩
    · intro c16
      refine ⟨?_, ?_, ⟨rfl, rfl⟩, ⟨Int.le_refl _, fun _ => fun _ => rfl⟩, ?_, ?_, ?_, ⟨Int.le_refl _, fun _ => fun _ => rfl⟩, ?_⟩
      · omega
      · omega
      · omega
      · omega
      · refine ⟨?_, rfl⟩
        refine ⟨rfl, ?_⟩
        intro c17
        have hb := soN_bd (il A D) noY (j := 2 * j) (by omega); have hi := insN_bd (soX (il A D) noY (2 * j)) noY (soN (il A D) noY (2 * j)) (A j) 0; omega
      · intro c18
        refine ⟨?_, ?_, ⟨rfl, rfl⟩, ⟨Int.le_refl _, fun _ => fun _ => rfl⟩, ?_, ?_, ?_, ⟨Int.le_refl _, fun _ => fun _ => rfl⟩, ?_⟩
        · omega
        · omega
        · omega
        · omega
        · refine ⟨?_, rfl⟩
          refine ⟨rfl, ?_⟩
          intro c19
          have hb := soN_bd (il B F) noY (j := 2 * j) (by omega); have hi := insN_bd (soX (il B F) noY (2 * j)) noY (soN (il B F) noY (2 * j)) (B j) 0; omega
        · intro c20
          refine ⟨j + 1, ?_⟩
          try dsimp only
          refine ⟨?_, ?_, ?_⟩
          · omega
          · refine ⟨?_, ⟨Int.le_refl _, fun _ => fun _ => ⟨rfl, ⟨rfl, ⟨rfl, rfl⟩⟩⟩⟩, ?_, ?_, ?_⟩
            · refine ⟨rfl, rfl, rfl, ?_, ?_, ?_, ?_⟩
              · refine ⟨?_, ?_⟩
                · exact so2_N (by omega)
                · intro c21
                  have hb := soN_bd (il A D) noY (j := 2 * (j + 1)) (by omega); omega
              · refine ⟨?_, ?_⟩
                · exact so2_N (by omega)
                · intro c22
                  have hb := soN_bd (il B F) noY (j := 2 * (j + 1)) (by omega); omega
              · omega
              · intro c23
                omega
            · refine ⟨?_, ?_⟩
              · exact Int.le_of_eq (so2_N (by omega)).symm
              · intro e10
                intro c24
                exact so2_X (by omega) _
            · exact Int.le_of_eq (so2_N (by omega)).symm
            · intro e9
              intro c25
              exact so2_X (by omega) _
          · omega
    · intro c26
      refine ⟨?_, ⟨Int.le_refl _, fun _ => fun _ => ⟨rfl, ⟨rfl, ⟨rfl, rfl⟩⟩⟩⟩, ?_, ?_, ?_⟩
      · refine ⟨?_, ?_⟩
        · have e : j = n := (by omega); subst e; first | exact so_u _ _ (by omega) | exact Int.le_of_eq (so_u _ _ (by omega)).symm | exact so_v (by omega) (by omega) (by omega)
        · have e : j = n := (by omega); subst e; first | exact so_u _ _ (by omega) | exact Int.le_of_eq (so_u _ _ (by omega)).symm | exact so_v (by omega) (by omega) (by omega)
      · refine ⟨?_, ?_⟩
        · have e : j = n := (by omega); subst e; first | exact so_u _ _ (by omega) | exact Int.le_of_eq (so_u _ _ (by omega)).symm | exact so_v (by omega) (by omega) (by omega)
        · intro e13
          intro c27
          refine ⟨?_, ?_⟩
          · have e : j = n := (by omega); subst e; first | exact so_u _ _ (by omega) | exact Int.le_of_eq (so_u _ _ (by omega)).symm | exact so_v (by omega) (by omega) (by omega)
          · intro c28
            exact okR_x hR (by omega) (by omega)
      · have e : j = n := (by omega); subst e; first | exact so_u _ _ (by omega) | exact Int.le_of_eq (so_u _ _ (by omega)).symm | exact so_v (by omega) (by omega) (by omega)
      · intro e12
        intro c29
        refine ⟨?_, ?_⟩
        · have e : j = n := (by omega); subst e; first | exact so_u _ _ (by omega) | exact Int.le_of_eq (so_u _ _ (by omega)).symm | exact so_v (by omega) (by omega) (by omega)
        · intro c30
          exact okR_y hR (by omega) (by omega)
def c_s_cells (A : Int → Int) (B : Int → Int) (D : Int → Int) (F : Int → Int) (n : Int) : Cn Try.prog := ⟨_, _, _, _, _, s_cells A B D F n⟩
theorem s_depthAt (A : Int → Int) (B : Int → Int) (D : Int → Int) (F : Int → Int) (n : Int) (x : Int) (y : Int) : RunsTo Try.prog 77 [(.sl 0 4 (.lit 0) (.v fun _ => n) 12), (.int .i64 (.v fun _ => x) (-9223372036854775808) 9223372036854775807), (.int .i64 (.v fun _ => y) (-9223372036854775808) 9223372036854775807)] [some ⟨57, 4, true, (.sym (.v fun _ => n) fun e => [(.int .i64 (.v fun _ => (A (e.den))) (-1000) 1000), (.int .i64 (.v fun _ => (B (e.den))) (-1000) 1000), (.int .i64 (.v fun _ => (D (e.den))) (-1000) 1000), (.int .i64 (.v fun _ => (F (e.den))) (-1000) 1000)])⟩] (.int .i64 (.v fun _ => dep A B D F n x y) 0 12) [some ⟨57, 4, true, (.sym (.v fun _ => n) fun e => [(.int .i64 (.v fun _ => (A (e.den))) (-1000) 1000), (.int .i64 (.v fun _ => (B (e.den))) (-1000) 1000), (.int .i64 (.v fun _ => (D (e.den))) (-1000) 1000), (.int .i64 (.v fun _ => (F (e.den))) (-1000) 1000)])⟩] := by
  refine RunsTo.go env Try.func77 rfl Try.call77 rfl rfl (fun _ _ => (.loop [] [0] (Int) (fun x1 => ⟨spl 50 0 [(0, (.sl 0 4 (.lit 0) (.v fun _ => n) 12)), (1, (.int .i64 (.v fun _ => x) (-9223372036854775808) 9223372036854775807)), (2, (.int .i64 (.v fun _ => y) (-9223372036854775808) 9223372036854775807)), (6, (.int .i64 (.lit 0) 0 0)), (7, (.int .i64 (.v fun _ => len' (fl (inr A B D F x y) x1)) 0 12)), (8, (.int .i64 (.v fun _ => x1) 0 12))], [some ⟨57, 4, true, (.sym (.v fun _ => n) fun e => [(.int .i64 (.v fun _ => (A (e.den))) (-1000) 1000), (.int .i64 (.v fun _ => (B (e.den))) (-1000) 1000), (.int .i64 (.v fun _ => (D (e.den))) (-1000) 1000), (.int .i64 (.v fun _ => (F (e.den))) (-1000) 1000)])⟩], 1⟩) (fun x1 => 0 ≤ x1 ∧ x1 ≤ n) (fun x1 => (n - x1).toNat) fun x1 => (.ite (.need (.need (.need (.need (.call (c_s_inRange x ((A (x1))) (((D (x1))) - 1)) (.ite (.need (.need (.need (.need (.call (c_s_inRange y ((B (x1))) (((F (x1))) - 1)) (.ite (.next [0]) (.next [0]))))))) (.next [0]))))))) (.out .ret)))) (G := ((0 ≤ n ∧ n ≤ 12) ∧ (((-9223372036854775808) ≤ x ∧ x ≤ 9223372036854775807) ∧ ((-9223372036854775808) ≤ y ∧ y ≤ 9223372036854775807))) → (∀ e11 : E, ((0 ≤ e11.den ∧ e11.den < n) → (((-1000) ≤ ((A (e11.den))) ∧ ((A (e11.den))) ≤ 1000) ∧ (((-1000) ≤ ((B (e11.den))) ∧ ((B (e11.den))) ≤ 1000) ∧ (((-1000) ≤ ((D (e11.den))) ∧ ((D (e11.den))) ≤ 1000) ∧ ((-1000) ≤ ((F (e11.den))) ∧ ((F (e11.den))) ≤ 1000)))))) → ((∃ y2 : Int, ((0 ≤ y2 ∧ y2 ≤ n) ∧ (((n = n) ∧ ((x = x) ∧ ((y = y) ∧ (((0 : Int) = (len' (fl (inr A B D F x y) y2))) ∧ ((0 : Int) = y2))))) ∧ ((n ≤ n) ∧ (∀ e3 : E, ((0 ≤ e3.den ∧ e3.den < n) → ((((A (e3.den))) = ((A (e3.den)))) ∧ ((((B (e3.den))) = ((B (e3.den)))) ∧ ((((D (e3.den))) = ((D (e3.den)))) ∧ (((F (e3.den))) = ((F (e3.den))))))))))))) ∧ (∀ x1 : Int, ((0 ≤ x1 ∧ x1 ≤ n) → (((x1 < n) → ((((0 ≤ x1) ∧ (x1 < n))) ∧ ((x1 < n) ∧ ((((0 ≤ x1) ∧ (x1 < n))) ∧ ((x1 < n) ∧ (((x = x) ∧ ((((A (x1))) = ((A (x1)))) ∧ ((((D (x1))) - 1) = (((D (x1))) - 1)))) ∧ ((((decide (((A (x1))) ≤ x) && decide (x ≤ (((D (x1))) - 1))) = true) → ((((0 ≤ x1) ∧ (x1 < n))) ∧ ((x1 < n) ∧ ((((0 ≤ x1) ∧ (x1 < n))) ∧ ((x1 < n) ∧ (((y = y) ∧ ((((B (x1))) = ((B (x1)))) ∧ ((((F (x1))) - 1) = (((F (x1))) - 1)))) ∧ ((((decide (((B (x1))) ≤ y) && decide (y ≤ (((F (x1))) - 1))) = true) → (∃ y4 : Int, ((0 ≤ y4 ∧ y4 ≤ n) ∧ ((((n = n) ∧ ((x = x) ∧ ((y = y) ∧ (((((len' (fl (inr A B D F x y) x1)) + 1) = (len' (fl (inr A B D F x y) y4))) ∧ ((1 ≤ ((len' (fl (inr A B D F x y) x1)) + 1) ∧ ((len' (fl (inr A B D F x y) x1)) + 1) ≤ 13) → (0 ≤ (len' (fl (inr A B D F x y) y4)) ∧ (len' (fl (inr A B D F x y) y4)) ≤ 12))) ∧ (((x1 + 1) = y4) ∧ ((1 ≤ (x1 + 1) ∧ (x1 + 1) ≤ 13) → (0 ≤ y4 ∧ y4 ≤ 12))))))) ∧ ((n ≤ n) ∧ (∀ e5 : E, ((0 ≤ e5.den ∧ e5.den < n) → ((((A (e5.den))) = ((A (e5.den)))) ∧ ((((B (e5.den))) = ((B (e5.den)))) ∧ ((((D (e5.den))) = ((D (e5.den)))) ∧ (((F (e5.den))) = ((F (e5.den))))))))))) ∧ ((n - y4).toNat < (n - x1).toNat))))) ∧ (((decide (((B (x1))) ≤ y) && decide (y ≤ (((F (x1))) - 1))) = false) → (∃ y6 : Int, ((0 ≤ y6 ∧ y6 ≤ n) ∧ ((((n = n) ∧ ((x = x) ∧ ((y = y) ∧ (((len' (fl (inr A B D F x y) x1)) = (len' (fl (inr A B D F x y) y6))) ∧ (((x1 + 1) = y6) ∧ ((1 ≤ (x1 + 1) ∧ (x1 + 1) ≤ 13) → (0 ≤ y6 ∧ y6 ≤ 12))))))) ∧ ((n ≤ n) ∧ (∀ e7 : E, ((0 ≤ e7.den ∧ e7.den < n) → ((((A (e7.den))) = ((A (e7.den)))) ∧ ((((B (e7.den))) = ((B (e7.den)))) ∧ ((((D (e7.den))) = ((D (e7.den)))) ∧ (((F (e7.den))) = ((F (e7.den))))))))))) ∧ ((n - y6).toNat < (n - x1).toNat)))))))))))) ∧ (((decide (((A (x1))) ≤ x) && decide (x ≤ (((D (x1))) - 1))) = false) → (∃ y8 : Int, ((0 ≤ y8 ∧ y8 ≤ n) ∧ ((((n = n) ∧ ((x = x) ∧ ((y = y) ∧ (((len' (fl (inr A B D F x y) x1)) = (len' (fl (inr A B D F x y) y8))) ∧ (((x1 + 1) = y8) ∧ ((1 ≤ (x1 + 1) ∧ (x1 + 1) ≤ 13) → (0 ≤ y8 ∧ y8 ≤ 12))))))) ∧ ((n ≤ n) ∧ (∀ e9 : E, ((0 ≤ e9.den ∧ e9.den < n) → ((((A (e9.den))) = ((A (e9.den)))) ∧ ((((B (e9.den))) = ((B (e9.den)))) ∧ ((((D (e9.den))) = ((D (e9.den)))) ∧ (((F (e9.den))) = ((F (e9.den))))))))))) ∧ ((n - y8).toNat < (n - x1).toNat)))))))))))) ∧ ((n ≤ x1) → (((len' (fl (inr A B D F x y) x1)) = (dep A B D F n x y)) ∧ ((n ≤ n) ∧ (∀ e10 : E, ((0 ≤ e10.den ∧ e10.den < n) → ((((A (e10.den))) = ((A (e10.den)))) ∧ ((((B (e10.den))) = ((B (e10.den)))) ∧ ((((D (e10.den))) = ((D (e10.den)))) ∧ (((F (e10.den))) = ((F (e10.den))))))))))))))))) (by kernel_rfl) ?_
  intro h1 h2
  refine ⟨?_, ?_⟩
  · refine ⟨0, ?_⟩
    try dsimp only
    refine ⟨?_, ?_, Int.le_refl _, fun _ => fun _ => ⟨rfl, ⟨rfl, ⟨rfl, rfl⟩⟩⟩⟩
    · omega
    · refine ⟨rfl, rfl, rfl, ?_, ?_⟩
      · rfl
      · rfl
  · intro j
    intro I1
    refine ⟨?_, ?_⟩
    · intro c12
      refine ⟨?_, ?_, ?_, ?_, ⟨rfl, ⟨rfl, rfl⟩⟩, ?_, ?_⟩
      · omega
      · omega
      · omega
      · omega
      · intro c13
        refine ⟨?_, ?_, ?_, ?_, ⟨rfl, ⟨rfl, rfl⟩⟩, ?_, ?_⟩
        · omega
        · omega
        · omega
        · omega
        · intro c14
          refine ⟨j + 1, ?_⟩
          try dsimp only
          refine ⟨?_, ?_, ?_⟩
          · omega
          · refine ⟨?_, Int.le_refl _, fun _ => fun _ => ⟨rfl, ⟨rfl, ⟨rfl, rfl⟩⟩⟩⟩
            refine ⟨rfl, rfl, rfl, ?_, ?_, ?_⟩
            · refine ⟨?_, ?_⟩
              · have hq : inr A B D F x y j = true := (inr_y (by assumption) (by assumption)); rw [fl_yes (by omega) hq, len'_snoc]; done
              · intro c15
                have hb := fl_bd (inr A B D F x y) (n := j + 1) (by omega); omega
            · rfl
            · intro c16
              omega
          · omega
        · intro c17
          refine ⟨j + 1, ?_⟩
          try dsimp only
          refine ⟨?_, ?_, ?_⟩
          · omega
          · refine ⟨?_, Int.le_refl _, fun _ => fun _ => ⟨rfl, ⟨rfl, ⟨rfl, rfl⟩⟩⟩⟩
            refine ⟨rfl, rfl, rfl, ?_, ?_, ?_⟩
            · have hq : inr A B D F x y j = false := (inr_n2 (by assumption)); rw [fl_no (by omega) hq]; done
            · rfl
            · intro c18
              omega
          · omega
      · intro c19
        refine ⟨j + 1, ?_⟩
        try dsimp only
        refine ⟨?_, ?_, ?_⟩
        · omega
        · refine ⟨?_, Int.le_refl _, fun _ => fun _ => ⟨rfl, ⟨rfl, ⟨rfl, rfl⟩⟩⟩⟩
          refine ⟨rfl, rfl, rfl, ?_, ?_, ?_⟩
          · have hq : inr A B D F x y j = false := (inr_n1 (by assumption)); rw [fl_no (by omega) hq]; done
          · rfl
          · intro c20
            omega
        · omega
    · intro c21
      refine ⟨?_, Int.le_refl _, fun _ => fun _ => ⟨rfl, ⟨rfl, ⟨rfl, rfl⟩⟩⟩⟩
      have e : j = n := (by omega); subst e; rfl
def c_s_depthAt (A : Int → Int) (B : Int → Int) (D : Int → Int) (F : Int → Int) (n : Int) (x : Int) (y : Int) : Cn Try.prog := ⟨_, _, _, _, _, s_depthAt A B D F n x y⟩
end Go.Proofs.Ytpnjopppclmfkaa
