/- The reader of random numbers. -/
import Derived.Test.YtefikodgmhlfnaaK1
set_option linter.unusedSimpArgs false
set_option linter.unusedVariables false
set_option maxRecDepth 100000
namespace Go.Proofs.Ytefikodgmhlfnaa
open Go.Sym
/-- The k-th next number of the reader. -/
def pk (C : Int → Int) (n p k : Int) : Int :=
  if k < 1 then 0 else if n = 0 then 0 else if p < n then Int.tmod (C p) k else
  Int.tmod (kxor .i64 ((C (Int.tmod p n)) * 131 + (C (Int.tmod (p * 7 + 3) n)) * 1117 + p * 29 + (Int.tdiv p n) * 53) (Int.tdiv ((C (Int.tmod p n)) * 131 + (C (Int.tmod (p * 7 + 3) n)) * 1117 + p * 29 + (Int.tdiv p n) * 53) 64)) k
def cut (n : Int) : Int := if n > 2000 then 2000 else n
theorem kxor_nonneg (a b : Int) (h1 : 0 ≤ a) (h2 : a < 4294967296) (h3 : 0 ≤ b) (h4 : b < 4294967296) : 0 ≤ kxor .i64 a b := by
  obtain ⟨A, rfl⟩ := Int.eq_ofNat_of_zero_le h1
  obtain ⟨B, rfl⟩ := Int.eq_ofNat_of_zero_le h3
  have hx : A ^^^ B < 2 ^ 32 := Nat.xor_lt_two_pow (by omega) (by omega)
  have e : kxor .i64 (A : Int) (B : Int) = IntKind.i64.wrap ((A ^^^ B : Nat) : Int) := by
    unfold kxor
    congr 2
    show (BitVec.ofInt 64 (A : Int) ^^^ BitVec.ofInt 64 (B : Int)).toNat = _
    rw [BitVec.toNat_xor, BitVec.toNat_ofInt, BitVec.toNat_ofInt]
    congr 1 <;> omega
  have h8 : IntKind.i64.min = -9223372036854775808 := by decide
  have h9 : IntKind.i64.max = 9223372036854775807 := by decide
  rw [e, wrap_in .i64 _ (by omega) (by omega)]
  omega
theorem mod_bd (x n : Int) (h : 0 ≤ x) (hn : 0 < n) : 0 ≤ Int.tmod x n ∧ Int.tmod x n < n := ⟨Int.tmod_nonneg _ h, Int.tmod_lt_of_pos _ hn⟩
theorem pk_bd {C : Int → Int} {n p k : Int} (hC : ∀ i, 0 ≤ i → i < n → 0 ≤ C i ∧ C i ≤ 255) (hp : 0 ≤ p) (hq : p ≤ 20000000) (hk : 1 ≤ k) (hn : 0 ≤ n) : 0 ≤ pk C n p k ∧ pk C n p k < k := by
  unfold pk
  rw [if_neg (by omega)]
  split
  · omega
  · split
    · exact mod_bd _ _ (hC p hp (by omega)).1 (by omega)
    · have h1 := mod_bd p n hp (by omega)
      have h2 := mod_bd (p * 7 + 3) n (by omega) (by omega)
      have h3 := hC _ h1.1 h1.2
      have h4 := hC _ h2.1 h2.2
      have h5 : 0 ≤ Int.tdiv p n := Int.tdiv_nonneg hp (by omega)
      have h6 : Int.tdiv p n ≤ p := by rw [Int.tdiv_eq_ediv_of_nonneg hp]; exact Int.ediv_le_self _ hp
      have h7 : Int.tdiv ((C (Int.tmod p n)) * 131 + (C (Int.tmod (p * 7 + 3) n)) * 1117 + p * 29 + (Int.tdiv p n) * 53) 64 ≤ (C (Int.tmod p n)) * 131 + (C (Int.tmod (p * 7 + 3) n)) * 1117 + p * 29 + (Int.tdiv p n) * 53 := by
        rw [Int.tdiv_eq_ediv_of_nonneg (by omega)]; exact Int.ediv_le_self _ (by omega)
      exact mod_bd _ _ (kxor_nonneg _ _ (by omega) (by omega) (Int.tdiv_nonneg (by omega) (by omega)) (by omega)) (by omega)
theorem cut_bd {n : Int} (h : 0 ≤ n) : 0 ≤ cut n ∧ cut n ≤ 2000 ∧ cut n ≤ n := by unfold cut; split <;> omega
theorem s_newReader (C : Int → Int) (n : Int) : RunsTo Try.prog 7 [(.sl 0 1 (.lit 0) (.v fun _ => n) 9223372036854775807)] [some ⟨5, 1, false, (.sym (.v fun _ => n) fun e => [(.int .u8 (.v fun _ => (C (e.den))) 0 255)])⟩] (.ptr 1 2 (.lit 0) 0) [some ⟨5, 1, false, (.sym (.v fun _ => cut n) fun e => [(.int .u8 (.v fun _ => (C (e.den))) 0 255)])⟩, some ⟨37, 2, true, (.lit [[(.sl 0 1 (.lit 0) (.v fun _ => cut n) 2000), (.int .i64 (.lit 0) 0 0)]])⟩] := by
  refine RunsTo.go env Try.func7 rfl Try.call7 rfl rfl (fun _ _ => (.ite (.need .ret) .ret)) (G := (0 ≤ n ∧ n ≤ 9223372036854775807) → (∀ e3 : E, ((0 ≤ e3.den ∧ e3.den < n) → (0 ≤ ((C (e3.den))) ∧ ((C (e3.den))) ≤ 255))) → (((2000 < n) → ((2000 ≤ n) ∧ ((((cut n) ≤ n) ∧ (∀ e1 : E, ((0 ≤ e1.den ∧ e1.den < (cut n)) → (((C (e1.den))) = ((C (e1.den))))))) ∧ (((2000 : Int) = (cut n)) ∧ (((2000 : Int) ≤ 9223372036854775807) → ((cut n) ≤ 2000)))))) ∧ ((n ≤ 2000) → ((((cut n) ≤ n) ∧ (∀ e2 : E, ((0 ≤ e2.den ∧ e2.den < (cut n)) → (((C (e2.den))) = ((C (e2.den))))))) ∧ ((n = (cut n)) ∧ ((n ≤ 9223372036854775807) → ((cut n) ≤ 2000))))))) (by kernel_rfl) ?_
  intro h1 h2
  refine ⟨?_, ?_⟩
  · intro c4
    refine ⟨?_, ?_, ?_, ?_⟩
    · omega
    · refine ⟨?_, fun _ => fun _ => rfl⟩
      unfold cut; split <;> omega
    · unfold cut; split <;> omega
    · intro c5
      unfold cut; split <;> omega
  · intro c6
    refine ⟨?_, ?_, ?_⟩
    · refine ⟨?_, fun _ => fun _ => rfl⟩
      unfold cut; split <;> omega
    · unfold cut; split <;> omega
    · intro c7
      unfold cut; split <;> omega
def c_s_newReader (C : Int → Int) (n : Int) : Cn Try.prog := ⟨_, _, _, _, _, s_newReader C n⟩
theorem pick (C : Int → Int) (n : Int) (p : Int) (k : Int) : RunsTo Try.prog 9 [(.ptr 0 2 (.lit 0) 0), (.int .i64 (.v fun _ => k) (-9223372036854775808) 9223372036854775807)] [some ⟨37, 2, true, (.lit [[(.sl 1 1 (.lit 0) (.v fun _ => n) 2000), (.int .i64 (.v fun _ => p) 0 10000000)]])⟩, some ⟨5, 1, false, (.sym (.v fun _ => n) fun e => [(.int .u8 (.v fun _ => (C (e.den))) 0 255)])⟩] (.int .i64 (.v fun _ => pk C n p k) (-9223372036854775808) 9223372036854775807) [some ⟨37, 2, true, (.lit [[(.sl 1 1 (.lit 0) (.v fun _ => n) 2000), (.int .i64 (.v fun _ => p + 1) 0 10000001)]])⟩, some ⟨5, 1, false, (.sym (.v fun _ => n) fun e => [(.int .u8 (.v fun _ => (C (e.den))) 0 255)])⟩] := by
  refine RunsTo.go env Try.func9 rfl Try.call9 rfl rfl (fun _ _ => (.ite .ret (.ite .ret (.ite (.need (.need (.need .ret))) (.need (.need (.need (.need (.need (.need (.need (.need .ret)))))))))))) (G := ((-9223372036854775808) ≤ k ∧ k ≤ 9223372036854775807) → (((0 ≤ n ∧ n ≤ 2000) ∧ (0 ≤ p ∧ p ≤ 10000000)) ∧ (∀ e5 : E, ((0 ≤ e5.den ∧ e5.den < n) → (0 ≤ ((C (e5.den))) ∧ ((C (e5.den))) ≤ 255)))) → (((k < 1) → (((0 : Int) = (pk C n p k)) ∧ (((n = n) ∧ ((p + 1) = (p + 1))) ∧ ((n ≤ n) ∧ (∀ e1 : E, ((0 ≤ e1.den ∧ e1.den < n) → (((C (e1.den))) = ((C (e1.den)))))))))) ∧ ((1 ≤ k) → (((n = 0) → (((0 : Int) = (pk C n p k)) ∧ (((n = n) ∧ ((p + 1) = (p + 1))) ∧ ((n ≤ n) ∧ (∀ e2 : E, ((0 ≤ e2.den ∧ e2.den < n) → (((C (e2.den))) = ((C (e2.den)))))))))) ∧ ((n ≠ 0) → (((((p + 1) - 1) < n) → ((((0 ≤ ((p + 1) - 1)) ∧ (((p + 1) - 1) < n))) ∧ ((((p + 1) - 1) < n) ∧ ((k ≠ 0) ∧ (((Int.tmod ((C ((p + 1) - 1))) k) = (pk C n p k)) ∧ (((n = n) ∧ ((p + 1) = (p + 1))) ∧ ((n ≤ n) ∧ (∀ e3 : E, ((0 ≤ e3.den ∧ e3.den < n) → (((C (e3.den))) = ((C (e3.den))))))))))))) ∧ ((n ≤ ((p + 1) - 1)) → ((n ≠ 0) ∧ ((((0 ≤ (Int.tmod ((p + 1) - 1) n)) ∧ ((Int.tmod ((p + 1) - 1) n) < n))) ∧ (((Int.tmod ((p + 1) - 1) n) < n) ∧ ((n ≠ 0) ∧ ((((0 ≤ (Int.tmod ((((p + 1) - 1) * 7) + 3) n)) ∧ ((Int.tmod ((((p + 1) - 1) * 7) + 3) n) < n))) ∧ (((Int.tmod ((((p + 1) - 1) * 7) + 3) n) < n) ∧ ((n ≠ 0) ∧ ((k ≠ 0) ∧ ((((Int.tmod (kxor .i64 ((((((C (Int.tmod ((p + 1) - 1) n))) * 131) + (((C (Int.tmod ((((p + 1) - 1) * 7) + 3) n))) * 1117)) + (((p + 1) - 1) * 29)) + ((Int.tdiv ((p + 1) - 1) n) * 53)) (Int.tdiv ((((((C (Int.tmod ((p + 1) - 1) n))) * 131) + (((C (Int.tmod ((((p + 1) - 1) * 7) + 3) n))) * 1117)) + (((p + 1) - 1) * 29)) + ((Int.tdiv ((p + 1) - 1) n) * 53)) 64)) k) = (pk C n p k)) ∧ (((-9223372036854775808) ≤ (Int.tmod (kxor .i64 ((((((C (Int.tmod ((p + 1) - 1) n))) * 131) + (((C (Int.tmod ((((p + 1) - 1) * 7) + 3) n))) * 1117)) + (((p + 1) - 1) * 29)) + ((Int.tdiv ((p + 1) - 1) n) * 53)) (Int.tdiv ((((((C (Int.tmod ((p + 1) - 1) n))) * 131) + (((C (Int.tmod ((((p + 1) - 1) * 7) + 3) n))) * 1117)) + (((p + 1) - 1) * 29)) + ((Int.tdiv ((p + 1) - 1) n) * 53)) 64)) k) ∧ (Int.tmod (kxor .i64 ((((((C (Int.tmod ((p + 1) - 1) n))) * 131) + (((C (Int.tmod ((((p + 1) - 1) * 7) + 3) n))) * 1117)) + (((p + 1) - 1) * 29)) + ((Int.tdiv ((p + 1) - 1) n) * 53)) (Int.tdiv ((((((C (Int.tmod ((p + 1) - 1) n))) * 131) + (((C (Int.tmod ((((p + 1) - 1) * 7) + 3) n))) * 1117)) + (((p + 1) - 1) * 29)) + ((Int.tdiv ((p + 1) - 1) n) * 53)) 64)) k) ≤ 9223372036854775808) → ((-9223372036854775808) ≤ (pk C n p k) ∧ (pk C n p k) ≤ 9223372036854775807))) ∧ (((n = n) ∧ ((p + 1) = (p + 1))) ∧ ((n ≤ n) ∧ (∀ e4 : E, ((0 ≤ e4.den ∧ e4.den < n) → (((C (e4.den))) = ((C (e4.den)))))))))))))))))))))))) (by kernel_rfl) ?_
  intro h1 h2
  have hC : ∀ i, 0 ≤ i → i < n → 0 ≤ C i ∧ C i ≤ 255 := fun i a b => h2.2 (.v fun _ => i) ⟨a, b⟩
  have e1 : p + 1 - 1 = p := by omega
  refine ⟨?_, ?_⟩
  · intro c6
    refine ⟨?_, ⟨rfl, rfl⟩, Int.le_refl _, fun _ => fun _ => rfl⟩
    unfold pk; (try simp only [e1]); split <;> (try split) <;> (try split) <;> first | rfl | omega
  · intro c7
    refine ⟨?_, ?_⟩
    · intro c8
      refine ⟨?_, ⟨rfl, rfl⟩, Int.le_refl _, fun _ => fun _ => rfl⟩
      unfold pk; (try simp only [e1]); split <;> (try split) <;> (try split) <;> first | rfl | omega
    · intro c9
      refine ⟨?_, ?_⟩
      · intro c10
        refine ⟨?_, ?_, ?_, ?_, ⟨rfl, rfl⟩, Int.le_refl _, fun _ => fun _ => rfl⟩
        · omega
        · omega
        · omega
        · unfold pk; (try simp only [e1]); split <;> (try split) <;> (try split) <;> first | rfl | omega
      · intro c11
        refine ⟨?_, ?_, ?_, ?_, ?_, ?_, ?_, ?_, ?_, ⟨rfl, rfl⟩, Int.le_refl _, fun _ => fun _ => rfl⟩
        · omega
        · have hm := mod_bd p n (by omega) (by omega); have hm2 := mod_bd (p * 7 + 3) n (by omega) (by omega); (try simp only [e1]); omega
        · have hm := mod_bd p n (by omega) (by omega); have hm2 := mod_bd (p * 7 + 3) n (by omega) (by omega); (try simp only [e1]); omega
        · omega
        · have hm := mod_bd p n (by omega) (by omega); have hm2 := mod_bd (p * 7 + 3) n (by omega) (by omega); (try simp only [e1]); omega
        · have hm := mod_bd p n (by omega) (by omega); have hm2 := mod_bd (p * 7 + 3) n (by omega) (by omega); (try simp only [e1]); omega
        · omega
        · omega
        · refine ⟨?_, ?_⟩
          · unfold pk; (try simp only [e1]); split <;> (try split) <;> (try split) <;> first | rfl | omega
          · intro c12
            have hb := pk_bd (p := p) (k := k) hC (by omega) (by omega) (by omega) (by omega); omega
def c_pick (C : Int → Int) (n : Int) (p : Int) (k : Int) : Cn Try.prog := ⟨_, _, _, _, _, pick C n p k⟩
theorem pick_all (C : Int → Int) (n p k : Int) (hk : 1 ≤ k) (h : k ≤ 9223372036854775807) : RunsTo Try.prog 9 [.ptr 0 2 (.lit 0) 0, .int .i64 (.lit k) k k] [some ⟨37, 2, true, (.lit [[(.sl 1 1 (.lit 0) (.v fun _ => n) 2000), (.int .i64 (.v fun _ => p) 0 10000000)]])⟩, some ⟨5, 1, false, (.sym (.v fun _ => n) fun e => [(.int .u8 (.v fun _ => (C (e.den))) 0 255)])⟩] (.int .i64 (.v fun _ => pk C n p k) 0 (k - 1)) [some ⟨37, 2, true, (.lit [[(.sl 1 1 (.lit 0) (.v fun _ => n) 2000), (.int .i64 (.v fun _ => p + 1) 0 10000001)]])⟩, some ⟨5, 1, false, (.sym (.v fun _ => n) fun e => [(.int .u8 (.v fun _ => (C (e.den))) 0 255)])⟩] :=
  RunsTo.narrow (pick C n p k) ⟨⟨rfl, rfl, rfl, rfl⟩, ⟨rfl, rfl, fun _ _ => ⟨by show (-9223372036854775808 : Int) ≤ k; omega, h⟩⟩, trivial⟩ rfl rfl fun _ h2 => ⟨rfl, rfl, fun _ _ => by
    have hb := pk_bd (C := C) (n := n) (p := p) (k := k) (fun i a b => h2.2 (.v fun _ => i) ⟨a, b⟩) h2.1.2.1 (by have := h2.1.2.2; show p ≤ 20000000; have h3 : p ≤ 10000000 := this; omega) hk h2.1.1.1
    exact ⟨hb.1, by show pk C n p k ≤ k - 1; omega⟩⟩
theorem pick_2 (C : Int → Int) (n : Int) (p : Int) : RunsTo Try.prog 9 [(.ptr 0 2 (.lit 0) 0), (.int .i64 (.lit 2) 2 2)] [some ⟨37, 2, true, (.lit [[(.sl 1 1 (.lit 0) (.v fun _ => n) 2000), (.int .i64 (.v fun _ => p) 0 10000000)]])⟩, some ⟨5, 1, false, (.sym (.v fun _ => n) fun e => [(.int .u8 (.v fun _ => (C (e.den))) 0 255)])⟩] (.int .i64 (.v fun _ => pk C n p 2) 0 1) [some ⟨37, 2, true, (.lit [[(.sl 1 1 (.lit 0) (.v fun _ => n) 2000), (.int .i64 (.v fun _ => p + 1) 0 10000001)]])⟩, some ⟨5, 1, false, (.sym (.v fun _ => n) fun e => [(.int .u8 (.v fun _ => (C (e.den))) 0 255)])⟩] := pick_all C n p 2 (by decide) (by decide)
def c_pick_2 (C : Int → Int) (n : Int) (p : Int) : Cn Try.prog := ⟨_, _, _, _, _, pick_2 C n p⟩
theorem pick_3 (C : Int → Int) (n : Int) (p : Int) : RunsTo Try.prog 9 [(.ptr 0 2 (.lit 0) 0), (.int .i64 (.lit 3) 3 3)] [some ⟨37, 2, true, (.lit [[(.sl 1 1 (.lit 0) (.v fun _ => n) 2000), (.int .i64 (.v fun _ => p) 0 10000000)]])⟩, some ⟨5, 1, false, (.sym (.v fun _ => n) fun e => [(.int .u8 (.v fun _ => (C (e.den))) 0 255)])⟩] (.int .i64 (.v fun _ => pk C n p 3) 0 2) [some ⟨37, 2, true, (.lit [[(.sl 1 1 (.lit 0) (.v fun _ => n) 2000), (.int .i64 (.v fun _ => p + 1) 0 10000001)]])⟩, some ⟨5, 1, false, (.sym (.v fun _ => n) fun e => [(.int .u8 (.v fun _ => (C (e.den))) 0 255)])⟩] := pick_all C n p 3 (by decide) (by decide)
def c_pick_3 (C : Int → Int) (n : Int) (p : Int) : Cn Try.prog := ⟨_, _, _, _, _, pick_3 C n p⟩
theorem pick_4 (C : Int → Int) (n : Int) (p : Int) : RunsTo Try.prog 9 [(.ptr 0 2 (.lit 0) 0), (.int .i64 (.lit 4) 4 4)] [some ⟨37, 2, true, (.lit [[(.sl 1 1 (.lit 0) (.v fun _ => n) 2000), (.int .i64 (.v fun _ => p) 0 10000000)]])⟩, some ⟨5, 1, false, (.sym (.v fun _ => n) fun e => [(.int .u8 (.v fun _ => (C (e.den))) 0 255)])⟩] (.int .i64 (.v fun _ => pk C n p 4) 0 3) [some ⟨37, 2, true, (.lit [[(.sl 1 1 (.lit 0) (.v fun _ => n) 2000), (.int .i64 (.v fun _ => p + 1) 0 10000001)]])⟩, some ⟨5, 1, false, (.sym (.v fun _ => n) fun e => [(.int .u8 (.v fun _ => (C (e.den))) 0 255)])⟩] := pick_all C n p 4 (by decide) (by decide)
def c_pick_4 (C : Int → Int) (n : Int) (p : Int) : Cn Try.prog := ⟨_, _, _, _, _, pick_4 C n p⟩
theorem pick_5 (C : Int → Int) (n : Int) (p : Int) : RunsTo Try.prog 9 [(.ptr 0 2 (.lit 0) 0), (.int .i64 (.lit 5) 5 5)] [some ⟨37, 2, true, (.lit [[(.sl 1 1 (.lit 0) (.v fun _ => n) 2000), (.int .i64 (.v fun _ => p) 0 10000000)]])⟩, some ⟨5, 1, false, (.sym (.v fun _ => n) fun e => [(.int .u8 (.v fun _ => (C (e.den))) 0 255)])⟩] (.int .i64 (.v fun _ => pk C n p 5) 0 4) [some ⟨37, 2, true, (.lit [[(.sl 1 1 (.lit 0) (.v fun _ => n) 2000), (.int .i64 (.v fun _ => p + 1) 0 10000001)]])⟩, some ⟨5, 1, false, (.sym (.v fun _ => n) fun e => [(.int .u8 (.v fun _ => (C (e.den))) 0 255)])⟩] := pick_all C n p 5 (by decide) (by decide)
def c_pick_5 (C : Int → Int) (n : Int) (p : Int) : Cn Try.prog := ⟨_, _, _, _, _, pick_5 C n p⟩
theorem pick_6 (C : Int → Int) (n : Int) (p : Int) : RunsTo Try.prog 9 [(.ptr 0 2 (.lit 0) 0), (.int .i64 (.lit 6) 6 6)] [some ⟨37, 2, true, (.lit [[(.sl 1 1 (.lit 0) (.v fun _ => n) 2000), (.int .i64 (.v fun _ => p) 0 10000000)]])⟩, some ⟨5, 1, false, (.sym (.v fun _ => n) fun e => [(.int .u8 (.v fun _ => (C (e.den))) 0 255)])⟩] (.int .i64 (.v fun _ => pk C n p 6) 0 5) [some ⟨37, 2, true, (.lit [[(.sl 1 1 (.lit 0) (.v fun _ => n) 2000), (.int .i64 (.v fun _ => p + 1) 0 10000001)]])⟩, some ⟨5, 1, false, (.sym (.v fun _ => n) fun e => [(.int .u8 (.v fun _ => (C (e.den))) 0 255)])⟩] := pick_all C n p 6 (by decide) (by decide)
def c_pick_6 (C : Int → Int) (n : Int) (p : Int) : Cn Try.prog := ⟨_, _, _, _, _, pick_6 C n p⟩
theorem pick_7 (C : Int → Int) (n : Int) (p : Int) : RunsTo Try.prog 9 [(.ptr 0 2 (.lit 0) 0), (.int .i64 (.lit 7) 7 7)] [some ⟨37, 2, true, (.lit [[(.sl 1 1 (.lit 0) (.v fun _ => n) 2000), (.int .i64 (.v fun _ => p) 0 10000000)]])⟩, some ⟨5, 1, false, (.sym (.v fun _ => n) fun e => [(.int .u8 (.v fun _ => (C (e.den))) 0 255)])⟩] (.int .i64 (.v fun _ => pk C n p 7) 0 6) [some ⟨37, 2, true, (.lit [[(.sl 1 1 (.lit 0) (.v fun _ => n) 2000), (.int .i64 (.v fun _ => p + 1) 0 10000001)]])⟩, some ⟨5, 1, false, (.sym (.v fun _ => n) fun e => [(.int .u8 (.v fun _ => (C (e.den))) 0 255)])⟩] := pick_all C n p 7 (by decide) (by decide)
def c_pick_7 (C : Int → Int) (n : Int) (p : Int) : Cn Try.prog := ⟨_, _, _, _, _, pick_7 C n p⟩
theorem pick_8 (C : Int → Int) (n : Int) (p : Int) : RunsTo Try.prog 9 [(.ptr 0 2 (.lit 0) 0), (.int .i64 (.lit 8) 8 8)] [some ⟨37, 2, true, (.lit [[(.sl 1 1 (.lit 0) (.v fun _ => n) 2000), (.int .i64 (.v fun _ => p) 0 10000000)]])⟩, some ⟨5, 1, false, (.sym (.v fun _ => n) fun e => [(.int .u8 (.v fun _ => (C (e.den))) 0 255)])⟩] (.int .i64 (.v fun _ => pk C n p 8) 0 7) [some ⟨37, 2, true, (.lit [[(.sl 1 1 (.lit 0) (.v fun _ => n) 2000), (.int .i64 (.v fun _ => p + 1) 0 10000001)]])⟩, some ⟨5, 1, false, (.sym (.v fun _ => n) fun e => [(.int .u8 (.v fun _ => (C (e.den))) 0 255)])⟩] := pick_all C n p 8 (by decide) (by decide)
def c_pick_8 (C : Int → Int) (n : Int) (p : Int) : Cn Try.prog := ⟨_, _, _, _, _, pick_8 C n p⟩
theorem pick_9 (C : Int → Int) (n : Int) (p : Int) : RunsTo Try.prog 9 [(.ptr 0 2 (.lit 0) 0), (.int .i64 (.lit 9) 9 9)] [some ⟨37, 2, true, (.lit [[(.sl 1 1 (.lit 0) (.v fun _ => n) 2000), (.int .i64 (.v fun _ => p) 0 10000000)]])⟩, some ⟨5, 1, false, (.sym (.v fun _ => n) fun e => [(.int .u8 (.v fun _ => (C (e.den))) 0 255)])⟩] (.int .i64 (.v fun _ => pk C n p 9) 0 8) [some ⟨37, 2, true, (.lit [[(.sl 1 1 (.lit 0) (.v fun _ => n) 2000), (.int .i64 (.v fun _ => p + 1) 0 10000001)]])⟩, some ⟨5, 1, false, (.sym (.v fun _ => n) fun e => [(.int .u8 (.v fun _ => (C (e.den))) 0 255)])⟩] := pick_all C n p 9 (by decide) (by decide)
def c_pick_9 (C : Int → Int) (n : Int) (p : Int) : Cn Try.prog := ⟨_, _, _, _, _, pick_9 C n p⟩
theorem pick_10 (C : Int → Int) (n : Int) (p : Int) : RunsTo Try.prog 9 [(.ptr 0 2 (.lit 0) 0), (.int .i64 (.lit 10) 10 10)] [some ⟨37, 2, true, (.lit [[(.sl 1 1 (.lit 0) (.v fun _ => n) 2000), (.int .i64 (.v fun _ => p) 0 10000000)]])⟩, some ⟨5, 1, false, (.sym (.v fun _ => n) fun e => [(.int .u8 (.v fun _ => (C (e.den))) 0 255)])⟩] (.int .i64 (.v fun _ => pk C n p 10) 0 9) [some ⟨37, 2, true, (.lit [[(.sl 1 1 (.lit 0) (.v fun _ => n) 2000), (.int .i64 (.v fun _ => p + 1) 0 10000001)]])⟩, some ⟨5, 1, false, (.sym (.v fun _ => n) fun e => [(.int .u8 (.v fun _ => (C (e.den))) 0 255)])⟩] := pick_all C n p 10 (by decide) (by decide)
def c_pick_10 (C : Int → Int) (n : Int) (p : Int) : Cn Try.prog := ⟨_, _, _, _, _, pick_10 C n p⟩
theorem pick_12 (C : Int → Int) (n : Int) (p : Int) : RunsTo Try.prog 9 [(.ptr 0 2 (.lit 0) 0), (.int .i64 (.lit 12) 12 12)] [some ⟨37, 2, true, (.lit [[(.sl 1 1 (.lit 0) (.v fun _ => n) 2000), (.int .i64 (.v fun _ => p) 0 10000000)]])⟩, some ⟨5, 1, false, (.sym (.v fun _ => n) fun e => [(.int .u8 (.v fun _ => (C (e.den))) 0 255)])⟩] (.int .i64 (.v fun _ => pk C n p 12) 0 11) [some ⟨37, 2, true, (.lit [[(.sl 1 1 (.lit 0) (.v fun _ => n) 2000), (.int .i64 (.v fun _ => p + 1) 0 10000001)]])⟩, some ⟨5, 1, false, (.sym (.v fun _ => n) fun e => [(.int .u8 (.v fun _ => (C (e.den))) 0 255)])⟩] := pick_all C n p 12 (by decide) (by decide)
def c_pick_12 (C : Int → Int) (n : Int) (p : Int) : Cn Try.prog := ⟨_, _, _, _, _, pick_12 C n p⟩
theorem pick_14 (C : Int → Int) (n : Int) (p : Int) : RunsTo Try.prog 9 [(.ptr 0 2 (.lit 0) 0), (.int .i64 (.lit 14) 14 14)] [some ⟨37, 2, true, (.lit [[(.sl 1 1 (.lit 0) (.v fun _ => n) 2000), (.int .i64 (.v fun _ => p) 0 10000000)]])⟩, some ⟨5, 1, false, (.sym (.v fun _ => n) fun e => [(.int .u8 (.v fun _ => (C (e.den))) 0 255)])⟩] (.int .i64 (.v fun _ => pk C n p 14) 0 13) [some ⟨37, 2, true, (.lit [[(.sl 1 1 (.lit 0) (.v fun _ => n) 2000), (.int .i64 (.v fun _ => p + 1) 0 10000001)]])⟩, some ⟨5, 1, false, (.sym (.v fun _ => n) fun e => [(.int .u8 (.v fun _ => (C (e.den))) 0 255)])⟩] := pick_all C n p 14 (by decide) (by decide)
def c_pick_14 (C : Int → Int) (n : Int) (p : Int) : Cn Try.prog := ⟨_, _, _, _, _, pick_14 C n p⟩
theorem pick_16 (C : Int → Int) (n : Int) (p : Int) : RunsTo Try.prog 9 [(.ptr 0 2 (.lit 0) 0), (.int .i64 (.lit 16) 16 16)] [some ⟨37, 2, true, (.lit [[(.sl 1 1 (.lit 0) (.v fun _ => n) 2000), (.int .i64 (.v fun _ => p) 0 10000000)]])⟩, some ⟨5, 1, false, (.sym (.v fun _ => n) fun e => [(.int .u8 (.v fun _ => (C (e.den))) 0 255)])⟩] (.int .i64 (.v fun _ => pk C n p 16) 0 15) [some ⟨37, 2, true, (.lit [[(.sl 1 1 (.lit 0) (.v fun _ => n) 2000), (.int .i64 (.v fun _ => p + 1) 0 10000001)]])⟩, some ⟨5, 1, false, (.sym (.v fun _ => n) fun e => [(.int .u8 (.v fun _ => (C (e.den))) 0 255)])⟩] := pick_all C n p 16 (by decide) (by decide)
def c_pick_16 (C : Int → Int) (n : Int) (p : Int) : Cn Try.prog := ⟨_, _, _, _, _, pick_16 C n p⟩
theorem pick_18 (C : Int → Int) (n : Int) (p : Int) : RunsTo Try.prog 9 [(.ptr 0 2 (.lit 0) 0), (.int .i64 (.lit 18) 18 18)] [some ⟨37, 2, true, (.lit [[(.sl 1 1 (.lit 0) (.v fun _ => n) 2000), (.int .i64 (.v fun _ => p) 0 10000000)]])⟩, some ⟨5, 1, false, (.sym (.v fun _ => n) fun e => [(.int .u8 (.v fun _ => (C (e.den))) 0 255)])⟩] (.int .i64 (.v fun _ => pk C n p 18) 0 17) [some ⟨37, 2, true, (.lit [[(.sl 1 1 (.lit 0) (.v fun _ => n) 2000), (.int .i64 (.v fun _ => p + 1) 0 10000001)]])⟩, some ⟨5, 1, false, (.sym (.v fun _ => n) fun e => [(.int .u8 (.v fun _ => (C (e.den))) 0 255)])⟩] := pick_all C n p 18 (by decide) (by decide)
def c_pick_18 (C : Int → Int) (n : Int) (p : Int) : Cn Try.prog := ⟨_, _, _, _, _, pick_18 C n p⟩
theorem pick_20 (C : Int → Int) (n : Int) (p : Int) : RunsTo Try.prog 9 [(.ptr 0 2 (.lit 0) 0), (.int .i64 (.lit 20) 20 20)] [some ⟨37, 2, true, (.lit [[(.sl 1 1 (.lit 0) (.v fun _ => n) 2000), (.int .i64 (.v fun _ => p) 0 10000000)]])⟩, some ⟨5, 1, false, (.sym (.v fun _ => n) fun e => [(.int .u8 (.v fun _ => (C (e.den))) 0 255)])⟩] (.int .i64 (.v fun _ => pk C n p 20) 0 19) [some ⟨37, 2, true, (.lit [[(.sl 1 1 (.lit 0) (.v fun _ => n) 2000), (.int .i64 (.v fun _ => p + 1) 0 10000001)]])⟩, some ⟨5, 1, false, (.sym (.v fun _ => n) fun e => [(.int .u8 (.v fun _ => (C (e.den))) 0 255)])⟩] := pick_all C n p 20 (by decide) (by decide)
def c_pick_20 (C : Int → Int) (n : Int) (p : Int) : Cn Try.prog := ⟨_, _, _, _, _, pick_20 C n p⟩
theorem pick_40 (C : Int → Int) (n : Int) (p : Int) : RunsTo Try.prog 9 [(.ptr 0 2 (.lit 0) 0), (.int .i64 (.lit 40) 40 40)] [some ⟨37, 2, true, (.lit [[(.sl 1 1 (.lit 0) (.v fun _ => n) 2000), (.int .i64 (.v fun _ => p) 0 10000000)]])⟩, some ⟨5, 1, false, (.sym (.v fun _ => n) fun e => [(.int .u8 (.v fun _ => (C (e.den))) 0 255)])⟩] (.int .i64 (.v fun _ => pk C n p 40) 0 39) [some ⟨37, 2, true, (.lit [[(.sl 1 1 (.lit 0) (.v fun _ => n) 2000), (.int .i64 (.v fun _ => p + 1) 0 10000001)]])⟩, some ⟨5, 1, false, (.sym (.v fun _ => n) fun e => [(.int .u8 (.v fun _ => (C (e.den))) 0 255)])⟩] := pick_all C n p 40 (by decide) (by decide)
def c_pick_40 (C : Int → Int) (n : Int) (p : Int) : Cn Try.prog := ⟨_, _, _, _, _, pick_40 C n p⟩
end Go.Proofs.Ytefikodgmhlfnaa
