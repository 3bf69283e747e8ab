/- Lists of segments drawn. -/
import Derived.Test.YtoielngedkbmbaaK27
import Derived.Test.YtoielngedkbmbaaK20
set_option linter.unusedSimpArgs false
set_option linter.unusedVariables false
set_option maxRecDepth 100000
namespace Go.Proofs.Ytoielngedkbmbaa
open Go.Sym
structure SgS where
  z : Int
  P : Int → Int
  Q : Int → Int
  R : Int → Int
  S : Int → Int
def updF (F : Int → Int) (j v i : Int) : Int := if i = j then v else F i
def agT (C : Int → Int) (n p : Int) : Int := selL [0, 1, 2, 3, 4, 6, 13] (pk C n p 7)
def stC (C : Int → Int) (n : Int) (s : SgS) (j : Int) : Bool := decide (0 < j) && decide (pk C n (s.z + 1 + 1 + 1 + 1) 3 = 0)
def stX (C : Int → Int) (n : Int) (s : SgS) (j : Int) : Int := if stC C n s j = true then s.R (pk C n (s.z + 1 + 1 + 1 + 1 + 1) j) else rpX C n s.z
def stY (C : Int → Int) (n : Int) (s : SgS) (j : Int) : Int := if stC C n s j = true then s.S (pk C n (s.z + 1 + 1 + 1 + 1 + 1) j) else rpY C n s.z
def stB (C : Int → Int) (n : Int) (s : SgS) (j : Int) : Int := if stX C n s j = rpX C n (s.z + 1 + 1) ∧ stY C n s j = rpY C n (s.z + 1 + 1) then rpY C n (s.z + 1 + 1) + 1 else rpY C n (s.z + 1 + 1)
def stZ (C : Int → Int) (n : Int) (s : SgS) (j : Int) : Int := if 0 < j then (if pk C n (s.z + 1 + 1 + 1 + 1) 3 = 0 then s.z + 1 + 1 + 1 + 1 + 1 + 1 else s.z + 1 + 1 + 1 + 1 + 1) else s.z + 1 + 1 + 1 + 1
def agI (C : Int → Int) (n p : Int) : Nat → SgS
  | 0 => ⟨p + 1, fun _ => 0, fun _ => 0, fun _ => 0, fun _ => 0⟩
  | k + 1 => ⟨stZ C n (agI C n p k) k, updF (agI C n p k).P k (stX C n (agI C n p k) k), updF (agI C n p k).Q k (stY C n (agI C n p k) k), updF (agI C n p k).R k (rpX C n ((agI C n p k).z + 1 + 1)), updF (agI C n p k).S k (stB C n (agI C n p k) k)⟩
def aiZ (C : Int → Int) (n p j : Int) : Int := (agI C n p j.toNat).z
def aiP (C : Int → Int) (n p j i : Int) : Int := (agI C n p j.toNat).P i
def aiQ (C : Int → Int) (n p j i : Int) : Int := (agI C n p j.toNat).Q i
def aiR (C : Int → Int) (n p j i : Int) : Int := (agI C n p j.toNat).R i
def aiS (C : Int → Int) (n p j i : Int) : Int := (agI C n p j.toNat).S i
theorem ai_step (C : Int → Int) (n p : Int) {j : Int} (h : 0 ≤ j) : aiZ C n p (j + 1) = stZ C n (agI C n p j.toNat) j ∧
    (∀ i, aiP C n p (j + 1) i = updF (aiP C n p j) j (stX C n (agI C n p j.toNat) j) i) ∧ (∀ i, aiQ C n p (j + 1) i = updF (aiQ C n p j) j (stY C n (agI C n p j.toNat) j) i) ∧
    (∀ i, aiR C n p (j + 1) i = updF (aiR C n p j) j (rpX C n (aiZ C n p j + 1 + 1)) i) ∧ (∀ i, aiS C n p (j + 1) i = updF (aiS C n p j) j (stB C n (agI C n p j.toNat) j) i) := by
  obtain ⟨k, rfl⟩ := Int.eq_ofNat_of_zero_le h
  have e : ((k : Int) + 1).toNat = k + 1 := by omega
  unfold aiZ aiP aiQ aiR aiS
  rw [e]
  exact ⟨rfl, fun _ => rfl, fun _ => rfl, fun _ => rfl, fun _ => rfl⟩
theorem updF_o {F : Int → Int} {j v i : Int} (h : i ≠ j) : updF F j v i = F i := if_neg h
theorem updF_s {F : Int → Int} {j v i : Int} (h : i = j) : updF F j v i = v := if_pos h
theorem st_0 {C : Int → Int} {n p j : Int} (h : j ≤ 0) : stC C n (agI C n p j.toNat) j = false ∧ stZ C n (agI C n p j.toNat) j = aiZ C n p j + 1 + 1 + 1 + 1 := by
  refine ⟨?_, ?_⟩
  · unfold stC; rw [decide_eq_false (by omega)]; rfl
  · unfold stZ; rw [if_neg (by omega)]; rfl
theorem st_1 {C : Int → Int} {n p j : Int} (h : 0 < j) (hq : pk C n (aiZ C n p j + 1 + 1 + 1 + 1) 3 = 0) : stC C n (agI C n p j.toNat) j = true ∧ stZ C n (agI C n p j.toNat) j = aiZ C n p j + 1 + 1 + 1 + 1 + 1 + 1 := by
  have hq' : pk C n ((agI C n p j.toNat).z + 1 + 1 + 1 + 1) 3 = 0 := hq
  refine ⟨?_, ?_⟩
  · unfold stC; rw [decide_eq_true h, decide_eq_true hq']; rfl
  · unfold stZ; rw [if_pos h, if_pos hq']; rfl
theorem st_2 {C : Int → Int} {n p j : Int} (h : 0 < j) (hq : pk C n (aiZ C n p j + 1 + 1 + 1 + 1) 3 ≠ 0) : stC C n (agI C n p j.toNat) j = false ∧ stZ C n (agI C n p j.toNat) j = aiZ C n p j + 1 + 1 + 1 + 1 + 1 := by
  have hq' : ¬ pk C n ((agI C n p j.toNat).z + 1 + 1 + 1 + 1) 3 = 0 := hq
  refine ⟨?_, ?_⟩
  · unfold stC; rw [decide_eq_false hq', Bool.and_false]
  · unfold stZ; rw [if_pos h, if_neg hq']; rfl
theorem st_t {C : Int → Int} {n p j : Int} (h : stC C n (agI C n p j.toNat) j = true) : stX C n (agI C n p j.toNat) j = aiR C n p j (pk C n (aiZ C n p j + 1 + 1 + 1 + 1 + 1) j) ∧ stY C n (agI C n p j.toNat) j = aiS C n p j (pk C n (aiZ C n p j + 1 + 1 + 1 + 1 + 1) j) := by
  unfold stX stY; rw [if_pos h, if_pos h]; exact ⟨rfl, rfl⟩
theorem st_f {C : Int → Int} {n p j : Int} (h : stC C n (agI C n p j.toNat) j = false) : stX C n (agI C n p j.toNat) j = rpX C n (aiZ C n p j) ∧ stY C n (agI C n p j.toNat) j = rpY C n (aiZ C n p j) := by
  have h' : ¬ stC C n (agI C n p j.toNat) j = true := by rw [h]; decide
  unfold stX stY; rw [if_neg h', if_neg h']; exact ⟨rfl, rfl⟩
theorem stB_t {C : Int → Int} {n p j x y : Int} (hx : stX C n (agI C n p j.toNat) j = x) (hy : stY C n (agI C n p j.toNat) j = y) : stB C n (agI C n p j.toNat) j = if x = rpX C n (aiZ C n p j + 1 + 1) ∧ y = rpY C n (aiZ C n p j + 1 + 1) then rpY C n (aiZ C n p j + 1 + 1) + 1 else rpY C n (aiZ C n p j + 1 + 1) := by
  unfold stB; rw [hx, hy]; rfl
theorem agT_bd {C : Int → Int} {n p : Int} (h : 0 ≤ pk C n p 7 ∧ pk C n p 7 < 7) : 0 ≤ agT C n p ∧ agT C n p ≤ 13 := by
  unfold agT
  obtain e | e | e | e | e | e | e : pk C n p 7 = 0 ∨ pk C n p 7 = 1 ∨ pk C n p 7 = 2 ∨ pk C n p 7 = 3 ∨ pk C n p 7 = 4 ∨ pk C n p 7 = 5 ∨ pk C n p 7 = 6 := by omega
  all_goals rw [e]; decide
def agU (C : Int → Int) (n p : Int) : Bool := decide (0 < agT C n p) && decide (pk C n (aiZ C n p (agT C n p)) 12 = 0)
def agE (C : Int → Int) (n p : Int) : Int := if 0 < agT C n p then (if pk C n (aiZ C n p (agT C n p)) 12 = 0 then sgP C n (aiZ C n p (agT C n p) + 1) else aiZ C n p (agT C n p) + 1) else aiZ C n p (agT C n p)
def agX (C : Int → Int) (n p : Int) (F : Int → Int) (v i : Int) : Int := if agU C n p = true then updF F 0 v i else F i
def agP (C : Int → Int) (n p i : Int) : Int := agX C n p (aiP C n p (agT C n p)) (apX C n (aiZ C n p (agT C n p) + 1)) i
def agQ (C : Int → Int) (n p i : Int) : Int := agX C n p (aiQ C n p (agT C n p)) (apY C n (aiZ C n p (agT C n p) + 1)) i
def agR (C : Int → Int) (n p i : Int) : Int := agX C n p (aiR C n p (agT C n p)) (sgX C n (aiZ C n p (agT C n p) + 1)) i
def agS (C : Int → Int) (n p i : Int) : Int := agX C n p (aiS C n p (agT C n p)) (sgY C n (aiZ C n p (agT C n p) + 1)) i
theorem one_7z (C : Int → Int) (n : Int) (p : Int) (L : Int → Int) : RunsTo Try.prog 131 [(.ptr 0 2 (.lit 0) 0), (.sl 1 1 (.lit 0) (.lit 7) 7)] [some ⟨136, 2, true, (.lit [[(.sl 2 1 (.lit 0) (.v fun _ => n) 2000), (.int .i64 (.v fun _ => p) 0 9999990)]])⟩, some ⟨3, 1, true, (.sym (.lit 7) fun e => [(.int .i64 (.v fun _ => (L (e.den))) 0 13)])⟩, some ⟨5, 1, false, (.sym (.v fun _ => n) fun e => [(.int .u8 (.v fun _ => (C (e.den))) 0 255)])⟩] (.int .i64 (.v fun _ => (L (pk C n p 7))) 0 13) [some ⟨136, 2, true, (.lit [[(.sl 2 1 (.lit 0) (.v fun _ => n) 2000), (.int .i64 (.v fun _ => p + 1) 0 9999991)]])⟩, some ⟨3, 1, true, (.sym (.lit 7) fun e => [(.int .i64 (.v fun _ => (L (e.den))) 0 13)])⟩, some ⟨5, 1, false, (.sym (.v fun _ => n) fun e => [(.int .u8 (.v fun _ => (C (e.den))) 0 255)])⟩] := by
  refine RunsTo.go env Try.func131 rfl Try.call131 rfl rfl (fun _ _ => (.callF (c_pick_7 C n p) (.need (.need .ret)))) (G := (True) → (((0 ≤ n ∧ n ≤ 2000) ∧ (0 ≤ p ∧ p ≤ 9999990)) ∧ ((∀ e5 : E, ((0 ≤ e5.den ∧ e5.den < 7) → (0 ≤ ((L (e5.den))) ∧ ((L (e5.den))) ≤ 13))) ∧ (∀ e4 : E, ((0 ≤ e4.den ∧ e4.den < n) → (0 ≤ ((C (e4.den))) ∧ ((C (e4.den))) ≤ 255))))) → (((0 ≤ (7 : Int) ∧ (7 : Int) ≤ 7) → (7 ≤ (7 : Int) ∧ (7 : Int) ≤ 7)) ∧ ((((n = n) ∧ (p = p)) ∧ ((n ≤ n) ∧ (∀ e1 : E, ((0 ≤ e1.den ∧ e1.den < n) → (((C (e1.den))) = ((C (e1.den)))))))) ∧ ((0 ≤ (pk C n p 7) ∧ (pk C n p 7) ≤ 6) → ((((0 ≤ (pk C n p 7)) ∧ ((pk C n p 7) < 7))) ∧ (((pk C n p 7) < 7) ∧ ((((L (pk C n p 7))) = ((L (pk C n p 7)))) ∧ (((n = n) ∧ (((p + 1) = (p + 1)) ∧ ((0 ≤ (p + 1) ∧ (p + 1) ≤ 10000001) → (0 ≤ (p + 1) ∧ (p + 1) ≤ 9999991)))) ∧ ((((7 : Int) ≤ 7) ∧ (∀ e3 : E, ((0 ≤ e3.den ∧ e3.den < 7) → (((L (e3.den))) = ((L (e3.den))))))) ∧ ((n ≤ n) ∧ (∀ e2 : E, ((0 ≤ e2.den ∧ e2.den < n) → (((C (e2.den))) = ((C (e2.den)))))))))))))))) (by kernel_rfl) ?_
  intro h1 h2
  refine ⟨?_, ⟨⟨rfl, rfl⟩, ⟨Int.le_refl _, fun _ => fun _ => rfl⟩⟩, ?_⟩
  · intro c6
    omega
  · intro c7
    refine ⟨?_, ?_, rfl, ?_, ⟨Int.le_refl _, fun _ => fun _ => rfl⟩, Int.le_refl _, fun _ => fun _ => rfl⟩
    · omega
    · omega
    · refine ⟨rfl, rfl, ?_⟩
      intro c8
      omega
def c_one_7z (C : Int → Int) (n : Int) (p : Int) (L : Int → Int) : Cn Try.prog := ⟨_, _, _, _, _, one_7z C n p L⟩
theorem anySegments (C : Int → Int) (n : Int) (p : Int) : RunsTo Try.prog 108 [(.ptr 0 2 (.lit 0) 0)] [some ⟨136, 2, true, (.lit [[(.sl 1 1 (.lit 0) (.v fun _ => n) 2000), (.int .i64 (.v fun _ => p) 0 9990000)]])⟩, some ⟨5, 1, false, (.sym (.v fun _ => n) fun e => [(.int .u8 (.v fun _ => (C (e.den))) 0 255)])⟩] (.sl 2 4 (.lit 0) (.v fun _ => agT C n p) 64) [some ⟨136, 2, true, (.lit [[(.sl 1 1 (.lit 0) (.v fun _ => n) 2000), (.int .i64 (.v fun _ => agE C n p) 0 9999000)]])⟩, some ⟨5, 1, false, (.sym (.v fun _ => n) fun e => [(.int .u8 (.v fun _ => (C (e.den))) 0 255)])⟩, some ⟨45, 4, true, (.sym (.v fun _ => agT C n p) fun e => [(.int .i64 (.v fun _ => agP C n p e.den) (-1001) 1001), (.int .i64 (.v fun _ => agQ C n p e.den) (-1001) 1001), (.int .i64 (.v fun _ => agR C n p e.den) (-1001) 1001), (.int .i64 (.v fun _ => agS C n p e.den) (-1001) 1001)])⟩] := by
  refine RunsTo.go env Try.func108 rfl Try.call108 rfl rfl (fun _ _ => (.callF (c_one_7z C n p (selL [0, 1, 2, 3, 4, 6, 13])) (.loop [] [0, 1, 2] (Int) (fun x9 => ⟨spl 64 0 [(0, (.ptr 0 2 (.lit 0) 0)), (2, (.raw (.slice none 0 0))), (3, (.sl 2 4 (.lit 0) (.v fun _ => x9) 64)), (4, (.int .i64 (.v fun _ => agT C n p - x9) 0 13))], [some ⟨136, 2, true, (.lit [[(.sl 1 1 (.lit 0) (.v fun _ => n) 2000), (.int .i64 (.v fun _ => aiZ C n p x9) 0 9999100)]])⟩, some ⟨5, 1, false, (.sym (.v fun _ => n) fun e => [(.int .u8 (.v fun _ => ((C (e.den)))) 0 255)])⟩, some ⟨45, 4, true, (.sym (.v fun _ => x9) fun e => [(.int .i64 (.v fun _ => aiP C n p x9 (e.den)) (-2) 7), (.int .i64 (.v fun _ => aiQ C n p x9 (e.den)) (-2) 7), (.int .i64 (.v fun _ => aiR C n p x9 (e.den)) (-2) 7), (.int .i64 (.v fun _ => aiS C n p x9 (e.den)) (-2) 7)])⟩], 2⟩) (fun x9 => (0 ≤ x9 ∧ x9 ≤ agT C n p) ∧ (p + 1 + 4 * x9 ≤ aiZ C n p x9 ∧ aiZ C n p x9 ≤ p + 1 + 6 * x9)) (fun x9 => (agT C n p - x9).toNat) fun x9 => (.ite (.callF (c_randomPoint C n (aiZ C n p x9)) (.callF (c_randomPoint C n ((aiZ C n p x9) + 1 + 1)) (.ite (.callF (c_pick_3 C n (((aiZ C n p x9) + 1 + 1) + 1 + 1)) (.ite (.callF (c_pick C n ((((aiZ C n p x9) + 1 + 1) + 1 + 1) + 1) x9) (.need (.need (.ite (.need (.next [0, 1, 2])) (.need (.next [0, 1, 2])))))) (.ite (.need (.next [0, 1, 2])) (.need (.next [0, 1, 2]))))) (.ite (.need (.next [0, 1, 2])) (.need (.next [0, 1, 2])))))) (.out (.ite (.callF (c_pick_12 C n (aiZ C n p x9)) (.ite (.callF (c_anySegment C n ((aiZ C n p x9) + 1)) (.need (.need .ret))) .ret)) .ret)))))) (G := (True) → (((0 ≤ n ∧ n ≤ 2000) ∧ (0 ≤ p ∧ p ≤ 9990000)) ∧ (∀ e49 : E, ((0 ≤ e49.den ∧ e49.den < n) → (0 ≤ ((C (e49.den))) ∧ ((C (e49.den))) ≤ 255)))) → ((((n = n) ∧ (p = p)) ∧ (((∀ e8 : E, ((e8.den = 0) → ((0 : Int) = (selL [0, 1, 2, 3, 4, 6, 13] (e8.den))))) ∧ ((∀ e7 : E, ((e7.den = 1) → ((1 : Int) = (selL [0, 1, 2, 3, 4, 6, 13] (e7.den))))) ∧ ((∀ e6 : E, ((e6.den = 2) → ((2 : Int) = (selL [0, 1, 2, 3, 4, 6, 13] (e6.den))))) ∧ ((∀ e5 : E, ((e5.den = 3) → ((3 : Int) = (selL [0, 1, 2, 3, 4, 6, 13] (e5.den))))) ∧ ((∀ e4 : E, ((e4.den = 4) → ((4 : Int) = (selL [0, 1, 2, 3, 4, 6, 13] (e4.den))))) ∧ ((∀ e3 : E, ((e3.den = 5) → ((6 : Int) = (selL [0, 1, 2, 3, 4, 6, 13] (e3.den))))) ∧ (∀ e2 : E, ((e2.den = 6) → ((13 : Int) = (selL [0, 1, 2, 3, 4, 6, 13] (e2.den))))))))))) ∧ ((n ≤ n) ∧ (∀ e1 : E, ((0 ≤ e1.den ∧ e1.den < n) → (((C (e1.den))) = ((C (e1.den))))))))) ∧ ((0 ≤ (selL [0, 1, 2, 3, 4, 6, 13] (pk C n p 7)) ∧ (selL [0, 1, 2, 3, 4, 6, 13] (pk C n p 7)) ≤ 13) → ((∃ y10 : Int, (((0 ≤ y10 ∧ y10 ≤ agT C n p) ∧ (p + 1 + 4 * y10 ≤ aiZ C n p y10 ∧ aiZ C n p y10 ≤ p + 1 + 6 * y10)) ∧ (((((.slice none 0 0) : Value) = (.slice none 0 0)) ∧ (((0 : Int) = y10) ∧ ((selL [0, 1, 2, 3, 4, 6, 13] (pk C n p 7)) = (agT C n p - y10)))) ∧ (((n = n) ∧ (((p + 1) = (aiZ C n p y10)) ∧ ((0 ≤ (p + 1) ∧ (p + 1) ≤ 9999991) → (0 ≤ (aiZ C n p y10) ∧ (aiZ C n p y10) ≤ 9999100)))) ∧ (((n ≤ n) ∧ (∀ e11 : E, ((0 ≤ e11.den ∧ e11.den < n) → (((C (e11.den))) = ((C (e11.den))))))) ∧ (y10 = 0)))))) ∧ (∀ x9 : Int, (((0 ≤ x9 ∧ x9 ≤ agT C n p) ∧ (p + 1 + 4 * x9 ≤ aiZ C n p x9 ∧ aiZ C n p x9 ≤ p + 1 + 6 * x9)) → (((0 < (agT C n p - x9)) → ((((n = n) ∧ ((aiZ C n p x9) = (aiZ C n p x9))) ∧ ((n ≤ n) ∧ (∀ e12 : E, ((0 ≤ e12.den ∧ e12.den < n) → (((C (e12.den))) = ((C (e12.den)))))))) ∧ ((((-2) ≤ (rpX C n (aiZ C n p x9)) ∧ (rpX C n (aiZ C n p x9)) ≤ 6) ∧ ((-2) ≤ (rpY C n (aiZ C n p x9)) ∧ (rpY C n (aiZ C n p x9)) ≤ 6)) → ((((n = n) ∧ ((((aiZ C n p x9) + 1 + 1) = ((aiZ C n p x9) + 1 + 1)) ∧ ((0 ≤ ((aiZ C n p x9) + 1 + 1) ∧ ((aiZ C n p x9) + 1 + 1) ≤ 9999902) → (0 ≤ ((aiZ C n p x9) + 1 + 1) ∧ ((aiZ C n p x9) + 1 + 1) ≤ 9999900)))) ∧ ((n ≤ n) ∧ (∀ e13 : E, ((0 ≤ e13.den ∧ e13.den < n) → (((C (e13.den))) = ((C (e13.den)))))))) ∧ ((((-2) ≤ (rpX C n ((aiZ C n p x9) + 1 + 1)) ∧ (rpX C n ((aiZ C n p x9) + 1 + 1)) ≤ 6) ∧ ((-2) ≤ (rpY C n ((aiZ C n p x9) + 1 + 1)) ∧ (rpY C n ((aiZ C n p x9) + 1 + 1)) ≤ 6)) → (((0 < x9) → ((((n = n) ∧ ((((aiZ C n p x9) + 1 + 1) + 1 + 1) = (((aiZ C n p x9) + 1 + 1) + 1 + 1))) ∧ ((n ≤ n) ∧ (∀ e14 : E, ((0 ≤ e14.den ∧ e14.den < n) → (((C (e14.den))) = ((C (e14.den)))))))) ∧ ((0 ≤ (pk C n (((aiZ C n p x9) + 1 + 1) + 1 + 1) 3) ∧ (pk C n (((aiZ C n p x9) + 1 + 1) + 1 + 1) 3) ≤ 2) → ((((pk C n (((aiZ C n p x9) + 1 + 1) + 1 + 1) 3) = 0) → ((x9 = x9) ∧ ((((n = n) ∧ ((((((aiZ C n p x9) + 1 + 1) + 1 + 1) + 1) = (((((aiZ C n p x9) + 1 + 1) + 1 + 1) + 1))) ∧ ((0 ≤ ((((aiZ C n p x9) + 1 + 1) + 1 + 1) + 1) ∧ ((((aiZ C n p x9) + 1 + 1) + 1 + 1) + 1) ≤ 10000001) → (0 ≤ (((((aiZ C n p x9) + 1 + 1) + 1 + 1) + 1)) ∧ (((((aiZ C n p x9) + 1 + 1) + 1 + 1) + 1)) ≤ 10000000)))) ∧ ((n ≤ n) ∧ (∀ e15 : E, ((0 ≤ e15.den ∧ e15.den < n) → (((C (e15.den))) = ((C (e15.den)))))))) ∧ (((-9223372036854775808) ≤ (pk C n ((((aiZ C n p x9) + 1 + 1) + 1 + 1) + 1) x9) ∧ (pk C n ((((aiZ C n p x9) + 1 + 1) + 1 + 1) + 1) x9) ≤ 9223372036854775807) → ((((0 ≤ (pk C n ((((aiZ C n p x9) + 1 + 1) + 1 + 1) + 1) x9)) ∧ ((pk C n ((((aiZ C n p x9) + 1 + 1) + 1 + 1) + 1) x9) < x9))) ∧ (((pk C n ((((aiZ C n p x9) + 1 + 1) + 1 + 1) + 1) x9) < x9) ∧ ((((((aiR C n p x9 (pk C n ((((aiZ C n p x9) + 1 + 1) + 1 + 1) + 1) x9)) = (rpX C n ((aiZ C n p x9) + 1 + 1))) ∧ ((aiS C n p x9 (pk C n ((((aiZ C n p x9) + 1 + 1) + 1 + 1) + 1) x9)) = (rpY C n ((aiZ C n p x9) + 1 + 1))))) → ((x9 = x9) ∧ (∃ y16 : Int, (((0 ≤ y16 ∧ y16 ≤ agT C n p) ∧ (p + 1 + 4 * y16 ≤ aiZ C n p y16 ∧ aiZ C n p y16 ≤ p + 1 + 6 * y16)) ∧ ((((((.slice none 0 0) : Value) = (.slice none 0 0)) ∧ ((((x9 + 1) = y16) ∧ (((x9 + 1) ≤ 65) → (y16 ≤ 64))) ∧ ((((agT C n p - x9) - 1) = (agT C n p - y16)) ∧ (((-1) ≤ ((agT C n p - x9) - 1) ∧ ((agT C n p - x9) - 1) ≤ 12) → (0 ≤ (agT C n p - y16) ∧ (agT C n p - y16) ≤ 13))))) ∧ (((n = n) ∧ (((((((aiZ C n p x9) + 1 + 1) + 1 + 1) + 1) + 1) = (aiZ C n p y16)) ∧ ((0 ≤ (((((aiZ C n p x9) + 1 + 1) + 1 + 1) + 1) + 1) ∧ (((((aiZ C n p x9) + 1 + 1) + 1 + 1) + 1) + 1) ≤ 10000001) → (0 ≤ (aiZ C n p y16) ∧ (aiZ C n p y16) ≤ 9999100)))) ∧ (((n ≤ n) ∧ (∀ e19 : E, ((0 ≤ e19.den ∧ e19.den < n) → (((C (e19.den))) = ((C (e19.den))))))) ∧ (((0 : Int) ≤ x9 ∧ y16 = x9 + 1) ∧ (((x9 ≤ x9) ∧ (∀ e18 : E, ((0 ≤ e18.den ∧ e18.den < x9) → (((aiP C n p x9 (e18.den)) = (aiP C n p y16 (e18.den))) ∧ (((aiQ C n p x9 (e18.den)) = (aiQ C n p y16 (e18.den))) ∧ (((aiR C n p x9 (e18.den)) = (aiR C n p y16 (e18.den))) ∧ ((aiS C n p x9 (e18.den)) = (aiS C n p y16 (e18.den))))))))) ∧ (∀ e17 : E, ((e17.den = x9) → (((aiR C n p x9 (pk C n ((((aiZ C n p x9) + 1 + 1) + 1 + 1) + 1) x9)) = (aiP C n p y16 (e17.den))) ∧ (((aiS C n p x9 (pk C n ((((aiZ C n p x9) + 1 + 1) + 1 + 1) + 1) x9)) = (aiQ C n p y16 (e17.den))) ∧ (((rpX C n ((aiZ C n p x9) + 1 + 1)) = (aiR C n p y16 (e17.den))) ∧ (((rpY C n ((aiZ C n p x9) + 1 + 1)) + 1) = (aiS C n p y16 (e17.den))))))))))))) ∧ ((agT C n p - y16).toNat < (agT C n p - x9).toNat)))))) ∧ (((((aiR C n p x9 (pk C n ((((aiZ C n p x9) + 1 + 1) + 1 + 1) + 1) x9)) ≠ (rpX C n ((aiZ C n p x9) + 1 + 1))) ∨ ((aiS C n p x9 (pk C n ((((aiZ C n p x9) + 1 + 1) + 1 + 1) + 1) x9)) ≠ (rpY C n ((aiZ C n p x9) + 1 + 1))))) → ((x9 = x9) ∧ (∃ y20 : Int, (((0 ≤ y20 ∧ y20 ≤ agT C n p) ∧ (p + 1 + 4 * y20 ≤ aiZ C n p y20 ∧ aiZ C n p y20 ≤ p + 1 + 6 * y20)) ∧ ((((((.slice none 0 0) : Value) = (.slice none 0 0)) ∧ ((((x9 + 1) = y20) ∧ (((x9 + 1) ≤ 65) → (y20 ≤ 64))) ∧ ((((agT C n p - x9) - 1) = (agT C n p - y20)) ∧ (((-1) ≤ ((agT C n p - x9) - 1) ∧ ((agT C n p - x9) - 1) ≤ 12) → (0 ≤ (agT C n p - y20) ∧ (agT C n p - y20) ≤ 13))))) ∧ (((n = n) ∧ (((((((aiZ C n p x9) + 1 + 1) + 1 + 1) + 1) + 1) = (aiZ C n p y20)) ∧ ((0 ≤ (((((aiZ C n p x9) + 1 + 1) + 1 + 1) + 1) + 1) ∧ (((((aiZ C n p x9) + 1 + 1) + 1 + 1) + 1) + 1) ≤ 10000001) → (0 ≤ (aiZ C n p y20) ∧ (aiZ C n p y20) ≤ 9999100)))) ∧ (((n ≤ n) ∧ (∀ e23 : E, ((0 ≤ e23.den ∧ e23.den < n) → (((C (e23.den))) = ((C (e23.den))))))) ∧ (((0 : Int) ≤ x9 ∧ y20 = x9 + 1) ∧ (((x9 ≤ x9) ∧ (∀ e22 : E, ((0 ≤ e22.den ∧ e22.den < x9) → (((aiP C n p x9 (e22.den)) = (aiP C n p y20 (e22.den))) ∧ (((aiQ C n p x9 (e22.den)) = (aiQ C n p y20 (e22.den))) ∧ (((aiR C n p x9 (e22.den)) = (aiR C n p y20 (e22.den))) ∧ ((aiS C n p x9 (e22.den)) = (aiS C n p y20 (e22.den))))))))) ∧ (∀ e21 : E, ((e21.den = x9) → (((aiR C n p x9 (pk C n ((((aiZ C n p x9) + 1 + 1) + 1 + 1) + 1) x9)) = (aiP C n p y20 (e21.den))) ∧ (((aiS C n p x9 (pk C n ((((aiZ C n p x9) + 1 + 1) + 1 + 1) + 1) x9)) = (aiQ C n p y20 (e21.den))) ∧ (((rpX C n ((aiZ C n p x9) + 1 + 1)) = (aiR C n p y20 (e21.den))) ∧ ((rpY C n ((aiZ C n p x9) + 1 + 1)) = (aiS C n p y20 (e21.den))))))))))))) ∧ ((agT C n p - y20).toNat < (agT C n p - x9).toNat))))))))))))) ∧ (((pk C n (((aiZ C n p x9) + 1 + 1) + 1 + 1) 3) ≠ 0) → ((((((rpX C n (aiZ C n p x9)) = (rpX C n ((aiZ C n p x9) + 1 + 1))) ∧ ((rpY C n (aiZ C n p x9)) = (rpY C n ((aiZ C n p x9) + 1 + 1))))) → ((x9 = x9) ∧ (∃ y24 : Int, (((0 ≤ y24 ∧ y24 ≤ agT C n p) ∧ (p + 1 + 4 * y24 ≤ aiZ C n p y24 ∧ aiZ C n p y24 ≤ p + 1 + 6 * y24)) ∧ ((((((.slice none 0 0) : Value) = (.slice none 0 0)) ∧ ((((x9 + 1) = y24) ∧ (((x9 + 1) ≤ 65) → (y24 ≤ 64))) ∧ ((((agT C n p - x9) - 1) = (agT C n p - y24)) ∧ (((-1) ≤ ((agT C n p - x9) - 1) ∧ ((agT C n p - x9) - 1) ≤ 12) → (0 ≤ (agT C n p - y24) ∧ (agT C n p - y24) ≤ 13))))) ∧ (((n = n) ∧ ((((((aiZ C n p x9) + 1 + 1) + 1 + 1) + 1) = (aiZ C n p y24)) ∧ ((0 ≤ ((((aiZ C n p x9) + 1 + 1) + 1 + 1) + 1) ∧ ((((aiZ C n p x9) + 1 + 1) + 1 + 1) + 1) ≤ 10000001) → (0 ≤ (aiZ C n p y24) ∧ (aiZ C n p y24) ≤ 9999100)))) ∧ (((n ≤ n) ∧ (∀ e27 : E, ((0 ≤ e27.den ∧ e27.den < n) → (((C (e27.den))) = ((C (e27.den))))))) ∧ (((0 : Int) ≤ x9 ∧ y24 = x9 + 1) ∧ (((x9 ≤ x9) ∧ (∀ e26 : E, ((0 ≤ e26.den ∧ e26.den < x9) → (((aiP C n p x9 (e26.den)) = (aiP C n p y24 (e26.den))) ∧ (((aiQ C n p x9 (e26.den)) = (aiQ C n p y24 (e26.den))) ∧ (((aiR C n p x9 (e26.den)) = (aiR C n p y24 (e26.den))) ∧ ((aiS C n p x9 (e26.den)) = (aiS C n p y24 (e26.den))))))))) ∧ (∀ e25 : E, ((e25.den = x9) → (((rpX C n (aiZ C n p x9)) = (aiP C n p y24 (e25.den))) ∧ (((rpY C n (aiZ C n p x9)) = (aiQ C n p y24 (e25.den))) ∧ (((rpX C n ((aiZ C n p x9) + 1 + 1)) = (aiR C n p y24 (e25.den))) ∧ (((rpY C n ((aiZ C n p x9) + 1 + 1)) + 1) = (aiS C n p y24 (e25.den))))))))))))) ∧ ((agT C n p - y24).toNat < (agT C n p - x9).toNat)))))) ∧ (((((rpX C n (aiZ C n p x9)) ≠ (rpX C n ((aiZ C n p x9) + 1 + 1))) ∨ ((rpY C n (aiZ C n p x9)) ≠ (rpY C n ((aiZ C n p x9) + 1 + 1))))) → ((x9 = x9) ∧ (∃ y28 : Int, (((0 ≤ y28 ∧ y28 ≤ agT C n p) ∧ (p + 1 + 4 * y28 ≤ aiZ C n p y28 ∧ aiZ C n p y28 ≤ p + 1 + 6 * y28)) ∧ ((((((.slice none 0 0) : Value) = (.slice none 0 0)) ∧ ((((x9 + 1) = y28) ∧ (((x9 + 1) ≤ 65) → (y28 ≤ 64))) ∧ ((((agT C n p - x9) - 1) = (agT C n p - y28)) ∧ (((-1) ≤ ((agT C n p - x9) - 1) ∧ ((agT C n p - x9) - 1) ≤ 12) → (0 ≤ (agT C n p - y28) ∧ (agT C n p - y28) ≤ 13))))) ∧ (((n = n) ∧ ((((((aiZ C n p x9) + 1 + 1) + 1 + 1) + 1) = (aiZ C n p y28)) ∧ ((0 ≤ ((((aiZ C n p x9) + 1 + 1) + 1 + 1) + 1) ∧ ((((aiZ C n p x9) + 1 + 1) + 1 + 1) + 1) ≤ 10000001) → (0 ≤ (aiZ C n p y28) ∧ (aiZ C n p y28) ≤ 9999100)))) ∧ (((n ≤ n) ∧ (∀ e31 : E, ((0 ≤ e31.den ∧ e31.den < n) → (((C (e31.den))) = ((C (e31.den))))))) ∧ (((0 : Int) ≤ x9 ∧ y28 = x9 + 1) ∧ (((x9 ≤ x9) ∧ (∀ e30 : E, ((0 ≤ e30.den ∧ e30.den < x9) → (((aiP C n p x9 (e30.den)) = (aiP C n p y28 (e30.den))) ∧ (((aiQ C n p x9 (e30.den)) = (aiQ C n p y28 (e30.den))) ∧ (((aiR C n p x9 (e30.den)) = (aiR C n p y28 (e30.den))) ∧ ((aiS C n p x9 (e30.den)) = (aiS C n p y28 (e30.den))))))))) ∧ (∀ e29 : E, ((e29.den = x9) → (((rpX C n (aiZ C n p x9)) = (aiP C n p y28 (e29.den))) ∧ (((rpY C n (aiZ C n p x9)) = (aiQ C n p y28 (e29.den))) ∧ (((rpX C n ((aiZ C n p x9) + 1 + 1)) = (aiR C n p y28 (e29.den))) ∧ ((rpY C n ((aiZ C n p x9) + 1 + 1)) = (aiS C n p y28 (e29.den))))))))))))) ∧ ((agT C n p - y28).toNat < (agT C n p - x9).toNat)))))))))))) ∧ ((x9 ≤ 0) → ((((((rpX C n (aiZ C n p x9)) = (rpX C n ((aiZ C n p x9) + 1 + 1))) ∧ ((rpY C n (aiZ C n p x9)) = (rpY C n ((aiZ C n p x9) + 1 + 1))))) → ((x9 = x9) ∧ (∃ y32 : Int, (((0 ≤ y32 ∧ y32 ≤ agT C n p) ∧ (p + 1 + 4 * y32 ≤ aiZ C n p y32 ∧ aiZ C n p y32 ≤ p + 1 + 6 * y32)) ∧ ((((((.slice none 0 0) : Value) = (.slice none 0 0)) ∧ ((((x9 + 1) = y32) ∧ (((x9 + 1) ≤ 65) → (y32 ≤ 64))) ∧ ((((agT C n p - x9) - 1) = (agT C n p - y32)) ∧ (((-1) ≤ ((agT C n p - x9) - 1) ∧ ((agT C n p - x9) - 1) ≤ 12) → (0 ≤ (agT C n p - y32) ∧ (agT C n p - y32) ≤ 13))))) ∧ (((n = n) ∧ (((((aiZ C n p x9) + 1 + 1) + 1 + 1) = (aiZ C n p y32)) ∧ ((0 ≤ (((aiZ C n p x9) + 1 + 1) + 1 + 1) ∧ (((aiZ C n p x9) + 1 + 1) + 1 + 1) ≤ 9999902) → (0 ≤ (aiZ C n p y32) ∧ (aiZ C n p y32) ≤ 9999100)))) ∧ (((n ≤ n) ∧ (∀ e35 : E, ((0 ≤ e35.den ∧ e35.den < n) → (((C (e35.den))) = ((C (e35.den))))))) ∧ (((0 : Int) ≤ x9 ∧ y32 = x9 + 1) ∧ (((x9 ≤ x9) ∧ (∀ e34 : E, ((0 ≤ e34.den ∧ e34.den < x9) → (((aiP C n p x9 (e34.den)) = (aiP C n p y32 (e34.den))) ∧ (((aiQ C n p x9 (e34.den)) = (aiQ C n p y32 (e34.den))) ∧ (((aiR C n p x9 (e34.den)) = (aiR C n p y32 (e34.den))) ∧ ((aiS C n p x9 (e34.den)) = (aiS C n p y32 (e34.den))))))))) ∧ (∀ e33 : E, ((e33.den = x9) → (((rpX C n (aiZ C n p x9)) = (aiP C n p y32 (e33.den))) ∧ (((rpY C n (aiZ C n p x9)) = (aiQ C n p y32 (e33.den))) ∧ (((rpX C n ((aiZ C n p x9) + 1 + 1)) = (aiR C n p y32 (e33.den))) ∧ (((rpY C n ((aiZ C n p x9) + 1 + 1)) + 1) = (aiS C n p y32 (e33.den))))))))))))) ∧ ((agT C n p - y32).toNat < (agT C n p - x9).toNat)))))) ∧ (((((rpX C n (aiZ C n p x9)) ≠ (rpX C n ((aiZ C n p x9) + 1 + 1))) ∨ ((rpY C n (aiZ C n p x9)) ≠ (rpY C n ((aiZ C n p x9) + 1 + 1))))) → ((x9 = x9) ∧ (∃ y36 : Int, (((0 ≤ y36 ∧ y36 ≤ agT C n p) ∧ (p + 1 + 4 * y36 ≤ aiZ C n p y36 ∧ aiZ C n p y36 ≤ p + 1 + 6 * y36)) ∧ ((((((.slice none 0 0) : Value) = (.slice none 0 0)) ∧ ((((x9 + 1) = y36) ∧ (((x9 + 1) ≤ 65) → (y36 ≤ 64))) ∧ ((((agT C n p - x9) - 1) = (agT C n p - y36)) ∧ (((-1) ≤ ((agT C n p - x9) - 1) ∧ ((agT C n p - x9) - 1) ≤ 12) → (0 ≤ (agT C n p - y36) ∧ (agT C n p - y36) ≤ 13))))) ∧ (((n = n) ∧ (((((aiZ C n p x9) + 1 + 1) + 1 + 1) = (aiZ C n p y36)) ∧ ((0 ≤ (((aiZ C n p x9) + 1 + 1) + 1 + 1) ∧ (((aiZ C n p x9) + 1 + 1) + 1 + 1) ≤ 9999902) → (0 ≤ (aiZ C n p y36) ∧ (aiZ C n p y36) ≤ 9999100)))) ∧ (((n ≤ n) ∧ (∀ e39 : E, ((0 ≤ e39.den ∧ e39.den < n) → (((C (e39.den))) = ((C (e39.den))))))) ∧ (((0 : Int) ≤ x9 ∧ y36 = x9 + 1) ∧ (((x9 ≤ x9) ∧ (∀ e38 : E, ((0 ≤ e38.den ∧ e38.den < x9) → (((aiP C n p x9 (e38.den)) = (aiP C n p y36 (e38.den))) ∧ (((aiQ C n p x9 (e38.den)) = (aiQ C n p y36 (e38.den))) ∧ (((aiR C n p x9 (e38.den)) = (aiR C n p y36 (e38.den))) ∧ ((aiS C n p x9 (e38.den)) = (aiS C n p y36 (e38.den))))))))) ∧ (∀ e37 : E, ((e37.den = x9) → (((rpX C n (aiZ C n p x9)) = (aiP C n p y36 (e37.den))) ∧ (((rpY C n (aiZ C n p x9)) = (aiQ C n p y36 (e37.den))) ∧ (((rpX C n ((aiZ C n p x9) + 1 + 1)) = (aiR C n p y36 (e37.den))) ∧ ((rpY C n ((aiZ C n p x9) + 1 + 1)) = (aiS C n p y36 (e37.den))))))))))))) ∧ ((agT C n p - y36).toNat < (agT C n p - x9).toNat)))))))))))))) ∧ (((agT C n p - x9) ≤ 0) → (((0 < x9) → ((((n = n) ∧ ((aiZ C n p x9) = (aiZ C n p x9))) ∧ ((n ≤ n) ∧ (∀ e40 : E, ((0 ≤ e40.den ∧ e40.den < n) → (((C (e40.den))) = ((C (e40.den)))))))) ∧ ((0 ≤ (pk C n (aiZ C n p x9) 12) ∧ (pk C n (aiZ C n p x9) 12) ≤ 11) → ((((pk C n (aiZ C n p x9) 12) = 0) → ((((n = n) ∧ ((((aiZ C n p x9) + 1) = ((aiZ C n p x9) + 1)) ∧ ((0 ≤ ((aiZ C n p x9) + 1) ∧ ((aiZ C n p x9) + 1) ≤ 10000001) → (0 ≤ ((aiZ C n p x9) + 1) ∧ ((aiZ C n p x9) + 1) ≤ 9999700)))) ∧ ((n ≤ n) ∧ (∀ e41 : E, ((0 ≤ e41.den ∧ e41.den < n) → (((C (e41.den))) = ((C (e41.den)))))))) ∧ ((((-1001) ≤ (apX C n ((aiZ C n p x9) + 1)) ∧ (apX C n ((aiZ C n p x9) + 1)) ≤ 1001) ∧ (((-1001) ≤ (apY C n ((aiZ C n p x9) + 1)) ∧ (apY C n ((aiZ C n p x9) + 1)) ≤ 1001) ∧ (((-1001) ≤ (sgX C n ((aiZ C n p x9) + 1)) ∧ (sgX C n ((aiZ C n p x9) + 1)) ≤ 1001) ∧ ((-1001) ≤ (sgY C n ((aiZ C n p x9) + 1)) ∧ (sgY C n ((aiZ C n p x9) + 1)) ≤ 1001)))) → ((0 < x9) ∧ ((0 < x9) ∧ ((x9 = (agT C n p)) ∧ (((n = n) ∧ (((sgP C n ((aiZ C n p x9) + 1)) = (agE C n p)) ∧ ((0 ≤ (sgP C n ((aiZ C n p x9) + 1)) ∧ (sgP C n ((aiZ C n p x9) + 1)) ≤ 9999720) → (0 ≤ (agE C n p) ∧ (agE C n p) ≤ 9999000)))) ∧ (((n ≤ n) ∧ (∀ e44 : E, ((0 ≤ e44.den ∧ e44.den < n) → (((C (e44.den))) = ((C (e44.den))))))) ∧ (((agT C n p) = x9) ∧ ((∀ e43 : E, ((0 ≤ e43.den ∧ e43.den < x9 ∧ e43.den ≠ 0) → (((aiP C n p x9 (e43.den)) = (agP C n p e43.den)) ∧ (((aiQ C n p x9 (e43.den)) = (agQ C n p e43.den)) ∧ (((aiR C n p x9 (e43.den)) = (agR C n p e43.den)) ∧ ((aiS C n p x9 (e43.den)) = (agS C n p e43.den))))))) ∧ (∀ e42 : E, ((e42.den.toNat = (0 : Int).toNat ∧ 0 ≤ e42.den) → (((apX C n ((aiZ C n p x9) + 1)) = (agP C n p e42.den)) ∧ (((apY C n ((aiZ C n p x9) + 1)) = (agQ C n p e42.den)) ∧ (((sgX C n ((aiZ C n p x9) + 1)) = (agR C n p e42.den)) ∧ ((sgY C n ((aiZ C n p x9) + 1)) = (agS C n p e42.den))))))))))))))))) ∧ (((pk C n (aiZ C n p x9) 12) ≠ 0) → ((x9 = (agT C n p)) ∧ (((n = n) ∧ ((((aiZ C n p x9) + 1) = (agE C n p)) ∧ ((0 ≤ ((aiZ C n p x9) + 1) ∧ ((aiZ C n p x9) + 1) ≤ 10000001) → (0 ≤ (agE C n p) ∧ (agE C n p) ≤ 9999000)))) ∧ (((n ≤ n) ∧ (∀ e46 : E, ((0 ≤ e46.den ∧ e46.den < n) → (((C (e46.den))) = ((C (e46.den))))))) ∧ (((agT C n p) ≤ x9) ∧ (∀ e45 : E, ((0 ≤ e45.den ∧ e45.den < (agT C n p)) → (((aiP C n p x9 (e45.den)) = (agP C n p e45.den)) ∧ (((aiQ C n p x9 (e45.den)) = (agQ C n p e45.den)) ∧ (((aiR C n p x9 (e45.den)) = (agR C n p e45.den)) ∧ ((aiS C n p x9 (e45.den)) = (agS C n p e45.den)))))))))))))))) ∧ ((x9 ≤ 0) → ((x9 = (agT C n p)) ∧ (((n = n) ∧ (((aiZ C n p x9) = (agE C n p)) ∧ ((0 ≤ (aiZ C n p x9) ∧ (aiZ C n p x9) ≤ 9999100) → (0 ≤ (agE C n p) ∧ (agE C n p) ≤ 9999000)))) ∧ (((n ≤ n) ∧ (∀ e48 : E, ((0 ≤ e48.den ∧ e48.den < n) → (((C (e48.den))) = ((C (e48.den))))))) ∧ (((agT C n p) ≤ x9) ∧ (∀ e47 : E, ((0 ≤ e47.den ∧ e47.den < (agT C n p)) → (((aiP C n p x9 (e47.den)) = (agP C n p e47.den)) ∧ (((aiQ C n p x9 (e47.den)) = (agQ C n p e47.den)) ∧ (((aiR C n p x9 (e47.den)) = (agR C n p e47.den)) ∧ ((aiS C n p x9 (e47.den)) = (agS C n p e47.den))))))))))))))))))))) (by kernel_rfl) ?_
  intro h1 h2
  have hC : ∀ i, 0 ≤ i → i < n → 0 ≤ C i ∧ C i ≤ 255 := fun i a b => h2.2 (.v fun _ => i) ⟨a, b⟩
  have h7 := pk_bd (p := p) (k := 7) hC (by omega) (by omega) (by omega) (by omega)
  have hT := agT_bd h7
  have e0 : selL [0, 1, 2, 3, 4, 6, 13] (pk C n p 7) = agT C n p := rfl
  refine ⟨?_, ?_⟩
  · refine ⟨⟨rfl, rfl⟩, ?_, Int.le_refl _, fun _ => fun _ => rfl⟩
    refine ⟨?_, ?_, ?_, ?_, ?_, ?_, ?_⟩
    · intro e8
      intro c50
      have hq : e8.den = _ := (by assumption); rw [hq]; rfl
    · intro e7
      intro c51
      have hq : e7.den = _ := (by assumption); rw [hq]; rfl
    · intro e6
      intro c52
      have hq : e6.den = _ := (by assumption); rw [hq]; rfl
    · intro e5
      intro c53
      have hq : e5.den = _ := (by assumption); rw [hq]; rfl
    · intro e4
      intro c54
      have hq : e4.den = _ := (by assumption); rw [hq]; rfl
    · intro e3
      intro c55
      have hq : e3.den = _ := (by assumption); rw [hq]; rfl
    · intro e2
      intro c56
      have hq : e2.den = _ := (by assumption); rw [hq]; rfl
  · intro c57
    refine ⟨?_, ?_⟩
    · refine ⟨0, ?_⟩
      try dsimp only
      refine ⟨?_, ?_, ?_, ⟨Int.le_refl _, fun _ => fun _ => rfl⟩, ?_⟩
      · have hz : aiZ C n p 0 = p + 1 := rfl; omega
      · refine ⟨rfl, ?_, ?_⟩
        · rfl
        · omega
      · refine ⟨rfl, ?_, ?_⟩
        · rfl
        · intro c58
          have hz : aiZ C n p 0 = p + 1 := rfl; omega
      · rfl
    · intro j
      intro I1
      refine ⟨?_, ?_⟩
      · intro c59
        refine ⟨⟨⟨rfl, rfl⟩, ⟨Int.le_refl _, fun _ => fun _ => rfl⟩⟩, ?_⟩
        intro c60
        refine ⟨?_, ?_⟩
        · refine ⟨?_, Int.le_refl _, fun _ => fun _ => rfl⟩
          refine ⟨rfl, rfl, ?_⟩
          intro c61
          omega
        · intro c62
          refine ⟨?_, ?_⟩
          · intro c63
            refine ⟨⟨⟨rfl, rfl⟩, ⟨Int.le_refl _, fun _ => fun _ => rfl⟩⟩, ?_⟩
            intro c64
            refine ⟨?_, ?_⟩
            · intro c65
              refine ⟨rfl, ?_, ?_⟩
              · refine ⟨?_, Int.le_refl _, fun _ => fun _ => rfl⟩
                refine ⟨rfl, rfl, ?_⟩
                intro c66
                omega
              · intro c67
                refine ⟨?_, ?_, ?_, ?_⟩
                · have hk := pk_bd (p := aiZ C n p j + 1 + 1 + 1 + 1 + 1) (k := j) hC (by omega) (by omega) (by omega) (by omega); omega
                · have hk := pk_bd (p := aiZ C n p j + 1 + 1 + 1 + 1 + 1) (k := j) hC (by omega) (by omega) (by omega) (by omega); omega
                · intro c68
                  refine ⟨?_, ?_⟩
                  · rfl
                  · refine ⟨j + 1, ?_⟩
                    try dsimp only
                    refine ⟨?_, ?_, ?_⟩
                    · have hs := ai_step C n p (j := j) (by omega); have hc := st_1 (C := C) (n := n) (p := p) (j := j) (by omega) (by omega); have hz := hs.1; rw [hc.2] at hz; omega
                    · refine ⟨?_, ?_, ⟨Int.le_refl _, fun _ => fun _ => rfl⟩, ?_, ?_, ?_⟩
                      · refine ⟨rfl, ?_, ?_, ?_⟩
                        · refine ⟨?_, ?_⟩
                          · rfl
                          · intro c69
                            omega
                        · omega
                        · intro c70
                          omega
                      · refine ⟨rfl, ?_, ?_⟩
                        · have hs := ai_step C n p (j := j) (by omega); have hc := st_1 (C := C) (n := n) (p := p) (j := j) (by omega) (by omega); have hz := hs.1; rw [hc.2] at hz; omega
                        · intro c71
                          have hs := ai_step C n p (j := j) (by omega); have hc := st_1 (C := C) (n := n) (p := p) (j := j) (by omega) (by omega); have hz := hs.1; rw [hc.2] at hz; omega
                      · omega
                      · refine ⟨Int.le_refl _, ?_⟩
                        intro e18
                        intro c72
                        refine ⟨?_, ?_, ?_, ?_⟩
                        · have hs := ai_step C n p (j := j) (by omega); rw [hs.2.1, updF_o (by omega)]; done
                        · have hs := ai_step C n p (j := j) (by omega); rw [hs.2.2.1, updF_o (by omega)]; done
                        · have hs := ai_step C n p (j := j) (by omega); rw [hs.2.2.2.1, updF_o (by omega)]; done
                        · have hs := ai_step C n p (j := j) (by omega); rw [hs.2.2.2.2, updF_o (by omega)]; done
                      · intro e17
                        intro c73
                        refine ⟨?_, ?_, ?_, ?_⟩
                        · have hs := ai_step C n p (j := j) (by omega); have hc := st_1 (C := C) (n := n) (p := p) (j := j) (by omega) (by omega); rw [hs.2.1, updF_s (by omega), (st_t hc.1).1]; done
                        · have hs := ai_step C n p (j := j) (by omega); have hc := st_1 (C := C) (n := n) (p := p) (j := j) (by omega) (by omega); rw [hs.2.2.1, updF_s (by omega), (st_t hc.1).2]; done
                        · have hs := ai_step C n p (j := j) (by omega); rw [hs.2.2.2.1, updF_s (by omega)]; done
                        · have hs := ai_step C n p (j := j) (by omega); have hc := st_1 (C := C) (n := n) (p := p) (j := j) (by omega) (by omega); rw [hs.2.2.2.2, updF_s (by omega), stB_t (st_t hc.1).1 (st_t hc.1).2, if_pos (by omega)]; done
                    · omega
                · intro c74
                  refine ⟨?_, ?_⟩
                  · rfl
                  · refine ⟨j + 1, ?_⟩
                    try dsimp only
                    refine ⟨?_, ?_, ?_⟩
                    · have hs := ai_step C n p (j := j) (by omega); have hc := st_1 (C := C) (n := n) (p := p) (j := j) (by omega) (by omega); have hz := hs.1; rw [hc.2] at hz; omega
                    · refine ⟨?_, ?_, ⟨Int.le_refl _, fun _ => fun _ => rfl⟩, ?_, ?_, ?_⟩
                      · refine ⟨rfl, ?_, ?_, ?_⟩
                        · refine ⟨?_, ?_⟩
                          · rfl
                          · intro c75
                            omega
                        · omega
                        · intro c76
                          omega
                      · refine ⟨rfl, ?_, ?_⟩
                        · have hs := ai_step C n p (j := j) (by omega); have hc := st_1 (C := C) (n := n) (p := p) (j := j) (by omega) (by omega); have hz := hs.1; rw [hc.2] at hz; omega
                        · intro c77
                          have hs := ai_step C n p (j := j) (by omega); have hc := st_1 (C := C) (n := n) (p := p) (j := j) (by omega) (by omega); have hz := hs.1; rw [hc.2] at hz; omega
                      · omega
                      · refine ⟨Int.le_refl _, ?_⟩
                        intro e22
                        intro c78
                        refine ⟨?_, ?_, ?_, ?_⟩
                        · have hs := ai_step C n p (j := j) (by omega); rw [hs.2.1, updF_o (by omega)]; done
                        · have hs := ai_step C n p (j := j) (by omega); rw [hs.2.2.1, updF_o (by omega)]; done
                        · have hs := ai_step C n p (j := j) (by omega); rw [hs.2.2.2.1, updF_o (by omega)]; done
                        · have hs := ai_step C n p (j := j) (by omega); rw [hs.2.2.2.2, updF_o (by omega)]; done
                      · intro e21
                        intro c79
                        refine ⟨?_, ?_, ?_, ?_⟩
                        · have hs := ai_step C n p (j := j) (by omega); have hc := st_1 (C := C) (n := n) (p := p) (j := j) (by omega) (by omega); rw [hs.2.1, updF_s (by omega), (st_t hc.1).1]; done
                        · have hs := ai_step C n p (j := j) (by omega); have hc := st_1 (C := C) (n := n) (p := p) (j := j) (by omega) (by omega); rw [hs.2.2.1, updF_s (by omega), (st_t hc.1).2]; done
                        · have hs := ai_step C n p (j := j) (by omega); rw [hs.2.2.2.1, updF_s (by omega)]; done
                        · have hs := ai_step C n p (j := j) (by omega); have hc := st_1 (C := C) (n := n) (p := p) (j := j) (by omega) (by omega); rw [hs.2.2.2.2, updF_s (by omega), stB_t (st_t hc.1).1 (st_t hc.1).2, if_neg (by omega)]; done
                    · omega
            · intro c80
              refine ⟨?_, ?_⟩
              · intro c81
                refine ⟨?_, ?_⟩
                · rfl
                · refine ⟨j + 1, ?_⟩
                  try dsimp only
                  refine ⟨?_, ?_, ?_⟩
                  · have hs := ai_step C n p (j := j) (by omega); have hc := st_2 (C := C) (n := n) (p := p) (j := j) (by omega) (by omega); have hz := hs.1; rw [hc.2] at hz; omega
                  · refine ⟨?_, ?_, ⟨Int.le_refl _, fun _ => fun _ => rfl⟩, ?_, ?_, ?_⟩
                    · refine ⟨rfl, ?_, ?_, ?_⟩
                      · refine ⟨?_, ?_⟩
                        · rfl
                        · intro c82
                          omega
                      · omega
                      · intro c83
                        omega
                    · refine ⟨rfl, ?_, ?_⟩
                      · have hs := ai_step C n p (j := j) (by omega); have hc := st_2 (C := C) (n := n) (p := p) (j := j) (by omega) (by omega); have hz := hs.1; rw [hc.2] at hz; omega
                      · intro c84
                        have hs := ai_step C n p (j := j) (by omega); have hc := st_2 (C := C) (n := n) (p := p) (j := j) (by omega) (by omega); have hz := hs.1; rw [hc.2] at hz; omega
                    · omega
                    · refine ⟨Int.le_refl _, ?_⟩
                      intro e26
                      intro c85
                      refine ⟨?_, ?_, ?_, ?_⟩
                      · have hs := ai_step C n p (j := j) (by omega); rw [hs.2.1, updF_o (by omega)]; done
                      · have hs := ai_step C n p (j := j) (by omega); rw [hs.2.2.1, updF_o (by omega)]; done
                      · have hs := ai_step C n p (j := j) (by omega); rw [hs.2.2.2.1, updF_o (by omega)]; done
                      · have hs := ai_step C n p (j := j) (by omega); rw [hs.2.2.2.2, updF_o (by omega)]; done
                    · intro e25
                      intro c86
                      refine ⟨?_, ?_, ?_, ?_⟩
                      · have hs := ai_step C n p (j := j) (by omega); have hc := st_2 (C := C) (n := n) (p := p) (j := j) (by omega) (by omega); rw [hs.2.1, updF_s (by omega), (st_f hc.1).1]; done
                      · have hs := ai_step C n p (j := j) (by omega); have hc := st_2 (C := C) (n := n) (p := p) (j := j) (by omega) (by omega); rw [hs.2.2.1, updF_s (by omega), (st_f hc.1).2]; done
                      · have hs := ai_step C n p (j := j) (by omega); rw [hs.2.2.2.1, updF_s (by omega)]; done
                      · have hs := ai_step C n p (j := j) (by omega); have hc := st_2 (C := C) (n := n) (p := p) (j := j) (by omega) (by omega); rw [hs.2.2.2.2, updF_s (by omega), stB_t (st_f hc.1).1 (st_f hc.1).2, if_pos (by omega)]; done
                  · omega
              · intro c87
                refine ⟨?_, ?_⟩
                · rfl
                · refine ⟨j + 1, ?_⟩
                  try dsimp only
                  refine ⟨?_, ?_, ?_⟩
                  · have hs := ai_step C n p (j := j) (by omega); have hc := st_2 (C := C) (n := n) (p := p) (j := j) (by omega) (by omega); have hz := hs.1; rw [hc.2] at hz; omega
                  · refine ⟨?_, ?_, ⟨Int.le_refl _, fun _ => fun _ => rfl⟩, ?_, ?_, ?_⟩
                    · refine ⟨rfl, ?_, ?_, ?_⟩
                      · refine ⟨?_, ?_⟩
                        · rfl
                        · intro c88
                          omega
                      · omega
                      · intro c89
                        omega
                    · refine ⟨rfl, ?_, ?_⟩
                      · have hs := ai_step C n p (j := j) (by omega); have hc := st_2 (C := C) (n := n) (p := p) (j := j) (by omega) (by omega); have hz := hs.1; rw [hc.2] at hz; omega
                      · intro c90
                        have hs := ai_step C n p (j := j) (by omega); have hc := st_2 (C := C) (n := n) (p := p) (j := j) (by omega) (by omega); have hz := hs.1; rw [hc.2] at hz; omega
                    · omega
                    · refine ⟨Int.le_refl _, ?_⟩
                      intro e30
                      intro c91
                      refine ⟨?_, ?_, ?_, ?_⟩
                      · have hs := ai_step C n p (j := j) (by omega); rw [hs.2.1, updF_o (by omega)]; done
                      · have hs := ai_step C n p (j := j) (by omega); rw [hs.2.2.1, updF_o (by omega)]; done
                      · have hs := ai_step C n p (j := j) (by omega); rw [hs.2.2.2.1, updF_o (by omega)]; done
                      · have hs := ai_step C n p (j := j) (by omega); rw [hs.2.2.2.2, updF_o (by omega)]; done
                    · intro e29
                      intro c92
                      refine ⟨?_, ?_, ?_, ?_⟩
                      · have hs := ai_step C n p (j := j) (by omega); have hc := st_2 (C := C) (n := n) (p := p) (j := j) (by omega) (by omega); rw [hs.2.1, updF_s (by omega), (st_f hc.1).1]; done
                      · have hs := ai_step C n p (j := j) (by omega); have hc := st_2 (C := C) (n := n) (p := p) (j := j) (by omega) (by omega); rw [hs.2.2.1, updF_s (by omega), (st_f hc.1).2]; done
                      · have hs := ai_step C n p (j := j) (by omega); rw [hs.2.2.2.1, updF_s (by omega)]; done
                      · have hs := ai_step C n p (j := j) (by omega); have hc := st_2 (C := C) (n := n) (p := p) (j := j) (by omega) (by omega); rw [hs.2.2.2.2, updF_s (by omega), stB_t (st_f hc.1).1 (st_f hc.1).2, if_neg (by omega)]; done
                  · omega
          · intro c93
            refine ⟨?_, ?_⟩
            · intro c94
              refine ⟨?_, ?_⟩
              · rfl
              · refine ⟨j + 1, ?_⟩
                try dsimp only
                refine ⟨?_, ?_, ?_⟩
                · have hs := ai_step C n p (j := j) (by omega); have hc := st_0 (C := C) (n := n) (p := p) (j := j) (by omega); have hz := hs.1; rw [hc.2] at hz; omega
                · refine ⟨?_, ?_, ⟨Int.le_refl _, fun _ => fun _ => rfl⟩, ?_, ?_, ?_⟩
                  · refine ⟨rfl, ?_, ?_, ?_⟩
                    · refine ⟨?_, ?_⟩
                      · rfl
                      · intro c95
                        omega
                    · omega
                    · intro c96
                      omega
                  · refine ⟨rfl, ?_, ?_⟩
                    · have hs := ai_step C n p (j := j) (by omega); have hc := st_0 (C := C) (n := n) (p := p) (j := j) (by omega); have hz := hs.1; rw [hc.2] at hz; omega
                    · intro c97
                      have hs := ai_step C n p (j := j) (by omega); have hc := st_0 (C := C) (n := n) (p := p) (j := j) (by omega); have hz := hs.1; rw [hc.2] at hz; omega
                  · omega
                  · refine ⟨Int.le_refl _, ?_⟩
                    intro e34
                    intro c98
                    refine ⟨?_, ?_, ?_, ?_⟩
                    · omega
                    · omega
                    · omega
                    · omega
                  · intro e33
                    intro c99
                    refine ⟨?_, ?_, ?_, ?_⟩
                    · have hs := ai_step C n p (j := j) (by omega); have hc := st_0 (C := C) (n := n) (p := p) (j := j) (by omega); rw [hs.2.1, updF_s (by omega), (st_f hc.1).1]; done
                    · have hs := ai_step C n p (j := j) (by omega); have hc := st_0 (C := C) (n := n) (p := p) (j := j) (by omega); rw [hs.2.2.1, updF_s (by omega), (st_f hc.1).2]; done
                    · have hs := ai_step C n p (j := j) (by omega); rw [hs.2.2.2.1, updF_s (by omega)]; done
                    · have hs := ai_step C n p (j := j) (by omega); have hc := st_0 (C := C) (n := n) (p := p) (j := j) (by omega); rw [hs.2.2.2.2, updF_s (by omega), stB_t (st_f hc.1).1 (st_f hc.1).2, if_pos (by omega)]; done
                · omega
            · intro c100
              refine ⟨?_, ?_⟩
              · rfl
              · refine ⟨j + 1, ?_⟩
                try dsimp only
                refine ⟨?_, ?_, ?_⟩
                · have hs := ai_step C n p (j := j) (by omega); have hc := st_0 (C := C) (n := n) (p := p) (j := j) (by omega); have hz := hs.1; rw [hc.2] at hz; omega
                · refine ⟨?_, ?_, ⟨Int.le_refl _, fun _ => fun _ => rfl⟩, ?_, ?_, ?_⟩
                  · refine ⟨rfl, ?_, ?_, ?_⟩
                    · refine ⟨?_, ?_⟩
                      · rfl
                      · intro c101
                        omega
                    · omega
                    · intro c102
                      omega
                  · refine ⟨rfl, ?_, ?_⟩
                    · have hs := ai_step C n p (j := j) (by omega); have hc := st_0 (C := C) (n := n) (p := p) (j := j) (by omega); have hz := hs.1; rw [hc.2] at hz; omega
                    · intro c103
                      have hs := ai_step C n p (j := j) (by omega); have hc := st_0 (C := C) (n := n) (p := p) (j := j) (by omega); have hz := hs.1; rw [hc.2] at hz; omega
                  · omega
                  · refine ⟨Int.le_refl _, ?_⟩
                    intro e38
                    intro c104
                    refine ⟨?_, ?_, ?_, ?_⟩
                    · omega
                    · omega
                    · omega
                    · omega
                  · intro e37
                    intro c105
                    refine ⟨?_, ?_, ?_, ?_⟩
                    · have hs := ai_step C n p (j := j) (by omega); have hc := st_0 (C := C) (n := n) (p := p) (j := j) (by omega); rw [hs.2.1, updF_s (by omega), (st_f hc.1).1]; done
                    · have hs := ai_step C n p (j := j) (by omega); have hc := st_0 (C := C) (n := n) (p := p) (j := j) (by omega); rw [hs.2.2.1, updF_s (by omega), (st_f hc.1).2]; done
                    · have hs := ai_step C n p (j := j) (by omega); rw [hs.2.2.2.1, updF_s (by omega)]; done
                    · have hs := ai_step C n p (j := j) (by omega); have hc := st_0 (C := C) (n := n) (p := p) (j := j) (by omega); rw [hs.2.2.2.2, updF_s (by omega), stB_t (st_f hc.1).1 (st_f hc.1).2, if_neg (by omega)]; done
                · omega
      · intro c106
        refine ⟨?_, ?_⟩
        · intro c107
          refine ⟨⟨⟨rfl, rfl⟩, ⟨Int.le_refl _, fun _ => fun _ => rfl⟩⟩, ?_⟩
          intro c108
          refine ⟨?_, ?_⟩
          · intro c109
            refine ⟨?_, ?_⟩
            · refine ⟨?_, Int.le_refl _, fun _ => fun _ => rfl⟩
              refine ⟨rfl, rfl, ?_⟩
              intro c110
              omega
            · intro c111
              refine ⟨?_, ?_, ?_, ?_, ⟨Int.le_refl _, fun _ => fun _ => rfl⟩, ?_, ?_, ?_⟩
              · omega
              · omega
              · omega
              · refine ⟨rfl, ?_, ?_⟩
                · have e : j = agT C n p := (by omega); subst e; unfold agE; rw [if_pos (by omega), if_pos (by omega)]; done
                · intro c112
                  have e : j = agT C n p := (by omega); subst e; have hb := sgP_bd C n (aiZ C n p (agT C n p) + 1); unfold agE; (repeat' split) <;> omega
              · omega
              · intro e43
                intro c113
                refine ⟨?_, ?_, ?_, ?_⟩
                · have e : j = agT C n p := (by omega); subst e; unfold agP agX; rw [if_pos (by unfold agU; rw [Bool.and_eq_true, decide_eq_true_eq, decide_eq_true_eq]; omega), updF_o (by omega)]; done
                · have e : j = agT C n p := (by omega); subst e; unfold agQ agX; rw [if_pos (by unfold agU; rw [Bool.and_eq_true, decide_eq_true_eq, decide_eq_true_eq]; omega), updF_o (by omega)]; done
                · have e : j = agT C n p := (by omega); subst e; unfold agR agX; rw [if_pos (by unfold agU; rw [Bool.and_eq_true, decide_eq_true_eq, decide_eq_true_eq]; omega), updF_o (by omega)]; done
                · have e : j = agT C n p := (by omega); subst e; unfold agS agX; rw [if_pos (by unfold agU; rw [Bool.and_eq_true, decide_eq_true_eq, decide_eq_true_eq]; omega), updF_o (by omega)]; done
              · intro e42
                intro c114
                refine ⟨?_, ?_, ?_, ?_⟩
                · have e : j = agT C n p := (by omega); subst e; unfold agP agX; rw [if_pos (by unfold agU; rw [Bool.and_eq_true, decide_eq_true_eq, decide_eq_true_eq]; omega), updF_s (by omega)]; done
                · have e : j = agT C n p := (by omega); subst e; unfold agQ agX; rw [if_pos (by unfold agU; rw [Bool.and_eq_true, decide_eq_true_eq, decide_eq_true_eq]; omega), updF_s (by omega)]; done
                · have e : j = agT C n p := (by omega); subst e; unfold agR agX; rw [if_pos (by unfold agU; rw [Bool.and_eq_true, decide_eq_true_eq, decide_eq_true_eq]; omega), updF_s (by omega)]; done
                · have e : j = agT C n p := (by omega); subst e; unfold agS agX; rw [if_pos (by unfold agU; rw [Bool.and_eq_true, decide_eq_true_eq, decide_eq_true_eq]; omega), updF_s (by omega)]; done
          · intro c115
            refine ⟨?_, ?_, ⟨Int.le_refl _, fun _ => fun _ => rfl⟩, ?_, ?_⟩
            · omega
            · refine ⟨rfl, ?_, ?_⟩
              · have e : j = agT C n p := (by omega); subst e; unfold agE; rw [if_pos (by omega), if_neg (by omega)]; done
              · intro c116
                have e : j = agT C n p := (by omega); subst e; have hb := sgP_bd C n (aiZ C n p (agT C n p) + 1); unfold agE; (repeat' split) <;> omega
            · omega
            · intro e45
              intro c117
              refine ⟨?_, ?_, ?_, ?_⟩
              · have e : j = agT C n p := (by omega); subst e; unfold agP agX; rw [if_neg (by unfold agU; rw [Bool.and_eq_true, decide_eq_true_eq, decide_eq_true_eq]; omega)]; done
              · have e : j = agT C n p := (by omega); subst e; unfold agQ agX; rw [if_neg (by unfold agU; rw [Bool.and_eq_true, decide_eq_true_eq, decide_eq_true_eq]; omega)]; done
              · have e : j = agT C n p := (by omega); subst e; unfold agR agX; rw [if_neg (by unfold agU; rw [Bool.and_eq_true, decide_eq_true_eq, decide_eq_true_eq]; omega)]; done
              · have e : j = agT C n p := (by omega); subst e; unfold agS agX; rw [if_neg (by unfold agU; rw [Bool.and_eq_true, decide_eq_true_eq, decide_eq_true_eq]; omega)]; done
        · intro c118
          refine ⟨?_, ?_, ⟨Int.le_refl _, fun _ => fun _ => rfl⟩, ?_, ?_⟩
          · omega
          · refine ⟨rfl, ?_, ?_⟩
            · have e : j = agT C n p := (by omega); subst e; unfold agE; rw [if_neg (by omega)]; done
            · intro c119
              have e : j = agT C n p := (by omega); subst e; have hb := sgP_bd C n (aiZ C n p (agT C n p) + 1); unfold agE; (repeat' split) <;> omega
          · omega
          · intro e47
            intro c120
            refine ⟨?_, ?_, ?_, ?_⟩
            · omega
            · omega
            · omega
            · omega
def c_anySegments (C : Int → Int) (n : Int) (p : Int) : Cn Try.prog := ⟨_, _, _, _, _, anySegments C n p⟩
end Go.Proofs.Ytoielngedkbmbaa
