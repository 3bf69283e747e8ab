/- FnSideOfRat: the walk. -/
import Derived.Test.YtoielngedkbmbaaR12
import Derived.Test.YtoielngedkbmbaaK13
import Derived.Test.YtoielngedkbmbaaK16
set_option linter.unusedSimpArgs false
set_option linter.unusedVariables false
set_option maxRecDepth 100000
namespace Go.Proofs.Ytoielngedkbmbaa
open Go.Sym
def a1 (C : Int → Int) (n : Int) : Int := alA C (cut n) 0
def a2 (C : Int → Int) (n : Int) : Int := alB C (cut n) 0
def a3 (C : Int → Int) (n : Int) : Int := alC C (cut n) 0
def dA (a b c : Int) : Int := if okL a b c = true then a else 1
def dB (a b c : Int) : Int := if okL a b c = true then b else 1
def dC (a b c : Int) : Int := if okL a b c = true then c else 0
def e0 (C : Int → Int) (n : Int) : Int := alP C (cut n) 0
def kA (C : Int → Int) (n : Int) : Int := dA (a1 C n) (a2 C n) (a3 C n)
def kB (C : Int → Int) (n : Int) : Int := dB (a1 C n) (a2 C n) (a3 C n)
def kC (C : Int → Int) (n : Int) : Int := dC (a1 C n) (a2 C n) (a3 C n)
def mA (C : Int → Int) (n : Int) : Int := rlA C (cut n) (e0 C n + 1)
def mB (C : Int → Int) (n : Int) : Int := rlB C (cut n) (e0 C n + 1)
def mC (C : Int → Int) (n : Int) : Int := rlC C (cut n) (e0 C n + 1)
def is0 (C : Int → Int) (n : Int) : Bool := decide (pk C (cut n) (e0 C n) 3 = 0)
def isM (C : Int → Int) (n : Int) : Bool := is0 C n && !decide (kA C n * mB C n = mA C n * kB C n)
def ps (C : Int → Int) (n : Int) : Int := if is0 C n = true then e0 C n + 1 + 1 + 1 + 1 + 1 else e0 C n + 1
def x1 (C : Int → Int) (n : Int) : Int := if isM C n = true then redN (kC C n * mB C n - mC C n * kB C n) (kA C n * mB C n - mA C n * kB C n) else qN C (cut n) (ps C n)
def x2 (C : Int → Int) (n : Int) : Int := if isM C n = true then redD (kC C n * mB C n - mC C n * kB C n) (kA C n * mB C n - mA C n * kB C n) else qD C (cut n) (ps C n)
def y1 (C : Int → Int) (n : Int) : Int := if isM C n = true then redN (kA C n * mC C n - mA C n * kC C n) (kA C n * mB C n - mA C n * kB C n) else qN C (cut n) (qP C (cut n) (ps C n))
def y2 (C : Int → Int) (n : Int) : Int := if isM C n = true then redD (kA C n * mC C n - mA C n * kC C n) (kA C n * mB C n - mA C n * kB C n) else qD C (cut n) (qP C (cut n) (ps C n))
theorem randomLineOf (lA : Int) (lB : Int) (lC : Int) : RunsTo Try.prog 79 [(.agg [(.int .i64 (.v fun _ => lA) (-20000000) 20000000), (.int .i64 (.v fun _ => lB) (-20000000) 20000000), (.int .i64 (.v fun _ => lC) (-20000000) 20000000)])] [] (.agg [(.int .i64 (.v fun _ => dA lA lB lC) (-20000000) 20000000), (.int .i64 (.v fun _ => dB lA lB lC) (-20000000) 20000000), (.int .i64 (.v fun _ => dC lA lB lC) (-20000000) 20000000)]) [] := by
  refine RunsTo.go env Try.func79 rfl Try.call79 rfl rfl (fun _ _ => (.call (c_s_validLine lA lB lC) (.ite .ret .ret))) (G := (((-20000000) ≤ lA ∧ lA ≤ 20000000) ∧ (((-20000000) ≤ lB ∧ lB ≤ 20000000) ∧ ((-20000000) ≤ lC ∧ lC ≤ 20000000))) → (True) → (((lA = lA) ∧ ((lB = lB) ∧ (lC = lC))) ∧ ((((okL lA lB lC) = true) → ((lA = (dA lA lB lC)) ∧ ((lB = (dB lA lB lC)) ∧ (lC = (dC lA lB lC))))) ∧ (((okL lA lB lC) = false) → (((1 : Int) = (dA lA lB lC)) ∧ (((1 : Int) = (dB lA lB lC)) ∧ ((0 : Int) = (dC lA lB lC)))))))) (by kernel_rfl) ?_
  intro h1 h2
  refine ⟨⟨rfl, ⟨rfl, rfl⟩⟩, ?_, ?_⟩
  · intro c1
    refine ⟨?_, ?_, ?_⟩
      -- 1: lA = (dA lA lB lC)
    · first | rfl | omega | (simp_all [dA, dB, dC]; done) | fail
      -- 2: lB = (dB lA lB lC)
    · first | rfl | omega | (simp_all [dA, dB, dC]; done) | fail
      -- 3: lC = (dC lA lB lC)
    · first | rfl | omega | (simp_all [dA, dB, dC]; done) | fail
  · intro c2
    refine ⟨?_, ?_, ?_⟩
      -- 4: (1 : Int) = (dA lA lB lC)
    · first | rfl | omega | (simp_all [dA, dB, dC]; done) | fail
      -- 5: (1 : Int) = (dB lA lB lC)
    · first | rfl | omega | (simp_all [dA, dB, dC]; done) | fail
      -- 6: (0 : Int) = (dC lA lB lC)
    · first | rfl | omega | (simp_all [dA, dB, dC]; done) | fail
def c_randomLineOf (lA : Int) (lB : Int) (lC : Int) : Cn Try.prog := ⟨_, _, _, _, _, randomLineOf lA lB lC⟩
theorem s_DrawSideOfRat (C : Int → Int) (n : Int) : RunsTo Try.prog 30 [(.sl 0 1 (.lit 0) (.v fun _ => n) 9223372036854775807)] [some ⟨5, 1, false, (.sym (.v fun _ => n) fun e => [(.int .u8 (.v fun _ => (C (e.den))) 0 255)])⟩] (.tup [(.agg [(.int .i64 (.v fun _ => a1 C n) (-10000000) 10000000), (.int .i64 (.v fun _ => a2 C n) (-10000000) 10000000), (.int .i64 (.v fun _ => a3 C n) (-10000000) 10000000)]), (.agg [(.int .i64 (.v fun _ => x1 C n) (-4000000000000000000) 4000000000000000000), (.int .i64 (.v fun _ => x2 C n) (-4000000000000000000) 4000000000000000000), (.int .i64 (.v fun _ => y1 C n) (-4000000000000000000) 4000000000000000000), (.int .i64 (.v fun _ => y2 C n) (-4000000000000000000) 4000000000000000000)])]) [some ⟨5, 1, false, (.sym (.v fun _ => cut n) fun e => [(.int .u8 (.v fun _ => (C (e.den))) 0 255)])⟩] := by
  refine RunsTo.go env Try.func30 rfl Try.call30 rfl rfl (fun _ _ => (.call (c_s_newReader C n) (.call (c_anyLine C (cut n) 0) (.call (c_pick_3 C (cut n) (alP C (cut n) 0)) (.ite (.call (c_randomLine C (cut n) ((alP C (cut n) 0) + 1)) (.call (c_randomLineOf (alA C (cut n) 0) (alB C (cut n) 0) (alC C (cut n) 0)) (.call (c_s_sameDirection (dA (alA C (cut n) 0) (alB C (cut n) 0) (alC C (cut n) 0)) (dB (alA C (cut n) 0) (alB C (cut n) 0) (alC C (cut n) 0)) (dC (alA C (cut n) 0) (alB C (cut n) 0) (alC C (cut n) 0)) (rlA C (cut n) ((alP C (cut n) 0) + 1)) (rlB C (cut n) ((alP C (cut n) 0) + 1)) (rlC C (cut n) ((alP C (cut n) 0) + 1))) (.ite (.callH (c_s_meetLines (dA (alA C (cut n) 0) (alB C (cut n) 0) (alC C (cut n) 0)) (dB (alA C (cut n) 0) (alB C (cut n) 0) (alC C (cut n) 0)) (dC (alA C (cut n) 0) (alB C (cut n) 0) (alC C (cut n) 0)) (rlA C (cut n) ((alP C (cut n) 0) + 1)) (rlB C (cut n) ((alP C (cut n) 0) + 1)) (rlC C (cut n) ((alP C (cut n) 0) + 1))) .ret) (.call (c_anyRat C (cut n) (((alP C (cut n) 0) + 1) + 1 + 1 + 1 + 1)) (.call (c_anyRat C (cut n) (qP C (cut n) (((alP C (cut n) 0) + 1) + 1 + 1 + 1 + 1))) .ret)))))) (.call (c_anyRat C (cut n) ((alP C (cut n) 0) + 1)) (.call (c_anyRat C (cut n) (qP C (cut n) ((alP C (cut n) 0) + 1))) .ret))))))) (G := (0 ≤ n ∧ n ≤ 9223372036854775807) → (∀ e12 : E, ((0 ≤ e12.den ∧ e12.den < n) → (0 ≤ ((C (e12.den))) ∧ ((C (e12.den))) ≤ 255))) → ((n = n) ∧ (((n ≤ n) ∧ (∀ e1 : E, ((0 ≤ e1.den ∧ e1.den < n) → (((C (e1.den))) = ((C (e1.den))))))) ∧ (((((cut n) = (cut n)) ∧ ((0 : Int) = 0)) ∧ (((cut n) ≤ (cut n)) ∧ (∀ e2 : E, ((0 ≤ e2.den ∧ e2.den < (cut n)) → (((C (e2.den))) = ((C (e2.den)))))))) ∧ (((((cut n) = (cut n)) ∧ ((alP C (cut n) 0) = (alP C (cut n) 0))) ∧ (((cut n) ≤ (cut n)) ∧ (∀ e3 : E, ((0 ≤ e3.den ∧ e3.den < (cut n)) → (((C (e3.den))) = ((C (e3.den)))))))) ∧ ((((pk C (cut n) (alP C (cut n) 0) 3) = 0) → (((((cut n) = (cut n)) ∧ ((((alP C (cut n) 0) + 1) = ((alP C (cut n) 0) + 1)) ∧ ((0 ≤ ((alP C (cut n) 0) + 1) ∧ ((alP C (cut n) 0) + 1) ≤ 10000001) → (0 ≤ ((alP C (cut n) 0) + 1) ∧ ((alP C (cut n) 0) + 1) ≤ 9999800)))) ∧ (((cut n) ≤ (cut n)) ∧ (∀ e4 : E, ((0 ≤ e4.den ∧ e4.den < (cut n)) → (((C (e4.den))) = ((C (e4.den)))))))) ∧ ((((alA C (cut n) 0) = (alA C (cut n) 0)) ∧ (((alB C (cut n) 0) = (alB C (cut n) 0)) ∧ ((alC C (cut n) 0) = (alC C (cut n) 0)))) ∧ (((((dA (alA C (cut n) 0) (alB C (cut n) 0) (alC C (cut n) 0)) = (dA (alA C (cut n) 0) (alB C (cut n) 0) (alC C (cut n) 0))) ∧ (((dB (alA C (cut n) 0) (alB C (cut n) 0) (alC C (cut n) 0)) = (dB (alA C (cut n) 0) (alB C (cut n) 0) (alC C (cut n) 0))) ∧ ((dC (alA C (cut n) 0) (alB C (cut n) 0) (alC C (cut n) 0)) = (dC (alA C (cut n) 0) (alB C (cut n) 0) (alC C (cut n) 0))))) ∧ (((rlA C (cut n) ((alP C (cut n) 0) + 1)) = ((rlA C (cut n) ((alP C (cut n) 0) + 1)))) ∧ (((rlB C (cut n) ((alP C (cut n) 0) + 1)) = ((rlB C (cut n) ((alP C (cut n) 0) + 1)))) ∧ ((rlC C (cut n) ((alP C (cut n) 0) + 1)) = ((rlC C (cut n) ((alP C (cut n) 0) + 1))))))) ∧ ((((decide ((dA (alA C (cut n) 0) (alB C (cut n) 0) (alC C (cut n) 0)) * (rlB C (cut n) ((alP C (cut n) 0) + 1)) = (rlA C (cut n) ((alP C (cut n) 0) + 1)) * (dB (alA C (cut n) 0) (alB C (cut n) 0) (alC C (cut n) 0)))) = false) → (((dA (alA C (cut n) 0) (alB C (cut n) 0) (alC C (cut n) 0)) * (rlB C (cut n) ((alP C (cut n) 0) + 1)) - (rlA C (cut n) ((alP C (cut n) 0) + 1)) * (dB (alA C (cut n) 0) (alB C (cut n) 0) (alC C (cut n) 0)) ≠ 0) ∧ (((((dA (alA C (cut n) 0) (alB C (cut n) 0) (alC C (cut n) 0)) = (dA (alA C (cut n) 0) (alB C (cut n) 0) (alC C (cut n) 0))) ∧ (((dB (alA C (cut n) 0) (alB C (cut n) 0) (alC C (cut n) 0)) = (dB (alA C (cut n) 0) (alB C (cut n) 0) (alC C (cut n) 0))) ∧ ((dC (alA C (cut n) 0) (alB C (cut n) 0) (alC C (cut n) 0)) = (dC (alA C (cut n) 0) (alB C (cut n) 0) (alC C (cut n) 0))))) ∧ (((rlA C (cut n) ((alP C (cut n) 0) + 1)) = ((rlA C (cut n) ((alP C (cut n) 0) + 1)))) ∧ (((rlB C (cut n) ((alP C (cut n) 0) + 1)) = ((rlB C (cut n) ((alP C (cut n) 0) + 1)))) ∧ ((rlC C (cut n) ((alP C (cut n) 0) + 1)) = ((rlC C (cut n) ((alP C (cut n) 0) + 1))))))) ∧ (((((alA C (cut n) 0) = (a1 C n)) ∧ (((alB C (cut n) 0) = (a2 C n)) ∧ ((alC C (cut n) 0) = (a3 C n)))) ∧ (((redN ((dC (alA C (cut n) 0) (alB C (cut n) 0) (alC C (cut n) 0)) * (rlB C (cut n) ((alP C (cut n) 0) + 1)) - (rlC C (cut n) ((alP C (cut n) 0) + 1)) * (dB (alA C (cut n) 0) (alB C (cut n) 0) (alC C (cut n) 0))) ((dA (alA C (cut n) 0) (alB C (cut n) 0) (alC C (cut n) 0)) * (rlB C (cut n) ((alP C (cut n) 0) + 1)) - (rlA C (cut n) ((alP C (cut n) 0) + 1)) * (dB (alA C (cut n) 0) (alB C (cut n) 0) (alC C (cut n) 0)))) = (x1 C n)) ∧ (((redD ((dC (alA C (cut n) 0) (alB C (cut n) 0) (alC C (cut n) 0)) * (rlB C (cut n) ((alP C (cut n) 0) + 1)) - (rlC C (cut n) ((alP C (cut n) 0) + 1)) * (dB (alA C (cut n) 0) (alB C (cut n) 0) (alC C (cut n) 0))) ((dA (alA C (cut n) 0) (alB C (cut n) 0) (alC C (cut n) 0)) * (rlB C (cut n) ((alP C (cut n) 0) + 1)) - (rlA C (cut n) ((alP C (cut n) 0) + 1)) * (dB (alA C (cut n) 0) (alB C (cut n) 0) (alC C (cut n) 0)))) = (x2 C n)) ∧ (((redN ((dA (alA C (cut n) 0) (alB C (cut n) 0) (alC C (cut n) 0)) * (rlC C (cut n) ((alP C (cut n) 0) + 1)) - (rlA C (cut n) ((alP C (cut n) 0) + 1)) * (dC (alA C (cut n) 0) (alB C (cut n) 0) (alC C (cut n) 0))) ((dA (alA C (cut n) 0) (alB C (cut n) 0) (alC C (cut n) 0)) * (rlB C (cut n) ((alP C (cut n) 0) + 1)) - (rlA C (cut n) ((alP C (cut n) 0) + 1)) * (dB (alA C (cut n) 0) (alB C (cut n) 0) (alC C (cut n) 0)))) = (y1 C n)) ∧ ((redD ((dA (alA C (cut n) 0) (alB C (cut n) 0) (alC C (cut n) 0)) * (rlC C (cut n) ((alP C (cut n) 0) + 1)) - (rlA C (cut n) ((alP C (cut n) 0) + 1)) * (dC (alA C (cut n) 0) (alB C (cut n) 0) (alC C (cut n) 0))) ((dA (alA C (cut n) 0) (alB C (cut n) 0) (alC C (cut n) 0)) * (rlB C (cut n) ((alP C (cut n) 0) + 1)) - (rlA C (cut n) ((alP C (cut n) 0) + 1)) * (dB (alA C (cut n) 0) (alB C (cut n) 0) (alC C (cut n) 0)))) = (y2 C n)))))) ∧ (((cut n) ≤ (cut n)) ∧ (∀ e5 : E, ((0 ≤ e5.den ∧ e5.den < (cut n)) → (((C (e5.den))) = ((C (e5.den))))))))))) ∧ (((decide ((dA (alA C (cut n) 0) (alB C (cut n) 0) (alC C (cut n) 0)) * (rlB C (cut n) ((alP C (cut n) 0) + 1)) = (rlA C (cut n) ((alP C (cut n) 0) + 1)) * (dB (alA C (cut n) 0) (alB C (cut n) 0) (alC C (cut n) 0)))) = true) → (((((cut n) = (cut n)) ∧ (((((alP C (cut n) 0) + 1) + 1 + 1 + 1 + 1) = ((((alP C (cut n) 0) + 1) + 1 + 1 + 1 + 1))) ∧ ((0 ≤ (((alP C (cut n) 0) + 1) + 1 + 1 + 1 + 1) ∧ (((alP C (cut n) 0) + 1) + 1 + 1 + 1 + 1) ≤ 9999804) → (0 ≤ ((((alP C (cut n) 0) + 1) + 1 + 1 + 1 + 1)) ∧ ((((alP C (cut n) 0) + 1) + 1 + 1 + 1 + 1)) ≤ 9999800)))) ∧ (((cut n) ≤ (cut n)) ∧ (∀ e6 : E, ((0 ≤ e6.den ∧ e6.den < (cut n)) → (((C (e6.den))) = ((C (e6.den)))))))) ∧ (((((cut n) = (cut n)) ∧ (((qP C (cut n) (((alP C (cut n) 0) + 1) + 1 + 1 + 1 + 1)) = ((qP C (cut n) (((alP C (cut n) 0) + 1) + 1 + 1 + 1 + 1)))) ∧ ((0 ≤ (qP C (cut n) (((alP C (cut n) 0) + 1) + 1 + 1 + 1 + 1)) ∧ (qP C (cut n) (((alP C (cut n) 0) + 1) + 1 + 1 + 1 + 1)) ≤ 9999810) → (0 ≤ ((qP C (cut n) (((alP C (cut n) 0) + 1) + 1 + 1 + 1 + 1))) ∧ ((qP C (cut n) (((alP C (cut n) 0) + 1) + 1 + 1 + 1 + 1))) ≤ 9999800)))) ∧ (((cut n) ≤ (cut n)) ∧ (∀ e7 : E, ((0 ≤ e7.den ∧ e7.den < (cut n)) → (((C (e7.den))) = ((C (e7.den)))))))) ∧ (((((alA C (cut n) 0) = (a1 C n)) ∧ (((alB C (cut n) 0) = (a2 C n)) ∧ ((alC C (cut n) 0) = (a3 C n)))) ∧ (((qN C (cut n) (((alP C (cut n) 0) + 1) + 1 + 1 + 1 + 1)) = (x1 C n)) ∧ (((qD C (cut n) (((alP C (cut n) 0) + 1) + 1 + 1 + 1 + 1)) = (x2 C n)) ∧ (((qN C (cut n) (qP C (cut n) (((alP C (cut n) 0) + 1) + 1 + 1 + 1 + 1))) = (y1 C n)) ∧ ((qD C (cut n) (qP C (cut n) (((alP C (cut n) 0) + 1) + 1 + 1 + 1 + 1))) = (y2 C n)))))) ∧ (((cut n) ≤ (cut n)) ∧ (∀ e8 : E, ((0 ≤ e8.den ∧ e8.den < (cut n)) → (((C (e8.den))) = ((C (e8.den)))))))))))))))) ∧ (((pk C (cut n) (alP C (cut n) 0) 3) ≠ 0) → (((((cut n) = (cut n)) ∧ ((((alP C (cut n) 0) + 1) = ((alP C (cut n) 0) + 1)) ∧ ((0 ≤ ((alP C (cut n) 0) + 1) ∧ ((alP C (cut n) 0) + 1) ≤ 10000001) → (0 ≤ ((alP C (cut n) 0) + 1) ∧ ((alP C (cut n) 0) + 1) ≤ 9999800)))) ∧ (((cut n) ≤ (cut n)) ∧ (∀ e9 : E, ((0 ≤ e9.den ∧ e9.den < (cut n)) → (((C (e9.den))) = ((C (e9.den)))))))) ∧ (((((cut n) = (cut n)) ∧ (((qP C (cut n) ((alP C (cut n) 0) + 1)) = ((qP C (cut n) ((alP C (cut n) 0) + 1)))) ∧ ((0 ≤ (qP C (cut n) ((alP C (cut n) 0) + 1)) ∧ (qP C (cut n) ((alP C (cut n) 0) + 1)) ≤ 9999810) → (0 ≤ ((qP C (cut n) ((alP C (cut n) 0) + 1))) ∧ ((qP C (cut n) ((alP C (cut n) 0) + 1))) ≤ 9999800)))) ∧ (((cut n) ≤ (cut n)) ∧ (∀ e10 : E, ((0 ≤ e10.den ∧ e10.den < (cut n)) → (((C (e10.den))) = ((C (e10.den)))))))) ∧ (((((alA C (cut n) 0) = (a1 C n)) ∧ (((alB C (cut n) 0) = (a2 C n)) ∧ ((alC C (cut n) 0) = (a3 C n)))) ∧ (((qN C (cut n) ((alP C (cut n) 0) + 1)) = (x1 C n)) ∧ (((qD C (cut n) ((alP C (cut n) 0) + 1)) = (x2 C n)) ∧ (((qN C (cut n) (qP C (cut n) ((alP C (cut n) 0) + 1))) = (y1 C n)) ∧ ((qD C (cut n) (qP C (cut n) ((alP C (cut n) 0) + 1))) = (y2 C n)))))) ∧ (((cut n) ≤ (cut n)) ∧ (∀ e11 : E, ((0 ≤ e11.den ∧ e11.den < (cut n)) → (((C (e11.den))) = ((C (e11.den))))))))))))))))) (by kernel_rfl) ?_
  intro h1 h2
  have ha := alP_bd C (cut n) 0
  have hb := qP_bd C (cut n) (alP C (cut n) 0 + 1 + 1 + 1 + 1 + 1)
  have hc := qP_bd C (cut n) (alP C (cut n) 0 + 1)
  refine ⟨rfl, ⟨Int.le_refl _, fun _ => fun _ => rfl⟩, ⟨⟨rfl, rfl⟩, ⟨Int.le_refl _, fun _ => fun _ => rfl⟩⟩, ⟨⟨rfl, rfl⟩, ⟨Int.le_refl _, fun _ => fun _ => rfl⟩⟩, ?_, ?_⟩
  · intro c13
    refine ⟨?_, ⟨rfl, ⟨rfl, rfl⟩⟩, ⟨⟨rfl, ⟨rfl, rfl⟩⟩, ⟨rfl, ⟨rfl, rfl⟩⟩⟩, ?_, ?_⟩
    · refine ⟨?_, Int.le_refl _, fun _ => fun _ => rfl⟩
      refine ⟨rfl, rfl, ?_⟩
      intro c14
      -- 1: 0 ≤ ((alP C (cut n) 0) + 1) ∧ ((alP C (cut n) 0) + 1) ≤ 9999800
      first | rfl | omega | (simp_all [is0, isM, x1, x2, y1, y2, ps, kA, kB, kC, mA, mB, mC, e0, a1, a2, a3]; done) | (simp_all [is0, isM, x1, x2, y1, y2, ps, kA, kB, kC, mA, mB, mC, e0, a1, a2, a3]; omega) | fail
    · intro c15
      refine ⟨?_, ⟨⟨rfl, ⟨rfl, rfl⟩⟩, ⟨rfl, ⟨rfl, rfl⟩⟩⟩, ?_, Int.le_refl _, fun _ => fun _ => rfl⟩
        -- 2: (dA (alA C (cut n) 0) (alB C (cut n) 0) (alC C (cut n) 0)) * (rlB C (cut n) ((alP C (cut n) 0) + 1))
      · first | rfl | omega | (simp_all [is0, isM, x1, x2, y1, y2, ps, kA, kB, kC, mA, mB, mC, e0, a1, a2, a3]; done) | (simp_all [is0, isM, x1, x2, y1, y2, ps, kA, kB, kC, mA, mB, mC, e0, a1, a2, a3]; omega) | fail
      · refine ⟨?_, ?_, ?_, ?_, ?_⟩
        · refine ⟨?_, ?_, ?_⟩
            -- 3: (alA C (cut n) 0) = (a1 C n)
          · first | rfl | omega | (simp_all [is0, isM, x1, x2, y1, y2, ps, kA, kB, kC, mA, mB, mC, e0, a1, a2, a3]; done) | (simp_all [is0, isM, x1, x2, y1, y2, ps, kA, kB, kC, mA, mB, mC, e0, a1, a2, a3]; omega) | fail
            -- 4: (alB C (cut n) 0) = (a2 C n)
          · first | rfl | omega | (simp_all [is0, isM, x1, x2, y1, y2, ps, kA, kB, kC, mA, mB, mC, e0, a1, a2, a3]; done) | (simp_all [is0, isM, x1, x2, y1, y2, ps, kA, kB, kC, mA, mB, mC, e0, a1, a2, a3]; omega) | fail
            -- 5: (alC C (cut n) 0) = (a3 C n)
          · first | rfl | omega | (simp_all [is0, isM, x1, x2, y1, y2, ps, kA, kB, kC, mA, mB, mC, e0, a1, a2, a3]; done) | (simp_all [is0, isM, x1, x2, y1, y2, ps, kA, kB, kC, mA, mB, mC, e0, a1, a2, a3]; omega) | fail
          -- 6: (redN ((dC (alA C (cut n) 0) (alB C (cut n) 0) (alC C (cut n) 0)) * (rlB C (cut n) ((alP C (cut n) 0
        · first | rfl | omega | (simp_all [is0, isM, x1, x2, y1, y2, ps, kA, kB, kC, mA, mB, mC, e0, a1, a2, a3]; done) | (simp_all [is0, isM, x1, x2, y1, y2, ps, kA, kB, kC, mA, mB, mC, e0, a1, a2, a3]; omega) | fail
          -- 7: (redD ((dC (alA C (cut n) 0) (alB C (cut n) 0) (alC C (cut n) 0)) * (rlB C (cut n) ((alP C (cut n) 0
        · first | rfl | omega | (simp_all [is0, isM, x1, x2, y1, y2, ps, kA, kB, kC, mA, mB, mC, e0, a1, a2, a3]; done) | (simp_all [is0, isM, x1, x2, y1, y2, ps, kA, kB, kC, mA, mB, mC, e0, a1, a2, a3]; omega) | fail
          -- 8: (redN ((dA (alA C (cut n) 0) (alB C (cut n) 0) (alC C (cut n) 0)) * (rlC C (cut n) ((alP C (cut n) 0
        · first | rfl | omega | (simp_all [is0, isM, x1, x2, y1, y2, ps, kA, kB, kC, mA, mB, mC, e0, a1, a2, a3]; done) | (simp_all [is0, isM, x1, x2, y1, y2, ps, kA, kB, kC, mA, mB, mC, e0, a1, a2, a3]; omega) | fail
          -- 9: (redD ((dA (alA C (cut n) 0) (alB C (cut n) 0) (alC C (cut n) 0)) * (rlC C (cut n) ((alP C (cut n) 0
        · first | rfl | omega | (simp_all [is0, isM, x1, x2, y1, y2, ps, kA, kB, kC, mA, mB, mC, e0, a1, a2, a3]; done) | (simp_all [is0, isM, x1, x2, y1, y2, ps, kA, kB, kC, mA, mB, mC, e0, a1, a2, a3]; omega) | fail
    · intro c16
      refine ⟨?_, ?_, ?_, Int.le_refl _, fun _ => fun _ => rfl⟩
      · refine ⟨?_, Int.le_refl _, fun _ => fun _ => rfl⟩
        refine ⟨rfl, rfl, ?_⟩
        intro c17
        -- 10: 0 ≤ ((((alP C (cut n) 0) + 1) + 1 + 1 + 1 + 1)) ∧ ((((alP C (cut n) 0) + 1) + 1 + 1 + 1 + 1)) ≤ 9999
        first | rfl | omega | (simp_all [is0, isM, x1, x2, y1, y2, ps, kA, kB, kC, mA, mB, mC, e0, a1, a2, a3]; done) | (simp_all [is0, isM, x1, x2, y1, y2, ps, kA, kB, kC, mA, mB, mC, e0, a1, a2, a3]; omega) | fail
      · refine ⟨?_, Int.le_refl _, fun _ => fun _ => rfl⟩
        refine ⟨rfl, rfl, ?_⟩
        intro c18
        -- 11: 0 ≤ ((qP C (cut n) (((alP C (cut n) 0) + 1) + 1 + 1 + 1 + 1))) ∧ ((qP C (cut n) (((alP C (cut n) 0) 
        first | rfl | omega | (simp_all [is0, isM, x1, x2, y1, y2, ps, kA, kB, kC, mA, mB, mC, e0, a1, a2, a3]; done) | (simp_all [is0, isM, x1, x2, y1, y2, ps, kA, kB, kC, mA, mB, mC, e0, a1, a2, a3]; omega) | fail
      · refine ⟨?_, ?_, ?_, ?_, ?_⟩
        · refine ⟨?_, ?_, ?_⟩
            -- 12: (alA C (cut n) 0) = (a1 C n)
          · first | rfl | omega | (simp_all [is0, isM, x1, x2, y1, y2, ps, kA, kB, kC, mA, mB, mC, e0, a1, a2, a3]; done) | (simp_all [is0, isM, x1, x2, y1, y2, ps, kA, kB, kC, mA, mB, mC, e0, a1, a2, a3]; omega) | fail
            -- 13: (alB C (cut n) 0) = (a2 C n)
          · first | rfl | omega | (simp_all [is0, isM, x1, x2, y1, y2, ps, kA, kB, kC, mA, mB, mC, e0, a1, a2, a3]; done) | (simp_all [is0, isM, x1, x2, y1, y2, ps, kA, kB, kC, mA, mB, mC, e0, a1, a2, a3]; omega) | fail
            -- 14: (alC C (cut n) 0) = (a3 C n)
          · first | rfl | omega | (simp_all [is0, isM, x1, x2, y1, y2, ps, kA, kB, kC, mA, mB, mC, e0, a1, a2, a3]; done) | (simp_all [is0, isM, x1, x2, y1, y2, ps, kA, kB, kC, mA, mB, mC, e0, a1, a2, a3]; omega) | fail
          -- 15: (qN C (cut n) (((alP C (cut n) 0) + 1) + 1 + 1 + 1 + 1)) = (x1 C n)
        · first | rfl | omega | (simp_all [is0, isM, x1, x2, y1, y2, ps, kA, kB, kC, mA, mB, mC, e0, a1, a2, a3]; done) | (simp_all [is0, isM, x1, x2, y1, y2, ps, kA, kB, kC, mA, mB, mC, e0, a1, a2, a3]; omega) | fail
          -- 16: (qD C (cut n) (((alP C (cut n) 0) + 1) + 1 + 1 + 1 + 1)) = (x2 C n)
        · first | rfl | omega | (simp_all [is0, isM, x1, x2, y1, y2, ps, kA, kB, kC, mA, mB, mC, e0, a1, a2, a3]; done) | (simp_all [is0, isM, x1, x2, y1, y2, ps, kA, kB, kC, mA, mB, mC, e0, a1, a2, a3]; omega) | fail
          -- 17: (qN C (cut n) (qP C (cut n) (((alP C (cut n) 0) + 1) + 1 + 1 + 1 + 1))) = (y1 C n)
        · first | rfl | omega | (simp_all [is0, isM, x1, x2, y1, y2, ps, kA, kB, kC, mA, mB, mC, e0, a1, a2, a3]; done) | (simp_all [is0, isM, x1, x2, y1, y2, ps, kA, kB, kC, mA, mB, mC, e0, a1, a2, a3]; omega) | fail
          -- 18: (qD C (cut n) (qP C (cut n) (((alP C (cut n) 0) + 1) + 1 + 1 + 1 + 1))) = (y2 C n)
        · first | rfl | omega | (simp_all [is0, isM, x1, x2, y1, y2, ps, kA, kB, kC, mA, mB, mC, e0, a1, a2, a3]; done) | (simp_all [is0, isM, x1, x2, y1, y2, ps, kA, kB, kC, mA, mB, mC, e0, a1, a2, a3]; omega) | fail
  · intro c19
    refine ⟨?_, ?_, ?_, Int.le_refl _, fun _ => fun _ => rfl⟩
    · refine ⟨?_, Int.le_refl _, fun _ => fun _ => rfl⟩
      refine ⟨rfl, rfl, ?_⟩
      intro c20
      -- 19: 0 ≤ ((alP C (cut n) 0) + 1) ∧ ((alP C (cut n) 0) + 1) ≤ 9999800
      first | rfl | omega | (simp_all [is0, isM, x1, x2, y1, y2, ps, kA, kB, kC, mA, mB, mC, e0, a1, a2, a3]; done) | (simp_all [is0, isM, x1, x2, y1, y2, ps, kA, kB, kC, mA, mB, mC, e0, a1, a2, a3]; omega) | fail
    · refine ⟨?_, Int.le_refl _, fun _ => fun _ => rfl⟩
      refine ⟨rfl, rfl, ?_⟩
      intro c21
      -- 20: 0 ≤ ((qP C (cut n) ((alP C (cut n) 0) + 1))) ∧ ((qP C (cut n) ((alP C (cut n) 0) + 1))) ≤ 9999800
      first | rfl | omega | (simp_all [is0, isM, x1, x2, y1, y2, ps, kA, kB, kC, mA, mB, mC, e0, a1, a2, a3]; done) | (simp_all [is0, isM, x1, x2, y1, y2, ps, kA, kB, kC, mA, mB, mC, e0, a1, a2, a3]; omega) | fail
    · refine ⟨?_, ?_, ?_, ?_, ?_⟩
      · refine ⟨?_, ?_, ?_⟩
          -- 21: (alA C (cut n) 0) = (a1 C n)
        · first | rfl | omega | (simp_all [is0, isM, x1, x2, y1, y2, ps, kA, kB, kC, mA, mB, mC, e0, a1, a2, a3]; done) | (simp_all [is0, isM, x1, x2, y1, y2, ps, kA, kB, kC, mA, mB, mC, e0, a1, a2, a3]; omega) | fail
          -- 22: (alB C (cut n) 0) = (a2 C n)
        · first | rfl | omega | (simp_all [is0, isM, x1, x2, y1, y2, ps, kA, kB, kC, mA, mB, mC, e0, a1, a2, a3]; done) | (simp_all [is0, isM, x1, x2, y1, y2, ps, kA, kB, kC, mA, mB, mC, e0, a1, a2, a3]; omega) | fail
          -- 23: (alC C (cut n) 0) = (a3 C n)
        · first | rfl | omega | (simp_all [is0, isM, x1, x2, y1, y2, ps, kA, kB, kC, mA, mB, mC, e0, a1, a2, a3]; done) | (simp_all [is0, isM, x1, x2, y1, y2, ps, kA, kB, kC, mA, mB, mC, e0, a1, a2, a3]; omega) | fail
        -- 24: (qN C (cut n) ((alP C (cut n) 0) + 1)) = (x1 C n)
      · first | rfl | omega | (simp_all [is0, isM, x1, x2, y1, y2, ps, kA, kB, kC, mA, mB, mC, e0, a1, a2, a3]; done) | (simp_all [is0, isM, x1, x2, y1, y2, ps, kA, kB, kC, mA, mB, mC, e0, a1, a2, a3]; omega) | fail
        -- 25: (qD C (cut n) ((alP C (cut n) 0) + 1)) = (x2 C n)
      · first | rfl | omega | (simp_all [is0, isM, x1, x2, y1, y2, ps, kA, kB, kC, mA, mB, mC, e0, a1, a2, a3]; done) | (simp_all [is0, isM, x1, x2, y1, y2, ps, kA, kB, kC, mA, mB, mC, e0, a1, a2, a3]; omega) | fail
        -- 26: (qN C (cut n) (qP C (cut n) ((alP C (cut n) 0) + 1))) = (y1 C n)
      · first | rfl | omega | (simp_all [is0, isM, x1, x2, y1, y2, ps, kA, kB, kC, mA, mB, mC, e0, a1, a2, a3]; done) | (simp_all [is0, isM, x1, x2, y1, y2, ps, kA, kB, kC, mA, mB, mC, e0, a1, a2, a3]; omega) | fail
        -- 27: (qD C (cut n) (qP C (cut n) ((alP C (cut n) 0) + 1))) = (y2 C n)
      · first | rfl | omega | (simp_all [is0, isM, x1, x2, y1, y2, ps, kA, kB, kC, mA, mB, mC, e0, a1, a2, a3]; done) | (simp_all [is0, isM, x1, x2, y1, y2, ps, kA, kB, kC, mA, mB, mC, e0, a1, a2, a3]; omega) | fail
def c_s_DrawSideOfRat (C : Int → Int) (n : Int) : Cn Try.prog := ⟨_, _, _, _, _, s_DrawSideOfRat C n⟩
theorem whole_law {a b c x y : Int} (h : okL a b c = true) (hx : -1000 ≤ x ∧ x ≤ 1000) (hy : -1000 ≤ y ∧ y ≤ 1000) : sorL a b c x 1 y 1 = sideL a b c x y := by
  have e : ∀ z : Int, gcdI z 1 = 1 := fun z => by unfold gcdI; simp
  have k : ∀ z : Int, -1000 ≤ z ∧ z ≤ 1000 → okR z 1 = true := fun z hz => okR_of (by omega) (by omega) (e z)
  have hs : sorOK a b c x 1 y 1 = true := by
    unfold sorOK
    rw [h, k x hx, k y hy, e 1]
    have : (1 : Int) / 1 * 1 ≤ 20000000 := by decide
    rw [decide_eq_true this, decide_eq_true (show absI x ≤ 10000 * 1 by unfold absI; omega), decide_eq_true (show absI y ≤ 10000 * 1 by unfold absI; omega)]
    rfl
  have hp : okP x y = true := okP_iff.2 (by omega)
  unfold sorL sideL
  rw [if_pos hs, h, hp, e 1]
  simp
theorem l_whole (qX : Int) (qY : Int) : RunsTo Try.prog 34 [(.agg [(.int .i64 (.v fun _ => qX) (-4000) 4000), (.int .i64 (.v fun _ => qY) (-4000) 4000)])] [] (.agg [(.int .i64 (.v fun _ => qX) (-4000) 4000), (.int .i64 (.v fun _ => 1) 1 1), (.int .i64 (.v fun _ => qY) (-4000) 4000), (.int .i64 (.v fun _ => 1) 1 1)]) [] := by
  refine RunsTo.go env Try.func34 rfl Try.call34 rfl rfl (fun _ _ => .ret) (G := (((-4000) ≤ qX ∧ qX ≤ 4000) ∧ ((-4000) ≤ qY ∧ qY ≤ 4000)) → (True) → ((qX = qX) ∧ (((1 : Int) = 1) ∧ ((qY = qY) ∧ ((1 : Int) = 1))))) (by kernel_rfl) ?_
  intro h1 h2
  exact ⟨rfl, ⟨rfl, ⟨rfl, rfl⟩⟩⟩
def c_l_whole (qX : Int) (qY : Int) : Cn Try.prog := ⟨_, _, _, _, _, l_whole qX qY⟩
theorem tm50 {m : Int} (h : 0 ≤ m) : (-1000 ≤ Int.tmod m 50 - 20 ∧ Int.tmod m 50 - 20 ≤ 1000) ∧ (-1000 ≤ Int.tmod (Int.tdiv m 7) 50 - 20 ∧ Int.tmod (Int.tdiv m 7) 50 - 20 ≤ 1000) := by
  have a := Int.tmod_nonneg 50 h
  have b := Int.tmod_lt_of_pos m (show (0 : Int) < 50 by decide)
  have h2 := Int.tdiv_nonneg h (show (0 : Int) ≤ 7 by decide)
  have c := Int.tmod_nonneg 50 h2
  have d := Int.tmod_lt_of_pos (Int.tdiv m 7) (show (0 : Int) < 50 by decide)
  omega
theorem l_FnSideOfRat (C : Int → Int) (n : Int) (D : Int → Int) (m : Int) : RunsTo Try.prog 7 [(.sl 0 1 (.lit 0) (.v fun _ => n) 9223372036854775807), (.sl 1 1 (.lit 0) (.v fun _ => m) 9223372036854775807)] [some ⟨5, 1, false, (.sym (.v fun _ => n) fun e => [(.int .u8 (.v fun _ => (C (e.den))) 0 255)])⟩, some ⟨5, 1, false, (.sym (.v fun _ => m) fun e => [(.int .u8 (.v fun _ => (D (e.den))) 0 255)])⟩] (.bool (.lit true)) [none, none] := by
  refine RunsTo.go env Try.func7 rfl Try.call7 rfl rfl (fun _ _ => (.ite .ret (.ite .ret (.callF (c_s_DrawSideOfRat C n) (.callF (c_i_SideOfRat (a1 C n) (a2 C n) (a3 C n) (x1 C n) (x2 C n) (y1 C n) (y2 C n)) (.callF (c_s_SideOfRat (a1 C n) (a2 C n) (a3 C n) (x1 C n) (x2 C n) (y1 C n) (y2 C n)) (.ite (.callF (c_s_SideOfRat (a1 C n) (a2 C n) (a3 C n) (x1 C n) (x2 C n) (y1 C n) (y2 C n)) .ret) (.call (c_i_ValidLine (a1 C n) (a2 C n) (a3 C n)) (.ite (.callF (c_s_SideOfRat (a1 C n) (a2 C n) (a3 C n) (x1 C n) (x2 C n) (y1 C n) (y2 C n)) .ret) (.call (c_l_whole ((Int.tmod m 50) - 20) ((Int.tmod (Int.tdiv m 7) 50) - 20)) (.call (c_i_SideOfRat (a1 C n) (a2 C n) (a3 C n) ((Int.tmod m 50) - 20) 1 ((Int.tmod (Int.tdiv m 7) 50) - 20) 1) (.callF (c_i_SideOf (a1 C n) (a2 C n) (a3 C n) ((Int.tmod m 50) - 20) ((Int.tmod (Int.tdiv m 7) 50) - 20)) .ret)))))))))))) (G := ((0 ≤ n ∧ n ≤ 9223372036854775807) ∧ (0 ≤ m ∧ m ≤ 9223372036854775807)) → ((∀ e3 : E, ((0 ≤ e3.den ∧ e3.den < n) → (0 ≤ ((C (e3.den))) ∧ ((C (e3.den))) ≤ 255))) ∧ (∀ e2 : E, ((0 ≤ e2.den ∧ e2.den < m) → (0 ≤ ((D (e2.den))) ∧ ((D (e2.den))) ≤ 255)))) → ((n ≤ 1048576) → ((m ≤ 1048576) → ((n = n) ∧ (((n ≤ n) ∧ (∀ e1 : E, ((0 ≤ e1.den ∧ e1.den < n) → (((C (e1.den))) = ((C (e1.den))))))) ∧ (((((-10000000) ≤ (a1 C n) ∧ (a1 C n) ≤ 10000000) ∧ (((-10000000) ≤ (a2 C n) ∧ (a2 C n) ≤ 10000000) ∧ ((-10000000) ≤ (a3 C n) ∧ (a3 C n) ≤ 10000000))) ∧ (((-4000000000000000000) ≤ (x1 C n) ∧ (x1 C n) ≤ 4000000000000000000) ∧ (((-4000000000000000000) ≤ (x2 C n) ∧ (x2 C n) ≤ 4000000000000000000) ∧ (((-4000000000000000000) ≤ (y1 C n) ∧ (y1 C n) ≤ 4000000000000000000) ∧ ((-4000000000000000000) ≤ (y2 C n) ∧ (y2 C n) ≤ 4000000000000000000))))) → (((((a1 C n) = (a1 C n)) ∧ (((a2 C n) = (a2 C n)) ∧ ((a3 C n) = (a3 C n)))) ∧ (((x1 C n) = (x1 C n)) ∧ (((x2 C n) = (x2 C n)) ∧ (((y1 C n) = (y1 C n)) ∧ ((y2 C n) = (y2 C n)))))) ∧ (((-1) ≤ (sorL (a1 C n) (a2 C n) (a3 C n) (x1 C n) (x2 C n) (y1 C n) (y2 C n)) ∧ (sorL (a1 C n) (a2 C n) (a3 C n) (x1 C n) (x2 C n) (y1 C n) (y2 C n)) ≤ 2) → (((((a1 C n) = (a1 C n)) ∧ (((a2 C n) = (a2 C n)) ∧ ((a3 C n) = (a3 C n)))) ∧ (((x1 C n) = (x1 C n)) ∧ (((x2 C n) = (x2 C n)) ∧ (((y1 C n) = (y1 C n)) ∧ ((y2 C n) = (y2 C n)))))) ∧ (((-1) ≤ (sorL (a1 C n) (a2 C n) (a3 C n) (x1 C n) (x2 C n) (y1 C n) (y2 C n)) ∧ (sorL (a1 C n) (a2 C n) (a3 C n) (x1 C n) (x2 C n) (y1 C n) (y2 C n)) ≤ 2) → ((((sorL (a1 C n) (a2 C n) (a3 C n) (x1 C n) (x2 C n) (y1 C n) (y2 C n)) ≠ (sorL (a1 C n) (a2 C n) (a3 C n) (x1 C n) (x2 C n) (y1 C n) (y2 C n))) → (((((a1 C n) = (a1 C n)) ∧ (((a2 C n) = (a2 C n)) ∧ ((a3 C n) = (a3 C n)))) ∧ (((x1 C n) = (x1 C n)) ∧ (((x2 C n) = (x2 C n)) ∧ (((y1 C n) = (y1 C n)) ∧ ((y2 C n) = (y2 C n)))))) ∧ (((-1) ≤ (sorL (a1 C n) (a2 C n) (a3 C n) (x1 C n) (x2 C n) (y1 C n) (y2 C n)) ∧ (sorL (a1 C n) (a2 C n) (a3 C n) (x1 C n) (x2 C n) (y1 C n) (y2 C n)) ≤ 2) → ((sorL (a1 C n) (a2 C n) (a3 C n) (x1 C n) (x2 C n) (y1 C n) (y2 C n)) = (sorL (a1 C n) (a2 C n) (a3 C n) (x1 C n) (x2 C n) (y1 C n) (y2 C n)))))) ∧ (((sorL (a1 C n) (a2 C n) (a3 C n) (x1 C n) (x2 C n) (y1 C n) (y2 C n)) = (sorL (a1 C n) (a2 C n) (a3 C n) (x1 C n) (x2 C n) (y1 C n) (y2 C n))) → ((((a1 C n) = (a1 C n)) ∧ (((a2 C n) = (a2 C n)) ∧ ((a3 C n) = (a3 C n)))) ∧ ((((okL (a1 C n) (a2 C n) (a3 C n)) = false) → (((((a1 C n) = (a1 C n)) ∧ (((a2 C n) = (a2 C n)) ∧ ((a3 C n) = (a3 C n)))) ∧ (((x1 C n) = (x1 C n)) ∧ (((x2 C n) = (x2 C n)) ∧ (((y1 C n) = (y1 C n)) ∧ ((y2 C n) = (y2 C n)))))) ∧ (((-1) ≤ (sorL (a1 C n) (a2 C n) (a3 C n) (x1 C n) (x2 C n) (y1 C n) (y2 C n)) ∧ (sorL (a1 C n) (a2 C n) (a3 C n) (x1 C n) (x2 C n) (y1 C n) (y2 C n)) ≤ 2) → ((sorL (a1 C n) (a2 C n) (a3 C n) (x1 C n) (x2 C n) (y1 C n) (y2 C n)) = (sorL (a1 C n) (a2 C n) (a3 C n) (x1 C n) (x2 C n) (y1 C n) (y2 C n)))))) ∧ (((okL (a1 C n) (a2 C n) (a3 C n)) = true) → (((((Int.tmod m 50) - 20) = ((Int.tmod m 50) - 20)) ∧ (((Int.tmod (Int.tdiv m 7) 50) - 20) = ((Int.tmod (Int.tdiv m 7) 50) - 20))) ∧ (((((a1 C n) = (a1 C n)) ∧ (((a2 C n) = (a2 C n)) ∧ ((a3 C n) = (a3 C n)))) ∧ ((((Int.tmod m 50) - 20) = ((Int.tmod m 50) - 20)) ∧ (((1 : Int) = 1) ∧ ((((Int.tmod (Int.tdiv m 7) 50) - 20) = ((Int.tmod (Int.tdiv m 7) 50) - 20)) ∧ ((1 : Int) = 1))))) ∧ (((((a1 C n) = (a1 C n)) ∧ (((a2 C n) = (a2 C n)) ∧ ((a3 C n) = (a3 C n)))) ∧ ((((Int.tmod m 50) - 20) = ((Int.tmod m 50) - 20)) ∧ (((Int.tmod (Int.tdiv m 7) 50) - 20) = ((Int.tmod (Int.tdiv m 7) 50) - 20)))) ∧ (((-1) ≤ (sideL (a1 C n) (a2 C n) (a3 C n) ((Int.tmod m 50) - 20) ((Int.tmod (Int.tdiv m 7) 50) - 20)) ∧ (sideL (a1 C n) (a2 C n) (a3 C n) ((Int.tmod m 50) - 20) ((Int.tmod (Int.tdiv m 7) 50) - 20)) ≤ 2) → ((sorL (a1 C n) (a2 C n) (a3 C n) ((Int.tmod m 50) - 20) 1 ((Int.tmod (Int.tdiv m 7) 50) - 20) 1) = (sideL (a1 C n) (a2 C n) (a3 C n) ((Int.tmod m 50) - 20) ((Int.tmod (Int.tdiv m 7) 50) - 20)))))))))))))))))))))) (by kernel_rfl) ?_
  intro h1 h2
  intro c4
  intro c5
  refine ⟨rfl, ⟨Int.le_refl _, fun _ => fun _ => rfl⟩, ?_⟩
  intro c6
  refine ⟨⟨⟨rfl, ⟨rfl, rfl⟩⟩, ⟨rfl, ⟨rfl, ⟨rfl, rfl⟩⟩⟩⟩, ?_⟩
  intro c7
  refine ⟨⟨⟨rfl, ⟨rfl, rfl⟩⟩, ⟨rfl, ⟨rfl, ⟨rfl, rfl⟩⟩⟩⟩, ?_⟩
  intro c8
  refine ⟨?_, ?_⟩
  · intro c9
    refine ⟨⟨⟨rfl, ⟨rfl, rfl⟩⟩, ⟨rfl, ⟨rfl, ⟨rfl, rfl⟩⟩⟩⟩, ?_⟩
    intro c10
    -- 1: (sorL (a1 C n) (a2 C n) (a3 C n) (x1 C n) (x2 C n) (y1 C n) (y2 C n)) = (sorL (a1 C n) (a2 C n) (a3 
    first | rfl | omega | (have ht := tm50 (m := m) (by omega); have hw := whole_law (a := a1 C n) (b := a2 C n) (c := a3 C n) (by assumption) ht.1 ht.2; first | exact hw | omega) | (simp_all; done) | fail
  · intro c11
    refine ⟨⟨rfl, ⟨rfl, rfl⟩⟩, ?_, ?_⟩
    · intro c12
      refine ⟨⟨⟨rfl, ⟨rfl, rfl⟩⟩, ⟨rfl, ⟨rfl, ⟨rfl, rfl⟩⟩⟩⟩, ?_⟩
      intro c13
      -- 2: (sorL (a1 C n) (a2 C n) (a3 C n) (x1 C n) (x2 C n) (y1 C n) (y2 C n)) = (sorL (a1 C n) (a2 C n) (a3 
      first | rfl | omega | (have ht := tm50 (m := m) (by omega); have hw := whole_law (a := a1 C n) (b := a2 C n) (c := a3 C n) (by assumption) ht.1 ht.2; first | exact hw | omega) | (simp_all; done) | fail
    · intro c14
      refine ⟨⟨rfl, rfl⟩, ⟨⟨rfl, ⟨rfl, rfl⟩⟩, ⟨rfl, ⟨rfl, ⟨rfl, rfl⟩⟩⟩⟩, ⟨⟨rfl, ⟨rfl, rfl⟩⟩, ⟨rfl, rfl⟩⟩, ?_⟩
      intro c15
      -- 3: (sorL (a1 C n) (a2 C n) (a3 C n) ((Int.tmod m 50) - 20) 1 ((Int.tmod (Int.tdiv m 7) 50) - 20) 1) = (
      first | rfl | omega | (have ht := tm50 (m := m) (by omega); have hw := whole_law (a := a1 C n) (b := a2 C n) (c := a3 C n) (by assumption) ht.1 ht.2; first | exact hw | omega) | (simp_all; done) | fail
def c_l_FnSideOfRat (C : Int → Int) (n : Int) (D : Int → Int) (m : Int) : Cn Try.prog := ⟨_, _, _, _, _, l_FnSideOfRat C n D m⟩
end Go.Proofs.Ytoielngedkbmbaa
