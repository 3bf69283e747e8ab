/- SpanningTree of the program. -/
import Derived.Test.YtcfkpdjbjfnnmaaK69
set_option linter.unusedSimpArgs false
set_option linter.unusedVariables false
set_option maxRecDepth 100000
namespace Go.Proofs.Ytcfkpdjbjfnnmaa
open Go.Sym
theorem sp_srt {X Y A B : Int → Int} {n : Int} (hl : listB X Y n = true) (hn : 0 ≤ n) (h : mrgP X Y (sA (prsL n n (n + 1))) (sB (prsL n n (n + 1))) A B 0 (lenP (prsL n n (n + 1)))) :
    Srt X Y A B n (lenP (prsL n n (n + 1))) ∧ okP4 X Y n ∧ (n ≤ 20 ∧ lenP (prsL n n (n + 1)) ≤ 320) ∧ (n ≤ 1 → lenP (prsL n n (n + 1)) = 0) ∧ 0 ≤ lenP (prsL n n (n + 1)) := by
  have h20 := listB_n hl
  refine ⟨prs_srt hn h, fun i h0 h1 => by have := listB_bd hl h0 h1; omega, ⟨h20, prs_cnt hn h20⟩, fun h1 => ?_, lenP_nn _⟩
  refine Classical.byContradiction fun hc => ?_
  have h2 := lenP_nn (prsL n n (n + 1))
  have := (prsL_mem hn).1 (s_mem (l := prsL n n (n + 1)) (i := 0) (by omega) (by omega))
  omega
theorem sp_rq {X Y : Int → Int} {n : Int} (hl : listB X Y n = true) (hn : 0 ≤ n) : edR (sA (prsL n n (n + 1))) (sB (prsL n n (n + 1))) n (lenP (prsL n n (n + 1))) ∧ lexS (zp (sA (prsL n n (n + 1))) (sB (prsL n n (n + 1)))) 0 (lenP (prsL n n (n + 1))) ∧ lenP (prsL n n (n + 1)) ≤ 320 :=
  ⟨fun i h0 h1 => by have := (prsL_mem hn).1 (s_mem h0 h1); omega, prs_lex hn, prs_cnt hn (listB_n hl)⟩
section
variable {X Y A B : Int → Int} {n m j : Int}
theorem kq_rt (h : Srt X Y A B n m) (h0 : 0 ≤ j) (h1 : j < m) (h4 : m ≤ 320) : (rt (lFi X Y A B 4000 j) (A j) = rt (lFi X Y A B 4000 j) (B j)) ↔ kq X Y A B j = false := by
  have hr := h.edR j h0 h1
  have := (lF_ok (X := X) (Y := Y) (most := 4000) h.edR j.toNat (by omega) (by omega)).2 (A j) (B j) hr.1 hr.2
  unfold kq
  rw [Bool.not_eq_false', decide_eq_true_eq]
  exact this
theorem kq_bd (_h : Srt X Y A B n m) (h0 : 0 ≤ j) : 0 ≤ len' (fl (kq X Y A B) j) ∧ len' (fl (kq X Y A B) j) ≤ j := fl_bd _ h0
theorem kq_y (h : Srt X Y A B n m) (h0 : 0 ≤ j) (h1 : j < m) (h4 : m ≤ 320) (hr : (!(decide (rt (lFi X Y A B 4000 j) (A j) = rt (lFi X Y A B 4000 j) (B j)))) = true) : fl (kq X Y A B) (j + 1) = fl (kq X Y A B) j ++ [j] := by
  refine fl_yes h0 ?_
  rw [Bool.not_eq_true', decide_eq_false_iff_not, kq_rt h h0 h1 h4] at hr
  simpa using hr
theorem kq_n (h : Srt X Y A B n m) (h0 : 0 ≤ j) (h1 : j < m) (h4 : m ≤ 320) (hr : (!(decide (rt (lFi X Y A B 4000 j) (A j) = rt (lFi X Y A B 4000 j) (B j)))) = false) : fl (kq X Y A B) (j + 1) = fl (kq X Y A B) j := by
  refine fl_no h0 ?_
  rw [Bool.not_eq_false', decide_eq_true_eq, kq_rt h h0 h1 h4] at hr
  exact hr
theorem lFi_4 (hP : okP4 X Y n) (h : Srt X Y A B n m) (h0 : 0 ≤ j) (h1 : j < m) (t : Int) : jnF (lFi X Y A B 4000 j) (A j) (B j) t = lFi X Y A B 4000 (j + 1) t := by
  have hr := h.edR j h0 h1
  exact (lFi_yes h0 (mht_bd hP hr.1 hr.2).2 t).symm
theorem lFi_bd (h : Srt X Y A B n m) (h0 : 0 ≤ j) (h1 : j ≤ m) (h4 : m ≤ 320) {t : Int} (t0 : 0 ≤ t) (t1 : t < n) : 0 ≤ lFi X Y A B 4000 j t ∧ lFi X Y A B 4000 j t < n := (lF_R (X := X) (Y := Y) (most := 4000) h.edR h1 (by omega) h0).1 t t0 t1
end
theorem i_SpanningTree (X : Int → Int) (Y : Int → Int) (n : Int) : RunsTo Try.prog 36 [(.sl 0 2 (.lit 0) (.v fun _ => n) 1048576)] [some ⟨50, 2, true, (.sym (.v fun _ => n) fun e => [(.int .i64 (.v fun _ => (X (e.den))) (-9223372036854775808) 9223372036854775807), (.int .i64 (.v fun _ => (Y (e.den))) (-9223372036854775808) 9223372036854775807)])⟩] (.sl 1 2 (.lit 0) (.v fun _ => ssN X Y n) 1048576) [some ⟨50, 2, true, (.sym (.v fun _ => n) fun e => [(.int .i64 (.v fun _ => (X (e.den))) (-9223372036854775808) 9223372036854775807), (.int .i64 (.v fun _ => (Y (e.den))) (-9223372036854775808) 9223372036854775807)])⟩, some ⟨58, 2, true, (.sym (.v fun _ => ssN X Y n) fun e => [(.int .i64 (.v fun _ => spU X Y n e.den) 0 1048576), (.int .i64 (.v fun _ => spV X Y n e.den) 0 1048576)])⟩] := by
  refine RunsTo.go env Try.func36 rfl Try.call36 rfl rfl (fun _ _ => (.call (c_i_listOk X Y n) (.ite .ret (.callF (c_i_pairs n) (.callXH (c_s_sortStable X Y n (sA (prsL n n (n + 1))) (sB (prsL n n (n + 1))) (lenP (prsL n n (n + 1)))) fun x5 => (.callF (c_i_forestOf n) (.loop [] [0, 3, 2, 4] (Int) (fun x8 => ⟨spl 37 0 [(2, (.raw (.slice none 0 0))), (4, (.sl 1 1 (.lit 0) (.v fun _ => n) 1048576)), (5, (.sl 3 2 (.lit 0) (.v fun _ => len' (fl (kq X Y x5.1 x5.2) x8)) 1048576)), (21, (.sl 2 2 (.lit 0) (.v fun _ => lenP (prsL n n (n + 1))) 1048576)), (22, (.int .i64 (.v fun _ => lenP (prsL n n (n + 1))) 0 1048576)), (23, (.int .i64 (.v fun _ => x8) 0 1048576))], [some ⟨50, 2, true, (.sym (.v fun _ => n) fun e => [(.int .i64 (.v fun _ => ((X (e.den)))) (-1000) 1000), (.int .i64 (.v fun _ => ((Y (e.den)))) (-1000) 1000)])⟩, some ⟨3, 1, true, (.sym (.v fun _ => n) fun e => [(.int .i64 (.v fun _ => lFi X Y x5.1 x5.2 4000 x8 (e.den)) 0 1048576)])⟩, some ⟨58, 2, true, (.sym (.v fun _ => (lenP (prsL n n (n + 1)))) fun e => [(.int .i64 (.v fun _ => (x5.1 (e.den))) 0 1048576), (.int .i64 (.v fun _ => (x5.2 (e.den))) 0 1048576)])⟩, some ⟨58, 2, true, (.sym (.v fun _ => len' (fl (kq X Y x5.1 x5.2) x8)) fun e => [(.int .i64 (.v fun _ => (x5.1 (selL (fl (kq X Y x5.1 x5.2) x8) (e.den)))) 0 1048576), (.int .i64 (.v fun _ => (x5.2 (selL (fl (kq X Y x5.1 x5.2) x8) (e.den)))) 0 1048576)])⟩], 1⟩) (fun x8 => 0 ≤ x8 ∧ x8 ≤ lenP (prsL n n (n + 1))) (fun x8 => (lenP (prsL n n (n + 1)) - x8).toNat) fun x8 => (.ite (.need (.need (.callH (c_i_join (fun ι => lFi X Y x5.1 x5.2 4000 x8 (ι)) n ((x5.1 (x8))) ((x5.2 (x8)))) (.ite (.need (.next [0, 1, 2, 3])) (.next [0, 1, 2, 3]))))) (.out (.callF (c_Clip_p ((fun ι => (x5.1 (selL (fl (kq X Y x5.1 x5.2) x8) (ι))))) ((fun ι => (x5.2 (selL (fl (kq X Y x5.1 x5.2) x8) (ι))))) (len' (fl (kq X Y x5.1 x5.2) x8))) .ret)))))))))) (G := (0 ≤ n ∧ n ≤ 1048576) → (∀ e28 : E, ((0 ≤ e28.den ∧ e28.den < n) → (((-9223372036854775808) ≤ ((X (e28.den))) ∧ ((X (e28.den))) ≤ 9223372036854775807) ∧ ((-9223372036854775808) ≤ ((Y (e28.den))) ∧ ((Y (e28.den))) ≤ 9223372036854775807)))) → ((n = n) ∧ (((n ≤ n) ∧ (∀ e1 : E, ((0 ≤ e1.den ∧ e1.den < n) → ((((X (e1.den))) = ((X (e1.den)))) ∧ (((Y (e1.den))) = ((Y (e1.den)))))))) ∧ ((((listB X Y n) = false) → (((0 : Int) = (ssN X Y n)) ∧ (((n ≤ n) ∧ (∀ e2 : E, ((0 ≤ e2.den ∧ e2.den < n) → ((((X (e2.den))) = ((X (e2.den)))) ∧ (((Y (e2.den))) = ((Y (e2.den)))))))) ∧ ((ssN X Y n) = 0)))) ∧ (((listB X Y n) = true) → (((n = n) ∧ ((0 ≤ n ∧ n ≤ 1048576) → (0 ≤ n ∧ n ≤ 20))) ∧ ((0 ≤ (lenP (prsL n n (n + 1))) ∧ (lenP (prsL n n (n + 1))) ≤ 1048576) → ((edR (sA (prsL n n (n + 1))) (sB (prsL n n (n + 1))) n (lenP (prsL n n (n + 1))) ∧ lexS (zp (sA (prsL n n (n + 1))) (sB (prsL n n (n + 1)))) 0 (lenP (prsL n n (n + 1))) ∧ (lenP (prsL n n (n + 1))) ≤ 320) ∧ (((lenP (prsL n n (n + 1))) = (lenP (prsL n n (n + 1)))) ∧ (((((lenP (prsL n n (n + 1))) ≤ (lenP (prsL n n (n + 1)))) ∧ (∀ e4 : E, ((0 ≤ e4.den ∧ e4.den < (lenP (prsL n n (n + 1)))) → (((sA (prsL n n (n + 1)) (e4.den)) = (sA (prsL n n (n + 1)) ((e4.den)))) ∧ ((sB (prsL n n (n + 1)) (e4.den)) = (sB (prsL n n (n + 1)) ((e4.den)))))))) ∧ ((n = n) ∧ ((n ≤ n) ∧ (∀ e3 : E, ((0 ≤ e3.den ∧ e3.den < n) → (((((X (e3.den))) = ((X (e3.den)))) ∧ (((-9223372036854775808) ≤ ((X (e3.den))) ∧ ((X (e3.den))) ≤ 9223372036854775807) → ((-1000) ≤ ((X (e3.den))) ∧ ((X (e3.den))) ≤ 1000))) ∧ ((((Y (e3.den))) = ((Y (e3.den)))) ∧ (((-9223372036854775808) ≤ ((Y (e3.den))) ∧ ((Y (e3.den))) ≤ 9223372036854775807) → ((-1000) ≤ ((Y (e3.den))) ∧ ((Y (e3.den))) ≤ 1000))))))))) ∧ (∀ x5 : (Int → Int) × (Int → Int), ((mrgP X Y (sA (prsL n n (n + 1))) (sB (prsL n n (n + 1))) x5.1 x5.2 0 (lenP (prsL n n (n + 1)))) → (((n = n) ∧ ((0 ≤ n ∧ n ≤ 1048576) → (0 ≤ n ∧ n ≤ 20))) ∧ ((0 ≤ n ∧ n ≤ 1048576) → ((∃ y9 : Int, ((0 ≤ y9 ∧ y9 ≤ lenP (prsL n n (n + 1))) ∧ (((((.slice none 0 0) : Value) = (.slice none 0 0)) ∧ ((n = n) ∧ (((0 : Int) = (len' (fl (kq X Y x5.1 x5.2) y9))) ∧ (((lenP (prsL n n (n + 1))) = (lenP (prsL n n (n + 1)))) ∧ (((lenP (prsL n n (n + 1))) = (lenP (prsL n n (n + 1)))) ∧ ((0 : Int) = y9)))))) ∧ (((n ≤ n) ∧ (∀ e12 : E, ((0 ≤ e12.den ∧ e12.den < n) → ((((X (e12.den))) = ((X (e12.den)))) ∧ (((Y (e12.den))) = ((Y (e12.den)))))))) ∧ (((n ≤ n) ∧ (∀ e11 : E, ((0 ≤ e11.den ∧ e11.den < n) → ((e11.den) = (lFi X Y x5.1 x5.2 4000 y9 (e11.den)))))) ∧ ((((lenP (prsL n n (n + 1))) ≤ (lenP (prsL n n (n + 1)))) ∧ (∀ e10 : E, ((0 ≤ e10.den ∧ e10.den < (lenP (prsL n n (n + 1)))) → ((((x5.1 (e10.den))) = ((x5.1 (e10.den)))) ∧ (((x5.2 (e10.den))) = ((x5.2 (e10.den)))))))) ∧ ((len' (fl (kq X Y x5.1 x5.2) y9)) = 0))))))) ∧ (∀ x8 : Int, ((0 ≤ x8 ∧ x8 ≤ lenP (prsL n n (n + 1))) → (((x8 < (lenP (prsL n n (n + 1)))) → ((((0 ≤ x8) ∧ (x8 < (lenP (prsL n n (n + 1)))))) ∧ ((x8 < (lenP (prsL n n (n + 1)))) ∧ ((fR (fun ι => lFi X Y x5.1 x5.2 4000 x8 (ι)) n ∧ (0 ≤ ((x5.1 (x8))) ∧ ((x5.1 (x8))) < n) ∧ (0 ≤ ((x5.2 (x8))) ∧ ((x5.2 (x8))) < n)) ∧ (((n = n) ∧ ((((x5.1 (x8))) = ((x5.1 (x8)))) ∧ (((x5.2 (x8))) = ((x5.2 (x8)))))) ∧ (((n ≤ n) ∧ (∀ e13 : E, ((0 ≤ e13.den ∧ e13.den < n) → ((lFi X Y x5.1 x5.2 4000 x8 (e13.den)) = (lFi X Y x5.1 x5.2 4000 x8 ((e13.den))))))) ∧ ((((!(decide (rt (fun ι => lFi X Y x5.1 x5.2 4000 x8 (ι)) ((x5.1 (x8))) = rt (fun ι => lFi X Y x5.1 x5.2 4000 x8 (ι)) ((x5.2 (x8)))))) = true) → (((len' (fl (kq X Y x5.1 x5.2) x8)) = (len' (fl (kq X Y x5.1 x5.2) x8))) ∧ (∃ y14 : Int, ((0 ≤ y14 ∧ y14 ≤ lenP (prsL n n (n + 1))) ∧ ((((((.slice none 0 0) : Value) = (.slice none 0 0)) ∧ ((n = n) ∧ (((((len' (fl (kq X Y x5.1 x5.2) x8)) + 1) = (len' (fl (kq X Y x5.1 x5.2) y14))) ∧ ((((len' (fl (kq X Y x5.1 x5.2) x8)) + 1) ≤ 1048577) → ((len' (fl (kq X Y x5.1 x5.2) y14)) ≤ 1048576))) ∧ (((lenP (prsL n n (n + 1))) = (lenP (prsL n n (n + 1)))) ∧ (((lenP (prsL n n (n + 1))) = (lenP (prsL n n (n + 1)))) ∧ (((x8 + 1) = y14) ∧ ((1 ≤ (x8 + 1) ∧ (x8 + 1) ≤ 1048577) → (0 ≤ y14 ∧ y14 ≤ 1048576)))))))) ∧ (((n ≤ n) ∧ (∀ e19 : E, ((0 ≤ e19.den ∧ e19.den < n) → ((((X (e19.den))) = ((X (e19.den)))) ∧ (((Y (e19.den))) = ((Y (e19.den)))))))) ∧ (((n ≤ n) ∧ (∀ e18 : E, ((0 ≤ e18.den ∧ e18.den < n) → ((jnF (fun ι => lFi X Y x5.1 x5.2 4000 x8 (ι)) ((x5.1 (x8))) ((x5.2 (x8))) (e18.den)) = (lFi X Y x5.1 x5.2 4000 y14 (e18.den)))))) ∧ ((((lenP (prsL n n (n + 1))) ≤ (lenP (prsL n n (n + 1)))) ∧ (∀ e17 : E, ((0 ≤ e17.den ∧ e17.den < (lenP (prsL n n (n + 1)))) → ((((x5.1 (e17.den))) = ((x5.1 (e17.den)))) ∧ (((x5.2 (e17.den))) = ((x5.2 (e17.den)))))))) ∧ (((0 : Int) ≤ (len' (fl (kq X Y x5.1 x5.2) x8)) ∧ (len' (fl (kq X Y x5.1 x5.2) y14)) = (len' (fl (kq X Y x5.1 x5.2) x8)) + 1) ∧ ((((len' (fl (kq X Y x5.1 x5.2) x8)) ≤ (len' (fl (kq X Y x5.1 x5.2) x8))) ∧ (∀ e16 : E, ((0 ≤ e16.den ∧ e16.den < (len' (fl (kq X Y x5.1 x5.2) x8))) → ((((x5.1 (selL (fl (kq X Y x5.1 x5.2) x8) (e16.den)))) = ((x5.1 (selL (fl (kq X Y x5.1 x5.2) y14) (e16.den))))) ∧ (((x5.2 (selL (fl (kq X Y x5.1 x5.2) x8) (e16.den)))) = ((x5.2 (selL (fl (kq X Y x5.1 x5.2) y14) (e16.den))))))))) ∧ (∀ e15 : E, ((e15.den = (len' (fl (kq X Y x5.1 x5.2) x8))) → ((((x5.1 (x8))) = ((x5.1 (selL (fl (kq X Y x5.1 x5.2) y14) (e15.den))))) ∧ (((x5.2 (x8))) = ((x5.2 (selL (fl (kq X Y x5.1 x5.2) y14) (e15.den)))))))))))))) ∧ ((lenP (prsL n n (n + 1)) - y14).toNat < (lenP (prsL n n (n + 1)) - x8).toNat)))))) ∧ (((!(decide (rt (fun ι => lFi X Y x5.1 x5.2 4000 x8 (ι)) ((x5.1 (x8))) = rt (fun ι => lFi X Y x5.1 x5.2 4000 x8 (ι)) ((x5.2 (x8)))))) = false) → (∃ y20 : Int, ((0 ≤ y20 ∧ y20 ≤ lenP (prsL n n (n + 1))) ∧ ((((((.slice none 0 0) : Value) = (.slice none 0 0)) ∧ ((n = n) ∧ (((len' (fl (kq X Y x5.1 x5.2) x8)) = (len' (fl (kq X Y x5.1 x5.2) y20))) ∧ (((lenP (prsL n n (n + 1))) = (lenP (prsL n n (n + 1)))) ∧ (((lenP (prsL n n (n + 1))) = (lenP (prsL n n (n + 1)))) ∧ (((x8 + 1) = y20) ∧ ((1 ≤ (x8 + 1) ∧ (x8 + 1) ≤ 1048577) → (0 ≤ y20 ∧ y20 ≤ 1048576)))))))) ∧ (((n ≤ n) ∧ (∀ e24 : E, ((0 ≤ e24.den ∧ e24.den < n) → ((((X (e24.den))) = ((X (e24.den)))) ∧ (((Y (e24.den))) = ((Y (e24.den)))))))) ∧ (((n ≤ n) ∧ (∀ e23 : E, ((0 ≤ e23.den ∧ e23.den < n) → ((jnF (fun ι => lFi X Y x5.1 x5.2 4000 x8 (ι)) ((x5.1 (x8))) ((x5.2 (x8))) (e23.den)) = (lFi X Y x5.1 x5.2 4000 y20 (e23.den)))))) ∧ ((((lenP (prsL n n (n + 1))) ≤ (lenP (prsL n n (n + 1)))) ∧ (∀ e22 : E, ((0 ≤ e22.den ∧ e22.den < (lenP (prsL n n (n + 1)))) → ((((x5.1 (e22.den))) = ((x5.1 (e22.den)))) ∧ (((x5.2 (e22.den))) = ((x5.2 (e22.den)))))))) ∧ (((len' (fl (kq X Y x5.1 x5.2) y20)) ≤ (len' (fl (kq X Y x5.1 x5.2) x8))) ∧ (∀ e21 : E, ((0 ≤ e21.den ∧ e21.den < (len' (fl (kq X Y x5.1 x5.2) y20))) → ((((x5.1 (selL (fl (kq X Y x5.1 x5.2) x8) (e21.den)))) = ((x5.1 (selL (fl (kq X Y x5.1 x5.2) y20) (e21.den))))) ∧ (((x5.2 (selL (fl (kq X Y x5.1 x5.2) x8) (e21.den)))) = ((x5.2 (selL (fl (kq X Y x5.1 x5.2) y20) (e21.den))))))))))))) ∧ ((lenP (prsL n n (n + 1)) - y20).toNat < (lenP (prsL n n (n + 1)) - x8).toNat)))))))))))) ∧ (((lenP (prsL n n (n + 1))) ≤ x8) → (((len' (fl (kq X Y x5.1 x5.2) x8)) = (len' (fl (kq X Y x5.1 x5.2) x8))) ∧ ((((len' (fl (kq X Y x5.1 x5.2) x8)) ≤ (len' (fl (kq X Y x5.1 x5.2) x8))) ∧ (∀ e25 : E, ((0 ≤ e25.den ∧ e25.den < (len' (fl (kq X Y x5.1 x5.2) x8))) → ((((x5.1 (selL (fl (kq X Y x5.1 x5.2) x8) (e25.den)))) = (((x5.1 (selL (fl (kq X Y x5.1 x5.2) x8) ((e25.den))))))) ∧ (((x5.2 (selL (fl (kq X Y x5.1 x5.2) x8) (e25.den)))) = (((x5.2 (selL (fl (kq X Y x5.1 x5.2) x8) ((e25.den))))))))))) ∧ ((0 ≤ (len' (fl (kq X Y x5.1 x5.2) x8)) ∧ (len' (fl (kq X Y x5.1 x5.2) x8)) ≤ 1048576) → (((len' (fl (kq X Y x5.1 x5.2) x8)) = (ssN X Y n)) ∧ (((n ≤ n) ∧ (∀ e27 : E, ((0 ≤ e27.den ∧ e27.den < n) → ((((X (e27.den))) = ((X (e27.den)))) ∧ (((Y (e27.den))) = ((Y (e27.den)))))))) ∧ (((ssN X Y n) ≤ (len' (fl (kq X Y x5.1 x5.2) x8))) ∧ (∀ e26 : E, ((0 ≤ e26.den ∧ e26.den < (ssN X Y n)) → (((((x5.1 (selL (fl (kq X Y x5.1 x5.2) x8) ((e26.den)))))) = (spU X Y n e26.den)) ∧ ((((x5.2 (selL (fl (kq X Y x5.1 x5.2) x8) ((e26.den)))))) = (spV X Y n e26.den)))))))))))))))))))))))))))))) (by kernel_rfl) ?_
  intro h1 h2
  refine ⟨rfl, ⟨Int.le_refl _, fun _ => fun _ => ⟨rfl, rfl⟩⟩, ?_, ?_⟩
  · intro c29
    refine ⟨?_, ⟨Int.le_refl _, fun _ => fun _ => ⟨rfl, rfl⟩⟩, ?_⟩
    · rw [ssN_n (by assumption)]; done
    · rw [ssN_n (by assumption)]; done
  · intro c30
    refine ⟨?_, ?_⟩
    · refine ⟨rfl, ?_⟩
      intro c31
      have hl := listB_n (show listB X Y n = true by assumption); omega
    · intro c32
      refine ⟨?_, rfl, ?_, ?_⟩
      · exact sp_rq (by assumption) (by omega)
      · refine ⟨⟨Int.le_refl _, fun _ => fun _ => ⟨rfl, rfl⟩⟩, rfl, Int.le_refl _, ?_⟩
        intro e3
        intro c33
        refine ⟨?_, rfl, ?_⟩
        · refine ⟨rfl, ?_⟩
          intro c34
          have hl := listB_bd (show listB X Y n = true by assumption) (i := e3.den) (by omega) (by omega); omega
        · intro c35
          have hl := listB_bd (show listB X Y n = true by assumption) (i := e3.den) (by omega) (by omega); omega
      · rintro ⟨A26, B27⟩
        dsimp only
        intro c36
        refine ⟨?_, ?_⟩
        · refine ⟨rfl, ?_⟩
          intro c37
          have hl := listB_n (show listB X Y n = true by assumption); omega
        · intro c38
          refine ⟨?_, ?_⟩
          · refine ⟨0, ?_⟩
            try dsimp only
            refine ⟨?_, ?_, ⟨Int.le_refl _, fun _ => fun _ => ⟨rfl, rfl⟩⟩, ?_, ⟨Int.le_refl _, fun _ => fun _ => ⟨rfl, rfl⟩⟩, ?_⟩
            · omega
            · refine ⟨rfl, rfl, ?_, rfl, rfl, ?_⟩
              · rfl
              · rfl
            · refine ⟨Int.le_refl _, ?_⟩
              intro e11
              intro c39
              rfl
            · rfl
          · intro j
            intro I1
            refine ⟨?_, ?_⟩
            · intro c40
              refine ⟨?_, ?_, ?_, ⟨rfl, ⟨rfl, rfl⟩⟩, ⟨Int.le_refl _, fun _ => fun _ => rfl⟩, ?_, ?_⟩
              · omega
              · omega
              · have hs := sp_srt (show listB X Y n = true by assumption) (by omega) (by assumption); exact ⟨lF_R hs.1.edR (by omega) (by omega) (by omega), hs.1.edR j (by omega) (by omega)⟩
              · intro c41
                refine ⟨?_, ?_⟩
                · rfl
                · refine ⟨j + 1, ?_⟩
                  try dsimp only
                  refine ⟨?_, ?_, ?_⟩
                  · omega
                  · refine ⟨?_, ⟨Int.le_refl _, fun _ => fun _ => ⟨rfl, rfl⟩⟩, ?_, ⟨Int.le_refl _, fun _ => fun _ => ⟨rfl, rfl⟩⟩, ?_, ?_, ?_⟩
                    · refine ⟨rfl, rfl, ?_, rfl, rfl, ?_, ?_⟩
                      · refine ⟨?_, ?_⟩
                        · have hs := sp_srt (show listB X Y n = true by assumption) (by omega) (by assumption); have hy := kq_y hs.1 (j := j) (by omega) (by omega) hs.2.2.1.2 (by assumption); (rw [hy, len'_snoc]; done)
                        · intro c42
                          have hs := sp_srt (show listB X Y n = true by assumption) (by omega) (by assumption); have hy := kq_y hs.1 (j := j) (by omega) (by omega) hs.2.2.1.2 (by assumption); (have hb := kq_bd hs.1 (j := j) (by omega); rw [hy, len'_snoc]; omega)
                      · rfl
                      · intro c43
                        omega
                    · refine ⟨Int.le_refl _, ?_⟩
                      intro e18
                      intro c44
                      have hs := sp_srt (show listB X Y n = true by assumption) (by omega) (by assumption); exact lFi_4 hs.2.1 hs.1 (by omega) (by omega) _
                    · have hs := sp_srt (show listB X Y n = true by assumption) (by omega) (by assumption); have hy := kq_y hs.1 (j := j) (by omega) (by omega) hs.2.2.1.2 (by assumption); (have hb := kq_bd hs.1 (j := j) (by omega); rw [hy, len'_snoc]; omega)
                    · refine ⟨Int.le_refl _, ?_⟩
                      intro e16
                      intro c45
                      refine ⟨?_, ?_⟩
                      · have hs := sp_srt (show listB X Y n = true by assumption) (by omega) (by assumption); have hy := kq_y hs.1 (j := j) (by omega) (by omega) hs.2.2.1.2 (by assumption); have el := congrArg len' hy; rw [len'_snoc] at el; rw [hy]; (rw [selL_old (by omega) (by omega)]; done)
                      · have hs := sp_srt (show listB X Y n = true by assumption) (by omega) (by assumption); have hy := kq_y hs.1 (j := j) (by omega) (by omega) hs.2.2.1.2 (by assumption); have el := congrArg len' hy; rw [len'_snoc] at el; rw [hy]; (rw [selL_old (by omega) (by omega)]; done)
                    · intro e15
                      intro c46
                      refine ⟨?_, ?_⟩
                      · have hs := sp_srt (show listB X Y n = true by assumption) (by omega) (by assumption); have hy := kq_y hs.1 (j := j) (by omega) (by omega) hs.2.2.1.2 (by assumption); have el := congrArg len' hy; rw [len'_snoc] at el; rw [hy]; (rw [selL_new (by omega)]; done)
                      · have hs := sp_srt (show listB X Y n = true by assumption) (by omega) (by assumption); have hy := kq_y hs.1 (j := j) (by omega) (by omega) hs.2.2.1.2 (by assumption); have el := congrArg len' hy; rw [len'_snoc] at el; rw [hy]; (rw [selL_new (by omega)]; done)
                  · omega
              · intro c47
                refine ⟨j + 1, ?_⟩
                try dsimp only
                refine ⟨?_, ?_, ?_⟩
                · omega
                · refine ⟨?_, ⟨Int.le_refl _, fun _ => fun _ => ⟨rfl, rfl⟩⟩, ?_, ⟨Int.le_refl _, fun _ => fun _ => ⟨rfl, rfl⟩⟩, ?_, ?_⟩
                  · refine ⟨rfl, rfl, ?_, rfl, rfl, ?_, ?_⟩
                    · have hs := sp_srt (show listB X Y n = true by assumption) (by omega) (by assumption); have hy := kq_n hs.1 (j := j) (by omega) (by omega) hs.2.2.1.2 (by assumption); rw [hy]; done
                    · rfl
                    · intro c48
                      omega
                  · refine ⟨Int.le_refl _, ?_⟩
                    intro e23
                    intro c49
                    have hs := sp_srt (show listB X Y n = true by assumption) (by omega) (by assumption); exact lFi_4 hs.2.1 hs.1 (by omega) (by omega) _
                  · have hs := sp_srt (show listB X Y n = true by assumption) (by omega) (by assumption); have hy := kq_n hs.1 (j := j) (by omega) (by omega) hs.2.2.1.2 (by assumption); rw [hy]; exact Int.le_refl _
                  · intro e21
                    intro c50
                    refine ⟨?_, ?_⟩
                    · have hs := sp_srt (show listB X Y n = true by assumption) (by omega) (by assumption); have hy := kq_n hs.1 (j := j) (by omega) (by omega) hs.2.2.1.2 (by assumption); rw [hy]; done
                    · have hs := sp_srt (show listB X Y n = true by assumption) (by omega) (by assumption); have hy := kq_n hs.1 (j := j) (by omega) (by omega) hs.2.2.1.2 (by assumption); rw [hy]; done
                · omega
            · intro c51
              refine ⟨rfl, ⟨Int.le_refl _, fun _ => fun _ => ⟨rfl, rfl⟩⟩, ?_⟩
              intro c52
              refine ⟨?_, ⟨Int.le_refl _, fun _ => fun _ => ⟨rfl, rfl⟩⟩, ?_, ?_⟩
              · have hs := sp_srt (show listB X Y n = true by assumption) (by omega) (by assumption); have he := kru_end hs.2.1 hs.1 (by omega) hs.2.2.2.2 hs.2.2.2.1; have hy := ssN_y (X := X) (Y := Y) (n := n) (by assumption); obtain rfl : j = lenP (prsL n n (n + 1)) := (by omega); exact he.1.trans hy.symm
              · have hs := sp_srt (show listB X Y n = true by assumption) (by omega) (by assumption); have he := kru_end hs.2.1 hs.1 (by omega) hs.2.2.2.2 hs.2.2.2.1; have hy := ssN_y (X := X) (Y := Y) (n := n) (by assumption); obtain rfl : j = lenP (prsL n n (n + 1)) := (by omega); exact Int.le_of_eq (he.1.trans hy.symm).symm
              · intro e26
                intro c53
                refine ⟨?_, ?_⟩
                · have hs := sp_srt (show listB X Y n = true by assumption) (by omega) (by assumption); have he := kru_end hs.2.1 hs.1 (by omega) hs.2.2.2.2 hs.2.2.2.1; have hy := ssN_y (X := X) (Y := Y) (n := n) (by assumption); obtain rfl : j = lenP (prsL n n (n + 1)) := (by omega); exact (he.2 _ (by omega) (by omega)).1
                · have hs := sp_srt (show listB X Y n = true by assumption) (by omega) (by assumption); have he := kru_end hs.2.1 hs.1 (by omega) hs.2.2.2.2 hs.2.2.2.1; have hy := ssN_y (X := X) (Y := Y) (n := n) (by assumption); obtain rfl : j = lenP (prsL n n (n + 1)) := (by omega); exact (he.2 _ (by omega) (by omega)).2
def c_i_SpanningTree (X : Int → Int) (Y : Int → Int) (n : Int) : Cn Try.prog := ⟨_, _, _, _, _, i_SpanningTree X Y n⟩
end Go.Proofs.Ytcfkpdjbjfnnmaa
