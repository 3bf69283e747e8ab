/- Rectangles: the drawn lists, and what the laws say of the areas. -/
import Derived.Test.YtpnjopppclmfkaaK35
import Derived.Test.YtpnjopppclmfkaaR7
set_option linter.unusedSimpArgs false
set_option linter.unusedVariables false
set_option maxRecDepth 100000
namespace Go.Proofs.Ytpnjopppclmfkaa
open Go.Sym
/-! what the laws of rectangles say of the areas -/
theorem bi_le {p q : Prop} [Decidable p] [Decidable q] (h : p → q) : bi (decide p) ≤ bi (decide q) := by
  by_cases hp : p
  · rw [decide_eq_true hp, decide_eq_true (h hp)]; exact Int.le_refl _
  · rw [decide_eq_false hp]
    exact (bi_bd _).1
theorem ua_anti {A B D F : Int → Int} {n d e : Int} (h : d ≤ e) : ua A B D F n e ≤ ua A B D F n d :=
  isum_le fun x _ _ => isum_le fun y _ _ => bi_le fun hh => by omega
theorem ua_pre {A B D F : Int → Int} {m n d : Int} (h0 : 0 ≤ m) (h : m ≤ n) : ua A B D F m d ≤ ua A B D F n d :=
  isum_le fun x _ _ => isum_le fun y _ _ => bi_le fun hh => by
    have : dep A B D F m x y ≤ dep A B D F n x y := fl_pre h0 h
    omega
theorem layer (q : Int) (h : 0 ≤ q) : ∀ m : Nat, smf (fun i => bi (decide (i + 1 ≤ q))) m = if q ≤ m then q else m
  | 0 => by rw [smf]; split <;> omega
  | m + 1 => by
    rw [smf, layer q h m]
    by_cases h1 : (m : Int) + 1 ≤ q
    · rw [decide_eq_true h1]
      show _ + 1 = _
      split <;> split <;> omega
    · rw [decide_eq_false h1]
      show _ + 0 = _
      split <;> split <;> omega
theorem box_area {A B D F : Int → Int} {n r : Int} (h : okR A B D F n) (hv : ∀ r, 0 ≤ r → r < n → A r < D r ∧ B r < F r) (h0 : 0 ≤ r) (h1 : r < n) :
    isum (fun x => isum (fun y => bi (inr A B D F x y r)) (-1000) 1000) (-1000) 1000 = (D r - A r) * (F r - B r) := by
  obtain ⟨⟨a1, a2⟩, b1, b2⟩ := h r h0 h1
  obtain ⟨c1, c2⟩ := hv r h0 h1
  rw [Int.mul_comm]
  refine isum_box (a := A r) (b := D r) (by omega) (by omega) (by omega) ?_ ?_
  · intro x x0 x1
    show isum (fun y => bi (inr A B D F x y r)) (-1000) 1000 = F r - B r
    rw [isum_box (f := fun y => bi (inr A B D F x y r)) (a := B r) (b := F r) (c := 1) (by omega) (by omega) (by omega), Int.one_mul]
    · intro y y0 y1
      show bi (inr A B D F x y r) = 1
      rw [inr_iff.2 ⟨⟨x0, x1⟩, y0, y1⟩]
      rfl
    · intro y hy
      show bi (inr A B D F x y r) = 0
      rw [show inr A B D F x y r = false by rw [← Bool.not_eq_true, inr_iff]; omega]
      rfl
  · intro x hx
    refine isum_zero fun y _ _ => ?_
    show bi (inr A B D F x y r) = 0
    rw [show inr A B D F x y r = false by rw [← Bool.not_eq_true, inr_iff]; omega]
    rfl
/-- The layers together are the rectangles together. -/
theorem layers {A B D F : Int → Int} {n : Int} (hn : 0 ≤ n) (h : okR A B D F n) (hv : ∀ r, 0 ≤ r → r < n → A r < D r ∧ B r < F r) :
    smf (fun i => ua A B D F n (i + 1)) n.toNat = smf (fun r => (D r - A r) * (F r - B r)) n.toNat := by
  have e1 : smf (fun i => ua A B D F n (i + 1)) n.toNat = isum (fun x => isum (fun y => dep A B D F n x y) (-1000) 1000) (-1000) 1000 := by
    show smf (fun i => isum (fun x => isum (fun y => bi (decide (i + 1 ≤ dep A B D F n x y))) (-1000) 1000) (-1000) 1000) n.toNat = _
    rw [isum_swap (g := fun i x => isum (fun y => bi (decide (i + 1 ≤ dep A B D F n x y))) (-1000) 1000)]
    refine isum_congr fun x _ _ => ?_
    rw [isum_swap (g := fun i y => bi (decide (i + 1 ≤ dep A B D F n x y)))]
    refine isum_congr fun y _ _ => ?_
    have hb := dep_bd A B D F x y hn
    rw [layer _ hb.1, if_pos (by omega)]
  have e2 : smf (fun r => (D r - A r) * (F r - B r)) n.toNat = isum (fun x => isum (fun y => dep A B D F n x y) (-1000) 1000) (-1000) 1000 := by
    rw [smf_congr (g := fun r => isum (fun x => isum (fun y => bi (inr A B D F x y r)) (-1000) 1000) (-1000) 1000) n.toNat (fun r a b => (box_area h hv (by omega) (by omega)).symm)]
    rw [isum_swap (g := fun r x => isum (fun y => bi (inr A B D F x y r)) (-1000) 1000)]
    refine isum_congr fun x _ _ => ?_
    rw [isum_swap (g := fun r y => bi (inr A B D F x y r))]
    refine isum_congr fun y _ _ => ?_
    exact (fl_int hn).symm
  rw [e1, e2]
theorem cov_nn {A B D F : Int → Int} {n d : Int} (h : 0 ≤ cov A B D F n d) : vrs A B D F n = true ∧ 1 ≤ d := by
  unfold cov at h
  split at h
  · rename_i hc
    rw [Bool.and_eq_true, decide_eq_true_eq] at hc
    exact hc
  · omega
theorem cov_anti {A B D F : Int → Int} {n d : Int} (h : 0 ≤ cov A B D F n d) : cov A B D F n (d + 1) ≤ cov A B D F n d := by
  obtain ⟨a, b⟩ := cov_nn h
  rw [cov_yes a (by omega), cov_yes a b]
  exact ua_anti (by omega)
def rar (A B D F : Int → Int) (r : Int) : Int := (D r - A r) * (F r - B r)
def lay (A B D F : Int → Int) (n i : Int) : Int := cov A B D F n (i + 1)
theorem rar_bd {A B D F : Int → Int} {n d r : Int} (h : 0 ≤ cov A B D F n d) (h0 : 0 ≤ r) (h1 : r < n) : 0 ≤ rar A B D F r ∧ rar A B D F r ≤ 4000000 := by
  obtain ⟨_, hr, hv⟩ := vrs_ok (cov_nn h).1
  have a := hr r h0 h1
  have b := hv r h0 h1
  exact mul_bd (c := 2000) (e := 2000) (by omega) (by omega) (by omega) (by omega)
theorem rars_bd {A B D F : Int → Int} {n d j : Int} (h : 0 ≤ cov A B D F n d) (h0 : 0 ≤ j) (h1 : j ≤ n) : 0 ≤ smf (rar A B D F) j.toNat ∧ smf (rar A B D F) j.toNat ≤ 48000000 := by
  have := smf_bd (f := rar A B D F) (c := 4000000) j.toNat (fun t a b => rar_bd h (by omega) (by omega))
  have := (vrs_ok (cov_nn h).1).1
  omega
theorem lays_bd {A B D F : Int → Int} {n d j : Int} (h : 0 ≤ cov A B D F n d) (h0 : 0 ≤ j) (h1 : j ≤ n) : 0 ≤ smf (lay A B D F n) j.toNat ∧ smf (lay A B D F n) j.toNat ≤ 48000000 := by
  have := smf_bd (f := lay A B D F n) (c := 4000000) j.toNat (fun t a b => by
    unfold lay
    rw [cov_yes (cov_nn h).1 (by omega)]
    exact ua_bd _ _ _ _ _ _)
  have := (vrs_ok (cov_nn h).1).1
  omega
theorem lay_law {A B D F : Int → Int} {n d : Int} (hn : 0 ≤ n) (h : 0 ≤ cov A B D F n d) : smf (lay A B D F n) n.toNat = smf (rar A B D F) n.toNat := by
  obtain ⟨hd, _⟩ := cov_nn h
  obtain ⟨_, hr, hv⟩ := vrs_ok hd
  rw [smf_congr (g := fun i => ua A B D F n (i + 1)) n.toNat (fun t a b => by unfold lay; exact cov_yes hd (by omega))]
  exact layers hn hr hv
theorem vrs_pre {A B D F : Int → Int} {m n : Int} (h : m ≤ n) (hv : vrs A B D F n = true) : vrs A B D F m = true := by
  unfold vrs at *
  rw [Bool.and_eq_true, decide_eq_true_eq, allB_iff] at *
  exact ⟨by omega, fun i a b => hv.2 i a (by omega)⟩
theorem cov_more {A B D F : Int → Int} {m n d : Int} (h0 : 0 ≤ m) (hm : m ≤ n) (h : 0 ≤ cov A B D F n d) : 0 ≤ cov A B D F m d ∧ cov A B D F m d ≤ cov A B D F n d := by
  obtain ⟨a, b⟩ := cov_nn h
  rw [cov_yes a b, cov_yes (vrs_pre hm a) b]
  exact ⟨(ua_bd _ _ _ _ _ _).1, ua_pre h0 hm⟩
theorem mdN_nn {A B D F : Int → Int} {n : Int} (hn : 0 ≤ n) : 0 ≤ (mdN A B D F n).1 := by
  have a := mdN_max (A := A) (B := B) (D := D) (F := F) hn 0 0
  have b := dep_bd A B D F 0 0 hn
  omega
theorem md_more {A B D F : Int → Int} {m n : Int} (h0 : 0 ≤ m) (hm : m ≤ n) (h : 0 ≤ (mdv A B D F n).1) : (0 ≤ (mdv A B D F m).1 ∧ (mdv A B D F m).1 ≤ (mdv A B D F n).1) ∧ (mdv A B D F n).1 ≤ n := by
  have hv : vrs A B D F n = true := by
    cases hc : vrs A B D F n with
    | true => rfl
    | false => rw [mdv_no hc] at h; exact absurd h (by decide)
  rw [mdv_yes hv, mdv_yes (vrs_pre hm hv)]
  have hx := mdN_max (A := A) (B := B) (D := D) (F := F) (n := n) (by omega)
  have n1 := mdN_nn (A := A) (B := B) (D := D) (F := F) h0
  have n2 := mdN_nn (A := A) (B := B) (D := D) (F := F) (n := n) (by omega)
  refine ⟨⟨n1, ?_⟩, ?_⟩
  · rcases mdN_at (A := A) (B := B) (D := D) (F := F) h0 with e | ⟨x, y, e⟩
    · omega
    · have h1 : dep A B D F m x y ≤ dep A B D F n x y := fl_pre h0 hm
      have := hx x y
      omega
  · rcases mdN_at (A := A) (B := B) (D := D) (F := F) (n := n) (by omega) with e | ⟨x, y, e⟩
    · omega
    · have := dep_bd A B D F x y (show 0 ≤ n by omega)
      omega

def dcD (C : Int → Int) (n : Int) : Int := selL [1, 1, 2, 3, 0] (pk C n (rsP C n 0) 5)
theorem s_DrawMaxDepth (C : Int → Int) (n : Int) : RunsTo Try.prog 43 [(.sl 0 1 (.lit 0) (.v fun _ => n) 9223372036854775807)] [some ⟨5, 1, false, (.sym (.v fun _ => n) fun e => [(.int .u8 (.v fun _ => (C (e.den))) 0 255)])⟩] (.sl 1 4 (.lit 0) (.v fun _ => rsM C (cut n) 0) 13) [some ⟨5, 1, false, (.sym (.v fun _ => cut n) fun e => [(.int .u8 (.v fun _ => (C (e.den))) 0 255)])⟩, some ⟨57, 4, true, (.sym (.v fun _ => rsM C (cut n) 0) fun e => [(.int .i64 (.v fun _ => rsA C (cut n) 0 e.den) (-1001) 1001), (.int .i64 (.v fun _ => rsB C (cut n) 0 e.den) (-1001) 1001), (.int .i64 (.v fun _ => rsD C (cut n) 0 e.den) (-1001) 1001), (.int .i64 (.v fun _ => rsF C (cut n) 0 e.den) (-1001) 1001)])⟩] := by
  refine RunsTo.go env Try.func43 rfl Try.call43 rfl rfl (fun _ _ => (.call (c_s_newReader C n) (.call (c_anyRects C (cut n) 0) .ret))) (G := (0 ≤ n ∧ n ≤ 9223372036854775807) → (∀ e5 : E, ((0 ≤ e5.den ∧ e5.den < n) → (0 ≤ ((C (e5.den))) ∧ ((C (e5.den))) ≤ 255))) → ((n = n) ∧ (((n ≤ n) ∧ (∀ e1 : E, ((0 ≤ e1.den ∧ e1.den < n) → (((C (e1.den))) = ((C (e1.den))))))) ∧ (((((cut n) = (cut n)) ∧ ((0 : Int) = 0)) ∧ (((cut n) ≤ (cut n)) ∧ (∀ e2 : E, ((0 ≤ e2.den ∧ e2.den < (cut n)) → (((C (e2.den))) = ((C (e2.den)))))))) ∧ (((rsM C (cut n) 0) = (rsM C (cut n) 0)) ∧ ((((cut n) ≤ (cut n)) ∧ (∀ e4 : E, ((0 ≤ e4.den ∧ e4.den < (cut n)) → (((C (e4.den))) = ((C (e4.den))))))) ∧ (((rsM C (cut n) 0) ≤ (rsM C (cut n) 0)) ∧ (∀ e3 : E, ((0 ≤ e3.den ∧ e3.den < (rsM C (cut n) 0)) → (((rsA C (cut n) 0 (e3.den)) = (rsA C (cut n) 0 e3.den)) ∧ (((rsB C (cut n) 0 (e3.den)) = (rsB C (cut n) 0 e3.den)) ∧ (((rsD C (cut n) 0 (e3.den)) = (rsD C (cut n) 0 e3.den)) ∧ ((rsF C (cut n) 0 (e3.den)) = (rsF C (cut n) 0 e3.den)))))))))))))) (by kernel_rfl) ?_
  intro h1 h2
  exact ⟨rfl, ⟨⟨Int.le_refl _, fun _ => fun _ => rfl⟩, ⟨⟨⟨rfl, rfl⟩, ⟨Int.le_refl _, fun _ => fun _ => rfl⟩⟩, ⟨rfl, ⟨⟨Int.le_refl _, fun _ => fun _ => rfl⟩, ⟨Int.le_refl _, fun _ => fun _ => ⟨rfl, ⟨rfl, ⟨rfl, rfl⟩⟩⟩⟩⟩⟩⟩⟩⟩
def c_s_DrawMaxDepth (C : Int → Int) (n : Int) : Cn Try.prog := ⟨_, _, _, _, _, s_DrawMaxDepth C n⟩
theorem s_DrawCoveredArea (C : Int → Int) (n : Int) : RunsTo Try.prog 42 [(.sl 0 1 (.lit 0) (.v fun _ => n) 9223372036854775807)] [some ⟨5, 1, false, (.sym (.v fun _ => n) fun e => [(.int .u8 (.v fun _ => (C (e.den))) 0 255)])⟩] (.tup [(.sl 1 4 (.lit 0) (.v fun _ => rsM C (cut n) 0) 13), (.int .i64 (.v fun _ => dcD C (cut n)) 0 3)]) [some ⟨5, 1, false, (.sym (.v fun _ => cut n) fun e => [(.int .u8 (.v fun _ => (C (e.den))) 0 255)])⟩, some ⟨57, 4, true, (.sym (.v fun _ => rsM C (cut n) 0) fun e => [(.int .i64 (.v fun _ => rsA C (cut n) 0 e.den) (-1001) 1001), (.int .i64 (.v fun _ => rsB C (cut n) 0 e.den) (-1001) 1001), (.int .i64 (.v fun _ => rsD C (cut n) 0 e.den) (-1001) 1001), (.int .i64 (.v fun _ => rsF C (cut n) 0 e.den) (-1001) 1001)])⟩] := by
  refine RunsTo.go env Try.func42 rfl Try.call42 rfl rfl (fun _ _ => (.call (c_s_newReader C n) (.call (c_anyRects C (cut n) 0) (.call (c_one_5 C (cut n) (rsP C (cut n) 0) (selL [1, 1, 2, 3, 0])) .ret)))) (G := (0 ≤ n ∧ n ≤ 9223372036854775807) → (∀ e11 : E, ((0 ≤ e11.den ∧ e11.den < n) → (0 ≤ ((C (e11.den))) ∧ ((C (e11.den))) ≤ 255))) → ((n = n) ∧ (((n ≤ n) ∧ (∀ e1 : E, ((0 ≤ e1.den ∧ e1.den < n) → (((C (e1.den))) = ((C (e1.den))))))) ∧ (((((cut n) = (cut n)) ∧ ((0 : Int) = 0)) ∧ (((cut n) ≤ (cut n)) ∧ (∀ e2 : E, ((0 ≤ e2.den ∧ e2.den < (cut n)) → (((C (e2.den))) = ((C (e2.den)))))))) ∧ (((((cut n) = (cut n)) ∧ ((rsP C (cut n) 0) = (rsP C (cut n) 0))) ∧ (((∀ e8 : E, ((e8.den = 0) → ((1 : Int) = (selL [1, 1, 2, 3, 0] (e8.den))))) ∧ ((∀ e7 : E, ((e7.den = 1) → ((1 : Int) = (selL [1, 1, 2, 3, 0] (e7.den))))) ∧ ((∀ e6 : E, ((e6.den = 2) → ((2 : Int) = (selL [1, 1, 2, 3, 0] (e6.den))))) ∧ ((∀ e5 : E, ((e5.den = 3) → ((3 : Int) = (selL [1, 1, 2, 3, 0] (e5.den))))) ∧ (∀ e4 : E, ((e4.den = 4) → ((0 : Int) = (selL [1, 1, 2, 3, 0] (e4.den))))))))) ∧ (((cut n) ≤ (cut n)) ∧ (∀ e3 : E, ((0 ≤ e3.den ∧ e3.den < (cut n)) → (((C (e3.den))) = ((C (e3.den))))))))) ∧ ((((rsM C (cut n) 0) = (rsM C (cut n) 0)) ∧ (((selL [1, 1, 2, 3, 0] (pk C (cut n) (rsP C (cut n) 0) 5))) = (dcD C (cut n)))) ∧ ((((cut n) ≤ (cut n)) ∧ (∀ e10 : E, ((0 ≤ e10.den ∧ e10.den < (cut n)) → (((C (e10.den))) = ((C (e10.den))))))) ∧ (((rsM C (cut n) 0) ≤ (rsM C (cut n) 0)) ∧ (∀ e9 : E, ((0 ≤ e9.den ∧ e9.den < (rsM C (cut n) 0)) → (((rsA C (cut n) 0 (e9.den)) = (rsA C (cut n) 0 e9.den)) ∧ (((rsB C (cut n) 0 (e9.den)) = (rsB C (cut n) 0 e9.den)) ∧ (((rsD C (cut n) 0 (e9.den)) = (rsD C (cut n) 0 e9.den)) ∧ ((rsF C (cut n) 0 (e9.den)) = (rsF C (cut n) 0 e9.den))))))))))))))) (by kernel_rfl) ?_
  intro h1 h2
  refine ⟨rfl, ⟨Int.le_refl _, fun _ => fun _ => rfl⟩, ⟨⟨rfl, rfl⟩, ⟨Int.le_refl _, fun _ => fun _ => rfl⟩⟩, ?_, ?_, ⟨Int.le_refl _, fun _ => fun _ => rfl⟩, Int.le_refl _, fun _ => fun _ => ⟨rfl, ⟨rfl, ⟨rfl, rfl⟩⟩⟩⟩
  · refine ⟨⟨rfl, rfl⟩, ?_, Int.le_refl _, fun _ => fun _ => rfl⟩
    refine ⟨?_, ?_, ?_, ?_, ?_⟩
    · intro e8
      intro c12
      -- 1: (1 : Int) = (selL [1, 1, 2, 3, 0] (e8.den))
      first | omega | (simp [selL, *]; done) | rfl | fail
    · intro e7
      intro c13
      -- 2: (1 : Int) = (selL [1, 1, 2, 3, 0] (e7.den))
      first | omega | (simp [selL, *]; done) | rfl | fail
    · intro e6
      intro c14
      -- 3: (2 : Int) = (selL [1, 1, 2, 3, 0] (e6.den))
      first | omega | (simp [selL, *]; done) | rfl | fail
    · intro e5
      intro c15
      -- 4: (3 : Int) = (selL [1, 1, 2, 3, 0] (e5.den))
      first | omega | (simp [selL, *]; done) | rfl | fail
    · intro e4
      intro c16
      -- 5: (0 : Int) = (selL [1, 1, 2, 3, 0] (e4.den))
      first | omega | (simp [selL, *]; done) | rfl | fail
  · refine ⟨rfl, ?_⟩
    -- 6: ((selL [1, 1, 2, 3, 0] (pk C (cut n) (rsP C (cut n) 0) 5))) = (dcD C (cut n))
    first | omega | (simp [selL, *]; done) | rfl | fail
def c_s_DrawCoveredArea (C : Int → Int) (n : Int) : Cn Try.prog := ⟨_, _, _, _, _, s_DrawCoveredArea C n⟩
end Go.Proofs.Ytpnjopppclmfkaa
