/- Arrangement: the contract of the program, and the laws. -/
import Derived.Test.YtbldachljmhfjaaK56
set_option linter.unusedSimpArgs false
set_option linter.unusedVariables false
set_option maxRecDepth 100000
namespace Go.Proofs.Ytbldachljmhfjaa
open Go.Sym
theorem red_any_val {a b : Int} (hb : b ≠ 0) : redN a b * b = a * redD a b := by
  by_cases h : b < 0
  · have := red_val (-a) (-b) (by omega)
    rw [(red_neg h).1, (red_neg h).2]
    grind
  · exact red_val a b (by omega)
theorem meet_same {xi yi xk yk n d : Int} (h : n * (xk - xi) = (yk - yi) * d) : xi * n - yi * d = xk * n - yk * d := by grind
theorem ptR_comm {X Y : Int → Int} {i k : Int} (h : X k ≠ X i) : ptR X Y i k = ptR X Y k i := by
  have hf := red_flip (a := Y k - Y i) (b := X k - X i) (by omega)
  rw [show -(Y k - Y i) = Y i - Y k by omega, show -(X k - X i) = X i - X k by omega] at hf
  have e1 : xN X Y i k = xN X Y k i := hf.1
  have e2 : xD X Y i k = xD X Y k i := hf.2
  have hv : xN X Y i k * (X k - X i) = (Y k - Y i) * xD X Y i k := red_any_val (by omega)
  have hm := meet_same hv
  have e3 : yN X Y i k = yN X Y k i := by unfold yN; rw [hm, e1, e2]
  have e4 : yD X Y i k = yD X Y k i := by unfold yD; rw [hm, e1, e2]
  unfold ptR
  rw [e1, e2, e3, e4]
def Lp (X Y : Int → Int) : Nat → List R4
  | 0 => []
  | m + 1 => Lp X Y m ++ (List.range m).map fun k => ptR X Y (m : Int) ((k : Nat) : Int)
theorem Lp_len (X Y : Int → Int) : ∀ m : Nat, 2 * ((Lp X Y m).length : Int) = m * (m - 1)
  | 0 => by simp [Lp]
  | m + 1 => by
    have ih := Lp_len X Y m
    rw [Lp, List.length_append, List.length_map, List.length_range]
    have e : (((m + 1 : Nat) : Int)) * (((m + 1 : Nat) : Int) - 1) = (m : Int) * (m - 1) + 2 * m := by
      rw [show ((m + 1 : Nat) : Int) = (m : Int) + 1 by omega]
      grind
    rw [e]
    omega
theorem Lp_mem {X Y : Int → Int} {i k : Int} (h0 : 0 ≤ k) (h1 : k < i) : ∀ m : Nat, i < m → ptR X Y i k ∈ Lp X Y m
  | 0, h => by omega
  | m + 1, h => by
    rw [Lp, List.mem_append]
    by_cases e : i = m
    · right
      rw [List.mem_map]
      exact ⟨k.toNat, List.mem_range.2 (by omega), by rw [e, Int.toNat_of_nonneg h0]⟩
    · exact .inl (Lp_mem h0 h1 m (by omega))
theorem mpts_Lp {X Y : Int → Int} {n : Int} : ∀ v ∈ mpts X Y n, v ∈ Lp X Y n.toNat := by
  intro v hv
  obtain ⟨i, k, ⟨hi, hk⟩, hx, rfl⟩ := (mpts_mem v).1 hv
  rcases Int.lt_trichotomy k i with h | h | h
  · exact Lp_mem hk.1 h _ (by omega)
  · subst h; exact absurd rfl hx
  · rw [ptR_comm hx]
    exact Lp_mem hi.1 h _ (by omega)
theorem v_tri (X Y : Int → Int) {n : Int} (hn : 0 ≤ n) : dcnt (mpts X Y n) ≤ Int.tdiv (n * (n - 1)) 2 := by
  have h1 : dcnt (mpts X Y n) ≤ ((Lp X Y n.toNat).length : Int) := Int.le_trans (dcnt_le mpts_Lp) (dcnt_len _)
  have h2 := Lp_len X Y n.toNat
  rw [Int.toNat_of_nonneg hn] at h2
  rw [← h2, Int.tdiv_eq_ediv_of_nonneg (by omega)]
  omega
theorem crL_lt {X Y : Int → Int} {i : Int} (h0 : 0 ≤ i) : ∀ m : Nat, len' (crL X Y i m) + (if i < m then 1 else 0) ≤ m
  | 0 => by rw [if_neg (by omega)]; exact Int.le_refl _
  | m + 1 => by
    have ih := crL_lt (X := X) (Y := Y) h0 m
    rw [crL]
    by_cases e : i = m
    · subst e
      rw [if_neg (by omega)] at ih
      rw [if_pos rfl, if_pos (by omega)]
      omega
    · have hs : (if i < ((m + 1 : Nat) : Int) then (1 : Int) else 0) = if i < (m : Int) then 1 else 0 := by
        by_cases h : i < (m : Int)
        · rw [if_pos h, if_pos (by omega)]
        · rw [if_neg h, if_neg (by omega)]
      rw [hs]
      generalize (if i < (m : Int) then (1 : Int) else 0) = t at *
      split
      · omega
      · split
        · omega
        · rw [len'_snoc]; omega
theorem crL_mono {X Y : Int → Int} {i : Int} (m : Nat) : ∀ j : Nat, len' (crL X Y i m) ≤ len' (crL X Y i (m + j))
  | 0 => Int.le_refl _
  | j + 1 => by
    have ih := crL_mono (X := X) (Y := Y) (i := i) m j
    rw [show m + (j + 1) = (m + j) + 1 by omega, crL]
    split
    · exact ih
    · split
      · exact ih
      · rw [len'_snoc]; omega
def crN (X Y : Int → Int) (n i : Int) : Int := len' (crL X Y i n.toNat)
theorem crN_mono {X Y : Int → Int} {m n i : Int} (h : m ≤ n) : crN X Y m i ≤ crN X Y n i := by
  unfold crN
  have := crL_mono (X := X) (Y := Y) (i := i) m.toNat (n.toNat - m.toNat)
  rwa [show m.toNat + (n.toNat - m.toNat) = n.toNat by omega] at this
theorem crN_0 (X Y : Int → Int) (n i : Int) : 0 ≤ crN X Y n i := (crL_len X Y i n.toNat).1
/-- The crossings of all rows. -/
def crS (X Y : Int → Int) (n : Int) : Int := smf (crN X Y n) n.toNat
theorem ed_cr (X Y : Int → Int) {n : Int} (hn : 0 ≤ n) : smf (edF X Y n) n.toNat = crS X Y n + n := by
  have e : edF X Y n = fun i => crN X Y n i + (fun _ => 1) i := by funext i; rfl
  rw [e, smf_add, smf_const, Int.toNat_of_nonneg hn]
  unfold crS
  omega
theorem allL_len (X Y : Int → Int) (n : Int) : ∀ m : Nat, ((allL X Y n m).length : Int) = smf (crN X Y n) m
  | 0 => rfl
  | m + 1 => by
    have ih := allL_len X Y n m
    rw [allL, rowL_all, List.length_append, smf, ← ih, show crN X Y n m = ((crow X Y n m).length : Int) from (crow_len X Y n m).symm]
    omega
theorem v_cr (X Y : Int → Int) (n : Int) : dcnt (mpts X Y n) ≤ crS X Y n := by
  have := dcnt_len (mpts X Y n)
  have h := allL_len X Y n n.toNat
  unfold crS
  unfold mpts at *
  omega
theorem cr_sq (X Y : Int → Int) {n : Int} (hn : 0 ≤ n) : 0 ≤ crS X Y n ∧ crS X Y n + n ≤ n * n := by
  have h := smf_bd (f := crN X Y n) (c := n - 1) n.toNat (fun i a b => by
    have h1 := crL_lt (X := X) (Y := Y) (Int.natCast_nonneg i) n.toNat
    rw [if_pos (by omega)] at h1
    have h2 := crN_0 X Y n i
    unfold crN at *
    omega)
  rw [Int.toNat_of_nonneg hn, Int.sub_mul] at h
  unfold crS
  omega
theorem cr_step (X Y : Int → Int) {m : Int} (hm : 0 ≤ m) : crS X Y m + crN X Y (m + 1) m ≤ crS X Y (m + 1) := by
  unfold crS
  rw [smf_next hm]
  have := smf_le (f := crN X Y m) (g := crN X Y (m + 1)) m.toNat (fun i _ _ => crN_mono (by omega))
  omega
theorem v_step (X Y : Int → Int) {m : Int} (hm : 0 ≤ m) : dcnt (mpts X Y (m + 1)) ≤ dcnt (mpts X Y m) + crN X Y (m + 1) m := by
  have h1 : dcnt (mpts X Y (m + 1)) ≤ dcnt (mpts X Y m ++ crow X Y (m + 1) m) := by
    refine dcnt_le fun v hv => ?_
    rw [List.mem_append]
    obtain ⟨i, k, ⟨hi, hk⟩, hx, rfl⟩ := (mpts_mem v).1 hv
    by_cases ei : i = m
    · subst ei
      exact .inr ((crow_mem _).2 ⟨k, hk, hx, rfl⟩)
    · by_cases ek : k = m
      · subst ek
        rw [ptR_comm hx]
        exact .inr ((crow_mem _).2 ⟨i, hi, fun e => hx e.symm, rfl⟩)
      · exact .inl ((mpts_mem _).2 ⟨i, k, ⟨⟨hi.1, by omega⟩, hk.1, by omega⟩, hx, rfl⟩)
  have h2 := dcnt_append (mpts X Y m) (crow X Y (m + 1) m)
  have h3 := dcnt_len (crow X Y (m + 1) m)
  have h4 := crow_len X Y (m + 1) m
  unfold crN
  omega
theorem v_mono (X Y : Int → Int) {m n : Int} (h : m ≤ n) : dcnt (mpts X Y m) ≤ dcnt (mpts X Y n) := dcnt_le fun v hv => by
  obtain ⟨i, k, ⟨hi, hk⟩, e⟩ := (mpts_mem v).1 hv
  exact (mpts_mem v).2 ⟨i, k, ⟨⟨hi.1, by omega⟩, hk.1, by omega⟩, e⟩
theorem f_mono (X Y : Int → Int) {m : Int} (hm : 0 ≤ m) : ∀ j : Nat, crS X Y m - dcnt (mpts X Y m) ≤ crS X Y (m + j) - dcnt (mpts X Y (m + j)) ∧ crS X Y m ≤ crS X Y (m + j)
  | 0 => by rw [show m + ((0 : Nat) : Int) = m by omega]; exact ⟨Int.le_refl _, Int.le_refl _⟩
  | j + 1 => by
    have ih := f_mono X Y hm j
    have h1 := cr_step X Y (m := m + j) (by omega)
    have h2 := v_step X Y (m := m + j) (by omega)
    have h3 := crN_0 X Y (m + j + 1) (m + j)
    rw [show m + ((j + 1 : Nat) : Int) = m + j + 1 by omega]
    omega
theorem gok_part {X Y : Int → Int} {m n : Int} (h : gok X Y n = true) (hm : m ≤ n) : gok X Y m = true := by
  obtain ⟨a, b⟩ := gok_iff.1 h
  exact gok_iff.2 ⟨fun i h0 h1 => a i h0 (by omega), by omega⟩
theorem sa_val {X Y : Int → Int} {n : Int} (h : gok X Y n = true) (hn : 0 ≤ n) : saV X Y n = dcnt (mpts X Y n) ∧ saE X Y n = crS X Y n + n ∧ saF X Y n = crS X Y n + n - dcnt (mpts X Y n) + 1 := by
  obtain ⟨a, b, c⟩ := sa_y h
  rw [a, b, c, ed_cr X Y hn, rN_cnt (gok_ok h).1]
  exact ⟨rfl, rfl, rfl⟩
theorem sa_gok {X Y : Int → Int} {n : Int} (h : 0 ≤ saV X Y n) : gok X Y n = true := by
  cases hg : gok X Y n with
  | true => rfl
  | false => have := sa_n hg; omega
/-- The laws. -/
theorem sa_euler {X Y : Int → Int} {n : Int} (hn : 0 ≤ n) (h : 0 ≤ saV X Y n) : (saV X Y n - saE X Y n + saF X Y n = 1 ∧ saE X Y n - saV X Y n + 1 = saF X Y n) ∧ saV X Y n ≤ Int.tdiv (n * (n - 1)) 2 ∧ saE X Y n ≤ n * n ∧ n ≤ saE X Y n ∧ n + 1 ≤ saF X Y n := by
  obtain ⟨a, b, c⟩ := sa_val (sa_gok h) hn
  have h1 := v_tri X Y hn
  have h2 := v_cr X Y n
  have h3 := cr_sq X Y hn
  omega
theorem sa_more {X Y : Int → Int} {n m : Int} (hm : 0 ≤ m) (hmn : m ≤ n) (h : 0 ≤ saV X Y n) : 0 ≤ saV X Y m ∧ saV X Y m ≤ saV X Y n ∧ saE X Y m ≤ saE X Y n ∧ saF X Y m ≤ saF X Y n := by
  have hg := sa_gok h
  obtain ⟨a, b, c⟩ := sa_val hg (by omega)
  obtain ⟨a', b', c'⟩ := sa_val (gok_part hg hmn) hm
  have h1 := v_mono X Y hmn
  have h2 := f_mono X Y hm (n - m).toNat
  rw [show m + (((n - m).toNat : Nat) : Int) = n by omega] at h2
  have h3 := dcnt_pos (mpts X Y m)
  omega
def two (_ : Int) : Int := 2
def idI (i : Int) : Int := i
theorem sa_par {n : Int} (hn : 0 ≤ n) (h8 : n ≤ 8) : saV two idI n = 0 ∧ saE two idI n = n ∧ saF two idI n = n + 1 := by
  have hg : gok two idI n = true := gok_iff.2 ⟨fun i h0 h1 => ⟨okP_iff.2 (by unfold two idI; omega), fun k a b e => by unfold idI at e; omega⟩, h8⟩
  obtain ⟨a, b, c⟩ := sa_val hg hn
  have hv : dcnt (mpts two idI n) = 0 := by
    have := dcnt_le (L := mpts two idI n) (M := []) (fun v hv => by
      obtain ⟨i, k, _, hx, _⟩ := (mpts_mem v).1 hv
      exact absurd rfl hx)
    have h2 := dcnt_pos (mpts two idI n)
    have h3 : dcnt ([] : List R4) = 0 := rfl
    omega
  have hc : crS two idI n = 0 := by
    unfold crS
    refine smf_zero _ fun i _ _ => ?_
    have key : ∀ m : Nat, crL two idI i m = [] := by
      intro m
      induction m with
      | zero => rfl
      | succ m ih => rw [crL, if_pos (show two (m : Int) = two (i : Int) from rfl), ih]
    unfold crN
    rw [key]
    rfl
  omega

theorem arr_q (X Y : Int → Int) (n : Int) : RunsTo Try.prog 11 [.sl 0 2 (.lit 0) (.v fun _ => n) 1048576] [some (grB X Y n)]
    (.tup [.int .i64 (.v fun _ => saV X Y n) (-1) 64, .int .i64 (.v fun _ => saE X Y n) (-1) 72, .int .i64 (.v fun _ => saF X Y n) (-100) 100]) [some (grB X Y n)] := by
  have h := arr_runs X Y n
  rw [(ar_sa X Y n).1, (ar_sa X Y n).2.1, (ar_sa X Y n).2.2] at h
  exact h
theorem i_Arrangement_pre (X : Int → Int) (Y : Int → Int) (n : Int) (N : Int) (hp : n ≤ N) : RunsTo Try.prog 11 [(.sl 0 2 (.lit 0) (.v fun _ => n) 1048576)] [some ⟨35, 2, true, (.sym (.v fun _ => N) fun e => [(.int .i64 (.v fun _ => (X (e.den))) (-9223372036854775808) 9223372036854775807), (.int .i64 (.v fun _ => (Y (e.den))) (-9223372036854775808) 9223372036854775807)])⟩] (.tup [(.int .i64 (.v fun _ => saV X Y n) (-1) 64), (.int .i64 (.v fun _ => saE X Y n) (-1) 72), (.int .i64 (.v fun _ => saF X Y n) (-100) 100)]) [some ⟨35, 2, true, (.sym (.v fun _ => N) fun e => [(.int .i64 (.v fun _ => (X (e.den))) (-9223372036854775808) 9223372036854775807), (.int .i64 (.v fun _ => (Y (e.den))) (-9223372036854775808) 9223372036854775807)])⟩] := RunsTo.less (RunsTo.part (s := 0) (N := N) (arr_q X Y n) (fun _ _ _ h => h) (fun _ _ _ h => h) (by omega) (fun _ _ e vs _ _ h => by rw [Int.zero_add] at h; exact h)) ⟨⟨rfl, rfl, rfl, rfl, fun h => h⟩, trivial⟩ (memQ_refl _ rfl)
def c_i_Arrangement_pre (X : Int → Int) (Y : Int → Int) (n : Int) (N : Int) : CnH Try.prog := ⟨_, _, _, _, _, _, i_Arrangement_pre X Y n N⟩
theorem i_Arrangement (X : Int → Int) (Y : Int → Int) (n : Int) : RunsTo Try.prog 11 [(.sl 0 2 (.lit 0) (.v fun _ => n) 1048576)] [some ⟨35, 2, true, (.sym (.v fun _ => n) fun e => [(.int .i64 (.v fun _ => (X (e.den))) (-9223372036854775808) 9223372036854775807), (.int .i64 (.v fun _ => (Y (e.den))) (-9223372036854775808) 9223372036854775807)])⟩] (.tup [(.int .i64 (.v fun _ => saV X Y n) (-1) 64), (.int .i64 (.v fun _ => saE X Y n) (-1) 72), (.int .i64 (.v fun _ => saF X Y n) (-100) 100)]) [some ⟨35, 2, true, (.sym (.v fun _ => n) fun e => [(.int .i64 (.v fun _ => (X (e.den))) (-9223372036854775808) 9223372036854775807), (.int .i64 (.v fun _ => (Y (e.den))) (-9223372036854775808) 9223372036854775807)])⟩] := RunsTo.less (RunsTo.part (s := 0) (N := n) (arr_q X Y n) (fun _ _ _ h => h) (fun _ _ _ h => h) (by omega) (fun _ _ e vs _ _ h => by rw [Int.zero_add] at h; exact h)) ⟨⟨rfl, rfl, rfl, rfl, fun h => h⟩, trivial⟩ (memQ_refl _ rfl)
def c_i_Arrangement (X : Int → Int) (Y : Int → Int) (n : Int) : Cn Try.prog := ⟨_, _, _, _, _, i_Arrangement X Y n⟩
end Go.Proofs.Ytbldachljmhfjaa
