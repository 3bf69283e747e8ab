/- The stable sort of pairs: the rounds. -/
import Derived.Test.YtcfkpdjbjfnnmaaK66
set_option linter.unusedSimpArgs false
set_option linter.unusedVariables false
set_option maxRecDepth 100000
namespace Go.Proofs.Ytcfkpdjbjfnnmaa
open Go.Sym
theorem Re.at_ {F G : PF} {a b : Int} (h : Re F G a b) (i : Int) : ∃ i', G i = F i' ∧ (((i < a ∨ b ≤ i) ∧ i' = i) ∨ ((a ≤ i ∧ i < b) ∧ a ≤ i' ∧ i' < b)) := by
  by_cases c : a ≤ i ∧ i < b
  · obtain ⟨j, hj, e⟩ := h.fwd i c.1 c.2
    exact ⟨j, e, .inr ⟨c, hj⟩⟩
  · exact ⟨i, h.out i (by omega), .inl ⟨by omega, rfl⟩⟩
/-- Blocks of bs are sorted from a on, blocks of b2 before a; blocks stand in order. -/
structure StK (X Y A B A1 B1 : Int → Int) (m bs b2 a : Int) : Prop where
  re : Re (zp A B) (zp A1 B1) 0 m
  lx : ∀ i j, 0 ≤ i → i < j → j < m → (i / b2 < j / b2 ∨ (a ≤ i ∧ i / bs < j / bs)) → lexP (zp A1 B1 i) (zp A1 B1 j)
  so : ∀ i j, 0 ≤ i → i < j → j < m → ((j < a ∧ i / b2 = j / b2) ∨ (a ≤ i ∧ i / bs = j / bs)) → lt3 X Y (zp A1 B1 i) (zp A1 B1 j)
  md : (0 ≤ a ∧ a ≤ m) ∧ (a % b2 = 0 ∨ a = m)
def okBs (bs b2 : Int) : Prop := (bs = 1 ∧ b2 = 20) ∨ (bs = 20 ∧ b2 = 40) ∨ (bs = 40 ∧ b2 = 80) ∨ (bs = 80 ∧ b2 = 160) ∨ (bs = 160 ∧ b2 = 320)
section
variable {X Y A B A1 B1 A2 B2 : Int → Int} {n m bs b2 a e : Int}
theorem StK.step (h : StK X Y A B A1 B1 m bs b2 a) (hb : okBs bs b2) (g : mrgP X Y A1 B1 A2 B2 a e) (h1 : a < e) (h2 : e ≤ m) (h3 : e = a + b2 ∨ (e = m ∧ m < a + b2)) : StK X Y A B A2 B2 m bs b2 e := by
  have hm := h.md
  refine ⟨h.re.trans (g.1.wide hm.1.1 h2), fun i j h0 hij hj hc => ?_, fun i j h0 hij hj hc => ?_, ?_⟩
  · obtain ⟨i', ei, hi⟩ := g.1.at_ i
    obtain ⟨j', ej, hj'⟩ := g.1.at_ j
    rw [ei, ej]
    rcases hb with ⟨rfl, rfl⟩ | ⟨rfl, rfl⟩ | ⟨rfl, rfl⟩ | ⟨rfl, rfl⟩ | ⟨rfl, rfl⟩ <;> exact h.lx i' j' (by omega) (by omega) (by omega) (by omega)
  · by_cases c : a ≤ i ∧ j < e
    · exact g.2 i j c.1 hij c.2
    · have c2 : j < a ∨ e ≤ i := by
        rcases hb with ⟨rfl, rfl⟩ | ⟨rfl, rfl⟩ | ⟨rfl, rfl⟩ | ⟨rfl, rfl⟩ | ⟨rfl, rfl⟩ <;> omega
      rw [g.1.out i (by omega), g.1.out j (by omega)]
      rcases hb with ⟨rfl, rfl⟩ | ⟨rfl, rfl⟩ | ⟨rfl, rfl⟩ | ⟨rfl, rfl⟩ | ⟨rfl, rfl⟩ <;> exact h.so i j h0 hij hj (by omega)
  · rcases hb with ⟨rfl, rfl⟩ | ⟨rfl, rfl⟩ | ⟨rfl, rfl⟩ | ⟨rfl, rfl⟩ | ⟨rfl, rfl⟩ <;> omega
theorem StK.insq (h : StK X Y A B A1 B1 m 1 20 a) (hA : edR A B n m) (h1 : a ≤ e) (h2 : e ≤ m) : insQ A1 B1 n m a e := by
  have hm := h.md
  refine ⟨edR_re hA h.re (Int.le_refl _) (Int.le_refl _), by omega, fun i j h0 hij hj => h.lx i j (by omega) hij (by omega) (.inr ⟨h0, by omega⟩)⟩
theorem StK.mrq (h : StK X Y A B A1 B1 m bs b2 a) (hb : okBs bs b2) (hn1 : bs ≠ 1) (hA : edR A B n m) (h1 : a + bs < e) (h2 : e ≤ m) (h3 : e ≤ a + b2) : mrgR X Y A1 B1 n m a (a + bs) e := by
  have hm := h.md
  refine ⟨edR_re hA h.re (Int.le_refl _) (Int.le_refl _), ?_, fun i j h0 hij hj => h.so i j (by omega) hij ?_ (.inr ⟨h0, ?_⟩), fun i j h0 hij hj => h.so i j ?_ hij (by omega) (.inr ⟨?_, ?_⟩), fun i j h0 h4 h5 h6 => h.lx i j (by omega) (by omega) (by omega) (.inr ⟨h0, ?_⟩)⟩ <;> rcases hb with ⟨rfl, rfl⟩ | ⟨rfl, rfl⟩ | ⟨rfl, rfl⟩ | ⟨rfl, rfl⟩ | ⟨rfl, rfl⟩ <;> omega
/-- A round is over. -/
theorem StK.over (h : StK X Y A B A1 B1 m bs b2 a) (hb : okBs bs b2) (h1 : m ≤ a + bs) {b4 : Int} (hb2 : okBs b2 b4) : StK X Y A B A1 B1 m b2 b4 0 := by
  have hm := h.md
  refine ⟨h.re, fun i j h0 hij hj hc => ?_, fun i j h0 hij hj hc => ?_, by omega, .inl (Int.zero_emod _)⟩
  · rcases hb with ⟨rfl, rfl⟩ | ⟨rfl, rfl⟩ | ⟨rfl, rfl⟩ | ⟨rfl, rfl⟩ | ⟨rfl, rfl⟩ <;> rcases hb2 with ⟨h4, rfl⟩ | ⟨h4, rfl⟩ | ⟨h4, rfl⟩ | ⟨h4, rfl⟩ | ⟨h4, rfl⟩ <;> first | (exfalso; omega) | exact h.lx i j h0 hij hj (by omega)
  · rcases hb with ⟨rfl, rfl⟩ | ⟨rfl, rfl⟩ | ⟨rfl, rfl⟩ | ⟨rfl, rfl⟩ | ⟨rfl, rfl⟩ <;> rcases hb2 with ⟨h4, rfl⟩ | ⟨h4, rfl⟩ | ⟨h4, rfl⟩ | ⟨h4, rfl⟩ | ⟨h4, rfl⟩ <;> first | (exfalso; omega) | exact h.so i j h0 hij hj (by omega)
theorem StK.start (hm : 0 ≤ m) (h : lexS (zp A B) 0 m) : StK X Y A B A B m 1 20 0 :=
  ⟨Re.refl _ _ _, fun i j h0 hij hj _ => h i j h0 hij hj, fun i j h0 hij hj hc => by omega, by omega⟩
/-- All is one block. -/
theorem StK.all (h : StK X Y A B A1 B1 m bs b2 0) (h0 : 0 < bs) (hm : m ≤ bs) : mrgP X Y A B A1 B1 0 m :=
  ⟨h.re, fun i j i0 hij hj => h.so i j i0 hij hj (.inr ⟨i0, by rw [Int.ediv_eq_zero_of_lt (by omega) (by omega), Int.ediv_eq_zero_of_lt (by omega) (by omega)]⟩)⟩
end
/-- The state of the rounds. -/
def stR2 (X Y A B A1 B1 : Int → Int) (m bs : Int) : Prop := (∃ b2, okBs bs b2 ∧ bs ≠ 1 ∧ StK X Y A B A1 B1 m bs b2 0) ∨ (bs = 320 ∧ mrgP X Y A B A1 B1 0 m)
def stR3 (X Y A B A1 B1 : Int → Int) (m bs a : Int) : Prop := (okBs bs (2 * bs) ∧ bs ≠ 1 ∧ bs < m) ∧ StK X Y A B A1 B1 m bs (2 * bs) a
def stR1 (X Y A B A1 B1 : Int → Int) (n m a : Int) : Prop := (edR A B n m ∧ 0 ≤ m ∧ m ≤ 320) ∧ StK X Y A B A1 B1 m 1 20 a
section
variable {X Y A B A1 B1 A2 B2 : Int → Int} {n m bs a : Int}
theorem st1_0 (hp : edR A B n m ∧ lexS (zp A B) 0 m ∧ m ≤ 320) (hm : 0 ≤ m) : stR1 X Y A B A B n m 0 := ⟨⟨hp.1, hm, hp.2.2⟩, StK.start hm hp.2.1⟩
theorem st1_bd (h : stR1 X Y A B A1 B1 n m a) : 0 ≤ a ∧ a ≤ m := h.2.md.1
theorem st1_q (h : stR1 X Y A B A1 B1 n m a) (h1 : a + 20 ≤ m) : insQ A1 B1 n m a (a + 20) := h.2.insq h.1.1 (by omega) h1
theorem st1_q2 (h : stR1 X Y A B A1 B1 n m a) : insQ A1 B1 n m a m := h.2.insq h.1.1 h.2.md.1.2 (Int.le_refl _)
theorem st1_nx (h : stR1 X Y A B A1 B1 n m a) (h1 : a + 20 ≤ m) (g : mrgP X Y A1 B1 A2 B2 a (a + 20)) : stR1 X Y A B A2 B2 n m (a + 20) := ⟨h.1, h.2.step (.inl ⟨rfl, rfl⟩) g (by omega) h1 (.inl rfl)⟩
theorem st1_end (h : stR1 X Y A B A1 B1 n m a) (h1 : m < a + 20) (g : mrgP X Y A1 B1 A2 B2 a m) : stR2 X Y A B A2 B2 m 20 := by
  have hm := h.2.md
  refine .inl ⟨40, .inr (.inl ⟨rfl, rfl⟩), by omega, ?_⟩
  by_cases e : a = m
  · subst e
    have hk : StK X Y A B A2 B2 a 1 20 a := by
      refine ⟨h.2.re.trans (g.1.wide hm.1.1 (Int.le_refl _)), fun i j h0 hij hj hc => ?_, fun i j h0 hij hj hc => ?_, hm⟩
      · rw [g.1.out i (by omega), g.1.out j (by omega)]; exact h.2.lx i j h0 hij hj hc
      · rw [g.1.out i (by omega), g.1.out j (by omega)]; exact h.2.so i j h0 hij hj hc
    exact hk.over (.inl ⟨rfl, rfl⟩) (by omega) (.inr (.inl ⟨rfl, rfl⟩))
  · exact (h.2.step (.inl ⟨rfl, rfl⟩) g (by omega) (Int.le_refl _) (.inr ⟨rfl, by omega⟩)).over (.inl ⟨rfl, rfl⟩) (by omega) (.inr (.inl ⟨rfl, rfl⟩))
theorem st2_bd (h : stR2 X Y A B A1 B1 m bs) : 20 ≤ bs ∧ bs ≤ 320 := by
  rcases h with ⟨b2, h, h1, _⟩ | ⟨h, _⟩
  · unfold okBs at h; omega
  · omega
theorem st2_in (h : stR2 X Y A B A1 B1 m bs) (h1 : bs < m) (hm : m ≤ 320) : stR3 X Y A B A1 B1 m bs 0 := by
  rcases h with ⟨b2, h, h2, h3⟩ | ⟨h, _⟩
  · have e : b2 = 2 * bs := by unfold okBs at h; omega
    subst e
    exact ⟨⟨h, h2, h1⟩, h3⟩
  · omega
theorem st2_end (h : stR2 X Y A B A1 B1 m bs) (h1 : m ≤ bs) : mrgP X Y A B A1 B1 0 m := by
  have hb := st2_bd h
  rcases h with ⟨b2, h, h2, h3⟩ | ⟨h, h2⟩
  · exact h3.all (by omega) h1
  · exact h2
theorem st3_bd (h : stR3 X Y A B A1 B1 m bs a) : (0 ≤ a ∧ a ≤ m) ∧ 20 ≤ bs ∧ bs ≤ 160 := by
  have := h.1.1
  unfold okBs at this
  exact ⟨h.2.md.1, by omega⟩
theorem st3_q (h : stR3 X Y A B A1 B1 m bs a) (hA : edR A B n m) (h1 : a + 2 * bs ≤ m) : mrgR X Y A1 B1 n m a (a + bs) (a + 2 * bs) := by
  have hb := st3_bd h
  exact h.2.mrq h.1.1 h.1.2.1 hA (by omega) h1 (Int.le_refl _)
theorem st3_q2 (h : stR3 X Y A B A1 B1 m bs a) (hA : edR A B n m) (h1 : a + bs < m) (h2 : m < a + 2 * bs) : mrgR X Y A1 B1 n m a (a + bs) m := h.2.mrq h.1.1 h.1.2.1 hA h1 (Int.le_refl _) (by omega)
theorem st3_nx (h : stR3 X Y A B A1 B1 m bs a) (h1 : a + 2 * bs ≤ m) (g : mrgP X Y A1 B1 A2 B2 a (a + 2 * bs)) : stR3 X Y A B A2 B2 m bs (a + 2 * bs) := by
  have hb := st3_bd h
  exact ⟨h.1, h.2.step h.1.1 g (by omega) h1 (.inl rfl)⟩
theorem st3_over (h : stR3 X Y A B A1 B1 m bs a) (hm : m ≤ 320) (h1 : m ≤ a + bs) : stR2 X Y A B A1 B1 m (bs * 2) := by
  have ho := h.1
  have hk := h.2
  unfold okBs at ho
  rcases ho.1 with ⟨rfl, e⟩ | ⟨rfl, e⟩ | ⟨rfl, e⟩ | ⟨rfl, e⟩ | ⟨rfl, e⟩
  · omega
  · exact .inl ⟨80, .inr (.inr (.inl ⟨rfl, rfl⟩)), by omega, hk.over (.inr (.inl ⟨rfl, rfl⟩)) h1 (.inr (.inr (.inl ⟨rfl, rfl⟩)))⟩
  · exact .inl ⟨160, .inr (.inr (.inr (.inl ⟨rfl, rfl⟩))), by omega, hk.over (.inr (.inr (.inl ⟨rfl, rfl⟩))) h1 (.inr (.inr (.inr (.inl ⟨rfl, rfl⟩))))⟩
  · exact .inl ⟨320, .inr (.inr (.inr (.inr ⟨rfl, rfl⟩))), by omega, hk.over (.inr (.inr (.inr (.inl ⟨rfl, rfl⟩)))) h1 (.inr (.inr (.inr (.inr ⟨rfl, rfl⟩))))⟩
  · refine .inr ⟨rfl, hk.re, fun i j i0 hij hj => hk.so i j i0 hij hj ?_⟩
    have hm2 := hk.md
    omega
theorem st3_over2 (h : stR3 X Y A B A1 B1 m bs a) (hm : m ≤ 320) (h1 : a + bs < m) (h2 : m < a + 2 * bs) (g : mrgP X Y A1 B1 A2 B2 a m) : stR2 X Y A B A2 B2 m (bs * 2) := by
  have hb := st3_bd h
  have hk : stR3 X Y A B A2 B2 m bs m := ⟨h.1, h.2.step h.1.1 g (by omega) (Int.le_refl _) (.inr ⟨rfl, h2⟩)⟩
  exact st3_over hk hm (by omega)
end

set_option maxHeartbeats 1000000
theorem s_stable (X : Int → Int) (Y : Int → Int) (n : Int) (A : Int → Int) (B : Int → Int) (m : Int) (hp : edR A B n m ∧ lexS (zp A B) 0 m ∧ m ≤ 320) : Runs Try.prog 128 [(.sl 0 2 (.lit 0) (.v fun _ => m) 1048576), (.int .i64 (.v fun _ => m) 0 1048576), (.fn 93 [(.ptr 1 1 (.lit 0) 0)])] [some ⟨58, 2, true, (.sym (.v fun _ => m) fun e => [(.int .i64 (.v fun _ => (A (e.den))) 0 1048576), (.int .i64 (.v fun _ => (B (e.den))) 0 1048576)])⟩, some ⟨27, 1, true, (.lit [[(.sl 2 2 (.lit 0) (.v fun _ => n) 1048576)]])⟩, some ⟨50, 2, true, (.sym (.v fun _ => n) fun e => [(.int .i64 (.v fun _ => (X (e.den))) (-1000) 1000), (.int .i64 (.v fun _ => (Y (e.den))) (-1000) 1000)])⟩] fun rr mm => ∃ x : (Int → Int) × (Int → Int), (mrgP X Y A B x.1 x.2 0 m) ∧ rr = (.tup []) ∧ mm = [some ⟨58, 2, true, (.sym (.v fun _ => m) fun e => [(.int .i64 (.v fun _ => (x.1 (e.den))) 0 1048576), (.int .i64 (.v fun _ => (x.2 (e.den))) 0 1048576)])⟩, some ⟨27, 1, true, (.lit [[(.sl 2 2 (.lit 0) (.v fun _ => n) 1048576)]])⟩, some ⟨50, 2, true, (.sym (.v fun _ => n) fun e => [(.int .i64 (.v fun _ => (X (e.den))) (-1000) 1000), (.int .i64 (.v fun _ => (Y (e.den))) (-1000) 1000)])⟩] := by
  refine RunsX.go (X := (Int → Int) × (Int → Int)) (I := (fun x => mrgP X Y A B x.1 x.2 0 m)) (R := (fun x => (.tup []))) (M := (fun x => [some ⟨58, 2, true, (.sym (.v fun _ => m) fun e => [(.int .i64 (.v fun _ => (x.1 (e.den))) 0 1048576), (.int .i64 (.v fun _ => (x.2 (e.den))) 0 1048576)])⟩, some ⟨27, 1, true, (.lit [[(.sl 2 2 (.lit 0) (.v fun _ => n) 1048576)]])⟩, some ⟨50, 2, true, (.sym (.v fun _ => n) fun e => [(.int .i64 (.v fun _ => (X (e.den))) (-1000) 1000), (.int .i64 (.v fun _ => (Y (e.den))) (-1000) 1000)])⟩])) env Try.func128 rfl Try.call128 rfl rfl (fun _ _ => (.loop [] [0, 1, 2] ((Int → Int) × (Int → Int) × Int) (fun x1 => ⟨spl 63 0 [(0, (.sl 0 2 (.lit 0) (.v fun _ => m) 1048576)), (1, (.int .i64 (.v fun _ => m) 0 1048576)), (2, (.fn 93 [(.ptr 1 1 (.lit 0) 0)])), (6, (.int .i64 (.lit 20) 20 20)), (7, (.int .i64 (.v fun _ => x1.2.2) 0 400)), (8, (.int .i64 (.v fun _ => x1.2.2 + 20) 0 420))], [some ⟨58, 2, true, (.sym (.v fun _ => m) fun e => [(.int .i64 (.v fun _ => (x1.1 (e.den))) 0 1048576), (.int .i64 (.v fun _ => (x1.2.1 (e.den))) 0 1048576)])⟩, some ⟨27, 1, true, (.lit [[(.sl 2 2 (.lit 0) (.v fun _ => n) 1048576)]])⟩, some ⟨50, 2, true, (.sym (.v fun _ => n) fun e => [(.int .i64 (.v fun _ => (X (e.den))) (-1000) 1000), (.int .i64 (.v fun _ => (Y (e.den))) (-1000) 1000)])⟩], 3⟩) (fun x1 => stR1 X Y A B x1.1 x1.2.1 n m x1.2.2) (fun x1 => (m - x1.2.2).toNat) fun x1 => (.ite (.callXH (c_s_insert X Y n x1.1 x1.2.1 m x1.2.2 (x1.2.2 + 20)) fun x7 => (.next [0, 1, 2])) (.out (.callXH (c_s_insert X Y n x1.1 x1.2.1 m x1.2.2 m) fun x15 => (.loop [] [0, 1, 2] ((Int → Int) × (Int → Int) × Int) (fun x18 => ⟨spl 63 0 [(0, (.sl 0 2 (.lit 0) (.v fun _ => m) 1048576)), (1, (.int .i64 (.v fun _ => m) 0 1048576)), (2, (.fn 93 [(.ptr 1 1 (.lit 0) 0)])), (6, (.int .i64 (.v fun _ => x18.2.2) 0 400))], [some ⟨58, 2, true, (.sym (.v fun _ => m) fun e => [(.int .i64 (.v fun _ => (x18.1 (e.den))) 0 1048576), (.int .i64 (.v fun _ => (x18.2.1 (e.den))) 0 1048576)])⟩, some ⟨27, 1, true, (.lit [[(.sl 2 2 (.lit 0) (.v fun _ => n) 1048576)]])⟩, some ⟨50, 2, true, (.sym (.v fun _ => n) fun e => [(.int .i64 (.v fun _ => ((X (e.den)))) (-1000) 1000), (.int .i64 (.v fun _ => ((Y (e.den)))) (-1000) 1000)])⟩], 3⟩) (fun x18 => stR2 X Y A B x18.1 x18.2.1 m x18.2.2) (fun x18 => (m - x18.2.2).toNat) fun x18 => (.ite (.loop [] [0, 1, 2] ((Int → Int) × (Int → Int) × Int) (fun x22 => ⟨spl 63 0 [(0, (.sl 0 2 (.lit 0) (.v fun _ => m) 1048576)), (1, (.int .i64 (.v fun _ => m) 0 1048576)), (2, (.fn 93 [(.ptr 1 1 (.lit 0) 0)])), (6, (.int .i64 (.v fun _ => x18.2.2) 0 400)), (7, (.int .i64 (.v fun _ => x22.2.2) 0 400)), (8, (.int .i64 (.v fun _ => x22.2.2 + 2 * x18.2.2) 0 2000)), (28, (.int .i64 (.v fun _ => x18.2.2) 0 400)), (29, (.int .i64 (.v fun _ => m) 0 1048576)), (30, (.bool (.lt (.v fun _ => x18.2.2) (.v fun _ => m)))), (31, (.int .i64 (.v fun _ => x18.2.2) 0 400)), (32, (.int .i64 (.mul (.lit 2) (.v fun _ => x18.2.2)) 0 800))], [some ⟨58, 2, true, (.sym (.v fun _ => m) fun e => [(.int .i64 (.v fun _ => (x22.1 (e.den))) 0 1048576), (.int .i64 (.v fun _ => (x22.2.1 (e.den))) 0 1048576)])⟩, some ⟨27, 1, true, (.lit [[(.sl 2 2 (.lit 0) (.v fun _ => n) 1048576)]])⟩, some ⟨50, 2, true, (.sym (.v fun _ => n) fun e => [(.int .i64 (.v fun _ => ((X (e.den)))) (-1000) 1000), (.int .i64 (.v fun _ => ((Y (e.den)))) (-1000) 1000)])⟩], 3⟩) (fun x22 => stR3 X Y A B x22.1 x22.2.1 m x18.2.2 x22.2.2) (fun x22 => (m - x22.2.2).toNat) fun x22 => (.ite (.callXH (c_s_symMerge X Y n x22.1 x22.2.1 m x22.2.2 (x22.2.2 + x18.2.2) (x22.2.2 + 2 * x18.2.2)) fun x28 => (.next [0, 1, 2])) (.out (.ite (.callXH (c_s_symMerge X Y n x22.1 x22.2.1 m x22.2.2 (x22.2.2 + x18.2.2) m) fun x36 => (.next [0, 1, 2])) (.next [0, 1, 2]))))) (.out .ret)))))))) (G := ((0 ≤ m ∧ m ≤ 1048576) ∧ (0 ≤ m ∧ m ≤ 1048576)) → ((∀ e49 : E, ((0 ≤ e49.den ∧ e49.den < m) → ((0 ≤ ((A (e49.den))) ∧ ((A (e49.den))) ≤ 1048576) ∧ (0 ≤ ((B (e49.den))) ∧ ((B (e49.den))) ≤ 1048576)))) ∧ ((0 ≤ n ∧ n ≤ 1048576) ∧ (∀ e48 : E, ((0 ≤ e48.den ∧ e48.den < n) → (((-1000) ≤ ((X (e48.den))) ∧ ((X (e48.den))) ≤ 1000) ∧ ((-1000) ≤ ((Y (e48.den))) ∧ ((Y (e48.den))) ≤ 1000)))))) → ((∃ y2 : (Int → Int) × (Int → Int) × Int, ((stR1 X Y A B y2.1 y2.2.1 n m y2.2.2) ∧ (((m = m) ∧ ((m = m) ∧ (((0 : Int) = y2.2.2) ∧ ((20 : Int) = (y2.2.2 + 20))))) ∧ (((m ≤ m) ∧ (∀ e4 : E, ((0 ≤ e4.den ∧ e4.den < m) → ((((A (e4.den))) = ((y2.1 (e4.den)))) ∧ (((B (e4.den))) = ((y2.2.1 (e4.den)))))))) ∧ ((n = n) ∧ ((n ≤ n) ∧ (∀ e3 : E, ((0 ≤ e3.den ∧ e3.den < n) → ((((X (e3.den))) = ((X (e3.den)))) ∧ (((Y (e3.den))) = ((Y (e3.den))))))))))))) ∧ (∀ x1 : (Int → Int) × (Int → Int) × Int, ((stR1 X Y A B x1.1 x1.2.1 n m x1.2.2) → ((((x1.2.2 + 20) ≤ m) → ((insQ x1.1 x1.2.1 n m x1.2.2 (x1.2.2 + 20)) ∧ (((m = m) ∧ ((x1.2.2 = x1.2.2) ∧ ((x1.2.2 + 20) = (x1.2.2 + 20)))) ∧ ((((m ≤ m) ∧ (∀ e6 : E, ((0 ≤ e6.den ∧ e6.den < m) → ((((x1.1 (e6.den))) = ((x1.1 (e6.den)))) ∧ (((x1.2.1 (e6.den))) = ((x1.2.1 (e6.den)))))))) ∧ ((n = n) ∧ ((n ≤ n) ∧ (∀ e5 : E, ((0 ≤ e5.den ∧ e5.den < n) → ((((X (e5.den))) = ((X (e5.den)))) ∧ (((Y (e5.den))) = ((Y (e5.den)))))))))) ∧ (∀ x7 : (Int → Int) × (Int → Int), ((mrgP X Y x1.1 x1.2.1 x7.1 x7.2 x1.2.2 (x1.2.2 + 20)) → (∃ y10 : (Int → Int) × (Int → Int) × Int, ((stR1 X Y A B y10.1 y10.2.1 n m y10.2.2) ∧ ((((m = m) ∧ ((m = m) ∧ ((((x1.2.2 + 20) = y10.2.2) ∧ ((0 ≤ (x1.2.2 + 20) ∧ (x1.2.2 + 20) ≤ 420) → (0 ≤ y10.2.2 ∧ y10.2.2 ≤ 400))) ∧ ((((x1.2.2 + 20) + 20) = (y10.2.2 + 20)) ∧ ((20 ≤ ((x1.2.2 + 20) + 20) ∧ ((x1.2.2 + 20) + 20) ≤ 440) → (0 ≤ (y10.2.2 + 20) ∧ (y10.2.2 + 20) ≤ 420)))))) ∧ (((m ≤ m) ∧ (∀ e12 : E, ((0 ≤ e12.den ∧ e12.den < m) → ((((x7.1 (e12.den))) = ((y10.1 (e12.den)))) ∧ (((x7.2 (e12.den))) = ((y10.2.1 (e12.den)))))))) ∧ ((n = n) ∧ ((n ≤ n) ∧ (∀ e11 : E, ((0 ≤ e11.den ∧ e11.den < n) → ((((X (e11.den))) = ((X (e11.den)))) ∧ (((Y (e11.den))) = ((Y (e11.den))))))))))) ∧ ((m - y10.2.2).toNat < (m - x1.2.2).toNat)))))))))) ∧ ((m < (x1.2.2 + 20)) → ((insQ x1.1 x1.2.1 n m x1.2.2 m) ∧ (((m = m) ∧ ((x1.2.2 = x1.2.2) ∧ (m = m))) ∧ ((((m ≤ m) ∧ (∀ e14 : E, ((0 ≤ e14.den ∧ e14.den < m) → ((((x1.1 (e14.den))) = ((x1.1 (e14.den)))) ∧ (((x1.2.1 (e14.den))) = ((x1.2.1 (e14.den)))))))) ∧ ((n = n) ∧ ((n ≤ n) ∧ (∀ e13 : E, ((0 ≤ e13.den ∧ e13.den < n) → ((((X (e13.den))) = ((X (e13.den)))) ∧ (((Y (e13.den))) = ((Y (e13.den)))))))))) ∧ (∀ x15 : (Int → Int) × (Int → Int), ((mrgP X Y x1.1 x1.2.1 x15.1 x15.2 x1.2.2 m) → ((∃ y19 : (Int → Int) × (Int → Int) × Int, ((stR2 X Y A B y19.1 y19.2.1 m y19.2.2) ∧ (((m = m) ∧ ((m = m) ∧ ((20 : Int) = y19.2.2))) ∧ (((m ≤ m) ∧ (∀ e21 : E, ((0 ≤ e21.den ∧ e21.den < m) → ((((x15.1 (e21.den))) = ((y19.1 (e21.den)))) ∧ (((x15.2 (e21.den))) = ((y19.2.1 (e21.den)))))))) ∧ ((n = n) ∧ ((n ≤ n) ∧ (∀ e20 : E, ((0 ≤ e20.den ∧ e20.den < n) → ((((X (e20.den))) = ((X (e20.den)))) ∧ (((Y (e20.den))) = ((Y (e20.den))))))))))))) ∧ (∀ x18 : (Int → Int) × (Int → Int) × Int, ((stR2 X Y A B x18.1 x18.2.1 m x18.2.2) → (((x18.2.2 < m) → ((∃ y23 : (Int → Int) × (Int → Int) × Int, ((stR3 X Y A B y23.1 y23.2.1 m x18.2.2 y23.2.2) ∧ (((m = m) ∧ ((m = m) ∧ ((x18.2.2 = x18.2.2) ∧ (((0 : Int) = y23.2.2) ∧ (((2 * x18.2.2) = (y23.2.2 + 2 * x18.2.2)) ∧ ((x18.2.2 = x18.2.2) ∧ ((m = m) ∧ (((x18.2.2 < m) ↔ (x18.2.2 < m)) ∧ ((x18.2.2 = x18.2.2) ∧ ((2 * x18.2.2) = (2 * x18.2.2))))))))))) ∧ (((m ≤ m) ∧ (∀ e25 : E, ((0 ≤ e25.den ∧ e25.den < m) → ((((x18.1 (e25.den))) = ((y23.1 (e25.den)))) ∧ (((x18.2.1 (e25.den))) = ((y23.2.1 (e25.den)))))))) ∧ ((n = n) ∧ ((n ≤ n) ∧ (∀ e24 : E, ((0 ≤ e24.den ∧ e24.den < n) → ((((X (e24.den))) = ((X (e24.den)))) ∧ (((Y (e24.den))) = ((Y (e24.den))))))))))))) ∧ (∀ x22 : (Int → Int) × (Int → Int) × Int, ((stR3 X Y A B x22.1 x22.2.1 m x18.2.2 x22.2.2) → ((((x22.2.2 + 2 * x18.2.2) ≤ m) → ((mrgR X Y x22.1 x22.2.1 n m x22.2.2 (x22.2.2 + x18.2.2) (x22.2.2 + 2 * x18.2.2)) ∧ (((m = m) ∧ ((x22.2.2 = x22.2.2) ∧ (((x22.2.2 + x18.2.2) = (x22.2.2 + x18.2.2)) ∧ ((x22.2.2 + 2 * x18.2.2) = (x22.2.2 + 2 * x18.2.2))))) ∧ ((((m ≤ m) ∧ (∀ e27 : E, ((0 ≤ e27.den ∧ e27.den < m) → ((((x22.1 (e27.den))) = ((x22.1 (e27.den)))) ∧ (((x22.2.1 (e27.den))) = ((x22.2.1 (e27.den)))))))) ∧ ((n = n) ∧ ((n ≤ n) ∧ (∀ e26 : E, ((0 ≤ e26.den ∧ e26.den < n) → ((((X (e26.den))) = ((X (e26.den)))) ∧ (((Y (e26.den))) = ((Y (e26.den)))))))))) ∧ (∀ x28 : (Int → Int) × (Int → Int), ((mrgP X Y x22.1 x22.2.1 x28.1 x28.2 x22.2.2 (x22.2.2 + 2 * x18.2.2)) → (∃ y31 : (Int → Int) × (Int → Int) × Int, ((stR3 X Y A B y31.1 y31.2.1 m x18.2.2 y31.2.2) ∧ ((((m = m) ∧ ((m = m) ∧ ((x18.2.2 = x18.2.2) ∧ ((((x22.2.2 + 2 * x18.2.2) = y31.2.2) ∧ ((0 ≤ (x22.2.2 + 2 * x18.2.2) ∧ (x22.2.2 + 2 * x18.2.2) ≤ 2000) → (0 ≤ y31.2.2 ∧ y31.2.2 ≤ 400))) ∧ (((((x22.2.2 + 2 * x18.2.2) + (2 * x18.2.2)) = (y31.2.2 + 2 * x18.2.2)) ∧ ((0 ≤ ((x22.2.2 + 2 * x18.2.2) + (2 * x18.2.2)) ∧ ((x22.2.2 + 2 * x18.2.2) + (2 * x18.2.2)) ≤ 2800) → (0 ≤ (y31.2.2 + 2 * x18.2.2) ∧ (y31.2.2 + 2 * x18.2.2) ≤ 2000))) ∧ ((x18.2.2 = x18.2.2) ∧ ((m = m) ∧ (((x18.2.2 < m) ↔ (x18.2.2 < m)) ∧ ((x18.2.2 = x18.2.2) ∧ ((2 * x18.2.2) = (2 * x18.2.2))))))))))) ∧ (((m ≤ m) ∧ (∀ e33 : E, ((0 ≤ e33.den ∧ e33.den < m) → ((((x28.1 (e33.den))) = ((y31.1 (e33.den)))) ∧ (((x28.2 (e33.den))) = ((y31.2.1 (e33.den)))))))) ∧ ((n = n) ∧ ((n ≤ n) ∧ (∀ e32 : E, ((0 ≤ e32.den ∧ e32.den < n) → ((((X (e32.den))) = ((X (e32.den)))) ∧ (((Y (e32.den))) = ((Y (e32.den))))))))))) ∧ ((m - y31.2.2).toNat < (m - x22.2.2).toNat)))))))))) ∧ ((m < (x22.2.2 + 2 * x18.2.2)) → ((((x22.2.2 + x18.2.2) < m) → ((mrgR X Y x22.1 x22.2.1 n m x22.2.2 (x22.2.2 + x18.2.2) m) ∧ (((m = m) ∧ ((x22.2.2 = x22.2.2) ∧ (((x22.2.2 + x18.2.2) = (x22.2.2 + x18.2.2)) ∧ (m = m)))) ∧ ((((m ≤ m) ∧ (∀ e35 : E, ((0 ≤ e35.den ∧ e35.den < m) → ((((x22.1 (e35.den))) = ((x22.1 (e35.den)))) ∧ (((x22.2.1 (e35.den))) = ((x22.2.1 (e35.den)))))))) ∧ ((n = n) ∧ ((n ≤ n) ∧ (∀ e34 : E, ((0 ≤ e34.den ∧ e34.den < n) → ((((X (e34.den))) = ((X (e34.den)))) ∧ (((Y (e34.den))) = ((Y (e34.den)))))))))) ∧ (∀ x36 : (Int → Int) × (Int → Int), ((mrgP X Y x22.1 x22.2.1 x36.1 x36.2 x22.2.2 m) → (∃ y39 : (Int → Int) × (Int → Int) × Int, ((stR2 X Y A B y39.1 y39.2.1 m y39.2.2) ∧ ((((m = m) ∧ ((m = m) ∧ (((x18.2.2 * 2) = y39.2.2) ∧ ((0 ≤ (x18.2.2 * 2) ∧ (x18.2.2 * 2) ≤ 800) → (0 ≤ y39.2.2 ∧ y39.2.2 ≤ 400))))) ∧ (((m ≤ m) ∧ (∀ e41 : E, ((0 ≤ e41.den ∧ e41.den < m) → ((((x36.1 (e41.den))) = ((y39.1 (e41.den)))) ∧ (((x36.2 (e41.den))) = ((y39.2.1 (e41.den)))))))) ∧ ((n = n) ∧ ((n ≤ n) ∧ (∀ e40 : E, ((0 ≤ e40.den ∧ e40.den < n) → ((((X (e40.den))) = ((X (e40.den)))) ∧ (((Y (e40.den))) = ((Y (e40.den))))))))))) ∧ ((m - y39.2.2).toNat < (m - x18.2.2).toNat)))))))))) ∧ ((m ≤ (x22.2.2 + x18.2.2)) → (∃ y42 : (Int → Int) × (Int → Int) × Int, ((stR2 X Y A B y42.1 y42.2.1 m y42.2.2) ∧ ((((m = m) ∧ ((m = m) ∧ (((x18.2.2 * 2) = y42.2.2) ∧ ((0 ≤ (x18.2.2 * 2) ∧ (x18.2.2 * 2) ≤ 800) → (0 ≤ y42.2.2 ∧ y42.2.2 ≤ 400))))) ∧ (((m ≤ m) ∧ (∀ e44 : E, ((0 ≤ e44.den ∧ e44.den < m) → ((((x22.1 (e44.den))) = ((y42.1 (e44.den)))) ∧ (((x22.2.1 (e44.den))) = ((y42.2.1 (e44.den)))))))) ∧ ((n = n) ∧ ((n ≤ n) ∧ (∀ e43 : E, ((0 ≤ e43.den ∧ e43.den < n) → ((((X (e43.den))) = ((X (e43.den)))) ∧ (((Y (e43.den))) = ((Y (e43.den))))))))))) ∧ ((m - y42.2.2).toNat < (m - x18.2.2).toNat)))))))))))) ∧ ((m ≤ x18.2.2) → (∃ y45 : (Int → Int) × (Int → Int), ((mrgP X Y A B y45.1 y45.2 0 m) ∧ (((m ≤ m) ∧ (∀ e47 : E, ((0 ≤ e47.den ∧ e47.den < m) → ((((x18.1 (e47.den))) = ((y45.1 (e47.den)))) ∧ (((x18.2.1 (e47.den))) = ((y45.2 (e47.den)))))))) ∧ ((n = n) ∧ ((n ≤ n) ∧ (∀ e46 : E, ((0 ≤ e46.den ∧ e46.den < n) → ((((X (e46.den))) = ((X (e46.den)))) ∧ (((Y (e46.den))) = ((Y (e46.den)))))))))))))))))))))))))))) (by kernel_rfl) ?_
  intro h1 h2
  refine ⟨?_, ?_⟩
  · refine ⟨(A, B, 0), ?_⟩
    try dsimp only
    refine ⟨?_, ?_, ?_, rfl, Int.le_refl _, fun _ => fun _ => ⟨rfl, rfl⟩⟩
    · exact st1_0 hp (by omega)
    · refine ⟨rfl, rfl, ?_, ?_⟩
      · rfl
      · rfl
    · refine ⟨Int.le_refl _, ?_⟩
      intro e4
      intro c50
      refine ⟨?_, ?_⟩
      · rfl
      · rfl
  · rintro ⟨A1, B1, a⟩
    dsimp only
    intro I1
    refine ⟨?_, ?_⟩
    · intro c51
      refine ⟨?_, ⟨rfl, ⟨rfl, rfl⟩⟩, ⟨⟨Int.le_refl _, fun _ => fun _ => ⟨rfl, rfl⟩⟩, ⟨rfl, ⟨Int.le_refl _, fun _ => fun _ => ⟨rfl, rfl⟩⟩⟩⟩, ?_⟩
      · exact st1_q I1 (by omega)
      · rintro ⟨A28, B29⟩
        dsimp only
        intro c52
        refine ⟨(A28, B29, a + 20), ?_⟩
        try dsimp only
        refine ⟨?_, ?_, ?_⟩
        · exact st1_nx I1 (by omega) (by assumption)
        · refine ⟨?_, ?_, rfl, Int.le_refl _, fun _ => fun _ => ⟨rfl, rfl⟩⟩
          · refine ⟨rfl, rfl, ?_, ?_, ?_⟩
            · refine ⟨?_, ?_⟩
              · rfl
              · intro c53
                omega
            · rfl
            · intro c54
              omega
          · refine ⟨Int.le_refl _, ?_⟩
            intro e12
            intro c55
            refine ⟨?_, ?_⟩
            · rfl
            · rfl
        · omega
    · intro c56
      refine ⟨?_, ⟨rfl, ⟨rfl, rfl⟩⟩, ⟨⟨Int.le_refl _, fun _ => fun _ => ⟨rfl, rfl⟩⟩, ⟨rfl, ⟨Int.le_refl _, fun _ => fun _ => ⟨rfl, rfl⟩⟩⟩⟩, ?_⟩
      · exact st1_q2 I1
      · rintro ⟨A216, B217⟩
        dsimp only
        intro c57
        refine ⟨?_, ?_⟩
        · refine ⟨(A216, B217, 20), ?_⟩
          try dsimp only
          refine ⟨?_, ?_, ?_, rfl, Int.le_refl _, fun _ => fun _ => ⟨rfl, rfl⟩⟩
          · exact st1_end I1 (by omega) (by assumption)
          · refine ⟨rfl, rfl, ?_⟩
            rfl
          · refine ⟨Int.le_refl _, ?_⟩
            intro e21
            intro c58
            refine ⟨?_, ?_⟩
            · rfl
            · rfl
        · rintro ⟨A1, B1, bs⟩
          dsimp only
          intro I1
          refine ⟨?_, ?_⟩
          · intro c59
            refine ⟨?_, ?_⟩
            · refine ⟨(A1, B1, 0), ?_⟩
              try dsimp only
              refine ⟨?_, ?_, ?_, rfl, Int.le_refl _, fun _ => fun _ => ⟨rfl, rfl⟩⟩
              · exact st2_in I1 (by omega) hp.2.2
              · refine ⟨rfl, rfl, rfl, ?_, ?_, rfl, rfl, Iff.rfl, rfl, rfl⟩
                · rfl
                · omega
              · refine ⟨Int.le_refl _, ?_⟩
                intro e25
                intro c60
                refine ⟨?_, ?_⟩
                · rfl
                · rfl
            · rintro ⟨A3, B3, a⟩
              dsimp only
              intro I2
              refine ⟨?_, ?_⟩
              · intro c61
                refine ⟨?_, ⟨rfl, ⟨rfl, ⟨rfl, rfl⟩⟩⟩, ⟨⟨Int.le_refl _, fun _ => fun _ => ⟨rfl, rfl⟩⟩, ⟨rfl, ⟨Int.le_refl _, fun _ => fun _ => ⟨rfl, rfl⟩⟩⟩⟩, ?_⟩
                · exact st3_q I2 hp.1 (by omega)
                · rintro ⟨A229, B230⟩
                  dsimp only
                  intro c62
                  refine ⟨(A229, B230, a + 2 * bs), ?_⟩
                  try dsimp only
                  refine ⟨?_, ?_, ?_⟩
                  · exact st3_nx I2 (by omega) (by assumption)
                  · refine ⟨?_, ?_, rfl, Int.le_refl _, fun _ => fun _ => ⟨rfl, rfl⟩⟩
                    · refine ⟨rfl, rfl, rfl, ?_, ?_, rfl, rfl, Iff.rfl, rfl, rfl⟩
                      · refine ⟨?_, ?_⟩
                        · rfl
                        · intro c63
                          omega
                      · refine ⟨?_, ?_⟩
                        · rfl
                        · intro c64
                          omega
                    · refine ⟨Int.le_refl _, ?_⟩
                      intro e33
                      intro c65
                      refine ⟨?_, ?_⟩
                      · rfl
                      · rfl
                  · have hb := st2_bd I1; omega
              · intro c66
                refine ⟨?_, ?_⟩
                · intro c67
                  refine ⟨?_, ⟨rfl, ⟨rfl, ⟨rfl, rfl⟩⟩⟩, ⟨⟨Int.le_refl _, fun _ => fun _ => ⟨rfl, rfl⟩⟩, ⟨rfl, ⟨Int.le_refl _, fun _ => fun _ => ⟨rfl, rfl⟩⟩⟩⟩, ?_⟩
                  · exact st3_q2 I2 hp.1 (by omega) (by omega)
                  · rintro ⟨A237, B238⟩
                    dsimp only
                    intro c68
                    refine ⟨(A237, B238, bs * 2), ?_⟩
                    try dsimp only
                    refine ⟨?_, ?_, ?_⟩
                    · exact st3_over2 I2 hp.2.2 (by omega) (by omega) (by assumption)
                    · refine ⟨?_, ?_, rfl, Int.le_refl _, fun _ => fun _ => ⟨rfl, rfl⟩⟩
                      · refine ⟨rfl, rfl, ?_, ?_⟩
                        · rfl
                        · intro c69
                          have hb := st3_bd I2; omega
                      · refine ⟨Int.le_refl _, ?_⟩
                        intro e41
                        intro c70
                        refine ⟨?_, ?_⟩
                        · rfl
                        · rfl
                    · omega
                · intro c71
                  refine ⟨(A3, B3, bs * 2), ?_⟩
                  try dsimp only
                  refine ⟨?_, ?_, ?_⟩
                  · exact st3_over I2 hp.2.2 (by omega)
                  · refine ⟨?_, ?_, rfl, Int.le_refl _, fun _ => fun _ => ⟨rfl, rfl⟩⟩
                    · refine ⟨rfl, rfl, ?_, ?_⟩
                      · rfl
                      · intro c72
                        have hb := st3_bd I2; omega
                    · refine ⟨Int.le_refl _, ?_⟩
                      intro e44
                      intro c73
                      refine ⟨?_, ?_⟩
                      · rfl
                      · rfl
                  · have hb := st2_bd I1; omega
          · intro c74
            refine ⟨(A1, B1), ?_⟩
            try dsimp only
            refine ⟨?_, ?_, rfl, Int.le_refl _, fun _ => fun _ => ⟨rfl, rfl⟩⟩
            · exact st2_end I1 (by omega)
            · refine ⟨Int.le_refl _, ?_⟩
              intro e47
              intro c75
              refine ⟨?_, ?_⟩
              · rfl
              · rfl
def c_s_stable (X : Int → Int) (Y : Int → Int) (n : Int) (A : Int → Int) (B : Int → Int) (m : Int) : CnXH Try.prog := ⟨_, _, _, (Int → Int) × (Int → Int), (fun x => mrgP X Y A B x.1 x.2 0 m), (fun x => (.tup [])), (fun x => [some ⟨58, 2, true, (.sym (.v fun _ => m) fun e => [(.int .i64 (.v fun _ => (x.1 (e.den))) 0 1048576), (.int .i64 (.v fun _ => (x.2 (e.den))) 0 1048576)])⟩, some ⟨27, 1, true, (.lit [[(.sl 2 2 (.lit 0) (.v fun _ => n) 1048576)]])⟩, some ⟨50, 2, true, (.sym (.v fun _ => n) fun e => [(.int .i64 (.v fun _ => (X (e.den))) (-1000) 1000), (.int .i64 (.v fun _ => (Y (e.den))) (-1000) 1000)])⟩]), _, s_stable X Y n A B m⟩
theorem s_sortStable (X : Int → Int) (Y : Int → Int) (n : Int) (A : Int → Int) (B : Int → Int) (m : Int) (hp : edR A B n m ∧ lexS (zp A B) 0 m ∧ m ≤ 320) : Runs Try.prog 92 [(.sl 0 2 (.lit 0) (.v fun _ => m) 1048576), (.fn 93 [(.ptr 1 1 (.lit 0) 0)])] [some ⟨58, 2, true, (.sym (.v fun _ => m) fun e => [(.int .i64 (.v fun _ => (A (e.den))) 0 1048576), (.int .i64 (.v fun _ => (B (e.den))) 0 1048576)])⟩, some ⟨27, 1, true, (.lit [[(.sl 2 2 (.lit 0) (.v fun _ => n) 1048576)]])⟩, some ⟨50, 2, true, (.sym (.v fun _ => n) fun e => [(.int .i64 (.v fun _ => (X (e.den))) (-1000) 1000), (.int .i64 (.v fun _ => (Y (e.den))) (-1000) 1000)])⟩] fun rr mm => ∃ x : (Int → Int) × (Int → Int), (mrgP X Y A B x.1 x.2 0 m) ∧ rr = (.tup []) ∧ mm = [some ⟨58, 2, true, (.sym (.v fun _ => m) fun e => [(.int .i64 (.v fun _ => (x.1 (e.den))) 0 1048576), (.int .i64 (.v fun _ => (x.2 (e.den))) 0 1048576)])⟩, some ⟨27, 1, true, (.lit [[(.sl 2 2 (.lit 0) (.v fun _ => n) 1048576)]])⟩, some ⟨50, 2, true, (.sym (.v fun _ => n) fun e => [(.int .i64 (.v fun _ => (X (e.den))) (-1000) 1000), (.int .i64 (.v fun _ => (Y (e.den))) (-1000) 1000)])⟩] := by
  refine RunsX.go (X := (Int → Int) × (Int → Int)) (I := (fun x => mrgP X Y A B x.1 x.2 0 m)) (R := (fun x => (.tup []))) (M := (fun x => [some ⟨58, 2, true, (.sym (.v fun _ => m) fun e => [(.int .i64 (.v fun _ => (x.1 (e.den))) 0 1048576), (.int .i64 (.v fun _ => (x.2 (e.den))) 0 1048576)])⟩, some ⟨27, 1, true, (.lit [[(.sl 2 2 (.lit 0) (.v fun _ => n) 1048576)]])⟩, some ⟨50, 2, true, (.sym (.v fun _ => n) fun e => [(.int .i64 (.v fun _ => (X (e.den))) (-1000) 1000), (.int .i64 (.v fun _ => (Y (e.den))) (-1000) 1000)])⟩])) env Try.func92 rfl Try.call92 rfl rfl (fun _ _ => (.callXH (c_s_stable X Y n A B m) fun x3 => .ret)) (G := (0 ≤ m ∧ m ≤ 1048576) → ((∀ e10 : E, ((0 ≤ e10.den ∧ e10.den < m) → ((0 ≤ ((A (e10.den))) ∧ ((A (e10.den))) ≤ 1048576) ∧ (0 ≤ ((B (e10.den))) ∧ ((B (e10.den))) ≤ 1048576)))) ∧ ((0 ≤ n ∧ n ≤ 1048576) ∧ (∀ e9 : E, ((0 ≤ e9.den ∧ e9.den < n) → (((-1000) ≤ ((X (e9.den))) ∧ ((X (e9.den))) ≤ 1000) ∧ ((-1000) ≤ ((Y (e9.den))) ∧ ((Y (e9.den))) ≤ 1000)))))) → ((edR A B n m ∧ lexS (zp A B) 0 m ∧ m ≤ 320) ∧ (((m = m) ∧ (m = m)) ∧ ((((m ≤ m) ∧ (∀ e2 : E, ((0 ≤ e2.den ∧ e2.den < m) → ((((A (e2.den))) = ((A (e2.den)))) ∧ (((B (e2.den))) = ((B (e2.den)))))))) ∧ ((n = n) ∧ ((n ≤ n) ∧ (∀ e1 : E, ((0 ≤ e1.den ∧ e1.den < n) → ((((X (e1.den))) = ((X (e1.den)))) ∧ (((Y (e1.den))) = ((Y (e1.den)))))))))) ∧ (∀ x3 : (Int → Int) × (Int → Int), ((mrgP X Y A B x3.1 x3.2 0 m) → (∃ y6 : (Int → Int) × (Int → Int), ((mrgP X Y A B y6.1 y6.2 0 m) ∧ (((m ≤ m) ∧ (∀ e8 : E, ((0 ≤ e8.den ∧ e8.den < m) → ((((x3.1 (e8.den))) = ((y6.1 (e8.den)))) ∧ (((x3.2 (e8.den))) = ((y6.2 (e8.den)))))))) ∧ ((n = n) ∧ ((n ≤ n) ∧ (∀ e7 : E, ((0 ≤ e7.den ∧ e7.den < n) → ((((X (e7.den))) = ((X (e7.den)))) ∧ (((Y (e7.den))) = ((Y (e7.den)))))))))))))))))) (by kernel_rfl) ?_
  intro h1 h2
  refine ⟨?_, ⟨rfl, rfl⟩, ⟨⟨Int.le_refl _, fun _ => fun _ => ⟨rfl, rfl⟩⟩, ⟨rfl, ⟨Int.le_refl _, fun _ => fun _ => ⟨rfl, rfl⟩⟩⟩⟩, ?_⟩
  · exact hp
  · rintro ⟨A24, B25⟩
    dsimp only
    intro c11
    refine ⟨(A24, B25), ?_⟩
    try dsimp only
    refine ⟨?_, ?_, rfl, Int.le_refl _, fun _ => fun _ => ⟨rfl, rfl⟩⟩
    · assumption
    · refine ⟨Int.le_refl _, ?_⟩
      intro e8
      intro c12
      refine ⟨?_, ?_⟩
      · omega
      · omega
def c_s_sortStable (X : Int → Int) (Y : Int → Int) (n : Int) (A : Int → Int) (B : Int → Int) (m : Int) : CnXH Try.prog := ⟨_, _, _, (Int → Int) × (Int → Int), (fun x => mrgP X Y A B x.1 x.2 0 m), (fun x => (.tup [])), (fun x => [some ⟨58, 2, true, (.sym (.v fun _ => m) fun e => [(.int .i64 (.v fun _ => (x.1 (e.den))) 0 1048576), (.int .i64 (.v fun _ => (x.2 (e.den))) 0 1048576)])⟩, some ⟨27, 1, true, (.lit [[(.sl 2 2 (.lit 0) (.v fun _ => n) 1048576)]])⟩, some ⟨50, 2, true, (.sym (.v fun _ => n) fun e => [(.int .i64 (.v fun _ => (X (e.den))) (-1000) 1000), (.int .i64 (.v fun _ => (Y (e.den))) (-1000) 1000)])⟩]), _, s_sortStable X Y n A B m⟩
end Go.Proofs.Ytcfkpdjbjfnnmaa
