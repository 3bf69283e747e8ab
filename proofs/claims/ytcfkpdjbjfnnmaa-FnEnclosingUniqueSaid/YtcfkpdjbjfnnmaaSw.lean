/- All lists of at most three ascending indices: the program's walk, in its three loops. -/
import Derived.Test.YtcfkpdjbjfnnmaaSs
set_option linter.unusedSimpArgs false
set_option linter.unusedVariables false
namespace Go.Proofs.Ytcfkpdjbjfnnmaa
open Go.RowKit
theorem S3.bd {w0 w : World} {g1 n1 c1 g2 n2 c2 g3 n3 c3 : Nat} {L1 L2 L3 : List (List Int)} (h : S3 w0 w g1 n1 c1 g2 n2 c2 g3 n3 c3 L1 L2 L3) : w0.heap.size ≤ w.heap.size := h.kd.gr.size
theorem seg_e1 (n : Nat) (pre : List Int) (s : Nat) : seg s n (fun b => ext n 0 (pre ++ [(b : Int)]) (b + 1)) = ext n 1 pre s := rfl
theorem seg_e2 (n : Nat) (pre : List Int) (s : Nat) : seg s n (fun b => ext n 1 (pre ++ [(b : Int)]) (b + 1)) = ext n 2 pre s := rfl
theorem seg_e3 (n : Nat) (pre : List Int) (s : Nat) : seg s n (fun b => ext n 2 (pre ++ [(b : Int)]) (b + 1)) = ext n 3 pre s := rfl
theorem made0 (w : World) (base : Nat) {H : Nat} (hH : w.heap.size = H) (hb : base ≤ H) : (w.alloc (.cells #[] TS)).ownsRow base TS 1 (.slice (some ⟨H, 0, none⟩) 0 0) 0 [] := by
  subst hH
  exact World.ownsRow_made (w := w) (base := base) (e := TS) (size := 1) #[] 0 hb (Nat.zero_le _) rfl
theorem InS.nil {w : World} {H0 g1 g2 g3 : Nat} {L : List (List Int)} : InS w H0 g1 g2 g3 L [] := by
  intro j u hj
  simp at hj
theorem S3.start (w : World) : S3 w (((w.alloc (.cells #[] TS)).alloc (.cells #[] TS)).alloc (.cells #[] TS)) w.heap.size 0 0 (w.heap.size + 1) 0 0 (w.heap.size + 1 + 1) 0 0 [] [] [] := by
  refine ⟨((Kd.refl w).alloc _).alloc _ |>.alloc _, ⟨by omega, by omega, by omega⟩, ⟨rfl, rfl, rfl⟩, ⟨[], ?_, InS.nil⟩, ⟨[], ?_, InS.nil⟩, ⟨[], ?_, InS.nil⟩⟩
  · exact ((made0 w w.heap.size rfl (Nat.le_refl _)).alloc _).alloc _
  · exact (made0 (w.alloc _) w.heap.size (by simp) (by omega)).alloc _
  · exact made0 ((w.alloc _).alloc _) w.heap.size (by simp) (by omega)
set_option maxHeartbeats 4000000 in
theorem subsets_any (n : Nat) (w : World) (hn : n ≤ 20) :
    Calls Try.prog 67 #[.int .i64 n] w fun e w' => ∃ g c, e = .returned (.slice (some ⟨g, 0, none⟩) (ext n 1 [] 0 ++ ext n 2 [] 0 ++ ext n 3 [] 0).length c) ∧ Kd w w' ∧
      ∃ xs, w'.ownsRow w.heap.size TS 1 (.slice (some ⟨g, 0, none⟩) (ext n 1 [] 0 ++ ext n 2 [] 0 ++ ext n 3 [] 0).length c) (ext n 1 [] 0 ++ ext n 2 [] 0 ++ ext n 3 [] 0).length xs ∧ InS w' w.heap.size g g g (ext n 1 [] 0 ++ ext n 2 [] 0 ++ ext n 3 [] 0) xs := by
  generalize hL1 : ext n 1 [] 0 = LL1
  generalize hL2 : ext n 2 [] 0 = LL2
  generalize hL3 : ext n 3 [] 0 = LL3
  have HL1 := hide hL1
  have HL2 := hide hL2
  have HL3 := hide hL3
  clear hL1 hL2 hL3
  generalize hLL : LL1 ++ LL2 ++ LL3 = LL
  generalize hN : LL.length = N
  have HLL := hide hLL
  have HN := hide hN
  clear hLL hN
  go_enter Try.func67, Try.ntmps67
  go_wp2_with fail
  go_loopg [3, 4, 5, 6] n (fun gg s3 s4 s5 s6 wr => ∃ (i g1 n1 c1 g2 n2 c2 g3 n3 c3 : Nat), i ≤ n ∧ n - i ≤ gg ∧ s6 = .int .i64 i ∧ s3 = .slice (some ⟨g1, 0, none⟩) n1 c1 ∧ s4 = .slice (some ⟨g2, 0, none⟩) n2 c2 ∧ s5 = .slice (some ⟨g3, 0, none⟩) n3 c3 ∧ n1 ≤ i ∧ n2 ≤ 20 * i ∧ n3 ≤ 400 * i ∧
    Hid (S3 w wr g1 n1 c1 g2 n2 c2 g3 n3 c3 (seg 0 i fun a => ext n 0 ([] ++ [(a : Int)]) (a + 1)) (seg 0 i fun a => ext n 1 ([] ++ [(a : Int)]) (a + 1)) (seg 0 i fun a => ext n 2 ([] ++ [(a : Int)]) (a + 1))))
  case atStart => exact ⟨0, _, _, _, _, _, _, _, _, _, Nat.zero_le _, by omega, rfl, rfl, rfl, rfl, by omega, by omega, by omega, S3.start w⟩
  case round =>
    obtain ⟨i, g1, n1, c1, g2, n2, c2, g3, n3, c3, hi, hg, rfl, rfl, rfl, rfl, b1, b2, b3, hS⟩ := hrel
    by_cases hlt : i < n
    · have hltz : (i : Int) < (n : Int) := by omega
      obtain ⟨x1, ho1, hi1⟩ := hS.out.o1
      have HO1 := hide ho1
      have HI1 := hide hi1
      clear ho1 hi1
      have hbd := hS.out.bd
      go_wp2_with (first
        | (at_builtin; refine wpList_append_sub _ rfl _ _ rfl w.heap.size g1 n1 c1 x1 rfl ((HO1.out.alloc _).alloc _) _ 1 1 [.slice (some ⟨wr.heap.size, 0, none⟩) 1 1] rfl rfl (news1 (by simp)) (one1 _ _ _) (by omega) (by simp; omega) ?_; intro g1' c1' w1 ho1' hg1' hat1 hd1)
        | fail)
      have hS1 := hS.out.push (l := [(i : Int)]) HO1.out HI1.out ho1' hg1' hat1 hd1
      clear HO1 HI1 ho1' hg1' hat1 hd1 hS
      go_loopg [4, 5, 7] n (fun gg s4 s5 s7 wv => ∃ (k g2 n2 c2 g3 n3 c3 : Nat), i + 1 ≤ k ∧ k ≤ n ∧ n - k ≤ gg ∧ s7 = .int .i64 k ∧ s4 = .slice (some ⟨g2, 0, none⟩) n2 c2 ∧ s5 = .slice (some ⟨g3, 0, none⟩) n3 c3 ∧ n2 ≤ 20 * i + k ∧ n3 ≤ 400 * i + 20 * k ∧
        Hid (S3 w wv g1' (n1 + 1) c1' g2 n2 c2 g3 n3 c3 (seg 0 i (fun a => ext n 0 ([] ++ [(a : Int)]) (a + 1)) ++ [[(i : Int)]]) (seg 0 i (fun a => ext n 1 ([] ++ [(a : Int)]) (a + 1)) ++ seg (i + 1) k fun b => ext n 0 ([(i : Int)] ++ [(b : Int)]) (b + 1)) (seg 0 i (fun a => ext n 2 ([] ++ [(a : Int)]) (a + 1)) ++ seg (i + 1) k fun b => ext n 1 ([(i : Int)] ++ [(b : Int)]) (b + 1))))
      case atStart =>
        refine ⟨i + 1, _, _, _, _, _, _, by omega, by omega, by omega, by go_num, rfl, rfl, by omega, by omega, ?_⟩
        rw [seg_self, seg_self, List.append_nil, List.append_nil]
        exact hS1
      case round =>
        clear hS1
        obtain ⟨k, g2, n2, c2, g3, n3, c3, hk1, hk, hgk, rfl, rfl, rfl, b2, b3, hS⟩ := hrel
        by_cases hlt2 : k < n
        · have hltz2 : (k : Int) < (n : Int) := by omega
          obtain ⟨x2, ho2, hi2⟩ := hS.out.o2
          have HO2 := hide ho2
          have HI2 := hide hi2
          clear ho2 hi2
          have hbd2 := hS.out.bd
          go_wp2_with (first
            | (at_builtin; refine wpList_append_sub _ rfl _ _ rfl w.heap.size g2 n2 c2 x2 rfl ((HO2.out.alloc _).alloc _) _ 1 1 [.slice (some ⟨wr.heap.size, 0, none⟩) 2 2] rfl rfl (news1 (by simp)) (one1 _ _ _) (by omega) (by simp; omega) ?_; intro g2' c2' w2 ho2' hg2' hat2 hd2)
            | fail)
          have hS2 := (hS.out.sw12.push (l := [(i : Int), (k : Int)]) HO2.out (HI2.out.perm fun B h => ⟨h.2.1, h.1, h.2.2⟩) ho2' hg2' hat2 hd2).sw12
          clear HO2 HI2 ho2' hg2' hat2 hd2 hS
          go_loopg [5, 8] n (fun gg s5 s8 wx => ∃ (m g3 n3 c3 : Nat), k + 1 ≤ m ∧ m ≤ n ∧ n - m ≤ gg ∧ s8 = .int .i64 m ∧ s5 = .slice (some ⟨g3, 0, none⟩) n3 c3 ∧ n3 ≤ 400 * i + 20 * k + m ∧
            Hid (S3 w wx g1' (n1 + 1) c1' g2' (n2 + 1) c2' g3 n3 c3 (seg 0 i (fun a => ext n 0 ([] ++ [(a : Int)]) (a + 1)) ++ [[(i : Int)]]) ((seg 0 i (fun a => ext n 1 ([] ++ [(a : Int)]) (a + 1)) ++ seg (i + 1) k fun b => ext n 0 ([(i : Int)] ++ [(b : Int)]) (b + 1)) ++ [[(i : Int), (k : Int)]])
              ((seg 0 i (fun a => ext n 2 ([] ++ [(a : Int)]) (a + 1)) ++ seg (i + 1) k fun b => ext n 1 ([(i : Int)] ++ [(b : Int)]) (b + 1)) ++ seg (k + 1) m fun c => ext n 0 ([(i : Int), (k : Int)] ++ [(c : Int)]) (c + 1))))
          case atStart =>
            refine ⟨k + 1, _, _, _, by omega, by omega, by omega, by go_num, rfl, by omega, ?_⟩
            rw [seg_self, List.append_nil]
            exact hS2
          case round =>
            clear hS2
            obtain ⟨m, g3, n3, c3, hm1, hm, hgm, rfl, rfl, b3, hS⟩ := hrel
            by_cases hlt3 : m < n
            · have hltz3 : (m : Int) < (n : Int) := by omega
              obtain ⟨x3, ho3, hi3⟩ := hS.out.o3
              have HO3 := hide ho3
              have HI3 := hide hi3
              clear ho3 hi3
              have hbd3 := hS.out.bd
              go_wp2_with (first
                | (at_builtin; refine wpList_append_sub _ rfl _ _ rfl w.heap.size g3 n3 c3 x3 rfl ((HO3.out.alloc _).alloc _) _ 1 1 [.slice (some ⟨wr.heap.size, 0, none⟩) 3 3] rfl rfl (news1 (by simp)) (one1 _ _ _) (by omega) (by simp; omega) ?_; intro g3' c3' w3 ho3' hg3' hat3 hd3)
                | fail)
              have hS3 := (hS.out.sw13.push (l := [(i : Int), (k : Int), (m : Int)]) HO3.out (HI3.out.perm fun B h => ⟨h.2.2, h.2.1, h.1⟩) ho3' hg3' hat3 hd3).sw13
              go_roundg (n - (m + 1))
              case measure => omega
              case rel =>
                refine ⟨m + 1, _, _, _, by omega, by omega, by omega, by go_num, rfl, by omega, ?_⟩
                rw [seg_succ (by omega), ← List.append_assoc]
                exact hS3
            · have hmn : m = n := by omega
              subst hmn
              have hltz3 : ¬ (m : Int) < (m : Int) := by omega
              go_wp2_with fail
              go_roundg (m - (k + 1))
              case measure => omega
              case rel =>
                refine ⟨k + 1, _, _, _, _, _, _, by omega, by omega, by omega, by go_num, rfl, rfl, by omega, by omega, ?_⟩
                have hS3 := hS.out
                rw [seg_e1] at hS3
                rw [seg_succ (s := i + 1) (k := k) (by omega), seg_succ (s := i + 1) (k := k) (by omega), ← List.append_assoc, ← List.append_assoc]
                exact hS3
        · have hkn : k = n := by omega
          subst hkn
          have hltz2 : ¬ (k : Int) < (k : Int) := by omega
          go_wp2_with fail
          go_roundg (k - (i + 1))
          case measure => omega
          case rel =>
            refine ⟨i + 1, _, _, _, _, _, _, _, _, _, by omega, by omega, by go_num, rfl, rfl, rfl, by omega, by omega, by omega, ?_⟩
            have hS3 := hS.out
            rw [seg_e1, seg_e2] at hS3
            rw [seg_succ (s := 0) (k := i) (by omega), seg_succ (s := 0) (k := i) (by omega), seg_succ (s := 0) (k := i) (by omega)]
            exact hS3
    · have hin : i = n := by omega
      subst hin
      have hltz : ¬ (i : Int) < (i : Int) := by omega
      have hSS := hS.out
      rw [seg_e1, seg_e2, seg_e3, HL1.out, HL2.out, HL3.out] at hSS
      have HSS := hide hSS
      obtain ⟨x1, ho1, hi1⟩ := hSS.o1
      obtain ⟨x2, ho2, hi2⟩ := hSS.o2
      obtain ⟨x3, ho3, hi3⟩ := hSS.o3
      have hl2 : x2.length = n2 := ownsRow_len ho2
      have hl3 : x3.length = n3 := ownsRow_len ho3
      have HLN := hide hSS.ln
      have HL2 := hide hl2
      have HL3 := hide hl3
      clear hl2 hl3
      have hne := hSS.ne
      have hbd := hSS.bd
      have HO1 := hide ho1
      have HO2 := hide ho2
      have HO3 := hide ho3
      have HI1 := hide hi1
      have HI2 := hide hi2
      have HI3 := hide hi3
      clear ho1 ho2 ho3 hi1 hi2 hi3 hSS hS
      go_wp2_with (first
        | (at_builtin; refine wpList_append_sub _ rfl _ _ rfl w.heap.size g1 n1 c1 x1 rfl HO1.out _ n2 c2 x2 rfl HL2.out (HO2.out.cells rfl) HI2.out.one (by omega) (by omega) ?_; intro ga ca wa hoa hga hata hda; have hza := hga.size; have HO3a := hide (HO3.out.kept hga (by simp [Value.ownBlock]; omega)); have HOA := hide hoa; clear hoa)
        | (at_builtin; refine wpList_append_sub _ rfl _ _ rfl w.heap.size ga (n1 + n2) ca (x1 ++ x2) rfl HOA.out _ n3 c3 x3 rfl HL3.out (HO3a.out.cells rfl) HI3.out.one (by omega) (by omega) ?_; intro gb cb wb hob hgb hatb hdb)
        | fail)
      have hj := HSS.out.join HO1.out HI1.out HO2.out HI2.out HI3.out hga hata hda hgb hatb hdb
      have hlen : N = n1 + n2 + n3 := by
        have hln := HLN.out
        rw [← HN.out, ← HLL.out]
        simp only [List.length_append]; omega
      rw [HLL.out] at hj
      subst hlen
      exact bodyPost_ret (v := .slice (some ⟨gb, 0, none⟩) (n1 + n2 + n3) cb) (by simp [results, Try.results67, go_sem]) rfl ⟨gb, cb, rfl, hj.1, _, hob, hj.2⟩
end Go.Proofs.Ytcfkpdjbjfnnmaa
