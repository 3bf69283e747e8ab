/- The support of the smallest circle: the reference's walk. -/
import Derived.Test.YtcfkpdjbjfnnmaaSx
set_option linter.unusedSimpArgs false
set_option linter.unusedVariables false
namespace Go.Proofs.Ytcfkpdjbjfnnmaa
open Go.RowKit
theorem sES_bad (A : Option Addr) (n c : Nat) (w : World) (HG : Calls Try.prog 50 #[.slice A n c] w fun e w' => e = .returned (.bool false) ∧ Kd w w') :
    Calls Try.prog 21 #[.slice A n c] w fun e w' => e = .returned (.slice none 0 0) ∧ Kd w w' := by
  go_enter Try.func21, Try.ntmps21
  go_wp2_with fail
  refine HG.mono ?_
  rintro e w1 ⟨rfl, hk1⟩
  go_wp2_with fail
  exact bodyPost_ret (v := .slice none 0 0) (by simp [results, Try.results21, go_sem]) rfl ⟨rfl, hk1⟩
theorem sES_none (A : Option Addr) (c : Nat) (w : World) (HG : Calls Try.prog 50 #[.slice A 0 c] w fun e w' => e = .returned (.bool true) ∧ Kd w w') :
    Calls Try.prog 21 #[.slice A 0 c] w fun e w' => e = .returned (.slice none 0 0) ∧ Kd w w' := by
  go_enter Try.func21, Try.ntmps21
  go_wp2_with fail
  refine HG.mono ?_
  rintro e w1 ⟨rfl, hk1⟩
  go_wp2_with fail
  exact bodyPost_ret (v := .slice none 0 0) (by simp [results, Try.results21, go_sem]) rfl ⟨rfl, hk1⟩
theorem find_first {α : Type} {p : α → Bool} {L : List α} {i : Nat} {x : α} (h : ∀ j y, j < i → L[j]? = some y → p y = false) (hx : L[i]? = some x) (hp : p x = true) : L.find? p = some x := by
  obtain ⟨hi, he⟩ := List.getElem?_eq_some_iff.1 hx
  refine List.find?_eq_some_iff_getElem.2 ⟨hp, i, hi, he, fun j hj => ?_⟩
  rw [h j _ hj (List.getElem?_eq_getElem _)]
  rfl
theorem find_no {α : Type} {p : α → Bool} {L : List α} (h : ∀ (j : Nat) y, L[j]? = some y → p y = false) : L.find? p = none := by
  refine List.find?_eq_none.2 fun x hx => ?_
  obtain ⟨j, hj⟩ := List.mem_iff_getElem?.1 hx
  rw [h j x hj]
  decide
theorem sup_cells {w w' : World} {base g n c : Nat} {xs : List Value} (h : w.ownsRow base TS 1 (.slice (some ⟨g, 0, none⟩) n c) n xs) (hk : Kd w w') {j : Nat} {u : Value} (hj : xs[j]? = some u) : w'.cell? ⟨g, j, none⟩ = some u := by
  have h1 := h.cells (g := g) rfl j u hj
  have e : (⟨g, 0, none⟩ : Addr).add j = ⟨g, j, none⟩ := by unfold Addr.add; split <;> simp_all
  rw [e] at h1
  exact (World.cell?_of_block (a := ⟨g, j, none⟩) (hk.gr.block g (ownsRow_in h).2 (by simp))).trans h1
theorem ownsRow_max {w : World} {base g n c : Nat} {xs : List Value} (h : w.ownsRow base TS 1 (.slice (some ⟨g, 0, none⟩) n c) n xs) : n ≤ 9223372036854775807 := by
  rcases h.2 with ⟨e, _⟩ | ⟨_, _, _, e, _, _, h1, h2, _⟩
  · cases e
  · cases e
    unfold maxLen at h2
    omega
set_option maxHeartbeats 2000000 in
theorem sES_any (X Y : Int → Int) (A : Option Addr) (n c : Nat) (w : World) (hn : n ≤ 20) (hn0 : n ≠ 0)
    (HG : Calls Try.prog 50 #[.slice A n c] w fun e w' => e = .returned (.bool true) ∧ Kd w w')
    (HT : ∀ (l : List Int) (B : Nat) (W : World), l ∈ sups n → Kd w W → W.heap[B]? = some (.cells (ints l) TI (0, 0)) → Calls Try.prog 68 #[.slice A n c, .slice (some ⟨B, 0, none⟩) l.length l.length] W fun e w' => e = .returned (.bool (sup1 X Y n l)) ∧ Kd W w')
    (HE : ∀ (l : List Int) (B : Nat) (W : World), l ∈ sups n → Kd w W → W.heap[B]? = some (.cells (ints l) TI (0, 0)) → Calls Try.prog 69 #[.slice A n c, .slice (some ⟨B, 0, none⟩) l.length l.length] W fun e w' => e = .returned (.bool (eaB X Y n (lA l) l.length)) ∧ Kd W w') :
    Calls Try.prog 21 #[.slice A n c] w fun e w' => Kd w w' ∧ (((sups n).find? (okSup X Y n) = none ∧ e = .returned (.slice none 0 0)) ∨
      ∃ B l, (sups n).find? (okSup X Y n) = some l ∧ w.heap.size ≤ B ∧ w'.heap[B]? = some (.cells (ints l) TI (0, 0)) ∧ e = .returned (.slice (some ⟨B, 0, none⟩) l.length l.length)) := by
  have HT := hide HT
  have HE := hide HE
  generalize hFF : (sups n).find? (okSup X Y n) = FF
  have HF := hide hFF
  clear hFF
  have HS := hide fun W => subsets_any n W hn
  have hz : ¬ ((n : Int) = 0) := by omega
  go_enter Try.func21, Try.ntmps21
  go_wp2_with fail
  refine HG.mono ?_
  rintro e w1 ⟨rfl, hk1⟩
  go_wp2_with fail
  refine (HS.out w1).mono ?_
  rintro e w2 ⟨g, c2, rfl, hk2, xs, ho, hi⟩
  have HK2 := hide hk2
  have hNb := ownsRow_max ho
  have HO := hide ho
  have HI := hide hi
  have hsz := hk1.gr.size
  clear hk2 ho hi
  generalize hLL : ext n 1 [] 0 ++ ext n 2 [] 0 ++ ext n 3 [] 0 = LL at HO HI hNb
  generalize hN : LL.length = N at HO hNb
  have HLL : Hid (sups n = LL) := hLL
  have HN := hide hN
  clear hLL hN
  go_wp2_with fail
  go_loopg [4] N (fun gg s4 wr => ∃ i : Nat, i ≤ N ∧ N - i ≤ gg ∧ s4 = .int .i64 i ∧ Hid (∀ j y, j < i → LL[j]? = some y → okSup X Y n y = false) ∧ Hid (Kd w2 wr))
  case atStart => exact ⟨0, Nat.zero_le _, by omega, rfl, (show Hid _ from fun j y h => absurd h (by omega)), (show Hid _ from Kd.refl _)⟩
  case round =>
    obtain ⟨i, hi, hg, rfl, hf, hk⟩ := hrel
    by_cases hlt : i < N
    · have hltz : (i : Int) < (N : Int) := by omega
      obtain ⟨u, hu⟩ : ∃ u, xs[i]? = some u := ⟨xs[i]'(by have := ownsRow_len HO.out; omega), List.getElem?_eq_getElem _⟩
      obtain ⟨l, B, hl, rfl, hB1, _, hB⟩ := HI.out i u hu
      have hc := sup_cells HO.out hk.out hu
      have hB2 := hk.out.heap hB
      have hmem : l ∈ sups n := by rw [HLL.out]; exact List.mem_of_getElem? hl
      have HL := hide hl
      have HB2 := hide hB2
      have HM := hide hmem
      have hkk : Kd w wr := hk1.trans (HK2.out.trans hk.out)
      have HKK := hide hkk
      clear hl hB hB2 hmem hu hkk
      have HC1 := HT.out l B wr HM.out HKK.out HB2.out
      have HC2 := hide fun W (h : Kd wr W) => HE.out l B W HM.out (HKK.out.trans h) (h.heap HB2.out)
      have hgl := (ownsRow_in HO.out).2
      have HCC := hide fun W (h : Kd wr W) => (show W.cell? ⟨g, i, none⟩ = some (.slice (some ⟨B, 0, none⟩) l.length l.length) from (World.cell?_of_block (a := ⟨g, i, none⟩) (h.gr.block g (Nat.lt_of_lt_of_le hgl hk.out.gr.size) (by simp))).trans hc)
      generalize hlen : l.length = ll at *
      have HLEN := hide hlen
      clear hlen
      cases h1 : sup1 X Y n l with
      | false =>
        rw [h1] at HC1
        have H1 := hide h1
        clear h1
        go_wp2_with fail
        refine HC1.mono ?_
        rintro e w3 ⟨rfl, hk3⟩
        go_wp2_with fail
        go_roundg (N - (i + 1))
        case measure => omega
        case rel =>
          refine ⟨i + 1, by omega, by omega, by go_num, ?_, (show Hid _ from hk.out.trans hk3)⟩
          intro j y hj hy
          by_cases e : j = i
          · subst e
            have e2 : y = l := Option.some.inj (hy.symm.trans HL.out)
            rw [e2]
            unfold okSup
            rw [H1.out]; rfl
          · exact hf.out j y (by omega) hy
      | true =>
        rw [h1] at HC1
        have H1 := hide h1
        clear h1
        go_wp2_with fail
        refine HC1.mono ?_
        rintro e w3 ⟨rfl, hk3⟩
        have HC3 := HC2.out w3 hk3
        have hc3 := HCC.out w3 hk3
        cases h2 : eaB X Y n (lA l) ll with
        | false =>
          rw [h2] at HC3
          have H2 := hide h2
          clear h2
          go_wp2_with fail
          refine HC3.mono ?_
          rintro e w4 ⟨rfl, hk4⟩
          go_wp2_with fail
          go_roundg (N - (i + 1))
          case measure => omega
          case rel =>
            refine ⟨i + 1, by omega, by omega, by go_num, ?_, (show Hid _ from hk.out.trans (hk3.trans hk4))⟩
            intro j y hj hy
            by_cases e : j = i
            · subst e
              have e2 : y = l := Option.some.inj (hy.symm.trans HL.out)
              rw [e2]
              unfold okSup
              rw [HLEN.out, H2.out, Bool.and_false]
            · exact hf.out j y (by omega) hy
        | true =>
          rw [h2] at HC3
          have H2 := hide h2
          clear h2
          go_wp2_with fail
          refine HC3.mono ?_
          rintro e w4 ⟨rfl, hk4⟩
          have hc4 := HCC.out w4 (hk3.trans hk4)
          go_wp2_with fail
          refine bodyPost_ret (v := .slice (some ⟨B, 0, none⟩) ll ll) (by simp [results, Try.results21, go_sem]) rfl ⟨HKK.out.trans (hk3.trans hk4), .inr ⟨B, l, ?_, by omega, (hk3.trans hk4).heap HB2.out, by rw [HLEN.out]⟩⟩
          rw [← HF.out, HLL.out]
          refine find_first hf.out HL.out ?_
          unfold okSup
          rw [H1.out, HLEN.out, H2.out]; rfl
    · have hin : i = N := by omega
      subst hin
      have hltz : ¬ (i : Int) < (i : Int) := by omega
      go_wp2_with fail
      refine bodyPost_ret (v := .slice none 0 0) (by simp [results, Try.results21, go_sem]) rfl ⟨hk1.trans (HK2.out.trans hk.out), .inl ⟨?_, rfl⟩⟩
      rw [← HF.out, HLL.out]
      refine find_no fun j y hy => hf.out j y ?_ hy
      have := (List.getElem?_eq_some_iff.1 hy).1
      have := HN.out
      omega
end Go.Proofs.Ytcfkpdjbjfnnmaa
