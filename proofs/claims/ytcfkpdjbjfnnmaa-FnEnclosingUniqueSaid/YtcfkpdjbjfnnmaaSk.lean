/- The support of the smallest circle: the program's walk. -/
import Derived.Test.YtcfkpdjbjfnnmaaSv
set_option linter.unusedSimpArgs false
set_option linter.unusedVariables false
namespace Go.Proofs.Ytcfkpdjbjfnnmaa
open Go.RowKit
theorem iES_bad (A : Option Addr) (n c : Nat) (w : World) (HG : ∀ W, Kd w W → Calls Try.prog 70 #[.slice A n c] W fun e w' => e = .returned (.bool false) ∧ Kd W w') :
    Calls Try.prog 22 #[.slice A n c] w fun e w' => e = .returned (.slice none 0 0) ∧ Kd w w' := by
  have HG := hide HG
  go_enter Try.func22, Try.ntmps22
  go_wp2_with fail
  refine (HG.out _ ((Kd.refl w).alloc _)).mono ?_
  rintro e w1 ⟨rfl, hk1⟩
  go_wp2_with fail
  exact bodyPost_ret (v := .slice none 0 0) (by simp [results, Try.results22, go_sem]) rfl ⟨rfl, ((Kd.refl w).alloc _).trans hk1⟩
theorem clip_any (g n c : Nat) (w : World) (h : n ≤ c) : Calls Try.prog 73 #[.slice (some ⟨g, 0, none⟩) n c] w fun e w' => e = .returned (.slice (some ⟨g, 0, none⟩) n n) ∧ w' = w := by
  go_enter Try.func73, Try.ntmps73
  go_wp2_with fail
  exact bodyPost_ret (v := .slice (some ⟨g, 0, none⟩) n n) (by simp [results, Try.results73, go_sem]) rfl ⟨rfl, rfl⟩
/-- What the program's search tells. -/
def ESQ (w : World) (R : Option (List Int)) (e : Ending) (w' : World) : Prop :=
  Kd w w' ∧ ((R = none ∧ e = .returned (.slice none 0 0)) ∨ ∃ l g cap, R = some l ∧ w.heap.size ≤ g ∧ w'.ownsRow w.heap.size TI 1 (.slice (some ⟨g, 0, none⟩) l.length cap) l.length (il l) ∧ e = .returned (.slice (some ⟨g, 0, none⟩) l.length l.length))
set_option maxRecDepth 100000 in
set_option maxHeartbeats 2000000 in
theorem iES_any (ok : List Int → Bool) (A : Option Addr) (n c : Nat) (w : World) (hn : n ≤ 20)
    (HG : ∀ W, Kd w W → Calls Try.prog 70 #[.slice A n c] W fun e w' => e = .returned (.bool true) ∧ Kd W w')
    (HE : ∀ (bs bl bf : Nat) (l : List Int) (g cap : Nat) (W : World), FS w W bs bl bf A n c l g cap → l.length ≤ 3 → (∀ x ∈ l, 0 ≤ x ∧ x < (n : Int)) → Calls Try.prog 72 #[.slice A n c, .slice (some ⟨g, 0, none⟩) l.length cap] W fun e w' => e = .returned (.bool (ok l)) ∧ Kd W w') :
    Calls Try.prog 22 #[.slice A n c] w (ESQ w ((sups n).find? ok)) := by
  have HG := hide HG
  have HE := hide HE
  have hmf : ∀ (fn : Fn) (first cap : Array Value) (w : World), (Instr.makeFunc fn first cap).run Try.prog w = .ok (.func fn first cap) w := fun _ _ _ _ => rfl
  have hsf : ∀ (a : Addr) (fn : Fn) (first cap : Array Value) (m : Mode) (w : World), (store a (.func fn first cap) m).run Try.prog w = stored Try.prog w a (.func fn first cap) m := fun a fn first cap m w => run_store Try.prog w a _ m rfl
  go_enter Try.func22, Try.ntmps22
  go_wp2_with fail
  refine (HG.out _ ((Kd.refl w).alloc _)).mono ?_
  rintro e w1 ⟨rfl, hk1⟩
  have hbL := hk1.heap (heap_alloc_new w (.cells #[.slice A n c] TP))
  go_wp2_with fail
  have HS : FS w (((w1.alloc (.cells #[] TI)).alloc (.cells #[.slice (some ⟨w1.heap.size, 0, none⟩) 0 0] TS)).alloc (.cells #[fromV (w1.heap.size + 1) w.heap.size (w1.heap.size + 1 + 1)] TF)) (w1.heap.size + 1) w.heap.size (w1.heap.size + 1 + 1) A n c [] w1.heap.size 0 := by
    have hs : w.heap.size + 1 ≤ w1.heap.size := by
      have := hk1.gr.size
      simpa using this
    refine ⟨(((((Kd.refl w).alloc _).trans hk1).alloc _).alloc _).alloc _, ⟨by omega, by omega, by omega⟩, ⟨by omega, by omega, by omega, by omega, by omega, by omega⟩, ?_, ?_, ?_, ?_⟩
    · rw [old_alloc _ _ (by simp)]
      have := heap_alloc_new (w1.alloc (.cells #[] TI)) (.cells #[.slice (some ⟨w1.heap.size, 0, none⟩) 0 0] TS)
      rw [show (w1.alloc (.cells #[] TI)).heap.size = w1.heap.size + 1 by simp] at this
      exact this
    · rw [old_alloc _ _ (by simp; omega), old_alloc _ _ (by simp; omega), old_alloc _ _ (by omega)]
      exact hbL
    · have := heap_alloc_new ((w1.alloc (.cells #[] TI)).alloc (.cells #[.slice (some ⟨w1.heap.size, 0, none⟩) 0 0] TS)) (.cells #[fromV (w1.heap.size + 1) w.heap.size (w1.heap.size + 1 + 1)] TF)
      rw [show ((w1.alloc (.cells #[] TI)).alloc (.cells #[.slice (some ⟨w1.heap.size, 0, none⟩) 0 0] TS)).heap.size = w1.heap.size + 1 + 1 by simp] at this
      exact this
    · exact ((World.ownsRow_made (w := w1) (base := w.heap.size) (e := TI) (size := 1) #[] 0 (by omega) (Nat.zero_le _) rfl).alloc _).alloc _
  unfold fromV at HS
  clear hbL
  generalize w1.heap.size + 1 + 1 = bf at *
  generalize w1.heap.size + 1 = bs at *
  generalize w.heap.size = bl at HS ⊢
  go_loopg [5] 4 (fun gg s5 wr => ∃ m g cap : Nat, 1 ≤ m ∧ m ≤ 4 ∧ 4 - m ≤ gg ∧ s5 = .int .i64 m ∧ Hid (FS w wr bs bl bf A n c [] g cap) ∧ Hid (∀ d : Nat, 1 ≤ d → d < m → (ext n d [] 0).find? ok = none))
  case atStart => exact ⟨1, _, _, Nat.le_refl _, by omega, by omega, rfl, HS, (show Hid _ from fun d h1 h2 => absurd h2 (by omega))⟩
  case round =>
    clear HS
    obtain ⟨m, g, cap, hm1, hm4, hgm, rfl, HF, HN⟩ := hrel
    by_cases hlt : m ≤ 3
    · have hltz : (m : Int) ≤ 3 := by omega
      have hc3 := (cell_blk HF.out.bF).1
      unfold fromV at hc3
      have HI := from_any ok hn (HE.out bs bl bf) m [] m 0 g cap wr (by simp) hlt (Nat.zero_le _) (by simp) HF.out
      go_wp2_with fail
      refine HI.mono ?_
      clear HI
      rintro e w2 ⟨b, l', g2, cap2, rfl, hF2, hb⟩
      have HF2 := hide hF2
      clear hF2
      rcases hb with ⟨rfl, hfd⟩ | ⟨rfl, hfd, rfl⟩
      · have HD := hide hfd
        clear hfd
        have hs1 := (cell_blk HF2.out.bS).1
        have hcap : l'.length ≤ cap2 := by
          rcases HF2.out.own.2 with ⟨e, _⟩ | ⟨g0, cap0, cur, e, hbg, hg, hnc, hcm, hcs, htake⟩
          · cases e
          · cases e; exact hnc
        have HC := clip_any g2 l'.length cap2 w2 hcap
        generalize hll : l'.length = ll at hs1 hcap HC
        go_wp2_with fail
        refine HC.mono ?_
        rintro e w3 ⟨rfl, rfl⟩
        go_wp2_with fail
        refine bodyPost_ret (v := .slice (some ⟨g2, 0, none⟩) ll ll) (by simp [results, Try.results22, go_sem]) rfl ⟨HF2.out.kd, .inr ⟨l', g2, cap2, ?_, (HF2.out.own.lt g2 rfl).1, HF2.out.own, by rw [hll]⟩⟩
        unfold sups
        have h3 : m = 1 ∨ m = 2 ∨ m = 3 := by omega
        rcases h3 with rfl | rfl | rfl
        · rw [List.find?_append, List.find?_append, HD.out]; rfl
        · rw [List.find?_append, List.find?_append, HN.out 1 (by omega) (by omega), HD.out]; rfl
        · rw [List.find?_append, List.find?_append, HN.out 1 (by omega) (by omega), HN.out 2 (by omega) (by omega), HD.out]; rfl
      · have HD := hide hfd
        clear hfd
        go_wp2_with fail
        go_roundg (4 - (m + 1))
        case measure => omega
        case rel =>
          refine ⟨m + 1, g2, cap2, by omega, by omega, by omega, by go_num, HF2, ?_⟩
          intro d h1 h2
          by_cases e : d = m
          · subst e; exact HD.out
          · exact HN.out d h1 (by omega)
    · have hm : m = 4 := by omega
      subst hm
      go_wp2_with fail
      refine bodyPost_ret (v := .slice none 0 0) (by simp [results, Try.results22, go_sem]) rfl ⟨HF.out.kd, .inl ⟨?_, rfl⟩⟩
      unfold sups
      rw [List.find?_append, List.find?_append, HN.out 1 (by omega) (by omega), HN.out 2 (by omega) (by omega), HN.out 3 (by omega) (by omega)]
      rfl
end Go.Proofs.Ytcfkpdjbjfnnmaa
