/- The search of the program: its walk. -/
import Derived.Test.YtcfkpdjbjfnnmaaSu
set_option linter.unusedSimpArgs false
set_option linter.unusedVariables false
namespace Go.Proofs.Ytcfkpdjbjfnnmaa
open Go.RowKit
theorem setCell_grown (w : World) (b : Nat) (v : Value) : w.grownBy (w.setCell ⟨b, 0, none⟩ v) (some b) := by
  refine ⟨rfl, rfl, rfl, by simp [World.setCell], fun k hk hne => ?_⟩
  have : b ≠ k := fun e => hne (by rw [e])
  simp [World.setCell, Array.getElem?_modify, this]
theorem setCell_at {w : World} {b : Nat} {v u : Value} {t : TypeId} (h : w.heap[b]? = some (.cells #[u] t (0, 0))) : (w.setCell ⟨b, 0, none⟩ v).heap[b]? = some (.cells #[v] t (0, 0)) := by
  simp [World.setCell, Array.getElem?_modify, h]
theorem setCell_other_at {w : World} {b k : Nat} {v : Value} {o : Obj} (hne : k ≠ b) (h : w.heap[k]? = some o) : (w.setCell ⟨b, 0, none⟩ v).heap[k]? = some o := by
  rw [(setCell_grown w b v).block k (blk_lt h) (by intro e; cases e; exact hne rfl)]
  exact h
/-- Behind an append and a store. -/
theorem FS.push {w0 w wa : World} {bs bl bf : Nat} {A : Option Addr} {n c : Nat} {l : List Int} {g cap g' cap' k : Nat} {o : Obj} (h : FS w0 w bs bl bf A n c l g cap)
    (hown : wa.ownsRow w0.heap.size TI 1 (.slice (some ⟨g', 0, none⟩) (l.length + 1) cap') (l.length + 1) (il l ++ [.int .i64 k])) (hg : (w.alloc o).grownBy wa (some g)) (hat : g' = g ∨ g' = (w.alloc o).heap.size) (hd : (w.alloc o).drawn ≤ wa.drawn) :
    FS w0 (wa.setCell ⟨bs, 0, none⟩ (.slice (some ⟨g', 0, none⟩) (l.length + 1) cap')) bs bl bf A n c (l ++ [(k : Int)]) g' cap' ∧ (wa.cell? ⟨bs, 0, none⟩ = some (.slice (some ⟨g, 0, none⟩) l.length cap) ∧ wa.frozen? ⟨bs, 0, none⟩ = false) ∧ wa.cell? ⟨bf, 0, none⟩ = some (fromV bs bl bf) := by
  have es : (w.alloc o).heap.size = w.heap.size + 1 := by simp
  rw [es] at hat
  have b1 := blk_lt h.bS
  have b2 := blk_lt h.bL
  have b3 := blk_lt h.bF
  have hne := h.ne
  have hlo := h.lo
  have hs0 := h.kd.gr.size
  have hgl : w0.heap.size ≤ g := by have := h.own.lt g rfl; omega
  have up : ∀ {b o'}, w.heap[b]? = some o' → b ≠ g → wa.heap[b]? = some o' := fun {b o'} hb hbg => by
    have hlt := blk_lt hb
    rw [hg.block b (by omega) (by intro e; cases e; exact hbg rfl), old_alloc w o hlt]
    exact hb
  have hS := up h.bS (by omega)
  have hL := up h.bL (by omega)
  have hF := up h.bF (by omega)
  have hk : Kd w0 wa := (h.kd.alloc o).row hg hgl hd
  refine ⟨⟨hk.row (setCell_grown wa bs _) (by omega) (Nat.le_refl _), h.lo, by omega, ?_, setCell_other_at (by omega) hL, setCell_other_at (by omega) hF, ?_⟩, cell_blk hS, (cell_blk hF).1⟩
  · rw [setCell_at hS, List.length_append]; rfl
  · have h9 := hown.kept (setCell_grown wa bs (.slice (some ⟨g', 0, none⟩) (l.length + 1) cap')) (.inr (by simp [Value.ownBlock]; omega))
    have e : il (l ++ [(k : Int)]) = il l ++ [.int .i64 k] := by simp [il]
    rw [e, List.length_append]
    exact h9
/-- The last one is left out. -/
theorem FS.pop {w0 w : World} {bs bl bf : Nat} {A : Option Addr} {n c : Nat} {l : List Int} {x : Int} {g cap : Nat} (h : FS w0 w bs bl bf A n c (l ++ [x]) g cap) :
    FS w0 (w.setCell ⟨bs, 0, none⟩ (.slice (some ⟨g, 0, none⟩) l.length cap)) bs bl bf A n c l g cap := by
  have hne := h.ne
  have hlo := h.lo
  have hs0 := h.kd.gr.size
  have h0 : w.ownsRow w0.heap.size TI 1 (.slice (some ⟨g, 0, none⟩) l.length cap) l.length (il l) := by
    refine ⟨by simp [il], ?_⟩
    rcases h.own.2 with ⟨e, _⟩ | ⟨g0, cap0, cur, e, hbg, hg, hnc, hcm, hcs, htake⟩
    · cases e
    · cases e
      rw [List.length_append] at hnc htake
      refine .inr ⟨g, cap, cur, rfl, hbg, hg, by omega, hcm, hcs, ?_⟩
      have h9 := congrArg (fun q : List Value => q.take (l.length * 1)) htake
      simp only [List.take_take] at h9
      rw [show min (l.length * 1) ((l.length + [x].length) * 1) = l.length * 1 by simp] at h9
      rw [h9]
      simp [il]
  exact ⟨h.kd.row (setCell_grown w bs _) (by omega) (Nat.le_refl _), h.lo, h.ne, setCell_at h.bS, setCell_other_at (by omega) h.bL, setCell_other_at (by omega) h.bF, h0.kept (setCell_grown w bs _) (.inr (by simp [Value.ownBlock]; omega))⟩
theorem find_seg_none {α : Type} {p : α → Bool} {f : Nat → List α} {s : Nat} : ∀ {n : Nat}, (∀ j : Nat, s ≤ j → j < n → (f j).find? p = none) → (seg s n f).find? p = none
  | 0, _ => by simp [seg]
  | n + 1, h => by
    by_cases hs : s ≤ n
    · rw [seg_succ hs, List.find?_append, find_seg_none (n := n) (fun j a b => h j a (by omega)), h n hs (by omega)]
      rfl
    · unfold seg
      rw [show n + 1 - s = 0 by omega]
      rfl
theorem find_seg_hit {α : Type} {p : α → Bool} {f : Nat → List α} {s k : Nat} {x : α} (hk : s ≤ k) (h : ∀ j : Nat, s ≤ j → j < k → (f j).find? p = none) (hx : (f k).find? p = some x) : ∀ {n : Nat}, k < n → (seg s n f).find? p = some x
  | 0, hn => absurd hn (by omega)
  | n + 1, hn => by
    rw [seg_succ (show s ≤ n by omega), List.find?_append]
    by_cases e : k = n
    · subst e
      rw [find_seg_none h, hx]
      rfl
    · rw [find_seg_hit hk h hx (show k < n by omega)]
      rfl
/-- What is told of a call of the search. -/
def FromQ (w0 : World) (bs bl bf : Nat) (A : Option Addr) (n c : Nat) (R : Option (List Int)) (l : List Int) (e : Ending) (w' : World) : Prop :=
  ∃ b l' g' cap', e = .returned (.bool b) ∧ FS w0 w' bs bl bf A n c l' g' cap' ∧ ((b = true ∧ R = some l') ∨ (b = false ∧ R = none ∧ l' = l))
set_option maxRecDepth 100000 in
set_option maxHeartbeats 2000000 in
theorem from_any {w0 : World} {bs bl bf : Nat} {A : Option Addr} {n c : Nat} (ok : List Int → Bool) (hn : n ≤ 20)
    (HE : ∀ (l : List Int) (g cap : Nat) (W : World), FS w0 W bs bl bf A n c l g cap → l.length ≤ 3 → (∀ x ∈ l, 0 ≤ x ∧ x < (n : Int)) → Calls Try.prog 72 #[.slice A n c, .slice (some ⟨g, 0, none⟩) l.length cap] W fun e w' => e = .returned (.bool (ok l)) ∧ Kd W w') :
    ∀ (d : Nat) (l : List Int) (many next g cap : Nat) (w : World), l.length + d = many → many ≤ 3 → next ≤ n → (∀ x ∈ l, 0 ≤ x ∧ x < (n : Int)) → FS w0 w bs bl bf A n c l g cap →
      Calls Try.prog 71 #[.int .i64 many, .int .i64 next, .pointer (some ⟨bs, 0, none⟩), .pointer (some ⟨bl, 0, none⟩), .pointer (some ⟨bf, 0, none⟩)] w (FromQ w0 bs bl bf A n c ((ext n d l next).find? ok) l)
  | 0, l, many, next, g, cap, w, hm, hm3, hnx, hl, hF => by
    have hc1 := (cell_blk hF.bS).1
    have hc2 := (cell_blk hF.bL).1
    have HC := HE l g cap w hF (by omega) hl
    have hml : (many : Int) = (l.length : Int) := by omega
    have HF := hide hF
    clear hF hl HE
    generalize hll : l.length = ll at *
    have HLL := hide hll
    clear hll
    have hmm : many = ll := by omega
    subst hmm
    go_enter Try.func71, Try.ntmps71
    go_wp2_with fail
    refine HC.mono ?_
    rintro e w1 ⟨rfl, hk1⟩
    go_wp2_with fail
    refine bodyPost_ret (v := .bool (ok l)) (by simp [results, Try.results71, go_sem]) rfl ⟨ok l, l, g, cap, rfl, HF.out.keep hk1, ?_⟩
    cases h : ok l with
    | true => exact .inl ⟨rfl, by simp [ext, h]⟩
    | false => exact .inr ⟨rfl, by simp [ext, h], rfl⟩
  | d + 1, l, many, next, g, cap, w, hm, hm3, hnx, hl, hF => by
    have IH := hide (from_any ok hn HE d)
    have hc1 := (cell_blk hF.bS).1
    have hc2 := (cell_blk hF.bL).1
    have HF := hide hF
    have HL := hide hl
    clear hF hl HE
    generalize hll : l.length = ll at hc1 hm
    have HLL := hide hll
    clear hll
    have hml : ((ll : Int) == (many : Int)) = false := by
      have : ¬ ((ll : Int) = (many : Int)) := by omega
      simpa using this
    go_enter Try.func71, Try.ntmps71
    go_wp2_with fail
    clear hc1 hc2
    go_loopg [8] n (fun gg s8 wr => ∃ k g cap : Nat, next ≤ k ∧ k ≤ n ∧ n - k ≤ gg ∧ s8 = .int .i64 k ∧ Hid (FS w0 wr bs bl bf A n c l g cap) ∧ Hid (∀ j : Nat, next ≤ j → j < k → (ext n d (l ++ [(j : Int)]) (j + 1)).find? ok = none))
    case atStart => exact ⟨next, g, cap, Nat.le_refl _, hnx, by omega, rfl, HF, (show Hid _ from fun j h1 h2 => absurd h2 (by omega))⟩
    case round =>
      clear HF
      obtain ⟨k, g, cap, hk1, hk2, hgk, rfl, HF, HN⟩ := hrel
      have hc1 := (cell_blk HF.out.bS).1
      have hc2 := (cell_blk HF.out.bL).1
      rw [HLL.out] at hc1
      by_cases hlt : k < n
      · have hltz : (k : Int) < (n : Int) := by omega
        have ho := HF.out.own
        rw [HLL.out] at ho
        have HO := hide ho
        have hsz := HF.out.kd.gr.size
        clear ho
        go_wp2_with (first
          | (at_builtin; (refine wpList_append_int _ rfl _ _ rfl w0.heap.size g ll cap (il l) rfl (HO.out.alloc _) _ 1 1 [.int .i64 k] rfl rfl (news1 (by simp)) (one_int _) (by omega) (by simp; omega) ?_; intro g1 cap1 wa ho1 hg1 hat1 hd1; have hP := HF.out.push (k := k) (by rw [HLL.out]; exact ho1) hg1 hat1 hd1; rw [HLL.out] at hP; have HP := hide hP.1; have hp1 := hP.2.1.1; have hp2 := hP.2.1.2; have hp4 := (cell_blk hP.1.bF).1; unfold fromV at hp4; clear hP))
          | fail)
        have HI := IH.out (l ++ [(k : Int)]) many (k + 1) g1 cap1 _ (by rw [List.length_append, HLL.out]; simp only [List.length_singleton]; omega) hm3 (by omega) (fun x hx => by
          rcases List.mem_append.1 hx with hx | hx
          · exact HL.out x hx
          · rw [List.mem_singleton.1 hx]; omega) HP.out
        have e1 : ((k + 1 : Nat) : Int) = (k : Int) + 1 := by omega
        rw [e1] at HI
        refine HI.mono ?_
        clear HI hp1 hp2 hp4 HP
        rintro e w2 ⟨b, l', g2, cap2, rfl, hF2, hb⟩
        have HF2 := hide hF2
        clear hF2
        rcases hb with ⟨rfl, hfd⟩ | ⟨rfl, hfd, rfl⟩
        · have HD := hide hfd
          clear hfd
          go_wp2_with fail
          exact bodyPost_ret (v := .bool true) (by simp [results, Try.results71, go_sem]) rfl ⟨true, l', g2, cap2, rfl, HF2.out, .inl ⟨rfl, find_seg_hit hk1 HN.out HD.out hlt⟩⟩
        · have HD := hide hfd
          clear hfd
          have hs1 := (cell_blk HF2.out.bS).1
          have hs2 := (cell_blk HF2.out.bS).2
          have hcap : ll + 1 ≤ cap2 := by
            rcases HF2.out.own.2 with ⟨e, _⟩ | ⟨g0, cap0, cur, e, hbg, hg, hnc, hcm, hcs, htake⟩
            · cases e
            · cases e
              rw [List.length_append, HLL.out] at hnc
              exact hnc
          have hpop := HF2.out.pop
          rw [HLL.out] at hpop
          have HPP := hide hpop
          clear hpop
          rw [List.length_append, HLL.out] at hs1
          have hs1 : w2.cell? ⟨bs, 0, none⟩ = some (.slice (some ⟨g2, 0, none⟩) (ll + 1) cap2) := hs1
          go_wp2_with fail
          go_roundg (n - (k + 1))
          case measure => omega
          case rel =>
            refine ⟨k + 1, g2, cap2, by omega, by omega, by omega, by go_num, ?_, ?_⟩
            · exact HPP
            · intro j h1 h2
              by_cases e : j = k
              · subst e; exact HD.out
              · exact HN.out j h1 (by omega)
      · have hkn : k = n := by omega
        subst hkn
        have hltz : ¬ (k : Int) < (k : Int) := by omega
        go_wp2_with fail
        exact bodyPost_ret (v := .bool false) (by simp [results, Try.results71, go_sem]) rfl ⟨false, l, g, cap, rfl, HF.out, .inr ⟨rfl, find_seg_none HN.out, rfl⟩⟩
end Go.Proofs.Ytcfkpdjbjfnnmaa
