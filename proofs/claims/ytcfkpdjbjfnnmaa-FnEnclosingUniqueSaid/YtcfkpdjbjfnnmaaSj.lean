/- The support of the smallest circle, as the reckoner sees the program's. -/
import Derived.Test.YtcfkpdjbjfnnmaaSk
set_option linter.unusedSimpArgs false
set_option linter.unusedVariables false
namespace Go.Proofs.Ytcfkpdjbjfnnmaa
open Go.RowKit
theorem new_ints2 {X Y : Int → Int} {n : Int} {wr : Bool} {w w' : World} {F : Nat → Prop} {ρ : Go.Sym.Rho} {l : List Int} {B q base : Nat} {v : Value}
    (hm : Go.Sym.MRel w F ρ [some (PBw wr (-9223372036854775808) 9223372036854775807 X Y n)] w) (hf : ∀ id, ρ.al id → id < 1) (hk : Kd w w') (hl : ∀ x ∈ l, 0 ≤ x ∧ x ≤ 1048576) (hlen : l.length ≤ 3)
    (h : (l = [] ∧ q = 0 ∧ v = .slice none 0 0) ∨ (w.heap.size ≤ B ∧ w'.ownsRow base TI 1 (.slice (some ⟨B, 0, none⟩) l.length q) l.length (il l) ∧ v = .slice (some ⟨B, 0, none⟩) l.length l.length)) :
    ∃ r m' ρ' v', Ending.returned v = Ending.returned v' ∧ (r = (.sl 1 1 (.lit 0) (.v fun _ => (l.length : Int)) 1048576 : Go.Sym.AV) ∧ m' = [some (PBw wr (-9223372036854775808) 9223372036854775807 X Y n), some (IBw true (lA l) l.length)]) ∧ Go.Sym.VR ρ' r v' ∧ Go.Sym.MRel w F ρ' m' w' ∧ (∀ id, ρ'.al id → id < m'.length) ∧ [some (PBw wr (-9223372036854775808) 9223372036854775807 X Y n)].length ≤ m'.length ∧
      (∀ id, id < [some (PBw wr (-9223372036854775808) 9223372036854775807 X Y n)].length → ρ.al id → ρ'.al id ∧ ρ'.β id = ρ.β id ∧ ρ'.γ id = ρ.γ id ∧ ρ'.o id = ρ.o id) ∧ (∀ id b, Go.Sym.blkOf m' id = some b → b.wr = Go.Sym.wrOf [some (PBw wr (-9223372036854775808) 9223372036854775807 X Y n)] id) := by
  let ρ' : Go.Sym.Rho := ⟨fun i => if i = 0 then ρ.β 0 else B, fun i => if i = 0 then ρ.γ 0 else q, fun i => i < 2, fun i => if i = 0 then ρ.o 0 else 0⟩
  obtain ⟨hal, hM⟩ := hm.blk 0 _ rfl
  have hle : ρ.le ρ' none := by
    refine ⟨fun id h => by have := hf id h; show id < 2; omega, fun id h _ => ?_, fun id h _ => ?_, fun id h _ => ?_⟩ <;> (have h0 : id = 0 := (by have := hf id h; omega); subst h0; rfl)
  have hb : ∀ i b, Go.Sym.blkOf [some (PBw wr (-9223372036854775808) 9223372036854775807 X Y n), some (IBw true (lA l) l.length)] i = some b → (i = 0 ∧ b = PBw wr (-9223372036854775808) 9223372036854775807 X Y n) ∨ (i = 1 ∧ b = IBw true (lA l) l.length) := by
    intro i b hb
    match i, hb with
    | 0, hb => exact .inl ⟨rfl, by simpa [Go.Sym.blkOf] using hb.symm⟩
    | 1, hb => exact .inr ⟨rfl, by simpa [Go.Sym.blkOf] using hb.symm⟩
    | i + 2, hb => simp [Go.Sym.blkOf] at hb
  have hM0 : Go.Sym.MR ρ' w' 0 (PBw wr (-9223372036854775808) 9223372036854775807 X Y n) := mr_rho hle hal (hM.keep (hk.fw _))
  have hM1 : Go.Sym.MR ρ' w' 1 (IBw true (lA l) l.length) := by
    rcases h with ⟨rfl, rfl, _⟩ | ⟨_, hB, _⟩
    · exact ⟨Nat.one_pos, .inl ⟨rfl, rfl⟩⟩
    · exact own_row hB (fun x hx => by have := hl x hx; omega) rfl rfl rfl
  have hlt0 : ρ.γ 0 ≠ 0 → ρ.β 0 < w.heap.size := by
    intro hg
    rcases hM.2 with ⟨h1, _⟩ | ⟨_, cs, hh, _⟩ | ⟨_, _, h1, _⟩
    · exact absurd h1 hg
    · exact (Array.getElem?_eq_some_iff.1 hh).1
    · exact h1
  have hB1 : q ≠ 0 → w.heap.size ≤ B := by
    intro hg
    rcases h with ⟨rfl, rfl, _⟩ | ⟨h1, _⟩
    · exact absurd rfl hg
    · exact h1
  refine ⟨_, _, ρ', v, rfl, ⟨rfl, rfl⟩, ?_, ⟨fun i b h => ?_, fun i j b c h1 h2 hne g1 g2 _ => ?_, fun i b h hw hg => ?_, hk.fw F⟩, fun id h => h, Nat.le_succ 1, fun id h1 h2 => ?_, fun id b h => ?_⟩
  · refine ⟨Nat.one_lt_two, Int.le_refl _, by show (0 : Int) ≤ l.length; omega, by show (l.length : Int) ≤ 1048576; omega, ?_⟩
    rcases h with ⟨rfl, rfl, rfl⟩ | ⟨_, hB, rfl⟩
    · exact ⟨none, 0, rfl, Nat.le_refl _, Nat.zero_le _, rfl⟩
    · refine ⟨some ⟨B, 0, none⟩, l.length, rfl, by show ((l.length : Int)).toNat ≤ _; omega, by unfold maxLen; omega, .inr ⟨rfl, ?_⟩⟩
      show (0 + l.length) * 1 ≤ q
      rcases hB.2 with ⟨e, _⟩ | ⟨g0, cap0, cur, e, hbg, hg, hnc, hcm, hcs, htake⟩
      · cases e
      · cases e; omega
  · rcases hb i b h with ⟨rfl, rfl⟩ | ⟨rfl, rfl⟩
    · exact ⟨Nat.zero_lt_two, hM0⟩
    · exact ⟨Nat.one_lt_two, hM1⟩
  · rcases hb i b h1 with ⟨rfl, rfl⟩ | ⟨rfl, rfl⟩ <;> rcases hb j c h2 with ⟨rfl, rfl⟩ | ⟨rfl, rfl⟩
    · exact absurd rfl hne
    · have q1 := hlt0 g1
      have q2 := hB1 g2
      show ρ.β 0 ≠ B
      omega
    · have q1 := hlt0 g2
      have q2 := hB1 g1
      show B ≠ ρ.β 0
      omega
    · exact absurd rfl hne
  · rcases hb i b h with ⟨rfl, rfl⟩ | ⟨rfl, rfl⟩
    · exact hm.own 0 _ rfl hw hg
    · exact .inl (hB1 hg)
  · have h0 : id = 0 := by have : id < 1 := h1; omega
    subst h0
    exact ⟨Nat.zero_lt_two, rfl, rfl, rfl⟩
  · rcases hb id b h with ⟨rfl, rfl⟩ | ⟨rfl, rfl⟩
    · rfl
    · rfl
theorem ext_asc (n : Nat) : ∀ (d : Nat) (pre : List Int) (next : Nat) (l : List Int), l ∈ ext n d pre next → pre.Pairwise (· < ·) → (∀ x ∈ pre, x < (next : Int)) → l.Pairwise (· < ·)
  | 0, pre, next, l, h, hp, _ => by
    have : l = pre := by simpa [ext] using h
    subst this
    exact hp
  | d + 1, pre, next, l, h, hp, hx => by
    obtain ⟨j, h1, h2, hj⟩ := mem_seg.1 (show l ∈ seg next n _ from h)
    refine ext_asc n d (pre ++ [(j : Int)]) (j + 1) l hj ?_ ?_
    · refine List.pairwise_append.2 ⟨hp, List.pairwise_singleton _ _, fun a ha b hb => ?_⟩
      rw [List.mem_singleton.1 hb]
      have := hx a ha
      omega
    · intro x hq
      rcases List.mem_append.1 hq with hq | hq
      · have := hx x hq; omega
      · rw [List.mem_singleton.1 hq]; omega
theorem sups_asc {n : Nat} {l : List Int} (h : l ∈ sups n) : l.Pairwise (· < ·) := by
  unfold sups at h
  rcases List.mem_append.1 h with h | h
  · rcases List.mem_append.1 h with h | h
    · exact ext_asc n 1 [] 0 l h List.Pairwise.nil (by simp)
    · exact ext_asc n 2 [] 0 l h List.Pairwise.nil (by simp)
  · exact ext_asc n 3 [] 0 l h List.Pairwise.nil (by simp)
theorem lA_get {l : List Int} {i : Nat} (h : i < l.length) : lA l i = l[i] := by
  unfold lA
  rw [List.getD_eq_getElem?_getD, show ((i : Int)).toNat = i by omega, List.getElem?_eq_getElem h]
  rfl
theorem asc_ixB {l : List Int} {n : Int} (ha : l.Pairwise (· < ·)) (h : ∀ x ∈ l, 0 ≤ x ∧ x < n) : ixB (lA l) l.length n = true := by
  unfold ixB
  refine allB_iff.2 fun i h0 h1 => ixC_iff.2 ⟨?_, ?_⟩
  · have := lA_at h h0 h1; omega
  · rintro ⟨hi, hle⟩
    have h9 := List.pairwise_iff_getElem.1 ha (i.toNat - 1) i.toNat (by omega) (by omega) (by omega)
    rw [← lA_get, ← lA_get] at h9
    rw [show (((i.toNat - 1 : Nat)) : Int) = i - 1 by omega, show ((i.toNat : Nat) : Int) = i by omega] at h9
    omega
theorem find_congr {α : Type} {p q : α → Bool} : ∀ {L : List α}, (∀ x ∈ L, p x = q x) → L.find? p = L.find? q
  | [], _ => rfl
  | x :: L, h => by
    rw [List.find?_cons, List.find?_cons, h x (by simp), find_congr (L := L) fun y hy => h y (by simp [hy])]
theorem sups_ok (X Y : Int → Int) (n : Nat) : (sups n).find? (okSup X Y n) = (sups n).find? (fun l => ecB X Y n (lA l) l.length) := by
  refine find_congr fun l hl => ?_
  have h1 := asc_ixB (sups_asc hl) (sups_mem hl).2
  unfold okSup sup1 ecB
  rw [h1, Bool.true_and]
theorem iES_runs (wr : Bool) (X Y : Int → Int) (n : Int) : Go.Sym.RunsTo Try.prog 22 [.sl 0 2 (.lit 0) (.v fun _ => n) 1048576] [some (PBw wr (-9223372036854775808) 9223372036854775807 X Y n)]
    (.sl 1 1 (.lit 0) (.v fun _ => esM X Y n) 1048576) [some (PBw wr (-9223372036854775808) 9223372036854775807 X Y n), some (IBw true (esA X Y n) (esM X Y n))] := by
  intro w F ρ vs hm hf hv
  refine ⟨Try.call22 _ _, ?_⟩
  obtain ⟨hal, hM⟩ := hm.blk 0 _ rfl
  obtain ⟨v0, ws, rfl, ⟨_, _, hn0, hnN, a, c, rfl, hnc, hcm, hs⟩, e2⟩ := hv
  have e2 : ws = [] := e2
  subst e2
  have hn0 : 0 ≤ n := hn0
  have hnN : n ≤ 1048576 := hnN
  have hnc : n.toNat ≤ c := hnc
  have hbd := esL_bd (X := X) (Y := Y) (n := n)
  have hG : ∀ W, Kd w W → Calls Try.prog 70 #[.slice a n.toNat c] W fun e w' => e = .returned (.bool (listB X Y n)) ∧ Kd W w' := fun W hk => one_call (i_listOk_q X Y n) hM ⟨hn0, hnN⟩ hnc hcm hs hk
  have fin : ∀ (v : Value) (w' : World) (B q : Nat), Kd w w' → ((esL X Y n = [] ∧ q = 0 ∧ v = .slice none 0 0) ∨ (w.heap.size ≤ B ∧ w'.ownsRow w.heap.size TI 1 (.slice (some ⟨B, 0, none⟩) (esL X Y n).length q) (esL X Y n).length (il (esL X Y n)) ∧ v = .slice (some ⟨B, 0, none⟩) (esL X Y n).length (esL X Y n).length)) → _ :=
    fun v w' B q hk h => new_ints2 hm hf hk (hbd.2.2 hn0 hnN) hbd.1 h
  cases hl : listB X Y n with
  | false =>
    rw [hl] at hG
    refine (iES_bad a n.toNat c w hG).mono ?_
    rintro e w' ⟨rfl, hk⟩
    exact fin _ w' 0 0 hk (.inl ⟨by unfold esL; rw [if_neg (by rw [hl]; decide)], rfl, rfl⟩)
  | true =>
    rw [hl] at hG
    have hn20 := listB_n hl
    have en : ((n.toNat : Nat) : Int) = n := by omega
    have hX : ∀ i, 0 ≤ i → i < n → -1000 ≤ X i ∧ X i ≤ 1000 ∧ -1000 ≤ Y i ∧ Y i ≤ 1000 := fun i h0 h1 => listB_bd hl h0 h1
    have hh := iES_any (fun l => ecB X Y n (lA l) l.length) a n.toNat c w (by omega) hG
      (fun bs bl bf l g cap W hF h3 hx => by
        rw [en] at hx
        exact two_calls2 (i_enclosing_q X Y n (lA l) l.length fun i h0 h1 => lA_at hx h0 h1) hM ⟨hn0, hnN⟩ hnc hcm hs hX hF.kd hF.own ⟨h3, hx⟩)
    have hso := sups_ok X Y n.toNat
    rw [en] at hso
    rw [← hso] at hh
    refine hh.mono ?_
    rintro e w' ⟨hk, h⟩
    rcases h with ⟨h1, rfl⟩ | ⟨l, B, q, h1, h2, h3, rfl⟩
    · exact fin _ w' 0 0 hk (.inl ⟨by unfold esL; rw [if_pos hl, h1]; rfl, rfl, rfl⟩)
    · have e : esL X Y n = l := by unfold esL; rw [if_pos hl, h1]; rfl
      exact fin _ w' B q hk (.inr ⟨h2, by rw [e]; exact h3, by rw [e]⟩)
end Go.Proofs.Ytcfkpdjbjfnnmaa
