/- The support of the smallest circle, as the reckoner sees it. -/
import Derived.Test.YtcfkpdjbjfnnmaaSy
set_option linter.unusedSimpArgs false
set_option linter.unusedVariables false
namespace Go.Proofs.Ytcfkpdjbjfnnmaa
open Go.RowKit
theorem mr_rho {ρ ρ' : Go.Sym.Rho} {w : World} {id : Nat} {b : Go.Sym.Blk} (h : ρ.le ρ' none) (ha : ρ.al id) (hM : Go.Sym.MR ρ w id b) : Go.Sym.MR ρ' w id b := by
  have e1 := h.β id ha (by simp)
  have e2 := h.γ id ha (by simp)
  have e3 := h.o id ha (by simp)
  obtain ⟨h0, h1⟩ := hM
  refine ⟨h0, ?_⟩
  rcases h1 with ⟨a, b⟩ | ⟨ho, cs, hh, hs, hr⟩ | ⟨hw, hg, hb, hr⟩
  · exact .inl ⟨by rw [e2]; exact a, b⟩
  · exact .inr (.inl ⟨by rw [e3]; exact ho, cs, by rw [e1]; exact hh, by rw [e2]; exact hs, fun i hi => ⟨(hr i hi).1, Go.Sym.RowR.le h (hr i hi).2⟩⟩)
  · refine .inr (.inr ⟨hw, by rw [e2]; exact hg, by rw [e1]; exact hb, fun i hi => ?_⟩)
    obtain ⟨vs, q1, q2, q3⟩ := hr i hi
    exact ⟨vs, q1, fun j v hv => by rw [e1, e3]; exact q2 j v hv, Go.Sym.RowR.le h q3⟩
/-- A call that reads a list of points. -/
theorem one_call {f : FuncId} {b : Bool} {X Y : Int → Int} {n : Int}
    (h : Go.Sym.RunsTo Try.prog f [.sl 0 2 (.lit 0) (.v fun _ => n) 1048576] [some (PBw false (-9223372036854775808) 9223372036854775807 X Y n)] (.bool (.v fun _ => b)) [some (PBw false (-9223372036854775808) 9223372036854775807 X Y n)])
    {ρ : Go.Sym.Rho} {w W : World} {wr : Bool} {a : Option Addr} {c : Nat} (hM : Go.Sym.MR ρ w 0 (PBw wr (-9223372036854775808) 9223372036854775807 X Y n)) (hn : 0 ≤ n ∧ n ≤ 1048576) (hnc : n.toNat ≤ c) (hcm : c ≤ maxLen) (hs : Go.Sym.SlAt ρ 0 2 0 c a) (hk : Kd w W) :
    Calls Try.prog f #[.slice a n.toNat c] W fun e w' => e = .returned (.bool b) ∧ Kd W w' := by
  have hM2 : Go.Sym.MR ρ W 0 _ := hM.keep (hk.fw _)
  have hcs : c = 0 ∨ c * 2 ≤ ρ.γ 0 := by
    cases a with
    | none => exact .inl hs
    | some x => exact hs.imp id fun h => by have := h.2; omega
  refine (h W (fun _ => False) ⟨fun i => ρ.β 0, fun i => c * 2, fun i => i < 1, fun i => ρ.o 0⟩ [.slice a n.toNat c] ?_ (fun id hi => hi) ?_).2.mono ?_
  · refine ⟨fun i b hb => ?_, fun i j b c hb hc hne _ _ hw => ?_, fun i b hb hw _ => ?_, Go.Sym.FrameW.refl _ _⟩
    · match i, hb with
      | 0, hb =>
        have e : b = PBw false (-9223372036854775808) 9223372036854775807 X Y n := by simpa [Go.Sym.blkOf] using hb.symm
        subst e
        refine ⟨Nat.zero_lt_one, Go.Sym.MR.shift (s := 0) hM2 (Int.le_refl _) (by omega) hnc (hcs.imp id fun h => by show (0 + c) * 2 ≤ _; omega) rfl (by show ρ.o 0 = ρ.o 0 + 0 * 2; omega) rfl ?_⟩
        intro e vs h0 h1 h2
        rw [show (0 : Int) + e.den = e.den by omega] at h2
        exact h2
      | i + 1, hb => simp [Go.Sym.blkOf] at hb
    · match i, j, hb, hc with
      | 0, 0, _, _ => exact absurd rfl hne
      | i + 1, _, hb, _ => simp [Go.Sym.blkOf] at hb
      | 0, j + 1, _, hc => simp [Go.Sym.blkOf] at hc
    · match i, hb with
      | 0, hb =>
        have e : b = PBw false (-9223372036854775808) 9223372036854775807 X Y n := by simpa [Go.Sym.blkOf] using hb.symm
        rw [e] at hw; cases hw
      | i + 1, hb => simp [Go.Sym.blkOf] at hb
  · refine ⟨_, _, rfl, ⟨Nat.zero_lt_one, Int.le_refl _, hn.1, hn.2, a, c, rfl, hnc, hcm, ?_⟩, rfl⟩
    cases a with
    | none => exact hs
    | some x =>
      refine hs.imp id fun h => ⟨?_, ?_⟩
      · rw [h.1]; rfl
      · show (0 + c) * 2 ≤ c * 2
        omega
  · rintro e w' ⟨r, m', ρ', v, rfl, ⟨rfl, rfl⟩, hrv, hMM, _⟩
    have hrv : v = .bool b := hrv
    subst hrv
    exact ⟨rfl, Kd.fr hMM.fr⟩
/-- What is told of a call that hands out a new list of indices. -/
theorem new_ints {X Y : Int → Int} {n : Int} {wr : Bool} {w w' : World} {F : Nat → Prop} {ρ : Go.Sym.Rho} {l : List Int} {B : Nat} {v : Value}
    (hm : Go.Sym.MRel w F ρ [some (PBw wr (-9223372036854775808) 9223372036854775807 X Y n)] w) (hf : ∀ id, ρ.al id → id < 1) (hk : Kd w w') (hl : ∀ x ∈ l, 0 ≤ x ∧ x ≤ 1048576) (hlen : l.length ≤ 3)
    (h : (l = [] ∧ v = .slice none 0 0) ∨ (w.heap.size ≤ B ∧ w'.heap[B]? = some (.cells (ints l) TI (0, 0)) ∧ v = .slice (some ⟨B, 0, none⟩) l.length l.length)) :
    ∃ r m' ρ' v', Ending.returned v = Ending.returned v' ∧ (r = (.sl 1 1 (.lit 0) (.v fun _ => (l.length : Int)) 1048576 : Go.Sym.AV) ∧ m' = [some (PBw wr (-9223372036854775808) 9223372036854775807 X Y n), some (IBw true (lA l) l.length)]) ∧ Go.Sym.VR ρ' r v' ∧ Go.Sym.MRel w F ρ' m' w' ∧ (∀ id, ρ'.al id → id < m'.length) ∧ [some (PBw wr (-9223372036854775808) 9223372036854775807 X Y n)].length ≤ m'.length ∧
      (∀ id, id < [some (PBw wr (-9223372036854775808) 9223372036854775807 X Y n)].length → ρ.al id → ρ'.al id ∧ ρ'.β id = ρ.β id ∧ ρ'.γ id = ρ.γ id ∧ ρ'.o id = ρ.o id) ∧ (∀ id b, Go.Sym.blkOf m' id = some b → b.wr = Go.Sym.wrOf [some (PBw wr (-9223372036854775808) 9223372036854775807 X Y n)] id) := by
  let ρ' : Go.Sym.Rho := ⟨fun i => if i = 0 then ρ.β 0 else B, fun i => if i = 0 then ρ.γ 0 else l.length, fun i => i < 2, fun i => if i = 0 then ρ.o 0 else 0⟩
  obtain ⟨hal, hM⟩ := hm.blk 0 _ rfl
  have hle : ρ.le ρ' none := by
    refine ⟨fun id h => by have := hf id h; show id < 2; omega, fun id h _ => ?_, fun id h _ => ?_, fun id h _ => ?_⟩ <;> (have h0 : id = 0 := (by have := hf id h; omega); subst h0; rfl)
  have hb : ∀ i b, Go.Sym.blkOf [some (PBw wr (-9223372036854775808) 9223372036854775807 X Y n), some (IBw true (lA l) l.length)] i = some b → (i = 0 ∧ b = PBw wr (-9223372036854775808) 9223372036854775807 X Y n) ∨ (i = 1 ∧ b = IBw true (lA l) l.length) := by
    intro i b hb
    match i, hb with
    | 0, hb => exact .inl ⟨rfl, by simpa [Go.Sym.blkOf] using hb.symm⟩
    | 1, hb => exact .inr ⟨rfl, by simpa [Go.Sym.blkOf] using hb.symm⟩
    | i + 2, hb => simp [Go.Sym.blkOf] at hb
  have hM0 : Go.Sym.MR ρ' w' 0 (PBw wr (-9223372036854775808) 9223372036854775807 X Y n) := mr_rho hle hal (hM.keep (hk.fw _))
  have hM1 : Go.Sym.MR ρ' w' 1 (IBw true (lA l) l.length) := by
    rcases h with ⟨rfl, _⟩ | ⟨_, hB, _⟩
    · exact ⟨Nat.one_pos, .inl ⟨rfl, rfl⟩⟩
    · exact ints_row hB (fun x hx => by have := hl x hx; omega) rfl rfl rfl
  have hlt0 : ρ.γ 0 ≠ 0 → ρ.β 0 < w.heap.size := by
    intro hg
    rcases hM.2 with ⟨h1, _⟩ | ⟨_, cs, hh, _⟩ | ⟨_, _, h1, _⟩
    · exact absurd h1 hg
    · exact (Array.getElem?_eq_some_iff.1 hh).1
    · exact h1
  have hB1 : l.length ≠ 0 → w.heap.size ≤ B := by
    intro hg
    rcases h with ⟨rfl, _⟩ | ⟨h1, _⟩
    · exact absurd rfl hg
    · exact h1
  refine ⟨_, _, ρ', v, rfl, ⟨rfl, rfl⟩, ?_, ⟨fun i b h => ?_, fun i j b c h1 h2 hne g1 g2 _ => ?_, fun i b h hw hg => ?_, hk.fw F⟩, fun id h => h, Nat.le_succ 1, fun id h1 h2 => ?_, fun id b h => ?_⟩
  · refine ⟨Nat.one_lt_two, Int.le_refl _, by show (0 : Int) ≤ l.length; omega, by show (l.length : Int) ≤ 1048576; omega, ?_⟩
    rcases h with ⟨rfl, rfl⟩ | ⟨_, _, rfl⟩
    · exact ⟨none, 0, rfl, Nat.le_refl _, Nat.zero_le _, rfl⟩
    · exact ⟨some ⟨B, 0, none⟩, l.length, rfl, by show ((l.length : Int)).toNat ≤ _; omega, by unfold maxLen; omega, .inr ⟨rfl, by show (0 + l.length) * 1 ≤ l.length; omega⟩⟩
  · rcases hb i b h with ⟨rfl, rfl⟩ | ⟨rfl, rfl⟩
    · exact ⟨Nat.zero_lt_two, hM0⟩
    · exact ⟨Nat.one_lt_two, hM1⟩
  · rcases hb i b h1 with ⟨rfl, rfl⟩ | ⟨rfl, rfl⟩ <;> rcases hb j c h2 with ⟨rfl, rfl⟩ | ⟨rfl, rfl⟩
    · exact absurd rfl hne
    · have q1 := hlt0 g1
      have q2 := hB1 g2
      show ρ.β 0 ≠ B
      omega
    · have q1 := hlt0 g2
      have q2 := hB1 g1
      show B ≠ ρ.β 0
      omega
    · exact absurd rfl hne
  · rcases hb i b h with ⟨rfl, rfl⟩ | ⟨rfl, rfl⟩
    · exact hm.own 0 _ rfl hw hg
    · exact .inl (hB1 hg)
  · have h0 : id = 0 := by have : id < 1 := h1; omega
    subst h0
    exact ⟨Nat.zero_lt_two, rfl, rfl, rfl⟩
  · rcases hb id b h with ⟨rfl, rfl⟩ | ⟨rfl, rfl⟩
    · rfl
    · rfl
theorem find_mem {α : Type} {p : α → Bool} {L : List α} {x : α} (h : L.find? p = some x) : x ∈ L := List.mem_of_find?_eq_some h
theorem esL_bd {X Y : Int → Int} {n : Int} : (esL X Y n).length ≤ 3 ∧ (∀ x ∈ esL X Y n, 0 ≤ x ∧ x < n) ∧ (0 ≤ n → n ≤ 1048576 → ∀ x ∈ esL X Y n, 0 ≤ x ∧ x ≤ 1048576) := by
  have main : (esL X Y n).length ≤ 3 ∧ ∀ x ∈ esL X Y n, 0 ≤ x ∧ x < n := by
    unfold esL
    split
    · cases h : (sups n.toNat).find? (okSup X Y n) with
      | none => exact ⟨Nat.zero_le _, fun x hx => by cases hx⟩
      | some l =>
        have := sups_mem (find_mem h)
        refine ⟨this.1.2, fun x hx => ?_⟩
        have := this.2 x hx
        omega
    · exact ⟨Nat.zero_le _, fun x hx => by cases hx⟩
  exact ⟨main.1, main.2, fun h0 h1 x hx => by have := main.2 x hx; omega⟩
theorem sES_runs (wr : Bool) (X Y : Int → Int) (n : Int) : Go.Sym.RunsTo Try.prog 21 [.sl 0 2 (.lit 0) (.v fun _ => n) 1048576] [some (PBw wr (-9223372036854775808) 9223372036854775807 X Y n)]
    (.sl 1 1 (.lit 0) (.v fun _ => esM X Y n) 1048576) [some (PBw wr (-9223372036854775808) 9223372036854775807 X Y n), some (IBw true (esA X Y n) (esM X Y n))] := by
  intro w F ρ vs hm hf hv
  refine ⟨Try.call21 _ _, ?_⟩
  obtain ⟨hal, hM⟩ := hm.blk 0 _ rfl
  obtain ⟨v0, ws, rfl, ⟨_, _, hn0, hnN, a, c, rfl, hnc, hcm, hs⟩, e2⟩ := hv
  have e2 : ws = [] := e2
  subst e2
  have hn0 : 0 ≤ n := hn0
  have hnN : n ≤ 1048576 := hnN
  have hnc : n.toNat ≤ c := hnc
  have hbd := esL_bd (X := X) (Y := Y) (n := n)
  have hG := one_call (s_validPoints_q X Y n) hM ⟨hn0, hnN⟩ hnc hcm hs (Kd.refl w)
  have fin : ∀ (v : Value) (w' : World) (B : Nat), Kd w w' → ((esL X Y n = [] ∧ v = .slice none 0 0) ∨ (w.heap.size ≤ B ∧ w'.heap[B]? = some (.cells (ints (esL X Y n)) TI (0, 0)) ∧ v = .slice (some ⟨B, 0, none⟩) (esL X Y n).length (esL X Y n).length)) → _ :=
    fun v w' B hk h => new_ints hm hf hk (hbd.2.2 hn0 hnN) hbd.1 h
  cases hl : listB X Y n with
  | false =>
    rw [hl] at hG
    refine (sES_bad a n.toNat c w hG).mono ?_
    rintro e w' ⟨rfl, hk⟩
    exact fin _ w' 0 hk (.inl ⟨by unfold esL; rw [if_neg (by rw [hl]; decide)], rfl⟩)
  | true =>
    rw [hl] at hG
    have hn20 := listB_n hl
    by_cases hz : n = 0
    · subst hz
      refine (sES_none a c w hG).mono ?_
      rintro e w' ⟨rfl, hk⟩
      exact fin _ w' 0 hk (.inl ⟨by unfold esL; rw [if_pos hl]; rfl, rfl⟩)
    · have en : ((n.toNat : Nat) : Int) = n := by omega
      have hX : ∀ i, 0 ≤ i → i < n → -1000 ≤ X i ∧ X i ≤ 1000 ∧ -1000 ≤ Y i ∧ Y i ≤ 1000 := fun i h0 h1 => listB_bd hl h0 h1
      have hmm : ∀ l, l ∈ sups n.toNat → l.length ≤ 3 ∧ ∀ x ∈ l, 0 ≤ x ∧ x < n := fun l h => by
        have := sups_mem h
        rw [en] at this
        exact ⟨this.1.2, this.2⟩
      have hh := sES_any X Y a n.toNat c w (by omega) (by omega) hG
        (fun l B W h1 h2 h3 => by rw [en]; exact two_calls (s_isSupport_q X Y n (lA l) l.length) hM ⟨hn0, hnN⟩ hnc hcm hs hX h2 h3 (hmm l h1))
        (fun l B W h1 h2 h3 => by
          rw [en]
          refine two_calls (s_encloses_q X Y n (lA l) l.length ⟨fun i h0 h1' => lA_at (hmm l h1).2 h0 h1', ?_⟩) hM ⟨hn0, hnN⟩ hnc hcm hs hX h2 h3 (hmm l h1)
          have := (sups_mem h1).1
          omega)
      rw [en] at hh
      refine hh.mono ?_
      rintro e w' ⟨hk, h⟩
      rcases h with ⟨h1, rfl⟩ | ⟨B, l, h1, h2, h3, rfl⟩
      · exact fin _ w' 0 hk (.inl ⟨by unfold esL; rw [if_pos hl, h1]; rfl, rfl⟩)
      · have e : esL X Y n = l := by unfold esL; rw [if_pos hl, h1]; rfl
        exact fin _ w' B hk (.inr ⟨h2, by rw [e]; exact h3, by rw [e]⟩)
end Go.Proofs.Ytcfkpdjbjfnnmaa
