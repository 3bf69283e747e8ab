/- The support of the smallest circle: the reference's walk. -/
import Derived.Test.YtcfkpdjbjfnnmaaSw
import Derived.Test.YtcfkpdjbjfnnmaaPu
import Derived.Test.YtcfkpdjbjfnnmaaK80
set_option linter.unusedSimpArgs false
set_option linter.unusedVariables false
namespace Go.Proofs.Ytcfkpdjbjfnnmaa
open Go.RowKit
def sups (n : Nat) : List (List Int) := ext n 1 [] 0 ++ ext n 2 [] 0 ++ ext n 3 [] 0
def lA (l : List Int) (i : Int) : Int := l.getD i.toNat 0
def sup1 (X Y : Int → Int) (n : Int) (l : List Int) : Bool := ixB (lA l) l.length n && dtB (fun i => X (lA l i)) (fun i => Y (lA l i)) l.length
def okSup (X Y : Int → Int) (n : Int) (l : List Int) : Bool := sup1 X Y n l && eaB X Y n (lA l) l.length
def esL (X Y : Int → Int) (n : Int) : List Int := if listB X Y n = true then ((sups n.toNat).find? (okSup X Y n)).getD [] else []
def esM (X Y : Int → Int) (n : Int) : Int := (esL X Y n).length
def esA (X Y : Int → Int) (n : Int) (i : Int) : Int := lA (esL X Y n) i
theorem mem_seg {α : Type} {s k : Nat} {f : Nat → List α} {x : α} : x ∈ seg s k f ↔ ∃ j, s ≤ j ∧ j < k ∧ x ∈ f j := by
  unfold seg
  rw [List.mem_flatMap]
  constructor
  · rintro ⟨j, hj, hx⟩
    have := List.mem_range'_1.1 hj
    exact ⟨j, by omega, by omega, hx⟩
  · rintro ⟨j, h1, h2, hx⟩
    exact ⟨j, List.mem_range'_1.2 (by omega), hx⟩
theorem ext_mem (n : Nat) : ∀ (d : Nat) (pre : List Int) (next : Nat) (l : List Int), l ∈ ext n d pre next → l.length = pre.length + d ∧ ((∀ x ∈ pre, 0 ≤ x ∧ x < (n : Int)) → ∀ x ∈ l, 0 ≤ x ∧ x < (n : Int))
  | 0, pre, next, l, h => by
    have : l = pre := by simpa [ext] using h
    subst this
    exact ⟨rfl, fun h => h⟩
  | d + 1, pre, next, l, h => by
    obtain ⟨j, h1, h2, hx⟩ := mem_seg.1 (show l ∈ seg next n _ from h)
    have ih := ext_mem n d (pre ++ [(j : Int)]) (j + 1) l hx
    refine ⟨by rw [ih.1]; simp; omega, fun hp => ih.2 fun x hx => ?_⟩
    rcases List.mem_append.1 hx with hx | hx
    · exact hp x hx
    · rw [List.mem_singleton.1 hx]; omega
theorem sups_mem {n : Nat} {l : List Int} (h : l ∈ sups n) : (1 ≤ l.length ∧ l.length ≤ 3) ∧ ∀ x ∈ l, 0 ≤ x ∧ x < (n : Int) := by
  unfold sups at h
  rcases List.mem_append.1 h with h | h
  · rcases List.mem_append.1 h with h | h
    · have := ext_mem n 1 [] 0 l h
      exact ⟨by have := this.1; simp at this; omega, this.2 (by simp)⟩
    · have := ext_mem n 2 [] 0 l h
      exact ⟨by have := this.1; simp at this; omega, this.2 (by simp)⟩
  · have := ext_mem n 3 [] 0 l h
    exact ⟨by have := this.1; simp at this; omega, this.2 (by simp)⟩
theorem lA_at {l : List Int} {n : Int} (h : ∀ x ∈ l, 0 ≤ x ∧ x < n) {i : Int} (h0 : 0 ≤ i) (h1 : i < l.length) : 0 ≤ lA l i ∧ lA l i < n := by
  unfold lA
  rw [List.getD_eq_getElem?_getD, List.getElem?_eq_getElem (show i.toNat < l.length by omega)]
  exact h _ (List.getElem_mem _)
abbrev PBw (b : Bool) (lo hi : Int) (X Y : Int → Int) (n : Int) : Go.Sym.Blk := ⟨50, 2, b, .sym (.v fun _ => n) fun e => [.int .i64 (.v fun _ => X e.den) lo hi, .int .i64 (.v fun _ => Y e.den) lo hi]⟩
abbrev IBw (b : Bool) (A : Int → Int) (m : Int) : Go.Sym.Blk := ⟨3, 1, b, .sym (.v fun _ => m) fun e => [.int .i64 (.v fun _ => A e.den) (-9223372036854775808) 9223372036854775807]⟩
theorem Kd.fw {w w' : World} (h : Kd w w') (F : Nat → Prop) : Go.Sym.FrameW w F w' := ⟨h.gr.os, h.gr.tape, h.gr.output, h.gr.size, fun k hk _ => h.gr.block k hk (by simp), h.dr⟩
/-- A list's points, to be read. -/
theorem pt_read {ρ ρ1 : Go.Sym.Rho} {w : World} {wr : Bool} {X Y : Int → Int} {n : Int} {c : Nat} (hM : Go.Sym.MR ρ w 0 (PBw wr (-9223372036854775808) 9223372036854775807 X Y n)) (hn : n.toNat ≤ c) (hc : c = 0 ∨ c * 2 ≤ ρ.γ 0)
    (hX : ∀ i, 0 ≤ i → i < n → -1000 ≤ X i ∧ X i ≤ 1000 ∧ -1000 ≤ Y i ∧ Y i ≤ 1000) (e1 : ρ1.β 0 = ρ.β 0) (e2 : ρ1.o 0 = ρ.o 0) (e3 : ρ1.γ 0 = c * 2) : Go.Sym.MR ρ1 w 0 (PBw false (-1000) 1000 X Y n) := by
  refine Go.Sym.MR.shift (s := 0) hM (Int.le_refl _) (by omega) hn (hc.imp id fun h => by show (0 + c) * 2 ≤ _; omega) e1 (by rw [e2]; show _ = _ + 0 * 2; omega) e3 ?_
  rintro e vs h0 h1 ⟨v0, ws, rfl, ⟨rfl, _⟩, v1, ws1, rfl, ⟨rfl, _⟩, q⟩
  have hb := hX e.den h0 h1
  have e9 : (0 : Int) + e.den = e.den := by omega
  have q : ws1 = [] := q
  subst q
  refine ⟨_, _, rfl, ⟨?_, by show -1000 ≤ X e.den ∧ X e.den ≤ 1000; omega⟩, _, _, rfl, ⟨?_, by show -1000 ≤ Y e.den ∧ Y e.den ≤ 1000; omega⟩, rfl⟩
  · show Value.int .i64 (X (0 + e.den)) = .int .i64 (X e.den)
    rw [e9]
  · show Value.int .i64 (Y (0 + e.den)) = .int .i64 (Y e.den)
    rw [e9]
theorem ints_row {ρ : Go.Sym.Rho} {w : World} {wr : Bool} {l : List Int} {B id : Nat} (hB : w.heap[B]? = some (.cells (ints l) TI (0, 0))) (hl : ∀ x ∈ l, -9223372036854775808 ≤ x ∧ x ≤ 9223372036854775807) (h1 : ρ.β id = B) (h2 : ρ.o id = 0) (h3 : ρ.γ id = l.length) :
    Go.Sym.MR ρ w id (IBw wr (lA l) l.length) := by
  refine ⟨Nat.one_pos, .inr (.inl ⟨h2, ints l, by rw [h1]; exact hB, by rw [h3]; simp [ints], fun i hi => ?_⟩)⟩
  have hi : i < ((l.length : Int)).toNat := hi
  have hi : i < l.length := by omega
  refine ⟨by show (i + 1) * 1 ≤ (ints l).size; simp [ints]; omega, fun e he => ?_⟩
  have hx := hl _ (List.getElem_mem hi)
  have e4 : lA l e.den = l[i] := by
    unfold lA
    rw [he, List.getD_eq_getElem?_getD, show ((i : Int)).toNat = i by omega, List.getElem?_eq_getElem hi]
    rfl
  have e5 : ((ints l).toList.drop (i * 1)).take 1 = [.int .i64 l[i]] := by
    simp only [ints, Nat.mul_one]
    rw [List.drop_eq_getElem_cons (by simpa using hi)]
    simp
  show Go.Sym.VRs ρ _ (((ints l).toList.drop (i * 1)).take 1)
  rw [e5]
  refine ⟨_, _, rfl, ⟨?_, ?_⟩, rfl⟩
  · show Value.int .i64 l[i] = .int .i64 (lA l e.den)
    rw [e4]
  · show _ ≤ lA l e.den ∧ lA l e.den ≤ _
    rw [e4]; exact hx
/-- A call that reads a list of points and a list of indices. -/
theorem two_calls {f : FuncId} {b : Bool} {X Y : Int → Int} {n : Int} {l : List Int}
    (h : Go.Sym.RunsTo Try.prog f [.sl 0 2 (.lit 0) (.v fun _ => n) 1048576, .sl 1 1 (.lit 0) (.v fun _ => (l.length : Int)) 1048576] [some (PBw false (-1000) 1000 X Y n), some (IBw false (lA l) l.length)] (.bool (.v fun _ => b)) [some (PBw false (-1000) 1000 X Y n), some (IBw false (lA l) l.length)])
    {ρ : Go.Sym.Rho} {w W : World} {wr : Bool} {a : Option Addr} {c : Nat} (hM : Go.Sym.MR ρ w 0 (PBw wr (-9223372036854775808) 9223372036854775807 X Y n)) (hn : 0 ≤ n ∧ n ≤ 1048576) (hnc : n.toNat ≤ c) (hcm : c ≤ maxLen) (hs : Go.Sym.SlAt ρ 0 2 0 c a)
    (hX : ∀ i, 0 ≤ i → i < n → -1000 ≤ X i ∧ X i ≤ 1000 ∧ -1000 ≤ Y i ∧ Y i ≤ 1000) (hk : Kd w W) {B : Nat} (hB : W.heap[B]? = some (.cells (ints l) TI (0, 0))) (hl : l.length ≤ 3 ∧ ∀ x ∈ l, 0 ≤ x ∧ x < n) :
    Calls Try.prog f #[.slice a n.toNat c, .slice (some ⟨B, 0, none⟩) l.length l.length] W fun e w' => e = .returned (.bool b) ∧ Kd W w' := by
  have hM2 : Go.Sym.MR ρ W 0 _ := hM.keep (hk.fw _)
  have hcs : c = 0 ∨ c * 2 ≤ ρ.γ 0 := by
    cases a with
    | none => exact .inl hs
    | some x => exact hs.imp id fun h => by have := h.2; omega
  refine (h W (fun _ => False) ⟨fun i => if i = 0 then ρ.β 0 else B, fun i => if i = 0 then c * 2 else l.length, fun i => i < 2, fun i => if i = 0 then ρ.o 0 else 0⟩ [.slice a n.toNat c, .slice (some ⟨B, 0, none⟩) l.length l.length] ?_ (fun id hi => hi) ?_).2.mono ?_
  · refine ⟨fun i b hb => ?_, fun i j b c hb hc hne _ _ hw => ?_, fun i b hb hw _ => ?_, Go.Sym.FrameW.refl _ _⟩
    · match i, hb with
      | 0, hb =>
        have e : b = PBw false (-1000) 1000 X Y n := by simpa [Go.Sym.blkOf] using hb.symm
        subst e
        exact ⟨Nat.zero_lt_two, pt_read hM2 hnc hcs hX rfl rfl rfl⟩
      | 1, hb =>
        have e : b = IBw false (lA l) l.length := by simpa [Go.Sym.blkOf] using hb.symm
        subst e
        exact ⟨Nat.one_lt_two, ints_row hB (fun x hx => by have := hl.2 x hx; omega) rfl rfl rfl⟩
      | i + 2, hb => simp [Go.Sym.blkOf] at hb
    · exfalso
      have ro : ∀ i b, Go.Sym.blkOf [some (PBw false (-1000) 1000 X Y n), some (IBw false (lA l) l.length)] i = some b → b.wr = false := by
        intro i b hb
        match i, hb with
        | 0, hb =>
          have e : b = PBw false (-1000) 1000 X Y n := by simpa [Go.Sym.blkOf] using hb.symm
          rw [e]
        | 1, hb =>
          have e : b = IBw false (lA l) l.length := by simpa [Go.Sym.blkOf] using hb.symm
          rw [e]
        | i + 2, hb => simp [Go.Sym.blkOf] at hb
      rcases hw with hw | hw
      · rw [ro i b hb] at hw; cases hw
      · rw [ro j c hc] at hw; cases hw
    · exfalso
      match i, hb with
      | 0, hb =>
        have e : b = PBw false (-1000) 1000 X Y n := by simpa [Go.Sym.blkOf] using hb.symm
        rw [e] at hw; cases hw
      | 1, hb =>
        have e : b = IBw false (lA l) l.length := by simpa [Go.Sym.blkOf] using hb.symm
        rw [e] at hw; cases hw
      | i + 2, hb => simp [Go.Sym.blkOf] at hb
  · refine ⟨_, _, rfl, ⟨Nat.zero_lt_two, Int.le_refl _, hn.1, hn.2, a, c, rfl, hnc, hcm, ?_⟩, _, _, rfl, ⟨Nat.one_lt_two, Int.le_refl _, by show (0 : Int) ≤ l.length; omega, by show (l.length : Int) ≤ 1048576; omega, some ⟨B, 0, none⟩, l.length, rfl, by show ((l.length : Int)).toNat ≤ _; omega, by unfold maxLen; omega, ?_⟩, rfl⟩
    · cases a with
      | none => exact hs
      | some x =>
        refine hs.imp id fun h => ⟨?_, ?_⟩
        · rw [h.1]; rfl
        · show (0 + c) * 2 ≤ c * 2
          omega
    · exact .inr ⟨rfl, by show (0 + l.length) * 1 ≤ l.length; omega⟩
  · rintro e w' ⟨r, m', ρ', v, rfl, ⟨rfl, rfl⟩, hrv, hMM, _⟩
    have hrv : v = .bool b := hrv
    subst hrv
    exact ⟨rfl, Kd.fr hMM.fr⟩
end Go.Proofs.Ytcfkpdjbjfnnmaa
