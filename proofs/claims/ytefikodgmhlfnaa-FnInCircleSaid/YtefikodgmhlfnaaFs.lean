/- The frame of a law: slices of bytes that came in, as the reckoner has them. -/
import Derived.Test.YtefikodgmhlfnaaRows
import Derived.Test.YtefikodgmhlfnaaTy
import Derived.Test.YtefikodgmhlfnaaYg
import Derived.ProofKit
import Derived.OpenShut
import Derived.ShutString
import Derived.ChangeOld
namespace Go.Proofs.Ytefikodgmhlfnaa
open Go.ChangeShapes Go.WideShapes Go.ChangeAt Go.RowKit Go.Sym
set_option linter.unusedVariables false
set_option linter.unusedSimpArgs false

theorem own : ownKnob Try.prog.godebug = none := by kernel_rfl
theorem laidOut : laidOutB Try.prog = true := by kernel_rfl
def IsRow (k : IntKind) (w : World) (a : Option Addr) (len cap : Nat) (zs : List Int) : Prop :=
  (a = none ∧ len = 0 ∧ cap = 0 ∧ zs = []) ∨
  ∃ x, a = some x ∧ len ≤ cap ∧ cap ≤ maxLen ∧ zs.length = cap ∧ (∀ i, i < zs.length → w.cell? (x.add i) = some (.int k (zs.getD i 0))) ∧ ∀ n ∈ zs, (Lit.int k n).wf = true
def bytesBlk (C : Int → Int) (n : Int) : Go.Sym.Blk := ⟨5, 1, false, .sym (.v fun _ => n) fun e => [.int .u8 (.v fun _ => C e.den) 0 255]⟩
def nth (zs : List Int) : Int → Int := fun i => zs.getD i.toNat 0
def blockOf (a : Option Addr) : Nat := match a with | none => 0 | some x => x.block
def offOf (a : Option Addr) : Nat := match a with | none => 0 | some x => x.off
theorem byteRow {ρ : Rho} {w : World} {id : Nat} {a : Option Addr} {len cap : Nat} {zs : List Int} (h : IsRow .u8 w a len cap zs) (hb : ρ.β id = blockOf a) (hg : ρ.γ id = cap) (ho : ρ.o id = offOf a) (hal : ρ.al id) :
    VR ρ (.sl id 1 (.lit 0) (.v fun _ => (len : Int)) 9223372036854775807) (.slice a len cap) ∧ MR ρ w id (bytesBlk (nth zs) len) := by
  rcases h with ⟨rfl, rfl, rfl, rfl⟩ | ⟨x, rfl, hl, hm, hz, hcell, hwz⟩
  · refine ⟨⟨hal, by simp [E.den], by simp [E.den], by simp [E.den], none, 0, rfl, Nat.le_refl _, Nat.zero_le _, rfl⟩, ?_⟩
    exact ⟨by decide, .inl ⟨hg, rfl⟩⟩
  · have hml : maxLen ≤ 9223372036854775807 := by decide
    have hspot : 0 < cap → x.spot = none := fun h0 => World.cell?_spot (by simpa [Addr.add] using hcell 0 (by omega))
    refine ⟨⟨hal, by simp [E.den], by simp [E.den], by show (len : Int) ≤ _; omega, some x, cap, rfl, hl, hm, ?_⟩, Nat.zero_lt_one, ?_⟩
    · by_cases h0 : cap = 0
      · exact .inl h0
      · refine .inr ⟨?_, by rw [hg]; simp [E.den]⟩
        obtain ⟨b, off, spot⟩ := x
        have := hspot (by omega)
        simp only at this
        subst this
        rw [hb, ho]
        simp [blockOf, offOf, E.den]
    · by_cases h0 : cap = 0
      · exact .inl ⟨by rw [hg]; exact h0, by show ((len : Int)).toNat = 0; omega⟩
      · refine .inr (.inr ⟨rfl, by rw [hg]; exact h0, ?_, fun i hi => ?_⟩)
        · have hc := hcell 0 (by omega)
          rw [hb]
          exact World.block_lt_of_cell? w _ (by simpa [Addr.add, blockOf] using hc)
        · have hi' : i < zs.length := by
            have : i < ((len : Int)).toNat := hi
            omega
          have hwi := hwz _ (List.getElem_mem hi')
          have hbd : 0 ≤ zs[i] ∧ zs[i] ≤ 255 := by simpa [Lit.wf, IntKind.min, IntKind.max, IntKind.signed, IntKind.bits] using hwi
          refine ⟨[.int .u8 zs[i]], rfl, fun j v hv => ?_, fun e he => ?_⟩
          · have hj : j = 0 := by
              have := (List.getElem?_eq_some_iff.1 hv).1
              simp at this; omega
            subst hj
            simp at hv
            subst hv
            have hc := hcell i hi'
            rw [List.getD_eq_getElem?_getD, List.getElem?_eq_getElem hi'] at hc
            rw [hb, ho]
            obtain ⟨b, off, spot⟩ := x
            have := hspot (by omega)
            simp only at this
            subst this
            by_cases h1 : i = 0
            · subst h1; simpa [blockOf, offOf, Addr.add, bytesBlk] using hc
            · simpa [blockOf, offOf, Addr.add, bytesBlk, h1] using hc
          · refine ⟨_, [], rfl, ⟨?_, ?_, ?_⟩, rfl⟩
            · show Value.int .u8 zs[i] = .int .u8 (nth zs e.den)
              unfold nth
              rw [he, Int.toNat_natCast, List.getD_eq_getElem?_getD, List.getElem?_eq_getElem hi']; rfl
            · show 0 ≤ nth zs e.den
              unfold nth
              rw [he, Int.toNat_natCast, List.getD_eq_getElem?_getD, List.getElem?_eq_getElem hi']; exact hbd.1
            · show nth zs e.den ≤ 255
              unfold nth
              rw [he, Int.toNat_natCast, List.getD_eq_getElem?_getD, List.getElem?_eq_getElem hi']; exact hbd.2
theorem law1 {f : FuncId} {M : (Int → Int) → Int → List (Option Go.Sym.Blk)}
    (h : ∀ (C : Int → Int) (n : Int), RunsTo Try.prog f [.sl 0 1 (.lit 0) (.v fun _ => n) 9223372036854775807] [some (bytesBlk C n)] (.bool (.lit true)) (M C n))
    {W : World} {a : Option Addr} {len cap : Nat} {zs : List Int} (hr : IsRow .u8 W a len cap zs) :
    Calls Try.prog f #[.slice a len cap] W fun e W' => e = .returned (.bool true) ∧ Below W.heap.size W W' := by
  let ρ : Rho := ⟨fun _ => blockOf a, fun _ => cap, fun i => i = 0, fun _ => offOf a⟩
  obtain ⟨hv, hm⟩ := byteRow (ρ := ρ) (id := 0) hr rfl rfl rfl rfl
  have hblk : ∀ i b, blkOf [some (bytesBlk (nth zs) len)] i = some b → i = 0 ∧ b = bytesBlk (nth zs) len := by
    intro i b hb
    cases i with
    | zero => simp [blkOf] at hb; exact ⟨rfl, hb.symm⟩
    | succ i => simp [blkOf] at hb
  have hM : MRel W (fun _ => False) ρ [some (bytesBlk (nth zs) len)] W := by
    refine ⟨fun i b hb => ?_, fun i j b c hb hc hne _ _ _ => ?_, fun i b hb hw _ => ?_, FrameW.refl _ _⟩
    · obtain ⟨rfl, rfl⟩ := hblk i b hb; exact ⟨rfl, hm⟩
    · exact absurd ((hblk i b hb).1.trans (hblk j c hc).1.symm) hne
    · obtain ⟨rfl, rfl⟩ := hblk i b hb; exact absurd hw (by simp [bytesBlk])
  obtain ⟨_, hc⟩ := h (nth zs) len W (fun _ => False) ρ [.slice a len cap] hM (fun i (hi : i = 0) => by rw [hi]; exact Nat.zero_lt_one) ⟨_, [], rfl, hv, rfl⟩
  refine hc.mono ?_
  rintro e W' ⟨r, m', ρ', v, rfl, ⟨rfl, rfl⟩, hrv, hMM, _⟩
  have hrv : v = .bool true := hrv
  subst hrv
  exact ⟨rfl, hMM.fr.os, hMM.fr.tape, hMM.fr.output, hMM.fr.size, fun k hk => hMM.fr.block k hk (fun x => x)⟩
theorem law2 {f : FuncId} {M : (Int → Int) → Int → (Int → Int) → Int → List (Option Go.Sym.Blk)}
    (h : ∀ (C : Int → Int) (n : Int) (D : Int → Int) (m : Int), RunsTo Try.prog f [.sl 0 1 (.lit 0) (.v fun _ => n) 9223372036854775807, .sl 1 1 (.lit 0) (.v fun _ => m) 9223372036854775807] [some (bytesBlk C n), some (bytesBlk D m)] (.bool (.lit true)) (M C n D m))
    {W : World} {a a' : Option Addr} {len cap len' cap' : Nat} {zs zs' : List Int} (hr : IsRow .u8 W a len cap zs) (hr' : IsRow .u8 W a' len' cap' zs') :
    Calls Try.prog f #[.slice a len cap, .slice a' len' cap'] W fun e W' => e = .returned (.bool true) ∧ Below W.heap.size W W' := by
  let ρ : Rho := ⟨fun i => if i = 0 then blockOf a else blockOf a', fun i => if i = 0 then cap else cap', fun i => i < 2, fun i => if i = 0 then offOf a else offOf a'⟩
  obtain ⟨hv, hm⟩ := byteRow (ρ := ρ) (id := 0) hr rfl rfl rfl (show 0 < 2 by decide)
  obtain ⟨hv', hm'⟩ := byteRow (ρ := ρ) (id := 1) hr' rfl rfl rfl (show 1 < 2 by decide)
  have hblk : ∀ i b, blkOf [some (bytesBlk (nth zs) len), some (bytesBlk (nth zs') len')] i = some b → (i = 0 ∧ b = bytesBlk (nth zs) len) ∨ (i = 1 ∧ b = bytesBlk (nth zs') len') := by
    intro i b hb
    match i with
    | 0 => simp [blkOf] at hb; exact .inl ⟨rfl, hb.symm⟩
    | 1 => simp [blkOf] at hb; exact .inr ⟨rfl, hb.symm⟩
    | i + 2 => simp [blkOf] at hb
  have hnw : ∀ i b, blkOf [some (bytesBlk (nth zs) len), some (bytesBlk (nth zs') len')] i = some b → b.wr = false := by
    intro i b hb
    rcases hblk i b hb with ⟨_, rfl⟩ | ⟨_, rfl⟩ <;> rfl
  have hM : MRel W (fun _ => False) ρ [some (bytesBlk (nth zs) len), some (bytesBlk (nth zs') len')] W := by
    refine ⟨fun i b hb => ?_, fun i j b c hb hc _ _ _ hw => ?_, fun i b hb hw _ => ?_, FrameW.refl _ _⟩
    · rcases hblk i b hb with ⟨rfl, rfl⟩ | ⟨rfl, rfl⟩
      · exact ⟨show 0 < 2 by decide, hm⟩
      · exact ⟨show 1 < 2 by decide, hm'⟩
    · rw [hnw i b hb, hnw j c hc] at hw; simp at hw
    · rw [hnw i b hb] at hw; cases hw
  obtain ⟨_, hc⟩ := h (nth zs) len (nth zs') len' W (fun _ => False) ρ [.slice a len cap, .slice a' len' cap'] hM (fun i (hi : i < 2) => hi) ⟨_, _, rfl, hv, _, [], rfl, hv', rfl⟩
  refine hc.mono ?_
  rintro e W' ⟨r, m', ρ', v, rfl, ⟨rfl, rfl⟩, hrv, hMM, _⟩
  have hrv : v = .bool true := hrv
  subst hrv
  exact ⟨rfl, hMM.fr.os, hMM.fr.tape, hMM.fr.output, hMM.fr.size, fun k hk => hMM.fr.block k hk (fun x => x)⟩
end Go.Proofs.Ytefikodgmhlfnaa
