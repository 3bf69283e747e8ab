/- Lists in memory: slices of structs and of numbers; the library's ContainsFunc at points. -/
import Derived.Test.YtndkhbilefljnaaP1
import Derived.Deep.LoopGhost
namespace Go.Proofs.Ytndkhbilefljnaa
open Go.RowKit

/-- A slice reads as a list: k cells an element. -/
def Cells {α : Type} (enc : α → List Value) (k : Nat) (w : World) (A : Option Addr) (l : List α) : Prop :=
  l ≠ [] → ∃ b off, A = some ⟨b, off, none⟩ ∧ b < w.heap.size ∧ ∀ j x, l[j]? = some x → ∀ i v, (enc x)[i]? = some v → w.cell? ⟨b, off + j * k + i, none⟩ = some v
theorem Cells.kp {α : Type} {enc : α → List Value} {k : Nat} {w w' : World} {A : Option Addr} {l : List α} (h : Cells enc k w A l) (hk : Kp w w') : Cells enc k w' A l := by
  intro hl
  obtain ⟨b, off, rfl, hb, hc⟩ := h hl
  exact ⟨b, off, rfl, Nat.lt_of_lt_of_le hb hk.size, fun j x hj i v hv => (World.cell?_of_block (hk.block b hb (by simp))).trans (hc j x hj i v hv)⟩
abbrev Pt := Int × Int
def encP (p : Pt) : List Value := [.int .i64 p.1, .int .i64 p.2]
abbrev Pts (w : World) (A : Option Addr) (l : List Pt) : Prop := Cells encP 2 w A l
theorem pts_at {w : World} {A : Option Addr} {l : List Pt} (h : Pts w A l) {j : Nat} {x y : Int} (hj : l[j]? = some (x, y)) :
    ∃ b off, A = some ⟨b, off, none⟩ ∧ b < w.heap.size ∧ w.cell? ⟨b, off + j * 2, none⟩ = some (.int .i64 x) ∧ w.cell? ⟨b, off + j * 2 + 1, none⟩ = some (.int .i64 y) := by
  obtain ⟨b, off, rfl, hb, hc⟩ := h (by rintro rfl; simp at hj)
  exact ⟨b, off, rfl, hb, hc j _ hj 0 _ rfl, hc j _ hj 1 _ rfl⟩

/-- The first index at which p holds, or -1. -/
def idxF (p : Pt → Bool) (l : List Pt) : Int := match l.findIdx? p with | some i => i | none => -1

theorem idxF_hit (p : Pt → Bool) (l : List Pt) (k : Nat) (x : Pt) (hx : l[k]? = some x) (hp : p x = true) (h : ∀ j y, j < k → l[j]? = some y → p y = false) : idxF p l = k := by
  have : l.findIdx? p = some k := by
    rw [List.findIdx?_eq_some_iff_getElem]
    obtain ⟨hk, rfl⟩ := List.getElem?_eq_some_iff.1 hx
    exact ⟨hk, hp, fun j hj => by rw [h j _ hj (List.getElem?_eq_getElem (by omega))]; simp⟩
  unfold idxF
  rw [this]
theorem idxF_miss (p : Pt → Bool) (l : List Pt) (h : ∀ (j : Nat) y, l[j]? = some y → p y = false) : idxF p l = -1 := by
  have : l.findIdx? p = none := by
    rw [List.findIdx?_eq_none_iff]
    intro x hx
    obtain ⟨j, hj⟩ := List.mem_iff_getElem?.1 hx
    exact h j x hj
  unfold idxF
  rw [this]
theorem idxF_any (p : Pt → Bool) (l : List Pt) : decide (0 ≤ idxF p l) = l.any p := by
  unfold idxF
  rw [← List.findIdx?_isSome]
  cases l.findIdx? p <;> simp

/-- What is asked of a predicate handed to the library. -/
def Tells (g : Nat) (lb : Array Value) (p : Pt → Bool) (l : List Pt) (w : World) : Prop :=
  ∀ W x y, w.grownBy W none → (x, y) ∈ l → Calls Try.prog g (#[.agg #[.int .i64 x, .int .i64 y]] ++ lb) W fun e w' => e = .returned (.bool (p (x, y))) ∧ W.grownBy w' none

set_option maxHeartbeats 1000000 in
theorem indexFuncP_any (A : Option Addr) (l : List Pt) (c : Nat) (g : Nat) (lb : Array Value) (p : Pt → Bool) (w : World) (eg : ∀ args w, (callFunc g args).run Try.prog w = .ok (.enter g args) w) (hl : l.length ≤ 1000000) (hs : Pts w A l) (hp : Tells g lb p l w) :
    Calls Try.prog 138 #[.slice A l.length c, .func (.func g) #[] lb] w fun e w' => e = .returned (.int .i64 (idxF p l)) ∧ w.grownBy w' none := by
  generalize hn : l.length = n at *
  have HN := hide hn
  clear hn
  have HP := hide hp
  clear hp
  go_enter Try.func138, Try.ntmps138
  go_wp2
  go_loopg [5, 8] n (fun gg _ s8 wr => ∃ kk : Nat, kk ≤ n ∧ n - kk ≤ gg ∧ s8 = .int .i64 kk ∧ Hid (w.grownBy wr none) ∧ Hid (∀ j x, j < kk → l[j]? = some x → p x = false))
  case atStart => exact ⟨0, Nat.zero_le _, by omega, rfl, gr_refl w none, fun j _ hj => absurd hj (Nat.not_lt_zero _)⟩
  case round =>
    obtain ⟨kk, hkk, hg, rfl, BW, A0⟩ := hrel
    by_cases hlt : kk < n
    · obtain ⟨⟨x, y⟩, hxy⟩ : ∃ q, l[kk]? = some q := ⟨l[kk]'(by have := HN.out; omega), List.getElem?_eq_getElem _⟩
      have hltz : (kk : Int) < (n : Int) := by omega
      obtain ⟨b, off, rfl, hb, c0, c1⟩ := pts_at (hs.kp BW.out) hxy
      have hcall := HP.out wr x y BW.out (List.mem_of_getElem? hxy)
      have HXY := hide hxy
      clear hxy
      cases hq : p (x, y) with
      | true =>
        rw [hq] at hcall
        have HQ := hide hq
        clear hq
        go_wp2_with fail
        refine hcall.mono ?_
        rintro e w' ⟨rfl, hb'⟩
        go_wp2_with fail
        go_ret
        exact ⟨ret_int (idxF_hit p l kk (x, y) HXY.out HQ.out A0.out).symm, kp_trans BW.out hb'⟩
      | false =>
        rw [hq] at hcall
        have HQ := hide hq
        clear hq
        go_wp2_with fail
        refine hcall.mono ?_
        rintro e w' ⟨rfl, hb'⟩
        go_wp2_with fail
        go_roundg (n - (kk + 1))
        case measure => omega
        case rel =>
          refine ⟨kk + 1, by omega, by omega, by go_num, kp_trans BW.out hb', (show Hid _ from fun j z hj hz => ?_)⟩
          by_cases e : j = kk
          · subst e
            have := HXY.out
            rw [this] at hz
            cases hz
            exact HQ.out
          · exact A0.out j z (by omega) hz
    · have hltz : ¬ (kk : Int) < (n : Int) := by omega
      have : kk = n := by omega
      subst this
      go_wp2_with fail
      go_ret
      exact ⟨ret_int (idxF_miss p l (fun j x hj => A0.out j x (by rw [← HN.out]; exact (List.getElem?_eq_some_iff.1 hj).1) hj)).symm, BW.out⟩

theorem containsFuncP_any (A : Option Addr) (l : List Pt) (c : Nat) (g : Nat) (lb : Array Value) (p : Pt → Bool) (w : World) (eg : ∀ args w, (callFunc g args).run Try.prog w = .ok (.enter g args) w) (hl : l.length ≤ 1000000) (hs : Pts w A l) (hp : Tells g lb p l w) :
    Calls Try.prog 114 #[.slice A l.length c, .func (.func g) #[] lb] w fun e w' => e = .returned (.bool (l.any p)) ∧ w.grownBy w' none := by
  have hc := indexFuncP_any A l c g lb p w eg hl hs hp
  have HP := hide hp
  clear hp
  go_enter Try.func114, Try.ntmps114
  go_wp2_with fail
  refine hc.mono ?_
  rintro e w' ⟨rfl, hb'⟩
  go_wp2_with fail
  go_ret
  exact ⟨ret_bool (idxF_any p l), hb'⟩

theorem allValid1_tells (l : List Pt) (w : World) : Tells 134 #[] (fun q => !okP q.1 q.2) l w := by
  intro W x y hW _
  go_enter Try.func134, Try.ntmps134
  go_wp2_with fail
  refine (pvalid_any x y _).mono ?_
  rintro e w' ⟨rfl, hk⟩
  go_wp2_with fail
  go_ret
  exact ⟨rfl, kp_trans (kp_alloc (gr_refl W none) _) hk⟩

/-- All points are valid. -/
def allP (l : List Pt) : Bool := l.all fun q => okP q.1 q.2
theorem allValid_any (A : Option Addr) (l : List Pt) (c : Nat) (w : World) (hl : l.length ≤ 1000000) (hs : Pts w A l) :
    Calls Try.prog 95 #[.slice A l.length c] w fun e w' => e = .returned (.bool (allP l)) ∧ w.grownBy w' none := by
  have hc := containsFuncP_any A l c 134 #[] _ w (fun _ _ => by kernel_rfl) hl hs (allValid1_tells l w)
  have e1 : allP l = !l.any fun q => !okP q.1 q.2 := by unfold allP; rw [List.all_eq_not_any_not]
  rw [e1]
  go_enter Try.func95, Try.ntmps95
  go_wp2_with fail
  refine hc.mono ?_
  rintro e w' ⟨rfl, hk⟩
  go_wp2_with fail
  go_ret
  exact ⟨rfl, hk⟩

def okL (l : List Pt) : Bool := decide (l.length ≤ 20) && allP l
theorem listOk_any (A : Option Addr) (l : List Pt) (c : Nat) (w : World) (hl : l.length ≤ 1000000) (hs : Pts w A l) :
    Calls Try.prog 82 #[.slice A l.length c] w fun e w' => e = .returned (.bool (okL l)) ∧ w.grownBy w' none := by
  by_cases h : l.length ≤ 20
  · have hd : ((l.length : Int) ≤ 20) := by omega
    go_enter Try.func82, Try.ntmps82
    go_wp2_with fail
    refine (allValid_any A l c _ hl hs).mono ?_
    rintro e w' ⟨rfl, hk⟩
    go_wp2_with fail
    go_ret
    exact ⟨ret_bool (by unfold okL; simp [h]), hk⟩
  · have hd : ¬((l.length : Int) ≤ 20) := by omega
    go_enter Try.func82, Try.ntmps82
    go_wp2_with fail
    go_ret
    exact ⟨ret_bool (by unfold okL; simp [h]), gr_refl w none⟩
end Go.Proofs.Ytndkhbilefljnaa
