/- CheckSpanning of the reference: plain laws. -/
import Derived.Test.YtcfkpdjbjfnnmaaK62a
set_option linter.unusedSimpArgs false
set_option linter.unusedVariables false
set_option maxRecDepth 100000
namespace Go.Proofs.Ytcfkpdjbjfnnmaa
open Go.Sym
def e1B (A B : Int → Int) (n i : Int) : Bool := edB n (A i) (B i) && !(decide (A i = B i))
theorem spB_v {X Y A B : Int → Int} {n m : Int} (h : listB X Y n = false) : spB X Y n A B m = false := by unfold spB; rw [h, Bool.false_and]
theorem spB_1 {X Y A B : Int → Int} {n m j : Int} (h0 : 0 ≤ j) (h1 : j < m) (h : e1B A B n j = false) : spB X Y n A B m = false := by
  have h3 : spE A B n m = false := allB_false (q := fun i => edB n (A i) (B i) && !(decide (A i = B i))) h0 h1 h
  unfold spB
  rw [h3, Bool.false_and, Bool.and_false, Bool.and_false]
theorem spB_2 {X Y A B : Int → Int} {n m i k : Int} (h0 : 0 ≤ i) (h1 : i < n) (k0 : 0 ≤ k) (k1 : k < i) (h : lnk X Y A B m (mhD X Y i k) i k = false) : spB X Y n A B m = false := by
  have h3 : spL X Y A B n m = false := allB_false (q := fun i => allB (fun k => lnk X Y A B m (mhD X Y i k) i k) i) h0 h1 (allB_false (q := fun k => lnk X Y A B m (mhD X Y i k) i k) k0 k1 h)
  unfold spB
  rw [h3, Bool.and_false, Bool.and_false, Bool.and_false]
theorem spB_y {X Y A B : Int → Int} {n m : Int} (h : listB X Y n = true) (hm : m = mxN1 n) (he : ∀ i, 0 ≤ i → i < m → e1B A B n i = true) (hl : ∀ i, 0 ≤ i → i < n → allB (fun k => lnk X Y A B m (mhD X Y i k) i k) i = true) : spB X Y n A B m = true := by
  have h3 : spE A B n m = true := allB_iff.2 he
  have h4 : spL X Y A B n m = true := allB_iff.2 hl
  unfold spB
  rw [h, decide_eq_true hm, h3, h4]
  rfl
theorem e1_a {A B : Int → Int} {n j : Int} (h : (decide (0 ≤ A j) && decide (A j ≤ n - 1)) = false) : e1B A B n j = false := by unfold e1B; rw [edB_fa h, Bool.false_and]
theorem e1_b {A B : Int → Int} {n j : Int} (h : (decide (0 ≤ B j) && decide (B j ≤ n - 1)) = false) : e1B A B n j = false := by unfold e1B; rw [edB_fb h, Bool.false_and]
theorem e1_c {A B : Int → Int} {n j : Int} (h : A j = B j) : e1B A B n j = false := by unfold e1B; rw [decide_eq_true h, Bool.not_true, Bool.and_false]
theorem e1_y {A B : Int → Int} {n j : Int} (h : (decide (0 ≤ A j) && decide (A j ≤ n - 1)) = true) (k : (decide (0 ≤ B j) && decide (B j ≤ n - 1)) = true) (hn : A j ≠ B j) : e1B A B n j = true := by unfold e1B; rw [edB_t h k, decide_eq_false hn]; rfl
theorem e1_R {A B : Int → Int} {n m : Int} (h : ∀ i, 0 ≤ i → i < m → e1B A B n i = true) : edR A B n m := fun i h0 h1 => by
  have := h i h0 h1
  unfold e1B at this
  rw [Bool.and_eq_true] at this
  have := edB_iff.1 this.1
  omega
theorem mx_bd {n m : Int} (h : m = mxN1 n) (hn : n ≤ 20) : m ≤ 400 := by unfold mxN1 at h; split at h <;> omega
end Go.Proofs.Ytcfkpdjbjfnnmaa
