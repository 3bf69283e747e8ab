/- The reader of random numbers: contracts. -/
import Derived.Test.YtndkhbilefljnaaBase
namespace Go.Proofs.Ytndkhbilefljnaa
open Go.RowKit

theorem byte_rem (u n : Int) (_hu : 0 ≤ u) (hn : 1 ≤ n) : 0 ≤ u % n ∧ u % n < n := ⟨Int.emod_nonneg _ (by omega), Int.emod_lt_of_pos _ (by omega)⟩

theorem xor_range (a b : Int) (h1 : 0 ≤ a) (h2 : a < 4294967296) (h3 : 0 ≤ b) (h4 : b < 4294967296) : 0 ≤ bits .xor .i64 a b ∧ bits .xor .i64 a b < 4294967296 := by
  obtain ⟨A, rfl⟩ := Int.eq_ofNat_of_zero_le h1
  obtain ⟨B, rfl⟩ := Int.eq_ofNat_of_zero_le h3
  have hx : A ^^^ B < 2 ^ 32 := Nat.xor_lt_two_pow (by omega) (by omega)
  have e : bits .xor .i64 (A : Int) (B : Int) = ((A ^^^ B : Nat) : Int) := by
    show IntKind.i64.wrap ((BitVec.ofInt 64 (A : Int) ^^^ BitVec.ofInt 64 (B : Int)).toNat : Int) = _
    rw [BitVec.toNat_xor, ofInt_u64 A (by omega), ofInt_u64 B (by omega), IntKind.wrap_i64]
    omega
  rw [e]
  omega
theorem xor_rem (x n : Int) (h1 : 0 ≤ x) (h2 : x < 4294967296) (hn : 1 ≤ n) : 0 ≤ (bits .xor .i64 x (x / 64)).tmod n ∧ (bits .xor .i64 x (x / 64)).tmod n < n := by
  have h := xor_range x (x / 64) h1 h2 (by omega) (by omega)
  rw [Int.tmod_eq_emod_of_nonneg h.1]
  exact byte_rem _ n h.1 hn

set_option maxHeartbeats 400000 in
theorem pick_any (rb q : Nat) (n : Int) (w : World) (h : Rd w rb q) (hq : q ≤ 1000000) (hn : 1 ≤ n) (hn' : n ≤ 1000000) :
    Calls Try.prog 87 #[.pointer (some ⟨rb, 0, none⟩), .int .i64 n] w (Picks n rb q w) := by
  obtain ⟨A, m, c, p, hp, hm, hmc, hk, hy⟩ := h
  have hc0 := hk.cell 0
  have hc1 := hk.cell 1
  have hf1 := hk.frozen 1
  simp at hc0 hc1
  have hy' : Bytes (w.setCell ⟨rb, 1, none⟩ (.int .i64 (p + 1))) rb A m := hy.kept fun k hk => Below.heap_setCell _ _ _ _ (by show k ≠ rb; omega)
  have fin : ∀ k : Int, 0 ≤ k → k < n → Picks n rb q w (.returned (.int .i64 k)) (w.setCell ⟨rb, 1, none⟩ (.int .i64 (p + 1))) := fun k h0 h1 =>
    ⟨k, h0, h1, rfl, ⟨A, m, c, p + 1, by omega, hm, hmc, hk.set_ 1 _, hy'⟩, kp_set' (gr_refl w (some rb)) rfl _⟩
  have finN : ∀ (k : Int) (nq : Nat), 0 ≤ k → k < n → Picks n rb q w (.returned (.int .i64 k)) ((w.setCell ⟨rb, 1, none⟩ (.int .i64 (p + 1))).drewN nq) := fun k nq h0 h1 =>
    ⟨k, h0, h1, rfl, ⟨A, m, c, p + 1, by omega, hm, hmc, hk.set_ 1 _, hy'⟩, kp_drewN (kp_set' (gr_refl w (some rb)) rfl _) nq⟩
  clear hy'
  by_cases hm0 : m = 0
  · subst hm0
    go_enter Try.func87, Try.ntmps87
    go_wp2
    go_ret
    exact fin 0 (by omega) (by omega)
  · obtain ⟨b, off, rfl, hlt, hb⟩ := hy (by omega)
    have hne : b ≠ rb := by omega
    by_cases hpm : p < m
    · obtain ⟨u, u0, u1, hu⟩ := hb p hpm
      have hmm : ((m : Int) == 0) = false := by simp; omega
      go_enter Try.func87, Try.ntmps87
      go_wp2
      go_ret
      exact fin _ (byte_rem u n u0 hn).1 (byte_rem u n u0 hn).2
    · obtain ⟨u, u0, u1, hu⟩ := hb (p % m) (Nat.mod_lt _ (by omega))
      obtain ⟨v, v0, v1, hv⟩ := hb ((p * 7 + 3) % m) (Nat.mod_lt _ (by omega))
      have hmm : ((m : Int) == 0) = false := by simp; omega
      have b1 := byte_rem (p : Int) m (by omega) (by omega)
      have b2 := byte_rem ((p : Int) * 7 + 3) m (by omega) (by omega)
      have b3 : 0 ≤ (p : Int) / m := Int.ediv_nonneg (by omega) (by omega)
      have b4 : (p : Int) / m ≤ p := Int.ediv_le_self _ (by omega)
      obtain ⟨b1l, b1r⟩ := b1
      obtain ⟨b2l, b2r⟩ := b2
      go_enter Try.func87, Try.ntmps87
      go_wp2
      go_quiet (fail)
      go_wp2
      go_ret
      exact finN _ _ (xor_rem _ n (by omega) (by omega) hn).1 (xor_rem _ n (by omega) (by omega) hn).2

/-- The same with a bound on what comes back. -/
theorem newReader_any (A : Option Addr) (m c : Nat) (w : World) (hc : m ≤ c) (hm : m ≤ 1048576) (hy : Bytes w w.heap.size A m) :
    Calls Try.prog 85 #[.slice A m c] w fun e w' => e = .returned (.pointer (some ⟨w.heap.size, 0, none⟩)) ∧ Rd w' w.heap.size 0 ∧ w.grownBy w' none := by
  have hb : ∀ n, n ≤ m → ∀ o, Bytes (w.alloc o) w.heap.size A n := fun n hn o hp => by
    obtain ⟨b, off, h1, h2, h4⟩ := hy (by omega)
    exact ⟨b, off, h1, h2, fun i hi => by
      obtain ⟨u, u0, u1, hu⟩ := h4 i (by omega)
      exact ⟨u, u0, u1, by rw [World.cell?_alloc_lt w o _ h2]; exact hu⟩⟩
  by_cases h : m ≤ 2000
  · have fin : Rd (w.alloc (.cells #[.slice A m c, .int .i64 0] 117)) w.heap.size 0 := ⟨A, m, c, 0, by omega, h, hc, Blk.new w _ _, hb m (Nat.le_refl _) _⟩
    have k := World.grownBy_alloc w (.cells #[.slice A m c, .int .i64 0] 117) none
    go_enter Try.func85, Try.ntmps85
    go_wp2
    go_ret
    exact ⟨rfl, fin, k⟩
  · have fin : Rd (w.alloc (.cells #[.slice A 2000 c, .int .i64 0] 117)) w.heap.size 0 := ⟨A, 2000, c, 0, by omega, by omega, by omega, Blk.new w _ _, hb 2000 (by omega) _⟩
    have k := World.grownBy_alloc w (.cells #[.slice A 2000 c, .int .i64 0] 117) none
    go_enter Try.func85, Try.ntmps85
    go_wp2
    go_ret
    exact ⟨rfl, fin, k⟩
end Go.Proofs.Ytndkhbilefljnaa
