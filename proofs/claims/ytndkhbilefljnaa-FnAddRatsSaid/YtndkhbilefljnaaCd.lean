/- What a law is told of the bytes that came in; what a walk of a law is. -/
import Derived.Test.YtndkhbilefljnaaRd
namespace Go.Proofs.Ytndkhbilefljnaa
open Go.RowKit

/-- A coordinate that is drawn or reckoned from drawn ones. -/
def Dr (x : Int) : Prop := -10000 ≤ x ∧ x ≤ 10000
/-- A slice of bytes that came in. -/
def Code_ (w : World) (A : Option Addr) (m c : Nat) : Prop := m ≤ c ∧ Bytes w w.heap.size A m
theorem Code_.alloc {w : World} {A : Option Addr} {m c : Nat} (h : Code_ w A m c) (o : Obj) : Code_ (w.alloc o) A m c := by
  refine ⟨h.1, fun hn => ?_⟩
  obtain ⟨b, off, rfl, hlt, hc⟩ := h.2 hn
  refine ⟨b, off, rfl, by simp; omega, fun i hi => ?_⟩
  obtain ⟨u, u0, u1, hu⟩ := hc i hi
  exact ⟨u, u0, u1, by rw [World.cell?_alloc_lt w o _ hlt]; exact hu⟩

theorem Rd_drew {w : World} {rb q : Nat} (h : Rd w rb q) : Rd w.drew rb q := h

/-- A law over one slice of bytes: its walk. -/
def Walk1 (f : FuncId) : Prop := ∀ (A : Option Addr) (m c : Nat) (w : World), Code_ w A m c → Calls Try.prog f #[.slice A m c] w fun e w' => e = .returned (.bool true) ∧ w.grownBy w' none
def Walk2 (f : FuncId) : Prop := ∀ (A : Option Addr) (m c : Nat) (A' : Option Addr) (m' c' : Nat) (w : World), Code_ w A m c → Code_ w A' m' c' → m ≤ maxLen → m' ≤ maxLen → Calls Try.prog f #[.slice A m c, .slice A' m' c'] w fun e w' => e = .returned (.bool true) ∧ w.grownBy w' none
end Go.Proofs.Ytndkhbilefljnaa
