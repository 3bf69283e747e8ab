/- The library's sort of numbers by a closure that captures, as the reckoner sees it. -/
import Derived.Shelf.SlSortCmp.NoneTotal
import Derived.Test.YtljhomjaamjfaaaK92
import Derived.Test.YtljhomjaamjfaaaLi
set_option linter.unusedSimpArgs false
set_option linter.unusedVariables false
namespace Go.Sym
theorem FrameW.grown {w w' : World} (h : FrameW w (fun _ => False) w') : ∃ q os, w' = Go.Sort.grow (w.drewN q) os := by
  refine ⟨w'.drawn - w.drawn, w'.heap.extract w.heap.size w'.heap.size, ?_⟩
  have e1 : w'.heap = w.heap ++ w'.heap.extract w.heap.size w'.heap.size := by
    apply Array.ext_getElem?
    intro k
    rw [Array.getElem?_append]
    split
    · rename_i hk; exact h.block k hk (fun x => x)
    · rename_i hk
      have hs := h.size
      by_cases hk2 : k < w'.heap.size
      · rw [Array.getElem?_extract, if_pos (by omega), show w.heap.size + (k - w.heap.size) = k by omega]
      · rw [Array.getElem?_eq_none (by omega), Array.getElem?_eq_none (by simp; omega)]
  have e2 : w'.drawn = w.drawn + (w'.drawn - w.drawn) := by have := h.drawn; omega
  cases w' with
  | mk heap tape drawn os output =>
    cases w with
    | mk heap0 tape0 drawn0 os0 output0 =>
      have a1 : os = os0 := h.os
      have a2 : tape = tape0 := h.tape
      have a3 : output = output0 := h.output
      subst a1 a2 a3
      simp only [Go.Sort.grow, World.drewN] at e1 e2 ⊢
      congr 1
/-- A block as another sees it, in a world that holds it still. -/
theorem MR.seen {ρ ρc : Rho} {w W : World} {id id' : Nat} {b b' : Blk} (h : MR ρ w id b) (hw : b.wr = true) (e1 : ρc.β id' = ρ.β id) (e2 : ρc.γ id' = ρ.γ id) (e3 : ρc.o id' = ρ.o id) (ht : b'.ty = b.ty) (hs : b'.sz = b.sz) (hn : b'.con.num.den.toNat = b.con.num.den.toNat)
    (hh : ρ.γ id ≠ 0 → W.heap[ρ.β id]? = w.heap[ρ.β id]?) (hr : ∀ i vs, i < b.con.num.den.toNat → RowR ρ b.con i vs → RowR ρc b'.con i vs) : MR ρc W id' b' := by
  obtain ⟨h0, h1⟩ := h
  unfold MR
  rw [e1, e2, e3, ht, hs, hn]
  refine ⟨h0, ?_⟩
  rcases h1 with h1 | ⟨ho, cs, hg, hcs, hrow⟩ | ⟨h9, _⟩
  · exact .inl h1
  · by_cases hg0 : ρ.γ id = 0
    · left
      refine ⟨hg0, ?_⟩
      rcases Nat.eq_zero_or_pos b.con.num.den.toNat with h | h
      · exact h
      · have := (hrow 0 h).1
        rw [hcs, hg0] at this
        have := Nat.mul_pos (show 0 < 0 + 1 by omega) h0
        omega
    · exact .inr (.inl ⟨ho, cs, by rw [hh hg0]; exact hg, hcs, fun i hi => ⟨(hrow i hi).1, hr i _ hi (hrow i hi).2⟩⟩)
  · rw [hw] at h9; cases h9
section
variable {α : Type} [Inhabited α]
theorem heap_putO (enc : α → Value) (w : World) (blk off q : Nat) (d : Array α) (os : Array Obj) {cs : Array Value} {ty : TypeId} {fr : Nat × Nat} (h : w.heap[blk]? = some (.cells cs ty fr)) :
    (Go.Proofs.sortWorld enc w blk off q d os).heap[blk]? = some (.cells (Go.Sort.putCells enc off d cs) ty fr) := by
  have hlt : blk < w.heap.size := (Array.getElem?_eq_some_iff.1 h).1
  show ((w.heap.modify blk (Go.Sort.onCells (Go.Sort.putCells enc off d))) ++ os)[blk]? = _
  rw [Array.getElem?_append, if_pos (by simpa using hlt), Array.getElem?_modify, if_pos rfl, h]
  rfl
theorem heap_putO_other (enc : α → Value) (w : World) (blk off q : Nat) (d : Array α) (os : Array Obj) (k : Nat) (hk : k ≠ blk) (hlt : k < w.heap.size) :
    (Go.Proofs.sortWorld enc w blk off q d os).heap[k]? = w.heap[k]? := by
  show ((w.heap.modify blk (Go.Sort.onCells (Go.Sort.putCells enc off d))) ++ os)[k]? = _
  rw [Array.getElem?_append, if_pos (by simpa using hlt), Array.getElem?_modify, if_neg (fun e => hk e.symm)]
theorem get_putO (enc : α → Value) (d : Array α) (cs : Array Value) (off i : Nat) (hi : i < cs.size) : (Go.Sort.putCells enc off d cs)[i]? = some (if off ≤ i ∧ i < off + d.size then enc d[i - off]! else cs[i]) := by
  unfold Go.Sort.putCells
  rw [Array.getElem?_mapIdx, Array.getElem?_eq_getElem hi]
  rfl
end
theorem take_one {l : List Value} {i : Nat} {x : Value} (h : l[i]? = some x) : (l.drop (i * 1)).take 1 = [x] := by
  obtain ⟨hi, e⟩ := List.getElem?_eq_some_iff.1 h
  rw [Nat.mul_one, List.drop_eq_getElem_cons hi, e]
  rfl
theorem one_take {l : List Value} {i : Nat} {x : Value} (h : (l.drop (i * 1)).take 1 = [x]) : l[i]? = some x := by
  have h2 := congrArg (fun q : List Value => q[0]?) h
  simp only [List.getElem?_take, List.getElem?_drop, Nat.mul_one, Nat.add_zero] at h2
  simpa using h2
end Go.Sym
namespace Go.Proofs.Ytljhomjaamjfaaa
open Go.Sym
abbrev IBk (wr : Bool) (Z : Int → Int) (K : Int) : Go.Sym.Blk := ⟨3, 1, wr, .sym (.v fun _ => K) fun e => [.int .i64 (.v fun _ => Z e.den) 0 1048576]⟩
abbrev LBk (k : Nat) (wr : Bool) (n : Int) : Go.Sym.Blk := ⟨23, 1, wr, .lit [[.sl k 2 (.lit 0) (.v fun _ => n) 1048576]]⟩
abbrev TBk (wr t : Bool) : Go.Sym.Blk := ⟨4, 1, wr, .lit [[.bool (.v fun _ => t)]]⟩
abbrev PBk (wr : Bool) (X Y : Int → Int) (n : Int) : Go.Sym.Blk := ⟨29, 2, wr, .sym (.v fun _ => n) fun e => [.int .i64 (.v fun _ => X e.den) (-9223372036854775808) 9223372036854775807, .int .i64 (.v fun _ => Y e.den) (-9223372036854775808) 9223372036854775807]⟩
theorem cmK_neg {X Y : Int → Int} {t : Bool} {a b : Int} : cmK X Y t a b < 0 ↔ bfK X Y t a b = true := by
  unfold cmK
  by_cases h : bfK X Y t a b = true
  · rw [if_pos h]; exact ⟨fun _ => h, fun _ => by decide⟩
  · rw [if_neg h]
    refine ⟨fun k => ?_, fun k => absurd k h⟩
    split at k <;> omega
abbrev Ix (n : Int) := { p : Int // 0 ≤ p ∧ p < n }
def encI {n : Int} (p : Ix n) : Value := .int .i64 p.1
def cfI (X Y : Int → Int) (t : Bool) {n : Int} (p q : Ix n) : Int := cmK X Y t p.1 q.1
theorem ltI {X Y : Int → Int} {t : Bool} {n : Int} {p q : Ix n} : Go.Proofs.ltOf (cfI X Y t) p q = bfK X Y t p.1 q.1 := by
  unfold Go.Proofs.ltOf cfI
  rw [Bool.eq_iff_iff, decide_eq_true_eq, cmK_neg]
theorem swoI (X Y : Int → Int) (t : Bool) (n : Int) : Go.Sort.SWO (Go.Proofs.ltOf (cfI X Y t (n := n))) where
  irrefl p := by rw [ltI, bfK_ff]; omega
  trans p q r h1 h2 := by rw [ltI] at *; rw [bfK_iff] at *; omega
  ntrans p q r h1 h2 := by rw [ltI] at *; rw [bfK_ff] at *; omega
theorem totI {X Y : Int → Int} {t : Bool} {n : Int} (p q : Ix n) (h1 : Go.Proofs.ltOf (cfI X Y t) p q = false) (h2 : Go.Proofs.ltOf (cfI X Y t) q p = false) : p = q := by
  rw [ltI, bfK_ff] at h1 h2
  exact Subtype.ext (by omega)
/-- The comparison, in whatever world holds what it reads. -/
theorem cmp_in {X Y : Int → Int} {n : Int} {t : Bool} {F : Nat → Prop} {ρ : Rho} {w W : World} {Z : Int → Int} {K : Int} (hm : MRel w F ρ [some (IBk true Z K), some (LBk 3 true n), some (TBk true t), some (PBk true X Y n)] w) (hγ : ρ.γ 0 ≠ 0) (hn : n ≤ 1048576)
    (hW : ∀ k, k ≠ ρ.β 0 → k < w.heap.size → W.heap[k]? = w.heap[k]?) (p q : Ix n) :
    Calls Try.prog 13 #[encI p, encI q, .pointer (some ⟨ρ.β 1, ρ.o 1, none⟩), .pointer (some ⟨ρ.β 2, ρ.o 2, none⟩)] W fun e w' => e = .returned (.int .i64 (cfI X Y t p q)) ∧ ∃ q os, w' = Go.Sort.grow (W.drewN q) os := by
  let ρc : Rho := ⟨fun i => ρ.β (i + 1), fun i => ρ.γ (i + 1), fun i => i < 3, fun i => ρ.o (i + 1)⟩
  obtain ⟨_, h1⟩ := hm.blk 1 _ rfl
  obtain ⟨_, h2⟩ := hm.blk 2 _ rfl
  obtain ⟨_, h3⟩ := hm.blk 3 _ rfl
  have same : ∀ j b, blkOf [some (IBk true Z K), some (LBk 3 true n), some (TBk true t), some (PBk true X Y n)] j = some b → j ≠ 0 → ρ.γ j ≠ 0 → W.heap[ρ.β j]? = w.heap[ρ.β j]? := fun j b hb hj hg => by
    refine hW _ (hm.inj j 0 b _ hb rfl hj hg hγ (.inr rfl)) ((hm.blk j b hb).2.lt hg)
  have m1 : MR ρc W 0 (LBk 2 false n) := h1.seen rfl rfl rfl rfl rfl rfl rfl (same 1 _ rfl (by decide)) fun i vs hi hr => by
    obtain ⟨r, e, hv⟩ := hr
    match i, e with
    | 0, e =>
      cases e
      obtain ⟨v, ws, rfl, ⟨_, b0, b1, b2, b3⟩, e2⟩ := hv
      exact ⟨_, rfl, v, ws, rfl, ⟨(by decide : 2 < 3), b0, b1, b2, b3⟩, e2⟩
    | i + 1, e => simp at e
  have m2 : MR ρc W 1 (TBk false t) := h2.seen rfl rfl rfl rfl rfl rfl rfl (same 2 _ rfl (by decide)) fun i vs hi hr => by
    obtain ⟨r, e, hv⟩ := hr
    match i, e with
    | 0, e =>
      cases e
      obtain ⟨v, ws, rfl, h, e2⟩ := hv
      exact ⟨_, rfl, v, ws, rfl, h, e2⟩
    | i + 1, e => simp at e
  have m3 : MR ρc W 2 (PBk false X Y n) := h3.seen rfl rfl rfl rfl rfl rfl rfl (same 3 _ rfl (by decide)) fun i vs hi hr => fun e he => by
    obtain ⟨v, ws, rfl, h, v2, ws2, rfl, h2, e2⟩ := hr e he
    exact ⟨v, _, rfl, h, v2, ws2, rfl, h2, e2⟩
  have hb3 : ∀ i b, blkOf [some (LBk 2 false n), some (TBk false t), some (PBk false X Y n)] i = some b → i < 3 ∧ MR ρc W i b ∧ b.wr = false := by
    intro i b hb
    match i, hb with
    | 0, hb => cases hb; exact ⟨by decide, m1, rfl⟩
    | 1, hb => cases hb; exact ⟨by decide, m2, rfl⟩
    | 2, hb => cases hb; exact ⟨by decide, m3, rfl⟩
    | i + 3, hb => simp [blkOf] at hb
  have hM : MRel W (fun _ => False) ρc [some (LBk 2 false n), some (TBk false t), some (PBk false X Y n)] W := by
    refine ⟨fun i b hb => ⟨(hb3 i b hb).1, (hb3 i b hb).2.1⟩, fun i j b c hb hc _ _ _ hwr => ?_, fun i b hb hwr => ?_, FrameW.refl _ _⟩
    · rw [(hb3 i b hb).2.2, (hb3 j c hc).2.2] at hwr
      rcases hwr with h | h <;> cases h
    · rw [(hb3 i b hb).2.2] at hwr; cases hwr
  refine (KdOrder11 X Y n t p.1 q.1 ⟨p.2, q.2⟩ W (fun _ => False) ρc [encI p, encI q, .pointer (some ⟨ρ.β 1, ρ.o 1, none⟩), .pointer (some ⟨ρ.β 2, ρ.o 2, none⟩)] hM (fun _ h => h) ?_).2.mono ?_
  · have := p.2
    have := q.2
    exact ⟨_, _, rfl, ⟨rfl, p.2.1, by show p.1 ≤ 1048576; omega⟩, _, _, rfl, ⟨rfl, q.2.1, by show q.1 ≤ 1048576; omega⟩, _, _, rfl, ⟨(by decide : 0 < 3), Int.le_refl _, rfl⟩, _, _, rfl, ⟨(by decide : 1 < 3), Int.le_refl _, rfl⟩, rfl⟩
  · rintro e w' ⟨r, m', ρ', v, rfl, ⟨rfl, rfl⟩, hr, hMM, _⟩
    obtain ⟨rfl, _, _⟩ := hr
    exact ⟨rfl, hMM.fr.grown⟩
theorem sort_k (X Y : Int → Int) (n : Int) (t : Bool) (Z : Int → Int) (K r m : Int) (hp : ((n : Int) ≤ 1048576 ∧ (0 : Int) ≤ r ∧ (r : Int) + m ≤ K ∧ (0 : Int) < m) ∧ ∀ i, r ≤ i → i < r + m → 0 ≤ Z i ∧ Z i < n) :
    RunsTo Try.prog 12 [.sl 0 1 (.v fun _ => r) (.v fun _ => m) 1048576, .fn 13 [.ptr 1 1 (.lit 0) 0, .ptr 2 1 (.lit 0) 0]] [some (IBk true Z K), some (LBk 3 true n), some (TBk true t), some (PBk true X Y n)]
      (.tup []) [some (IBk true (ssZ X Y t Z r m) K), some (LBk 3 true n), some (TBk true t), some (PBk true X Y n)] := by
  obtain ⟨⟨hn20, hr0, hrK, hm0⟩, hZ⟩ := hp
  intro w F ρ vs hm hf hv
  refine ⟨Try.call12 _ _, ?_⟩
  obtain ⟨v0, ws, rfl, ⟨hal, _, _, hmN, a, c, rfl, hnc, hcm, hs⟩, v1, ws1, rfl, ⟨us, rfl, hu⟩, e2⟩ := hv
  have e2 : ws1 = [] := e2
  subst e2
  obtain ⟨u1, us1, rfl, ⟨_, _, rfl⟩, u2, us2, rfl, ⟨_, _, rfl⟩, e3⟩ := hu
  have e3 : us2 = [] := e3
  subst e3
  have hmN : m ≤ 1048576 := hmN
  have hnc : m.toNat ≤ c := hnc
  obtain ⟨_, hM⟩ := hm.blk 0 _ rfl
  obtain ⟨_, hM⟩ := hM
  rcases hM with ⟨h1, h2⟩ | ⟨ho, cs, hh, hsz, hrow⟩ | ⟨h1, _⟩
  · have h2 : K.toNat = 0 := h2
    omega
  rotate_left
  · cases h1
  have hcell : ∀ i, i < K.toNat → cs[i]? = some (.int .i64 (Z i)) ∧ 0 ≤ Z i ∧ Z i ≤ 1048576 := by
    intro i hi
    obtain ⟨_, h2⟩ := hrow i hi
    obtain ⟨v, ws, e, ⟨rfl, b1, b2⟩, e4⟩ := h2 (.lit (i : Int)) rfl
    have e4 : ws = [] := e4
    subst e4
    have := one_take e
    rw [Array.getElem?_toList] at this
    exact ⟨this, b1, b2⟩
  have hcs : K.toNat ≤ cs.size := by
    have := (hrow (K.toNat - 1) (show K.toNat - 1 < K.toNat by omega)).1
    simp only [Nat.mul_one] at this
    omega
  have ha : a = some ⟨ρ.β 0, r.toNat, none⟩ ∧ r.toNat + c ≤ ρ.γ 0 := by
    cases a with
    | none => have : c = 0 := hs; omega
    | some x =>
      rcases hs with hs | ⟨hs, hs2⟩
      · omega
      · have hs2 : (r.toNat + c) * 1 ≤ ρ.γ 0 := hs2
        refine ⟨?_, by omega⟩
        rw [hs, ho]
        show some (⟨ρ.β 0, 0 + r.toNat * 1, none⟩ : Addr) = _
        rw [Nat.zero_add, Nat.mul_one]
  obtain ⟨rfl, hrc⟩ := ha
  have hγ : ρ.γ 0 ≠ 0 := by omega
  have hblk : ρ.β 0 < w.heap.size := (Array.getElem?_eq_some_iff.1 hh).1
  have hn0 : 0 < n := by have := hZ r (Int.le_refl _) (by omega); omega
  letI : Inhabited (Ix n) := ⟨⟨0, by omega⟩⟩
  let dl : List (Ix n) := (List.range m.toNat).map fun (i : Nat) => if h : 0 ≤ Z (r + i) ∧ Z (r + i) < n then ⟨Z (r + i), h⟩ else default
  have hdl : dl.length = m.toNat := by simp [dl]
  have hval : dl.map (·.1) = sg Z r m := by
    unfold sg
    apply List.ext_getElem?
    intro i
    by_cases hi : i < m.toNat
    · have b1 := hZ (r + i) (by omega) (by omega)
      simp [dl, hi, b1]
    · rw [List.getElem?_eq_none (by simp [hdl]; omega), List.getElem?_eq_none (by simp; omega)]
  have hget : ∀ i, i < m.toNat → (dl.toArray[i]!).1 = Z (r + i) := by
    intro i hi
    have b1 := hZ (r + i) (by omega) (by omega)
    rw [getElem!_pos dl.toArray i (by simp [hdl, hi])]
    simp [dl, b1]
  have hH : Go.Sort.Holds encI w (ρ.β 0) r.toNat dl.toArray := by
    intro j hj
    have hj : j < m.toNat := by simpa [hdl] using hj
    have hc := (hcell (r.toNat + j) (by omega)).1
    rw [show ((r.toNat + j : Nat) : Int) = r + j by omega] at hc
    constructor
    · have hq := cell_of_row w (ρ.β 0) (r.toNat + j) cs _ (0, 0) hh
      rw [hq, hc]
      unfold encI
      rw [hget j hj]
    · simp only [World.frozen?, hh]
      simp
  have hcmp : Go.Proofs.CmpLays1 (α := Ix n) Try.prog 13 #[.pointer (some ⟨ρ.β 1, ρ.o 1, none⟩), .pointer (some ⟨ρ.β 2, ρ.o 2, none⟩)] encI (cfI X Y t) (ρ.β 0) r.toNat dl.toArray.size w := by
    intro k os dk hk p q
    exact cmp_in hm hγ hn20 (fun j hj hlt => heap_putO_other encI w (ρ.β 0) r.toNat k dk os j hj hlt) p q
  have hcon := Go.Proofs.Any.slices_SortFunc_total (α := Ix n) laySortI encI (fun _ => rfl) (cfI X Y t) (swoI X Y t n) 13 #[.pointer (some ⟨ρ.β 1, ρ.o 1, none⟩), .pointer (some ⟨ρ.β 2, ρ.o 2, none⟩)] (ρ.β 0) r.toNat c dl.toArray w Try.call13 hcmp hH hblk (by rw [List.size_toArray, hdl]; omega) totI
  rw [show dl.toArray.size = m.toNat by simp [hdl]] at hcon
  refine hcon.mono ?_
  rintro e w' ⟨rfl, q, os, rfl⟩
  have hsl : (dl.mergeSort fun x y => !(Go.Proofs.ltOf (cfI X Y t)) y x).map (·.1) = sortK X Y t (sg Z r m) := by
    unfold sortK
    rw [← hval]
    exact List.map_mergeSort (fun a _ b _ => by rw [ltI]; rfl)
  have hln : (dl.mergeSort fun x y => !(Go.Proofs.ltOf (cfI X Y t)) y x).length = m.toNat := by rw [List.length_mergeSort, hdl]
  generalize (dl.mergeSort fun x y => !(Go.Proofs.ltOf (cfI X Y t)) y x) = G at hsl hln ⊢
  have hgG : ∀ i, i < m.toNat → (G.toArray[i]!).1 = selL (sortK X Y t (sg Z r m)) i := by
    intro i hi
    rw [getElem!_pos G.toArray i (by simpa [hln] using hi)]
    unfold selL
    rw [← hsl, Int.toNat_natCast, List.getD_eq_getElem?_getD, List.getElem?_map, List.getElem?_eq_getElem (by omega)]
    simp
  have fin : MRel w F ρ [some (IBk true (ssZ X Y t Z r m) K), some (LBk 3 true n), some (TBk true t), some (PBk true X Y n)] (Go.Proofs.sortWorld encI w (ρ.β 0) r.toNat q G.toArray os) := by
    refine MRel.renew (id := 0) (b := IBk true (ssZ X Y t Z r m) K) hm (Rho.le_refl ρ _) hal ⟨Nat.one_pos, .inr (.inl ⟨ho, _, heap_putO encI w (ρ.β 0) r.toNat q G.toArray os hh, by simp [Go.Sort.putCells, hsz], fun i hi => ?_⟩)⟩ ?_ (fun j b hb hj hg => ⟨?_, ?_⟩) (fun _ => hm.own 0 _ rfl rfl hγ)
    · have hi : i < K.toNat := hi
      refine ⟨by simp [Go.Sort.putCells]; omega, fun e he => ?_⟩
      have hg := get_putO encI G.toArray cs r.toNat i (by omega)
      rw [← Array.getElem?_toList] at hg
      show VRs ρ _ ((_ : List Value).take 1)
      rw [take_one hg]
      have hc := hcell i hi
      have key : (if r.toNat ≤ i ∧ i < r.toNat + G.toArray.size then encI G.toArray[i - r.toNat]! else cs[i]'(by omega)) = .int .i64 (ssZ X Y t Z r m i) ∧ 0 ≤ ssZ X Y t Z r m i ∧ ssZ X Y t Z r m i ≤ 1048576 := by
        rw [List.size_toArray, hln]
        by_cases hin : r.toNat ≤ i ∧ i < r.toNat + m.toNat
        · rw [if_pos hin]
          have hb := ssZ_bd (X := X) (Y := Y) (t := t) hZ (i := i) (by omega) (by omega)
          refine ⟨?_, by omega, by omega⟩
          unfold encI ssZ
          rw [hgG _ (by omega), if_pos (by omega)]
          congr 2
          omega
        · rw [if_neg hin, ssZ_out (by omega)]
          refine ⟨?_, hc.2⟩
          have := hc.1
          rw [Array.getElem?_eq_getElem (by omega)] at this
          exact Option.some.inj this
      refine ⟨_, _, rfl, ⟨?_, ?_⟩, rfl⟩
      · rw [key.1]
        show _ = Value.int .i64 (ssZ X Y t Z r m e.den)
        rw [he]
      · show 0 ≤ ssZ X Y t Z r m e.den ∧ _
        rw [he]
        exact key.2
    · refine hm.fr.trans (G := fun k => k = ρ.β 0) ⟨rfl, rfl, rfl, ?_, fun k hk hne => heap_putO_other encI w _ _ q _ os k hne hk, Nat.le_add_right _ _⟩ (fun k hk e => ?_)
      · show w.heap.size ≤ ((w.heap.modify _ _) ++ os).size
        simp
      · subst e
        rcases hm.own 0 _ rfl rfl hγ with h | h
        · omega
        · exact h
    · exact heap_putO_other encI w _ _ q _ os _ (hm.inj j 0 b _ hb rfl hj hg hγ (.inr rfl)) ((hm.blk j b hb).2.lt hg)
    · exact fun e => hm.inj j 0 b _ hb rfl hj hg hγ (.inr rfl) e.symm
  refine ⟨_, _, ρ, _, rfl, ⟨rfl, rfl⟩, ⟨[], rfl, rfl⟩, fin, hf, Nat.le_refl _, fun id _ h => ⟨h, rfl, rfl, rfl⟩, fun id b hb => ?_⟩
  match id, hb with
  | 0, hb => cases hb; rfl
  | 1, hb => cases hb; rfl
  | 2, hb => cases hb; rfl
  | 3, hb => cases hb; rfl
  | i + 4, hb => simp [blkOf] at hb
end Go.Proofs.Ytljhomjaamjfaaa
