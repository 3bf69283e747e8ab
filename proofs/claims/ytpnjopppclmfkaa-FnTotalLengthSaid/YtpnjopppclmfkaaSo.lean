/- The library's sort, as the reckoner sees it. -/
import Derived.Shelf.SlSortCmp.NoneTotal
import Derived.Test.YtpnjopppclmfkaaYg
set_option linter.unusedSimpArgs false
set_option linter.unusedVariables false
namespace Go.Sym
section
variable {α : Type} [Inhabited α]
theorem heap_put (enc : α → Value) (w : World) (blk q : Nat) (d : Array α) (os : Array Obj) {cs : Array Value} {ty : TypeId} {fr : Nat × Nat} (h : w.heap[blk]? = some (.cells cs ty fr)) :
    (Go.Sort.grow (Go.Sort.putRow enc (Go.Sort.ahead w q) blk 0 d) os).heap[blk]? = some (.cells (Go.Sort.putCells enc 0 d cs) ty fr) := by
  have hlt : blk < w.heap.size := (Array.getElem?_eq_some_iff.1 h).1
  show ((w.heap.modify blk (Go.Sort.onCells (Go.Sort.putCells enc 0 d))) ++ os)[blk]? = _
  rw [Array.getElem?_append, if_pos (by simpa using hlt), Array.getElem?_modify, if_pos rfl, h]
  rfl
theorem heap_put_other (enc : α → Value) (w : World) (blk q : Nat) (d : Array α) (os : Array Obj) (k : Nat) (hk : k ≠ blk) (hlt : k < w.heap.size) :
    (Go.Sort.grow (Go.Sort.putRow enc (Go.Sort.ahead w q) blk 0 d) os).heap[k]? = w.heap[k]? := by
  show ((w.heap.modify blk (Go.Sort.onCells (Go.Sort.putCells enc 0 d))) ++ os)[k]? = _
  rw [Array.getElem?_append, if_pos (by simpa using hlt), Array.getElem?_modify, if_neg (fun e => hk e.symm)]
theorem get_putCells (enc : α → Value) (d : Array α) (cs : Array Value) (h : d.size ≤ cs.size) (j : Nat) (hj : j < d.size) : (Go.Sort.putCells enc 0 d cs).toList[j]? = (d.toList.map enc)[j]? := by
  rw [List.getElem?_map, Array.getElem?_toList, Array.getElem?_toList]
  unfold Go.Sort.putCells
  rw [Array.getElem?_mapIdx, Array.getElem?_eq_getElem (show j < cs.size by omega), Array.getElem?_eq_getElem hj]
  simp only [Option.map_some]
  rw [if_pos ⟨Nat.zero_le _, by omega⟩, Nat.sub_zero, getElem!_pos d j hj]
/-- One row laid anew. -/
theorem put_rel {enc : α → Value} {w0 : World} {F : Nat → Prop} {ρ : Rho} {ty : TypeId} {sz : Nat} {c c' : Con} {w : World} (hm : MRel w0 F ρ [some ⟨ty, sz, true, c⟩] w)
    {cs : Array Value} (hh : w.heap[ρ.β 0]? = some (.cells cs ty (0, 0))) (hγ : cs.size = ρ.γ 0) (ho : ρ.o 0 = 0) (hg : ρ.γ 0 ≠ 0) (d : Array α) (hd : d.size ≤ cs.size) (q : Nat) (os : Array Obj)
    (hr : ∀ i, i < c'.num.den.toNat → (i + 1) * sz ≤ d.size ∧ RowR ρ c' i (((d.toList.map enc).drop (i * sz)).take sz)) :
    MRel w0 F ρ [some ⟨ty, sz, true, c'⟩] (Go.Sort.grow (Go.Sort.putRow enc (Go.Sort.ahead w q) (ρ.β 0) 0 d) os) := by
  have hblk : ∀ i b, blkOf [some (⟨ty, sz, true, c'⟩ : Blk)] i = some b → i = 0 ∧ b = ⟨ty, sz, true, c'⟩ := by
    intro i b hb
    cases i with
    | zero => simp [blkOf] at hb; exact ⟨rfl, hb.symm⟩
    | succ i => simp [blkOf] at hb
  have h0 := hm.blk 0 _ rfl
  refine ⟨fun i b hb => ?_, fun i j b c hb hc hne _ _ _ => ?_, fun i b hb hw hgi => ?_, ?_⟩
  · obtain ⟨rfl, rfl⟩ := hblk i b hb
    refine ⟨h0.1, h0.2.1, .inr (.inl ⟨ho, _, heap_put enc w _ q d os hh, by simp [Go.Sort.putCells, hγ], fun i hi => ?_⟩)⟩
    obtain ⟨h1, h2⟩ := hr i hi
    refine ⟨by simp only [Go.Sort.putCells, Array.size_mapIdx]; exact Nat.le_trans h1 hd, ?_⟩
    have e : ((Go.Sort.putCells enc 0 d cs).toList.drop (i * sz)).take sz = ((d.toList.map enc).drop (i * sz)).take sz := by
      apply List.ext_getElem?
      intro j
      rw [List.getElem?_take, List.getElem?_take]
      split
      · rename_i hj
        rw [List.getElem?_drop, List.getElem?_drop]
        exact get_putCells enc d cs hd _ (by rw [Nat.add_mul, Nat.one_mul] at h1; omega)
      · rfl
    rw [e]
    exact h2
  · exact absurd ((hblk i b hb).1.trans (hblk j c hc).1.symm) hne
  · obtain ⟨rfl, rfl⟩ := hblk i b hb
    exact hm.own 0 _ rfl rfl hg
  · refine hm.fr.trans (G := fun k => k = ρ.β 0) ⟨rfl, rfl, rfl, ?_, fun k hk hne => heap_put_other enc w _ q d os k hne hk, Nat.le_add_right _ _⟩ (fun k hk e => ?_)
    · show w.heap.size ≤ ((w.heap.modify _ _) ++ os).size
      simp
    · subst e
      rcases hm.own 0 _ rfl rfl hg with h | h
      · omega
      · exact h
end
/-! ### a world that only grows -/
theorem FrameW.grown {w w' : World} (h : FrameW w (fun _ => False) w') : ∃ q os, w' = Go.Sort.grow (w.drewN q) os := by
  refine ⟨w'.drawn - w.drawn, w'.heap.extract w.heap.size w'.heap.size, ?_⟩
  have e1 : w'.heap = w.heap ++ w'.heap.extract w.heap.size w'.heap.size := by
    apply Array.ext_getElem?
    intro k
    rw [Array.getElem?_append]
    split
    · rename_i hk; exact h.block k hk (fun x => x)
    · rename_i hk
      have hs := h.size
      by_cases hk2 : k < w'.heap.size
      · rw [Array.getElem?_extract, if_pos (by omega), show w.heap.size + (k - w.heap.size) = k by omega]
      · rw [Array.getElem?_eq_none (by omega), Array.getElem?_eq_none (by simp; omega)]
  have e2 : w'.drawn = w.drawn + (w'.drawn - w.drawn) := by have := h.drawn; omega
  cases w' with
  | mk heap tape drawn os output =>
    cases w with
    | mk heap0 tape0 drawn0 os0 output0 =>
      have a1 : os = os0 := h.os
      have a2 : tape = tape0 := h.tape
      have a3 : output = output0 := h.output
      subst a1 a2 a3
      simp only [Go.Sort.grow, World.drewN] at e1 e2 ⊢
      congr 1
theorem RunsTo.alone {P : Program} {g : FuncId} {args : List AV} {e : E} {lo hi : Int} (h : RunsTo P g args [] (.int .i64 e lo hi) []) (hv : ∃ vs : List Value, ∀ ρ, VRs ρ args vs) (W : World) :
    ∃ vs : List Value, (∀ ρ, VRs ρ args vs) ∧ Calls P g vs.toArray W fun x w' => x = .returned (.int .i64 e.den) ∧ ∃ q os, w' = Go.Sort.grow (W.drewN q) os := by
  obtain ⟨vs, hv⟩ := hv
  refine ⟨vs, hv, ?_⟩
  let ρ : Rho := ⟨fun _ => 0, fun _ => 0, fun _ => False, fun _ => 0⟩
  have hb : ∀ i b, blkOf [] i = some b → False := fun i b hb => by simp [blkOf] at hb
  have hM : MRel W (fun _ => False) ρ [] W := ⟨fun i b h => (hb i b h).elim, fun i j b c h => (hb i b h).elim, fun i b h => (hb i b h).elim, FrameW.refl _ _⟩
  refine (h W (fun _ => False) ρ vs hM (fun _ h => h.elim) (hv ρ)).2.mono ?_
  rintro x w' ⟨r, m', ρ', v, rfl, ⟨rfl, rfl⟩, hr, hMM, _⟩
  obtain ⟨rfl, _, _⟩ := hr
  exact ⟨rfl, hMM.fr.grown⟩
/-! ### points -/
abbrev PtD := { p : Int × Int // (-9223372036854775808 ≤ p.1 ∧ p.1 ≤ 9223372036854775807) ∧ (-9223372036854775808 ≤ p.2 ∧ p.2 ≤ 9223372036854775807) }
instance : Inhabited PtD := ⟨⟨(0, 0), by omega, by omega⟩⟩
def encP (p : PtD) : List Value := [.int .i64 p.1.1, .int .i64 p.1.2]
def cmpP (ax ay bx bY : Int) : Int := if ax < bx then -1 else if bx < ax then 1 else if ay < bY then -1 else if bY < ay then 1 else 0
def lqP (p q : Int × Int) : Bool := !decide (cmpP q.1 q.2 p.1 p.2 < 0)
def cfP (p q : PtD) : Int := cmpP p.1.1 p.1.2 q.1.1 q.1.2
theorem cmpP_neg {ax ay bx bY : Int} : cmpP ax ay bx bY < 0 ↔ ax < bx ∨ (ax = bx ∧ ay < bY) := by
  unfold cmpP
  constructor
  · intro h; split at h
    · omega
    · split at h
      · omega
      · split at h
        · omega
        · split at h <;> omega
  · intro h; split
    · omega
    · split
      · omega
      · split
        · omega
        · split <;> omega
theorem lqP_iff {p q : Int × Int} : lqP p q = true ↔ p.1 < q.1 ∨ (p.1 = q.1 ∧ p.2 ≤ q.2) := by
  unfold lqP
  rw [Bool.not_eq_true', decide_eq_false_iff_not, cmpP_neg]
  omega
theorem ltP_of {p q : PtD} : Go.Proofs.ltOf cfP p q = true ↔ p.1.1 < q.1.1 ∨ (p.1.1 = q.1.1 ∧ p.1.2 < q.1.2) := by
  unfold Go.Proofs.ltOf cfP
  rw [decide_eq_true_eq, cmpP_neg]
theorem swoP : Go.Sort.SWO (Go.Proofs.ltOf cfP) where
  irrefl p := by rw [← Bool.not_eq_true, ltP_of]; omega
  trans p q r h1 h2 := by rw [ltP_of] at *; omega
  ntrans p q r h1 h2 := by rw [← Bool.not_eq_true, ltP_of] at *; omega
theorem totP (p q : PtD) (h1 : Go.Proofs.ltOf cfP p q = false) (h2 : Go.Proofs.ltOf cfP q p = false) : p = q := by
  rw [← Bool.not_eq_true, ltP_of] at h1 h2
  exact Subtype.ext (Prod.ext (by omega) (by omega))
def ptsL (X Y : Int → Int) (n : Int) : List (Int × Int) := (List.range n.toNat).map fun (i : Nat) => (X i, Y i)
def srtL (X Y : Int → Int) (n : Int) : List (Int × Int) := (ptsL X Y n).mergeSort lqP
def srtX (X Y : Int → Int) (n i : Int) : Int := ((srtL X Y n).getD i.toNat (0, 0)).1
def srtY (X Y : Int → Int) (n i : Int) : Int := ((srtL X Y n).getD i.toNat (0, 0)).2
theorem two_of (l : List Value) (i : Nat) (h : i * 2 + 2 ≤ l.length) : (l.drop (i * 2)).take 2 = [l[i * 2]!, l[i * 2 + 1]!] := by
  apply List.ext_getElem?
  intro j
  rw [List.getElem?_take]
  match j with
  | 0 => simp [getElem!_pos l (i * 2) (by omega), List.getElem?_eq_getElem (show i * 2 < l.length by omega)]
  | 1 => simp [getElem!_pos l (i * 2 + 1) (by omega), List.getElem?_eq_getElem (show i * 2 + 1 < l.length by omega)]
  | j + 2 => rw [if_neg (by omega)]; rfl
def ptBlk (ty : TypeId) (X Y : Int → Int) (n : Int) : Blk := ⟨ty, 2, true, .sym (.v fun _ => n) fun e => [.int .i64 (.v fun _ => X e.den) (-9223372036854775808) 9223372036854775807, .int .i64 (.v fun _ => Y e.den) (-9223372036854775808) 9223372036854775807]⟩
theorem sort_points {P : Program} {ρ : Go.Shelf.Ren} (L : Go.Proofs.SlLaysF0.n6 P ρ) (aE : ∀ w, (isAgg (ρ.t 24)).run P w = .ok true w) (zE : ∀ w, (Go.sizeOf (ρ.t 24)).run P w = .ok 2 w) {g : FuncId} (eg : ∀ args w, (callFunc g args).run P w = .ok (.enter g args) w)
    (ef : ∀ args w, (callFunc (ρ.f 6) args).run P w = .ok (.enter (ρ.f 6) args) w)
    (hg : ∀ ax ay bx bY : Int, RunsTo P g [.agg [.int .i64 (.v fun _ => ax) (-9223372036854775808) 9223372036854775807, .int .i64 (.v fun _ => ay) (-9223372036854775808) 9223372036854775807], .agg [.int .i64 (.v fun _ => bx) (-9223372036854775808) 9223372036854775807, .int .i64 (.v fun _ => bY) (-9223372036854775808) 9223372036854775807]] [] (.int .i64 (.v fun _ => cmpP ax ay bx bY) (-1) 1) [])
    (ty : TypeId) (X Y : Int → Int) (n N : Int) (hN : N < 4611686018427387904) :
    RunsTo P (ρ.f 6) [.sl 0 2 (.lit 0) (.v fun _ => n) N, .fn g []] [some (ptBlk ty X Y n)] (.tup []) [some (ptBlk ty (srtX X Y n) (srtY X Y n) n)] := by
  intro w F r vs hm hf hv
  refine ⟨ef _ _, ?_⟩
  obtain ⟨v0, ws, rfl, ⟨hal, _, hn0, hnN, a, c, rfl, hnc, hcm, hs⟩, v1, ws1, rfl, ⟨us, rfl, e1⟩, e2⟩ := hv
  have e1 : us = [] := e1
  have e2 : ws1 = [] := e2
  subst e1 e2
  have hn0 : 0 ≤ n := hn0
  have hnN : n ≤ N := hnN
  have hnc : n.toNat ≤ c := hnc
  obtain ⟨_, hM⟩ := hm.blk 0 _ rfl
  have tail : ∀ w', MRel w F r [some (ptBlk ty (srtX X Y n) (srtY X Y n) n)] w' → ∃ r_1 m' ρ' v, Ending.returned (Value.tuple #[]) = Ending.returned v ∧ (r_1 = AV.tup [] ∧ m' = [some (ptBlk ty (srtX X Y n) (srtY X Y n) n)]) ∧ VR ρ' r_1 v ∧ MRel w F ρ' m' w' ∧ (∀ id, ρ'.al id → id < m'.length) ∧ [some (ptBlk ty X Y n)].length ≤ m'.length ∧
      (∀ id, id < [some (ptBlk ty X Y n)].length → r.al id → ρ'.al id ∧ ρ'.β id = r.β id ∧ ρ'.γ id = r.γ id ∧ ρ'.o id = r.o id) ∧ (∀ id b, blkOf m' id = some b → b.wr = wrOf [some (ptBlk ty X Y n)] id) := by
    intro w' h
    refine ⟨_, _, r, _, rfl, ⟨rfl, rfl⟩, ⟨[], rfl, rfl⟩, h, hf, Nat.le_refl _, fun id _ h => ⟨h, rfl, rfl, rfl⟩, fun id b hb => ?_⟩
    cases id with
    | zero => simp [blkOf] at hb; subst hb; rfl
    | succ i => simp [blkOf] at hb
  by_cases hz : n.toNat = 0
  · -- none
    have h := Go.Proofs.AnyF.slices_SortFunc_none L a c (.func (.func g) #[] #[]) w
    rw [← hz] at h
    refine h.mono ?_
    rintro e w' ⟨rfl, rfl⟩
    refine tail _ ?_
    refine MRel.weaken hm (id := 0) (b := ptBlk ty X Y n) rfl (b' := ptBlk ty (srtX X Y n) (srtY X Y n) n) ?_ rfl
    refine MR.weaken hM _ rfl (fun i hi => ?_)
    exfalso
    have hi : i < n.toNat := hi
    omega
  · have ha : ∃ x, a = some x := by
      cases a with
      | none => have : c = 0 := hs; omega
      | some x => exact ⟨x, rfl⟩
    obtain ⟨x, rfl⟩ := ha
    rcases hs with hs | ⟨hs, hs2⟩
    · omega
    have hs2 : (0 + c) * 2 ≤ r.γ 0 := hs2
    obtain ⟨_, hM⟩ := hM
    rcases hM with ⟨h1, h2⟩ | ⟨ho, cs, hh, hsz, hrow⟩ | ⟨h1, _⟩
    · have h2 : n.toNat = 0 := h2
      omega
    · have hrow : ∀ i, i < n.toNat → (i + 1) * 2 ≤ cs.size ∧ (-9223372036854775808 ≤ X i ∧ X i ≤ 9223372036854775807) ∧ (-9223372036854775808 ≤ Y i ∧ Y i ≤ 9223372036854775807) ∧ (cs.toList.drop (i * 2)).take 2 = [.int .i64 (X i), .int .i64 (Y i)] := by
        intro i hi
        obtain ⟨h1, h2⟩ := hrow i hi
        obtain ⟨u, us, hu, ⟨rfl, b1, b2⟩, u2, us2, rfl, ⟨rfl, b3, b4⟩, e⟩ := h2 (.lit (i : Int)) rfl
        have e : us2 = [] := e
        subst e
        exact ⟨h1, ⟨b1, b2⟩, ⟨b3, b4⟩, hu⟩
      let dl : List PtD := (List.range n.toNat).map fun (i : Nat) => if h : (-9223372036854775808 ≤ X i ∧ X i ≤ 9223372036854775807) ∧ (-9223372036854775808 ≤ Y i ∧ Y i ≤ 9223372036854775807) then ⟨(X i, Y i), h⟩ else default
      have hdl : dl.length = n.toNat := by simp [dl]
      have hget : ∀ i, i < n.toNat → ∃ h, dl.toArray[i]! = (⟨(X i, Y i), h⟩ : PtD) := by
        intro i hi
        obtain ⟨_, b1, b2, _⟩ := hrow i hi
        refine ⟨⟨b1, b2⟩, ?_⟩
        rw [getElem!_pos dl.toArray i (by simp [hdl, hi])]
        simp [dl, b1, b2]
      have hval : dl.map (·.1) = ptsL X Y n := by
        unfold ptsL
        apply List.ext_getElem?
        intro i
        by_cases hi : i < n.toNat
        · obtain ⟨_, b1, b2, _⟩ := hrow i hi
          simp [dl, hi, b1, b2]
        · rw [List.getElem?_eq_none (by simp [hdl]; omega), List.getElem?_eq_none (by simp; omega)]
      have hlen : cs.toList.length = cs.size := rfl
      have hH : Go.Sort.HoldsK encP 2 w (r.β 0) 0 dl.toArray := by
        intro j hj
        have hj : j < n.toNat * 2 := by simpa [hdl] using hj
        have hq : j / 2 < n.toNat := by omega
        obtain ⟨h1, _, _, h4⟩ := hrow (j / 2) hq
        obtain ⟨hp, hx⟩ := hget (j / 2) hq
        have hc : cs[j]? = some ((encP dl.toArray[j / 2]!)[j % 2]!) := by
          rw [two_of _ _ (by rw [hlen]; omega)] at h4
          have h40 := congrArg (fun l : List Value => l[0]?) h4
          have h41 := congrArg (fun l : List Value => l[1]?) h4
          simp only [List.getElem?_cons_zero, List.getElem?_cons_succ, Option.some.injEq] at h40 h41
          have hj2 : j < cs.toList.length := by rw [hlen]; omega
          rw [← Array.getElem?_toList, hx, List.getElem?_eq_getElem hj2, ← getElem!_pos cs.toList j hj2]
          rcases Nat.mod_two_eq_zero_or_one j with hm2 | hm2
          · have e : cs.toList[j]! = cs.toList[j / 2 * 2]! := congrArg (fun k => cs.toList[k]!) (show j = j / 2 * 2 by omega)
            rw [hm2, e, h40]
            rfl
          · have e : cs.toList[j]! = cs.toList[j / 2 * 2 + 1]! := congrArg (fun k => cs.toList[k]!) (show j = j / 2 * 2 + 1 by omega)
            rw [hm2, e, h41]
            rfl
        refine ⟨?_, ?_⟩
        · rw [id, Go.Sort.get_flatK _ _ _ _ (by simpa [hdl] using hj)]
          simp only [World.cell?, hh, Nat.zero_add]
          exact hc
        · simp only [World.frozen?, hh]
          simp
      have hcmp : Go.Proofs.CmpLays P g #[] encP 2 cfP (r.β 0) 0 dl.toArray.size w := by
        intro m os dk hk p q
        obtain ⟨vs, hvs, hc⟩ := (hg p.1.1 p.1.2 q.1.1 q.1.2).alone ⟨[.agg (encP p).toArray, .agg (encP q).toArray], fun ρ => ⟨_, _, rfl, ⟨_, rfl, _, _, rfl, ⟨rfl, p.2.1.1, p.2.1.2⟩, _, _, rfl, ⟨rfl, p.2.2.1, p.2.2.2⟩, rfl⟩, _, _, rfl, ⟨_, rfl, _, _, rfl, ⟨rfl, q.2.1.1, q.2.1.2⟩, _, _, rfl, ⟨rfl, q.2.2.1, q.2.2.2⟩, rfl⟩, rfl⟩⟩ (Go.Proofs.sortWorldK encP 2 w (r.β 0) 0 m dk os)
        obtain ⟨u0, us0, rfl, ⟨l0, rfl, x0, y0, rfl, ⟨rfl, _⟩, x1, y1, rfl, ⟨rfl, _⟩, z1⟩, u1, us1, rfl, ⟨l1, rfl, x2, y2, rfl, ⟨rfl, _⟩, x3, y3, rfl, ⟨rfl, _⟩, z2⟩, z3⟩ := hvs r
        have z1 : y1 = [] := z1
        have z2 : y3 = [] := z2
        have z3 : us1 = [] := z3
        subst z1 z2 z3
        exact hc
      have hblk : r.β 0 < w.heap.size := (Array.getElem?_eq_some_iff.1 hh).1
      have hcon := Go.Proofs.AnyQ.slices_SortFunc_total L 2 aE zE encP (fun _ => rfl) (fun p v hv => by simp [encP] at hv; rcases hv with rfl | rfl <;> rfl) cfP swoP g #[] (r.β 0) 0 c dl.toArray w eg hcmp hH hblk (by rw [List.size_toArray, hdl]; omega) totP
      have hxa : x = ⟨r.β 0, 0, none⟩ := by rw [hs, ho]; rfl
      rw [show dl.toArray.size = n.toNat by simp [hdl], ← hxa] at hcon
      refine hcon.mono ?_
      rintro e w' ⟨rfl, q, os, rfl⟩
      refine tail _ ?_
      have hsl : (dl.mergeSort fun x y => !(Go.Proofs.ltOf cfP) y x).map (·.1) = srtL X Y n := by
        unfold srtL
        rw [← hval]
        exact List.map_mergeSort (fun a _ b _ => rfl)
      have hln : (dl.mergeSort fun x y => !(Go.Proofs.ltOf cfP) y x).length = n.toNat := by rw [List.length_mergeSort, hdl]
      refine put_rel (enc := id) (c := .sym (.v fun _ => n) _) hm hh hsz ho ?_ _ ?_ q os ?_
      · omega
      · simp only [Go.Sort.size_flatK]
        have := hrow (n.toNat - 1) (by omega)
        simp [hdl]
        omega
      · intro i hi
        have hi : i < n.toNat := hi
        refine ⟨by simp [Go.Sort.size_flatK, hdl]; omega, fun e he => ?_⟩
        have hgi : ((dl.mergeSort fun x y => !(Go.Proofs.ltOf cfP) y x).toArray)[i]!.1 = (srtL X Y n).getD i (0, 0) := by
          rw [← hsl, getElem!_pos _ i (by simpa [hln] using hi), List.getD_eq_getElem?_getD, List.getElem?_map, List.getElem?_eq_getElem (by rw [hln]; exact hi)]
          simp
        generalize hG : (dl.mergeSort fun x y => !(Go.Proofs.ltOf cfP) y x).toArray = G at hgi
        have hGs : G.size = n.toNat := by rw [← hG]; simpa using hln
        rw [List.map_id, two_of _ _ (by simp [Go.Sort.size_flatK, hGs]; omega)]
        have f0 : (Go.Sort.flatK encP 2 G).toList[i * 2]! = .int .i64 G[i]!.1.1 := by
          have := Go.Sort.get_flatK encP 2 G (i * 2) (by rw [hGs]; omega)
          rw [show i * 2 / 2 = i by omega, show i * 2 % 2 = 0 by omega] at this
          have hz2 : ∀ k, k < G.size * 2 → (Go.Sort.flatK encP 2 G).toList[k]! = (Go.Sort.flatK encP 2 G)[k]! := fun k hk => by
            rw [getElem!_pos _ k (by simpa using hk), getElem!_pos _ k (by simpa using hk)]; rfl
          rw [hz2 _ (by rw [hGs]; omega), this]
          rfl
        have f1 : (Go.Sort.flatK encP 2 G).toList[i * 2 + 1]! = .int .i64 G[i]!.1.2 := by
          have := Go.Sort.get_flatK encP 2 G (i * 2 + 1) (by rw [hGs]; omega)
          rw [show (i * 2 + 1) / 2 = i by omega, show (i * 2 + 1) % 2 = 1 by omega] at this
          have hz2 : ∀ k, k < G.size * 2 → (Go.Sort.flatK encP 2 G).toList[k]! = (Go.Sort.flatK encP 2 G)[k]! := fun k hk => by
            rw [getElem!_pos _ k (by simpa using hk), getElem!_pos _ k (by simpa using hk)]; rfl
          rw [hz2 _ (by rw [hGs]; omega), this]
          rfl
        rw [f0, f1]
        have g0 : G[i]!.1.1 = srtX X Y n e.den := by unfold srtX; rw [he, Int.toNat_natCast, ← hgi]
        have g1 : G[i]!.1.2 = srtY X Y n e.den := by unfold srtY; rw [he, Int.toNat_natCast, ← hgi]
        have b := G[i]!.2
        exact ⟨_, _, rfl, ⟨by rw [g0]; rfl, by have := b.1.1; rw [g0] at this; exact this, by have := b.1.2; rw [g0] at this; exact this⟩, _, _, rfl, ⟨by rw [g1]; rfl, by have := b.2.1; rw [g1] at this; exact this, by have := b.2.2; rw [g1] at this; exact this⟩, rfl⟩
    · exact absurd h1 (by simp [ptBlk])
end Go.Sym
