/- The library's sort of integers, as the reckoner sees it. -/
import Derived.Shelf.Sort.Plain
import Derived.Shelf.Slices.In.SortNone
import Derived.Test.YtpnjopppclmfkaaSo
set_option linter.unusedSimpArgs false
set_option linter.unusedVariables false
namespace Go.Sym
abbrev noY : Int → Int := fun _ => 0
theorem ints_sorted (X : Int → Int) (n : Int) : ((List.range n.toNat).map fun (i : Nat) => X i).mergeSort (fun x y => decide (x ≤ y)) = (srtL X noY n).map (·.1) := by
  unfold srtL
  refine Eq.trans ?_ (List.map_mergeSort (r := lqP) (s := fun x y : Int => decide (x ≤ y)) (f := fun p : Int × Int => p.1) (l := ptsL X noY n) ?_).symm
  · congr 1
    unfold ptsL
    rw [List.map_map]
    rfl
  · intro a ha b hb
    unfold ptsL at ha hb
    obtain ⟨i, _, rfl⟩ := List.mem_map.1 ha
    obtain ⟨j, _, rfl⟩ := List.mem_map.1 hb
    rw [Bool.eq_iff_iff, lqP_iff, decide_eq_true_eq]
    show (X i < X j ∨ (X i = X j ∧ (0 : Int) ≤ 0)) ↔ X i ≤ X j
    omega
theorem one_of (l : List Value) (i : Nat) (h : i * 1 + 1 ≤ l.length) : (l.drop (i * 1)).take 1 = [l[i]!] := by
  apply List.ext_getElem?
  intro j
  rw [List.getElem?_take]
  match j with
  | 0 => simp [getElem!_pos l i (by omega), List.getElem?_eq_getElem (show i < l.length by omega)]
  | j + 1 => rw [if_neg (by omega)]; rfl
def inBlk (ty : TypeId) (X : Int → Int) (n : Int) : Blk := ⟨ty, 1, true, .sym (.v fun _ => n) fun e => [.int .i64 (.v fun _ => X e.den) (-9223372036854775808) 9223372036854775807]⟩
theorem sort_ints {P : Program} {ρ : Go.Shelf.Ren} (L : Go.Proofs.Lays.n189 P ρ)
    (ef : ∀ args w, (callFunc (ρ.f 189) args).run P w = .ok (.enter (ρ.f 189) args) w) (ty : TypeId) (X : Int → Int) (n N : Int) (hN : N < 4611686018427387904) :
    RunsTo P (ρ.f 189) [.sl 0 1 (.lit 0) (.v fun _ => n) N] [some (inBlk ty X n)] (.tup []) [some (inBlk ty (srtX X noY n) n)] := by
  intro w F r vs hm hf hv
  refine ⟨ef _ _, ?_⟩
  obtain ⟨v0, ws, rfl, ⟨hal, _, hn0, hnN, a, c, rfl, hnc, hcm, hs⟩, e2⟩ := hv
  have e2 : ws = [] := e2
  subst e2
  have hn0 : 0 ≤ n := hn0
  have hnN : n ≤ N := hnN
  have hnc : n.toNat ≤ c := hnc
  obtain ⟨_, hM⟩ := hm.blk 0 _ rfl
  have tail : ∀ w', MRel w F r [some (inBlk ty (srtX X noY n) n)] w' → ∃ r_1 m' ρ' v, Ending.returned (Value.tuple #[]) = Ending.returned v ∧ (r_1 = AV.tup [] ∧ m' = [some (inBlk ty (srtX X noY n) n)]) ∧ VR ρ' r_1 v ∧ MRel w F ρ' m' w' ∧ (∀ id, ρ'.al id → id < m'.length) ∧ [some (inBlk ty X n)].length ≤ m'.length ∧
      (∀ id, id < [some (inBlk ty X n)].length → r.al id → ρ'.al id ∧ ρ'.β id = r.β id ∧ ρ'.γ id = r.γ id ∧ ρ'.o id = r.o id) ∧ (∀ id b, blkOf m' id = some b → b.wr = wrOf [some (inBlk ty X n)] id) := by
    intro w' h
    refine ⟨_, _, r, _, rfl, ⟨rfl, rfl⟩, ⟨[], rfl, rfl⟩, h, hf, Nat.le_refl _, fun id _ h => ⟨h, rfl, rfl, rfl⟩, fun id b hb => ?_⟩
    cases id with
    | zero => simp [blkOf] at hb; subst hb; rfl
    | succ i => simp [blkOf] at hb
  by_cases hz : n.toNat = 0
  · have h := Go.Proofs.Any.slices_Sort_int_none L a c w
    rw [← hz] at h
    refine h.mono ?_
    rintro e w' ⟨rfl, rfl⟩
    refine tail _ ?_
    refine MRel.weaken hm (id := 0) (b := inBlk ty X n) rfl (b' := inBlk ty (srtX X noY n) n) ?_ rfl
    refine MR.weaken hM _ rfl (fun i hi => ?_)
    exfalso
    have hi : i < n.toNat := hi
    omega
  · have ha : ∃ x, a = some x := by
      cases a with
      | none => have : c = 0 := hs; omega
      | some x => exact ⟨x, rfl⟩
    obtain ⟨x, rfl⟩ := ha
    rcases hs with hs | ⟨hs, hs2⟩
    · omega
    have hs2 : (0 + c) * 1 ≤ r.γ 0 := hs2
    obtain ⟨_, hM⟩ := hM
    rcases hM with ⟨h1, h2⟩ | ⟨ho, cs, hh, hsz, hrow⟩ | ⟨h1, _⟩
    · have h2 : n.toNat = 0 := h2
      omega
    · have hrow : ∀ i, i < n.toNat → (i + 1) * 1 ≤ cs.size ∧ (-9223372036854775808 ≤ X i ∧ X i ≤ 9223372036854775807) ∧ (cs.toList.drop (i * 1)).take 1 = [.int .i64 (X i)] := by
        intro i hi
        obtain ⟨h1, h2⟩ := hrow i hi
        obtain ⟨u, us, hu, ⟨rfl, b1, b2⟩, e⟩ := h2 (.lit (i : Int)) rfl
        have e : us = [] := e
        subst e
        exact ⟨h1, ⟨b1, b2⟩, hu⟩
      let dl : List Int := (List.range n.toNat).map fun (i : Nat) => X i
      have hdl : dl.length = n.toNat := by simp [dl]
      have hlen : cs.toList.length = cs.size := rfl
      have hH : Go.Sort.Holds (Value.int .i64) w (r.β 0) 0 dl.toArray := by
        intro j hj
        have hj : j < n.toNat := by simpa [hdl] using hj
        obtain ⟨h1, _, h4⟩ := hrow j hj
        have hx : dl.toArray[j]! = X j := by
          rw [getElem!_pos dl.toArray j (by simp [hdl, hj])]
          simp [dl]
        have hc : cs[j]? = some (.int .i64 (dl.toArray[j]!)) := by
          rw [one_of _ _ (by rw [hlen]; omega)] at h4
          have h40 := congrArg (fun l : List Value => l[0]?) h4
          simp only [List.getElem?_cons_zero, Option.some.injEq] at h40
          have hj2 : j < cs.toList.length := by rw [hlen]; omega
          rw [← Array.getElem?_toList, hx, List.getElem?_eq_getElem hj2, ← getElem!_pos cs.toList j hj2, h40]
        refine ⟨?_, ?_⟩
        · simp only [World.cell?, hh, Nat.zero_add]
          exact hc
        · simp only [World.frozen?, hh]
          simp
      have hblk : r.β 0 < w.heap.size := (Array.getElem?_eq_some_iff.1 hh).1
      have hcon := Go.Proofs.Any.slices_Sort_int L (r.β 0) 0 c dl w hH hblk (by rw [hdl]; omega)
      have hxa : x = ⟨r.β 0, 0, none⟩ := by rw [hs, ho]; rfl
      rw [hdl, ← hxa] at hcon
      refine hcon.mono ?_
      rintro e w' ⟨rfl, q, os, rfl⟩
      refine tail _ ?_
      have hsl : dl.mergeSort (fun x y => decide (x ≤ y)) = (srtL X noY n).map (·.1) := ints_sorted X n
      have hln : (dl.mergeSort fun x y => decide (x ≤ y)).length = n.toNat := by rw [List.length_mergeSort, hdl]
      refine put_rel (enc := Value.int .i64) (c := .sym (.v fun _ => n) _) hm hh hsz ho ?_ _ ?_ q os ?_
      · omega
      · have := hrow (n.toNat - 1) (by omega)
        rw [List.size_toArray, hln]
        omega
      · intro i hi
        have hi : i < n.toNat := hi
        refine ⟨by rw [List.size_toArray, hln]; omega, fun e he => ?_⟩
        have hgi : ((dl.mergeSort fun x y => decide (x ≤ y))[i]?).getD 0 = srtX X noY n e.den := by
          unfold srtX
          rw [he, Int.toNat_natCast, hsl, List.getElem?_map, List.getD_eq_getElem?_getD]
          cases (srtL X noY n)[i]? <;> rfl
        have hb : -9223372036854775808 ≤ srtX X noY n e.den ∧ srtX X noY n e.den ≤ 9223372036854775807 := by
          have hmem : ((dl.mergeSort fun x y => decide (x ≤ y))[i]?).getD 0 ∈ dl := by
            rw [List.getElem?_eq_getElem (by rw [hln]; exact hi), Option.getD_some]
            exact List.mem_mergeSort.1 (List.getElem_mem _)
          rw [hgi] at hmem
          obtain ⟨k, hk, hkx⟩ := List.mem_map.1 hmem
          have := (hrow k (List.mem_range.1 hk)).2.1
          rw [hkx] at this
          exact this
        rw [one_of _ _ (by rw [List.length_map]; show _ ≤ (dl.mergeSort fun x y => decide (x ≤ y)).length; rw [hln]; omega)]
        have f0 : ((dl.mergeSort fun x y => decide (x ≤ y)).toArray.toList.map (Value.int .i64))[i]! = .int .i64 (srtX X noY n e.den) := by
          rw [getElem!_pos _ i (by rw [List.length_map]; show _ < (dl.mergeSort fun x y => decide (x ≤ y)).length; rw [hln]; exact hi), List.getElem_map, ← hgi, List.getElem?_eq_getElem (by rw [hln]; exact hi)]
          rfl
        rw [f0]
        exact ⟨_, _, rfl, ⟨rfl, hb.1, hb.2⟩, rfl⟩
    · exact absurd h1 (by simp [inBlk])
end Go.Sym
