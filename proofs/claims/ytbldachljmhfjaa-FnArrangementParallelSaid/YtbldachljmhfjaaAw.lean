/- Arrangement: the program's walk. -/
import Derived.Test.YtbldachljmhfjaaAr
set_option linter.unusedSimpArgs false
set_option linter.unusedVariables false
namespace Go.Proofs.Ytbldachljmhfjaa
open Go.RowKit Go.Maps Go.WideMaps
abbrev UU : DataW Unit := .lit (.bool true)
/-- The keys of a graph with those of a list. -/
noncomputable def keysOf (p : Pt) (l : List Pt) : List Lit := (l.filter fun q => !(decide (p.1 = q.1))).map (klOf p)
noncomputable def keysAll (l m : List Pt) : List Lit := l.flatMap fun p => keysOf p m
noncomputable def cntOf (k : List Lit) : Nat := Maps.size (setOf UU k)
noncomputable def partsOf (m : List Pt) : List Pt → Int
  | [] => 0
  | p :: r => ((cntOf (keysOf p m) : Int) + 1) + partsOf m r
abbrev TB : TypeId := 60
abbrev KB : TypeId := 57
abbrev EB : TypeId := 4
/-- A store into a map that the call owns; the numbers drawn stay. -/
theorem wpList_mapUpdate_d {H : Type} {P : Program} (w : World) {ops : Array Oper} {rest : List Oper} {o : Oper} {a : Act} {Q : Exit → Act → World → Prop}
    (hg : o.guard = none) (m x v : Operand) (t : TypeId) (hop : o.op = Op.mapUpdate t m x v)
    (k e : TypeId) (K : Keyed P k) (ht : P.underlying t = some (.map k e)) (R : Value → Option (DataW H × List MemPlace)) (b n : Nat) (D : DataW H)
    (hm : a.eval m = .map (some b)) (hown : w.ownsMap P k R b n D) (hn : n < maxLen) (key val : Value) (kl : Lit) (hx : a.eval x = key) (hv : a.eval v = val) (hkey : keyOf P k key = some kl)
    (d : DataW H) (ps : List MemPlace) (hval : R val = some (d, ps))
    (hK : ∀ w', w'.ownsMap P k R b (n + 1) (D.put kl d) → w.grownBy w' (some b) → w.drawn ≤ w'.drawn → wpList P ops Q rest (a.put o.dst undef) w') :
    wpList P ops Q (o :: rest) a w := by
  refine wpList_plain hg fun K' hK' => ?_
  obtain ⟨es, clock, hb, F, hs, hD⟩ := id hown
  obtain ⟨es', clock', hrun, F', hput, _⟩ := Maps.fit_store (R' := R) K ht hb F (Nat.lt_of_le_of_lt hs hn) (fun _ _ _ _ hz => hz) hkey hval
  obtain ⟨w', hrun', r1, r2⟩ := hown.update K ht hn hkey hval
  have hd : w.drawn ≤ w'.drawn := by
    rw [hrun] at hrun'
    injection hrun' with _ e
    rw [← e]
    exact Nat.le_refl _
  unfold Oper.wp
  simp [execOp, hop, hm, hx, hv, hrun', Result.andThen]
  exact hK' _ _ (hK w' r1 r2 hd)
theorem new_cell (w : World) (cs : Array Value) (t : TypeId) (j : Nat) : (w.alloc (.cells cs t)).cell? ⟨w.heap.size, j, none⟩ = cs[j]? := cell_of_row _ _ _ cs t (0, 0) (heap_alloc_new w _)
theorem kept_cell {w w' : World} {B b o : Nat} (hg : w.grownBy w' (some B)) (hb : b < w.heap.size) (hne : b ≠ B) : w'.cell? ⟨b, o, none⟩ = w.cell? ⟨b, o, none⟩ := World.cell?_of_block (a := ⟨b, o, none⟩) (hg.block b hb (by simpa using hne))
theorem kd_own {w w' : World} {B n : Nat} {D : DataW Unit} (h : w.ownsMap Try.prog KB (plainElem (H := Unit) Try.prog EB) B n D) (hk : Kd w w') : w'.ownsMap Try.prog KB (plainElem (H := Unit) Try.prog EB) B n D := h.kept hk.gr (by simp)
theorem keys_take {p q : Pt} {l : List Pt} {k : Nat} (h : l[k]? = some q) : keysOf p (l.take (k + 1)) = if p.1 = q.1 then keysOf p (l.take k) else keysOf p (l.take k) ++ [klOf p q] := by
  unfold keysOf
  rw [List.take_add_one, h, List.filter_append, List.map_append]
  by_cases hh : p.1 = q.1
  · rw [if_pos hh]
    simp [hh]
  · rw [if_neg hh]
    simp [hh]
theorem parts_append (m : List Pt) : ∀ a b : List Pt, partsOf m (a ++ b) = partsOf m a + partsOf m b
  | [], b => by rw [List.nil_append, partsOf]; omega
  | p :: r, b => by rw [List.cons_append, partsOf, partsOf, parts_append m r b]; omega
theorem parts_take {p : Pt} {l m : List Pt} {i : Nat} (h : l[i]? = some p) : partsOf m (l.take (i + 1)) = partsOf m (l.take i) + ((cntOf (keysOf p m) : Int) + 1) := by
  rw [List.take_add_one, h, parts_append]
  show _ + partsOf m [p] = _
  rw [partsOf, partsOf]; omega
theorem keysAll_take {p : Pt} {l m : List Pt} {i : Nat} (h : l[i]? = some p) : keysAll (l.take (i + 1)) m = keysAll (l.take i) m ++ keysOf p m := by
  unfold keysAll
  rw [List.take_add_one, h, List.flatMap_append]
  simp
set_option maxHeartbeats 2000000 in
theorem arr_any (A : Option Addr) (l : List Pt) (c : Nat) (w : World) (hl : l.length ≤ 8) (hb : ∀ p ∈ l, okG p) (hs : Pts w A l)
    (HG : Calls Try.prog 27 #[.slice A l.length c] w fun e w' => e = .returned (.bool true) ∧ Kd w w') :
    Calls Try.prog 11 #[.slice A l.length c] w fun e w' => e = .returned (.tuple #[.int .i64 (cntOf (keysAll l l)), .int .i64 (partsOf l l), .int .i64 (partsOf l l - cntOf (keysAll l l) + 1)]) ∧ Kd w w' ∧ cntOf (keysAll l l) ≤ 64 ∧ 0 ≤ partsOf l l ∧ partsOf l l ≤ 72 := by
  have hmm := @run_makeMap Try.prog
  generalize hn : l.length = n at *
  have HN := hide hn
  clear hn
  go_enter Try.func11, Try.ntmps11
  go_wp2_with fail
  refine HG.mono ?_
  rintro e w1 ⟨rfl, hk1⟩
  go_wp2_with fail
  go_loopg [6, 20] n (fun gg s6 s20 wr => ∃ (i : Nat) (z : Int), i ≤ n ∧ n - i ≤ gg ∧ s20 = .int .i64 i ∧ s6 = .int .i64 z ∧ (0 ≤ z ∧ z ≤ 9 * i) ∧ Hid (z = partsOf l (l.take i)) ∧ Hid (wr.ownsMap Try.prog KB (plainElem (H := Unit) Try.prog EB) w1.heap.size (i * 8) (setOf UU (keysAll (l.take i) l))) ∧ Hid (Kd w wr))
  case atStart => exact ⟨0, 0, Nat.zero_le _, by omega, rfl, rfl, by omega, rfl, World.ownsMap_made _ _ _ _, hk1.alloc _⟩
  case round =>
    obtain ⟨i, z, hi, hg, rfl, rfl, hz, hp, hV, hk⟩ := hrel
    by_cases hlt : i < n
    · obtain ⟨p, hpi⟩ : ∃ q, l[i]? = some q := ⟨l[i]'(by have := HN.out; omega), List.getElem?_eq_getElem _⟩
      have hltz : (i : Int) < (n : Int) := by omega
      obtain ⟨b, off, rfl, hbw, c0, c1⟩ := (hs.kd hk.out) i p hpi
      have HP := hide hpi
      clear hpi
      obtain ⟨px, py⟩ := p
      simp only at c0 c1
      have hVlt := hV.out.lt
      have hw1 := hk1.gr.size
      have HK0 := hide hk.out
      go_wp2_with fail
      generalize hG : wr.heap.size = G at *
      go_loopg [27] n (fun gg s27 wv => ∃ k : Nat, k ≤ n ∧ n - k ≤ gg ∧ s27 = .int .i64 k ∧ wv.cell? ⟨G, 0, none⟩ = some (.int .i64 px) ∧ wv.cell? ⟨G, 1, none⟩ = some (.int .i64 py) ∧ G + 1 < wv.heap.size ∧ Hid (wv.ownsMap Try.prog KB (plainElem (H := Unit) Try.prog EB) (G + 1) k (setOf UU (keysOf (px, py) (l.take k)))) ∧ Hid (wv.ownsMap Try.prog KB (plainElem (H := Unit) Try.prog EB) w1.heap.size (i * 8 + k) (setOf UU (keysAll (l.take i) l ++ keysOf (px, py) (l.take k)))) ∧ Hid (Kd w wv))
      case atStart =>
        have e1 : (wr.alloc (.cells #[.int .i64 px, .int .i64 py] 35)).heap.size = G + 1 := by simp [hG]
        have hf : Kd wr ((wr.alloc (.cells #[.int .i64 px, .int .i64 py] 35)).alloc (.map #[] 0)) := ((Kd.refl wr).alloc _).alloc _
        have n0 := new_cell wr #[.int .i64 px, .int .i64 py] 35 0
        have n1 := new_cell wr #[.int .i64 px, .int .i64 py] 35 1
        rw [hG] at n0 n1
        have ho := World.ownsMap_made (H := Unit) (wr.alloc (.cells #[.int .i64 px, .int .i64 py] 35)) Try.prog KB (plainElem (H := Unit) Try.prog EB)
        rw [e1] at ho
        refine ⟨0, Nat.zero_le _, by omega, rfl, (World.cell?_of_block (a := ⟨G, 0, none⟩) (Below.heap_alloc _ _ G (by omega))).trans n0, (World.cell?_of_block (a := ⟨G, 1, none⟩) (Below.heap_alloc _ _ G (by omega))).trans n1, ?_, ho, ?_, (show Hid (Kd w _) from HK0.out.trans hf)⟩
        · have e2 : ((wr.alloc (.cells #[.int .i64 px, .int .i64 py] 35)).alloc (.map #[] 0)).heap.size = G + 1 + 1 := by simp [hG]
          omega
        · show World.ownsMap _ _ _ _ _ _ (setOf UU (keysAll (l.take i) l ++ []))
          rw [List.append_nil]
          exact kd_own hV.out hf
      case round =>
        obtain ⟨k, hk2, hg2, rfl, g0, g1, hGs, hO, hV2, hkv⟩ := hrel
        by_cases hlt2 : k < n
        · obtain ⟨q, hqi⟩ : ∃ q, l[k]? = some q := ⟨l[k]'(by have := HN.out; omega), List.getElem?_eq_getElem _⟩
          have hltz2 : (k : Int) < (n : Int) := by omega
          obtain ⟨b', off', e', hbw', d0, d1⟩ := (hs.kd hkv.out) k q hqi
          cases e'
          have HQ := hide hqi
          clear hqi
          obtain ⟨qx, qy⟩ := q
          simp only at d0 d1
          have g0' : ∀ o, (wr.alloc o).cell? ⟨G, 0, none⟩ = some (.int .i64 px) := fun o => (World.cell?_of_block (a := ⟨G, 0, none⟩) (Below.heap_alloc wr o G (by omega))).trans g0
          have g1' : ∀ o, (wr.alloc o).cell? ⟨G, 1, none⟩ = some (.int .i64 py) := fun o => (World.cell?_of_block (a := ⟨G, 1, none⟩) (Below.heap_alloc wr o G (by omega))).trans g1
          have HM := hide fun W => meet_calls (p := (px, py)) (q := (qx, qy)) (hb _ (List.mem_of_getElem? HP.out)) (hb _ (List.mem_of_getElem? HQ.out)) W
          simp only at HM
          have HKy := key_ok (p := (px, py)) (q := (qx, qy)) (hb _ (List.mem_of_getElem? HP.out)) (hb _ (List.mem_of_getElem? HQ.out))
          have hkt := keys_take (p := (px, py)) HQ.out
          simp only at hkt
          obtain ⟨a, bb, cc, dd, hk4⟩ : ∃ a bb cc dd : Int, key4 (px, py) (qx, qy) = .agg #[.int .i64 a, .int .i64 bb, .int .i64 cc, .int .i64 dd] := ⟨_, _, _, _, rfl⟩
          rw [hk4] at HM HKy
          clear hk4
          generalize klOf (px, py) (qx, qy) = kl at HKy hkt
          by_cases hpq : px = qx
          · rw [if_pos hpq] at hkt
            rw [decide_eq_true hpq] at HM
            clear hpq
            have HKT := hide hkt
            clear hkt
            go_wp2_with fail
            refine (HM.out _).mono ?_
            rintro e w2 ⟨rfl, hk2'⟩
            go_wp2_with fail
            have hf : Kd wr (w2.alloc (.cells #[.int .i64 a, .int .i64 bb, .int .i64 cc, .int .i64 dd] 57)) := (((Kd.refl wr).alloc _).trans hk2').alloc _
            go_roundg (n - (k + 1))
            case measure => omega
            case rel =>
              refine ⟨k + 1, by omega, by omega, by go_num, (World.cell?_of_block (a := ⟨G, 0, none⟩) (hf.gr.block G (by omega) (by simp))).trans g0, (World.cell?_of_block (a := ⟨G, 1, none⟩) (hf.gr.block G (by omega) (by simp))).trans g1, Nat.lt_of_lt_of_le hGs hf.gr.size, ?_, ?_, (show Hid (Kd w _) from hkv.out.trans hf)⟩
              · rw [HKT.out]
                exact (kd_own hO.out hf).mono (by omega)
              · rw [HKT.out]
                exact (kd_own hV2.out hf).mono (by omega)
          · rw [if_neg hpq] at hkt
            rw [decide_eq_false hpq] at HM
            clear hpq
            have HKT := hide hkt
            clear hkt
            go_wp2_with fail
            refine (HM.out _).mono ?_
            rintro e w2 ⟨rfl, hk2'⟩
            have hf2 : Kd wr w2 := ((Kd.refl wr).alloc _).trans hk2'
            have HO2 := hide fun o => kd_own hO.out (hf2.alloc o)
            have HV2 := hide fun o => kd_own hV2.out (hf2.alloc o)
            have hs2 := hf2.gr.size
            go_wp2_with (first
              | (at_mapUpdate; refine wpList_mapUpdate_d _ rfl _ _ _ TB rfl KB EB key_law Try.underlying60 (plainElem (H := Unit) Try.prog EB) (G + 1) k _ rfl (HO2.out _) (by unfold maxLen; omega) _ _ kl rfl rfl HKy _ [] (plainElem_bool Try.underlying4 true) ?_; intro w3 hO3 hg3 hd3; have m0 := (kept_cell (o := 0) hg3 (b := w2.heap.size) (by simp) (by omega)).trans (new_cell w2 _ _ 0); have m1 := (kept_cell (o := 1) hg3 (b := w2.heap.size) (by simp) (by omega)).trans (new_cell w2 _ _ 1); have m2 := (kept_cell (o := 2) hg3 (b := w2.heap.size) (by simp) (by omega)).trans (new_cell w2 _ _ 2); have m3 := (kept_cell (o := 3) hg3 (b := w2.heap.size) (by simp) (by omega)).trans (new_cell w2 _ _ 3); simp only [List.getElem?_toArray, List.getElem?_cons_zero, List.getElem?_cons_succ] at m0 m1 m2 m3)
              | (at_mapUpdate; refine wpList_mapUpdate_d _ rfl _ _ _ TB rfl KB EB key_law Try.underlying60 (plainElem (H := Unit) Try.prog EB) w1.heap.size (i * 8 + k) _ rfl ((HV2.out _).kept hg3 (by simp; omega)) (by unfold maxLen; omega) _ _ kl rfl rfl HKy _ [] (plainElem_bool Try.underlying4 true) ?_; intro w4 hV4 hg4 hd4)
              | fail)
            have hgw : Kd w w4 := ((hkv.out.trans (hf2.alloc _)).row hg3 (by omega) hd3).row hg4 (by omega) hd4
            have s3 : (w2.alloc (.cells #[.int .i64 a, .int .i64 bb, .int .i64 cc, .int .i64 dd] 57)).heap.size ≤ w3.heap.size := hg3.size
            have s2 := (hf2.alloc (.cells #[.int .i64 a, .int .i64 bb, .int .i64 cc, .int .i64 dd] 57)).gr.size
            have s4 := hg4.size
            have old : ∀ o, w4.cell? ⟨G, o, none⟩ = wr.cell? ⟨G, o, none⟩ := fun o => ((kept_cell hg4 (by omega) (by omega)).trans (kept_cell hg3 (by omega) (by omega))).trans (World.cell?_of_block (a := ⟨G, o, none⟩) ((hf2.alloc _).gr.block G (by omega) (by simp)))
            go_roundg (n - (k + 1))
            case measure => omega
            case rel =>
              refine ⟨k + 1, by omega, by omega, by go_num, (old 0).trans g0, (old 1).trans g1, by omega, ?_, ?_, hgw⟩
              · rw [HKT.out, setOf_snoc]
                exact hO3.kept hg4 (by simp; omega)
              · rw [HKT.out, ← List.append_assoc, setOf_snoc]
                exact hV4
        · have hk3 : k = n := by omega
          subst hk3
          have hltz2 : ¬ (k : Int) < (k : Int) := by omega
          have hsz := hO.out.size_le
          have hlk : l.take k = l := List.take_of_length_le (by have := HN.out; omega)
          have hsc : cntOf (keysOf (px, py) l) = Maps.size (setOf UU (keysOf (px, py) (l.take k))) := by rw [hlk]; rfl
          have HO2 := hO.out
          generalize setOf UU (keysOf (px, py) (l.take k)) = D at hsz hsc HO2
          have hszz : (0 : Int) ≤ (Maps.size D : Int) ∧ (Maps.size D : Int) ≤ 8 := by omega
          go_wp2_with (first
            | (at_len; refine wpList_len_own _ rfl _ TB rfl KB EB Try.underlying60 (plainElem (H := Unit) Try.prog EB) (G + 1) k D rfl HO2 ?_)
            | fail)
          have hpt := parts_take (m := l) HP.out
          have hka := keysAll_take (m := l) HP.out
          have hV3 := hV2.out
          rw [hlk] at hV3
          go_roundg (k - (i + 1))
          case measure => omega
          case rel =>
            refine ⟨i + 1, z + ((Maps.size D : Int) + 1), by omega, by omega, by go_num, rfl, by omega, ?_, ?_, hkv⟩
            · show _ = _
              rw [hpt, ← hp.out, hsc]
            · rw [hka]
              exact World.ownsMap.mono hV3 (by omega)
    · have hk3 : i = n := by omega
      subst hk3
      have hltz2 : ¬ (i : Int) < (i : Int) := by omega
      have hlk : l.take i = l := List.take_of_length_le (by have := HN.out; omega)
      have HVo := hV.out
      rw [hlk] at HVo
      have hp2 := hp.out
      rw [hlk] at hp2
      have hsz := HVo.size_le
      have hsc : cntOf (keysAll l l) = Maps.size (setOf UU (keysAll l l)) := rfl
      generalize setOf UU (keysAll l l) = D at hsz hsc HVo
      have hszz : (0 : Int) ≤ (Maps.size D : Int) ∧ (Maps.size D : Int) ≤ 64 := by omega
      go_wp2_with (first
        | (at_len; refine wpList_len_own _ rfl _ TB rfl KB EB Try.underlying60 (plainElem (H := Unit) Try.prog EB) w1.heap.size (i * 8) D rfl HVo ?_)
        | fail)
      refine bodyPost_ret (v := .tuple #[.int .i64 (Maps.size D), .int .i64 z, .int .i64 (z - Maps.size D + 1)]) (by simp [results, Try.results11, go_sem, hp2]) rfl ⟨?_, hk, by omega, by omega, by omega⟩
      rw [hp2]
end Go.Proofs.Ytbldachljmhfjaa
