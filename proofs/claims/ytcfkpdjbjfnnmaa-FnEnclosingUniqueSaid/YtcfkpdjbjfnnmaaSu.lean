/- The search of the program: what it keeps, and its walk. -/
import Derived.Test.YtcfkpdjbjfnnmaaSz
set_option linter.unusedSimpArgs false
set_option linter.unusedVariables false
namespace Go.Proofs.Ytcfkpdjbjfnnmaa
open Go.RowKit
abbrev TP : TypeId := 27
abbrev TF : TypeId := 81
def il (l : List Int) : List Value := l.map (.int .i64)
/-- The closure, by what it captures. -/
def fromV (bs bl bf : Nat) : Value := .func (.func 71) #[] #[.pointer (some ⟨bs, 0, none⟩), .pointer (some ⟨bl, 0, none⟩), .pointer (some ⟨bf, 0, none⟩)]
/-- The search's variables. -/
structure FS (w0 w : World) (bs bl bf : Nat) (A : Option Addr) (n c : Nat) (l : List Int) (g cap : Nat) : Prop where
  kd : Kd w0 w
  lo : w0.heap.size ≤ bs ∧ w0.heap.size ≤ bl ∧ w0.heap.size ≤ bf
  ne : bs ≠ bl ∧ bs ≠ bf ∧ bl ≠ bf ∧ g ≠ bs ∧ g ≠ bl ∧ g ≠ bf
  bS : w.heap[bs]? = some (.cells #[.slice (some ⟨g, 0, none⟩) l.length cap] TS (0, 0))
  bL : w.heap[bl]? = some (.cells #[.slice A n c] TP (0, 0))
  bF : w.heap[bf]? = some (.cells #[fromV bs bl bf] TF (0, 0))
  own : w.ownsRow w0.heap.size TI 1 (.slice (some ⟨g, 0, none⟩) l.length cap) l.length (il l)
theorem cell_blk {w : World} {b : Nat} {v : Value} {t : TypeId} (h : w.heap[b]? = some (.cells #[v] t (0, 0))) : w.cell? ⟨b, 0, none⟩ = some v ∧ w.frozen? ⟨b, 0, none⟩ = false := by
  constructor
  · rw [cell_of_row w b 0 _ t (0, 0) h]; rfl
  · simp [World.frozen?, h]
theorem FS.keep {w0 w w' : World} {bs bl bf : Nat} {A : Option Addr} {n c : Nat} {l : List Int} {g cap : Nat} (h : FS w0 w bs bl bf A n c l g cap) (hk : Kd w w') : FS w0 w' bs bl bf A n c l g cap :=
  ⟨h.kd.trans hk, h.lo, h.ne, hk.heap h.bS, hk.heap h.bL, hk.heap h.bF, h.own.kept hk.gr (.inr (by simp [Value.ownBlock]))⟩
theorem blk_lt {w : World} {b : Nat} {o : Obj} (h : w.heap[b]? = some o) : b < w.heap.size := (Array.getElem?_eq_some_iff.1 h).1
theorem own_row {ρ : Go.Sym.Rho} {w : World} {wr : Bool} {l : List Int} {base B cap id : Nat} (h : w.ownsRow base TI 1 (.slice (some ⟨B, 0, none⟩) l.length cap) l.length (il l)) (hl : ∀ x ∈ l, -9223372036854775808 ≤ x ∧ x ≤ 9223372036854775807) (h1 : ρ.β id = B) (h2 : ρ.o id = 0) (h3 : ρ.γ id = cap) :
    Go.Sym.MR ρ w id (IBw wr (lA l) l.length) := by
  rcases h.2 with ⟨e, _⟩ | ⟨g0, cap0, cur, e, hbg, hg, hnc, hcm, hcs, htake⟩
  · cases e
  cases e
  refine ⟨Nat.one_pos, .inr (.inl ⟨h2, cur, by rw [h1]; exact hg, by rw [h3]; omega, fun i hi => ?_⟩)⟩
  have hi : i < ((l.length : Int)).toNat := hi
  have hi : i < l.length := by omega
  refine ⟨by show (i + 1) * 1 ≤ cur.size; omega, fun e he => ?_⟩
  have hx := hl _ (List.getElem_mem hi)
  have e4 : lA l e.den = l[i] := by
    unfold lA
    rw [he, List.getD_eq_getElem?_getD, show ((i : Int)).toNat = i by omega, List.getElem?_eq_getElem hi]
    rfl
  have hcl : i < cur.toList.length := by rw [Array.length_toList]; omega
  have e6 : cur.toList[i] = .int .i64 l[i] := by
    have h9 := congrArg (fun q : List Value => q[i]?) htake
    simp only [List.getElem?_take, Nat.mul_one, if_pos hi, il, List.getElem?_map, List.getElem?_eq_getElem hi, List.getElem?_eq_getElem hcl] at h9
    exact Option.some.inj h9
  have e5 : (cur.toList.drop (i * 1)).take 1 = [.int .i64 l[i]] := by
    rw [Nat.mul_one, List.drop_eq_getElem_cons hcl, e6]
    rfl
  show Go.Sym.VRs ρ _ ((cur.toList.drop (i * 1)).take 1)
  rw [e5]
  refine ⟨_, _, rfl, ⟨?_, ?_⟩, rfl⟩
  · show Value.int .i64 l[i] = .int .i64 (lA l e.den)
    rw [e4]
  · show _ ≤ lA l e.den ∧ lA l e.den ≤ _
    rw [e4]; exact hx
/-- A call that reads a list of points and a list of indices that grows. -/
theorem two_calls2 {f : FuncId} {b : Bool} {X Y : Int → Int} {n : Int} {l : List Int}
    (h : Go.Sym.RunsTo Try.prog f [.sl 0 2 (.lit 0) (.v fun _ => n) 1048576, .sl 1 1 (.lit 0) (.v fun _ => (l.length : Int)) 1048576] [some (PBw false (-1000) 1000 X Y n), some (IBw false (lA l) l.length)] (.bool (.v fun _ => b)) [some (PBw false (-1000) 1000 X Y n), some (IBw false (lA l) l.length)])
    {ρ : Go.Sym.Rho} {w W : World} {wr : Bool} {a : Option Addr} {c : Nat} (hM : Go.Sym.MR ρ w 0 (PBw wr (-9223372036854775808) 9223372036854775807 X Y n)) (hn : 0 ≤ n ∧ n ≤ 1048576) (hnc : n.toNat ≤ c) (hcm : c ≤ maxLen) (hs : Go.Sym.SlAt ρ 0 2 0 c a)
    (hX : ∀ i, 0 ≤ i → i < n → -1000 ≤ X i ∧ X i ≤ 1000 ∧ -1000 ≤ Y i ∧ Y i ≤ 1000) (hk : Kd w W) {base B cap : Nat} (hB : W.ownsRow base TI 1 (.slice (some ⟨B, 0, none⟩) l.length cap) l.length (il l)) (hl : l.length ≤ 3 ∧ ∀ x ∈ l, 0 ≤ x ∧ x < n) :
    Calls Try.prog f #[.slice a n.toNat c, .slice (some ⟨B, 0, none⟩) l.length cap] W fun e w' => e = .returned (.bool b) ∧ Kd W w' := by
  have hM2 : Go.Sym.MR ρ W 0 _ := hM.keep (hk.fw _)
  have hcs : c = 0 ∨ c * 2 ≤ ρ.γ 0 := by
    cases a with
    | none => exact .inl hs
    | some x => exact hs.imp id fun h => by have := h.2; omega
  have hcap : l.length ≤ cap ∧ cap ≤ maxLen := by
    rcases hB.2 with ⟨e, _⟩ | ⟨g0, cap0, cur, e, hbg, hg, hnc, hcm, hcs, htake⟩
    · cases e
    · cases e; exact ⟨hnc, hcm⟩
  have hb2 : ∀ i b, Go.Sym.blkOf [some (PBw false (-1000) 1000 X Y n), some (IBw false (lA l) l.length)] i = some b → (i = 0 ∧ b = PBw false (-1000) 1000 X Y n) ∨ (i = 1 ∧ b = IBw false (lA l) l.length) := by
    intro i b hb
    match i, hb with
    | 0, hb => exact .inl ⟨rfl, by simpa [Go.Sym.blkOf] using hb.symm⟩
    | 1, hb => exact .inr ⟨rfl, by simpa [Go.Sym.blkOf] using hb.symm⟩
    | i + 2, hb => simp [Go.Sym.blkOf] at hb
  have ro : ∀ i b, Go.Sym.blkOf [some (PBw false (-1000) 1000 X Y n), some (IBw false (lA l) l.length)] i = some b → b.wr = false := by
    intro i b hb
    rcases hb2 i b hb with ⟨_, rfl⟩ | ⟨_, rfl⟩ <;> rfl
  refine (h W (fun _ => False) ⟨fun i => if i = 0 then ρ.β 0 else B, fun i => if i = 0 then c * 2 else cap, fun i => i < 2, fun i => if i = 0 then ρ.o 0 else 0⟩ [.slice a n.toNat c, .slice (some ⟨B, 0, none⟩) l.length cap] ?_ (fun id hi => hi) ?_).2.mono ?_
  · refine ⟨fun i b hb => ?_, fun i j b c hb hc hne _ _ hw => ?_, fun i b hb hw _ => ?_, Go.Sym.FrameW.refl _ _⟩
    · rcases hb2 i b hb with ⟨rfl, rfl⟩ | ⟨rfl, rfl⟩
      · exact ⟨Nat.zero_lt_two, pt_read hM2 hnc hcs hX rfl rfl rfl⟩
      · exact ⟨Nat.one_lt_two, own_row hB (fun x hx => by have := hl.2 x hx; omega) rfl rfl rfl⟩
    · exfalso
      rcases hw with hw | hw
      · rw [ro i b hb] at hw; cases hw
      · rw [ro j c hc] at hw; cases hw
    · rw [ro i b hb] at hw; cases hw
  · refine ⟨_, _, rfl, ⟨Nat.zero_lt_two, Int.le_refl _, hn.1, hn.2, a, c, rfl, hnc, hcm, ?_⟩, _, _, rfl, ⟨Nat.one_lt_two, Int.le_refl _, by show (0 : Int) ≤ l.length; omega, by show (l.length : Int) ≤ 1048576; omega, some ⟨B, 0, none⟩, cap, rfl, by show ((l.length : Int)).toNat ≤ _; omega, hcap.2, ?_⟩, rfl⟩
    · cases a with
      | none => exact hs
      | some x =>
        refine hs.imp id fun h => ⟨?_, ?_⟩
        · rw [h.1]; rfl
        · show (0 + c) * 2 ≤ c * 2
          omega
    · exact .inr ⟨rfl, by show (0 + cap) * 1 ≤ cap; omega⟩
  · rintro e w' ⟨r, m', ρ', v, rfl, ⟨rfl, rfl⟩, hrv, hMM, _⟩
    have hrv : v = .bool b := hrv
    subst hrv
    exact ⟨rfl, Kd.fr hMM.fr⟩
theorem info_ti : ∃ i z, Try.prog.info? TI = some i ∧ i.zero = some z ∧ i.size = 1 ∧ i.bytes = 8 ∧ z.cells.size = 1 := by
  obtain ⟨i, h1, h2, h3, h4⟩ := info_parts (P := Try.prog) (e := TI) (z := .int .i64 0) (size := 1) (bytes := 8) (by kernel_rfl)
  exact ⟨i, _, h1, h2, h3, h4, rfl⟩
/-- A number put behind numbers that the call owns. -/
theorem run_append_int (w : World) (ty : TypeId) (base g n cap : Nat) (xs : List Value) (hown : w.ownsRow base TI 1 (.slice (some ⟨g, 0, none⟩) n cap) n xs) (ad : Addr) (m c : Nat) (news : List Value)
    (hl : news.length = m) (hnews : ∀ j u, news[j]? = some u → w.cell? (ad.add j) = some u) (h1 : ∀ u ∈ news, u.oneCell' = true) (hb : n + m ≤ 1000000) (hbase : base ≤ w.heap.size) :
    ∃ g' cap' w', (Builtin.append_ #[TS, TS] ty #[.slice (some ⟨g, 0, none⟩) n cap, .slice (some ad) m c]).run Try.prog w = .ok (.slice (some ⟨g', 0, none⟩) (n + m) cap') w' ∧
      w'.ownsRow base TI 1 (.slice (some ⟨g', 0, none⟩) (n + m) cap') (n + m) (xs ++ news) ∧ w.grownBy w' (some g) ∧ (g' = g ∨ g' = w.heap.size) ∧ w.drawn ≤ w'.drawn := by
  obtain ⟨i, z, hi, hz, hs, hby, hzs⟩ := info_ti
  obtain ⟨v', w', hr, k2, k3, k4, k5⟩ := run_append_own_at (P := Try.prog) w base TS ty TI i z 1 8 Try.underlying34 hi hz hs hby hzs (by omega) _ n xs hown ad m c news (by omega) hnews h1 (by unfold maxLen; omega) (by omega) hbase
  obtain ⟨g', cap', rfl⟩ : ∃ g' cap', v' = .slice (some ⟨g', 0, none⟩) (n + m) cap' := by
    rcases k2.2 with ⟨e, _⟩ | ⟨g', cap', _, e, _⟩
    · have := (k4.1 e).1
      cases this
    · exact ⟨g', cap', e⟩
  refine ⟨g', cap', w', hr, k2, k3, ?_, ?_⟩
  · simpa [Value.ownBlock] using k5
  · rcases hown.2 with ⟨e, _⟩ | ⟨g0, cap0, cur, e, hbg, hg, hnc, hcm, hcs, htake⟩
    · cases e
    · cases e
      by_cases hroom : n + m ≤ cap
      · have hfit : n * i.size + news.length ≤ cur.size := by rw [hs]; omega
        have hr2 := run_append_room (P := Try.prog) w TS ty TI i Try.underlying34 hi g n cap cur hg ad m c news (by rw [hs]; omega) hnews h1 hroom hfit
        rw [hr] at hr2
        injection hr2 with _ e
        rw [e]
        exact Nat.le_refl _
      · have holds : ∀ j u, xs[j]? = some u → w.cell? ((⟨g, 0, none⟩ : Addr).add j) = some u := hown.cells (g := g) rfl
        have hr2 := run_append_grow (P := Try.prog) w TS ty TI i z Try.underlying34 hi hz ⟨g, 0, none⟩ n cap xs (by rw [hs]; exact hown.1) holds ad m c news (by rw [hs]; omega) hnews (by omega) (by omega) (growslice_fits (by omega) (by rw [hby]; omega))
        rw [hr] at hr2
        injection hr2 with _ e
        rw [e]
        exact Nat.le_succ _
theorem wpList_append_int {ops : Array Oper} {rest : List Oper} {o : Oper} {a : Act} {Q : Exit → Act → World → Prop} (w : World) (hgd : o.guard = none) (s x : Operand)
    (ho : o.op = .call { callee := .builtin .append, args := #[s, x], argTypes := #[TS, TS] }) (base g n cap : Nat) (xs : List Value) (hs : a.eval s = .slice (some ⟨g, 0, none⟩) n cap) (hown : w.ownsRow base TI 1 (.slice (some ⟨g, 0, none⟩) n cap) n xs)
    (ad : Addr) (m c : Nat) (news : List Value) (hx : a.eval x = .slice (some ad) m c)
    (hl : news.length = m) (hnews : ∀ j u, news[j]? = some u → w.cell? (ad.add j) = some u) (h1 : ∀ u ∈ news, u.oneCell' = true) (hb : n + m ≤ 1000000) (hbase : base ≤ w.heap.size)
    (h : ∀ g' cap' w', w'.ownsRow base TI 1 (.slice (some ⟨g', 0, none⟩) (n + m) cap') (n + m) (xs ++ news) → w.grownBy w' (some g) → (g' = g ∨ g' = w.heap.size) → w.drawn ≤ w'.drawn → wpList Try.prog ops Q rest (a.put o.dst (.slice (some ⟨g', 0, none⟩) (n + m) cap')) w') :
    wpList Try.prog ops Q (o :: rest) a w := by
  refine wpList_plain hgd fun K hK => ?_
  obtain ⟨g', cap', w', hr, h2, h3, h4, h5⟩ := run_append_int w o.type base g n cap xs hown ad m c news hl hnews h1 hb hbase
  unfold Oper.wp execOp
  simp only [ho, resolve, invoke, builtin, Sem.run_bind, Sem.run_pure, Result.andThen_ok, List.map_toArray, List.map_cons, List.map_nil, hs, hx, hr]
  exact hK _ _ (h g' cap' w' h2 h3 h4 h5)
theorem one_int (k : Int) : ∀ u ∈ [Value.int .i64 k], u.oneCell' = true := by
  intro u hu
  rw [List.mem_singleton.1 hu]
  rfl
end Go.Proofs.Ytcfkpdjbjfnnmaa
