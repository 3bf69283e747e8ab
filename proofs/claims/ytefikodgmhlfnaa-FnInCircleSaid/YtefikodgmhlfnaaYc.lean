/- A reckoning of code by values known in part: operations and calls. -/
import Derived.Test.YtefikodgmhlfnaaYb
set_option linter.unusedSimpArgs false
set_option linter.unusedVariables false
namespace Go.Sym


def StepOK (P : Program) (w0 : World) (F : Nat → Prop) (ρ : Rho) (s : S) (w : World) (ev : Operand → Value) (o : Oper) (v : AV) (upd : List (Nat × Option Blk)) (fg : Option Nat) (fresh : Nat) : Prop :=
  ∃ nx w' ρ' u, (execOp ev o).run P w = .ok nx w' ∧ (nx = .value u ∨ (nx = .skip ∧ u = undef)) ∧ ρ.le ρ' fg ∧ MRel w0 F ρ' ((s.fg fg).upd upd).mem w' ∧ VR ρ' v u ∧ (∀ id, ρ'.al id → ρ.al id ∨ (id = fresh ∧ ∃ b, (fresh, b) ∈ upd))
theorem StepOK.same {P : Program} {w0 : World} {F : Nat → Prop} {ρ : Rho} {s : S} {w : World} {ev : Operand → Value} {o : Oper} {v : AV} {upd : List (Nat × Option Blk)} {fg : Option Nat} {fresh : Nat} (hm : MRel w0 F ρ s.mem w) (h1 : upd = []) (h2 : fg = none) {u : Value}
    (hr : (execOp ev o).run P w = .ok (.value u) w) (hv : VR ρ v u) : StepOK P w0 F ρ s w ev o v upd fg fresh := by
  subst h1 h2
  exact ⟨_, w, ρ, u, hr, .inl rfl, Rho.le_refl ρ none, hm, hv, fun id h => .inl h⟩
theorem StepOK.new {P : Program} {w0 : World} {F : Nat → Prop} {ρ : Rho} {s : S} {w : World} {ev : Operand → Value} {o : Oper} {v : AV} {fresh : Nat} (hm : MRel w0 F ρ s.mem w) (hf : ¬ ρ.al fresh) (b : Blk) (cs : Array Value) (hsz : 0 < b.sz)
    (hrow : ∀ i, i < b.con.num.den.toNat → (i + 1) * b.sz ≤ cs.size ∧ RowR ρ b.con i ((cs.toList.drop (i * b.sz)).take b.sz)) {u : Value}
    (hr : (execOp ev o).run P w = .ok (.value u) (w.alloc (.cells cs b.ty))) (hv : VR (ρ.with fresh w.heap.size cs.size) v u) : StepOK P w0 F ρ s w ev o v [(fresh, some b)] none fresh := by
  refine ⟨_, _, ρ.with fresh w.heap.size cs.size, u, hr, .inl rfl, ρ.with_le fresh _ _ none (.inl hf), (newRow_sound (P := P) hm hf b cs hsz hrow).2, hv, fun id h => ?_⟩
  rcases h with h | h
  · exact .inl h
  · exact .inr ⟨h, some b, List.mem_cons_self⟩
theorem VR.ptr_new {ρ : Rho} {fresh b n sz : Nat} : VR (ρ.with fresh b n) (.ptr fresh sz (.lit 0) 0) (.pointer (some ⟨b, 0, none⟩)) :=
  ⟨.inr rfl, by simp [E.den], by simp [Rho.with, E.den]⟩
theorem VR.sl_new {ρ : Rho} {fresh b n sz : Nat} {len : E} {hi : Int} {l c : Nat} (h0 : 0 ≤ len.den) (hl : l = len.den.toNat) (hh : len.den ≤ hi) (hc : l ≤ c) (hm : c ≤ maxLen) (hn : c * sz ≤ n) :
    VR (ρ.with fresh b n) (.sl fresh sz (.lit 0) len hi) (.slice (some ⟨b, 0, none⟩) l c) := by
  subst hl
  exact ⟨.inr rfl, by simp [E.den], h0, hh, some ⟨b, 0, none⟩, c, rfl, hc, hm, .inr ⟨by simp [Rho.with, E.den], by simpa [Rho.with, E.den] using hn⟩⟩

theorem mapM_sizes {P : Program} (w : World) (g : Field → Nat) : ∀ (l : List Field), (∀ f ∈ l, (sizeOf f.type).run P w = .ok (g f) w) → (l.mapM fun (f : Field) => (do pure (f.offset, ← sizeOf f.type) : Sem (Nat × Nat))).run P w = .ok (l.map fun (f : Field) => (f.offset, g f)) w
  | [], _ => by simp
  | f :: l, h => by
    have ih := mapM_sizes w g l fun x hx => h x (by simp [hx])
    rw [List.mapM_cons, Sem.run_bind, Sem.run_bind, h f (by simp), Result.andThen_ok, Sem.run_pure, Result.andThen_ok, Sem.run_bind, ih]
    rfl
theorem slAt_pos {ρ : Rho} {id sz r c : Nat} {a : Option Addr} (h : SlAt ρ id sz r c a) (hc : 0 < c) : a = some ⟨ρ.β id, ρ.o id + r * sz, none⟩ ∧ (r + c) * sz ≤ ρ.γ id := by
  cases a with
  | none => have h : c = 0 := h; omega
  | some a =>
    obtain ⟨rfl, h2⟩ := h.resolve_left (by omega)
    exact ⟨rfl, h2⟩
theorem addr_add (b o n : Nat) : (⟨b, o, none⟩ : Addr).add n = ⟨b, o + n, none⟩ := by unfold Addr.add; split <;> simp_all
theorem maxA_sound {P : Program} {ρ : Rho} {w : World} {x y z : AV} {u v : Value} (hx : VR ρ x u) (hy : VR ρ y v) (h : maxA x y = some z) : ∃ t, (Builtin.max2 u v).run P w = .ok t w ∧ VR ρ z t := by
  unfold maxA at h
  split at h
  · split at h
    · rename_i k a la ha k' b lb hb hk
      subst hk
      cases h
      obtain ⟨rfl, h1, h2⟩ := hx
      obtain ⟨rfl, h3, h4⟩ := hy
      refine ⟨.int k (if b.den > a.den then b.den else a.den), rfl, rfl, ?_, ?_⟩ <;> simp only [E.den] <;> split <;> omega
    · cases h
  · cases h
theorem minA_sound {P : Program} {ρ : Rho} {w : World} {x y z : AV} {u v : Value} (hx : VR ρ x u) (hy : VR ρ y v) (h : minA x y = some z) : ∃ t, (Builtin.min2 u v).run P w = .ok t w ∧ VR ρ z t := by
  unfold minA at h
  split at h
  · split at h
    · rename_i k a la ha k' b lb hb hk
      subst hk
      cases h
      obtain ⟨rfl, h1, h2⟩ := hx
      obtain ⟨rfl, h3, h4⟩ := hy
      refine ⟨.int k (if b.den < a.den then b.den else a.den), rfl, rfl, ?_, ?_⟩ <;> simp only [E.den] <;> split <;> omega
    · cases h
  · cases h
theorem foldA_sound {P : Program} {ρ : Rho} {w : World} {f : AV → AV → Option AV} {g : Value → Value → Sem Value} (hfg : ∀ x y z u v, VR ρ x u → VR ρ y v → f x y = some z → ∃ t, (g u v).run P w = .ok t w ∧ VR ρ z t) :
    ∀ (l : List AV) (vs : List Value) (x z : AV) (u : Value), VRs ρ l vs → VR ρ x u → foldA f x l = some z → ∃ t, (vs.foldlM g u).run P w = .ok t w ∧ VR ρ z t
  | [], vs, x, z, u, hl, hx, h => by cases h; have hl : vs = [] := hl; subst hl; exact ⟨u, rfl, hx⟩
  | y :: l, vs, x, z, u, ⟨v, ws, e, hy, hl⟩, hx, h => by
    subst e
    simp only [foldA] at h
    split at h
    · rename_i x' hx'
      obtain ⟨t, h1, h2⟩ := hfg x y x' u v hx hy hx'
      obtain ⟨t', h3, h4⟩ := foldA_sound hfg l ws x' z t hl h2 h
      exact ⟨t', by rw [List.foldlM_cons, Sem.run_bind, h1]; exact h3, h4⟩
    · cases h
theorem lenA_sound {P : Program} {ρ : Rho} {w : World} {t e ty : TypeId} (hu : P.underlying t = some (.slice e)) {x : AV} {u : Value} (hx : VR ρ x u) {v : AV} {upd fg need touch} (h : lenA x = .val v upd fg need touch) :
    upd = [] ∧ fg = none ∧ ∃ z, (Builtin.len_ #[t] ty #[u]).run P w = .ok z w ∧ VR ρ v z := by
  unfold lenA at h
  split at h
  · rename_i id sz row len hi
    split at h
    · cases h
      obtain ⟨_, _, h2, h3, a, c, rfl, _⟩ := hx
      refine ⟨rfl, rfl, .int .i64 len.den, ?_, rfl, h2, h3⟩
      have e1 : (len.den.toNat : Int) = len.den := by omega
      simp [Builtin.len_, run_underlying hu, goInt, e1]
    · cases h
  · cases h
    have hx : u = .slice none 0 0 := hx
    subst hx
    exact ⟨rfl, rfl, .int .i64 0, by simp [Builtin.len_, run_underlying hu, goInt], rfl, by simp [E.den], by simp [E.den]⟩
  · cases h
theorem sliceBound_ok {P : Program} {w : World} (k : IntKind) (i : Int) (y : Nat) (code : BoundsCode) (h0 : 0 ≤ i) (h1 : i ≤ y) : (Instr.sliceBound (.int k i) y code).run P w = .ok i.toNat w := by
  simp [Instr.sliceBound, asIntOf, h0, h1]
theorem sliceA_sound {P : Program} {ρ : Rho} {w : World} {t e : TypeId} {i : TI} (hu : P.underlying t = some (.slice e)) (hok : i.ok P e) {x : AV} {u : Value} (hx : VR ρ x u) {lo hi : Option AV} {l h : Option Value}
    (hlo : (lo = none ∧ l = none) ∨ ∃ a b, lo = some a ∧ l = some b ∧ VR ρ a b) (hhi : (hi = none ∧ h = none) ∨ ∃ a b, hi = some a ∧ h = some b ∧ VR ρ a b) (hsz : ∀ id sz row len hb, x = .sl id sz row len hb → sz = i.sz)
    {v : AV} {upd fg need touch} (hr : sliceA x lo hi = .val v upd fg need touch) (hn : need.den = true) :
    upd = [] ∧ fg = none ∧ ∃ z, (Instr.sliceAt t u l h none).run P w = .ok z w ∧ VR ρ v z := by
  unfold sliceA at hr
  split at hr
  · rename_i id sz row len hb
    have hsz := hsz id sz row len hb rfl
    subst hsz
    obtain ⟨hal, h2, h3, h4, a, c, rfl, h5, h6, h7⟩ := hx
    -- one law for all forms
    have main : ∀ (L H : Nat), (Instr.sliceBounds true len.den.toNat c l h none).run P w = .ok (L, H, c) w → L ≤ H → H ≤ len.den.toNat →
        ∃ z, (Instr.sliceAt t (.slice a len.den.toNat c) l h none).run P w = .ok z w ∧ ∃ a', z = .slice a' (H - L) (c - L) ∧ SlAt ρ id i.sz (row.den.toNat + L) (c - L) a' := by
      intro L H hb hLH hH
      refine ⟨.slice (if c = L then a else a.map (·.add (L * i.sz))) (H - L) (c - L), ?_, _, rfl, ?_⟩
      · simp [Instr.sliceAt, Instr.slice, run_underlying hu, hb, sizeOf_of hok]
      · by_cases hc : c = L
        · rw [if_pos hc]
          cases a with
          | none => show c - L = 0; omega
          | some a => exact .inl (by omega)
        · rw [if_neg hc]
          obtain ⟨rfl, h8⟩ := slAt_pos h7 (by omega)
          refine .inr ⟨?_, ?_⟩
          · simp only [addr_add, Nat.add_mul, Nat.add_assoc]
          · have e1 : row.den.toNat + L + (c - L) = row.den.toNat + c := by omega
            rw [e1]
            exact h8
    split at hr
    · -- the whole
      cases hr
      obtain ⟨_, rfl⟩ := hlo.resolve_right (by rintro ⟨_, _, e, _⟩; cases e)
      obtain ⟨_, rfl⟩ := hhi.resolve_right (by rintro ⟨_, _, e, _⟩; cases e)
      obtain ⟨z, hz, a', rfl, hs⟩ := main 0 len.den.toNat (by simp [Instr.sliceBounds]) (by omega) (by omega)
      exact ⟨rfl, rfl, _, hz, hal, h2, h3, h4, a', c - 0, by simp, by omega, by omega, by simpa using hs⟩
    · rename_i a1 l1 u1
      cases hr
      obtain ⟨_, b1, e1, rfl, hv1⟩ := hlo.resolve_left (by rintro ⟨e, _⟩; cases e)
      cases e1
      obtain ⟨rfl, _, _⟩ := hv1
      obtain ⟨_, rfl⟩ := hhi.resolve_right (by rintro ⟨_, _, e, _⟩; cases e)
      rw [B.den_mkAnd, B.den_mkLe, B.den_mkLe] at hn
      simp only [Bool.and_eq_true, decide_eq_true_eq] at hn
      simp only [E.den] at hn
      obtain ⟨n1, n2⟩ := hn
      obtain ⟨z, hz, a', rfl, hs⟩ := main a1.den.toNat len.den.toNat (by simp [Instr.sliceBounds, sliceBound_ok (P := P) (w := w) .i64 a1.den len.den.toNat .sliceB n1 (by omega)]) (by omega) (by omega)
      refine ⟨rfl, rfl, _, hz, hal, by rw [E.den_mkAdd]; omega, by rw [E.den_mkSub]; omega, by rw [E.den_mkSub]; omega, a', c - a1.den.toNat, ?_, ?_, by omega, ?_⟩
      · rw [E.den_mkSub]; congr 1; omega
      · rw [E.den_mkSub]; omega
      · rw [E.den_mkAdd]
        have e2 : (row.den + a1.den).toNat = row.den.toNat + a1.den.toNat := by omega
        rw [e2]; exact hs
    · rename_i b1 l1 u1
      cases hr
      obtain ⟨_, rfl⟩ := hlo.resolve_right (by rintro ⟨_, _, e, _⟩; cases e)
      obtain ⟨_, _, e1, rfl, hv2⟩ := hhi.resolve_left (by rintro ⟨e, _⟩; cases e)
      cases e1
      obtain ⟨rfl, _, _⟩ := hv2
      rw [B.den_mkAnd, B.den_mkLe, B.den_mkLe] at hn
      simp only [Bool.and_eq_true, decide_eq_true_eq] at hn
      simp only [E.den] at hn
      obtain ⟨n1, n2⟩ := hn
      obtain ⟨z, hz, a', rfl, hs⟩ := main 0 b1.den.toNat (by simp [Instr.sliceBounds, sliceBound_ok (P := P) (w := w) .i64 b1.den c .sliceAcap n1 (by omega)]) (by omega) (by omega)
      exact ⟨rfl, rfl, _, hz, hal, h2, n1, by omega, a', c - 0, by simp, by omega, by omega, by simpa using hs⟩
    · rename_i a1 l1 u1 b1 l2 u2
      cases hr
      obtain ⟨_, _, e1, rfl, hv1⟩ := hlo.resolve_left (by rintro ⟨e, _⟩; cases e)
      cases e1
      obtain ⟨rfl, _, _⟩ := hv1
      obtain ⟨_, _, e1, rfl, hv2⟩ := hhi.resolve_left (by rintro ⟨e, _⟩; cases e)
      cases e1
      obtain ⟨rfl, _, _⟩ := hv2
      rw [B.den_mkAnd, B.den_mkAnd, B.den_mkLe, B.den_mkLe, B.den_mkLe] at hn
      simp only [Bool.and_eq_true, decide_eq_true_eq] at hn
      simp only [E.den] at hn
      obtain ⟨n1, n2, n3⟩ := hn
      obtain ⟨z, hz, a', rfl, hs⟩ := main a1.den.toNat b1.den.toNat (by simp [Instr.sliceBounds, sliceBound_ok (P := P) (w := w) .i64 b1.den c .sliceAcap (by omega) (by omega), sliceBound_ok (P := P) (w := w) .i64 a1.den b1.den.toNat .sliceB n1 (by omega)]) (by omega) (by omega)
      refine ⟨rfl, rfl, _, hz, hal, by rw [E.den_mkAdd]; omega, by rw [E.den_mkSub]; omega, by rw [E.den_mkSub]; omega, a', c - a1.den.toNat, ?_, ?_, by omega, ?_⟩
      · rw [E.den_mkSub]; congr 1; omega
      · rw [E.den_mkSub]; omega
      · rw [E.den_mkAdd]
        have e2 : (row.den + a1.den).toNat = row.den.toNat + a1.den.toNat := by omega
        rw [e2]; exact hs
    · cases hr
  · cases hr


theorem appendA_sound {P : Program} {τ : Tab} (hτ : ∀ t i, τ t = some i → i.ok P t) {w0 : World} {F : Nat → Prop} {ρ : Rho} {s : S} {w : World} (hm : MRel w0 F ρ s.mem w) {fresh : Nat} (hf : ¬ ρ.al fresh)
    {t ty : TypeId} {x y : AV} {u u2 : Value} (hx : VR ρ x u) (hy : VR ρ y u2) {v : AV} {upd fg need touch} (h : appendA τ fresh s t x y = .val v upd fg need touch) (hn : need.den = true) :
    ∃ z w' ρ', (Builtin.append_ #[t, t] ty #[u, u2]).run P w = .ok z w' ∧ ρ.le ρ' fg ∧ MRel w0 F ρ' ((s.fg fg).upd upd).mem w' ∧ VR ρ' v z ∧ (∀ id, ρ'.al id → ρ.al id ∨ (id = fresh ∧ ∃ b, (fresh, b) ∈ upd)) := by
  unfold appendA at h
  split at h
  · rename_i e i id2 sz2 len2 hi2 he
    obtain ⟨hu, hok⟩ := elemOf?_ok hτ he
    split at h
    · rename_i ty2 sz' rows hb2
      obtain ⟨hal2, hM2⟩ := hm.blk id2 _ hb2
      dsimp only at h
      split at h
      · rename_i hc
        simp only [Bool.and_eq_true, decide_eq_true_eq] at hc
        obtain ⟨⟨⟨⟨⟨rfl, rfl⟩, hall⟩, hby⟩, hrl⟩, hr0⟩ := hc
        obtain ⟨ho2, news, hN⟩ := news_of (P := P) hM2 rfl rfl hall hr0
        obtain ⟨_, _, hl0, _, a2, c2, rfl, hc2, _, hs2⟩ := hy
        -- the appended slice
        have get2 : (B.mkEq len2 (.lit ((rows.length : Nat) : Int))).den = true → len2.den.toNat = rows.length ∧ a2 = some ⟨ρ.β id2, 0, none⟩ := by
          intro hq
          rw [B.den_mkEq] at hq
          simp only [decide_eq_true_eq] at hq
          simp only [E.den] at hq
          have e1 : len2.den.toNat = rows.length := by omega
          refine ⟨e1, ?_⟩
          have := (slAt_pos hs2 (by omega)).1
          rw [this]
          simp [E.den, ho2]
        split at h
        · -- behind nil
          cases h
          obtain ⟨e1, rfl⟩ := get2 hn
          rw [e1]
          have hx : u = .slice none 0 0 := hx
          subst hx
          obtain ⟨f, z, hi, hs1, hs2', hz, hz2, hz3⟩ := hok.info
          have hzs : z.cells.size = i.sz := by have := congrArg List.length hz3; rw [hok.len] at this; simpa using this
          have hnl : news.length = rows.length * f.size := by rw [hN.len, hs1]
          have hb48 : rows.length * f.bytes ≤ 281474976710656 := by rw [hs2']; exact Nat.le_trans (Nat.mul_le_mul hrl hby) (by decide)
          have hr := run_append_nil (P := P) w t ty e f z hu hi hz ⟨ρ.β id2, 0, none⟩ rows.length c2 news hnl hN.at_ hr0 (by omega) hb48
          have hge := grownCap_ge w rows.length 0 e
          have hle := grownCap_le_maxLen w rows.length 0 e (by simp only [maxLen]; omega)
          have hsize : (news.toArray ++ Builtin.zeroCells z.cells (grownCap w rows.length 0 e - rows.length)).size = grownCap w rows.length 0 e * i.sz := by
            simp only [Array.size_append, List.size_toArray, size_zeroCells, hzs, hN.len, ← Nat.add_mul]
            congr 1
            omega
          have hmm := hm.alloc (fresh := fresh) (w' := w.drew.alloc (.cells (news.toArray ++ Builtin.zeroCells z.cells (grownCap w rows.length 0 e - rows.length)) e)) hf ⟨e, i.sz, true, .lit rows⟩ _ rfl rfl rfl rfl hok.pos (fun k hk => by
            simp only [Con.num, E.den, Int.toNat_natCast] at hk
            refine ⟨by rw [hsize]; exact Nat.mul_le_mul_right _ (by omega), rows[k], List.getElem?_eq_getElem hk, ?_⟩
            have h2 := seg_new [] news (Builtin.zeroCells z.cells (grownCap w rows.length 0 e - rows.length)).toList 0 k i.sz rows.length (by simp) hN.len hk
            simp only [List.nil_append, Nat.zero_add] at h2
            have h3 : (news.toArray ++ Builtin.zeroCells z.cells (grownCap w rows.length 0 e - rows.length)).toList = news ++ (Builtin.zeroCells z.cells (grownCap w rows.length 0 e - rows.length)).toList := by simp
            rw [h3, h2]
            exact hN.row k _ (List.getElem?_eq_getElem hk))
          refine ⟨_, _, ρ.with fresh w.heap.size _, hr, ρ.with_le fresh _ _ none (.inl hf), hmm, ?_, fun id h => ?_⟩
          · exact VR.sl_new (by simp [E.den]) (by simp [E.den]) (by simp [E.den]) hge hle (by rw [hsize]; exact Nat.le_refl _)
          · rcases h with h | h
            · exact .inl h
            · exact .inr ⟨h, _, List.mem_cons_self⟩
        · -- behind a block of one's own
          rename_i id sz len hi
          split at h
          · rename_i b hb
            split at h
            · rename_i hc3
              simp only [Bool.and_eq_true, decide_eq_true_eq] at hc3
              obtain ⟨⟨⟨⟨⟨⟨rfl, hsz⟩, hwr⟩, hty⟩, hhi⟩, hnp⟩, hne⟩ := hc3
              cases h
              rw [B.den_mkAnd] at hn
              simp only [Bool.and_eq_true] at hn
              obtain ⟨hn1, hn2⟩ := hn
              obtain ⟨e1, rfl⟩ := get2 hn1
              rw [e1]
              rw [B.den_mkEq] at hn2
              simp only [decide_eq_true_eq] at hn2
              obtain ⟨_, _, hl1, hl2, a0, c, rfl, h5, h6, h7⟩ := hx
              have e0 : (E.lit 0).den.toNat = 0 := rfl
              rw [e0] at h7
              have hbig : hi ≤ 1099511627776 := hhi
              obtain ⟨z, w', ρ', r1, r2, r3, r4, r5⟩ := append_blk (P := P) hm hu (ty := ty) hok hby hb hsz hwr hty (n := len.den.toNat) (by omega) (by omega) h5 h6 h7 (by omega) hr0 hN (c2 := c2)
              refine ⟨z, w', ρ', r1, r2, r4, ?_, fun j hj => .inl (r3 j hj)⟩
              obtain ⟨s1, s2, s3, s4, a', c', s5, s6, s7, s8⟩ := r5
              have e4 : (E.mkAdd len (.lit ((rows.length : Nat) : Int))).den = ((len.den.toNat + rows.length : Nat) : Int) := by rw [E.den_mkAdd]; simp only [E.den]; omega
              refine ⟨s1, s2, by rw [e4]; omega, by rw [e4]; omega, a', c', ?_, ?_, s7, s8⟩
              · rw [e4]; exact s5
              · rw [e4]; exact s6
            · cases h
          · cases h
        · cases h
      · cases h
    · cases h
  · cases h

theorem appendZ_sound {P : Program} {τ : Tab} (hτ : ∀ t i, τ t = some i → i.ok P t) {ρ : Rho} {w : World} {t ty : TypeId} {x y : AV} {u u2 : Value} (hx : VR ρ x u) (hy : VR ρ y u2) (hz : zeroSl y = true) {v : AV} {upd fg need touch} (h : appendZ τ t x = .val v upd fg need touch) :
    upd = [] ∧ fg = none ∧ (Builtin.append_ #[t, t] ty #[u, u2]).run P w = .ok u w ∧ VR ρ v u := by
  have e2 : ∃ a2 c2, u2 = .slice a2 0 c2 := by
    unfold zeroSl at hz
    split at hz
    · rename_i a c; exact ⟨a, c, hy⟩
    · cases hz
  obtain ⟨a2, c2, rfl⟩ := e2
  unfold appendZ at h
  split at h
  · rename_i ei id sz row len hi he
    obtain ⟨hu, hok⟩ := elemOf?_ok hτ (e := ei.1) (i := ei.2) he
    cases h
    have hx' := hx
    obtain ⟨_, _, _, _, a, c, rfl, hlc, _, _⟩ := hx
    exact ⟨rfl, rfl, run_append_zero hu hok w a a2 _ c c2 hlc, hx'⟩
  · cases h
theorem appendS_sound {P : Program} {τ : Tab} (hτ : ∀ t i, τ t = some i → i.ok P t) {w0 : World} {F : Nat → Prop} {ρ : Rho} {s : S} {w : World} (hm : MRel w0 F ρ s.mem w) {fresh : Nat}
    {t ty : TypeId} {x y : AV} {u u2 : Value} (hx : VR ρ x u) (hy : VR ρ y u2) {v : AV} {upd fg need touch} (h : appendS τ s t x y = .val v upd fg need touch) (hn : need.den = true) :
    ∃ z w' ρ', (Builtin.append_ #[t, t] ty #[u, u2]).run P w = .ok z w' ∧ ρ.le ρ' fg ∧ MRel w0 F ρ' ((s.fg fg).upd upd).mem w' ∧ VR ρ' v z ∧ (∀ id, ρ'.al id → ρ.al id ∨ (id = fresh ∧ ∃ b, (fresh, b) ∈ upd)) := by
  unfold appendS at h
  split at h
  · rename_i e i id sz len hi id2 sz2 row2 len2 hi2 he
    obtain ⟨hu, hok⟩ := elemOf?_ok hτ he
    split at h
    · rename_i b ty2 sz' wr2 m2 f2 hb hb2
      split at h
      · rename_i hc
        simp only [Bool.and_eq_true, decide_eq_true_eq] at hc
        obtain ⟨⟨⟨⟨⟨⟨⟨⟨⟨⟨rfl, hsz⟩, hwr⟩, hty⟩, hhi⟩, hhi2⟩, hnp⟩, hne⟩, rfl⟩, rfl⟩, hby⟩ := hc
        cases h
        simp only [B.den_mkAnd, B.den_mkEq, B.den_mkLe, E.den_mkAdd, Bool.and_eq_true, decide_eq_true_eq] at hn
        obtain ⟨hn1, hn2, hn3⟩ := hn
        obtain ⟨_, _, hl1, hl2, a0, c, rfl, h5, h6, h7⟩ := hx
        obtain ⟨_, hr2, hl3, hl4, a2, c2, rfl, k5, k6, k7⟩ := hy
        have e0 : (E.lit 0).den.toNat = 0 := rfl
        rw [e0] at h7
        have hbig : hi ≤ 1099511627776 := hhi
        have hbig2 : hi2 ≤ 1099511627776 := hhi2
        obtain ⟨z, w', ρ', r1, r2, r3, r4, r5⟩ := append_sym (P := P) hm hu (ty := ty) hok hby hb hsz hwr hty (n := len.den.toNat) (by omega) (by omega) h5 h6 h7 hb2 rfl (m2 := m2) (f2 := f2) rfl (r := row2.den.toNat) (m := len2.den.toNat) (by omega) (by omega) hn3 k7 k5 (len := len) (row2 := row2) (len2 := len2) (by omega) (by omega) (by omega)
        refine ⟨z, w', ρ', r1, r2, r4, ?_, fun j hj => .inl (r3 j hj)⟩
        obtain ⟨s1, s2, s3, s4, a', c', s5, s6, s7, s8⟩ := r5
        have e4 : (E.mkAdd len len2).den = ((len.den.toNat + len2.den.toNat : Nat) : Int) := by rw [E.den_mkAdd]; omega
        refine ⟨s1, s2, by rw [e4]; omega, by rw [e4]; omega, a', c', ?_, ?_, s7, s8⟩
        · rw [e4]; exact s5
        · rw [e4]; exact s6
      · cases h
    · cases h
  · cases h

theorem clearA_sound {P : Program} {τ : Tab} (hτ : ∀ t i, τ t = some i → i.ok P t) {w0 : World} {F : Nat → Prop} {ρ : Rho} {s : S} {w : World} (hm : MRel w0 F ρ s.mem w)
    {t ty : TypeId} {x : AV} {u : Value} (hx : VR ρ x u) {v : AV} {upd fg need touch} (h : clearA τ s t x = .val v upd fg need touch) (hn : need.den = true) :
    fg = none ∧ ∃ w', (Builtin.clear_ #[t] ty #[u]).run P w = .ok (.tuple #[]) w' ∧ MRel w0 F ρ (s.upd upd).mem w' ∧ VR ρ v (.tuple #[]) := by
  unfold clearA at h
  split at h
  · rename_i e i id sz row len hi he
    obtain ⟨hu, hok⟩ := elemOf?_ok hτ he
    split at h
    · rename_i tyb sz' wr n f hb
      split at h
      · rename_i hc
        simp only [Bool.and_eq_true, decide_eq_true_eq] at hc
        obtain ⟨⟨⟨rfl, rfl⟩, hwr⟩, rfl⟩ := hc
        cases h
        simp only [B.den_mkAnd, B.den_mkLe, Bool.and_eq_true, decide_eq_true_eq] at hn
        obtain ⟨_, hn2⟩ := hn
        obtain ⟨_, hr0, hl0, hl1, a, c, rfl, h5, h6, h7⟩ := hx
        refine ⟨rfl, ?_⟩
        obtain ⟨_, hM⟩ := hm.blk id _ hb
        have hrow : ∀ k, k < (Con.sym row f).num.den.toNat → ∀ vs : List Value, RowR ρ (.sym n f) k vs → RowR ρ (.sym row f) k vs := fun k _ vs h => h
        have noop : MRel w0 F ρ (setAt s.mem id (some ⟨tyb, i.sz, wr, .sym row f⟩)) w := by
          refine hm.weaken hb ?_ rfl
          exact hM.trunc (.sym row f) (by simp only [Con.num]; omega) hrow
        obtain ⟨z, hzv, hz3⟩ := zero_of hok w
        by_cases hm0 : len.den.toNat = 0
        · refine ⟨w, ?_, noop, [], rfl, rfl⟩
          rw [hm0]
          cases a with
          | none => simp [Builtin.clear_, run_underlying hu]
          | some a => simp [Builtin.clear_, run_underlying hu]
        · obtain ⟨ha, hcap⟩ := slAt_pos h7 (by omega)
          subst ha
          have hpos := hok.pos
          have hge : 0 < ρ.γ id := by
            have h9 : 1 * i.sz ≤ (row.den.toNat + c) * i.sz := Nat.mul_le_mul_right _ (by omega)
            omega
          rcases hM.2 with h2 | ⟨ho, cs, hg, hcs, hrows⟩ | ⟨h9, _⟩
          · exact absurd h2.1 (by omega)
          · have hlen : (Builtin.zeroCells z.cells len.den.toNat).toList.length = len.den.toNat * i.sz := by
              have hzs : z.cells.size = i.sz := by have := congrArg List.length hz3; rw [hok.len] at this; simpa using this
              simp [size_zeroCells, hzs]
            have hone : ∀ v ∈ (Builtin.zeroCells z.cells len.den.toNat).toList, v.oneCell' = true := one_zeroCells (by
              rw [hz3]
              exact fun v hv => List.all_eq_true.1 hok.one v hv)
            have hsub : row.den.toNat * i.sz + len.den.toNat * i.sz ≤ (row.den.toNat + c) * i.sz := by
              rw [← Nat.add_mul]; exact Nat.mul_le_mul_right _ (by omega)
            have hst := run_storeCells_at P (ρ.β id) (row.den.toNat * i.sz) tyb (Builtin.zeroCells z.cells len.den.toNat).toList 0 cs w hg (by omega) hone
            rw [Nat.add_zero] at hst
            have hrun : (Builtin.clear_ #[t] ty #[.slice (some ⟨ρ.β id, ρ.o id + row.den.toNat * i.sz, none⟩) len.den.toNat c]).run P w = .ok (.tuple #[]) (w.setRow (ρ.β id) (cs.toList.take (row.den.toNat * i.sz) ++ (Builtin.zeroCells z.cells len.den.toNat).toList ++ cs.toList.drop (row.den.toNat * i.sz + (Builtin.zeroCells z.cells len.den.toNat).toList.length)).toArray) := by
              rw [ho, Nat.zero_add]
              cases hq : len.den.toNat with
              | zero => exact absurd hq hm0
              | succ q =>
                rw [hq] at hst
                simp [Builtin.clear_, run_underlying hu, hzv, hst]
            refine ⟨_, hrun, ?_, [], rfl, rfl⟩
            refine hm.write (b' := ⟨tyb, i.sz, wr, .sym row f⟩) hb hwr ho hg hcs ?_ rfl rfl hpos (by omega) (fun k hk => ?_)
            · simp only [List.size_toArray, List.length_append, List.length_take, List.length_drop, Array.length_toList, hlen]
              omega
            · simp only [Con.num] at hk
              obtain ⟨k1, k2⟩ := hrows k (by simp only [Con.num]; omega)
              have hto : (cs.toList.take (row.den.toNat * i.sz)).length = row.den.toNat * i.sz := by simp; omega
              refine ⟨?_, ?_⟩
              · simp only [List.size_toArray, List.length_append, List.length_take, List.length_drop, Array.length_toList, hlen]
                simp only at k1
                omega
              · simp only [List.append_assoc]
                rw [seg_old _ _ row.den.toNat k i.sz hto hk]
                have e2 : (k + 1) * i.sz ≤ row.den.toNat * i.sz := Nat.mul_le_mul_right _ hk
                have e3 : (k + 1) * i.sz = k * i.sz + i.sz := Nat.succ_mul _ _
                rw [List.drop_take, List.take_take, Nat.min_eq_left (by omega)]
                exact k2
          · rw [hwr] at h9; cases h9
      · cases h
    · cases h
  · cases h
theorem builtinA_sound {P : Program} {τ : Tab} (hτ : ∀ t i, τ t = some i → i.ok P t) {w0 : World} {F : Nat → Prop} {ρ : Rho} {s : S} {w : World} (hm : MRel w0 F ρ s.mem w) {fresh : Nat} (hf : ¬ ρ.al fresh)
    {b : Builtin} {tys : List TypeId} {ty : TypeId} {cs : Array Bool} {args : List AV} {vs : List Value} (hx : VRs ρ args vs) {v : AV} {upd fg need touch} (h : builtinA τ fresh s b args tys = .val v upd fg need touch) (hn : need.den = true) :
    ∃ z w' ρ', (builtin b tys.toArray ty cs vs.toArray).run P w = .ok (.value z) w' ∧ ρ.le ρ' fg ∧ MRel w0 F ρ' ((s.fg fg).upd upd).mem w' ∧ VR ρ' v z ∧ (∀ id, ρ'.al id → ρ.al id ∨ (id = fresh ∧ ∃ b, (fresh, b) ∈ upd)) := by
  unfold builtinA at h
  split at h
  · -- len
    split at h
    · rename_i x t
      split at h
      · rename_i ei he
        obtain ⟨hu, _⟩ := elemOf?_ok hτ he
        obtain ⟨u, ws, rfl, hu2, e⟩ := hx
        have e : ws = [] := e
        subst e
        obtain ⟨rfl, rfl, z, h1, h2⟩ := lenA_sound (P := P) (w := w) (ty := ty) hu hu2 h
        exact ⟨z, w, ρ, by simp [builtin, h1], Rho.le_refl ρ none, hm, h2, fun id h => .inl h⟩
      · cases h
    · cases h
  · -- append
    split at h
    · rename_i x y t t'
      split at h
      · rename_i htt
        subst htt
        obtain ⟨u, ws, rfl, hu1, u2, ws2, rfl, hu2, e⟩ := hx
        have e : ws2 = [] := e
        subst e
        split at h
        · rename_i hz
          obtain ⟨rfl, rfl, h1, h2⟩ := appendZ_sound hτ (w := w) (ty := ty) hu1 hu2 hz h
          exact ⟨_, w, ρ, by simp [builtin, h1], Rho.le_refl ρ none, hm, h2, fun id h => .inl h⟩
        split at h
        · obtain ⟨z, w', ρ', h1, h2⟩ := appendS_sound hτ hm (fresh := fresh) (ty := ty) hu1 hu2 h hn
          exact ⟨z, w', ρ', by simp [builtin, h1], h2⟩
        · obtain ⟨z, w', ρ', h1, h2⟩ := appendA_sound hτ hm hf (ty := ty) hu1 hu2 h hn
          exact ⟨z, w', ρ', by simp [builtin, h1], h2⟩
      · cases h
    · cases h
  · -- clear
    split at h
    · rename_i x t
      obtain ⟨u, ws, rfl, hu1, e⟩ := hx
      have e : ws = [] := e
      subst e
      obtain ⟨rfl, w', h1, h2, h3⟩ := clearA_sound hτ hm (ty := ty) hu1 h hn
      exact ⟨_, w', ρ, by simp [builtin, h1], Rho.le_refl ρ none, h2, h3, fun id h => .inl h⟩
    · cases h
  · -- max
    split at h
    · rename_i x l
      split at h
      · rename_i r hr
        cases h
        obtain ⟨u, ws, rfl, hu1, hl⟩ := hx
        obtain ⟨z, h1, h2⟩ := foldA_sound (P := P) (w := w) (fun x y z u v hx hy h => maxA_sound (P := P) (w := w) hx hy h) l ws x v u hl hu1 hr
        exact ⟨z, w, ρ, by simp [builtin, Builtin.max_, h1], Rho.le_refl ρ none, hm, h2, fun id h => .inl h⟩
      · cases h
    · cases h
  · -- min
    split at h
    · rename_i x l
      split at h
      · rename_i r hr
        cases h
        obtain ⟨u, ws, rfl, hu1, hl⟩ := hx
        obtain ⟨z, h1, h2⟩ := foldA_sound (P := P) (w := w) (fun x y z u v hx hy h => minA_sound (P := P) (w := w) hx hy h) l ws x v u hl hu1 hr
        exact ⟨z, w, ρ, by simp [builtin, Builtin.min_, h1], Rho.le_refl ρ none, hm, h2, fun id h => .inl h⟩
      · cases h
    · cases h
  · cases h
theorem VRs.operands {ρ : Rho} {s : S} {ev : Operand → Value} (hev : ∀ x, VR ρ (s.eval x) (ev x)) : ∀ l : List Operand, VRs ρ (l.map s.eval) (l.map ev)
  | [] => rfl
  | x :: l => ⟨ev x, l.map ev, rfl, hev x, VRs.operands hev l⟩
theorem pure_nc {v : AV} {f : FuncId} {args : List AV} : R.pure v ≠ .call f args := by simp [R.pure]
theorem binInt_nc {op k a la ha b lb hb} {f : FuncId} {args : List AV} : binInt op k a la ha b lb hb ≠ .call f args := by cases op <;> simp only [binInt, R.pure, ne_eq] <;> (repeat' split) <;> (intro h; cases h)
theorem loadA_nc {τ s t a} {f : FuncId} {args : List AV} : loadA τ s t a ≠ .call f args := by unfold loadA; (repeat' split); all_goals (try dsimp only); (repeat' split); all_goals simp
theorem storeA_nc {τ s t a x} {f : FuncId} {args : List AV} : storeA τ s t a x ≠ .call f args := by unfold storeA; (repeat' split); all_goals simp
theorem binOpA_nc {eqt op t x y} {f : FuncId} {args : List AV} : binOpA eqt op t x y ≠ .call f args := by unfold binOpA; (repeat' split); all_goals first | exact binInt_nc | simp [R.pure]
theorem unOpA_nc {op x} {f : FuncId} {args : List AV} : unOpA op x ≠ .call f args := by unfold unOpA; (repeat' split); all_goals simp [R.pure]
theorem sliceA_nc {x lo hi} {f : FuncId} {args : List AV} : sliceA x lo hi ≠ .call f args := by unfold sliceA; (repeat' split); all_goals simp [R.pure]
theorem lenA_nc {x} {f : FuncId} {args : List AV} : lenA x ≠ .call f args := by unfold lenA; (repeat' split); all_goals simp [R.pure]
theorem appendA_nc {τ fresh s t x y} {f : FuncId} {args : List AV} : appendA τ fresh s t x y ≠ .call f args := by unfold appendA; (repeat' split); all_goals (try dsimp only); (repeat' split); all_goals simp
theorem appendZ_nc {τ t x} {f : FuncId} {args : List AV} : appendZ τ t x ≠ .call f args := by unfold appendZ; (repeat' split); all_goals simp
theorem appendS_nc {τ s t x y} {f : FuncId} {args : List AV} : appendS τ s t x y ≠ .call f args := by unfold appendS; (repeat' split); all_goals simp
theorem clearA_nc {τ s t x} {f : FuncId} {args : List AV} : clearA τ s t x ≠ .call f args := by unfold clearA; (repeat' split); all_goals simp
theorem builtinA_nc {τ fresh s b as tys} {f : FuncId} {args : List AV} : builtinA τ fresh s b as tys ≠ .call f args := by unfold builtinA; (repeat' split); all_goals first | exact lenA_nc | exact clearA_nc | exact appendZ_nc | exact appendS_nc | exact appendA_nc | exact pure_nc | simp
/-- A call is entered with the arguments as reckoned. -/
theorem astep_call {P : Program} {τ : Tab} {eqt : EqTab} {ρ : Rho} {s : S} {w : World} {fresh : Nat} {o : Oper} {ev : Operand → Value} (hev : ∀ x, VR ρ (s.eval x) (ev x)) {f : FuncId} {args : List AV} (h : astep τ eqt fresh s o = .call f args) :
    ∃ vs : List Value, VRs ρ args vs ∧ (execOp ev o).run P w = (callFunc f vs.toArray).run P w := by
  unfold astep at h
  split at h
  case h_20 c hop =>
    obtain ⟨callee, cargs, tys⟩ := c
    cases callee with
    | value f0 =>
      simp only [callA] at h
      split at h
      · rename_i f' fs cs hf0
        cases h
        have hv := hev f0
        rw [hf0] at hv
        obtain ⟨us, hu, u, ws, rfl, ⟨ts, rfl, hts⟩, hcs⟩ := hv
        have hu : ev f0 = .func (.func f) ts.toArray ws.toArray := hu
        refine ⟨ts ++ cargs.toList.map ev ++ ws, (hts.append (VRs.operands hev _)).append hcs, ?_⟩
        have e : ts.toArray ++ cargs.map ev ++ ws.toArray = (ts ++ cargs.toList.map ev ++ ws).toArray := by apply Array.toList_inj.1; simp
        simp only [execOp, hop, resolve, Deferred.ofValue, hu, invoke, Sem.run_bind, Sem.run_pure, Result.andThen_ok, e]
      · rename_i f' caps hnb hf0
        cases h
        have hv := hev f0
        rw [hf0] at hv
        obtain ⟨us, hu, hus⟩ := hv
        have hb : AV.bnd caps = false := by
          unfold AV.bnd
          split
          · rename_i fs cs
            exact (hnb fs cs rfl).elim
          · rfl
        rw [hb] at hu
        have hu : ev f0 = .func (.func f) #[] us.toArray := hu
        refine ⟨cargs.toList.map ev ++ us, (VRs.operands hev _).append hus, ?_⟩
        have e : cargs.map ev ++ us.toArray = (cargs.toList.map ev ++ us).toArray := by apply Array.toList_inj.1; simp
        simp only [execOp, hop, resolve, Deferred.ofValue, hu, invoke, Sem.run_bind, Sem.run_pure, Result.andThen_ok, Array.empty_append, e]
      · cases h
    | builtin b => exact absurd h builtinA_nc
    | invoke r m => simp only [callA] at h; cases h
  all_goals
    exfalso
    revert h
    try exact pure_nc
    try exact loadA_nc
    try exact storeA_nc
    try exact binOpA_nc
    try exact unOpA_nc
    repeat' split
    all_goals first | exact sliceA_nc | exact pure_nc | (intro h; cases h)


theorem und_of {P : Program} {t : TypeId} {i : TI} (h : i.ok P t) : ∃ d, P.underlying t = some d ∧ i.d.fits d := h.und
theorem VR.agg_of {ρ : Rho} {l : List AV} {vs : List Value} (h : VRs ρ l vs) : VR ρ (.agg l) (.agg vs.toArray) := ⟨vs, rfl, h⟩
theorem getD_one {ρ : Rho} {s : S} {ev : Operand → Value} (hev : ∀ x, VR ρ (s.eval x) (ev x)) (parts : List (Nat × Operand)) : ∀ x ∈ parts, VR ρ (s.eval x.2) (ev x.2) := fun x _ => hev x.2

theorem astep_sound {P : Program} {τ : Tab} {eqt : EqTab} (hτ : ∀ t i, τ t = some i → i.ok P t) (he : EqOK P eqt) {w0 : World} {F : Nat → Prop} {ρ : Rho} {s : S} {w : World} (hm : MRel w0 F ρ s.mem w) {fresh : Nat} (hf : ¬ ρ.al fresh)
    {o : Oper} {ev : Operand → Value} (hev : ∀ x, VR ρ (s.eval x) (ev x)) {v : AV} {upd fg need touch} (h : astep τ eqt fresh s o = .val v upd fg need touch) (hn : need.den = true) :
    StepOK P w0 F ρ s w ev o v upd fg fresh := by
  unfold astep at h
  split at h
  case h_1 x hop => cases h; exact .same hm rfl rfl (by simp [execOp, hop]) (hev x)
  case h_2 x hop => cases h; exact .same hm rfl rfl (by simp [execOp, hop]) (hev x)
  case h_3 c a b hop =>
    have hc := hev c
    split at h
    · rename_i hb
      cases h
      rw [hb] at hc
      have hc : ev c = .bool true := hc
      exact .same hm rfl rfl (by simp [execOp, hop, hc, asBool]) (hev a)
    · rename_i hb
      cases h
      rw [hb] at hc
      have hc : ev c = .bool false := hc
      exact .same hm rfl rfl (by simp [execOp, hop, hc, asBool]) (hev b)
    · rename_i c0 _ _ hb
      rw [hb] at hc
      have hc : ev c = .bool c0.den := hc
      split at h
      · rename_i x y hx hy
        cases h
        have h1 := hev a
        have h2 := hev b
        rw [hx] at h1
        rw [hy] at h2
        have h1 : ev a = .bool x.den := h1
        have h2 : ev b = .bool y.den := h2
        refine .same hm rfl rfl (u := if c0.den then ev a else ev b) (by simp [execOp, hop, hc, asBool]) ?_
        rw [h1, h2]
        simp only [VR, B.den, B.den_mkAnd, B.den_mkNot]
        cases c0.den <;> simp
      · cases h
    · cases h
  case h_4 t hop =>
    split at h
    · rename_i i hi
      cases h
      have hok := hτ t i hi
      obtain ⟨z, hz, hz2⟩ := zero_of hok w
      have hzs : z.cells.size = i.sz := by rw [← hok.len, ← hz2]; simp
      refine .new hm hf ⟨t, i.sz, true, .lit [i.zero.map .ofCell]⟩ z.cells hok.pos (fun k hk => ?_) (u := .pointer (some ⟨w.heap.size, 0, none⟩)) ?_ VR.ptr_new
      · simp only [Con.num, E.den, List.length_singleton] at hk
        have : k = 0 := by omega
        subst this
        refine ⟨by simp [hzs], i.zero.map .ofCell, rfl, ?_⟩
        rw [hz2, Nat.zero_mul, List.drop_zero, List.take_of_length_le (by rw [hok.len]; exact Nat.le_refl _)]
        exact VRs.zero i.zero
      · simp [execOp, hop, Instr.alloc, hz, newVar, newRow, newObj, Sem.run] <;> rfl
    · cases h
  case h_5 t x hop =>
    split at h
    · rename_i cs hcs
      split at h
      · rename_i h0
        cases h
        have hx := (hev x).cells hcs
        have hl := hx.length
        refine .new hm hf ⟨t, cs.length, true, .lit [cs]⟩ (ev x).cells h0 (fun k hk => ?_) (u := .pointer (some ⟨w.heap.size, 0, none⟩)) ?_ VR.ptr_new
        · simp only [Con.num, E.den, List.length_singleton] at hk
          have : k = 0 := by omega
          subst this
          refine ⟨by simp at hl; simp [hl], cs, rfl, ?_⟩
          rw [Nat.zero_mul, List.drop_zero, List.take_of_length_le (show (ev x).cells.toList.length ≤ cs.length by omega)]
          exact hx
        · simp [execOp, hop, Instr.box, newVar, newRow, newObj, Sem.run] <;> rfl
      · cases h
    · cases h
  case h_6 t parts hop =>
    split at h
    · rename_i fs agg sz bytes z ht
      split at h
      · cases h
      · rename_i hall
        split at h
        · rename_i cs hcs
          cases h
          have hok := hτ t _ ht
          obtain ⟨d, hd, gs, rfl, hgs⟩ := hok.und
          obtain ⟨zv, hz, hz2⟩ := zero_of hok w
          have hall : ∀ p ∈ fs, ∃ j, τ p.1 = some j := by
            simp only [Bool.not_eq_true', Bool.not_eq_false] at hall
            intro p hp
            exact Option.isSome_iff_exists.1 (List.all_eq_true.1 hall p hp)
          have hsz : ∀ g ∈ gs.toList, (sizeOf g.type).run P w = .ok (((τ g.type).map (·.sz)).getD 0) w := by
            intro g hg
            have hmem : (g.type, g.offset) ∈ fs := by rw [← hgs]; exact List.mem_map.2 ⟨g, hg, rfl⟩
            obtain ⟨j, hj⟩ := hall _ hmem
            rw [sizeOf_of (hτ _ j hj) w, hj]
            rfl
          have hpl : ∀ i x, place τ fs i = some x → ((gs.toList.map fun (g : Field) => (g.offset, ((τ g.type).map (·.sz)).getD 0)).toArray)[i]? = some x := by
            intro i x hx
            unfold place at hx
            split at hx
            · rename_i ft off hfi
              split at hx
              · rename_i j hj
                cases hx
                rw [← hgs, List.getElem?_map] at hfi
                cases hg : gs.toList[i]? with
                | none => rw [hg] at hfi; cases hfi
                | some g =>
                  rw [hg] at hfi
                  simp only [Option.map_some, Option.some.injEq, Prod.mk.injEq] at hfi
                  obtain ⟨rfl, rfl⟩ := hfi
                  simp only [List.getElem?_toArray, List.getElem?_map, hg, Option.map_some, hj, Option.getD_some]
              · cases hx
            · cases hx
          obtain ⟨us, hus, hv⟩ := fillA_sound (ρ := ρ) hpl (fun (x : Nat × Operand) => s.eval x.2) (fun x => ev x.2) (fun x => x.1) parts.toList (getD_one hev _) _ _ z (VRs.zero z) hcs
          have hmm := mapM_sizes (P := P) w (fun g => ((τ g.type).map (·.sz)).getD 0) gs.toList hsz
          refine .same hm rfl rfl (u := .agg us.toArray) ?_ (VR.agg_of hv)
          have hz3 : zv.cells.toList = z := hz2
          have e1 : zv.cells = z.toArray := by rw [← hz3]
          have e2 : (parts.map fun (x : Nat × Operand) => (x.1, ev x.2)).toList = parts.toList.map fun x => (x.1, ev x.2) := by simp
          simp only [execOp, hop, Instr.build, Sem.run_bind, hz, Result.andThen_ok, run_underlying hd, Array.mapM_eq_mapM_toList, Sem.run_map, hmm, e1, e2, hus]
          rfl
        · cases h
    · rename_i n e agg sz bytes z ht
      split at h
      · rename_i i hi
        split at h
        · rename_i cs hcs
          cases h
          have hok := hτ t _ ht
          obtain ⟨d, hd, hf2⟩ := hok.und
          have hf2 : d = .array n e := hf2
          subst hf2
          obtain ⟨zv, hz, hz2⟩ := zero_of hok w
          obtain ⟨us, hus, hv⟩ := fillA_sound (ρ := ρ) (pl' := fun n => some (n * i.sz, i.sz)) (fun _ _ h => h) (fun (x : Nat × Operand) => s.eval x.2) (fun x => ev x.2) (fun x => x.1) parts.toList (getD_one hev _) _ _ z (VRs.zero z) hcs
          refine .same hm rfl rfl (u := .agg us.toArray) ?_ (VR.agg_of hv)
          have hz3 : zv.cells.toList = z := hz2
          have e1 : zv.cells = z.toArray := by rw [← hz3]
          have e2 : (parts.map fun (x : Nat × Operand) => (x.1, ev x.2)).toList = parts.toList.map fun x => (x.1, ev x.2) := by simp
          simp only [execOp, hop, Instr.build, Sem.run_bind, hz, Result.andThen_ok, run_underlying hd, sizeOf_of (hτ e i hi), e1, e2, hus]
          rfl
        · cases h
      · cases h
    · cases h
  case h_7 t len parts hop =>
    split at h
    · rename_i e i hei
      split at h
      · rename_i hbig
        split at h
        · rename_i cs hcs
          cases h
          obtain ⟨hu, hok⟩ := elemOf?_ok hτ hei
          obtain ⟨zv, hz, hz2⟩ := zero_of hok w
          have hzl : zv.cells = i.zero.toArray := by rw [← hz2]
          obtain ⟨us, hus, hv⟩ := fillA_sound (ρ := ρ) (pl' := fun n => some (n * i.sz, i.sz)) (fun _ _ h => h) (fun (x : Nat × Operand) => s.eval x.2) (fun x => ev x.2) (fun x => x.1) parts.toList (getD_one hev _) _ _ _ ((VRs.zero i.zero).rep len) hcs
          have hlen : us.length = len * i.sz := by
            have h1 := hv.length
            have h2 : ∀ (l : List (Nat × AV)) (a b : List AV), fillA (fun n => some (n * i.sz, i.sz)) a l = some b → b.length = a.length := by
              intro l
              induction l with
              | nil => intro a b h; cases h; rfl
              | cons x l ih =>
                intro a b h
                simp only [fillA] at h
                split at h
                · rename_i off size vs hpl hvs
                  cases hpl
                  split at h
                  · cases h
                  · rename_i hc
                    simp at hc
                    rw [ih _ _ h]
                    simp [overlay]
                    omega
                · cases h
            have h3 : ∀ n, (rep n (i.zero.map AV.ofCell)).length = n * i.sz := by
              intro n
              induction n with
              | zero => simp [rep]
              | succ n ih => simp [rep, ih, hok.len, Nat.succ_mul]; omega
            rw [h1, h2 _ _ _ hcs, h3]
          refine .new hm hf ⟨e, i.sz, true, .lit (rowsOf i.sz len cs)⟩ us.toArray hok.pos (fun k hk => ?_) (u := .slice (some ⟨w.heap.size, 0, none⟩) len len) ?_ ?_
          · simp only [Con.num, E.den, length_rowsOf, Int.toNat_natCast] at hk
            refine ⟨by simp only [List.size_toArray, hlen]; exact Nat.mul_le_mul_right _ hk, ?_⟩
            exact RowR.rowsOf len cs us hv k hk
          · have hbig2 : ¬ (len * i.sz > 2 ^ 24) := by omega
            have e2 : (parts.map fun (x : Nat × Operand) => (x.1, ev x.2)).toList = parts.toList.map fun x => (x.1, ev x.2) := by simp
            have e3 : (if len * i.sz = 0 then (pure #[] : Sem (Array Value)) else do pure (← zeroValue e).cells).run P w = .ok (if len * i.sz = 0 then #[] else i.zero.toArray) w := by
              split
              · rfl
              · simp [hz, hzl]
            have e4 : ((Array.range (len * i.sz)).map fun k => (if len * i.sz = 0 then (#[] : Array Value) else i.zero.toArray)[k % (if len * i.sz = 0 then (#[] : Array Value) else i.zero.toArray).size]!) = (List.replicate len i.zero).flatten.toArray := by
              by_cases h0 : len * i.sz = 0
              · have hl0 : len = 0 := by rcases Nat.mul_eq_zero.1 h0 with h | h; exact h; have := hok.pos; omega
                subst hl0
                simp
              · simp only [if_neg h0]
                have := range_flat i.zero len (by rw [hok.len]; exact hok.pos)
                rw [hok.len] at this
                exact this
            simp only [execOp, hop, Instr.buildSlice, Sem.run_bind, run_underlying hu, Result.andThen_ok, sizeOf_of hok, if_neg hbig2, Sem.run_pure]
            by_cases h0 : len * i.sz = 0
            · rw [if_pos h0]
              simp only [if_pos h0] at e4
              simp only [Sem.run_bind, Sem.run_pure, Result.andThen_ok, e4, e2, hus, newRow, newObj, Sem.run]
              rfl
            · rw [if_neg h0]
              simp only [if_neg h0] at e4
              simp only [Sem.run_bind, Sem.run_pure, Result.andThen_ok, hz, hzl, e4, e2, hus, newRow, newObj, Sem.run]
              rfl
          · exact VR.sl_new (by simp [E.den]) (by simp [E.den]) (by simp [E.den]) (Nat.le_refl _) (by
              have : len * 1 ≤ len * i.sz := Nat.mul_le_mul_left _ hok.pos
              simp only [maxLen]; omega) (by simp [hlen])
        · cases h
      · cases h
    · cases h
  case h_8 t a hop =>
    obtain ⟨h1, h2, u, h3, h4⟩ := loadA_sound hτ hm (hev a) h hn
    exact .same hm h1 h2 (by simp [execOp, hop, h3]) h4
  case h_9 t a x hop =>
    obtain ⟨rfl, rfl, w', h3, h4⟩ := storeA_sound hτ hm (hev a) (hev x) h hn
    exact ⟨.skip, w', ρ, undef, by simp [execOp, hop, h3], .inr ⟨rfl, rfl⟩, Rho.le_refl ρ none, h4, trivial, fun id h => .inl h⟩
  case h_10 x hop =>
    have hx := hev x
    split at h
    · rename_i a b c d hv
      cases h
      rw [hv] at hx
      have hx' := hx
      obtain ⟨_, _, e⟩ := hx
      exact .same hm rfl rfl (u := ev x) (by rw [e]; simp [execOp, hop, e]) hx'
    · rename_i f l hv
      cases h
      rw [hv] at hx
      have hx' := hx
      obtain ⟨us, e, _⟩ := hx
      obtain ⟨y1, y2, e2⟩ := fnV_func f (AV.bnd l) us
      rw [e2] at e
      exact .same hm rfl rfl (u := ev x) (by rw [e]; simp [execOp, hop, e]) hx'
    · cases h
  case h_11 op t x y yt hop =>
    obtain ⟨h1, h2, z, h3, h4⟩ := binOpA_sound (P := P) (w := w) (ox := x) (oy := y) he (hev x) (hev y) h hn
    refine .same hm h1 h2 (u := z) ?_ h4
    simp only [execOp, hop, Sem.run_bind] at h3 ⊢
    rw [h3]
    rfl
  case h_12 op t x hop =>
    obtain ⟨h1, h2, z, h3, h4⟩ := unOpA_sound (P := P) (w := w) (hev x) h
    exact .same hm h1 h2 (u := z) (by simp [execOp, hop, h3]) h4
  case h_13 src dst x hop =>
    split at h
    · rename_i i0 k agg sz bytes z k0 e lo hi hs hd hv
      cases h
      have hx := hev x
      rw [hv] at hx
      obtain ⟨e1, h1, h2⟩ := hx
      obtain ⟨d, hd1, _⟩ := (hτ src _ hs).und
      obtain ⟨d2, hd2, hf2⟩ := (hτ dst _ hd).und
      have hf2 : d2 = .int k := hf2
      subst hf2
      refine .same hm rfl rfl (u := .int k (k.wrap e.den)) ?_ (numFit_sound h1 h2)
      simp [execOp, hop, e1, convert, run_underlying hd1, run_underlying hd2, Conv.intToInt]
    · cases h
  case h_14 f first captured hop =>
    split at h
    · rename_i h0
      split at h
      · cases h
      · rename_i hb
        cases h
        have hf0 : first = #[] := by simpa using h0
        subst hf0
        have hb : AV.bnd (captured.toList.map s.eval) = false := by simpa using hb
        exact .same hm rfl rfl (u := .func (.func f) #[] (captured.map ev)) (by simp [execOp, hop, Instr.makeFunc]) ⟨captured.toList.map ev, by rw [hb]; unfold fnV; congr 1; apply Array.toList_inj.1; simp, VRs.operands hev _⟩
    · split at h
      · rename_i h1
        cases h
        have hf0 : captured = #[] := by simpa using h1
        subst hf0
        refine .same hm rfl rfl (u := .func (.func f) (first.map ev) #[]) (by simp [execOp, hop, Instr.makeFunc]) ⟨[.tuple (first.toList.map ev).toArray], ?_, _, [], rfl, ⟨first.toList.map ev, rfl, VRs.operands hev _⟩, rfl⟩
        show _ = Value.func (.func f) (first.toList.map ev).toArray #[]
        congr 1
        apply Array.toList_inj.1; simp
      · cases h
  case h_15 t l c hop =>
    split at h
    · rename_i e i a la ha b lb hb hei hl hc
      split at h
      · rename_i hcond
        simp only [Bool.and_eq_true, decide_eq_true_eq] at hcond
        obtain ⟨⟨⟨c1, c2⟩, c3⟩, c4⟩ := hcond
        cases h
        rw [B.den_mkLe] at hn
        simp only [decide_eq_true_eq] at hn
        obtain ⟨hu, hok⟩ := elemOf?_ok hτ hei
        obtain ⟨zv, hz, hz2⟩ := zero_of hok w
        have hzl : zv.cells = i.zero.toArray := by rw [← hz2]
        have hvl := hev l
        have hvc := hev c
        rw [hl] at hvl
        rw [hc] at hvc
        obtain ⟨el, l1, l2⟩ := hvl
        obtain ⟨ec, m1, m2⟩ := hvc
        obtain ⟨f, z, hi, hs1, hs2, _⟩ := hok.info
        have hw1 : IntKind.i64.wrap a.den = a.den := wrap_in .i64 _ (by simp [IntKind.min, IntKind.signed, IntKind.bits]; omega) (by simp [IntKind.max, IntKind.signed, IntKind.bits]; omega)
        have hw2 : IntKind.i64.wrap b.den = b.den := wrap_in .i64 _ (by simp [IntKind.min, IntKind.signed, IntKind.bits]; omega) (by simp [IntKind.max, IntKind.signed, IntKind.bits]; omega)
        have hbig : ((i.bytes : Nat) : Int) * b.den ≤ 64 * 1048576 := Int.mul_le_mul (by omega) (by omega) (by omega) (by omega)
        have hsz : (List.replicate b.den.toNat i.zero).flatten.length = b.den.toNat * i.sz := by simp [hok.len]
        refine .new hm hf ⟨e, i.sz, true, _⟩ (List.replicate b.den.toNat i.zero).flatten.toArray hok.pos (fun k hk => ?_) (u := .slice (some ⟨w.heap.size, 0, none⟩) a.den.toNat b.den.toNat) ?_ (VR.sl_new (by omega) rfl l2 (by omega) (by simp only [maxLen]; omega) (by simp [hsz]))
        · have hk' : k < a.den.toNat := by
            split at hk
            · simp [Con.num, E.den] at hk
            · exact hk
          simp only [List.size_toArray, hsz]
          refine ⟨Nat.mul_le_mul_right _ (by omega), ?_⟩
          split
          · simp [Con.num, E.den] at hk
          · intro e' he'
            have hr := RowR.rowsOf (ρ := ρ) (sz := i.sz) b.den.toNat _ _ ((VRs.zero i.zero).rep b.den.toNat) k (by omega)
            have e1 : k * i.sz + i.sz ≤ b.den.toNat * i.sz := by rw [← Nat.succ_mul]; exact Nat.mul_le_mul_right _ (by omega)
            have : List.take i.sz (List.drop (k * i.sz) (List.replicate b.den.toNat i.zero).flatten) = i.zero := by
              have key : ∀ (n k : Nat), k < n → List.take i.sz (List.drop (k * i.sz) (List.replicate n i.zero).flatten) = i.zero := by
                intro n
                induction n with
                | zero => intro k hk; omega
                | succ n ih =>
                  intro k hk
                  rw [List.replicate_succ, List.flatten_cons]
                  cases k with
                  | zero => rw [Nat.zero_mul, List.drop_zero, ← hok.len, List.take_left]
                  | succ k =>
                    have e2 : (k + 1) * i.sz = i.zero.length + k * i.sz := by rw [Nat.succ_mul, hok.len]; omega
                    rw [e2, List.drop_append, List.drop_of_length_le (by omega)]
                    simp only [Nat.add_sub_cancel_left, List.nil_append]
                    exact ih k (by omega)
              exact key _ _ (by omega)
            rw [this]
            exact VRs.zero i.zero
        · have hlt : ¬ (b.den < 0 ∨ 281474976710656 < (i.bytes : Int) * b.den) := by omega
          have e3 : ∀ n, (if n = 0 then (pure #[] : Sem (Array Value)) else do pure (← zeroValue e).cells).run P w = .ok (if n = 0 then #[] else i.zero.toArray) w := by
            intro n
            split
            · rfl
            · simp [hz, hzl]
          have e4 : ((Array.range (b.den.toNat * i.sz)).map fun k => (if b.den.toNat * i.sz = 0 then (#[] : Array Value) else i.zero.toArray)[k % (if b.den.toNat * i.sz = 0 then (#[] : Array Value) else i.zero.toArray).size]!) = (List.replicate b.den.toNat i.zero).flatten.toArray := by
            by_cases h0 : b.den.toNat * i.sz = 0
            · have hl0 : b.den.toNat = 0 := by rcases Nat.mul_eq_zero.1 h0 with h | h; exact h; have := hok.pos; omega
              rw [hl0]
              simp
            · simp only [if_neg h0]
              have := range_flat i.zero b.den.toNat (by rw [hok.len]; exact hok.pos)
              rw [hok.len] at this
              exact this
          have hcnd : ((b.den < 0 || decide ((i.bytes : Int) * b.den > 2 ^ 48)) || (decide (a.den < 0)) || decide (a.den > b.den)) = false := by
            simp; omega
          simp only [execOp, hop, el, ec, Instr.makeSlice, Sem.run_bind, run_underlying hu, Result.andThen_ok, asInt, asIntOf, Sem.run_pure, typeInfo, run_program, hi, hw1, hw2, hs2]
          rw [if_neg (by simpa using hcnd)]
          simp only [Sem.run_bind, Sem.run_pure, Result.andThen_ok, run_askRoom, sizeOf_of hok]
          by_cases h0 : b.den.toNat * i.sz = 0
          · rw [if_pos h0]
            simp only [if_pos h0] at e4
            simp only [Sem.run_bind, Sem.run_pure, Result.andThen_ok, e4, newRow, newObj, Sem.run]
            rfl
          · rw [if_neg h0]
            simp only [if_neg h0] at e4
            simp only [Sem.run_bind, Sem.run_pure, Result.andThen_ok, hz, hzl, e4, newRow, newObj, Sem.run]
            rfl
      · cases h
    · cases h
  case h_16 t x lo hi hop =>
    split at h
    · rename_i e i hei
      obtain ⟨hu, hok⟩ := elemOf?_ok hτ hei
      split at h
      · rename_i id sz row len hb hx
        split at h
        · rename_i hsz
          have hv := hev x
          rw [hx] at hv
          have opt : ∀ y : Option Operand, (y.map s.eval = none ∧ y.map ev = none) ∨ ∃ a b, y.map s.eval = some a ∧ y.map ev = some b ∧ VR ρ a b := by
            intro y
            cases y with
            | none => exact .inl ⟨rfl, rfl⟩
            | some y => exact .inr ⟨_, _, rfl, rfl, hev y⟩
          obtain ⟨h1, h2, z, h3, h4⟩ := sliceA_sound (P := P) (w := w) hu hok hv (opt lo) (opt hi) (fun _ _ _ _ _ e => by cases e; exact hsz) h hn
          exact .same hm h1 h2 (u := z) (by simp [execOp, hop, h3]) h4
        · cases h
      · cases h
    · cases h
  case h_17 t x f hop =>
    split at h
    · rename_i id sz row fld off hx hof
      cases h
      obtain ⟨gs, g, hd, hg, rfl, j, hj⟩ := placeOK hτ hof
      have hv := hev x
      rw [hx] at hv
      obtain ⟨h1, h2, h3⟩ := hv
      have hsz := sizeOf_of (hτ _ j hj) w
      have hpos := (hτ _ j hj).pos
      have hne : j.sz ≠ 0 := by omega
      refine .same hm rfl rfl (u := .pointer (some ⟨ρ.β id, ρ.o id + (row.den.toNat * sz + (fld + g.offset)), none⟩)) ?_ ⟨h1, h2, rfl⟩
      simp [execOp, hop, h3, Instr.fieldAt, run_underlying hd, hg, Instr.sureAddr, fieldPlace, hsz, hne, addr_add, Nat.add_assoc]
    · cases h
  case h_18 t x ix hop =>
    split at h
    · rename_i e0 ti id sz row len hi0 k e lo hi hei hx hix
      split at h
      · rename_i hsz
        subst hsz
        cases h
        obtain ⟨hu, hok⟩ := elemOf?_ok hτ hei
        rw [B.den_mkAnd, B.den_mkLe, B.den_mkLt] at hn
        simp only [Bool.and_eq_true, decide_eq_true_eq] at hn
        simp only [E.den] at hn
        obtain ⟨n1, n2⟩ := hn
        have hv := hev x
        rw [hx] at hv
        obtain ⟨hal, h0, h1, _, a, c, e1, h2, _, h3⟩ := hv
        have hi' := hev ix
        rw [hix] at hi'
        obtain ⟨e2, _, _⟩ := hi'
        obtain ⟨rfl, _⟩ := slAt_pos h3 (by omega)
        have hlt : e.den < (len.den.toNat : Int) := by omega
        refine .same hm rfl rfl (u := .pointer (some ⟨ρ.β id, ρ.o id + row.den.toNat * ti.sz + e.den.toNat * ti.sz, none⟩)) ?_ ⟨hal, by rw [E.den_mkAdd]; omega, ?_⟩
        · simp only [execOp, hop, e1, e2, Instr.indexAt, asIntOf, Sem.run_bind, Sem.run_pure, Result.andThen_ok, run_underlying hu]
          rw [if_pos ⟨n1, hlt⟩]
          simp only [Sem.run_bind, Sem.run_pure, Result.andThen_ok, sizeOf_of hok, addr_add]
        · rw [E.den_mkAdd]
          have e3 : (row.den + e.den).toNat = row.den.toNat + e.den.toNat := by omega
          rw [e3, Nat.add_mul, Nat.add_zero, ← Nat.add_assoc]
      · cases h
    · cases h
  case h_19 t ix hop =>
    split at h
    · rename_i l hl
      split at h
      · rename_i v0 hv0
        cases h
        have hv := hev t
        rw [hl] at hv
        obtain ⟨vs, e1, h2⟩ := hv
        obtain ⟨u, h3, h4⟩ := h2.get ix _ hv0
        exact .same hm rfl rfl (u := u) (by simp [execOp, hop, e1, Instr.extract, h3]) h4
      · cases h
    · cases h
  case h_20 c hop =>
    obtain ⟨callee, cargs, tys⟩ := c
    cases callee with
    | value f0 => simp only [callA] at h; split at h <;> cases h
    | invoke r m => simp only [callA] at h; cases h
    | builtin b =>
      simp only [callA] at h
      obtain ⟨z, w', ρ', h1, h2, h3, h4, h5⟩ := builtinA_sound hτ hm hf (ty := o.type) (cs := cargs.map fun | .const _ => true | _ => false) (VRs.operands hev cargs.toList) h hn
      refine ⟨.value z, w', ρ', z, ?_, .inl rfl, h2, h3, h4, h5⟩
      have e : cargs.map ev = (cargs.toList.map ev).toArray := by apply Array.toList_inj.1; simp
      simp only [execOp, hop, resolve, invoke, Sem.run_bind, Sem.run_pure, Result.andThen_ok, e]
      exact h1
  case h_21 t x hh mm hop =>
    split at h
    · rename_i e i hei
      obtain ⟨hu, hok⟩ := elemOf?_ok hτ hei
      split at h
      · rename_i id sz row len hb b1 l1 u1 c1 l2 u2 hx hb1 hc1
        split at h
        · rename_i hsz
          subst hsz
          cases h
          have hv := hev x
          rw [hx] at hv
          obtain ⟨hal, g2, g3, g4, a, c, e1, g5, g6, g7⟩ := hv
          have hvb := hev hh
          rw [hb1] at hvb
          obtain ⟨e2, _, _⟩ := hvb
          have hvc := hev mm
          rw [hc1] at hvc
          obtain ⟨e3, _, _⟩ := hvc
          rw [B.den_mkAnd, B.den_mkAnd, B.den_mkLe, B.den_mkLe, B.den_mkLe] at hn
          simp only [Bool.and_eq_true, decide_eq_true_eq] at hn
          simp only [E.den] at hn
          obtain ⟨n1, n2, n3⟩ := hn
          refine .same hm rfl rfl (u := .slice (if c1.den.toNat = 0 then a else a.map (·.add 0)) b1.den.toNat c1.den.toNat) ?_ ⟨hal, g2, n1, by omega, _, c1.den.toNat, rfl, by omega, by omega, ?_⟩
          · have k1 : (Instr.sliceBounds true len.den.toNat c none (some (.int .i64 b1.den)) (some (.int .i64 c1.den))).run P w = .ok (0, b1.den.toNat, c1.den.toNat) w := by
              simp [Instr.sliceBounds, sliceBound_ok (P := P) (w := w) .i64 c1.den c .slice3Acap (by omega) (by omega), sliceBound_ok (P := P) (w := w) .i64 b1.den c1.den.toNat .slice3B n1 (by omega)]
            simp [execOp, hop, e1, e2, e3, Instr.sliceAt, Instr.slice, run_underlying hu, k1, sizeOf_of hok]
          · by_cases h0 : c1.den.toNat = 0
            · rw [if_pos h0]
              cases a with
              | none => exact h0
              | some a => exact .inl h0
            · rw [if_neg h0]
              obtain ⟨rfl, h8⟩ := slAt_pos g7 (by omega)
              refine .inr ⟨by simp only [addr_add, Nat.add_zero], Nat.le_trans (Nat.mul_le_mul_right _ (by omega)) h8⟩
        · cases h
      · cases h
    · cases h
  all_goals first | (cases h; done) | skip


/-- ρ' reads under the new numbers what ρ reads under the old. -/
structure Ren (σ : Nat → Option Nat) (ρ ρ' : Rho) : Prop where
  al : ∀ i j, ρ.al i → σ i = some j → ρ'.al j
  β : ∀ i j, ρ.al i → σ i = some j → ρ'.β j = ρ.β i
  γ : ∀ i j, ρ.al i → σ i = some j → ρ'.γ j = ρ.γ i
  o : ∀ i j, ρ.al i → σ i = some j → ρ'.o j = ρ.o i
theorem bnd_renL (σ : Nat → Option Nat) (l : List AV) : AV.bnd (AV.renL σ l) = AV.bnd l := by
  cases l with
  | nil => rfl
  | cons a l =>
    cases a with
    | ptr id sz row fld => simp only [AV.renL, AV.ren]; cases σ id <;> rfl
    | sl id sz row len hi => simp only [AV.renL, AV.ren]; cases σ id <;> rfl
    | _ => rfl
mutual
theorem VR.ren {σ : Nat → Option Nat} {ρ ρ' : Rho} (h : Ren σ ρ ρ') : ∀ (a : AV) (v : Value), VR ρ a v → VR ρ' (a.ren σ) v
  | .any, _, _ => trivial
  | .int .., _, hv => hv
  | .bool _, _, hv => hv
  | .ptr id sz row fld, v, ⟨h1, h2, h3⟩ => by
    unfold AV.ren
    split
    · rename_i j hj
      exact ⟨h.al _ _ h1 hj, h2, by rw [h.β _ _ h1 hj, h.o _ _ h1 hj]; exact h3⟩
    · trivial
  | .sl id sz row len hi, v, ⟨h1, h2, h3, h4, a, c, h5, h6, h7, h8⟩ => by
    unfold AV.ren
    split
    · rename_i j hj
      refine ⟨h.al _ _ h1 hj, h2, h3, h4, a, c, h5, h6, h7, ?_⟩
      cases a with
      | none => exact h8
      | some a => unfold SlAt at h8 ⊢; rw [h.β _ _ h1 hj, h.γ _ _ h1 hj, h.o _ _ h1 hj]; exact h8
    · trivial
  | .agg l, v, ⟨vs, h1, h2⟩ => ⟨vs, h1, VRs.ren h l vs h2⟩
  | .tup l, v, ⟨vs, h1, h2⟩ => ⟨vs, h1, VRs.ren h l vs h2⟩
  | .fn _ l, v, ⟨vs, h1, h2⟩ => ⟨vs, by rw [bnd_renL]; exact h1, VRs.ren h l vs h2⟩
  | .raw _, _, hv => hv
theorem VRs.ren {σ : Nat → Option Nat} {ρ ρ' : Rho} (h : Ren σ ρ ρ') : ∀ (l : List AV) (vs : List Value), VRs ρ l vs → VRs ρ' (AV.renL σ l) vs
  | [], _, hv => hv
  | a :: l, vs, ⟨v, ws, e, h1, h2⟩ => ⟨v, ws, e, VR.ren h a v h1, VRs.ren h l ws h2⟩
end
theorem Con.num_ren (σ : Nat → Option Nat) : ∀ (c : Con), (c.ren σ).num = c.num
  | .lit rows => by simp [Con.ren, Con.num]
  | .sym _ _ => rfl
  | .snoc c r => by simp [Con.ren, Con.num, Con.num_ren σ c]
  | .set c _ _ => by simp [Con.ren, Con.num, Con.num_ren σ c]
theorem RowR.ren {σ : Nat → Option Nat} {ρ ρ' : Rho} (h : Ren σ ρ ρ') : ∀ {c : Con} {i : Nat} {vs : List Value}, RowR ρ c i vs → RowR ρ' (c.ren σ) i vs
  | .lit rows, i, _, ⟨r, h1, h2⟩ => ⟨AV.renL σ r, by simp [h1], VRs.ren h r _ h2⟩
  | .sym _ _, _, _, h1 => fun e he => VRs.ren h _ _ (h1 e he)
  | .snoc c _, _, _, ⟨h1, h2⟩ => by
    unfold Con.ren RowR
    rw [Con.num_ren]
    exact ⟨fun e => (h1 e).ren h, fun e => VRs.ren h _ _ (h2 e)⟩
  | .set _ _ _, _, _, ⟨h1, h2⟩ => ⟨fun e => VRs.ren h _ _ (h1 e), fun e => (h2 e).ren h⟩
theorem MR.ren {σ : Nat → Option Nat} {ρ ρ' : Rho} (h : Ren σ ρ ρ') {w : World} {i j : Nat} {b : Blk} (hM : MR ρ w i b) (hi : ρ.al i) (hj : σ i = some j) : MR ρ' w j (b.ren σ) := by
  obtain ⟨h1, h2⟩ := hM
  refine ⟨h1, ?_⟩
  rw [h.γ i j hi hj, h.β i j hi hj, h.o i j hi hj]
  simp only [Blk.ren, Con.num_ren]
  rcases h2 with h2 | ⟨ho, cs, a, b', c⟩ | ⟨h3, h4, h5, c⟩
  · exact .inl h2
  · exact .inr (.inl ⟨ho, cs, a, b', fun k hk => ⟨(c k hk).1, (c k hk).2.ren h⟩⟩)
  · refine .inr (.inr ⟨h3, h4, h5, fun k hk => ?_⟩)
    obtain ⟨vs, e1, e2, e3⟩ := c k hk
    exact ⟨vs, e1, e2, e3.ren h⟩

theorem idxOf_spec : ∀ (σ : List Nat) (id n j : Nat), idxOf σ id n = some j → n ≤ j ∧ σ[j - n]? = some id
  | [], _, _, _, h => by cases h
  | x :: l, id, n, j, h => by
    simp only [idxOf] at h
    split at h
    · rename_i hx
      cases h
      subst hx
      simp
    · have h' := h
      have h2 : idxOf l id (n + 1) = some j := by
        cases l <;> first | (simp [idxOf] at h'; done) | simpa [idxOf] using h'
      obtain ⟨h3, h4⟩ := idxOf_spec l id (n + 1) j h2
      refine ⟨by omega, ?_⟩
      have e : j - n = (j - (n + 1)) + 1 := by omega
      rw [e]
      simpa using h4
def wrOf (mem : List (Option Blk)) (id : Nat) : Bool := match blkOf mem id with
  | some b => b.wr
  | none => true
/-- What is seen of a call. -/
def Runs (P : Program) (f : FuncId) (args : List AV) (mem : List (Option Blk)) (Post : AV → List (Option Blk) → Prop) : Prop :=
  ∀ (w : World) (F : Nat → Prop) (ρ : Rho) (vs : List Value), MRel w F ρ mem w → (∀ id, ρ.al id → id < mem.length) → VRs ρ args vs →
    (callFunc f vs.toArray).run P w = .ok (.enter f vs.toArray) w ∧
    Calls P f vs.toArray w fun e w' => ∃ r m' ρ' v, e = .returned v ∧ Post r m' ∧ VR ρ' r v ∧ MRel w F ρ' m' w' ∧ (∀ id, ρ'.al id → id < m'.length) ∧ mem.length ≤ m'.length ∧
      (∀ id, id < mem.length → ρ.al id → ρ'.al id ∧ ρ'.β id = ρ.β id ∧ ρ'.γ id = ρ.γ id ∧ ρ'.o id = ρ.o id) ∧ (∀ id b, blkOf m' id = some b → b.wr = wrOf mem id)

theorem blkOf_small (mem : List (Option Blk)) (σ : List Nat) (j : Nat) : blkOf (small mem σ) j = (σ[j]?).bind fun id => (blkOf mem id).map (·.ren fun i => idxOf σ i 0) := by
  unfold blkOf small
  rw [List.getElem?_map]
  cases σ[j]? with
  | none => rfl
  | some id => cases h : (mem[id]?).join <;> simp [h]
theorem upd_mem : ∀ (l : List (Nat × Option Blk)) (s : S) (id : Nat), (∀ x ∈ l, x.1 ≠ id) → blkOf (s.upd l).mem id = blkOf s.mem id
  | [], _, _, _ => rfl
  | (i, b) :: rest, s, id, h => by
    rw [S.upd, upd_mem rest _ id fun x hx => h x (by simp [hx]), blkOf_setAt, if_neg (fun e => h (i, b) (by simp) e.symm)]
theorem upd_len : ∀ (l : List (Nat × Option Blk)) (s : S), s.mem.length ≤ (s.upd l).mem.length ∧ ∀ x ∈ l, x.1 < (s.upd l).mem.length
  | [], s => ⟨Nat.le_refl _, by simp⟩
  | (i, b) :: rest, s => by
    obtain ⟨h1, h2⟩ := upd_len rest { s with mem := setAt s.mem i b }
    simp only [length_setAt] at h1
    rw [S.upd]
    refine ⟨by omega, fun x hx => ?_⟩
    rcases List.mem_cons.1 hx with rfl | hx
    · show i < _; omega
    · exact h2 x hx
theorem upd_tmps : ∀ (l : List (Nat × Option Blk)) (s : S), (s.upd l).tmps = s.tmps ∧ (s.upd l).np = s.np
  | [], _ => ⟨rfl, rfl⟩
  | (_, _) :: rest, s => upd_tmps rest _
theorem inject_get (σ : List Nat) (fresh : Nat) : ∀ (m : List (Option Blk)) (i : Nat) (x : Nat × Option Blk), x ∈ inject σ fresh m i → ∃ j b, m[j]? = some b ∧ x = (back σ fresh (i + j), b.map (·.ren fun j => some (back σ fresh j)))
  | [], _, _, h => by simp [inject] at h
  | b :: l, i, x, h => by
    simp only [inject, List.mem_cons] at h
    rcases h with rfl | h
    · exact ⟨0, b, rfl, rfl⟩
    · obtain ⟨j, b', h1, h2⟩ := inject_get σ fresh l (i + 1) x h
      exact ⟨j + 1, b', by simpa using h1, by rw [h2]; congr 2; omega⟩
/-- The memory behind the call, read at the place of the callee's block j. -/
theorem upd_inject (σ : List Nat) (fresh : Nat) (hinj : ∀ i j, back σ fresh i = back σ fresh j → i = j) : ∀ (m : List (Option Blk)) (i : Nat) (s : S) (j : Nat), j < m.length →
    blkOf (s.upd (inject σ fresh m i)).mem (back σ fresh (i + j)) = (blkOf m j).map (·.ren fun j => some (back σ fresh j))
  | [], _, _, _, h => by simp at h
  | b :: l, i, s, 0, _ => by
    rw [inject, S.upd, upd_mem]
    · rw [blkOf_setAt, Nat.add_zero, if_pos rfl]
      simp [blkOf]
    · intro x hx e
      obtain ⟨j, b', _, rfl⟩ := inject_get σ fresh l (i + 1) x hx
      have := hinj _ _ e
      omega
  | b :: l, i, s, j + 1, h => by
    rw [inject, S.upd]
    have := upd_inject σ fresh hinj l (i + 1) { s with mem := setAt s.mem (back σ fresh i) (b.map (·.ren fun j => some (back σ fresh j))) } j (by simpa using h)
    have e : i + 1 + j = i + (j + 1) := by omega
    rw [e] at this
    rw [this]
    simp [blkOf]
theorem back_inj (σ : List Nat) (fresh : Nat) (hn : σ.Nodup) (hlt : ∀ x ∈ σ, x < fresh) : ∀ i j, back σ fresh i = back σ fresh j → i = j := by
  intro i j h
  unfold back at h
  by_cases hi : i < σ.length
  · by_cases hj : j < σ.length
    · rw [List.getD_eq_getElem?_getD, List.getD_eq_getElem?_getD, List.getElem?_eq_getElem hi, List.getElem?_eq_getElem hj] at h
      have hp := List.pairwise_iff_getElem.1 hn
      simp only [Option.getD_some] at h
      rcases Nat.lt_trichotomy i j with hlt' | he | hgt
      · exact absurd h (hp i j hi hj hlt')
      · exact he
      · exact absurd h.symm (hp j i hj hi hgt)
    · have := hlt _ (List.getElem_mem hi)
      rw [List.getD_eq_getElem?_getD, List.getD_eq_getElem?_getD, List.getElem?_eq_getElem hi, List.getElem?_eq_none (by omega)] at h
      simp at h
      omega
  · by_cases hj : j < σ.length
    · have := hlt _ (List.getElem_mem hj)
      rw [List.getD_eq_getElem?_getD, List.getD_eq_getElem?_getD, List.getElem?_eq_getElem hj, List.getElem?_eq_none (by omega)] at h
      simp at h
      omega
    · rw [List.getD_eq_getElem?_getD, List.getD_eq_getElem?_getD, List.getElem?_eq_none (by omega), List.getElem?_eq_none (by omega)] at h
      simp at h
      omega
theorem back_old (σ : List Nat) (fresh i : Nat) (hi : i < σ.length) : back σ fresh i = σ[i] := by
  unfold back; rw [List.getD_eq_getElem?_getD, List.getElem?_eq_getElem hi]; rfl
theorem back_new (σ : List Nat) (fresh i : Nat) (hi : σ.length ≤ i) : back σ fresh i = fresh + (i - σ.length) := by
  unfold back; rw [List.getD_eq_getElem?_getD, List.getElem?_eq_none hi]; rfl


theorem call_sound {P : Program} {f : FuncId} {args : List AV} {s : S} {σ : List Nat} {Post : AV → List (Option Blk) → Prop} (hR : Runs P f (AV.renL (fun i => idxOf σ i 0) args) (small s.mem σ) Post)
    (hnd : σ.Nodup) (hlive : ∀ id ∈ σ, (blkOf s.mem id).isSome = true) {w0 : World} {F : Nat → Prop} {ρ : Rho} {w : World} (hm : MRel w0 F ρ s.mem w) (hfr : ∀ id, ρ.al id → id < s.mem.length) {vs : List Value} (hv : VRs ρ args vs) :
    (callFunc f vs.toArray).run P w = .ok (.enter f vs.toArray) w ∧
    Calls P f vs.toArray w fun e w' => ∃ r m' ρ'' v, e = .returned v ∧ Post r m' ∧ VR ρ'' (r.ren fun j => some (back σ s.mem.length j)) v ∧ MRel w0 F ρ'' (s.upd (inject σ s.mem.length m' 0)).mem w' ∧ ρ.le ρ'' none ∧
      (∀ id, ρ''.al id → id < (s.upd (inject σ s.mem.length m' 0)).mem.length) ∧
      (∀ id b, blkOf (s.upd (inject σ s.mem.length m' 0)).mem id = some b → (∃ b0, blkOf s.mem id = some b0 ∧ b.wr = b0.wr) ∨ (s.mem.length ≤ id ∧ b.wr = true)) ∧ (m'.length = σ.length → ∀ id, ρ''.al id → ρ.al id) ∧
      (∀ id c, id ∉ σ → blkOf s.mem id = some c → ρ.γ id ≠ 0 → w'.heap[ρ.β id]? = w.heap[ρ.β id]?) := by
  have hal : ∀ id ∈ σ, ρ.al id := fun id hid => by
    obtain ⟨b, hb⟩ := Option.isSome_iff_exists.1 (hlive id hid)
    exact (hm.blk id b hb).1
  have hlt : ∀ id ∈ σ, id < s.mem.length := fun id hid => hfr id (hal id hid)
  generalize hfresh : s.mem.length = fresh at *
  have hget : ∀ (i id : Nat), σ[i]? = some id → i < σ.length ∧ σ.getD i 0 = id ∧ ρ.al id ∧ id < fresh := fun i id h => by
    have hi := (List.getElem?_eq_some_iff.1 h).1
    exact ⟨hi, by rw [List.getD_eq_getElem?_getD, h]; rfl, hal id (List.mem_of_getElem? h), hlt id (List.mem_of_getElem? h)⟩
  -- the callee's reading
  let ρs : Rho := ⟨fun i => ρ.β (σ.getD i 0), fun i => ρ.γ (σ.getD i 0), fun i => i < σ.length, fun i => ρ.o (σ.getD i 0)⟩
  have hren : Ren (fun i => idxOf σ i 0) ρ ρs := by
    refine ⟨fun i j _ hj => ?_, fun i j _ hj => ?_, fun i j _ hj => ?_, fun i j _ hj => ?_⟩ <;> (obtain ⟨_, h2⟩ := idxOf_spec σ i 0 j hj; obtain ⟨h3, h4, _⟩ := hget _ _ h2)
    · simpa using h3
    · show ρ.β (σ.getD j 0) = ρ.β i
      simp only [Nat.sub_zero] at h4
      rw [h4]
    · show ρ.γ (σ.getD j 0) = ρ.γ i
      simp only [Nat.sub_zero] at h4
      rw [h4]
    · show ρ.o (σ.getD j 0) = ρ.o i
      simp only [Nat.sub_zero] at h4
      rw [h4]
  let Fs : Nat → Prop := fun k => ∃ id b, id ∈ σ ∧ blkOf s.mem id = some b ∧ b.wr = true ∧ ρ.γ id ≠ 0 ∧ ρ.β id = k
  have hsm : ∀ j c, blkOf (small s.mem σ) j = some c → ∃ id b, σ[j]? = some id ∧ blkOf s.mem id = some b ∧ c = b.ren (fun i => idxOf σ i 0) ∧ ρs.β j = ρ.β id ∧ ρs.γ j = ρ.γ id := by
    intro j c hc
    rw [blkOf_small] at hc
    cases hj : σ[j]? with
    | none => rw [hj] at hc; cases hc
    | some id =>
      rw [hj] at hc
      simp only [Option.bind_some] at hc
      cases hb : blkOf s.mem id with
      | none => rw [hb] at hc; cases hc
      | some b =>
        rw [hb] at hc
        obtain ⟨_, h4, _⟩ := hget _ _ hj
        refine ⟨id, b, rfl, hb, (Option.some.inj hc).symm, ?_, ?_⟩
        · show ρ.β (σ.getD j 0) = _; rw [h4]
        · show ρ.γ (σ.getD j 0) = _; rw [h4]
  have ndj : ∀ (i j id : Nat), σ[i]? = some id → σ[j]? = some id → i = j := by
    intro i j id hi hj
    refine back_inj σ fresh hnd hlt i j ?_
    unfold back
    rw [List.getD_eq_getElem?_getD, List.getD_eq_getElem?_getD, hi, hj]
    rfl
  have idx_self : ∀ (j id : Nat), σ[j]? = some id → idxOf σ id 0 = some j := by
    have key : ∀ (l : List Nat) (id n : Nat), id ∈ l → ∃ j, idxOf l id n = some j := by
      intro l
      induction l with
      | nil => intro id n h; cases h
      | cons x l ih =>
        intro id n h
        simp only [idxOf]
        split
        · exact ⟨n, rfl⟩
        · rename_i hx
          rcases List.mem_cons.1 h with h | h
          · exact absurd h.symm hx
          · exact ih id (n + 1) h
    intro j id hj
    obtain ⟨k, hk⟩ := key σ id 0 (List.mem_of_getElem? hj)
    obtain ⟨_, h2⟩ := idxOf_spec σ id 0 k hk
    rw [hk]
    congr 1
    exact ndj k j id (by simpa using h2) hj
  have hmS : MRel w Fs ρs (small s.mem σ) w := by
    refine ⟨fun j c hc => ?_, fun i j b c hb hc hne gi gj hwr => ?_, fun i b hb hwr hg => ?_, FrameW.refl w Fs⟩
    · obtain ⟨id, b, h1, h2, rfl, h4, h5⟩ := hsm j c hc
      exact ⟨(hget _ _ h1).1, ((hm.blk id b h2).2).ren hren (hget _ _ h1).2.2.1 (idx_self j id h1)⟩
    · obtain ⟨id, b0, h1, h2, rfl, h4, h5⟩ := hsm i b hb
      obtain ⟨id', c0, h1', h2', rfl, h4', h5'⟩ := hsm j c hc
      rw [h4, h4']
      rw [h5] at gi
      rw [h5'] at gj
      exact hm.inj id id' b0 c0 h2 h2' (fun e => by subst e; exact hne (ndj i j id h1 h1')) gi gj hwr
    · obtain ⟨id, b0, h1, h2, rfl, h4, h5⟩ := hsm i b hb
      rw [h4]
      rw [h5] at hg
      exact .inr ⟨id, b0, List.mem_of_getElem? h1, h2, hwr, hg, rfl⟩
  have hsl : (small s.mem σ).length = σ.length := by simp [small]
  obtain ⟨hc, hC⟩ := hR w Fs ρs vs hmS (fun id h => by rw [hsl]; exact h) (VRs.ren hren args vs hv)
  refine ⟨hc, hC.mono ?_⟩
  rintro e w' ⟨r, m', ρ', v, rfl, hP, hvr, hm', hfr', hlen, hold, hnew⟩
  rw [hsl] at hlen hold
  have hnewt : ∀ j c0, σ.length ≤ j → blkOf m' j = some c0 → c0.wr = true := fun j c0 h h1 => by
    rw [hnew j c0 h1]
    unfold wrOf
    rw [blkOf_small, List.getElem?_eq_none h]
    rfl
  -- the caller's reading behind the call
  let ρ2 : Rho := ⟨fun id => if id < fresh then ρ.β id else ρ'.β (id - fresh + σ.length), fun id => if id < fresh then ρ.γ id else ρ'.γ (id - fresh + σ.length), fun id => ρ.al id ∨ (fresh ≤ id ∧ ρ'.al (id - fresh + σ.length)), fun id => if id < fresh then ρ.o id else ρ'.o (id - fresh + σ.length)⟩
  have hle : ρ.le ρ2 none := ⟨fun id h => .inl h, fun id h _ => if_pos (hfr id h), fun id h _ => if_pos (hfr id h), fun id h _ => if_pos (hfr id h)⟩
  have hback : Ren (fun j => some (back σ fresh j)) ρ' ρ2 := by
    have side : ∀ j, ρ'.al j → (∃ id, σ[j]? = some id ∧ back σ fresh j = id ∧ id < fresh ∧ ρ.al id ∧ ρ'.β j = ρ.β id ∧ ρ'.γ j = ρ.γ id ∧ ρ'.o j = ρ.o id) ∨ (σ.length ≤ j ∧ back σ fresh j = fresh + (j - σ.length)) := by
      intro j hj
      by_cases hlt' : j < σ.length
      · left
        obtain ⟨h3, h4, h5, h5o⟩ := hold j hlt' hlt'
        have hg := List.getElem?_eq_getElem hlt'
        obtain ⟨_, h6, h7, h8⟩ := hget _ _ hg
        refine ⟨σ[j], hg, back_old σ fresh j hlt', h8, h7, ?_, ?_, ?_⟩
        · rw [h4]; show ρ.β (σ.getD j 0) = _; rw [h6]
        · rw [h5]; show ρ.γ (σ.getD j 0) = _; rw [h6]
        · rw [h5o]; show ρ.o (σ.getD j 0) = _; rw [h6]
      · exact .inr ⟨by omega, back_new σ fresh j (by omega)⟩
    refine ⟨fun j k hj hk => ?_, fun j k hj hk => ?_, fun j k hj hk => ?_, fun j k hj hk => ?_⟩ <;> cases hk <;> rcases side j hj with ⟨id, h1, h2, h3, h4, h5, h6, h6o⟩ | ⟨h1, h2⟩
    · rw [h2]; exact .inl h4
    · rw [h2]
      refine .inr ⟨by omega, ?_⟩
      have e : fresh + (j - σ.length) - fresh + σ.length = j := by omega
      rw [e]; exact hj
    · rw [h2, h5]; exact if_pos h3
    · rw [h2]
      have e : fresh + (j - σ.length) - fresh + σ.length = j := by omega
      show (if fresh + (j - σ.length) < fresh then _ else ρ'.β (fresh + (j - σ.length) - fresh + σ.length)) = _
      rw [if_neg (by omega), e]
    · rw [h2, h6]; exact if_pos h3
    · rw [h2]
      have e : fresh + (j - σ.length) - fresh + σ.length = j := by omega
      show (if fresh + (j - σ.length) < fresh then _ else ρ'.γ (fresh + (j - σ.length) - fresh + σ.length)) = _
      rw [if_neg (by omega), e]
    · rw [h2, h6o]; exact if_pos h3
    · rw [h2]
      have e : fresh + (j - σ.length) - fresh + σ.length = j := by omega
      show (if fresh + (j - σ.length) < fresh then _ else ρ'.o (fresh + (j - σ.length) - fresh + σ.length)) = _
      rw [if_neg (by omega), e]
  have hbi := back_inj σ fresh hnd hlt
  have hlook : ∀ id c, blkOf (s.upd (inject σ fresh m' 0)).mem id = some c → (∃ j c0, j < m'.length ∧ back σ fresh j = id ∧ blkOf m' j = some c0 ∧ c = c0.ren (fun j => some (back σ fresh j))) ∨ (id ∉ σ ∧ id < fresh ∧ blkOf s.mem id = some c) := by
    intro id c hc
    by_cases hj : ∃ j, j < m'.length ∧ back σ fresh j = id
    · obtain ⟨j, hj1, hj2⟩ := hj
      left
      have := upd_inject σ fresh hbi m' 0 s j hj1
      rw [Nat.zero_add, hj2] at this
      rw [this] at hc
      cases h0 : blkOf m' j with
      | none => rw [h0] at hc; cases hc
      | some c0 => rw [h0] at hc; exact ⟨j, c0, hj1, hj2, h0, (Option.some.inj hc).symm⟩
    · right
      rw [upd_mem] at hc
      · refine ⟨fun hid => ?_, ?_, hc⟩
        · obtain ⟨j, hj1, hj2⟩ := List.getElem_of_mem hid
          exact hj ⟨j, by omega, by rw [back_old σ fresh j hj1]; exact hj2⟩
        · exact hfr id (hm.blk id c hc).1
      · intro x hx e
        obtain ⟨j, b, h1, rfl⟩ := inject_get σ fresh m' 0 x hx
        refine hj ⟨j, (List.getElem?_eq_some_iff.1 h1).1, ?_⟩
        simpa using e
  -- old blocks that the callee did not see
  have hkeep : ∀ id c, id ∉ σ → blkOf s.mem id = some c → ρ.γ id ≠ 0 → w'.heap[ρ.β id]? = w.heap[ρ.β id]? := by
    intro id c hid hc hg
    refine hm'.fr.block _ ((hm.blk id c hc).2.lt hg) ?_
    rintro ⟨id', b', h1, h2, h3, h4, h5⟩
    exact hm.inj id' id b' c h2 hc (fun e => hid (e ▸ h1)) h4 hg (.inl h3) h5
  have hown' : ∀ j c0, blkOf m' j = some c0 → c0.wr = true → ρ'.γ j ≠ 0 → w.heap.size ≤ ρ'.β j ∨ Fs (ρ'.β j) := fun j c0 h1 h2 h3 => hm'.own j c0 h1 h2 h3
  have hβ2 : ∀ j, ρ'.al j → ρ2.β (back σ fresh j) = ρ'.β j := fun j hj => hback.β j _ hj rfl
  have hγ2 : ∀ j, ρ'.al j → ρ2.γ (back σ fresh j) = ρ'.γ j := fun j hj => hback.γ j _ hj rfl
  have hβo : ∀ id, id < fresh → ρ2.β id = ρ.β id := fun id h => if_pos h
  have hγo : ∀ id, id < fresh → ρ2.γ id = ρ.γ id := fun id h => if_pos h
  -- a block of the callee's lies apart from an old one that it did not see
  have apart : ∀ j c0 id c, blkOf m' j = some c0 → ρ'.γ j ≠ 0 → id ∉ σ → blkOf s.mem id = some c → ρ.γ id ≠ 0 → (c0.wr = true ∨ c.wr = true) → ρ'.β j ≠ ρ.β id := by
    intro j c0 id c h1 h2 h3 h4 h5 h6 e
    have hlt' := (hm.blk id c h4).2.lt h5
    have hseen : ∀ k, Fs k → k ≠ ρ.β id := by
      rintro k ⟨id', b', i1, i2, i3, i4, i5⟩ e'
      exact hm.inj id' id b' c i2 h4 (fun e => h3 (e ▸ i1)) i4 h5 (.inl i3) (i5.trans e')
    by_cases hwr : c0.wr = true
    · rcases hown' j c0 h1 hwr h2 with h | h
      · omega
      · exact hseen _ h e
    · have hcw : c.wr = true := h6.resolve_left hwr
      have hj : j < σ.length := by
        rcases Nat.lt_or_ge j σ.length with h | h
        · exact h
        · exact absurd (hnewt j c0 h h1) hwr
      obtain ⟨a1, a2, a3, _⟩ := hold j hj hj
      have hg := List.getElem?_eq_getElem hj
      obtain ⟨_, b1, _, _⟩ := hget _ _ hg
      obtain ⟨b0, hb0⟩ := Option.isSome_iff_exists.1 (hlive σ[j] (List.getElem_mem hj))
      have e2 : ρ'.β j = ρ.β σ[j] := by rw [a2]; show ρ.β (σ.getD j 0) = _; rw [b1]
      have e3 : ρ'.γ j = ρ.γ σ[j] := by rw [a3]; show ρ.γ (σ.getD j 0) = _; rw [b1]
      exact hm.inj σ[j] id b0 c hb0 h4 (fun e => h3 (e ▸ List.getElem_mem hj)) (by rw [← e3]; exact h2) h5 (.inr hcw) (by rw [← e2]; exact e)
  refine ⟨r, m', ρ2, v, rfl, hP, VR.ren hback r v hvr, ⟨fun id c hc => ?_, fun i j b c hb hc hne gi gj hwr => ?_, fun i b hb hwr hg => ?_, ?_⟩, hle, fun id h => ?_, fun id b hb => ?_, fun hl id h => ?_, hkeep⟩
  · rcases hlook id c hc with ⟨j, c0, _, h2, h3, rfl⟩ | ⟨h1, h2, h3⟩
    · obtain ⟨h4, h5⟩ := hm'.blk j c0 h3
      rw [← h2]
      exact ⟨hback.al j _ h4 rfl, h5.ren hback h4 rfl⟩
    · obtain ⟨h4, h5⟩ := hm.blk id c h3
      exact ⟨.inl h4, h5.kept hle h4 fun hg => hkeep id c h1 h3 hg⟩
  · rcases hlook i b hb with ⟨j1, b0, _, h2, h3, rfl⟩ | ⟨h1, h2, h3⟩ <;> rcases hlook j c hc with ⟨j2, c0, _, k2, k3, rfl⟩ | ⟨k1, k2, k3⟩
    · subst h2 k2
      rw [hβ2 _ (hm'.blk _ _ h3).1, hβ2 _ (hm'.blk _ _ k3).1]
      rw [hγ2 _ (hm'.blk _ _ h3).1] at gi
      rw [hγ2 _ (hm'.blk _ _ k3).1] at gj
      exact hm'.inj j1 j2 b0 c0 h3 k3 (fun e => hne (by rw [e])) gi gj hwr
    · subst h2
      rw [hβ2 _ (hm'.blk _ _ h3).1, hβo j k2]
      rw [hγ2 _ (hm'.blk _ _ h3).1] at gi
      rw [hγo j k2] at gj
      exact apart j1 b0 j c h3 gi k1 k3 gj hwr
    · subst k2
      rw [hβ2 _ (hm'.blk _ _ k3).1, hβo i h2]
      rw [hγ2 _ (hm'.blk _ _ k3).1] at gj
      rw [hγo i h2] at gi
      exact fun e => apart j2 c0 i b k3 gj h1 h3 gi hwr.symm e.symm
    · rw [hβo i h2, hβo j k2]
      rw [hγo i h2] at gi
      rw [hγo j k2] at gj
      exact hm.inj i j b c h3 k3 hne gi gj hwr
  · rcases hlook i b hb with ⟨j1, b0, _, h2, h3, rfl⟩ | ⟨h1, h2, h3⟩
    · subst h2
      rw [hβ2 _ (hm'.blk _ _ h3).1]
      rw [hγ2 _ (hm'.blk _ _ h3).1] at hg
      rcases hown' j1 b0 h3 hwr hg with h | ⟨id', b', i1, i2, i3, i4, i5⟩
      · exact .inl (Nat.le_trans hm.fr.size h)
      · rw [← i5]
        exact hm.own id' b' i2 i3 i4
    · rw [hβo i h2]
      rw [hγo i h2] at hg
      exact hm.own i b h3 hwr hg
  · refine hm.fr.trans hm'.fr (fun k hk hF => ?_)
    obtain ⟨id', b', i1, i2, i3, i4, i5⟩ := hF
    subst i5
    rcases hm.own id' b' i2 i3 i4 with h | h
    · omega
    · exact h
  · have hl := upd_len (inject σ fresh m' 0) s
    rcases h with h | ⟨h1, h2⟩
    · have := hfr id h
      rw [hfresh] at hl
      omega
    · have hj := hfr' _ h2
      have := upd_inject
      have hin : ∃ x ∈ inject σ fresh m' 0, x.1 = id := by
        have gen : ∀ (m : List (Option Blk)) (i j : Nat), j < m.length → ∃ x ∈ inject σ fresh m i, x.1 = back σ fresh (i + j) := by
          intro m
          induction m with
          | nil => intro i j h; simp at h
          | cons b m ih =>
            intro i j h
            cases j with
            | zero => exact ⟨_, by rw [inject]; exact List.mem_cons_self, rfl⟩
            | succ j =>
              obtain ⟨x, h1, h2⟩ := ih (i + 1) j (by simpa using h)
              exact ⟨x, by rw [inject]; exact List.mem_cons_of_mem _ h1, by rw [h2]; congr 1; omega⟩
        obtain ⟨x, hx, he⟩ := gen m' 0 _ hj
        refine ⟨x, hx, ?_⟩
        rw [he, Nat.zero_add, back_new σ fresh _ (by omega)]
        omega
      obtain ⟨x, hx, he⟩ := hin
      have := hl.2 x hx
      omega
  · rcases hlook id b hb with ⟨j, c0, _, h2, h3, rfl⟩ | ⟨h1, h2, h3⟩
    · by_cases hj : j < σ.length
      · left
        obtain ⟨b0, hb0⟩ := Option.isSome_iff_exists.1 (hlive σ[j] (List.getElem_mem hj))
        refine ⟨b0, by rw [← h2, back_old σ fresh j hj]; exact hb0, ?_⟩
        have := hnew j c0 h3
        unfold wrOf at this
        rw [blkOf_small, List.getElem?_eq_getElem hj] at this
        simp only [Option.bind_some, hb0, Option.map_some] at this
        exact this
      · right
        rw [← h2, back_new σ fresh j (by omega)]
        exact ⟨by omega, hnewt j c0 (by omega) h3⟩
    · exact .inl ⟨b, h3, rfl⟩
  · rcases h with h | ⟨h1, h2⟩
    · exact h
    · have := hfr' _ h2
      omega


theorem nodupB_nodup : ∀ l : List Nat, nodupB l = true → l.Nodup
  | [], _ => List.Pairwise.nil
  | x :: l, h => by
    simp only [nodupB, Bool.and_eq_true, Bool.not_eq_true', List.contains_eq_mem] at h
    exact List.nodup_cons.2 ⟨by simpa using h.1, nodupB_nodup l h.2⟩

/-- The memory's changes by one operation. -/
def UpdOK (s : S) (fresh : Nat) (upd : List (Nat × Option Blk)) (fg : Option Nat) : Prop :=
  (upd = [] ∧ fg = none) ∨ (∃ b, upd = [(fresh, some b)] ∧ b.wr = true ∧ fg = none) ∨
  (∃ id b b', s.blk id = some b ∧ b'.wr = b.wr ∧ upd = [(id, some b')] ∧ (fg = none ∨ (fg = some id ∧ s.np ≤ id)))
theorem UpdOK.none_ {s : S} {fresh : Nat} : UpdOK s fresh [] none := .inl ⟨rfl, rfl⟩
theorem loadA_upd {τ s t a v upd fg need touch fresh} (h : loadA τ s t a = .val v upd fg need touch) : UpdOK s fresh upd fg := by
  unfold loadA at h
  revert h
  (repeat' split)
  all_goals (try dsimp only)
  (repeat' split)
  all_goals (intro h; cases h <;> first | exact UpdOK.none_)
theorem storeA_upd {τ s t a x v upd fg need touch fresh} (h : storeA τ s t a x = .val v upd fg need touch) : UpdOK s fresh upd fg := by
  unfold storeA at h
  split at h
  · split at h
    · rename_i b hb
      split at h
      · split at h
        · cases h; exact .inr (.inr ⟨_, b, _, hb, by rfl, rfl, .inl rfl⟩)
        · split at h
          · split at h
            · cases h; exact .inr (.inr ⟨_, b, _, hb, by rfl, rfl, .inl rfl⟩)
            · cases h
          · cases h
      · cases h
    · cases h
  · cases h
theorem binInt_upd {op k a la ha b lb hb v upd fg need touch s fresh} (h : binInt op k a la ha b lb hb = .val v upd fg need touch) : UpdOK s fresh upd fg := by
  revert h
  cases op <;> simp only [binInt, R.pure] <;> (repeat' split) <;> (intro h; cases h) <;> exact UpdOK.none_
theorem binOpA_upd {eqt op t x y v upd fg need touch s fresh} (h : binOpA eqt op t x y = .val v upd fg need touch) : UpdOK s fresh upd fg := by
  unfold binOpA at h
  revert h
  (repeat' split)
  all_goals (intro h; first | exact binInt_upd h | (cases h; exact UpdOK.none_) | cases h)
theorem unOpA_upd {op x v upd fg need touch s fresh} (h : unOpA op x = .val v upd fg need touch) : UpdOK s fresh upd fg := by
  unfold unOpA at h
  revert h
  (repeat' split)
  all_goals (intro h; cases h <;> exact UpdOK.none_)
theorem sliceA_upd {x lo hi v upd fg need touch s fresh} (h : sliceA x lo hi = .val v upd fg need touch) : UpdOK s fresh upd fg := by
  unfold sliceA at h
  revert h
  (repeat' split)
  all_goals (intro h; cases h <;> exact UpdOK.none_)
theorem lenA_upd {x v upd fg need touch s fresh} (h : lenA x = .val v upd fg need touch) : UpdOK s fresh upd fg := by
  unfold lenA at h
  revert h
  (repeat' split)
  all_goals (intro h; cases h <;> exact UpdOK.none_)
theorem appendA_upd {τ s t x y v upd fg need touch fresh} (h : appendA τ fresh s t x y = .val v upd fg need touch) : UpdOK s fresh upd fg := by
  unfold appendA at h
  split at h
  · split at h
    · dsimp only at h
      split at h
      · split at h
        · cases h; exact .inr (.inl ⟨_, rfl, rfl, rfl⟩)
        · split at h
          · rename_i b hb
            split at h
            · rename_i hc
              simp only [Bool.and_eq_true, decide_eq_true_eq] at hc
              cases h
              exact .inr (.inr ⟨_, b, _, hb, by rfl, rfl, .inr ⟨rfl, hc.1.2⟩⟩)
            · cases h
          · cases h
        · cases h
      · cases h
    · cases h
  · cases h
theorem appendZ_upd {τ s t x v upd fg need touch fresh} (h : appendZ τ t x = .val v upd fg need touch) : UpdOK s fresh upd fg := by
  unfold appendZ at h
  revert h
  (repeat' split)
  all_goals (intro h; cases h <;> exact UpdOK.none_)
theorem appendS_upd {τ s t x y v upd fg need touch fresh} (h : appendS τ s t x y = .val v upd fg need touch) : UpdOK s fresh upd fg := by
  unfold appendS at h
  split at h
  · split at h
    · rename_i b ty2 sz' wr2 m2 f2 hb hb2
      split at h
      · rename_i hc
        simp only [Bool.and_eq_true, decide_eq_true_eq] at hc
        cases h
        exact .inr (.inr ⟨_, b, _, hb, by rfl, rfl, .inr ⟨rfl, hc.1.1.1.1.2⟩⟩)
      · cases h
    · cases h
  · cases h
theorem clearA_upd {τ s t x v upd fg need touch fresh} (h : clearA τ s t x = .val v upd fg need touch) : UpdOK s fresh upd fg := by
  unfold clearA at h
  split at h
  · split at h
    · rename_i ty sz' wr n f hb
      split at h
      · cases h
        exact .inr (.inr ⟨_, _, _, hb, by rfl, rfl, .inl rfl⟩)
      · cases h
    · cases h
  · cases h
theorem builtinA_upd {τ fresh s b as tys v upd fg need touch} (h : builtinA τ fresh s b as tys = .val v upd fg need touch) : UpdOK s fresh upd fg := by
  unfold builtinA at h
  revert h
  (repeat' split)
  all_goals (intro h; first | exact lenA_upd h | exact clearA_upd h | exact appendZ_upd h | exact appendS_upd h | exact appendA_upd h | (cases h; exact UpdOK.none_) | cases h)
theorem astep_upd {τ : Tab} {eqt : EqTab} {fresh : Nat} {s : S} {o : Oper} {v upd fg need touch} (h : astep τ eqt fresh s o = .val v upd fg need touch) : UpdOK s fresh upd fg := by
  unfold astep at h
  split at h
  case h_8 => exact loadA_upd h
  case h_9 => exact storeA_upd h
  case h_11 => exact binOpA_upd h
  case h_12 => exact unOpA_upd h
  case h_20 c hop =>
    obtain ⟨callee, cargs, tys⟩ := c
    cases callee with
    | value f0 => simp only [callA] at h; split at h <;> cases h
    | invoke r m => simp only [callA] at h; cases h
    | builtin b => exact builtinA_upd h
  all_goals
    revert h
    (repeat' split)
    all_goals (intro h; first | exact sliceA_upd h | (cases h; exact UpdOK.none_) | (cases h; exact .inr (.inl ⟨_, rfl, rfl, rfl⟩)) | cases h)
end Go.Sym
