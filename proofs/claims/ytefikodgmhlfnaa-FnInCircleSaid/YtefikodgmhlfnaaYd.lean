/- A reckoning of code by values known in part: regions. -/
import Derived.Test.YtefikodgmhlfnaaYc
set_option linter.unusedSimpArgs false
set_option linter.unusedVariables false
namespace Go.Sym


structure Ctx where
  w0 : World
  F : Nat → Prop
  ρ0 : Rho
  np : Nat
  wr : Nat → Bool
structure Rl (C : Ctx) (ρ : Rho) (s : S) (a : Act) (w : World) : Prop where
  tm : TRel ρ s.tmps a.tmps
  df : a.defers = []
  mem : MRel C.w0 C.F ρ s.mem w
  fresh : ∀ id, ρ.al id → id < s.mem.length
  np : s.np = C.np
  len : C.np ≤ s.mem.length
  base : ∀ id, id < C.np → C.ρ0.al id → ρ.al id ∧ ρ.β id = C.ρ0.β id ∧ ρ.γ id = C.ρ0.γ id ∧ ρ.o id = C.ρ0.o id
  wr : ∀ id b, blkOf s.mem id = some b → b.wr = C.wr id
  wrn : ∀ id, C.np ≤ id → C.wr id = true

def LoopRuns (P : Program) (body : Code) (s : S) (R : AX → S → Prop) : Prop :=
  ∀ (C : Ctx) (ρ : Rho) (a : Act) (w : World), Rl C ρ s a w → (Code.loop body).wp P (fun e a' w' => ∃ x s' ρ', e = x.conc ∧ R x s' ∧ Rl C ρ' s' a' w') a w
def T.holds (P : Program) : T → (Fin → Prop) → Prop
  | .done f, Q => Q f
  | .ite c x y, Q => (c.den = true → x.holds P Q) ∧ (c.den = false → y.holds P Q)
  | .need c t, Q => c.den = true ∧ t.holds P Q
  | .call f args mem k, Q => ∃ Post, Runs P f args mem Post ∧ ∀ r m, Post r m → (k r m).holds P Q
  | .loop body s k, Q => ∃ R : AX → S → Prop, LoopRuns P body s R ∧ ∀ x s', R x s' → (k x s').holds P Q
  | .draw ok t, Q => ok = true ∧ t.holds P Q
  | .callD f args mem k, Q => ∃ r m, Runs P f args mem (fun r' m' => r' = r ∧ m' = m) ∧ (k r m).holds P Q
  | .bad _, _ => False

theorem TRel.eval {ρ : Rho} {s : S} {a : Act} (h : TRel ρ s.tmps a.tmps) (x : Operand) : VR ρ (s.eval x) (a.eval x) := by
  cases x with
  | tmp t =>
    show VR ρ (s.tmps.getD t .any) (a.tmps.getD t undef)
    cases ht : a.tmps[t]? with
    | none =>
      have hge : s.tmps.length ≤ t := by rw [← h.1]; exact Array.getElem?_eq_none_iff.1 ht
      rw [List.getD_eq_getElem?_getD, List.getElem?_eq_none hge]
      trivial
    | some v =>
      have := h.2 t v ht
      rw [Array.getD_eq_getD_getElem?, ht]
      exact this
  | const v => exact VR.ofV v
  | global g => trivial
  | func f => exact ⟨[], rfl, rfl⟩
theorem TRel.put {ρ : Rho} {l : List AV} {t : Array Value} (h : TRel ρ l t) (d : Nat) {v : AV} {u : Value} (hv : VR ρ v u) : TRel ρ (l.set d v) (t.setIfInBounds d u) := by
  refine ⟨by simp [h.1], fun i x hx => ?_⟩
  by_cases hi : d = i
  · subst hi
    by_cases hd : d < l.length
    · rw [Array.getElem?_setIfInBounds_self_of_lt (by rw [h.1]; exact hd)] at hx
      cases hx
      rw [List.getD_eq_getElem?_getD, List.getElem?_set_self hd]
      exact hv
    · rw [Array.getElem?_eq_none (by simp [h.1]; omega)] at hx
      cases hx
  · rw [Array.getElem?_setIfInBounds_ne hi] at hx
    have := h.2 i x hx
    rw [List.getD_eq_getElem?_getD, List.getElem?_set_ne hi, ← List.getD_eq_getElem?_getD]
    exact this
theorem TRel.mono {ρ ρ' : Rho} (hρ : ρ.le ρ' none) {l : List AV} {t : Array Value} (h : TRel ρ l t) : TRel ρ' l t := ⟨h.1, fun i v hv => (h.2 i v hv).mono hρ⟩
theorem TRel.forget {ρ ρ' : Rho} {id : Nat} (hρ : ρ.le ρ' (some id)) {l : List AV} {t : Array Value} (h : TRel ρ l t) : TRel ρ' (l.map (·.forget id)) t := by
  refine ⟨by simp [h.1], fun i v hv => ?_⟩
  have := (h.2 i v hv).forget hρ
  rw [List.getD_eq_getElem?_getD] at this ⊢
  rw [List.getElem?_map]
  cases hi : l[i]? with
  | none => trivial
  | some x => rw [hi] at this; exact this
theorem put_tmps (s : S) (dst : Option Nat) (v : AV) : (s.put dst v).mem = s.mem ∧ (s.put dst v).np = s.np := by cases dst <;> exact ⟨rfl, rfl⟩
theorem Rl.put {C : Ctx} {ρ : Rho} {s : S} {a : Act} {w : World} (h : Rl C ρ s a w) (dst : Option Nat) {v : AV} {u : Value} (hv : VR ρ v u) : Rl C ρ (s.put dst v) (a.put dst u) w := by
  cases dst with
  | none => exact h
  | some d => exact ⟨h.tm.put d hv, h.df, h.mem, h.fresh, h.np, h.len, h.base, h.wr, h.wrn⟩
/-- What is known better of a slot. -/
theorem Rl.know {C : Ctx} {ρ : Rho} {s : S} {a : Act} {w : World} (h : Rl C ρ s a w) (d : Nat) {v : AV} (hv : ∀ u, VR ρ (s.tmp d) u → VR ρ v u) : Rl C ρ (s.put (some d) v) a w := by
  refine ⟨⟨by simp [S.put, h.tm.1], fun i x hx => ?_⟩, h.df, h.mem, h.fresh, h.np, h.len, h.base, h.wr, h.wrn⟩
  have := h.tm.2 i x hx
  by_cases hi : d = i
  · subst hi
    have hlt : d < s.tmps.length := by rw [← h.tm.1]; exact (Array.getElem?_eq_some_iff.1 hx).1
    simp only [S.put]
    rw [List.getD_eq_getElem?_getD, List.getElem?_set_self hlt]
    exact hv x this
  · simp only [S.put]
    rw [List.getD_eq_getElem?_getD, List.getElem?_set_ne hi, ← List.getD_eq_getElem?_getD]
    exact this

section
variable {P : Program} {τ : Tab} {eqt : EqTab}
theorem mkNeed_holds {c : B} {t : T} {Q : Fin → Prop} (h : (T.mkNeed c t).holds P Q) : c.den = true ∧ t.holds P Q := by
  unfold T.mkNeed at h
  split at h
  · exact ⟨rfl, h⟩
  · exact h
theorem fg_mem (s : S) (fg : Option Nat) : (s.fg fg).np = s.np ∧ (s.fg fg).mem.length = s.mem.length ∧ ∀ id, blkOf (s.fg fg).mem id = match fg with | some k => (blkOf s.mem id).map (·.forget k) | none => blkOf s.mem id := by
  cases fg with
  | none => exact ⟨rfl, rfl, fun _ => rfl⟩
  | some k => exact ⟨rfl, by simp [S.fg, S.forget], fun id => blkOf_forget s.mem k id⟩
/-- The state behind one operation. -/
theorem Rl.step {C : Ctx} {ρ ρ' : Rho} {s : S} {a : Act} {w w' : World} (h : Rl C ρ s a w) {v : AV} {u : Value} {upd : List (Nat × Option Blk)} {fg : Option Nat} (hle : ρ.le ρ' fg) (hm : MRel C.w0 C.F ρ' ((s.fg fg).upd upd).mem w') (hv : VR ρ' v u)
    {fresh : Nat} (hal : ∀ id, ρ'.al id → ρ.al id ∨ (id = fresh ∧ ∃ b, (fresh, b) ∈ upd)) (hu : UpdOK s s.mem.length upd fg) (dst : Option Nat) : Rl C ρ' (s.apply dst v upd fg) (a.put dst u) w' := by
  have hfg := fg_mem s fg
  have hnp : ((s.fg fg).upd upd).np = C.np := by rw [(upd_tmps upd _).2, hfg.1, h.np]
  have hlen : s.mem.length ≤ ((s.fg fg).upd upd).mem.length := by rw [← hfg.2.1]; exact (upd_len upd _).1
  have htm : TRel ρ' ((s.fg fg).upd upd).tmps a.tmps := by
    rw [(upd_tmps upd _).1]
    cases fg with
    | none => exact h.tm.mono hle
    | some k => exact h.tm.forget hle
  have key : Rl C ρ' ((s.fg fg).upd upd) a w' := by
    refine ⟨htm, h.df, hm, fun id hid => ?_, hnp, by have := h.len; omega, fun id hid h0 => ?_, fun id b hb => ?_, h.wrn⟩
    · rcases hal id hid with h1 | ⟨rfl, b, h1⟩
      · have := h.fresh id h1; omega
      · exact (upd_len upd (s.fg fg)).2 _ h1
    · obtain ⟨h1, h2, h3, h3o⟩ := h.base id hid h0
      have hx : some id ≠ fg := by
        rintro rfl
        rcases hu with ⟨_, e⟩ | ⟨_, _, _, e⟩ | ⟨_, _, _, _, _, _, e | ⟨e, hge⟩⟩
        · cases e
        · cases e
        · cases e
        · cases e; rw [h.np] at hge; omega
      exact ⟨hle.al id h1, (hle.β id h1 hx).trans h2, (hle.γ id h1 hx).trans h3, (hle.o id h1 hx).trans h3o⟩
    · have old : ∀ b, blkOf (s.fg fg).mem id = some b → b.wr = C.wr id := by
        intro b hb
        rw [hfg.2.2] at hb
        cases fg with
        | none => exact h.wr id b hb
        | some k =>
          simp only at hb
          cases h0 : blkOf s.mem id with
          | none => rw [h0] at hb; cases hb
          | some b0 => rw [h0] at hb; cases hb; exact h.wr id b0 h0
      rcases hu with ⟨rfl, rfl⟩ | ⟨b1, rfl, hw, rfl⟩ | ⟨i, b0, b1, hb0, hw, rfl, _⟩
      · exact old b hb
      · simp only [S.upd] at hb
        rw [blkOf_setAt] at hb
        split at hb
        · rename_i e
          cases hb
          rw [hw, h.wrn id (by rw [e]; exact h.len)]
        · exact old b hb
      · simp only [S.upd] at hb
        rw [blkOf_setAt] at hb
        split at hb
        · rename_i e
          cases hb
          rw [hw, e]
          exact h.wr i b0 hb0
        · exact old b hb
  exact key.put dst hv
theorem opsA_step (hτ : ∀ t i, τ t = some i → i.ok P t) (he : EqOK P eqt) {ops : Array Oper} {Q : Fin → Prop} {k : S → T} {C : Ctx} {Q' : Exit → Act → World → Prop} {K : Act → World → Prop} {rest : List Oper} {o : Oper}
    (ih : ∀ s ρ a w, (opsA τ eqt ops rest k s).holds P Q → Rl C ρ s a w → K a w) (s : S) (ρ : Rho) (a : Act) (w : World) (h : (opsA τ eqt ops (o :: rest) k s).holds P Q) (hr : Rl C ρ s a w) :
    if Region.wanted o (yielded ops a.tmps) = true then o.wp P a w K Q' ∨ (o.asks P a w ∧ LetsOut Q') else K (a.put o.dst undef) w := by
    -- the operation is carried out
    have go : ∀ (s : S), Rl C ρ s a w → T.holds P (match astep τ eqt s.mem.length s o with
      | .val v upd fg need _ => T.mkNeed need (opsA τ eqt ops rest k (s.apply o.dst v upd fg))
      | .call f args =>
        let σ := reach s.mem 40 0 (AV.idsL args [])
        if nodupB σ && σ.all (fun id => (s.blk id).isSome) then
          .call f (AV.renL (fun i => idxOf σ i 0) args) (small s.mem σ) fun r m =>
            opsA τ eqt ops rest k (s.apply o.dst (r.ren fun j => some (back σ s.mem.length j)) (inject σ s.mem.length m 0) none)
        else .bad 6
      | .bad => .bad 1) Q → o.wp P a w K Q' := by
      intro s hr h
      have hfresh : ¬ ρ.al s.mem.length := fun e => by have := hr.fresh _ e; omega
      split at h
      · rename_i v upd fg need touch hst
        obtain ⟨h1, h2⟩ := mkNeed_holds h
        obtain ⟨nx, w', ρ', u, e1, e2, e3, e4, e5, e6⟩ := astep_sound hτ he hr.mem hfresh (fun x => hr.tm.eval x) hst h1
        have hr' := hr.step e3 e4 e5 e6 (astep_upd hst) o.dst
        unfold Oper.wp
        rw [e1]
        rcases e2 with rfl | ⟨rfl, rfl⟩
        · exact ih _ ρ' _ _ h2 hr'
        · exact ih _ ρ' _ _ h2 hr'
      · rename_i f args hst
        dsimp only at h
        split at h
        · rename_i hc
          simp only [Bool.and_eq_true] at hc
          obtain ⟨hc1, hc2⟩ := hc
          obtain ⟨Post, hR, hk⟩ := h
          obtain ⟨vs, hv, hex⟩ := astep_call (P := P) (w := w) (fun x => hr.tm.eval x) hst
          obtain ⟨hent, hC⟩ := call_sound hR (nodupB_nodup _ hc1) (fun id hid => List.all_eq_true.1 hc2 id hid) hr.mem hr.fresh hv
          unfold Oper.wp
          rw [hex, hent]
          refine hC.mono ?_
          rintro e w' ⟨r, m', ρ'', v, rfl, hP, hvr, hm', hle, hal, hwr, _⟩
          have hlen := (upd_len (inject (reach s.mem 40 0 (AV.idsL args [])) s.mem.length m' 0) s).1
          have key : Rl C ρ'' (s.upd (inject (reach s.mem 40 0 (AV.idsL args [])) s.mem.length m' 0)) a w' := by
            refine ⟨by rw [(upd_tmps _ _).1]; exact hr.tm.mono hle, hr.df, hm', hal, by rw [(upd_tmps _ _).2]; exact hr.np, by have := hr.len; omega, fun id hid h0 => ?_, fun id b hb => ?_, hr.wrn⟩
            · obtain ⟨h1, h2, h3, h3o⟩ := hr.base id hid h0
              exact ⟨hle.al id h1, (hle.β id h1 (by simp)).trans h2, (hle.γ id h1 (by simp)).trans h3, (hle.o id h1 (by simp)).trans h3o⟩
            · rcases hwr id b hb with ⟨b0, h1, h2⟩ | ⟨h1, h2⟩
              · rw [h2]; exact hr.wr id b0 h1
              · rw [h2, hr.wrn id (by have := hr.len; omega)]
          exact ih _ ρ'' _ _ (hk _ _ hP) (key.put o.dst hvr)
        · exact h.elim
      · exact h.elim
    simp only [opsA] at h
    split at h
    · -- no guard
      rename_i hg
      rw [if_pos (by simp [Region.wanted, hg])]
      exact .inl (go s hr h)
    · rename_i j want hg
      split at h
      · rename_i d hd
        -- what the guard's slot holds
        have slot : ∀ c, s.tmp d = .bool c → yielded ops a.tmps j = some c.den := by
          intro c hc
          unfold yielded
          rw [hd]
          simp only [Option.bind_some]
          have hlt : d < s.tmps.length := by
            rcases Nat.lt_or_ge d s.tmps.length with h | h
            · exact h
            · unfold S.tmp at hc
              rw [List.getD_eq_getElem?_getD, List.getElem?_eq_none h] at hc
              cases hc
          have hsz : d < a.tmps.size := by rw [hr.tm.1]; exact hlt
          rw [Array.getElem?_eq_getElem hsz]
          have := hr.tm.2 d _ (Array.getElem?_eq_getElem hsz)
          unfold S.tmp at hc
          rw [hc] at this
          have this : a.tmps[d] = .bool c.den := this
          rw [this]
        split at h
        · rename_i c hc
          have hy := slot _ hc
          split at h
          · rename_i he
            subst he
            rw [if_pos (by simp [Region.wanted, hg, hy, B.den])]
            exact .inl (go s hr h)
          · rename_i hne
            rw [if_neg (by simp [Region.wanted, hg, hy, B.den, hne])]
            exact ih _ ρ _ _ h (hr.put o.dst rfl)
        · rename_i c _ hc
          have hy := slot _ hc
          have know : ∀ b, c.den = b → Rl C ρ (s.put (some d) (.bool (.lit b))) a w := by
            intro b hb
            refine hr.know d fun u hu => ?_
            rw [hc] at hu
            have hu : u = .bool c.den := hu
            rw [hu, hb]
            rfl
          have yes : c.den = want → T.holds P (match astep τ eqt (s.put (some d) (.bool (.lit want))).mem.length (s.put (some d) (.bool (.lit want))) o with
            | .val v upd fg need _ => T.mkNeed need (opsA τ eqt ops rest k ((s.put (some d) (.bool (.lit want))).apply o.dst v upd fg))
            | .call f args =>
              let σ := reach (s.put (some d) (.bool (.lit want))).mem 40 0 (AV.idsL args [])
              if nodupB σ && σ.all (fun id => ((s.put (some d) (.bool (.lit want))).blk id).isSome) then
                .call f (AV.renL (fun i => idxOf σ i 0) args) (small (s.put (some d) (.bool (.lit want))).mem σ) fun r m =>
                  opsA τ eqt ops rest k ((s.put (some d) (.bool (.lit want))).apply o.dst (r.ren fun j => some (back σ (s.put (some d) (.bool (.lit want))).mem.length j)) (inject σ (s.put (some d) (.bool (.lit want))).mem.length m 0) none)
              else .bad 6
            | .bad => .bad 1) Q →
            (if Region.wanted o (yielded ops a.tmps) = true then o.wp P a w K Q' ∨ (o.asks P a w ∧ LetsOut Q') else K (a.put o.dst undef) w) := by
            intro hw hh
            rw [if_pos (by simp [Region.wanted, hg, hy, hw])]
            exact .inl (go _ (know want hw) hh)
          have no : c.den = !want → (opsA τ eqt ops rest k ((s.put (some d) (.bool (.lit !want))).put o.dst skipV)).holds P Q →
            (if Region.wanted o (yielded ops a.tmps) = true then o.wp P a w K Q' ∨ (o.asks P a w ∧ LetsOut Q') else K (a.put o.dst undef) w) := by
            intro hw hh
            rw [if_neg (by simp [Region.wanted, hg, hy, hw])]
            exact ih _ ρ _ _ hh ((know (!want) hw).put o.dst rfl)
          cases hw : want with
          | true =>
            rw [hw] at h yes no
            simp only [if_true] at h
            cases hcd : c.den with
            | true => exact yes hcd (h.1 hcd)
            | false => exact no hcd (h.2 hcd)
          | false =>
            rw [hw] at h yes no
            simp only [Bool.false_eq_true, if_false] at h
            cases hcd : c.den with
            | true => exact no hcd (h.1 hcd)
            | false => exact yes hcd (h.2 hcd)
        · rename_i x hc
          have hy : yielded ops a.tmps j = none := by
            unfold yielded
            rw [hd]
            simp only [Option.bind_some]
            have hlt : d < s.tmps.length := by
              rcases Nat.lt_or_ge d s.tmps.length with h | h
              · exact h
              · unfold S.tmp at hc
                rw [List.getD_eq_getElem?_getD, List.getElem?_eq_none h] at hc
                cases hc
            have hsz : d < a.tmps.size := by rw [hr.tm.1]; exact hlt
            rw [Array.getElem?_eq_getElem hsz]
            have := hr.tm.2 d _ (Array.getElem?_eq_getElem hsz)
            unfold S.tmp at hc
            rw [hc] at this
            have this : a.tmps[d] = .tuple x := this
            rw [this]
          rw [if_neg (by simp [Region.wanted, hg, hy])]
          exact ih _ ρ _ _ h (hr.put o.dst rfl)
        · exact h.elim
      · exact h.elim
theorem opsA_sound (hτ : ∀ t i, τ t = some i → i.ok P t) (he : EqOK P eqt) {ops : Array Oper} {Q : Fin → Prop} {k : S → T} {C : Ctx} {Q' : Exit → Act → World → Prop}
    (hQ : ∀ s ρ a w, (k s).holds P Q → Rl C ρ s a w → Q' .normal a w) :
    ∀ (l : List Oper) (s : S) (ρ : Rho) (a : Act) (w : World), (opsA τ eqt ops l k s).holds P Q → Rl C ρ s a w → wpList P ops Q' l a w := by
  intro l
  induction l with
  | nil => intro s ρ a w h hr; exact hQ s ρ a w h hr
  | cons o rest ih => intro s ρ a w h hr; exact opsA_step hτ he ih s ρ a w h hr
end


theorem loadA_local {τ s s' t a} {v : AV} {upd fg need touch} (hb : ∀ id ∈ touch, s.blk id = s'.blk id) (h : loadA τ s t a = .val v upd fg need touch) : loadA τ s' t a = .val v upd fg need touch := by
  have key : ∀ id sz row fld i, a = .ptr id sz row fld → τ t = some i → s.blk id = s'.blk id := by
    intro id sz row fld i ha hi
    subst ha
    unfold loadA at h
    rw [hi] at h
    simp only at h
    apply hb
    revert h
    (repeat' split)
    all_goals (try dsimp only)
    (repeat' split)
    all_goals (intro h; first | (cases h; exact List.mem_cons_self) | cases h)
  unfold loadA at h ⊢
  split
  · rename_i id sz row fld i hi
    rw [hi] at h
    simp only at h
    rw [← key id sz row fld i rfl hi]
    exact h
  · rename_i hne
    split at h
    · rename_i id sz row fld i hi
      exact absurd hi (by intro e; exact hne _ _ _ _ _ rfl e)
    · cases h
theorem storeA_local {τ s s' t a x} {v : AV} {upd fg need touch} (hb : ∀ id ∈ touch, s.blk id = s'.blk id) (h : storeA τ s t a x = .val v upd fg need touch) : storeA τ s' t a x = .val v upd fg need touch := by
  have key : ∀ id sz row fld i c, a = .ptr id sz row fld → τ t = some i → x.cells? = some c → s.blk id = s'.blk id := by
    intro id sz row fld i c ha hi hx
    subst ha
    unfold storeA at h
    rw [hi, hx] at h
    simp only at h
    apply hb
    revert h
    (repeat' split)
    all_goals (intro h; first | (cases h; exact List.mem_cons_self) | cases h)
  unfold storeA at h ⊢
  split
  · rename_i id sz row fld i c hi hx
    rw [hi, hx] at h
    simp only at h
    rw [← key id sz row fld i c rfl hi hx]
    exact h
  · rename_i hne
    split at h
    · rename_i id sz row fld i c hi hx
      exact absurd hx (by intro e; exact hne _ _ _ _ _ _ rfl hi e)
    · cases h
theorem appendA_local {τ s s' t x y fresh} {v : AV} {upd need touch} (hb : ∀ id ∈ touch, s.blk id = s'.blk id) (h : appendA τ fresh s t x y = .val v upd none need touch) : appendA τ fresh s' t x y = .val v upd none need touch := by
  unfold appendA at h ⊢
  split at h
  · rename_i e i id2 sz2 len2 hi2 he
    have hid : s.blk id2 = s'.blk id2 := by
      apply hb
      revert h
      (repeat' split)
      all_goals (try dsimp only)
      (repeat' split)
      all_goals (intro h; first | (cases h; exact List.mem_cons_self) | cases h)
    rw [← hid]
    revert h
    (repeat' split)
    all_goals (try dsimp only)
    (repeat' split)
    all_goals (intro h; first | exact h | cases h)
  · cases h
theorem symSl_local {s s' : S} {x y : AV} {τ t fresh v upd need touch} (hb : ∀ id ∈ touch, s.blk id = s'.blk id) (h : appendA τ fresh s t x y = .val v upd none need touch) : symSl s y = symSl s' y := by
  unfold appendA at h
  split at h
  · rename_i e i id2 sz2 len2 hi2 he
    have hid : s.blk id2 = s'.blk id2 := by
      apply hb
      revert h
      (repeat' split)
      all_goals (try dsimp only)
      (repeat' split)
      all_goals (intro h; first | (cases h; exact List.mem_cons_self) | cases h)
    simp only [symSl, hid]
  · cases h
theorem appendS_none {τ s t x y} {v : AV} {upd need touch} (h : appendS τ s t x y = .val v upd none need touch) : False := by
  unfold appendS at h
  revert h
  (repeat' split)
  all_goals (intro h; cases h)
theorem clearA_local {τ s s' t x} {v : AV} {upd need touch} (hb : ∀ id ∈ touch, s.blk id = s'.blk id) (h : clearA τ s t x = .val v upd none need touch) : clearA τ s' t x = .val v upd none need touch := by
  unfold clearA at h ⊢
  split at h
  · rename_i e i id sz row len hi he
    have hid : s.blk id = s'.blk id := by
      apply hb
      revert h
      (repeat' split)
      all_goals (intro h; first | (cases h; exact List.mem_cons_self) | cases h)
    rw [← hid]
    exact h
  · cases h
theorem builtinA_local {τ s s' fresh b as tys} {v : AV} {upd need touch} (hb : ∀ id ∈ touch, s.blk id = s'.blk id) (h : builtinA τ fresh s b as tys = .val v upd none need touch) : builtinA τ fresh s' b as tys = .val v upd none need touch := by
  unfold builtinA at h ⊢
  split at h
  · exact h
  · split at h
    · split at h
      · rename_i htt
        rw [if_pos htt]
        split at h
        · rename_i hz
          rw [if_pos hz]
          exact h
        rename_i hz
        rw [if_neg hz]
        split at h
        · exact (appendS_none h).elim
        · rename_i hns
          rw [← symSl_local hb h, if_neg hns]
          exact appendA_local hb h
      · cases h
    · cases h
  · split at h
    · exact clearA_local hb h
    · cases h
  · exact h
  · exact h
  · cases h
theorem astep_local {τ : Tab} {eqt : EqTab} {fresh : Nat} {s s' : S} {o : Oper} (hev : ∀ x ∈ o.op.operands, s.eval x = s'.eval x) {v : AV} {upd need touch} (hb : ∀ id ∈ touch, s.blk id = s'.blk id) (h : astep τ eqt fresh s o = .val v upd none need touch) :
    astep τ eqt fresh s' o = .val v upd none need touch := by
  have mapev : ∀ l : List Operand, (∀ x ∈ l, s.eval x = s'.eval x) → l.map s.eval = l.map s'.eval := fun l h => List.map_congr_left h
  have optev : ∀ y : Option Operand, (∀ x ∈ y.toArray, s.eval x = s'.eval x) → y.map s.eval = y.map s'.eval := by
    intro y h; cases y with | none => rfl | some x => simp only [Option.map_some]; rw [h x (by simp)]
  unfold astep at h ⊢
  split at h
  case h_1 x hop => rw [← hev x (by simp [hop, Op.operands])]; exact h
  case h_2 x hop => rw [← hev x (by simp [hop, Op.operands])]; exact h
  case h_3 c a b hop => rw [← hev c (by simp [hop, Op.operands]), ← hev a (by simp [hop, Op.operands]), ← hev b (by simp [hop, Op.operands])]; exact h
  case h_4 t hop => exact h
  case h_5 t x hop => rw [← hev x (by simp [hop, Op.operands])]; exact h
  case h_6 t parts hop =>
    have e : (parts.toList.map fun (x : Nat × Operand) => (x.1, s'.eval x.2)) = parts.toList.map fun (x : Nat × Operand) => (x.1, s.eval x.2) := List.map_congr_left fun x hx => by
      rw [hev x.2 (by simp [hop, Op.operands]; exact ⟨x.1, by simpa using hx⟩)]
    rw [e]; exact h
  case h_7 t len parts hop =>
    have e : (parts.toList.map fun (x : Nat × Operand) => (x.1, s'.eval x.2)) = parts.toList.map fun (x : Nat × Operand) => (x.1, s.eval x.2) := List.map_congr_left fun x hx => by
      rw [hev x.2 (by simp [hop, Op.operands]; exact ⟨x.1, by simpa using hx⟩)]
    rw [e]; exact h
  case h_8 t a hop => rw [← hev a (by simp [hop, Op.operands])]; exact loadA_local hb h
  case h_9 t a x hop => rw [← hev a (by simp [hop, Op.operands]), ← hev x (by simp [hop, Op.operands])]; exact storeA_local hb h
  case h_10 x hop => rw [← hev x (by simp [hop, Op.operands])]; exact h
  case h_11 op t x y yt hop => rw [← hev x (by simp [hop, Op.operands]), ← hev y (by simp [hop, Op.operands])]; exact h
  case h_12 op t x hop => rw [← hev x (by simp [hop, Op.operands])]; exact h
  case h_13 src dst x hop => rw [← hev x (by simp [hop, Op.operands])]; exact h
  case h_14 f first captured hop => rw [← mapev captured.toList fun x hx => hev x (by simp [hop, Op.operands]; right; simpa using hx), ← mapev first.toList fun x hx => hev x (by simp [hop, Op.operands]; left; simpa using hx)]; exact h
  case h_15 t l c hop => rw [← hev l (by simp [hop, Op.operands]), ← hev c (by simp [hop, Op.operands])]; exact h
  case h_16 t x lo hi hop =>
    rw [← hev x (by simp [hop, Op.operands]), ← optev lo fun y hy => hev y (by simp [hop, Op.operands]; simp at hy; simp [hy]), ← optev hi fun y hy => hev y (by simp [hop, Op.operands]; simp at hy; simp [hy])]
    exact h
  case h_17 t x f hop => rw [← hev x (by simp [hop, Op.operands])]; exact h
  case h_18 t x ix hop => rw [← hev x (by simp [hop, Op.operands]), ← hev ix (by simp [hop, Op.operands])]; exact h
  case h_19 t ix hop => rw [← hev t (by simp [hop, Op.operands])]; exact h
  case h_20 c hop =>
    obtain ⟨callee, cargs, tys⟩ := c
    cases callee with
    | value f0 => simp only [callA] at h; split at h <;> cases h
    | invoke r m => simp only [callA] at h; cases h
    | builtin b =>
      simp only [callA] at h ⊢
      rw [← mapev cargs.toList fun x hx => hev x (by simp [hop, Op.operands, Call.operands]; simpa using hx)]
      exact builtinA_local hb h
  case h_21 t x hh mm hop => rw [← hev x (by simp [hop, Op.operands]), ← hev hh (by simp [hop, Op.operands]), ← hev mm (by simp [hop, Op.operands])]; exact h
  all_goals first | (cases h; done) | skip
theorem astep_call_local {τ : Tab} {eqt : EqTab} {fresh : Nat} {s s' : S} {o : Oper} (hev : ∀ x ∈ o.op.operands, s.eval x = s'.eval x) {f : FuncId} {args : List AV} (h : astep τ eqt fresh s o = .call f args) : astep τ eqt fresh s' o = .call f args := by
  unfold astep at h
  split at h
  case h_20 c hop =>
    obtain ⟨callee, cargs, tys⟩ := c
    cases callee with
    | value f0 =>
      unfold astep
      rw [hop]
      simp only [callA] at h ⊢
      have e : cargs.toList.map s'.eval = cargs.toList.map s.eval := List.map_congr_left fun x hx => (hev x (by simp [hop, Op.operands, Call.operands]; right; simpa using hx)).symm
      rw [← hev f0 (by simp [hop, Op.operands, Call.operands]), e]
      exact h
    | builtin b => exact absurd h builtinA_nc
    | invoke r m => simp only [callA] at h; cases h
  all_goals
    exfalso
    revert h
    try exact pure_nc
    try exact loadA_nc
    try exact storeA_nc
    try exact binOpA_nc
    try exact unOpA_nc
    repeat' split
    all_goals first | exact sliceA_nc | exact pure_nc | (intro h; cases h)


structure RlD (C : Ctx) (ρ : Rho) (s : S) (a : Act) (w : World) : Prop where
  tm : TRel ρ s.tmps a.tmps
  df : a.defers = []
  mem : MRel C.w0 C.F ρ s.mem w
  np : s.np = C.np
  base : ∀ id, id < C.np → C.ρ0.al id → ρ.al id ∧ ρ.β id = C.ρ0.β id ∧ ρ.γ id = C.ρ0.γ id ∧ ρ.o id = C.ρ0.o id
  wr : ∀ id b, blkOf s.mem id = some b → b.wr = C.wr id
  wrn : ∀ id, C.np ≤ id → C.wr id = true
theorem Rl.toD {C : Ctx} {ρ : Rho} {s : S} {a : Act} {w : World} (h : Rl C ρ s a w) : RlD C ρ s a w := ⟨h.tm, h.df, h.mem, h.np, h.base, h.wr, h.wrn⟩
theorem RlD.put {C : Ctx} {ρ : Rho} {s : S} {a : Act} {w : World} (h : RlD C ρ s a w) (dst : Option Nat) {v : AV} {u : Value} (hv : VR ρ v u) : RlD C ρ (s.put dst v) (a.put dst u) w := by
  cases dst with
  | none => exact h
  | some d => exact ⟨h.tm.put d hv, h.df, h.mem, h.np, h.base, h.wr, h.wrn⟩
/-- Two states that are known alike. -/
structure Same (s t : S) : Prop where
  np : s.np = t.np
  tl : s.tmps.length = t.tmps.length
  tm : ∀ i, s.tmp i = t.tmp i
  mem : ∀ id, blkOf s.mem id = blkOf t.mem id
theorem MRel.congr {w0 : World} {F : Nat → Prop} {ρ : Rho} {m n : List (Option Blk)} {w : World} (h : ∀ id, blkOf m id = blkOf n id) (hm : MRel w0 F ρ m w) : MRel w0 F ρ n w :=
  ⟨fun id b hb => hm.blk id b (by rw [h]; exact hb), fun i j b c hb hc => hm.inj i j b c (by rw [h]; exact hb) (by rw [h]; exact hc), fun i b hb => hm.own i b (by rw [h]; exact hb), hm.fr⟩
theorem RlD.congr {C : Ctx} {ρ : Rho} {s t : S} {a : Act} {w : World} (h : Same s t) (hr : RlD C ρ s a w) : RlD C ρ t a w :=
  ⟨⟨by rw [hr.tm.1, h.tl], fun i v hv => by have := hr.tm.2 i v hv; have e := h.tm i; unfold S.tmp at e; rw [← e]; exact this⟩, hr.df, hr.mem.congr h.mem, by rw [← h.np]; exact hr.np, hr.base, fun id b hb => hr.wr id b (by rw [h.mem]; exact hb), hr.wrn⟩
structure Agree (s s' : S) (names touch : List Nat) : Prop where
  tm : ∀ t ∈ names, s.tmp t = s'.tmp t
  mem : ∀ id ∈ touch, blkOf s.mem id = blkOf s'.mem id
def S.log (s : S) (L : Log) : S := (s.upd L.upd).put L.dst L.v
def LogOK (P : Program) (ops : Array Oper) (fresh : Nat) (o : Oper) (s : S) (L : Log) : Prop :=
  L.dst = o.dst ∧ L.names = o.looksAt ops ∧
  ∀ (s' : S) (C : Ctx) (ρ : Rho) (a : Act) (w : World) (K : Act → World → Prop) (Q' : Exit → Act → World → Prop), Agree s s' L.names L.touch → RlD C ρ s' a w → C.np ≤ fresh → ¬ ρ.al fresh → (∀ id, ρ.al id → id < s'.mem.length) →
    (∀ ρ' a' w', RlD C ρ' (s'.log L) a' w' → (∀ id, ρ'.al id → ρ.al id ∨ (id = fresh ∧ ∃ b, (fresh, b) ∈ L.upd)) → K a' w') →
    if Region.wanted o (yielded ops a.tmps) = true then o.wp P a w K Q' ∨ (o.asks P a w ∧ LetsOut Q') else K (a.put o.dst undef) w

section
variable {P : Program} {τ : Tab} {eqt : EqTab}
theorem eval_agree {ops : Array Oper} {o : Oper} {s s' : S} {touch : List Nat} (h : Agree s s' (o.looksAt ops) touch) : ∀ x ∈ o.op.operands, s.eval x = s'.eval x := by
  intro x hx
  cases x with
  | tmp t =>
    refine h.tm t ?_
    unfold Oper.looksAt
    refine List.mem_append_left _ (List.mem_filterMap.2 ⟨.tmp t, by simpa using hx, rfl⟩)
  | _ => rfl
theorem RlD.step {C : Ctx} {ρ ρ' : Rho} {s : S} {a : Act} {w w' : World} (h : RlD C ρ s a w) {v : AV} {u : Value} {upd : List (Nat × Option Blk)} {fresh : Nat} (hle : ρ.le ρ' none) (hm : MRel C.w0 C.F ρ' (s.upd upd).mem w') (hv : VR ρ' v u)
    (hf : C.np ≤ fresh) (hu : UpdOK s fresh upd none) (dst : Option Nat) : RlD C ρ' ((s.upd upd).put dst v) (a.put dst u) w' := by
  have key : RlD C ρ' (s.upd upd) a w' := by
    refine ⟨by rw [(upd_tmps upd _).1]; exact h.tm.mono hle, h.df, hm, by rw [(upd_tmps upd _).2, h.np], fun id hid h0 => ?_, fun id b hb => ?_, h.wrn⟩
    · obtain ⟨h1, h2, h3, h3o⟩ := h.base id hid h0
      exact ⟨hle.al id h1, (hle.β id h1 (by simp)).trans h2, (hle.γ id h1 (by simp)).trans h3, (hle.o id h1 (by simp)).trans h3o⟩
    · rcases hu with ⟨rfl, _⟩ | ⟨b1, rfl, hw, _⟩ | ⟨i, b0, b1, hb0, hw, rfl, _⟩
      · exact h.wr id b hb
      · simp only [S.upd] at hb
        rw [blkOf_setAt] at hb
        split at hb
        · rename_i e
          cases hb
          rw [hw, h.wrn id (by rw [e]; exact hf)]
        · exact h.wr id b hb
      · simp only [S.upd] at hb
        rw [blkOf_setAt] at hb
        split at hb
        · rename_i e
          cases hb
          rw [hw, e]
          exact h.wr i b0 hb0
        · exact h.wr id b hb
  exact key.put dst hv
theorem wanted_of {ops : Array Oper} {o : Oper} {s s' : S} {touch : List Nat} {a : Act} {ρ : Rho} (h : Agree s s' (o.looksAt ops) touch) (ht : TRel ρ s'.tmps a.tmps) {j : Nat} {want : Bool} (hg : o.guard = some (j, want)) {d : Nat} (hd : (ops[j]?).bind (·.dst) = some d) {c : Bool} (hc : s.tmp d = .bool (.lit c)) :
    Region.wanted o (yielded ops a.tmps) = (c == want) := by
  have e : s'.tmp d = .bool (.lit c) := by
    rw [← h.tm d ?_]; exact hc
    unfold Oper.looksAt
    refine List.mem_append_right _ ?_
    rw [hg]
    simp [hd]
  have hlt : d < s'.tmps.length := by
    rcases Nat.lt_or_ge d s'.tmps.length with h | h
    · exact h
    · unfold S.tmp at e
      rw [List.getD_eq_getElem?_getD, List.getElem?_eq_none h] at e
      cases e
  have hsz : d < a.tmps.size := by rw [ht.1]; exact hlt
  have hv := ht.2 d _ (Array.getElem?_eq_getElem hsz)
  unfold S.tmp at e
  rw [e] at hv
  have hv : a.tmps[d] = .bool c := hv
  have hy : yielded ops a.tmps j = some c := by
    unfold yielded
    rw [hd]
    simp only [Option.bind_some]
    rw [Array.getElem?_eq_getElem hsz, hv]
  unfold Region.wanted
  rw [hg]
  simp only [hy]
  cases c <;> cases want <;> rfl

theorem wanted_raw {ops : Array Oper} {o : Oper} {s s' : S} {touch : List Nat} {a : Act} {ρ : Rho} (h : Agree s s' (o.looksAt ops) touch) (ht : TRel ρ s'.tmps a.tmps) {j : Nat} {want : Bool} (hg : o.guard = some (j, want)) {d : Nat} (hd : (ops[j]?).bind (·.dst) = some d) {x : Array Value} (hc : s.tmp d = .raw (.tuple x)) :
    Region.wanted o (yielded ops a.tmps) = false := by
  have e : s'.tmp d = .raw (.tuple x) := by
    rw [← h.tm d ?_]; exact hc
    unfold Oper.looksAt
    refine List.mem_append_right _ ?_
    rw [hg]
    simp [hd]
  have hlt : d < s'.tmps.length := by
    rcases Nat.lt_or_ge d s'.tmps.length with h | h
    · exact h
    · unfold S.tmp at e
      rw [List.getD_eq_getElem?_getD, List.getElem?_eq_none h] at e
      cases e
  have hsz : d < a.tmps.size := by rw [ht.1]; exact hlt
  have hv := ht.2 d _ (Array.getElem?_eq_getElem hsz)
  unfold S.tmp at e
  rw [e] at hv
  have hv : a.tmps[d] = .tuple x := hv
  have hy : yielded ops a.tmps j = none := by
    unfold yielded
    rw [hd]
    simp only [Option.bind_some]
    rw [Array.getElem?_eq_getElem hsz, hv]
  unfold Region.wanted
  rw [hg]
  simp only [hy]
  rfl
/-- An operation that is carried out, of any kind but a call. -/
theorem logOK_val (hτ : ∀ t i, τ t = some i → i.ok P t) (he : EqOK P eqt) {ops : Array Oper} {fresh : Nat} {o : Oper} {s : S} {v : AV} {upd : List (Nat × Option Blk)} {need : B} {touch : List Nat} (hst : astep τ eqt fresh s o = .val v upd none need touch) (hn : need.den = true)
    (hw : ∀ (s' : S) (a : Act) (ρ : Rho), Agree s s' (o.looksAt ops) touch → TRel ρ s'.tmps a.tmps → Region.wanted o (yielded ops a.tmps) = true) : LogOK P ops fresh o s ⟨o.dst, v, upd, touch, o.looksAt ops⟩ := by
  refine ⟨rfl, rfl, fun s' C ρ a w K Q' hag hr hf hal _ hK => ?_⟩
  rw [if_pos (hw s' a ρ hag hr.tm)]
  left
  have hst' := astep_local (s' := s') (eval_agree hag) hag.mem hst
  obtain ⟨nx, w', ρ', u, e1, e2, e3, e4, e5, e6⟩ := astep_sound hτ he hr.mem hal (fun x => hr.tm.eval x) hst' hn
  have hr' := hr.step e3 e4 e5 hf (astep_upd hst') o.dst
  unfold Oper.wp
  rw [e1]
  rcases e2 with rfl | ⟨rfl, rfl⟩
  · exact hK _ _ _ hr' e6
  · exact hK _ _ _ hr' e6

/-! a call in a region whose order is drawn -/
mutual
theorem VR.sub {ρ : Rho} {g g' : Nat → Option Nat} (h : ∀ j, g' j = none ∨ g' j = g j) : ∀ (a : AV) (v : Value), VR ρ (a.ren g) v → VR ρ (a.ren g') v
  | .any, _, _ => trivial
  | .int .., _, hv => hv
  | .bool _, _, hv => hv
  | .ptr id sz row fld, v, hv => by
    unfold AV.ren at hv ⊢
    rcases h id with e | e
    · rw [e]; trivial
    · rw [e]; exact hv
  | .sl id sz row len hi, v, hv => by
    unfold AV.ren at hv ⊢
    rcases h id with e | e
    · rw [e]; trivial
    · rw [e]; exact hv
  | .agg l, v, ⟨vs, h1, h2⟩ => ⟨vs, h1, VRs.sub h l vs h2⟩
  | .tup l, v, ⟨vs, h1, h2⟩ => ⟨vs, h1, VRs.sub h l vs h2⟩
  | .fn _ l, v, ⟨vs, h1, h2⟩ => ⟨vs, by rw [bnd_renL] at h1 ⊢; exact h1, VRs.sub h l vs h2⟩
  | .raw _, _, hv => hv
theorem VRs.sub {ρ : Rho} {g g' : Nat → Option Nat} (h : ∀ j, g' j = none ∨ g' j = g j) : ∀ (l : List AV) (vs : List Value), VRs ρ (AV.renL g l) vs → VRs ρ (AV.renL g' l) vs
  | [], _, hv => hv
  | a :: l, vs, ⟨v, ws, e, h1, h2⟩ => ⟨v, ws, e, VR.sub h a v h1, VRs.sub h l ws h2⟩
end
theorem RowR.sub {ρ : Rho} {g g' : Nat → Option Nat} (h : ∀ j, g' j = none ∨ g' j = g j) : ∀ {c : Con} {i : Nat} {vs : List Value}, RowR ρ (c.ren g) i vs → RowR ρ (c.ren g') i vs
  | .lit rows, i, _, ⟨r, h1, h2⟩ => by
    simp only [List.getElem?_map] at h1
    cases hr : rows[i]? with
    | none => rw [hr] at h1; cases h1
    | some r0 =>
      rw [hr] at h1
      cases h1
      exact ⟨AV.renL g' r0, by simp [hr], VRs.sub h r0 _ h2⟩
  | .sym _ _, _, _, h1 => fun e he => VRs.sub h _ _ (h1 e he)
  | .snoc c _, _, _, ⟨h1, h2⟩ => by
    unfold Con.ren RowR
    rw [Con.num_ren] at *
    exact ⟨fun e => (h1 e).sub h, fun e => VRs.sub h _ _ (h2 e)⟩
  | .set _ _ _, _, _, ⟨h1, h2⟩ => ⟨fun e => VRs.sub h _ _ (h1 e), fun e => (h2 e).sub h⟩
theorem MR.sub {ρ : Rho} {g g' : Nat → Option Nat} (h : ∀ j, g' j = none ∨ g' j = g j) {w : World} {id : Nat} {b : Blk} (hM : MR ρ w id (b.ren g)) : MR ρ w id (b.ren g') := by
  obtain ⟨h1, h2⟩ := hM
  refine ⟨h1, ?_⟩
  simp only [Blk.ren, Con.num_ren] at h2 ⊢
  rcases h2 with h2 | ⟨ho, cs, a, b', c⟩ | ⟨h3, h4, h5, c⟩
  · exact .inl h2
  · exact .inr (.inl ⟨ho, cs, a, b', fun k hk => ⟨(c k hk).1, (c k hk).2.sub h⟩⟩)
  · refine .inr (.inr ⟨h3, h4, h5, fun k hk => ?_⟩)
    obtain ⟨vs, e1, e2, e3⟩ := c k hk
    exact ⟨vs, e1, e2, e3.sub h⟩
theorem upd_injectD (σ : List Nat) (hn : σ.Nodup) : ∀ (m : List (Option Blk)) (i : Nat) (s : S), i + m.length ≤ σ.length →
    (∀ j id, j < m.length → σ[i + j]? = some id → blkOf (s.upd (injectD σ m i)).mem id = (blkOf m j).map (·.ren fun k => σ[k]?)) ∧
    (∀ id, (∀ j, j < m.length → σ[i + j]? ≠ some id) → blkOf (s.upd (injectD σ m i)).mem id = blkOf s.mem id) := by
  intro m
  induction m with
  | nil => intro i s _; exact ⟨fun j id h => by simp at h, fun id _ => rfl⟩
  | cons b l ih =>
    intro i s hl
    simp only [List.length_cons] at hl
    have hi : i < σ.length := by omega
    have hget : σ.getD i 0 = σ[i] := by rw [List.getD_eq_getElem?_getD, List.getElem?_eq_getElem hi]; rfl
    obtain ⟨h1, h2⟩ := ih (i + 1) { s with mem := setAt s.mem (σ.getD i 0) (b.map (·.ren fun k => σ[k]?)) } (by omega)
    have uniq : ∀ (k : Nat), σ[k]? = some σ[i] → k = i := by
      intro k hk
      obtain ⟨hk1, hk2⟩ := List.getElem?_eq_some_iff.1 hk
      have hp := List.pairwise_iff_getElem.1 hn
      rcases Nat.lt_trichotomy k i with hlt | he | hgt
      · exact absurd hk2 (hp k i hk1 hi hlt)
      · exact he
      · exact absurd hk2.symm (hp i k hi hk1 hgt)
    refine ⟨fun j id hj hid => ?_, fun id hid => ?_⟩
    · rw [injectD, S.upd]
      cases j with
      | zero =>
        rw [Nat.add_zero, List.getElem?_eq_getElem hi] at hid
        cases hid
        rw [h2]
        · show blkOf (setAt s.mem (σ.getD i 0) _) σ[i] = _
          rw [blkOf_setAt, if_pos hget.symm]
          simp [blkOf]
        · intro j' hj' e
          have := uniq _ e
          omega
      | succ j =>
        have e : i + 1 + j = i + (j + 1) := by omega
        rw [h1 j id (by simpa using hj) (by rw [e]; exact hid)]
        simp [blkOf]
    · rw [injectD, S.upd]
      rw [h2]
      · show blkOf (setAt s.mem (σ.getD i 0) _) id = _
        rw [blkOf_setAt, if_neg]
        intro e
        refine hid 0 (by simp) ?_
        rw [Nat.add_zero, List.getElem?_eq_getElem hi, e, hget]
      · intro j hj e
        have e2 : i + 1 + j = i + (j + 1) := by omega
        rw [e2] at e
        exact hid (j + 1) (by simp; omega) e
theorem logOK_call (hτ : ∀ t i, τ t = some i → i.ok P t) {ops : Array Oper} {fresh : Nat} {o : Oper} {s : S} {f : FuncId} {args : List AV} (hst : astep τ eqt fresh s o = .call f args) {σ : List Nat} (hnd : σ.Nodup) (hlive : ∀ id ∈ σ, (blkOf s.mem id).isSome = true) {r : AV} {m : List (Option Blk)} (hl : m.length = σ.length)
    (hR : Runs P f (AV.renL (fun i => idxOf σ i 0) args) (small s.mem σ) fun r' m' => r' = r ∧ m' = m)
    (hw : ∀ (s' : S) (a : Act) (ρ : Rho), Agree s s' (o.looksAt ops) σ → TRel ρ s'.tmps a.tmps → Region.wanted o (yielded ops a.tmps) = true) : LogOK P ops fresh o s ⟨o.dst, r.ren fun j => σ[j]?, injectD σ m 0, σ, o.looksAt ops⟩ := by
  refine ⟨rfl, rfl, fun s' C ρ a w K Q' hag hr hf hal hfr hK => ?_⟩
  rw [if_pos (hw s' a ρ hag hr.tm)]
  left
  have hst' := astep_call_local (s' := s') (eval_agree hag) hst
  obtain ⟨vs, hv, hex⟩ := astep_call (P := P) (w := w) (fun x => hr.tm.eval x) hst'
  have hsm : small s'.mem σ = small s.mem σ := by
    unfold small
    refine List.map_congr_left fun id hid => ?_
    have := hag.mem id hid
    unfold blkOf at this
    rw [this]
  obtain ⟨hent, hC⟩ := call_sound (s := s') (by rw [hsm]; exact hR) hnd (fun id hid => by rw [← hag.mem id hid]; exact hlive id hid) hr.mem hfr hv
  unfold Oper.wp
  rw [hex, hent]
  refine hC.mono ?_
  rintro e w' ⟨r', m', ρ'', v, rfl, ⟨rfl, rfl⟩, hvr, hm', hle, _, hwr, hal', _⟩
  have hfl : ∀ x ∈ σ, x < s'.mem.length := fun x hx => by
    obtain ⟨b, hb⟩ := Option.isSome_iff_exists.1 (hlive x hx)
    exact hfr x (hr.mem.blk x b (by rw [← hag.mem x hx]; exact hb)).1
  have hsub : ∀ j, (fun j => σ[j]?) j = none ∨ (fun j => σ[j]?) j = (fun j => some (back σ s'.mem.length j)) j := by
    intro j
    cases hj : σ[j]? with
    | none => exact .inl hj
    | some id =>
      right
      have hlt := (List.getElem?_eq_some_iff.1 hj).1
      show σ[j]? = some (back σ s'.mem.length j)
      rw [back_old σ _ j hlt, List.getElem?_eq_getElem hlt]
  obtain ⟨g1, g2⟩ := upd_injectD σ hnd m' 0 s' (by omega)
  have hbi := back_inj σ s'.mem.length hnd hfl
  have look : ∀ id c, blkOf (s'.upd (injectD σ m' 0)).mem id = some c → (∃ c0 : Blk, blkOf (s'.upd (inject σ s'.mem.length m' 0)).mem id = some (c0.ren fun j => some (back σ s'.mem.length j)) ∧ c = c0.ren fun j => σ[j]?) ∨ blkOf (s'.upd (inject σ s'.mem.length m' 0)).mem id = some c := by
    intro id c hc
    by_cases hid : ∃ j, j < m'.length ∧ σ[0 + j]? = some id
    · obtain ⟨j, hj1, hj2⟩ := hid
      left
      rw [g1 j id hj1 hj2] at hc
      cases h0 : blkOf m' j with
      | none => rw [h0] at hc; cases hc
      | some c0 =>
        rw [h0] at hc
        refine ⟨c0, ?_, (Option.some.inj hc).symm⟩
        have := upd_inject σ s'.mem.length hbi m' 0 s' j hj1
        rw [Nat.zero_add] at this hj2
        have hlt := (List.getElem?_eq_some_iff.1 hj2)
        rw [back_old σ _ j hlt.1, hlt.2, h0] at this
        exact this
    · right
      rw [g2 id (fun j hj e => hid ⟨j, hj, e⟩)] at hc
      rw [upd_mem]
      · exact hc
      · intro x hx e
        obtain ⟨j, b, h1, rfl⟩ := inject_get σ s'.mem.length m' 0 x hx
        have hj := (List.getElem?_eq_some_iff.1 h1).1
        refine hid ⟨j, hj, ?_⟩
        simp only [Nat.zero_add] at e ⊢
        rw [back_old σ _ j (by omega)] at e
        rw [List.getElem?_eq_getElem (by omega), e]
  have hmD : MRel C.w0 C.F ρ'' (s'.upd (injectD σ m' 0)).mem w' := by
    refine ⟨fun id c hc => ?_, fun i j b c hb hc hne gi gj hwr' => ?_, fun i b hb hwr' hg => ?_, hm'.fr⟩
    · rcases look id c hc with ⟨c0, h1, rfl⟩ | h1
      · exact ⟨(hm'.blk id _ h1).1, (hm'.blk id _ h1).2.sub hsub⟩
      · exact hm'.blk id c h1
    · have fnd : ∀ id c, blkOf (s'.upd (injectD σ m' 0)).mem id = some c → ∃ c1, blkOf (s'.upd (inject σ s'.mem.length m' 0)).mem id = some c1 ∧ c1.wr = c.wr := by
        intro id c hc
        rcases look id c hc with ⟨c0, h1, rfl⟩ | h1
        · exact ⟨_, h1, rfl⟩
        · exact ⟨c, h1, rfl⟩
      obtain ⟨b1, h1, h2⟩ := fnd i b hb
      obtain ⟨c1, h3, h4⟩ := fnd j c hc
      exact hm'.inj i j b1 c1 h1 h3 hne gi gj (by rw [h2, h4]; exact hwr')
    · rcases look i b hb with ⟨c0, h1, rfl⟩ | h1
      · exact hm'.own i _ h1 hwr' hg
      · exact hm'.own i b h1 hwr' hg
  have key : RlD C ρ'' (s'.upd (injectD σ m' 0)) a w' := by
    refine ⟨by rw [(upd_tmps _ _).1]; exact hr.tm.mono hle, hr.df, hmD, by rw [(upd_tmps _ _).2]; exact hr.np, fun id hid h0 => ?_, fun id b hb => ?_, hr.wrn⟩
    · obtain ⟨h1, h2, h3, h3o⟩ := hr.base id hid h0
      exact ⟨hle.al id h1, (hle.β id h1 (by simp)).trans h2, (hle.γ id h1 (by simp)).trans h3, (hle.o id h1 (by simp)).trans h3o⟩
    · have old : ∀ b, blkOf (s'.upd (inject σ s'.mem.length m' 0)).mem id = some b → id < s'.mem.length → b.wr = C.wr id := by
        intro b hb hlt
        rcases hwr id b hb with ⟨b0, h1, h2⟩ | ⟨h1, _⟩
        · rw [h2]; exact hr.wr id b0 h1
        · omega
      have hlt : id < s'.mem.length := hfr id (hal' hl id (hmD.blk id b hb).1)
      rcases look id b hb with ⟨c0, h1, rfl⟩ | h1
      · have := old (c0.ren fun j => some (back σ s'.mem.length j)) h1 hlt; exact this
      · exact old b h1 hlt
  exact hK ρ'' _ _ (key.put o.dst (VR.sub hsub r' v hvr)) (fun id h => .inl (hal' hl id h))
/-! the same, with one new block -/
structure Sub2 (ρ ρ' : Rho) (g g' : Nat → Option Nat) : Prop where
  to : ∀ j k', g' j = some k' → ∃ k, g j = some k ∧ (ρ.al k → ρ'.al k') ∧ ρ'.β k' = ρ.β k ∧ ρ'.γ k' = ρ.γ k ∧ ρ'.o k' = ρ.o k
mutual
theorem VR.sub2 {ρ ρ' : Rho} {g g' : Nat → Option Nat} (h : Sub2 ρ ρ' g g') : ∀ (a : AV) (v : Value), VR ρ (a.ren g) v → VR ρ' (a.ren g') v
  | .any, _, _ => trivial
  | .int .., _, hv => hv
  | .bool _, _, hv => hv
  | .ptr id sz row fld, v, hv => by
    unfold AV.ren at hv ⊢
    cases hg : g' id with
    | none => trivial
    | some k' =>
      obtain ⟨k, e, h1, h2, h3, h4⟩ := h.to id k' hg
      rw [e] at hv
      obtain ⟨a, b, c⟩ := hv
      exact ⟨h1 a, b, by rw [h2, h4]; exact c⟩
  | .sl id sz row len hi, v, hv => by
    unfold AV.ren at hv ⊢
    cases hg : g' id with
    | none => trivial
    | some k' =>
      obtain ⟨k, e, h1, h2, h3, h4⟩ := h.to id k' hg
      rw [e] at hv
      obtain ⟨a, b, c, d, x, y, e1, e2, e3, e4⟩ := hv
      refine ⟨h1 a, b, c, d, x, y, e1, e2, e3, ?_⟩
      cases x with
      | none => exact e4
      | some x => unfold SlAt at e4 ⊢; rw [h2, h3, h4]; exact e4
  | .agg l, v, ⟨vs, h1, h2⟩ => ⟨vs, h1, VRs.sub2 h l vs h2⟩
  | .tup l, v, ⟨vs, h1, h2⟩ => ⟨vs, h1, VRs.sub2 h l vs h2⟩
  | .fn _ l, v, ⟨vs, h1, h2⟩ => ⟨vs, by rw [bnd_renL] at h1 ⊢; exact h1, VRs.sub2 h l vs h2⟩
  | .raw _, _, hv => hv
theorem VRs.sub2 {ρ ρ' : Rho} {g g' : Nat → Option Nat} (h : Sub2 ρ ρ' g g') : ∀ (l : List AV) (vs : List Value), VRs ρ (AV.renL g l) vs → VRs ρ' (AV.renL g' l) vs
  | [], _, hv => hv
  | a :: l, vs, ⟨v, ws, e, h1, h2⟩ => ⟨v, ws, e, VR.sub2 h a v h1, VRs.sub2 h l ws h2⟩
end
theorem RowR.sub2 {ρ ρ' : Rho} {g g' : Nat → Option Nat} (h : Sub2 ρ ρ' g g') : ∀ {c : Con} {i : Nat} {vs : List Value}, RowR ρ (c.ren g) i vs → RowR ρ' (c.ren g') i vs
  | .lit rows, i, _, ⟨r, h1, h2⟩ => by
    simp only [List.getElem?_map] at h1
    cases hr : rows[i]? with
    | none => rw [hr] at h1; cases h1
    | some r0 =>
      rw [hr] at h1
      cases h1
      exact ⟨AV.renL g' r0, by simp [hr], VRs.sub2 h r0 _ h2⟩
  | .sym _ _, _, _, h1 => fun e he => VRs.sub2 h _ _ (h1 e he)
  | .snoc c _, _, _, ⟨h1, h2⟩ => by
    unfold Con.ren RowR
    rw [Con.num_ren] at *
    exact ⟨fun e => (h1 e).sub2 h, fun e => VRs.sub2 h _ _ (h2 e)⟩
  | .set _ _ _, _, _, ⟨h1, h2⟩ => ⟨fun e => VRs.sub2 h _ _ (h1 e), fun e => (h2 e).sub2 h⟩
theorem MR.sub2 {ρ ρ' : Rho} {g g' : Nat → Option Nat} (h : Sub2 ρ ρ' g g') {w : World} {id id' : Nat} {b : Blk} (e1 : ρ'.β id' = ρ.β id) (e2 : ρ'.γ id' = ρ.γ id) (e3 : ρ'.o id' = ρ.o id) (hM : MR ρ w id (b.ren g)) : MR ρ' w id' (b.ren g') := by
  obtain ⟨h1, h2⟩ := hM
  refine ⟨h1, ?_⟩
  rw [e1, e2, e3]
  simp only [Blk.ren, Con.num_ren] at h2 ⊢
  rcases h2 with h2 | ⟨ho, cs, a, b', c⟩ | ⟨h3, h4, h5, c⟩
  · exact .inl h2
  · exact .inr (.inl ⟨ho, cs, a, b', fun k hk => ⟨(c k hk).1, (c k hk).2.sub2 h⟩⟩)
  · refine .inr (.inr ⟨h3, h4, h5, fun k hk => ?_⟩)
    obtain ⟨vs, f1, f2, f3⟩ := c k hk
    exact ⟨vs, f1, f2, f3.sub2 h⟩
theorem mem_injectD (σ : List Nat) : ∀ (m : List (Option Blk)) (i j : Nat), j < m.length → ∃ b, (σ.getD (i + j) 0, b) ∈ injectD σ m i
  | [], _, _, h => by simp at h
  | b :: l, i, 0, _ => ⟨_, by rw [injectD]; exact List.mem_cons_self⟩
  | b :: l, i, j + 1, h => by
    obtain ⟨c, hc⟩ := mem_injectD σ l (i + 1) j (by simpa using h)
    exact ⟨c, by rw [injectD, show i + (j + 1) = i + 1 + j by omega]; exact List.mem_cons_of_mem _ hc⟩
theorem logOK_call1 (hτ : ∀ t i, τ t = some i → i.ok P t) {ops : Array Oper} {fresh : Nat} {o : Oper} {s : S} {f : FuncId} {args : List AV} (hst : astep τ eqt fresh s o = .call f args) {σ : List Nat} (hnd : σ.Nodup) (hlive : ∀ id ∈ σ, (blkOf s.mem id).isSome = true) {r : AV} {m : List (Option Blk)} (hl : m.length = σ.length + 1)
    (hR : Runs P f (AV.renL (fun i => idxOf σ i 0) args) (small s.mem σ) fun r' m' => r' = r ∧ m' = m)
    (hw : ∀ (s' : S) (a : Act) (ρ : Rho), Agree s s' (o.looksAt ops) σ → TRel ρ s'.tmps a.tmps → Region.wanted o (yielded ops a.tmps) = true) : LogOK P ops fresh o s ⟨o.dst, r.ren fun j => (σ ++ [fresh])[j]?, injectD (σ ++ [fresh]) m 0, σ, o.looksAt ops⟩ := by
  refine ⟨rfl, rfl, fun s' C ρ a w K Q' hag hr hf hal hfr hK => ?_⟩
  rw [if_pos (hw s' a ρ hag hr.tm)]
  left
  have hst' := astep_call_local (s' := s') (eval_agree hag) hst
  obtain ⟨vs, hv, hex⟩ := astep_call (P := P) (w := w) (fun x => hr.tm.eval x) hst'
  have hsm : small s'.mem σ = small s.mem σ := by
    unfold small
    refine List.map_congr_left fun id hid => ?_
    have := hag.mem id hid
    unfold blkOf at this
    rw [this]
  obtain ⟨hent, hC⟩ := call_sound (s := s') (by rw [hsm]; exact hR) hnd (fun id hid => by rw [← hag.mem id hid]; exact hlive id hid) hr.mem hfr hv
  unfold Oper.wp
  rw [hex, hent]
  refine hC.mono ?_
  rintro e w' ⟨r', m', ρ'', v, rfl, ⟨rfl, rfl⟩, hvr, hm', hle, _, hwr, _, hkp⟩
  have hals : ∀ x ∈ σ, ρ.al x := fun x hx => by
    obtain ⟨b, hb⟩ := Option.isSome_iff_exists.1 (hlive x hx)
    exact (hr.mem.blk x b (by rw [← hag.mem x hx]; exact hb)).1
  have hfl : ∀ x ∈ σ, x < s'.mem.length := fun x hx => hfr x (hals x hx)
  have hfs : fresh ∉ σ := fun h => hal (hals _ h)
  have hnd2 : (σ ++ [fresh]).Nodup := by
    rw [List.nodup_append]
    refine ⟨hnd, by simp, fun x hx y hy => ?_⟩
    rw [List.mem_singleton] at hy
    subst hy
    exact fun e => hfs (e ▸ hx)
  have hg3 : ∀ j, (σ ++ [fresh])[j]? = if j < σ.length then σ[j]? else if j = σ.length then some fresh else none := by
    intro j
    by_cases h1 : j < σ.length
    · rw [if_pos h1, List.getElem?_append_left h1]
    · rw [if_neg h1, List.getElem?_append_right (by omega)]
      by_cases h2 : j = σ.length
      · subst h2; simp
      · rw [if_neg h2, List.getElem?_eq_none (by simp; omega)]
  generalize hp : s'.mem.length = p at *
  let π : Nat → Nat := fun id => if id = fresh then p else id
  have hπn : ∀ id, id ≠ fresh → π id = id := fun id h => if_neg h
  have hπf : π fresh = p := if_pos rfl
  let ρ3 : Rho := ⟨fun id => ρ''.β (π id), fun id => ρ''.γ (π id), fun id => ρ.al id ∨ (id = fresh ∧ ρ''.al p), fun id => ρ''.o (π id)⟩
  have hne : ∀ id, ρ.al id → id ≠ fresh := fun id h e => hal (e ▸ h)
  have hle3 : ρ.le ρ3 none := ⟨fun id h => .inl h, fun id h _ => (show ρ''.β (π id) = ρ.β id by rw [hπn id (hne id h)]; exact hle.β id h (by simp)), fun id h _ => (show ρ''.γ (π id) = ρ.γ id by rw [hπn id (hne id h)]; exact hle.γ id h (by simp)), fun id h _ => (show ρ''.o (π id) = ρ.o id by rw [hπn id (hne id h)]; exact hle.o id h (by simp))⟩
  have hsub : Sub2 ρ'' ρ3 (fun j => some (back σ p j)) (fun j => (σ ++ [fresh])[j]?) := by
    refine ⟨fun j k' hj => ?_⟩
    have hj' : (σ ++ [fresh])[j]? = some k' := hj
    rw [hg3] at hj'
    refine ⟨back σ p j, rfl, ?_⟩
    by_cases h1 : j < σ.length
    · rw [if_pos h1, List.getElem?_eq_getElem h1] at hj'
      cases hj'
      have hm1 : σ[j] ∈ σ := List.getElem_mem h1
      rw [back_old σ p j h1]
      have e := hπn σ[j] (hne _ (hals _ hm1))
      exact ⟨fun _ => .inl (hals _ hm1), by show ρ''.β (π σ[j]) = _; rw [e], by show ρ''.γ (π σ[j]) = _; rw [e], by show ρ''.o (π σ[j]) = _; rw [e]⟩
    · rw [if_neg h1] at hj'
      by_cases h2 : j = σ.length
      · rw [if_pos h2] at hj'
        cases hj'
        rw [back_new σ p j (by omega), show p + (j - σ.length) = p by omega]
        exact ⟨fun h => .inr ⟨rfl, h⟩, by show ρ''.β (π fresh) = _; rw [hπf], by show ρ''.γ (π fresh) = _; rw [hπf], by show ρ''.o (π fresh) = _; rw [hπf]⟩
      · rw [if_neg h2] at hj'; cases hj'
  obtain ⟨g1, g2⟩ := upd_injectD (σ ++ [fresh]) hnd2 m' 0 s' (by simp; omega)
  have hbi := back_inj σ p hnd hfl
  have look : ∀ id c, blkOf (s'.upd (injectD (σ ++ [fresh]) m' 0)).mem id = some c → ∃ c1, blkOf (s'.upd (inject σ p m' 0)).mem (π id) = some c1 ∧ c1.wr = c.wr ∧ MR ρ3 w' id c ∧ ρ3.al id ∧ (id = fresh ∨ (id < p ∧ id ≠ fresh)) := by
    intro id c hc
    by_cases hid : ∃ j, j < m'.length ∧ (σ ++ [fresh])[0 + j]? = some id
    · obtain ⟨j, hj1, hj2⟩ := hid
      rw [g1 j id hj1 hj2] at hc
      rw [Nat.zero_add] at hj2
      obtain ⟨k, hk1, hk2, hk3, hk4, hk5⟩ := hsub.to j id hj2
      have hkb : back σ p j = k := Option.some.inj hk1
      cases h0 : blkOf m' j with
      | none => rw [h0] at hc; cases hc
      | some c0 =>
        rw [h0] at hc
        have hc' : c0.ren (fun j => (σ ++ [fresh])[j]?) = c := Option.some.inj hc
        have h9 := upd_inject σ p hbi m' 0 s' j hj1
        rw [Nat.zero_add, h0, hkb] at h9
        have hπ : π id = k ∧ (id = fresh ∨ (id < p ∧ id ≠ fresh)) := by
          rw [hg3] at hj2
          by_cases h1 : j < σ.length
          · rw [if_pos h1, List.getElem?_eq_getElem h1] at hj2
            cases hj2
            have hm1 : σ[j] ∈ σ := List.getElem_mem h1
            have hn1 := hne _ (hals _ hm1)
            exact ⟨by rw [hπn _ hn1, ← hkb, back_old σ p j h1], .inr ⟨hfl _ hm1, hn1⟩⟩
          · rw [if_neg h1] at hj2
            by_cases h2 : j = σ.length
            · rw [if_pos h2] at hj2
              cases hj2
              exact ⟨by rw [hπf, ← hkb, back_new σ p j (by omega)]; omega, .inl rfl⟩
            · rw [if_neg h2] at hj2; cases hj2
        have hb1 := hm'.blk k _ h9
        refine ⟨_, by rw [hπ.1]; exact h9, by rw [← hc']; rfl, ?_, hk2 hb1.1, hπ.2⟩
        rw [← hc']
        exact MR.sub2 hsub hk3 hk4 hk5 hb1.2
    · rw [g2 id (fun j hj e => hid ⟨j, hj, e⟩)] at hc
      obtain ⟨a1, a2⟩ := hr.mem.blk id c hc
      have hn1 := hne _ a1
      have hlt : id < p := hfr id a1
      have hns : id ∉ σ := fun h => by
        obtain ⟨j, hj1, hj2⟩ := List.getElem_of_mem h
        exact hid ⟨j, by omega, by rw [Nat.zero_add, hg3, if_pos hj1, List.getElem?_eq_getElem hj1, hj2]⟩
      refine ⟨c, ?_, rfl, a2.kept hle3 a1 (hkp id c hns hc), .inl a1, .inr ⟨hlt, hn1⟩⟩
      rw [hπn _ hn1, upd_mem]
      · exact hc
      · intro x hx e
        obtain ⟨j, b, h1, rfl⟩ := inject_get σ p m' 0 x hx
        simp only [Nat.zero_add] at e
        by_cases h2 : j < σ.length
        · rw [back_old σ p j h2] at e
          exact hns (e ▸ List.getElem_mem h2)
        · rw [back_new σ p j (by omega)] at e
          omega
  have hπi : ∀ i j, (i = fresh ∨ (i < p ∧ i ≠ fresh)) → (j = fresh ∨ (j < p ∧ j ≠ fresh)) → π i = π j → i = j := by
    intro i j hi hj e
    rcases hi with rfl | ⟨h1, h2⟩ <;> rcases hj with rfl | ⟨h3, h4⟩
    · rfl
    · rw [hπf, hπn _ h4] at e; omega
    · rw [hπf, hπn _ h2] at e; omega
    · rw [hπn _ h2, hπn _ h4] at e; exact e
  have hmD : MRel C.w0 C.F ρ3 (s'.upd (injectD (σ ++ [fresh]) m' 0)).mem w' := by
    refine ⟨fun id c hc => ?_, fun i j b c hb hc hne' gi gj hwr' => ?_, fun i b hb hwr' hg => ?_, hm'.fr⟩
    · obtain ⟨c1, _, _, h3, h4, _⟩ := look id c hc
      exact ⟨h4, h3⟩
    · obtain ⟨b1, h1, h2, _, _, h3⟩ := look i b hb
      obtain ⟨c1, k1, k2, _, _, k3⟩ := look j c hc
      exact hm'.inj (π i) (π j) b1 c1 h1 k1 (fun e => hne' (hπi i j h3 k3 e)) gi gj (by rw [h2, k2]; exact hwr')
    · obtain ⟨b1, h1, h2, _⟩ := look i b hb
      exact hm'.own (π i) b1 h1 (by rw [h2]; exact hwr') hg
  have key : RlD C ρ3 (s'.upd (injectD (σ ++ [fresh]) m' 0)) a w' := by
    refine ⟨by rw [(upd_tmps _ _).1]; exact hr.tm.mono hle3, hr.df, hmD, by rw [(upd_tmps _ _).2]; exact hr.np, fun id hid h0 => ?_, fun id b hb => ?_, hr.wrn⟩
    · obtain ⟨h1, h2, h3, h3o⟩ := hr.base id hid h0
      exact ⟨hle3.al id h1, (hle3.β id h1 (by simp)).trans h2, (hle3.γ id h1 (by simp)).trans h3, (hle3.o id h1 (by simp)).trans h3o⟩
    · obtain ⟨b1, h1, h2, _, _, h3⟩ := look id b hb
      rw [← h2]
      rcases h3 with rfl | ⟨h3, h4⟩
      · rw [hπf] at h1
        rcases hwr p b1 h1 with ⟨b0, k1, _⟩ | ⟨_, k2⟩
        · exfalso
          have := hfr p (hr.mem.blk p b0 k1).1
          omega
        · rw [k2]; exact (hr.wrn _ hf).symm
      · rw [hπn _ h4] at h1
        rcases hwr id b1 h1 with ⟨b0, k1, k2⟩ | ⟨k1, _⟩
        · rw [k2]; exact hr.wr id b0 k1
        · omega
  refine hK ρ3 _ _ (key.put o.dst (VR.sub2 hsub r' v hvr)) (fun id h => ?_)
  rcases h with h | ⟨rfl, _⟩
  · exact .inl h
  · refine .inr ⟨rfl, ?_⟩
    obtain ⟨b, hb⟩ := mem_injectD (σ ++ [id]) m' 0 σ.length (by omega)
    refine ⟨b, ?_⟩
    have e : (σ ++ [id]).getD (0 + σ.length) 0 = id := by rw [Nat.zero_add, List.getD_eq_getElem?_getD, hg3, if_neg (by omega), if_pos rfl]; rfl
    rw [e] at hb
    exact hb
/-- An operation that is passed by. -/
theorem logOK_skip {ops : Array Oper} {fresh : Nat} {o : Oper} {s : S} (hw : ∀ (s' : S) (a : Act) (ρ : Rho), Agree s s' (o.looksAt ops) [] → TRel ρ s'.tmps a.tmps → Region.wanted o (yielded ops a.tmps) = false) : LogOK P ops fresh o s ⟨o.dst, skipV, [], [], o.looksAt ops⟩ := by
  refine ⟨rfl, rfl, fun s' C ρ a w K Q' hag hr hf hal hfr hK => ?_⟩
  rw [if_neg (by rw [hw s' a ρ hag hr.tm]; simp)]
  exact hK ρ _ _ (hr.put o.dst rfl) (fun id h => .inl h)
theorem LogOK.weak {ops : Array Oper} {fresh : Nat} {o : Oper} {s : S} {L : Log} (h : LogOK P ops fresh o s L) {v : AV} (hv : ∀ ρ u, VR ρ L.v u → VR ρ v u) : LogOK P ops fresh o s { L with v := v } := by
  refine ⟨h.1, h.2.1, fun s' C ρ a w K Q' hag hr hf hal hfr hK => h.2.2 s' C ρ a w K Q' hag hr hf hal hfr fun ρ' a' w' hr' hal' => hK ρ' a' w' ?_ hal'⟩
  unfold S.log at hr' ⊢
  cases hd : L.dst with
  | none => simp only [hd] at hr' ⊢; exact hr'
  | some d =>
    simp only [hd] at hr' ⊢
    refine ⟨⟨by simpa [S.put] using hr'.tm.1, fun i x hx => ?_⟩, hr'.df, hr'.mem, hr'.np, hr'.base, hr'.wr, hr'.wrn⟩
    have := hr'.tm.2 i x hx
    simp only [S.put] at this ⊢
    rw [List.getD_eq_getElem?_getD] at this ⊢
    by_cases hi : d = i
    · subst hi
      by_cases hlt : d < (s'.upd L.upd).tmps.length
      · rw [List.getElem?_set_self hlt] at this ⊢
        exact hv ρ' x this
      · rw [List.getElem?_eq_none (by simpa using hlt)]
        trivial
    · rw [List.getElem?_set_ne hi] at this ⊢
      exact this
end


def foldSel (D : Nat → Bool) : List Log → Nat → S → S
  | [], _, s => s
  | L :: r, i, s => foldSel D r (i + 1) (if D i then s.log L else s)
def lastT (D : Nat → Bool) (t : Nat) : List Log → Nat → AV → AV
  | [], _, x => x
  | L :: r, i, x => lastT D t r (i + 1) (if D i && L.dst == some t then L.v else x)
def updAt (id : Nat) : List (Nat × Option Blk) → Option Blk → Option Blk
  | [], x => x
  | (k, b) :: r, x => updAt id r (if k = id then b else x)
def lastB (D : Nat → Bool) (id : Nat) : List Log → Nat → Option Blk → Option Blk
  | [], _, x => x
  | L :: r, i, x => lastB D id r (i + 1) (if D i then updAt id L.upd x else x)
theorem upd_blk (id : Nat) : ∀ (l : List (Nat × Option Blk)) (s : S), blkOf (s.upd l).mem id = updAt id l (blkOf s.mem id)
  | [], _ => rfl
  | (k, b) :: r, s => by
    rw [S.upd, upd_blk id r]
    show updAt id r (blkOf (setAt s.mem k b) id) = _
    rw [blkOf_setAt, updAt]
    congr 1
    by_cases h : k = id
    · rw [if_pos h, if_pos h.symm]
    · rw [if_neg h, if_neg fun e => h e.symm]
theorem updAt_none (id : Nat) : ∀ (l : List (Nat × Option Blk)) (x : Option Blk), (∀ u ∈ l, u.1 ≠ id) → updAt id l x = x
  | [], _, _ => rfl
  | (k, b) :: r, x, h => by rw [updAt, if_neg (h (k, b) (by simp)), updAt_none id r x fun u hu => h u (by simp [hu])]
theorem updAt_some (id : Nat) : ∀ (l : List (Nat × Option Blk)) (x y : Option Blk), (∃ u ∈ l, u.1 = id) → updAt id l x = updAt id l y
  | [], _, _, ⟨_, h, _⟩ => by cases h
  | (k, b) :: r, x, y, ⟨u, hu, he⟩ => by
    rw [updAt, updAt]
    by_cases hk : k = id
    · rw [if_pos hk, if_pos hk]
    · rw [if_neg hk, if_neg hk]
      rcases List.mem_cons.1 hu with rfl | hu
      · exact absurd he hk
      · exact updAt_some id r x y ⟨u, hu, he⟩
theorem log_tl (s : S) (L : Log) : (s.log L).tmps.length = s.tmps.length ∧ (s.log L).np = s.np := by
  unfold S.log
  cases L.dst <;> simp [S.put, (upd_tmps L.upd s).1, (upd_tmps L.upd s).2]
theorem log_tm (s : S) (L : Log) (t : Nat) (ht : t < s.tmps.length) : (s.log L).tmp t = if L.dst = some t then L.v else s.tmp t := by
  unfold S.log S.tmp
  cases L.dst with
  | none => simp [S.put, (upd_tmps L.upd s).1]
  | some d =>
    simp only [S.put, (upd_tmps L.upd s).1, Option.some.injEq]
    by_cases h : d = t
    · subst h
      rw [if_pos rfl, List.getD_eq_getElem?_getD, List.getElem?_set_self ht]
      rfl
    · rw [if_neg h, List.getD_eq_getElem?_getD, List.getElem?_set_ne h, ← List.getD_eq_getElem?_getD]
theorem log_mem (s : S) (L : Log) (id : Nat) : blkOf (s.log L).mem id = updAt id L.upd (blkOf s.mem id) := by
  unfold S.log
  rw [(put_tmps _ _ _).1, upd_blk]
theorem log_len (s : S) (L : Log) : s.mem.length ≤ (s.log L).mem.length ∧ ∀ x ∈ L.upd, x.1 < (s.log L).mem.length := by
  unfold S.log
  rw [(put_tmps _ _ _).1]
  exact upd_len L.upd s
theorem foldSel_tl (D : Nat → Bool) : ∀ (l : List Log) (i : Nat) (s : S), (foldSel D l i s).tmps.length = s.tmps.length ∧ (foldSel D l i s).np = s.np
  | [], _, _ => ⟨rfl, rfl⟩
  | L :: r, i, s => by
    rw [foldSel]
    have h := foldSel_tl D r (i + 1) (if D i then s.log L else s)
    rw [h.1, h.2]
    split
    · exact log_tl s L
    · exact ⟨rfl, rfl⟩
theorem foldSel_tm (D : Nat → Bool) (t : Nat) : ∀ (l : List Log) (i : Nat) (s : S), t < s.tmps.length → (foldSel D l i s).tmp t = lastT D t l i (s.tmp t)
  | [], _, _, _ => rfl
  | L :: r, i, s, ht => by
    rw [foldSel, lastT]
    by_cases hd : D i = true
    · rw [if_pos hd, foldSel_tm D t r (i + 1) _ (by rw [(log_tl s L).1]; exact ht), log_tm s L t ht, hd]
      congr 1
      by_cases h : L.dst = some t <;> simp [h]
    · rw [if_neg hd, foldSel_tm D t r (i + 1) s ht]
      simp [hd]
theorem foldSel_mem (D : Nat → Bool) (id : Nat) : ∀ (l : List Log) (i : Nat) (s : S), blkOf (foldSel D l i s).mem id = lastB D id l i (blkOf s.mem id)
  | [], _, _ => rfl
  | L :: r, i, s => by
    rw [foldSel, lastB, foldSel_mem D id r (i + 1)]
    congr 1
    split
    · exact log_mem s L id
    · rfl
theorem foldSel_len (D : Nat → Bool) : ∀ (l : List Log) (i : Nat) (s : S), s.mem.length ≤ (foldSel D l i s).mem.length ∧ ∀ j L, l[j]? = some L → D (i + j) = true → ∀ x ∈ L.upd, x.1 < (foldSel D l i s).mem.length
  | [], _, s => ⟨Nat.le_refl _, fun j L h => by simp at h⟩
  | L :: r, i, s => by
    rw [foldSel]
    obtain ⟨h1, h2⟩ := foldSel_len D r (i + 1) (if D i then s.log L else s)
    have h3 := log_len s L
    refine ⟨?_, fun j L' hj hd x hx => ?_⟩
    · split at h1 <;> split <;> first | omega | (simp_all; done) | (simp_all; omega)
    · cases j with
      | zero =>
        simp only [List.getElem?_cons_zero, Option.some.injEq, Nat.add_zero] at hj hd
        subst hj
        rw [if_pos hd] at h1 ⊢
        have := h3.2 x hx
        omega
      | succ j =>
        have e : i + (j + 1) = i + 1 + j := by omega
        rw [e] at hd
        exact h2 j L' (by simpa using hj) hd x hx
theorem lastT_congr {D D' : Nat → Bool} {t : Nat} : ∀ (l : List Log) (i : Nat) (x : AV), (∀ j L, l[j]? = some L → L.dst = some t → D (i + j) = D' (i + j)) → lastT D t l i x = lastT D' t l i x
  | [], _, _, _ => rfl
  | L :: r, i, x, h => by
    rw [lastT, lastT]
    have e : (if D i && L.dst == some t then L.v else x) = if D' i && L.dst == some t then L.v else x := by
      by_cases hd : L.dst = some t
      · have := h 0 L rfl hd
        rw [Nat.add_zero] at this
        rw [this]
      · simp [hd]
    rw [e]
    exact lastT_congr r (i + 1) _ fun j L' hj hd => by have := h (j + 1) L' (by simpa using hj) hd; rw [show i + (j + 1) = i + 1 + j by omega] at this; exact this
theorem lastB_congr {D D' : Nat → Bool} {id : Nat} : ∀ (l : List Log) (i : Nat) (x : Option Blk), (∀ j L, l[j]? = some L → (∃ u ∈ L.upd, u.1 = id) → D (i + j) = D' (i + j)) → lastB D id l i x = lastB D' id l i x
  | [], _, _, _ => rfl
  | L :: r, i, x, h => by
    rw [lastB, lastB]
    have e : (if D i then updAt id L.upd x else x) = if D' i then updAt id L.upd x else x := by
      by_cases hd : ∃ u ∈ L.upd, u.1 = id
      · have := h 0 L rfl hd
        rw [Nat.add_zero] at this
        rw [this]
      · have : updAt id L.upd x = x := updAt_none id _ x fun u hu e => hd ⟨u, hu, e⟩
        simp [this]
    rw [e]
    exact lastB_congr r (i + 1) _ fun j L' hj hd => by have := h (j + 1) L' (by simpa using hj) hd; rw [show i + (j + 1) = i + 1 + j by omega] at this; exact this
/-- Operation i is the last that writes. -/
theorem lastT_last {D : Nat → Bool} {t : Nat} : ∀ (l : List Log) (i : Nat) (x : AV) (j : Nat) (L : Log), l[j]? = some L → D (i + j) = true → L.dst = some t → (∀ k L', l[k]? = some L' → j < k → D (i + k) = true → L'.dst ≠ some t) → lastT D t l i x = L.v
  | [], _, _, _, _, h, _, _, _ => by simp at h
  | L0 :: r, i, x, 0, L, h, hd, ht, hk => by
    simp only [List.getElem?_cons_zero, Option.some.injEq, Nat.add_zero] at h hd
    subst h
    rw [lastT]
    simp only [hd, ht, BEq.rfl, Bool.and_self, if_true]
    have : ∀ (r : List Log) (i : Nat) (y : AV), (∀ k L', r[k]? = some L' → D (i + k) = true → L'.dst ≠ some t) → lastT D t r i y = y := by
      intro r
      induction r with
      | nil => intros; rfl
      | cons L1 r ih =>
        intro i y h
        rw [lastT]
        have e : (if D i && L1.dst == some t then L1.v else y) = y := by
          by_cases hd : D i = true
          · have := h 0 L1 rfl (by simpa using hd)
            simp [this]
          · simp [hd]
        rw [e]
        exact ih (i + 1) y fun k L' hk hd => h (k + 1) L' (by simpa using hk) (by rw [show i + (k + 1) = i + 1 + k by omega]; exact hd)
    exact this r (i + 1) _ fun k L' hk' hd' => hk (k + 1) L' (by simpa using hk') (by omega) (by rw [show i + (k + 1) = i + 1 + k by omega]; exact hd')
  | L0 :: r, i, x, j + 1, L, h, hd, ht, hk => by
    rw [lastT]
    exact lastT_last r (i + 1) _ j L (by simpa using h) (by rw [show i + 1 + j = i + (j + 1) by omega]; exact hd) ht fun k L' hk' hlt hd' => hk (k + 1) L' (by simpa using hk') (by omega) (by rw [show i + (k + 1) = i + 1 + k by omega]; exact hd')
/-- Operation i is the last that touches block id: it may as well come behind all. -/
theorem lastB_last {D : Nat → Bool} {id : Nat} : ∀ (l : List Log) (i : Nat) (x : Option Blk) (j : Nat) (L : Log), l[j]? = some L → D (i + j) = true → (∃ u ∈ L.upd, u.1 = id) → (∀ k L', l[k]? = some L' → j < k → D (i + k) = true → ∀ u ∈ L'.upd, u.1 ≠ id) → ∀ y, lastB D id l i x = updAt id L.upd y
  | [], _, _, _, _, h, _, _, _ => by simp at h
  | L0 :: r, i, x, 0, L, h, hd, hu, hk => by
    intro y
    simp only [List.getElem?_cons_zero, Option.some.injEq, Nat.add_zero] at h hd
    subst h
    rw [lastB, if_pos hd]
    have : ∀ (r : List Log) (i : Nat) (y : Option Blk), (∀ k L', r[k]? = some L' → D (i + k) = true → ∀ u ∈ L'.upd, u.1 ≠ id) → lastB D id r i y = y := by
      intro r
      induction r with
      | nil => intros; rfl
      | cons L1 r ih =>
        intro i y h
        rw [lastB]
        have e : (if D i then updAt id L1.upd y else y) = y := by
          by_cases hd : D i = true
          · rw [if_pos hd]; exact updAt_none id _ y (h 0 L1 rfl (by simpa using hd))
          · simp [hd]
        rw [e]
        exact ih (i + 1) y fun k L' hk hd => h (k + 1) L' (by simpa using hk) (by rw [show i + (k + 1) = i + 1 + k by omega]; exact hd)
    rw [this r (i + 1) _ fun k L' hk' hd' => hk (k + 1) L' (by simpa using hk') (by omega) (by rw [show i + (k + 1) = i + 1 + k by omega]; exact hd')]
    exact updAt_some id _ _ _ hu
  | L0 :: r, i, x, j + 1, L, h, hd, hu, hk => by
    intro y
    rw [lastB]
    exact lastB_last r (i + 1) _ j L (by simpa using h) (by rw [show i + 1 + j = i + (j + 1) by omega]; exact hd) hu (fun k L' hk' hlt hd' => hk (k + 1) L' (by simpa using hk') (by omega) (by rw [show i + (k + 1) = i + 1 + k by omega]; exact hd')) y

/-! the orders -/
theorem mem_addAll : ∀ (l acc : List Nat) (x : Nat), x ∈ addAll l acc → x ∈ l ∨ x ∈ acc
  | [], _, _, h => .inr h
  | y :: l, acc, x, h => by
    rw [addAll] at h
    split at h
    · rcases mem_addAll l acc x h with h | h
      · exact .inl (List.mem_cons_of_mem _ h)
      · exact .inr h
    · rcases mem_addAll l _ x h with h | h
      · exact .inl (List.mem_cons_of_mem _ h)
      · rcases List.mem_cons.1 h with rfl | h
        · exact .inl List.mem_cons_self
        · exact .inr h
theorem mem_befOf (acc : List (List Nat)) : ∀ (es : List Edge) (x : Nat), x ∈ befOf acc es → ∃ e ∈ es, Region.binds .any e = true ∧ (x = e.on ∨ x ∈ acc.getD e.on [])
  | [], _, h => by cases h
  | e :: l, x, h => by
    rw [befOf] at h
    split at h
    · rename_i hb
      rcases mem_addAll _ _ x h with h | h
      · exact ⟨e, List.mem_cons_self, hb, List.mem_cons.1 h⟩
      · obtain ⟨e', h1, h2⟩ := mem_befOf acc l x h
        exact ⟨e', List.mem_cons_of_mem _ h1, h2⟩
    · obtain ⟨e', h1, h2⟩ := mem_befOf acc l x h
      exact ⟨e', List.mem_cons_of_mem _ h1, h2⟩
theorem befs_pre : ∀ (l : List Oper) (acc : List (List Nat)), ∃ m, befs l acc = acc ++ m ∧ m.length = l.length
  | [], acc => ⟨[], by simp [befs], rfl⟩
  | o :: r, acc => by
    obtain ⟨m, h1, h2⟩ := befs_pre r (acc ++ [befOf acc o.after.toList])
    exact ⟨befOf acc o.after.toList :: m, by rw [befs, h1]; simp, by simp [h2]⟩
theorem mem_befs : ∀ (l : List Oper) (acc : List (List Nat)) (k x : Nat) (o : Oper), l[k]? = some o → edgesDown l acc.length = true → x ∈ (befs l acc).getD (acc.length + k) [] →
    ∃ e ∈ o.after.toList, Region.binds .any e = true ∧ e.on < acc.length + k ∧ (x = e.on ∨ x ∈ (befs l acc).getD e.on [])
  | [], _, _, _, _, h, _, _ => by simp at h
  | o' :: r, acc, 0, x, o, h, hd, hx => by
    simp only [List.getElem?_cons_zero, Option.some.injEq] at h
    subst h
    rw [befs] at hx ⊢
    obtain ⟨m, h1, _⟩ := befs_pre r (acc ++ [befOf acc o'.after.toList])
    rw [h1] at hx ⊢
    simp only [edgesDown, Bool.and_eq_true] at hd
    have e1 : (acc ++ [befOf acc o'.after.toList] ++ m).getD (acc.length + 0) [] = befOf acc o'.after.toList := by
      rw [List.getD_eq_getElem?_getD, List.append_assoc, List.getElem?_append_right (by omega)]
      simp
    rw [e1] at hx
    obtain ⟨e, h2, h3, h4⟩ := mem_befOf acc _ x hx
    have hlt : e.on < acc.length := by
      have := List.all_eq_true.1 hd.1 e h2
      rw [h3] at this
      simpa using this
    refine ⟨e, h2, h3, by omega, h4.imp id fun h => ?_⟩
    rw [List.getD_eq_getElem?_getD] at h ⊢
    rw [List.append_assoc, List.getElem?_append_left hlt]
    exact h
  | o' :: r, acc, k + 1, x, o, h, hd, hx => by
    rw [befs] at hx ⊢
    simp only [edgesDown, Bool.and_eq_true] at hd
    have e : acc.length + (k + 1) = (acc ++ [befOf acc o'.after.toList]).length + k := by simp; omega
    rw [e] at hx ⊢
    exact mem_befs r _ k x o (by simpa using h) (by simpa using hd.2) hx
theorem allBefore_mem : ∀ (n : Nat) (l : List Nat), allBefore n l = true → ∀ i, i < n → i ∈ l
  | 0, _, _, i, h => by omega
  | n + 1, l, h, i, hi => by
    simp only [allBefore, Bool.and_eq_true] at h
    by_cases e : i = n
    · subst e; simpa using h.1
    · exact allBefore_mem n l h.2 i (by omega)
theorem tailFrom_spec (bef : List (List Nat)) : ∀ (n k : Nat), tailFrom bef n ≤ k → k < n → ∀ i, i < k → i ∈ bef.getD k []
  | 0, _, _, h, _, _ => by omega
  | n + 1, k, h1, h2, i, hi => by
    rw [tailFrom] at h1
    split at h1
    · rename_i hb
      by_cases e : k = n
      · subst e; exact allBefore_mem k _ hb i hi
      · exact tailFrom_spec bef n k h1 (by omega) i hi
    · omega
theorem tailFrom_le (bef : List (List Nat)) : ∀ n, tailFrom bef n ≤ n
  | 0 => Nat.le_refl _
  | n + 1 => by rw [tailFrom]; split; exact Nat.le_trans (tailFrom_le bef n) (by omega); exact Nat.le_refl _
theorem indepWith_spec (b : Log) (bf : List Nat) : ∀ (l : List Log) (i j : Nat) (a : Log), indepWith b bf l i = true → l[j]? = some a → conflict a b = true → i + j ∈ bf
  | [], _, _, _, _, h, _ => by simp at h
  | a' :: l, i, 0, a, h, hj, hc => by
    simp only [List.getElem?_cons_zero, Option.some.injEq] at hj
    subst hj
    simp only [indepWith, Bool.and_eq_true, hc, Bool.not_true, Bool.false_or] at h
    simpa using h.1
  | a' :: l, i, j + 1, a, h, hj, hc => by
    simp only [indepWith, Bool.and_eq_true] at h
    have := indepWith_spec b bf l (i + 1) j a h.2 (by simpa using hj) hc
    rw [show i + (j + 1) = i + 1 + j by omega]
    exact this
theorem indep_spec (bef : List (List Nat)) : ∀ (l done : List Log), indep bef l done.length done = true → ∀ (j i : Nat) (a b : Log), l[j]? = some b → (done ++ l)[i]? = some a → i < done.length + j → conflict a b = true → i ∈ bef.getD (done.length + j) []
  | [], _, _, _, _, _, _, h, _, _, _ => by simp at h
  | b' :: l, done, h, 0, i, a, b, hj, hi, hlt, hc => by
    simp only [List.getElem?_cons_zero, Option.some.injEq] at hj
    subst hj
    simp only [indep, Bool.and_eq_true] at h
    rw [List.getElem?_append_left (by omega)] at hi
    have := indepWith_spec b' _ done 0 i a h.1 hi hc
    simpa using this
  | b' :: l, done, h, j + 1, i, a, b, hj, hi, hlt, hc => by
    simp only [indep, Bool.and_eq_true] at h
    have e : done.length + 1 = (done ++ [b']).length := by simp
    rw [e] at h
    have e2 : done.length + (j + 1) = (done ++ [b']).length + j := by simp; omega
    rw [e2]
    exact indep_spec bef l (done ++ [b']) h.2 j i a b (by simpa using hj) (by simpa using hi) (by omega) hc


section
variable {P : Program} {τ : Tab} {eqt : EqTab}
/-- The logs of the operations, as reckoned in the order of the text. -/
theorem drawRun_sound (hτ : ∀ t i, τ t = some i → i.ok P t) (he : EqOK P eqt) {ops : Array Oper} {base : Nat} {Q : Fin → Prop} {k : List Log → S → T} : ∀ (l : List Oper) (i : Nat) (logs : List Log) (s : S), (drawRun τ eqt ops base l i logs k s).holds P Q →
    ∃ L : List Log, L.length = l.length ∧ (∀ j o b, l[j]? = some o → L[j]? = some b → LogOK P ops (base + i + j) o (foldSel (fun _ => true) (L.take j) 0 s) b) ∧ (k (logs ++ L) (foldSel (fun _ => true) L 0 s)).holds P Q
  | [], i, logs, s, h => ⟨[], rfl, fun j o b h1 => by simp at h1, by simpa [drawRun, foldSel] using h⟩
  | o :: rest, i, logs, s, h => by
    have shift : ∀ (D : Nat) (l : List Log) (s : S), foldSel (fun _ => true) l (D + 1) s = foldSel (fun _ => true) l D s := by
      have gen : ∀ (l : List Log) (a b : Nat) (s : S), foldSel (fun _ => true) l a s = foldSel (fun _ => true) l b s := by
        intro l
        induction l with
        | nil => intros; rfl
        | cons L r ih => intro a b s; rw [foldSel, foldSel]; exact ih _ _ _
      exact fun D l s => gen l _ _ s
    -- behind this operation
    have fin : ∀ (L : Log), LogOK P ops (base + i) o s L → L.names = o.looksAt ops → (drawRun τ eqt ops base rest (i + 1) (logs ++ [L]) k (s.log L)).holds P Q →
        ∃ L : List Log, L.length = (o :: rest).length ∧ (∀ j o' b, (o :: rest)[j]? = some o' → L[j]? = some b → LogOK P ops (base + i + j) o' (foldSel (fun _ => true) (L.take j) 0 s) b) ∧ (k (logs ++ L) (foldSel (fun _ => true) L 0 s)).holds P Q := by
      intro L hL _ hh
      obtain ⟨L', h1, h2, h3⟩ := drawRun_sound hτ he rest (i + 1) (logs ++ [L]) (s.log L) hh
      refine ⟨L :: L', by simp [h1], fun j o' b hj hb => ?_, ?_⟩
      · cases j with
        | zero =>
          simp only [List.getElem?_cons_zero, Option.some.injEq] at hj hb
          subst hj hb
          exact hL
        | succ j =>
          have := h2 j o' b (by simpa using hj) (by simpa using hb)
          rw [show base + i + (j + 1) = base + (i + 1) + j by omega]
          simp only [List.take_succ_cons, foldSel, if_true]
          rw [shift]
          exact this
      · simp only [foldSel, if_true]
        rw [shift]
        simpa using h3
    have out : ∀ (v : AV) (upd : List (Nat × Option Blk)) (touch : List Nat), LogOK P ops (base + i) o s ⟨o.dst, v, upd, touch, o.looksAt ops⟩ →
        T.holds P (match v with
          | .bool (.lit _) => drawRun τ eqt ops base rest (i + 1) (logs ++ [⟨o.dst, v, upd, touch, o.looksAt ops⟩]) k ((s.upd upd).put o.dst v)
          | .bool c => if isSource ops.toList i then .ite c (drawRun τ eqt ops base rest (i + 1) (logs ++ [⟨o.dst, .bool (.lit true), upd, touch, o.looksAt ops⟩]) k ((s.upd upd).put o.dst (.bool (.lit true)))) (drawRun τ eqt ops base rest (i + 1) (logs ++ [⟨o.dst, .bool (.lit false), upd, touch, o.looksAt ops⟩]) k ((s.upd upd).put o.dst (.bool (.lit false)))) else drawRun τ eqt ops base rest (i + 1) (logs ++ [⟨o.dst, v, upd, touch, o.looksAt ops⟩]) k ((s.upd upd).put o.dst v)
          | v => drawRun τ eqt ops base rest (i + 1) (logs ++ [⟨o.dst, v, upd, touch, o.looksAt ops⟩]) k ((s.upd upd).put o.dst v)) Q →
        ∃ L : List Log, L.length = (o :: rest).length ∧ (∀ j o' b, (o :: rest)[j]? = some o' → L[j]? = some b → LogOK P ops (base + i + j) o' (foldSel (fun _ => true) (L.take j) 0 s) b) ∧ (k (logs ++ L) (foldSel (fun _ => true) L 0 s)).holds P Q := by
      intro v upd touch hL hh
      split at hh
      · exact fin _ hL rfl hh
      · rename_i c _
        split at hh
        · cases hc : c.den with
          | true => exact fin _ (hL.weak (v := .bool (.lit true)) fun ρ u hu => by have hu : u = .bool c.den := hu; rw [hu, hc]; rfl) rfl (hh.1 hc)
          | false => exact fin _ (hL.weak (v := .bool (.lit false)) fun ρ u hu => by have hu : u = .bool c.den := hu; rw [hu, hc]; rfl) rfl (hh.2 hc)
        · exact fin _ hL rfl hh
      · exact fin _ hL rfl hh
    have go : (∀ (touch : List Nat) (s' : S) (a : Act) (ρ : Rho), Agree s s' (o.looksAt ops) touch → TRel ρ s'.tmps a.tmps → Region.wanted o (yielded ops a.tmps) = true) →
        T.holds P (match astep τ eqt (base + i) s o with
          | .val v upd none need touch => T.mkNeed need (match v with
            | .bool (.lit _) => drawRun τ eqt ops base rest (i + 1) (logs ++ [⟨o.dst, v, upd, touch, o.looksAt ops⟩]) k ((s.upd upd).put o.dst v)
            | .bool c => if isSource ops.toList i then .ite c (drawRun τ eqt ops base rest (i + 1) (logs ++ [⟨o.dst, .bool (.lit true), upd, touch, o.looksAt ops⟩]) k ((s.upd upd).put o.dst (.bool (.lit true)))) (drawRun τ eqt ops base rest (i + 1) (logs ++ [⟨o.dst, .bool (.lit false), upd, touch, o.looksAt ops⟩]) k ((s.upd upd).put o.dst (.bool (.lit false)))) else drawRun τ eqt ops base rest (i + 1) (logs ++ [⟨o.dst, v, upd, touch, o.looksAt ops⟩]) k ((s.upd upd).put o.dst v)
            | v => drawRun τ eqt ops base rest (i + 1) (logs ++ [⟨o.dst, v, upd, touch, o.looksAt ops⟩]) k ((s.upd upd).put o.dst v))
          | .val _ _ (some _) _ _ => .bad 10
          | .call f args =>
            let σ := reach s.mem 40 0 (AV.idsL args [])
            if nodupB σ && σ.all (fun id => (s.blk id).isSome) then
              .callD f (AV.renL (fun i => idxOf σ i 0) args) (small s.mem σ) fun r m =>
                if m.length = σ.length then (match (r.ren fun j => σ[j]?) with
                  | .bool (.lit _) => drawRun τ eqt ops base rest (i + 1) (logs ++ [⟨o.dst, r.ren fun j => σ[j]?, injectD σ m 0, σ, o.looksAt ops⟩]) k ((s.upd (injectD σ m 0)).put o.dst (r.ren fun j => σ[j]?))
                  | .bool c => if isSource ops.toList i then .ite c (drawRun τ eqt ops base rest (i + 1) (logs ++ [⟨o.dst, .bool (.lit true), injectD σ m 0, σ, o.looksAt ops⟩]) k ((s.upd (injectD σ m 0)).put o.dst (.bool (.lit true)))) (drawRun τ eqt ops base rest (i + 1) (logs ++ [⟨o.dst, .bool (.lit false), injectD σ m 0, σ, o.looksAt ops⟩]) k ((s.upd (injectD σ m 0)).put o.dst (.bool (.lit false)))) else drawRun τ eqt ops base rest (i + 1) (logs ++ [⟨o.dst, r.ren fun j => σ[j]?, injectD σ m 0, σ, o.looksAt ops⟩]) k ((s.upd (injectD σ m 0)).put o.dst (r.ren fun j => σ[j]?))
                  | v => drawRun τ eqt ops base rest (i + 1) (logs ++ [⟨o.dst, v, injectD σ m 0, σ, o.looksAt ops⟩]) k ((s.upd (injectD σ m 0)).put o.dst v)) else (if m.length = σ.length + 1 then (match (r.ren fun j => (σ ++ [base + i])[j]?) with
                  | .bool (.lit _) => drawRun τ eqt ops base rest (i + 1) (logs ++ [⟨o.dst, r.ren fun j => (σ ++ [base + i])[j]?, injectD (σ ++ [base + i]) m 0, σ, o.looksAt ops⟩]) k ((s.upd (injectD (σ ++ [base + i]) m 0)).put o.dst (r.ren fun j => (σ ++ [base + i])[j]?))
                  | .bool c => if isSource ops.toList i then .ite c (drawRun τ eqt ops base rest (i + 1) (logs ++ [⟨o.dst, .bool (.lit true), injectD (σ ++ [base + i]) m 0, σ, o.looksAt ops⟩]) k ((s.upd (injectD (σ ++ [base + i]) m 0)).put o.dst (.bool (.lit true)))) (drawRun τ eqt ops base rest (i + 1) (logs ++ [⟨o.dst, .bool (.lit false), injectD (σ ++ [base + i]) m 0, σ, o.looksAt ops⟩]) k ((s.upd (injectD (σ ++ [base + i]) m 0)).put o.dst (.bool (.lit false)))) else drawRun τ eqt ops base rest (i + 1) (logs ++ [⟨o.dst, r.ren fun j => (σ ++ [base + i])[j]?, injectD (σ ++ [base + i]) m 0, σ, o.looksAt ops⟩]) k ((s.upd (injectD (σ ++ [base + i]) m 0)).put o.dst (r.ren fun j => (σ ++ [base + i])[j]?))
                  | v => drawRun τ eqt ops base rest (i + 1) (logs ++ [⟨o.dst, v, injectD (σ ++ [base + i]) m 0, σ, o.looksAt ops⟩]) k ((s.upd (injectD (σ ++ [base + i]) m 0)).put o.dst v)) else .bad 11)
            else .bad 6
          | .bad => .bad 1) Q →
        ∃ L : List Log, L.length = (o :: rest).length ∧ (∀ j o' b, (o :: rest)[j]? = some o' → L[j]? = some b → LogOK P ops (base + i + j) o' (foldSel (fun _ => true) (L.take j) 0 s) b) ∧ (k (logs ++ L) (foldSel (fun _ => true) L 0 s)).holds P Q := by
      intro hw hh
      split at hh
      · rename_i v upd need touch hst
        obtain ⟨h1, h2⟩ := mkNeed_holds hh
        exact out v upd touch (logOK_val hτ he hst h1 (hw touch)) h2
      · exact hh.elim
      · rename_i f args hst
        dsimp only at hh
        split at hh
        · rename_i hc
          simp only [Bool.and_eq_true] at hc
          obtain ⟨hc1, hc2⟩ := hc
          obtain ⟨r, m, hR, hk⟩ := hh
          dsimp only at hk
          by_cases hl : m.length = (reach s.mem 40 0 (AV.idsL args [])).length
          · rw [if_pos hl] at hk
            exact out _ _ _ (logOK_call hτ hst (nodupB_nodup _ hc1) (fun id hid => List.all_eq_true.1 hc2 id hid) hl hR (hw _)) hk
          · rw [if_neg hl] at hk
            by_cases hl1 : m.length = (reach s.mem 40 0 (AV.idsL args [])).length + 1
            · rw [if_pos hl1] at hk
              exact out _ _ _ (logOK_call1 hτ hst (nodupB_nodup _ hc1) (fun id hid => List.all_eq_true.1 hc2 id hid) hl1 hR (hw _)) hk
            · rw [if_neg hl1] at hk
              exact (hk : False).elim
        · exact hh.elim
      · exact hh.elim
    unfold drawRun at h
    dsimp only at h
    split at h
    · rename_i hg
      exact go (fun touch s' a ρ _ _ => by simp [Region.wanted, hg]) h
    · rename_i j want hg
      split at h
      · rename_i d hd
        split at h
        · rename_i c hc
          split at h
          · rename_i hcw
            exact go (fun touch s' a ρ hag ht => by rw [wanted_of hag ht hg hd hc, hcw]; simp) h
          · rename_i hcw
            exact fin _ (logOK_skip fun s' a ρ hag ht => by rw [wanted_of hag ht hg hd hc]; simpa using hcw) rfl h
        · rename_i x hc
          exact fin _ (logOK_skip fun s' a ρ hag ht => wanted_raw hag ht hg hd hc) rfl h
        · exact h.elim
      · exact h.elim
end


section
variable {P : Program} {τ : Tab} {eqt : EqTab}
theorem mkDraw_holds {b : Bool} {t : T} {Q : Fin → Prop} (h : (T.mkDraw b t).holds P Q) : b = true ∧ t.holds P Q := by
  cases b with
  | true => exact ⟨rfl, h⟩
  | false => exact h.elim
theorem Rl.ofD {C : Ctx} {ρ : Rho} {s : S} {a : Act} {w : World} (h : RlD C ρ s a w) (hf : ∀ id, ρ.al id → id < s.mem.length) (hl : C.np ≤ s.mem.length) : Rl C ρ s a w := ⟨h.tm, h.df, h.mem, hf, h.np, hl, h.base, h.wr, h.wrn⟩
theorem mem_ready {ops : Array Oper} {listed : Array Bool} {i : Nat} : i ∈ Region.ready .any ops listed ↔ i < ops.size ∧ listed.getD i true = false ∧ ∃ o, ops[i]? = some o ∧ ∀ e ∈ o.after.toList, Region.binds .any e = true → listed.getD e.on false = true := by
  unfold Region.ready
  rw [List.mem_filter, List.mem_range]
  refine and_congr_right fun hi => ?_
  rw [Bool.and_eq_true, Bool.not_eq_true']
  refine and_congr_right fun _ => ?_
  rw [Array.getElem?_eq_getElem hi]
  simp only [Option.map_some, Option.getD_some, Array.all_eq_true_iff_forall_mem, Option.some.injEq]
  constructor
  · intro h
    refine ⟨_, rfl, fun e he hb => ?_⟩
    have := h e (by simpa using he)
    rw [hb] at this
    simpa using this
  · rintro ⟨o, rfl, h⟩ e he
    cases hb : Region.binds .any e with
    | false => simp
    | true => simpa using h e (by simpa using he) hb
theorem set_getD (listed : Array Bool) (i k : Nat) (d : Bool) (hi : i < listed.size) : (listed.setIfInBounds i true).getD k d = if k = i then true else listed.getD k d := by
  rw [Array.getD_eq_getD_getElem?, Array.getD_eq_getD_getElem?]
  by_cases h : k = i
  · subst h
    rw [if_pos rfl, Array.getElem?_setIfInBounds_self_of_lt hi]
    rfl
  · rw [if_neg h, Array.getElem?_setIfInBounds_ne (fun e => h e.symm)]
theorem getD_lt (listed : Array Bool) (k : Nat) (d d' : Bool) (h : k < listed.size) : listed.getD k d = listed.getD k d' := by
  rw [Array.getD_eq_getD_getElem?, Array.getD_eq_getD_getElem?, Array.getElem?_eq_getElem h]
  rfl

/-- Behind the drawn part: one operation after the other. -/
theorem tail_sound (hτ : ∀ t i, τ t = some i → i.ok P t) (he : EqOK P eqt) {ops : Array Oper} {Q : Fin → Prop} {k : S → T} {C : Ctx} {Q' : Exit → Act → World → Prop}
    (hQ : ∀ s ρ a w, (k s).holds P Q → Rl C ρ s a w → Q' .normal a w) (hdown : edgesDown ops.toList 0 = true) {m : Nat} (htail : ∀ k, m ≤ k → k < ops.size → ∀ i, i < k → i ∈ (befs ops.toList []).getD k []) :
    ∀ (fuel j : Nat) (listed : Array Bool) (s : S) (ρ : Rho) (a : Act) (w : World), fuel + j = ops.size → m ≤ j → listed.size = ops.size → (∀ k, k < ops.size → (listed.getD k true = true ↔ k < j)) → (opsA τ eqt ops (ops.toList.drop j) k s).holds P Q → Rl C ρ s a w →
      wpAny P .any ops Q' fuel listed a w := by
  intro fuel
  have dnorm : ∀ (k : Nat) (o : Oper), ops[k]? = some o → ∀ e ∈ o.after.toList, Region.binds .any e = true → e.on < k := by
    have gen : ∀ (l : List Oper) (n k : Nat) (o : Oper), edgesDown l n = true → l[k]? = some o → ∀ e ∈ o.after.toList, Region.binds .any e = true → e.on < n + k := by
      intro l
      induction l with
      | nil => intro n k o _ h; simp at h
      | cons o' l ih =>
        intro n k o hd hk e he hb
        simp only [edgesDown, Bool.and_eq_true] at hd
        cases k with
        | zero =>
          simp only [List.getElem?_cons_zero, Option.some.injEq] at hk
          subst hk
          have := List.all_eq_true.1 hd.1 e he
          rw [hb] at this
          simpa using this
        | succ k =>
          have := ih (n + 1) k o hd.2 (by simpa using hk) e he hb
          omega
    intro k o hk e he hb
    have := gen ops.toList 0 k o hdown (by simpa using hk) e he hb
    omega
  induction fuel with
  | zero =>
    intro j listed s ρ a w hf hmj hls hl h hr
    have hj : j = ops.size := by omega
    refine ⟨?_, ?_⟩
    · rw [List.eq_nil_iff_forall_not_mem]
      intro i hi
      obtain ⟨h1, h2, _⟩ := mem_ready.1 hi
      have := (hl i h1).2 (by omega)
      rw [this] at h2
      cases h2
    · rw [List.drop_of_length_le (by simp; omega)] at h
      exact hQ s ρ a w h hr
  | succ fuel ih =>
    intro j listed s ρ a w hf hmj hls hl h hr
    have hj : j < ops.size := by omega
    have hoj := Array.getElem?_eq_getElem hj
    have hready : j ∈ Region.ready .any ops listed := by
      refine mem_ready.2 ⟨hj, ?_, _, hoj, fun e he hb => ?_⟩
      · cases hv : listed.getD j true with
        | false => rfl
        | true => have := (hl j hj).1 hv; omega
      · have := dnorm j _ hoj e he hb
        rw [getD_lt listed e.on false true (by omega)]
        exact (hl e.on (by omega)).2 (by omega)
    refine ⟨fun h0 => (by rw [h0] at hready; cases hready), fun i hi => ?_⟩
    obtain ⟨h1, h2, o, h3, h4⟩ := mem_ready.1 hi
    have hij : i = j := by
      rcases Nat.lt_trichotomy i j with hlt | heq | hgt
      · have := (hl i h1).2 hlt
        rw [this] at h2
        cases h2
      · exact heq
      · exfalso
        -- j lies before i, yet is not listed
        have hmem := htail i (by omega) h1 j hgt
        have key : ∀ (n i : Nat), i < n → ∀ o, ops[i]? = some o → (∀ e ∈ o.after.toList, Region.binds .any e = true → listed.getD e.on false = true) → ∀ x, x ∈ (befs ops.toList []).getD i [] → x < j := by
          intro n
          induction n with
          | zero => intro i hi; omega
          | succ n ihn =>
            intro i hi o ho hedge x hx
            obtain ⟨e, he1, he2, he3, he4⟩ := mem_befs ops.toList [] i x o (by simpa using ho) hdown (by simpa using hx)
            have hon : e.on < ops.size := by have := (Array.getElem?_eq_some_iff.1 ho).1; simp at he3; omega
            have hlst := hedge e he1 he2
            rw [getD_lt listed e.on false true (by omega)] at hlst
            have hlt := (hl e.on hon).1 hlst
            rcases he4 with rfl | he4
            · exact hlt
            · obtain ⟨o2, ho2⟩ : ∃ o2, ops[e.on]? = some o2 := ⟨_, Array.getElem?_eq_getElem hon⟩
              refine ihn e.on (by simp at he3; omega) o2 ho2 (fun e' he1' he2' => ?_) x he4
              have := dnorm e.on o2 ho2 e' he1' he2'
              rw [getD_lt listed e'.on false true (by omega)]
              exact (hl e'.on (by omega)).2 (by omega)
        have := key (i + 1) i (by omega) o h3 h4 j hmem
        omega
    subst hij
    unfold wpOp
    rw [hoj]
    have hdrop : ops.toList.drop i = ops[i] :: ops.toList.drop (i + 1) := by
      rw [List.drop_eq_getElem_cons (by simpa using hj)]
      simp
    rw [hdrop] at h
    refine opsA_step hτ he (fun s' ρ' a' w' h' hr' => ?_) s ρ a w h hr
    refine ih (i + 1) _ s' ρ' a' w' (by omega) (by omega) (by simp [hls]) (fun k hk => ?_) h' hr'
    rw [set_getD _ _ _ _ (by omega)]
    by_cases e : k = i
    · rw [if_pos e]; simp; omega
    · rw [if_neg e, hl k hk]; omega

theorem draw_sound (hτ : ∀ t i, τ t = some i → i.ok P t) (he : EqOK P eqt) (hfol : P.follows .mixedOrders = true) {id0 : Nat} {ops : Array Oper} {Q : Fin → Prop} {k : S → T} {C : Ctx} {Q' : Exit → Act → World → Prop}
    (hQ : ∀ s ρ a w, (k s).holds P Q → Rl C ρ s a w → Q' .normal a w) {s : S} {ρ : Rho} {a : Act} {w : World} (h : (drawT τ eqt ops k s).holds P Q) (hr : Rl C ρ s a w) : (Code.region id0 ops true).wp P Q' a w := by
  refine wp_region_any hfol ?_
  unfold drawT at h
  dsimp only at h
  split at h
  case isFalse => exact h.elim
  rename_i hdown
  obtain ⟨L, hL1, hL2, hL5⟩ := drawRun_sound hτ he _ 0 [] s h
  simp only [List.nil_append, Nat.add_zero] at hL2 hL5
  obtain ⟨hL3, hL4⟩ := mkDraw_holds hL5
  generalize hbef : befs ops.toList [] = bef at *
  generalize hm : tailFrom bef ops.toList.length = m at *
  have hmle : m ≤ ops.size := by rw [← hm]; have := tailFrom_le bef ops.toList.length; simpa using this
  have hLm : L.length = m := by rw [hL1]; simp; omega
  have htail : ∀ k, m ≤ k → k < ops.size → ∀ i, i < k → i ∈ bef.getD k [] := fun k h1 h2 => tailFrom_spec bef ops.toList.length k (by rw [hm]; exact h1) (by simpa using h2)
  have hlen := hr.len
  have htl := tail_sound hτ he hQ hdown (m := m) (by rw [hbef]; exact htail)
  -- ordered or apart
  have hind : ∀ (i j : Nat) (A B : Log), L[i]? = some A → L[j]? = some B → i < j → conflict A B = true → i ∈ bef.getD j [] := by
    intro i j A B hA hB hlt hc
    have := indep_spec bef L [] hL3 j i A B hB (by simpa using hA) (by simpa using hlt) hc
    simpa using this
  have hwd : RlD C ρ s a { w with drawn := w.drawn + 1 } := by
    have h0 := hr.toD
    refine ⟨h0.tm, h0.df, ⟨fun id b hb => ⟨(h0.mem.blk id b hb).1, ?_⟩, h0.mem.inj, h0.mem.own, ⟨h0.mem.fr.os, h0.mem.fr.tape, h0.mem.fr.output, h0.mem.fr.size, h0.mem.fr.block, Nat.le_succ_of_le h0.mem.fr.drawn⟩⟩, h0.np, h0.base, h0.wr, h0.wrn⟩
    exact (h0.mem.blk id b hb).2.kept (Rho.le_refl ρ none) (h0.mem.blk id b hb).1 (fun _ => rfl)
  -- whatever has come up
  have main : ∀ (fuel : Nat) (listed : Array Bool) (ρ' : Rho) (a' : Act) (w' : World), listed.size = ops.size →
      fuel + (List.range ops.size).countP (fun i => listed.getD i true) = ops.size →
      (∀ k, m ≤ k → k < ops.size → listed.getD k true = false) →
      (∀ (k : Nat) (o : Oper), ops[k]? = some o → listed.getD k true = true → ∀ e ∈ o.after.toList, Region.binds .any e = true → listed.getD e.on false = true) →
      RlD C ρ' (foldSel (fun i => listed.getD i true) L 0 s) a' w' →
      (∀ id, ρ'.al id → ρ.al id ∨ ∃ (j : Nat) (B : Log), L[j]? = some B ∧ listed.getD j true = true ∧ id = s.mem.length + j ∧ ∃ b, (s.mem.length + j, b) ∈ B.upd) →
      wpAny P .any ops Q' fuel listed a' w' := by
    intro fuel
    induction fuel with
    | zero =>
      intro listed ρ' a' w' hls hcnt hno hcl hR hal
      have hall : ∀ k, k < ops.size → listed.getD k true = true := by
        intro k hk
        have h1 := List.countP_eq_length (p := fun i => listed.getD i true) (l := List.range ops.size)
        simp only [List.length_range] at h1
        exact h1.1 (by omega) k (List.mem_range.2 hk)
      have hm' : m = ops.size := by
        rcases Nat.lt_or_ge m ops.size with hlt | hge
        · have := hno m (Nat.le_refl _) hlt
          rw [hall m hlt] at this
          cases this
        · omega
      have hfold : ∀ (l : List Log) (i : Nat) (s : S), i + l.length ≤ ops.size → foldSel (fun i => listed.getD i true) l i s = foldSel (fun _ => true) l i s := by
        intro l
        induction l with
        | nil => intros; rfl
        | cons A r ih =>
          intro i s hl
          simp only [List.length_cons] at hl
          rw [foldSel, foldSel, if_pos (hall i (by omega)), if_pos rfl]
          exact ih (i + 1) _ (by omega)
      rw [hfold L 0 s (by omega)] at hR
      have hfr : ∀ id, ρ'.al id → id < (foldSel (fun _ => true) L 0 s).mem.length := by
        intro id hid
        have hl := foldSel_len (fun _ => true) L 0 s
        rcases hal id hid with h1 | ⟨j, B, h1, _, rfl, b, h3⟩
        · have := hr.fresh id h1; omega
        · exact hl.2 j B h1 rfl _ h3
      refine htl 0 ops.size listed _ ρ' a' w' (by omega) (by omega) hls (fun k hk => ⟨fun _ => hk, fun _ => hall k hk⟩) (by rw [← hm']; exact hL4) (Rl.ofD hR hfr (by have := (foldSel_len (fun _ => true) L 0 s).1; omega))
    | succ fuel ih =>
      intro listed ρ' a' w' hls hcnt hno hcl hR hal
      by_cases hfull : ∀ k, k < m → listed.getD k true = true
      · -- the drawn part is done
        have hiff : ∀ k, k < ops.size → (listed.getD k true = true ↔ k < m) := by
          intro k hk
          constructor
          · intro h1
            rcases Nat.lt_or_ge k m with h2 | h2
            · exact h2
            · rw [hno k h2 hk] at h1; cases h1
          · exact hfull k
        have hfold : ∀ (l : List Log) (i : Nat) (s : S), i + l.length ≤ m → foldSel (fun i => listed.getD i true) l i s = foldSel (fun _ => true) l i s := by
          intro l
          induction l with
          | nil => intros; rfl
          | cons A r ih =>
            intro i s hl
            simp only [List.length_cons] at hl
            rw [foldSel, foldSel, if_pos (hfull i (by omega)), if_pos rfl]
            exact ih (i + 1) _ (by omega)
        rw [hfold L 0 s (by omega)] at hR
        have hfr : ∀ id, ρ'.al id → id < (foldSel (fun _ => true) L 0 s).mem.length := by
          intro id hid
          have hl := foldSel_len (fun _ => true) L 0 s
          rcases hal id hid with h1 | ⟨j, B, h1, _, rfl, b, h3⟩
          · have := hr.fresh id h1; omega
          · exact hl.2 j B h1 rfl _ h3
        have hcm : (List.range ops.size).countP (fun i => listed.getD i true) = m := by
          have h1 : (List.range ops.size).countP (fun i => listed.getD i true) = (List.range ops.size).countP (fun i => decide (i < m)) := by
            apply List.countP_congr
            intro k hk
            rw [hiff k (List.mem_range.1 hk)]
            simp
          rw [h1]
          have h2 : ∀ n, m ≤ n → (List.range n).countP (fun i => decide (i < m)) = m := by
            intro n
            induction n with
            | zero => intro h; simp; omega
            | succ n ihn =>
              intro h
              rw [List.range_succ, List.countP_append]
              by_cases e : m = n + 1
              · have h3 : (List.range n).countP (fun i => decide (i < m)) = n := by
                  have := List.countP_eq_length (p := fun i => decide (i < m)) (l := List.range n)
                  simp only [List.length_range] at this
                  exact this.2 fun x hx => by have := List.mem_range.1 hx; simp; omega
                have h5 : decide (n < m) = true := by simp; omega
                rw [h3]
                simp only [List.countP_singleton, h5, if_true]
                omega
              · have h5 : decide (n < m) = false := by simp; omega
                rw [ihn (by omega)]
                simp only [List.countP_singleton, h5, Bool.false_eq_true, if_false]
                omega
          exact h2 _ hmle
        exact htl (fuel + 1) m listed _ ρ' a' w' (by omega) (Nat.le_refl _) hls hiff hL4 (Rl.ofD hR hfr (by have := (foldSel_len (fun _ => true) L 0 s).1; omega))
      · -- one that may come up
        have hleast : ∃ i, i < m ∧ listed.getD i true = false ∧ ∀ k, k < i → listed.getD k true = true := by
          have gen : ∀ n, (∃ k, k < n ∧ listed.getD k true = false) → ∃ i, i < n ∧ listed.getD i true = false ∧ ∀ k, k < i → listed.getD k true = true := by
            intro n
            induction n with
            | zero => rintro ⟨k, h, _⟩; omega
            | succ n ihn =>
              rintro ⟨k, h1, h2⟩
              by_cases h3 : ∃ k, k < n ∧ listed.getD k true = false
              · obtain ⟨i, h4, h5⟩ := ihn h3
                exact ⟨i, by omega, h5⟩
              · refine ⟨n, by omega, ?_, fun k hk => ?_⟩
                · have : k = n := by
                    rcases Nat.lt_or_ge k n with h | h
                    · exact absurd ⟨k, h, h2⟩ h3
                    · omega
                  rw [← this]; exact h2
                · cases hv : listed.getD k true with
                  | true => rfl
                  | false => exact absurd ⟨k, hk, hv⟩ h3
          apply gen
          apply Classical.byContradiction
          intro hn
          refine hfull fun k hk => ?_
          cases hv : listed.getD k true with
          | true => rfl
          | false => exact absurd ⟨k, hk, hv⟩ hn
        have dnorm : ∀ (k : Nat) (o : Oper), ops[k]? = some o → ∀ e ∈ o.after.toList, Region.binds .any e = true → e.on < k := by
          have gen : ∀ (l : List Oper) (n k : Nat) (o : Oper), edgesDown l n = true → l[k]? = some o → ∀ e ∈ o.after.toList, Region.binds .any e = true → e.on < n + k := by
            intro l
            induction l with
            | nil => intro n k o _ h; simp at h
            | cons o' l ih =>
              intro n k o hd hk e he hb
              simp only [edgesDown, Bool.and_eq_true] at hd
              cases k with
              | zero =>
                simp only [List.getElem?_cons_zero, Option.some.injEq] at hk
                subst hk
                have := List.all_eq_true.1 hd.1 e he
                rw [hb] at this
                simpa using this
              | succ k =>
                have := ih (n + 1) k o hd.2 (by simpa using hk) e he hb
                omega
          intro k o hk e he hb
          have := gen ops.toList 0 k o hdown (by simpa using hk) e he hb
          omega
        obtain ⟨i0, hi0, hi1, hi2⟩ := hleast
        have hready : i0 ∈ Region.ready .any ops listed := by
          have hlt : i0 < ops.size := by omega
          refine mem_ready.2 ⟨hlt, hi1, _, Array.getElem?_eq_getElem hlt, fun e he1 hb => ?_⟩
          have := dnorm i0 _ (Array.getElem?_eq_getElem hlt) e he1 hb
          rw [getD_lt listed e.on false true (by omega)]
          exact hi2 e.on this
        refine ⟨fun h0 => (by rw [h0] at hready; cases hready), fun i hi => ?_⟩
        obtain ⟨h1, h2, o, h3, h4⟩ := mem_ready.1 hi
        -- all that surely lies before a listed one, or before i, is listed
        have closed : ∀ (n k : Nat), k < n → ∀ o, ops[k]? = some o → (∀ e ∈ o.after.toList, Region.binds .any e = true → listed.getD e.on false = true) → ∀ x, x ∈ bef.getD k [] → listed.getD x true = true := by
          intro n
          induction n with
          | zero => intro k hk; omega
          | succ n ihn =>
            intro k hk o ho hedge x hx
            obtain ⟨e, he1, he2, he3, he4⟩ := mem_befs ops.toList [] k x o (by simpa using ho) hdown (by rw [hbef]; simpa using hx)
            have hon : e.on < ops.size := by have := (Array.getElem?_eq_some_iff.1 ho).1; simp at he3; omega
            have hlst := hedge e he1 he2
            rw [getD_lt listed e.on false true (by omega)] at hlst
            rcases he4 with rfl | he4
            · exact hlst
            · obtain ⟨o2, ho2⟩ : ∃ o2, ops[e.on]? = some o2 := ⟨_, Array.getElem?_eq_getElem hon⟩
              exact ihn e.on (by simp at he3; omega) o2 ho2 (hcl e.on o2 ho2 hlst) x (by rw [hbef] at he4; exact he4)
        have him : i < m := by
          rcases Nat.lt_or_ge i m with h | h
          · exact h
          · have := closed (i + 1) i (by omega) o h3 h4 i0 (htail i h h1 i0 (by omega))
            rw [this] at hi1
            cases hi1
        have hbi : ∀ x ∈ bef.getD i [], listed.getD x true = true := closed (i + 1) i (by omega) o h3 h4
        have hbk : ∀ k, k < ops.size → listed.getD k true = true → ∀ x ∈ bef.getD k [], listed.getD x true = true := fun k hk hv => by
          obtain ⟨o2, ho2⟩ : ∃ o2, ops[k]? = some o2 := ⟨_, Array.getElem?_eq_getElem hk⟩
          exact closed (k + 1) k (by omega) o2 ho2 (hcl k o2 ho2 hv)
        obtain ⟨A, hA⟩ : ∃ A, L[i]? = some A := ⟨_, List.getElem?_eq_getElem (by omega)⟩
        have hOK := hL2 i o A (by rw [List.getElem?_take, if_pos (by simpa using him)]; simpa using h3) hA
        obtain ⟨hO1, hO2, hO3⟩ := hOK
        -- which of the others has come up, among those in conflict with i
        have before : ∀ k B, L[k]? = some B → k < i → conflict B A = true → listed.getD k true = true := fun k B hB hlt hc => hbi k (hind k i B A hB hA hlt hc)
        have after : ∀ k B, L[k]? = some B → i < k → conflict A B = true → listed.getD k true = false := by
          intro k B hB hlt hc
          have hk : k < ops.size := by have := (List.getElem?_eq_some_iff.1 hB).1; omega
          cases hv : listed.getD k true with
          | false => rfl
          | true =>
            have := hbk k hk hv i (hind i k A B hA hB hlt hc)
            rw [this] at h2
            cases h2
        have hselt : ∀ (B : Log) (k : Nat), L[k]? = some B → (∃ d, B.dst = some d ∧ d ∈ A.names) ∨ (∃ u ∈ B.upd, u.1 ∈ A.touch) → (decide (k < i)) = listed.getD k true := by
          intro B k hB hc
          rcases Nat.lt_trichotomy k i with hlt | heq | hgt
          · have : conflict B A = true := by
              unfold conflict
              rcases hc with ⟨d, h5, h6⟩ | ⟨u, h5, h6⟩
              · simp [h5, h6]
              · have : B.upd.any (fun u => A.touch.contains u.1 || A.upd.any (fun v => v.1 == u.1)) = true := List.any_eq_true.2 ⟨u, h5, by simp [h6]⟩
                rw [this]
                simp
            rw [before k B hB hlt this]
            simp [hlt]
          · subst heq
            rw [h2]
            simp
          · have : conflict A B = true := by
              unfold conflict
              rcases hc with ⟨d, h5, h6⟩ | ⟨u, h5, h6⟩
              · simp [h5, h6]
              · have : B.upd.any (fun u => A.touch.contains u.1) = true := List.any_eq_true.2 ⟨u, h5, by simp [h6]⟩
                rw [this]
                simp
            rw [after k B hB hgt this]
            simp
            omega
        have takeFold : foldSel (fun _ => true) (L.take i) 0 s = foldSel (fun k => decide (k < i)) L 0 s := by
          have gen : ∀ (l : List Log) (n : Nat) (s : S), foldSel (fun _ => true) (l.take n) 0 s = foldSel (fun k => decide (k < n)) l 0 s := by
            intro l n s
            have gen2 : ∀ (l : List Log) (a b n : Nat) (s : S), b ≤ n → foldSel (fun _ => true) (l.take (n - b)) a s = foldSel (fun k => decide (k < n)) l b s := by
              intro l
              induction l with
              | nil => intros; simp [foldSel]
              | cons B r ihr =>
                intro a b n s hb
                by_cases e : b = n
                · subst e
                  rw [Nat.sub_self, List.take_zero, foldSel, foldSel, if_neg (by simp)]
                  have none : ∀ (l : List Log) (c : Nat) (s : S), b ≤ c → foldSel (fun k => decide (k < b)) l c s = s := by
                    intro l
                    induction l with
                    | nil => intros; rfl
                    | cons B r ihr =>
                      intro c s hc
                      rw [foldSel, if_neg (by simp; omega)]
                      exact ihr (c + 1) s (by omega)
                  rw [none r (b + 1) s (by omega)]
                · have e2 : n - b = (n - (b + 1)) + 1 := by omega
                  rw [e2, List.take_succ_cons, foldSel, foldSel, if_pos rfl, if_pos (by simp; omega)]
                  exact ihr (a + 1) (b + 1) n _ (by omega)
            have := gen2 l 0 0 n s (by omega)
            simpa using this
          exact gen L i s
        have hag : Agree (foldSel (fun _ => true) (L.take i) 0 s) (foldSel (fun i => listed.getD i true) L 0 s) A.names A.touch := by
          rw [takeFold]
          refine ⟨fun t ht => ?_, fun id hid => ?_⟩
          · by_cases hlt : t < s.tmps.length
            · rw [foldSel_tm _ t L 0 s hlt, foldSel_tm _ t L 0 s hlt]
              refine lastT_congr L 0 _ fun k B hB hd => ?_
              rw [Nat.zero_add]
              exact hselt B k hB (.inl ⟨t, hd, ht⟩)
            · unfold S.tmp
              rw [List.getD_eq_getElem?_getD, List.getD_eq_getElem?_getD, List.getElem?_eq_none (by rw [(foldSel_tl _ L 0 s).1]; omega), List.getElem?_eq_none (by rw [(foldSel_tl _ L 0 s).1]; omega)]
          · rw [foldSel_mem, foldSel_mem]
            refine lastB_congr L 0 _ fun k B hB hu => ?_
            rw [Nat.zero_add]
            obtain ⟨u, hu1, hu2⟩ := hu
            exact hselt B k hB (.inr ⟨u, hu1, by rw [hu2]; exact hid⟩)
        have hfreshal : ¬ ρ'.al (s.mem.length + i) := by
          intro hal'
          rcases hal _ hal' with h5 | ⟨j, B, h5, h6, h7, _⟩
          · have := hr.fresh _ h5; omega
          · have : j = i := by omega
            rw [this, h2] at h6
            cases h6
        have hfr : ∀ id, ρ'.al id → id < (foldSel (fun i => listed.getD i true) L 0 s).mem.length := by
          intro id hid
          have hl := foldSel_len (fun i => listed.getD i true) L 0 s
          rcases hal id hid with h5 | ⟨j, B, h5, h6, rfl, b, h8⟩
          · have := hr.fresh id h5; omega
          · exact hl.2 j B h5 (by rw [Nat.zero_add]; exact h6) _ h8
        unfold wpOp
        rw [h3]
        refine hO3 _ C ρ' a' w' _ Q' hag hR (by omega) hfreshal hfr fun ρ'' a'' w'' hR'' hal'' => ?_
        -- behind the operation
        have hset : ∀ k, (listed.setIfInBounds i true).getD k true = if k = i then true else listed.getD k true := fun k => set_getD listed i k true (by omega)
        have hsame : Same ((foldSel (fun i => listed.getD i true) L 0 s).log A) (foldSel (fun k => (listed.setIfInBounds i true).getD k true) L 0 s) := by
          refine ⟨?_, ?_, fun t => ?_, fun id => ?_⟩
          · rw [(log_tl _ _).2, (foldSel_tl _ L 0 s).2, (foldSel_tl _ L 0 s).2]
          · rw [(log_tl _ _).1, (foldSel_tl _ L 0 s).1, (foldSel_tl _ L 0 s).1]
          · by_cases hlt : t < s.tmps.length
            · rw [log_tm _ _ _ (by rw [(foldSel_tl _ L 0 s).1]; exact hlt), foldSel_tm _ t L 0 s hlt, foldSel_tm _ t L 0 s hlt]
              by_cases hd : A.dst = some t
              · rw [if_pos hd]
                refine (lastT_last L 0 _ i A hA (by rw [Nat.zero_add, hset]; simp) hd fun k B hB hgt hv hd' => ?_).symm
                rw [Nat.zero_add, hset, if_neg (by omega)] at hv
                have : conflict A B = true := by unfold conflict; simp [hd, hd']
                rw [after k B hB hgt this] at hv
                cases hv
              · rw [if_neg hd]
                refine lastT_congr L 0 _ fun k B hB hd' => ?_
                rw [Nat.zero_add, hset, if_neg]
                intro e
                subst e
                rw [hA] at hB
                cases hB
                exact hd hd'
            · unfold S.tmp
              rw [List.getD_eq_getElem?_getD, List.getD_eq_getElem?_getD, List.getElem?_eq_none (by rw [(log_tl _ _).1, (foldSel_tl _ L 0 s).1]; omega), List.getElem?_eq_none (by rw [(foldSel_tl _ L 0 s).1]; omega)]
          · rw [log_mem, foldSel_mem, foldSel_mem]
            by_cases hu : ∃ u ∈ A.upd, u.1 = id
            · refine (lastB_last L 0 _ i A hA (by rw [Nat.zero_add, hset]; simp) hu (fun k B hB hgt hv u hu1 hu2 => ?_) _).symm
              rw [Nat.zero_add, hset, if_neg (by omega)] at hv
              obtain ⟨u0, hu3, hu4⟩ := hu
              have : conflict A B = true := by
                unfold conflict
                have : A.upd.any (fun u => B.touch.contains u.1 || B.upd.any (fun v => v.1 == u.1)) = true := List.any_eq_true.2 ⟨u0, hu3, by
                  have : B.upd.any (fun v => v.1 == u0.1) = true := List.any_eq_true.2 ⟨u, hu1, by simp [hu2, hu4]⟩
                  rw [this]
                  simp⟩
                rw [this]
                simp
              rw [after k B hB hgt this] at hv
              cases hv
            · rw [updAt_none id A.upd _ fun u hu1 hu2 => hu ⟨u, hu1, hu2⟩]
              refine lastB_congr L 0 _ fun k B hB hu' => ?_
              rw [Nat.zero_add, hset, if_neg]
              intro e
              subst e
              rw [hA] at hB
              cases hB
              exact hu hu'
        refine ih (listed.setIfInBounds i true) ρ'' a'' w'' (by simp [hls]) ?_ (fun k hk1 hk2 => ?_) (fun k o' ho' hv e he1 hb => ?_) (hR''.congr hsame) (fun id hid => ?_)
        · have hc : (List.range ops.size).countP (fun k => (listed.setIfInBounds i true).getD k true) = (List.range ops.size).countP (fun k => listed.getD k true) + 1 := by
            have gen : ∀ n, (List.range n).countP (fun k => (listed.setIfInBounds i true).getD k true) = (List.range n).countP (fun k => listed.getD k true) + if i < n then 1 else 0 := by
              intro n
              induction n with
              | zero => simp
              | succ n ihn =>
                rw [List.range_succ, List.countP_append, List.countP_append, ihn]
                simp only [List.countP_singleton, hset]
                by_cases e : n = i
                · subst e
                  rw [if_pos rfl, h2]
                  simp
                · rw [if_neg e]
                  by_cases e2 : i < n
                  · have e3 : i < n + 1 := by omega
                    simp only [e2, e3, if_true]; omega
                  · have e3 : ¬ i < n + 1 := by omega
                    simp only [e2, e3, if_false]; omega
            rw [gen, if_pos h1]
          omega
        · rw [hset, if_neg (by omega)]
          exact hno k hk1 hk2
        · rw [set_getD _ _ _ _ (by omega)]
          split
          · rfl
          · rw [hset] at hv
            split at hv
            · rename_i hki
              subst hki
              rw [h3] at ho'
              cases ho'
              exact h4 e he1 hb
            · exact hcl k o' ho' hv e he1 hb
        · rcases hal'' id hid with h5 | ⟨rfl, b, h6⟩
          · rcases hal id h5 with h7 | ⟨j, B, h7, h8, h9, h10⟩
            · exact .inl h7
            · refine .inr ⟨j, B, h7, ?_, h9, h10⟩
              rw [hset]
              split
              · rfl
              · exact h8
          · exact .inr ⟨i, A, hA, by rw [hset]; simp, rfl, b, h6⟩
  have hzero : ∀ k d, k < ops.size → (Array.replicate ops.size false).getD k d = false := by
    intro k d hk
    rw [Array.getD_eq_getD_getElem?, Array.getElem?_replicate, if_pos hk]
    rfl
  have hfold0 : ∀ (l : List Log) (i : Nat) (s : S), i + l.length ≤ ops.size → foldSel (fun i => (Array.replicate ops.size false).getD i true) l i s = s := by
    intro l
    induction l with
    | nil => intros; rfl
    | cons B r ihr =>
      intro i s hl
      simp only [List.length_cons] at hl
      rw [foldSel, if_neg (by rw [hzero i true (by omega)]; simp)]
      exact ihr (i + 1) s (by omega)
  refine main ops.size _ ρ a _ (by simp) ?_ (fun k _ hk => hzero k true hk) (fun k o ho hv => ?_) (by rw [hfold0 L 0 s (by omega)]; exact hwd) (fun id h => .inl h)
  · have : (List.range ops.size).countP (fun i => (Array.replicate ops.size false).getD i true) = 0 := by
      rw [List.countP_eq_zero]
      intro k hk
      rw [hzero k true (List.mem_range.1 hk)]
      simp
    omega
  · have hk := (Array.getElem?_eq_some_iff.1 ho).1
    rw [hzero k true hk] at hv
    cases hv
end
end Go.Sym
