/- A reckoning of code by values known in part: functions and loops. -/
import Derived.Test.YtefikodgmhlfnaaYd
set_option linter.unusedSimpArgs false
set_option linter.unusedVariables false
namespace Go.Sym


section
variable {P : Program} {τ : Tab} {eqt : EqTab}
/-- What is laid of a program, once. -/
structure Env (P : Program) (τ : Tab) (eqt : EqTab) : Prop where
  tab : ∀ t i, τ t = some i → i.ok P t
  eq : EqOK P eqt
  fol : P.follows .mixedOrders = true
theorem exec_sound (E : Env P τ eqt) {Q : Fin → Prop} {C : Ctx} : ∀ (c : Code) (k : AX → S → T) (s : S) (ρ : Rho) (a : Act) (w : World), (exec τ eqt c k s).holds P Q → Rl C ρ s a w →
    c.wp P (fun e a' w' => ∃ x s' ρ', e = x.conc ∧ (k x s').holds P Q ∧ Rl C ρ' s' a' w') a w := by
  intro c
  induction c with
  | skip => intro k s ρ a w h hr; exact wp_skip ⟨.normal, s, ρ, rfl, h, hr⟩
  | region id ops draw =>
    intro k s ρ a w h hr
    cases draw with
    | false => exact wp_region_list (opsA_sound E.tab E.eq (k := k .normal) (fun s' ρ' a' w' h' hr' => ⟨.normal, s', ρ', rfl, h', hr'⟩) ops.toList s ρ a w h hr)
    | true => exact draw_sound E.tab E.eq E.fol (k := k .normal) (fun s' ρ' a' w' h' hr' => ⟨.normal, s', ρ', rfl, h', hr'⟩) h hr
  | seq x y ihx ihy =>
    intro k s ρ a w h hr
    refine wp_seq (wp_mono (ihx _ s ρ a w h hr) ?_)
    rintro e a' w' ⟨z, s', ρ', rfl, h', hr'⟩
    cases z with
    | normal => exact ihy k s' ρ' a' w' h' hr'
    | exit id => exact ⟨.exit id, s', ρ', rfl, h', hr'⟩
    | ret => exact ⟨.ret, s', ρ', rfl, h', hr'⟩
  | cond o x y ihx ihy =>
    intro k s ρ a w h hr
    simp only [exec] at h
    have hv := hr.tm.eval o
    split at h
    · rename_i hb
      rw [hb] at hv
      exact wp_cond_true hv (ihx k s ρ a w h hr)
    · rename_i hb
      rw [hb] at hv
      exact wp_cond_false hv (ihy k s ρ a w h hr)
    · rename_i b _ _ hb
      rw [hb] at hv
      have hv : a.eval o = .bool b.den := hv
      exact wp_cond_split hv (fun ht => ihx k s ρ a w (h.1 ht) hr) (fun hf => ihy k s ρ a w (h.2 hf) hr)
    · exact h.elim
  | block id x ih =>
    intro k s ρ a w h hr
    refine wp_block (wp_mono (ih _ s ρ a w h hr) ?_)
    rintro e a' w' ⟨z, s', ρ', rfl, h', hr'⟩
    cases z with
    | normal => exact ⟨.normal, s', ρ', rfl, h', hr'⟩
    | exit j =>
      simp only [AX.conc, Exit.inBlock]
      by_cases hj : j = id
      · simp only [hj, if_true] at h' ⊢
        exact ⟨.normal, s', ρ', rfl, h', hr'⟩
      · simp only [hj, if_false] at h' ⊢
        exact ⟨.exit j, s', ρ', rfl, h', hr'⟩
    | ret => exact ⟨.ret, s', ρ', rfl, h', hr'⟩
  | loop x ih =>
    intro k s ρ a w h hr
    obtain ⟨R, h1, h2⟩ := h
    refine wp_mono (h1 C ρ a w hr) ?_
    rintro e a' w' ⟨z, s', ρ', rfl, h', hr'⟩
    exact ⟨z, s', ρ', rfl, h2 z s' h', hr'⟩
  | exit id => intro k s ρ a w h hr; exact wp_exit ⟨.exit id, s, ρ, rfl, h, hr⟩
  | ret => intro k s ρ a w h hr; exact wp_ret ⟨.ret, s, ρ, rfl, h, hr⟩
  | rangeFunc f ps x y _ _ => intro k s ρ a w h hr; exact h.elim
  | scope x _ => intro k s ρ a w h hr; exact h.elim
  | label l => intro k s ρ a w h hr; exact h.elim
  | goto l => intro k s ρ a w h hr; exact h.elim
  | refuse y => intro k s ρ a w h hr; exact h.elim

/-- A loop with what is kept (of a value x that is not the program's) and a measure. -/
theorem wp_loop_ghost {X : Type} {c : Code} {Q : Exit → Act → World → Prop} (I : X → Act → World → Prop) (μ : X → Nat) {a : Act} {w : World} (h₀ : ∃ x, I x a w)
    (round : ∀ x a w, I x a w → c.wp P (Exit.then (fun a' w' => ∃ x', I x' a' w' ∧ μ x' < μ x) Q) a w) : (Code.loop c).wp P Q a w := by
  have least : ∀ a w, (∃ x, I x a w) → ∃ x, I x a w ∧ ∀ y, I y a w → μ x ≤ μ y := by
    intro a w ⟨x, hx⟩
    have key : ∀ n x, μ x = n → I x a w → ∃ x, I x a w ∧ ∀ y, I y a w → μ x ≤ μ y := by
      intro n
      induction n using Nat.strongRecOn with
      | _ n ih =>
        intro x hn hx
        by_cases h : ∃ y, I y a w ∧ μ y < μ x
        · obtain ⟨y, hy, hlt⟩ := h
          exact ih (μ y) (hn ▸ hlt) y rfl hy
        · exact ⟨x, hx, fun y hy => Nat.le_of_not_lt fun hlt => h ⟨y, hy, hlt⟩⟩
    exact key _ x rfl hx
  classical
  refine wp_loop (fun a w => ∃ x, I x a w) (fun a w => if h : ∃ x, I x a w then μ (Classical.choose (least a w h)) else 0) h₀ ?_
  intro a w hx
  obtain ⟨h1, h2⟩ := Classical.choose_spec (least a w hx)
  refine wp_mono (round _ a w h1) ?_
  intro e a' w' h
  cases e with
  | normal =>
    obtain ⟨x', hx', hlt⟩ := h
    refine ⟨⟨x', hx'⟩, ?_⟩
    have hex : ∃ x, I x a' w' := ⟨x', hx'⟩
    simp only [dif_pos hx, dif_pos hex]
    exact Nat.lt_of_le_of_lt ((Classical.choose_spec (least a' w' hex)).2 x' hx') hlt
  | _ => exact h

def AV.le (a b : AV) : Prop := ∀ ρ v, VR ρ a v → VR ρ b v
def Blk.le (b c : Blk) : Prop := b.wr = c.wr ∧ ∀ ρ w id, MR ρ w id b → MR ρ w id c
def memLe (m n : List (Option Blk)) : Prop := m.length = n.length ∧ ∀ id c, blkOf n id = some c → ∃ b, blkOf m id = some b ∧ b.le c
structure S.le (s t : S) : Prop where
  np : s.np = t.np
  tl : s.tmps.length = t.tmps.length
  tm : ∀ (i : Nat) (a : AV), t.tmps[i]? = some a → ∃ b : AV, s.tmps[i]? = some b ∧ b.le a
  mem : memLe s.mem t.mem
theorem memLe.rel {m n : List (Option Blk)} (h : memLe m n) {w0 : World} {F : Nat → Prop} {ρ : Rho} {w : World} (hm : MRel w0 F ρ m w) : MRel w0 F ρ n w := by
  refine ⟨fun id c hc => ?_, fun i j b c hb hc hne gi gj hwr => ?_, fun i b hb hwr hg => ?_, hm.fr⟩
  · obtain ⟨b, h1, h2⟩ := h.2 id c hc
    exact ⟨(hm.blk id b h1).1, h2.2 ρ w id (hm.blk id b h1).2⟩
  · obtain ⟨b', h1, h2⟩ := h.2 i b hb
    obtain ⟨c', h3, h4⟩ := h.2 j c hc
    exact hm.inj i j b' c' h1 h3 hne gi gj (by rw [h2.1, h4.1]; exact hwr)
  · obtain ⟨b', h1, h2⟩ := h.2 i b hb
    exact hm.own i b' h1 (by rw [h2.1]; exact hwr) hg
theorem S.le.rl {s t : S} (h : s.le t) {C : Ctx} {ρ : Rho} {a : Act} {w : World} (hr : Rl C ρ s a w) : Rl C ρ t a w := by
  refine ⟨⟨by rw [hr.tm.1, h.tl], fun i v hv => ?_⟩, hr.df, h.mem.rel hr.mem, fun id hid => by have := hr.fresh id hid; rw [← h.mem.1]; exact this, by rw [← h.np]; exact hr.np, by rw [← h.mem.1]; exact hr.len, hr.base, fun id b hb => ?_, hr.wrn⟩
  · have := hr.tm.2 i v hv
    rw [List.getD_eq_getElem?_getD] at this ⊢
    cases ht : t.tmps[i]? with
    | none => trivial
    | some x =>
      obtain ⟨b, h1, h2⟩ := h.tm i x ht
      rw [h1] at this
      exact h2 ρ v this
  · obtain ⟨b', h1, h2⟩ := h.mem.2 id b hb
    rw [← h2.1]
    exact hr.wr id b' h1
/-- The blocks of σ alone. -/
theorem view_rel {σ : List Nat} (hnd : σ.Nodup) {mem : List (Option Blk)} {w0 : World} {F : Nat → Prop} {ρ : Rho} {w : World} (hm : MRel w0 F ρ mem w) :
    ∃ ρs : Rho, Ren (fun i => idxOf σ i 0) ρ ρs ∧ MRel w0 F ρs (small mem σ) w ∧ (∀ j, ρs.al j → j < σ.length) ∧ ∀ (j id : Nat), σ[j]? = some id → (ρ.al id → ρs.al j) ∧ ρs.β j = ρ.β id ∧ ρs.γ j = ρ.γ id ∧ ρs.o j = ρ.o id := by
  let ρs : Rho := ⟨fun i => ρ.β (σ.getD i 0), fun i => ρ.γ (σ.getD i 0), fun i => i < σ.length ∧ ρ.al (σ.getD i 0), fun i => ρ.o (σ.getD i 0)⟩
  have hget : ∀ (i id : Nat), σ[i]? = some id → i < σ.length ∧ σ.getD i 0 = id := fun i id h => ⟨(List.getElem?_eq_some_iff.1 h).1, by rw [List.getD_eq_getElem?_getD, h]; rfl⟩
  have hren : Ren (fun i => idxOf σ i 0) ρ ρs := by
    refine ⟨fun i j hi hj => ?_, fun i j _ hj => ?_, fun i j _ hj => ?_, fun i j _ hj => ?_⟩ <;> (obtain ⟨_, h2⟩ := idxOf_spec σ i 0 j hj; obtain ⟨h3, h4⟩ := hget _ _ h2; simp only [Nat.sub_zero] at h3 h4)
    · exact ⟨h3, by rw [h4]; exact hi⟩
    · show ρ.β (σ.getD j 0) = ρ.β i; rw [h4]
    · show ρ.γ (σ.getD j 0) = ρ.γ i; rw [h4]
    · show ρ.o (σ.getD j 0) = ρ.o i; rw [h4]
  have ndj : ∀ (i j id : Nat), σ[i]? = some id → σ[j]? = some id → i = j := by
    intro i j id hi hj
    obtain ⟨hi1, hi2⟩ := List.getElem?_eq_some_iff.1 hi
    obtain ⟨hj1, hj2⟩ := List.getElem?_eq_some_iff.1 hj
    have hp := List.pairwise_iff_getElem.1 hnd
    rcases Nat.lt_trichotomy i j with hlt | he | hgt
    · exact absurd (hi2.trans hj2.symm) (hp i j hi1 hj1 hlt)
    · exact he
    · exact absurd (hj2.trans hi2.symm) (hp j i hj1 hi1 hgt)
  have idx_self : ∀ (j id : Nat), σ[j]? = some id → idxOf σ id 0 = some j := by
    have key : ∀ (l : List Nat) (id n : Nat), id ∈ l → ∃ j, idxOf l id n = some j := by
      intro l
      induction l with
      | nil => intro id n h; cases h
      | cons x l ih =>
        intro id n h
        simp only [idxOf]
        split
        · exact ⟨n, rfl⟩
        · rename_i hx
          rcases List.mem_cons.1 h with h | h
          · exact absurd h.symm hx
          · exact ih id (n + 1) h
    intro j id hj
    obtain ⟨k, hk⟩ := key σ id 0 (List.mem_of_getElem? hj)
    obtain ⟨_, h2⟩ := idxOf_spec σ id 0 k hk
    rw [hk]
    congr 1
    exact ndj k j id (by simpa using h2) hj
  have hsm : ∀ j c, blkOf (small mem σ) j = some c → ∃ id b, σ[j]? = some id ∧ blkOf mem id = some b ∧ c = b.ren (fun i => idxOf σ i 0) ∧ ρs.β j = ρ.β id ∧ ρs.γ j = ρ.γ id := by
    intro j c hc
    rw [blkOf_small] at hc
    cases hj : σ[j]? with
    | none => rw [hj] at hc; cases hc
    | some id =>
      rw [hj] at hc
      simp only [Option.bind_some] at hc
      cases hb : blkOf mem id with
      | none => rw [hb] at hc; cases hc
      | some b =>
        rw [hb] at hc
        obtain ⟨_, h4⟩ := hget _ _ hj
        refine ⟨id, b, rfl, hb, (Option.some.inj hc).symm, ?_, ?_⟩
        · show ρ.β (σ.getD j 0) = _; rw [h4]
        · show ρ.γ (σ.getD j 0) = _; rw [h4]
  refine ⟨ρs, hren, ⟨fun j c hc => ?_, fun i j b c hb hc hne gi gj hwr => ?_, fun i b hb hwr hg => ?_, hm.fr⟩, fun j h => h.1, fun j id hj => ?_⟩
  · obtain ⟨id, b, h1, h2, rfl, h4, h5⟩ := hsm j c hc
    obtain ⟨h6, h7⟩ := hm.blk id b h2
    exact ⟨⟨(hget _ _ h1).1, by rw [(hget _ _ h1).2]; exact h6⟩, h7.ren hren h6 (idx_self j id h1)⟩
  · obtain ⟨id, b0, h1, h2, rfl, h4, h5⟩ := hsm i b hb
    obtain ⟨id', c0, h1', h2', rfl, h4', h5'⟩ := hsm j c hc
    rw [h4, h4']
    rw [h5] at gi
    rw [h5'] at gj
    exact hm.inj id id' b0 c0 h2 h2' (fun e => by subst e; exact hne (ndj i j id h1 h1')) gi gj hwr
  · obtain ⟨id, b0, h1, h2, rfl, h4, h5⟩ := hsm i b hb
    rw [h4]
    rw [h5] at hg
    exact hm.own id b0 h2 hwr hg
  · obtain ⟨h1, h2⟩ := hget _ _ hj
    exact ⟨fun h => ⟨h1, by rw [h2]; exact h⟩, by show ρ.β (σ.getD j 0) = _; rw [h2], by show ρ.γ (σ.getD j 0) = _; rw [h2], by show ρ.o (σ.getD j 0) = _; rw [h2]⟩
theorem TRel.view {σ : Nat → Option Nat} {ρ ρ' : Rho} (h : Ren σ ρ ρ') {l : List AV} {t : Array Value} (ht : TRel ρ l t) : TRel ρ' (AV.renL σ l) t := by
  have len : ∀ l : List AV, (AV.renL σ l).length = l.length := by intro l; induction l with | nil => rfl | cons a l ih => simp [AV.renL, ih]
  have get : ∀ (l : List AV) (i : Nat), (AV.renL σ l)[i]? = (l[i]?).map (·.ren σ) := by
    intro l
    induction l with
    | nil => intro i; simp [AV.renL]
    | cons a l ih => intro i; cases i with | zero => simp [AV.renL] | succ i => simpa [AV.renL] using ih i
  refine ⟨by rw [ht.1, len], fun i v hv => ?_⟩
  have := ht.2 i v hv
  rw [List.getD_eq_getElem?_getD] at this ⊢
  rw [get]
  cases hi : l[i]? with
  | none => trivial
  | some x => rw [hi] at this; exact VR.ren h x v this
theorem range_get {σ : List Nat} {np : Nat} (ht : σ.take np = List.range np) (id : Nat) (h : id < np) : σ[id]? = some id := by
  have h1 : (σ.take np)[id]? = some id := by rw [ht, List.getElem?_range h]
  rw [List.getElem?_take, if_pos h] at h1
  exact h1
theorem Rl.view {C : Ctx} {ρ : Rho} {s : S} {a : Act} {w : World} (hr : Rl C ρ s a w) {σ : List Nat} (hnd : σ.Nodup) (ht : σ.take s.np = List.range s.np) : ∃ ρ', Rl C ρ' (s.view σ) a w := by
  obtain ⟨ρs, h1, h2, h3, h4⟩ := view_rel hnd hr.mem
  have hlen : C.np ≤ σ.length := by
    have := congrArg List.length ht
    simp at this
    rw [← hr.np]
    omega
  refine ⟨ρs, hr.tm.view h1, hr.df, h2, fun id hid => by simpa [S.view, small] using h3 id hid, hr.np, by simpa [S.view, small] using hlen, fun id hid h0 => ?_, fun id b hb => ?_, hr.wrn⟩
  · obtain ⟨a1, a2, a3, a4⟩ := hr.base id hid h0
    obtain ⟨b1, b2, b3, b4⟩ := h4 id id (range_get ht id (by rw [hr.np]; exact hid))
    exact ⟨b1 a1, b2.trans a2, b3.trans a3, b4.trans a4⟩
  · rw [show (s.view σ).mem = small s.mem σ from rfl, blkOf_small] at hb
    cases hj : σ[id]? with
    | none => rw [hj] at hb; cases hb
    | some j =>
      rw [hj] at hb
      simp only [Option.bind_some] at hb
      cases h0 : blkOf s.mem j with
      | none => rw [h0] at hb; cases hb
      | some b0 =>
        rw [h0] at hb
        cases hb
        have := hr.wr j b0 h0
        by_cases hid : id < C.np
        · have := range_get ht id (by rw [hr.np]; exact hid)
          rw [this] at hj
          cases hj
          assumption
        · show b0.wr = C.wr id
          rw [this, hr.wrn id (by omega)]
          refine hr.wrn j ?_
          rcases Nat.lt_or_ge j C.np with hlt | hge
          · exfalso
            have hjj := range_get ht j (by rw [hr.np]; exact hlt)
            obtain ⟨hi1, hi2⟩ := List.getElem?_eq_some_iff.1 hj
            obtain ⟨hj1, hj2⟩ := List.getElem?_eq_some_iff.1 hjj
            have hp := List.pairwise_iff_getElem.1 hnd
            exact hp j id hj1 hi1 (by omega) (hj2.trans hi2.symm)
          · exact hge

/-- The rule of a loop: what is kept is a state for each x; the state may name fewer blocks. -/
theorem loop_rule (E : Env P τ eqt) {X : Type} (st : X → S) (I : X → Prop) (μ : X → Nat) {body : Code} {s : S} {k : AX → S → T} {Q : Fin → Prop}
    (h0 : ∃ σ x, nodupB σ = true ∧ (σ.take s.np == List.range s.np) = true ∧ I x ∧ (s.view σ).le (st x))
    (hround : ∀ x, I x → (roundT τ eqt body (st x)).holds P fun f => match f with
      | .st .normal s' => ∃ σ x', nodupB σ = true ∧ (σ.take s'.np == List.range s'.np) = true ∧ I x' ∧ (s'.view σ).le (st x') ∧ μ x' < μ x
      | .st e s' => (k e s').holds P Q
      | .ret .. => False) : (T.loop body s k).holds P Q := by
  refine ⟨fun e s' => (k e s').holds P Q, fun C ρ a w hr => ?_, fun _ _ h => h⟩
  refine wp_loop_ghost (fun x a w => I x ∧ ∃ ρ, Rl C ρ (st x) a w) μ ?_ ?_
  · obtain ⟨σ, x, h1, h2, h3, h4⟩ := h0
    obtain ⟨ρ', hr'⟩ := hr.view (nodupB_nodup _ h1) (by simpa using h2)
    exact ⟨x, h3, ρ', h4.rl hr'⟩
  · rintro x a w ⟨hI, ρ, hr⟩
    refine wp_mono (exec_sound E body _ (st x) ρ a w (hround x hI) hr) ?_
    rintro e a' w' ⟨z, s', ρ', rfl, h', hr'⟩
    cases z with
    | normal =>
      obtain ⟨σ, x', h1, h2, h3, h4, h5⟩ := h'
      obtain ⟨ρ'', hr''⟩ := hr'.view (nodupB_nodup _ h1) (by simpa using h2)
      exact ⟨x', ⟨h3, ρ'', h4.rl hr''⟩, h5⟩
    | exit id => exact ⟨.exit id, s', ρ', rfl, h', hr'⟩
    | ret => exact ⟨.ret, s', ρ', rfl, h', hr'⟩
end


section
variable {P : Program} {τ : Tab} {eqt : EqTab}
def resV : List Value → Value
  | [v] => v
  | vs => .tuple vs.toArray
theorem results_step (l : List ResultVar) (tmps : Array Value) (w : World) (vs : List Value)
    (h : (l.mapM fun (r : ResultVar) => (match r with | .tmp t => pure (tmps.getD t undef) | .cell a t => do loadVar t (← asAddr (tmps.getD a undef)) : Sem Value)).run P w = .ok vs w) (fn : Func) (hl : fn.results.toList = l) :
    (results fn tmps).run P w = .ok (resV vs) w := by
  unfold results
  rw [Sem.run_bind, Array.mapM_eq_mapM_toList, hl, Sem.run_map]
  refine (congrArg (fun r => ((r : Result (List Value)).andThen fun a w' => Result.ok a.toArray w').andThen _) h).trans ?_
  simp only [Result.andThen_ok, Sem.run_pure]
  match vs with
  | [] => rfl
  | [v] => rfl
  | v :: u :: l => simp [resV]
theorem resA_sound (hτ : ∀ t i, τ t = some i → i.ok P t) {w0 : World} {F : Nat → Prop} {ρ : Rho} {s : S} {w : World} (hm : MRel w0 F ρ s.mem w) {tmps : Array Value} (ht : ∀ t, VR ρ (s.tmp t) (tmps.getD t undef)) :
    ∀ (l : List ResultVar) (as : List AV) (need : B), resA τ s l = some (as, need) → need.den = true →
      ∃ vs, (l.mapM fun (r : ResultVar) => (match r with | .tmp t => pure (tmps.getD t undef) | .cell a t => do loadVar t (← asAddr (tmps.getD a undef)) : Sem Value)).run P w = .ok vs w ∧ VRs ρ as vs := by
  intro l
  induction l with
  | nil => intro as need h _; cases h; exact ⟨[], by simp, rfl⟩
  | cons r l ih =>
    intro as need h hn
    cases r with
    | tmp t =>
      simp only [resA] at h
      split at h
      · rename_i vs n hvs
        cases h
        obtain ⟨us, h1, h2⟩ := ih _ _ hvs hn
        refine ⟨tmps.getD t undef :: us, ?_, _, us, rfl, ht t, h2⟩
        rw [List.mapM_cons, Sem.run_bind, Sem.run_pure, Result.andThen_ok, Sem.run_bind, h1]
        rfl
      · cases h
    | cell a t =>
      simp only [resA] at h
      split at h
      · rename_i v upd fg nd touch vs n hv hvs
        cases h
        rw [B.den_mkAnd] at hn
        simp only [Bool.and_eq_true] at hn
        obtain ⟨us, h1, h2⟩ := ih _ _ hvs hn.2
        have hta := ht a
        obtain ⟨_, _, u, h3, h4⟩ := loadA_sound hτ hm hta hv hn.1
        have hptr : ∃ ad, tmps.getD a undef = .pointer (some ad) := by
          unfold loadA at hv
          split at hv
          · rename_i id sz row fld i hs hi
            rw [hs] at hta
            exact ⟨_, hta.2.2⟩
          · cases hv
        obtain ⟨ad, had⟩ := hptr
        have h5 : (loadVar t ad).run P w = .ok u w := by
          rw [had] at h3
          simpa [Instr.loadAt, Instr.sureAddr] using h3
        refine ⟨u :: us, ?_, u, us, rfl, h4, h2⟩
        have e : (asAddr (tmps.getD a undef)).run P w = .ok ad w := by rw [had]; rfl
        rw [List.mapM_cons]
        simp only [Sem.run_bind, e, Sem.run_pure, Result.andThen_ok, h5, h1]
      · cases h

theorem runs_body (E : Env P τ eqt) {f : FuncId} {fn : Func} {c : Code} (hf : P.funcs[f]? = some fn) (hb : fn.body = some c) (hcall : ∀ args w, (callFunc f args).run P w = .ok (.enter f args) w)
    {n : Nat} (hn : fn.ntmps = n) {rs : List ResultVar} (hrs : fn.results.toList = rs) {args : List AV} {mem : List (Option Blk)} {Post : AV → List (Option Blk) → Prop}
    (h : (bodyT τ eqt n rs c args mem).holds P fun f => match f with | .ret r m => Post r m | .st .. => False) : Runs P f args mem Post := by
  intro w F ρ vs hm hfresh hv
  refine ⟨hcall _ _, ?_⟩
  refine calls_of_wp hf hb ?_
  let C : Ctx := ⟨w, F, ρ, mem.length, fun id => if id < mem.length then wrOf mem id else true⟩
  have lrest : ∀ n, (rest n).length = n := by intro n; induction n with | zero => rfl | succ n ih => simp [rest, ih]
  have grest : ∀ n i : Nat, (rest n)[i]?.getD .any = .any := by
    intro n
    induction n with
    | zero => intro i; rfl
    | succ n ih => intro i; cases i with | zero => rfl | succ i => simpa [rest] using ih i
  have hvl := hv.length
  have hRl : Rl C ρ ⟨args ++ rest (n - args.length), mem, mem.length⟩ { tmps := vs.toArray ++ Array.replicate (fn.ntmps - vs.toArray.size) undef, defers := [] } w := by
    refine ⟨⟨by simp [lrest, hn, hvl], fun i v hi => ?_⟩, rfl, hm, hfresh, rfl, Nat.le_refl _, fun id _ h => ⟨h, rfl, rfl, rfl⟩, fun id b hb => ?_, fun id hid => if_neg (by simpa [C] using hid)⟩
    · rw [List.getD_eq_getElem?_getD, List.getElem?_append]
      by_cases hlt : i < args.length
      · rw [if_pos hlt]
        obtain ⟨u, hu, hvu⟩ := hv.get i args[i] (List.getElem?_eq_getElem hlt)
        rw [Array.getElem?_append_left (by simp [hvl, hlt])] at hi
        simp only [List.getElem?_toArray] at hi
        rw [hi] at hu
        cases hu
        rw [List.getElem?_eq_getElem hlt]
        exact hvu
      · rw [if_neg hlt]
        rw [grest]
        trivial
    · have hid : id < mem.length := hfresh id (hm.blk id b hb).1
      show b.wr = if id < mem.length then wrOf mem id else true
      rw [if_pos hid]
      unfold wrOf
      rw [hb]
  refine wp_mono (exec_sound E c _ _ ρ _ w h hRl) ?_
  rintro e a' w' ⟨x, s', ρ', rfl, h', hr'⟩
  have fin : (finT τ rs s').holds P (fun f => match f with | .ret r m => Post r m | .st .. => False) → a'.defers = [] ∧ ∃ v, (results fn a'.tmps).run P w' = .ok v w' ∧ (fun e w' => ∃ r m' ρ' v, e = Ending.returned v ∧ Post r m' ∧ VR ρ' r v ∧ MRel w F ρ' m' w' ∧ (∀ id, ρ'.al id → id < m'.length) ∧ mem.length ≤ m'.length ∧
      (∀ id, id < mem.length → ρ.al id → ρ'.al id ∧ ρ'.β id = ρ.β id ∧ ρ'.γ id = ρ.γ id ∧ ρ'.o id = ρ.o id) ∧ (∀ id b, blkOf m' id = some b → b.wr = wrOf mem id)) (.returned v) w' := by
    intro hfin
    refine ⟨hr'.df, ?_⟩
    have main : ∀ (r : AV) (v : Value), VR ρ' r v → (finish s' r).holds P (fun f => match f with | .ret r m => Post r m | .st .. => False) → ∃ r m' ρ' , Post r m' ∧ VR ρ' r v ∧ MRel w F ρ' m' w' ∧ (∀ id, ρ'.al id → id < m'.length) ∧ mem.length ≤ m'.length ∧
      (∀ id, id < mem.length → ρ.al id → ρ'.al id ∧ ρ'.β id = ρ.β id ∧ ρ'.γ id = ρ.γ id ∧ ρ'.o id = ρ.o id) ∧ (∀ id b, blkOf m' id = some b → b.wr = wrOf mem id) := by
      intro r v hv hh
      unfold finish at hh
      dsimp only at hh
      split at hh
      · rename_i hc
        simp only [Bool.and_eq_true] at hc
        obtain ⟨hc1, hc2⟩ := hc
        generalize hσ : reach s'.mem 40 0 (r.ids (List.range s'.np)) = σ at *
        have hnd := nodupB_nodup _ hc1
        have ht : σ.take s'.np = List.range s'.np := by simpa using hc2
        obtain ⟨ρs, h1, _, _, _⟩ := view_rel hnd hr'.mem
        have hvw := hr'.view hnd ht
        obtain ⟨ρs, h1, h2, h3, h4⟩ := view_rel hnd hr'.mem
        have hnp : s'.np = mem.length := hr'.np
        have hlen : mem.length ≤ σ.length := by
          have := congrArg List.length ht
          simp at this
          omega
        refine ⟨_, _, ρs, hh, VR.ren h1 r v hv, h2, fun id hid => by simpa [small] using h3 id hid, by simpa [small] using hlen, fun id hid h0 => ?_, fun id b hb => ?_⟩
        · obtain ⟨a1, a2, a3, a4⟩ := hr'.base id hid h0
          obtain ⟨b1, b2, b3, b4⟩ := h4 id id (range_get ht id (by omega))
          exact ⟨b1 a1, b2.trans a2, b3.trans a3, b4.trans a4⟩
        · obtain ⟨ρv, hRv⟩ := hvw
          have := hRv.wr id b hb
          rw [this]
          show (if id < mem.length then wrOf mem id else true) = wrOf mem id
          split
          · rfl
          · rename_i hge
            unfold wrOf blkOf
            rw [List.getElem?_eq_none (by omega)]
            rfl
      · exact hh.elim
    unfold finT at hfin
    split at hfin
    · rename_i v need hres
      obtain ⟨g1, g2⟩ := mkNeed_holds hfin
      obtain ⟨us, r1, r2⟩ := resA_sound E.tab hr'.mem (fun t => hr'.tm.eval (.tmp t)) rs _ _ hres g1
      obtain ⟨u, ws, rfl, hu, e⟩ := r2
      have e : ws = [] := e
      subst e
      obtain ⟨r, m', ρ', q⟩ := main v u hu g2
      exact ⟨u, results_step rs a'.tmps w' [u] r1 fn hrs, r, m', ρ', u, rfl, q⟩
    · rename_i as need hne hres
      obtain ⟨g1, g2⟩ := mkNeed_holds hfin
      obtain ⟨us, r1, r2⟩ := resA_sound E.tab hr'.mem (fun t => hr'.tm.eval (.tmp t)) rs _ _ hres g1
      obtain ⟨r, m', ρ', q⟩ := main (.tup as) (.tuple us.toArray) ⟨us, rfl, r2⟩ g2
      refine ⟨.tuple us.toArray, ?_, r, m', ρ', _, rfl, q⟩
      rw [results_step rs a'.tmps w' us r1 fn hrs]
      have hl := r2.length
      match us, as, hne, hl with
      | [], _, _, _ => rfl
      | [u], [v], hne, _ => exact absurd rfl (hne v)
      | u :: u2 :: us, _, _, _ => rfl
    · exact hfin.elim
  cases x with
  | normal => exact fin h'
  | ret => exact fin h'
  | exit id => exact h'.elim
theorem Runs.mono {f : FuncId} {args : List AV} {mem : List (Option Blk)} {Post Post' : AV → List (Option Blk) → Prop} (h : Runs P f args mem Post) (hp : ∀ r m, Post r m → Post' r m) : Runs P f args mem Post' := by
  intro w F ρ vs hm hf hv
  obtain ⟨h1, h2⟩ := h w F ρ vs hm hf hv
  refine ⟨h1, h2.mono ?_⟩
  rintro e w' ⟨r, m', ρ', v, a, b, c⟩
  exact ⟨r, m', ρ', v, a, hp r m' b, c⟩
/-- Known of the arguments: less is asked than is known. -/
theorem Runs.of_args {f : FuncId} {args args' : List AV} {mem mem' : List (Option Blk)} {Post : AV → List (Option Blk) → Prop} (h : Runs P f args' mem' Post) (ha : ∀ ρ vs, VRs ρ args vs → VRs ρ args' vs) (hm : memLe mem mem') (hm2 : ∀ id, blkOf mem' id = none → blkOf mem id = none) : Runs P f args mem Post := by
  intro w F ρ vs hM hf hv
  obtain ⟨h1, h2⟩ := h w F ρ vs (hm.rel hM) (by rw [← hm.1]; exact hf) (ha ρ vs hv)
  refine ⟨h1, h2.mono ?_⟩
  rintro e w' ⟨r, m', ρ', v, a, b, c, d, e, g, i, j⟩
  refine ⟨r, m', ρ', v, a, b, c, d, e, by rw [hm.1]; exact g, by rw [hm.1]; exact i, fun id bk hb => ?_⟩
  rw [j id bk hb]
  unfold wrOf
  cases h0 : blkOf mem' id with
  | none =>
    rw [hm2 id h0]
  | some b1 =>
    obtain ⟨b0, k1, k2⟩ := hm.2 id b1 h0
    rw [k1]
    exact k2.1.symm
end


mutual
def leP : AV → AV → Prop
  | _, .any => True
  | .int k e lo hi, .int k' e' lo' hi' => k = k' ∧ e.den = e'.den ∧ (lo ≤ e.den → e.den ≤ hi → lo' ≤ e'.den ∧ e'.den ≤ hi')
  | .bool b, .bool b' => b.den = b'.den
  | .ptr i sz r f, .ptr i' sz' r' f' => i = i' ∧ sz = sz' ∧ r.den = r'.den ∧ f = f'
  | .sl i sz r l h, .sl i' sz' r' l' h' => i = i' ∧ sz = sz' ∧ r.den = r'.den ∧ l.den = l'.den ∧ (l.den ≤ h → l'.den ≤ h')
  | .agg l, .agg l' => lePs l l'
  | .tup l, .tup l' => lePs l l'
  | .fn f l, .fn f' l' => (f = f' ∧ AV.bnd l = AV.bnd l') ∧ lePs l l'
  | .raw v, .raw v' => v = v'
  | _, _ => False
def lePs : List AV → List AV → Prop
  | [], [] => True
  | a :: l, b :: m => leP a b ∧ lePs l m
  | _, _ => False
end
mutual
theorem leP_le {ρ : Rho} : ∀ (a b : AV) (v : Value), leP a b → VR ρ a v → VR ρ b v
  | a, .any, _, _, _ => trivial
  | .int k e lo hi, .int k' e' lo' hi', v, h, hv => by
    obtain ⟨rfl, h1, h2⟩ := h
    obtain ⟨h3, h4, h5⟩ := hv
    exact ⟨by rw [h3, h1], h2 h4 h5⟩
  | .bool b, .bool b', v, h, hv => by
    have h : b.den = b'.den := h
    have hv : v = .bool b.den := hv
    rw [hv, h]; rfl
  | .ptr i sz r f, .ptr i' sz' r' f', v, h, hv => by
    obtain ⟨rfl, rfl, h1, rfl⟩ := h
    unfold VR at hv ⊢
    rw [← h1]; exact hv
  | .sl i sz r l hi, .sl i' sz' r' l' hi', v, h, hv => by
    obtain ⟨rfl, rfl, h1, h2, h3⟩ := h
    unfold VR at hv ⊢
    rw [← h1, ← h2]
    obtain ⟨a1, a2, a3, a4, a5⟩ := hv
    exact ⟨a1, a2, a3, by rw [h2]; exact h3 a4, a5⟩
  | .agg l, .agg l', v, h, ⟨vs, h1, h2⟩ => ⟨vs, h1, lePs_le l l' vs h h2⟩
  | .tup l, .tup l', v, h, ⟨vs, h1, h2⟩ => ⟨vs, h1, lePs_le l l' vs h h2⟩
  | .fn f l, .fn f' l', v, h, ⟨vs, h1, h2⟩ => by
    obtain ⟨⟨rfl, hb⟩, h⟩ := h
    exact ⟨vs, by rw [← hb]; exact h1, lePs_le l l' vs h h2⟩
  | .raw x, .raw y, v, h, hv => by
    have h : x = y := h
    have hv : v = x := hv
    rw [hv, h]; rfl
theorem lePs_le {ρ : Rho} : ∀ (l m : List AV) (vs : List Value), lePs l m → VRs ρ l vs → VRs ρ m vs
  | [], [], _, _, hv => hv
  | a :: l, b :: m, _, ⟨h1, h2⟩, ⟨v, ws, e, h3, h4⟩ => ⟨v, ws, e, leP_le a b v h1 h3, lePs_le l m ws h2 h4⟩
end
def rowsP : List (List AV) → List (List AV) → Prop
  | [], [] => True
  | a :: l, b :: m => lePs a b ∧ rowsP l m
  | _, _ => False
def rowsF (f : E → List AV) : List (List AV) → Int → Prop
  | [], _ => True
  | r :: l, i => (∀ e : E, e.den = i → lePs r (f e)) ∧ rowsF f l (i + 1)
/-- None of these. -/
def notIn (d : Int) : List Int → Prop
  | [] => True
  | [x] => d ≠ x
  | x :: y :: l => d ≠ x ∧ notIn d (y :: l)
theorem notIn_snoc (d y : Int) : ∀ l : List Int, notIn d l → d ≠ y → notIn d (l ++ [y])
  | [], _, h => h
  | [x], h1, h => ⟨h1, h⟩
  | x :: z :: l, ⟨h1, h2⟩, h => ⟨h1, notIn_snoc d y (z :: l) h2 h⟩
/-- All rows but some. -/
def conPL : Con → (E → List AV) → List Int → Prop
  | .sym n f', f, xs => ∀ e : E, 0 ≤ e.den ∧ e.den < n.den ∧ notIn e.den xs → lePs (f' e) (f e)
  | .set c e0 r, f, xs => conPL c f (xs ++ [e0.den]) ∧ ∀ e : E, e.den.toNat = e0.den.toNat ∧ 0 ≤ e.den ∧ notIn e.den xs → lePs r (f e)
  | _, _, _ => False
theorem conPL_le : ∀ (c : Con) (f : E → List AV) (xs : List Int), conPL c f xs → ∀ ρ i vs, i < c.num.den.toNat → RowR ρ c i vs → ∀ e : E, e.den = i → notIn e.den xs → VRs ρ (f e) vs
  | .sym n f', f, xs, h, ρ, i, vs, hi, hr, e, he, hx => by
    simp only [Con.num] at hi
    exact lePs_le _ _ vs (h e ⟨by omega, by omega, hx⟩) (hr e he)
  | .set c e0 r, f, xs, h, ρ, i, vs, hi, hr, e, he, hx => by
    by_cases hq : i = e0.den.toNat
    · exact lePs_le _ _ vs (h.2 e ⟨by omega, by omega, hx⟩) (hr.1 hq)
    · exact conPL_le c f _ h.1 ρ i vs hi (hr.2 hq) e he (notIn_snoc _ _ xs hx (by omega))
  | .lit _, _, _, h, _, _, _, _, _, _, _, _ => h.elim
  | .snoc _ _, _, _, h, _, _, _, _, _, _, _, _ => h.elim
/-- What a block holds, known less. -/
def conP : Con → Con → Prop
  | .lit rows, .lit rows' => rowsP rows rows'
  | .lit rows, .sym n f => n.den = (rows.length : Nat) ∧ rowsF f rows 0
  | .sym n f, .sym n' f' => n'.den ≤ n.den ∧ ∀ e : E, 0 ≤ e.den → e.den < n'.den → lePs (f e) (f' e)
  | .snoc c r, .sym n f => 0 ≤ c.num.den ∧ n.den = c.num.den + 1 ∧ conP c (.sym c.num f) ∧ ∀ e : E, e.den = c.num.den → lePs r (f e)
  | .set c e0 r, .sym n f => n.den = c.num.den ∧ conPL c f [e0.den] ∧ ∀ e : E, e.den.toNat = e0.den.toNat → 0 ≤ e.den → lePs r (f e)
  | _, _ => False
def ConLe (c d : Con) : Prop := d.num.den.toNat ≤ c.num.den.toNat ∧ ∀ ρ i vs, i < d.num.den.toNat → RowR ρ c i vs → RowR ρ d i vs
theorem rowsP_get : ∀ (l m : List (List AV)), rowsP l m → l.length = m.length ∧ ∀ (i : Nat) (a : List AV), l[i]? = some a → ∃ b, m[i]? = some b ∧ lePs a b
  | [], [], _ => ⟨rfl, fun i a h => by simp at h⟩
  | a :: l, b :: m, ⟨h1, h2⟩ => by
    obtain ⟨h3, h4⟩ := rowsP_get l m h2
    refine ⟨by simp [h3], fun i x hx => ?_⟩
    cases i with
    | zero => simp at hx; subst hx; exact ⟨b, rfl, h1⟩
    | succ i => simpa using h4 i x (by simpa using hx)
theorem rowsF_get (f : E → List AV) : ∀ (l : List (List AV)) (j : Int), rowsF f l j → ∀ (i : Nat) (r : List AV), l[i]? = some r → ∀ e : E, e.den = j + i → lePs r (f e)
  | [], _, _, i, r, h => by simp at h
  | a :: l, j, ⟨h1, h2⟩, i, r, h => by
    intro e he
    cases i with
    | zero => simp at h; subst h; exact h1 e (by simpa using he)
    | succ i => exact rowsF_get f l (j + 1) h2 i r (by simpa using h) e (by rw [he]; omega)
theorem conP_le : ∀ (c d : Con), conP c d → ConLe c d
  | .lit rows, .lit rows', h => by
    obtain ⟨h1, h2⟩ := rowsP_get rows rows' h
    refine ⟨by simp [Con.num, E.den, h1], fun ρ i vs _ hr => ?_⟩
    obtain ⟨r, h3, h4⟩ := hr
    obtain ⟨b, h5, h6⟩ := h2 i r h3
    exact ⟨b, h5, lePs_le r b vs h6 h4⟩
  | .lit rows, .sym n f, h => by
    obtain ⟨h1, h2⟩ := h
    refine ⟨by simp [Con.num, E.den, h1], fun ρ i vs _ hr e he => ?_⟩
    obtain ⟨r, h3, h4⟩ := hr
    exact lePs_le r _ vs (rowsF_get f rows 0 h2 i r h3 e (by rw [he]; omega)) h4
  | .sym n f, .sym n' f', h => by
    obtain ⟨h1, h2⟩ := h
    refine ⟨by simp only [Con.num]; omega, fun ρ i vs hi hr e he => ?_⟩
    simp only [Con.num] at hi
    exact lePs_le _ _ vs (h2 e (by omega) (by omega)) (hr e he)
  | .snoc c r, .sym n f, h => by
    obtain ⟨h0, h1, h2, h3⟩ := h
    obtain ⟨h4, h5⟩ := conP_le c _ h2
    have e1 : (Con.snoc c r).num.den = c.num.den + 1 := by simp only [Con.num]; rw [E.den_mkAdd]; rfl
    refine ⟨by rw [e1]; simp [Con.num, h1], fun ρ i vs hi hr e he => ?_⟩
    simp only [Con.num, h1] at hi
    by_cases hlt : i < c.num.den.toNat
    · exact h5 ρ i vs hlt (hr.1 hlt) e he
    · have : i = c.num.den.toNat := by omega
      exact lePs_le _ _ vs (h3 e (by omega)) (hr.2 this)
  | .set c e0 r, .sym n f, h => by
    obtain ⟨h1, h2, h3⟩ := h
    refine ⟨by simp [Con.num, h1], fun ρ i vs hi hr e he => ?_⟩
    simp only [Con.num, h1] at hi
    by_cases hx : i = e0.den.toNat
    · exact lePs_le _ _ vs (h3 e (by omega) (by omega)) (hr.1 hx)
    · exact conPL_le c f _ h2 ρ i vs hi (hr.2 hx) e he (show e.den ≠ e0.den by omega)
def blkP (b c : Blk) : Prop := b.ty = c.ty ∧ b.sz = c.sz ∧ b.wr = c.wr ∧ conP b.con c.con
theorem blk_le_of {b c : Blk} (h1 : b.ty = c.ty) (h2 : b.sz = c.sz) (h3 : b.wr = c.wr) (h4 : ConLe b.con c.con) : b.le c := by
  refine ⟨h3, fun ρ w id h => ?_⟩
  obtain ⟨a1, a2⟩ := h
  obtain ⟨e1, e2⟩ := h4
  refine ⟨by rw [← h2]; exact a1, ?_⟩
  rcases a2 with ⟨a3, a4⟩ | ⟨ao, cs, a3, a4, a5⟩ | ⟨a3, a4, a5, a6⟩
  · exact .inl ⟨a3, by omega⟩
  · refine .inr (.inl ⟨ao, cs, by rw [← h1]; exact a3, a4, fun i hi => ?_⟩)
    obtain ⟨a6, a7⟩ := a5 i (by omega)
    rw [← h2]
    exact ⟨a6, e2 ρ i _ hi a7⟩
  · refine .inr (.inr ⟨by rw [← h3]; exact a3, a4, a5, fun i hi => ?_⟩)
    obtain ⟨vs, b1, b2, b3⟩ := a6 i (by omega)
    exact ⟨vs, by rw [← h2]; exact b1, by rw [← h2]; exact b2, e2 ρ i _ hi b3⟩
def memP : List (Option Blk) → List (Option Blk) → Prop
  | [], [] => True
  | some b :: l, some c :: m => blkP b c ∧ memP l m
  | _ :: l, none :: m => memP l m
  | _, _ => False
theorem memP_le : ∀ (l m : List (Option Blk)), memP l m → memLe l m
  | [], [], _ => ⟨rfl, fun id c h => by simp [blkOf] at h⟩
  | some b :: l, some c :: m, ⟨h1, h2⟩ => by
    obtain ⟨h3, h4⟩ := memP_le l m h2
    refine ⟨by simp [h3], fun id d hd => ?_⟩
    cases id with
    | zero =>
      simp [blkOf] at hd
      subst hd
      exact ⟨b, by simp [blkOf], blk_le_of h1.1 h1.2.1 h1.2.2.1 (conP_le _ _ h1.2.2.2)⟩
    | succ id =>
      obtain ⟨b', h5, h6⟩ := h4 id d (by simpa [blkOf] using hd)
      exact ⟨b', by simpa [blkOf] using h5, h6⟩
  | x :: l, none :: m, h => by
    have h : memP l m := by cases x <;> exact h
    obtain ⟨h3, h4⟩ := memP_le l m h
    refine ⟨by simp [h3], fun id d hd => ?_⟩
    cases id with
    | zero => simp [blkOf] at hd
    | succ id =>
      obtain ⟨b', h5, h6⟩ := h4 id d (by simpa [blkOf] using hd)
      exact ⟨b', by simpa [blkOf] using h5, h6⟩
def memQ : List (Option Blk) → List (Option Blk) → Prop
  | [], [] => True
  | some b :: l, some c :: m => blkP b c ∧ memQ l m
  | none :: l, none :: m => memQ l m
  | _, _ => False
theorem memQ_P : ∀ (l m : List (Option Blk)), memQ l m → memP l m ∧ ∀ id, blkOf m id = none → blkOf l id = none
  | [], [], _ => ⟨trivial, fun _ h => h⟩
  | some b :: l, some c :: m, ⟨h1, h2⟩ => by
    obtain ⟨h3, h4⟩ := memQ_P l m h2
    refine ⟨⟨h1, h3⟩, fun id h => ?_⟩
    cases id with
    | zero => simp [blkOf] at h
    | succ id => have := h4 id (by simpa [blkOf] using h); simpa [blkOf] using this
  | none :: l, none :: m, h => by
    obtain ⟨h3, h4⟩ := memQ_P l m h
    refine ⟨h3, fun id h => ?_⟩
    cases id with
    | zero => simp [blkOf]
    | succ id => have := h4 id (by simpa [blkOf] using h); simpa [blkOf] using this

section
variable {P : Program} {τ : Tab} {eqt : EqTab}
/-- A call comes back with just this. -/
def RunsTo (P : Program) (f : FuncId) (args : List AV) (mem : List (Option Blk)) (r : AV) (m : List (Option Blk)) : Prop := Runs P f args mem fun r' m' => r' = r ∧ m' = m
theorem Runs.weak {f : FuncId} {args : List AV} {mem : List (Option Blk)} {Post Post' : AV → List (Option Blk) → Prop} (h : Runs P f args mem Post) (hp : ∀ r m, Post r m → ∃ r' m', Post' r' m' ∧ leP r r' ∧ memP m m') : Runs P f args mem Post' := by
  intro w F ρ vs hm hf hv
  obtain ⟨h1, h2⟩ := h w F ρ vs hm hf hv
  refine ⟨h1, h2.mono ?_⟩
  rintro e w' ⟨r, m', ρ', v, a, b, c, d, e, g, i, j⟩
  obtain ⟨r1, m1, k1, k2, k3⟩ := hp r m' b
  have hle := memP_le _ _ k3
  refine ⟨r1, m1, ρ', v, a, k1, leP_le r r1 v k2 c, hle.rel d, by rw [← hle.1]; exact e, by rw [← hle.1]; exact g, i, fun id bk hb => ?_⟩
  obtain ⟨b0, n1, n2⟩ := hle.2 id bk hb
  rw [← n2.1]
  exact j id b0 n1
/-- A function's contract, from the reckoning of its body. -/
theorem runs_start (E : Env P τ eqt) {f : FuncId} {fn : Func} {c : Code} (hf : P.funcs[f]? = some fn) (hb : fn.body = some c) (hcall : ∀ args w, (callFunc f args).run P w = .ok (.enter f args) w)
    {n : Nat} (hn : fn.ntmps = n) {rs : List ResultVar} (hrs : fn.results.toList = rs) {args mem} (args' : List AV) (mem' : List (Option Blk)) (ha : lePs args args') (hm : memQ mem mem') {Post : AV → List (Option Blk) → Prop}
    (h : (bodyT τ eqt n rs c args' mem').holds P fun f => match f with | .ret r m => ∃ r' m', Post r' m' ∧ leP r r' ∧ memP m m' | .st .. => False) : Runs P f args mem Post := by
  obtain ⟨hm1, hm2⟩ := memQ_P _ _ hm
  refine Runs.of_args (args' := args') (mem' := mem') ?_ (fun ρ vs => lePs_le args args' vs ha) (memP_le _ _ hm1) hm2
  exact Runs.weak (runs_body E hf hb hcall hn hrs (Post := fun r m => ∃ r' m', Post r' m' ∧ leP r r' ∧ memP m m') h) fun r m h => h
theorem runsTo_start (E : Env P τ eqt) {f : FuncId} {fn : Func} {c : Code} (hf : P.funcs[f]? = some fn) (hb : fn.body = some c) (hcall : ∀ args w, (callFunc f args).run P w = .ok (.enter f args) w)
    {n : Nat} (hn : fn.ntmps = n) {rs : List ResultVar} (hrs : fn.results.toList = rs) {args mem R M} (args' : List AV) (mem' : List (Option Blk)) (ha : lePs args args') (hm : memQ mem mem')
    (h : (bodyT τ eqt n rs c args' mem').holds P fun f => match f with | .ret r m => leP r R ∧ memP m M | .st .. => False) : RunsTo P f args mem R M := by
  obtain ⟨hm1, hm2⟩ := memQ_P _ _ hm
  refine Runs.of_args (args' := args') (mem' := mem') ?_ (fun ρ vs => lePs_le args args' vs ha) (memP_le _ _ hm1) hm2
  exact Runs.weak (runs_body E hf hb hcall hn hrs (Post := fun r m => leP r R ∧ memP m M) h) fun r m h => ⟨R, M, ⟨rfl, rfl⟩, h⟩
theorem call_to {f : FuncId} {args : List AV} {mem : List (Option Blk)} {k : AV → List (Option Blk) → T} {Q : Fin → Prop} {r : AV} {m : List (Option Blk)} (h : RunsTo P f args mem r m) (hk : (k r m).holds P Q) : (T.call f args mem k).holds P Q :=
  ⟨_, h, by rintro _ _ ⟨rfl, rfl⟩; exact hk⟩
theorem callD_to {f : FuncId} {args : List AV} {mem : List (Option Blk)} {k : AV → List (Option Blk) → T} {Q : Fin → Prop} {r : AV} {m : List (Option Blk)} (h : RunsTo P f args mem r m) (hk : (k r m).holds P Q) : (T.callD f args mem k).holds P Q :=
  ⟨_, _, h, hk⟩
/-- The arguments are known better than the contract asks. -/
theorem RunsTo.less {f : FuncId} {args args' : List AV} {mem mem' : List (Option Blk)} {r : AV} {m : List (Option Blk)} (h : RunsTo P f args' mem' r m) (ha : lePs args args') (hm : memQ mem mem') : RunsTo P f args mem r m := by
  obtain ⟨hm1, hm2⟩ := memQ_P _ _ hm
  exact Runs.of_args h (fun ρ vs => lePs_le args args' vs ha) (memP_le _ _ hm1) hm2
end
end Go.Sym
