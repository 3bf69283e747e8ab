/- A reckoning of code by values known in part: functions that keep the first blocks of their memory where they lie; the others go on as new ones. -/
import Derived.Test.YtljhomjaamjfaaaYg
set_option linter.unusedSimpArgs false
set_option linter.unusedVariables false
namespace Go.Sym
def bodyTK (τ : Tab) (eqt : EqTab) (k ntmps : Nat) (rs : List ResultVar) (c : Code) (args : List AV) (mem : List (Option Blk)) : T :=
  exec τ eqt c (endT τ rs) ⟨args ++ rest (ntmps - args.length), mem, k⟩
/-- Where the blocks lie behind such a call. -/
def outσ (k d L : Nat) : List Nat := List.range k ++ ((List.range d).map (· + L) ++ (List.range (L - k)).map (· + k))
def outR (k d : Nat) (m : List (Option Blk)) (r : AV) : AV := r.ren fun i => idxOf (outσ k d m.length) i 0
def outM (k d : Nat) (m : List (Option Blk)) : List (Option Blk) := small m (outσ k d m.length)
def allWr (l : List (Option Blk)) : Bool := l.all fun b => match b with | some b => b.wr | none => true
theorem outσ_get {k d L : Nat} (hk : k ≤ L) (j : Nat) (hj : j < (outσ k d L).length) : (outσ k d L)[j]? = some (if j < k then j else if j < k + d then j - k + L else j - d) := by
  have hl : (outσ k d L).length = k + (d + (L - k)) := by simp [outσ]
  unfold outσ
  rw [List.getElem?_append]
  split
  · rename_i h
    have h : j < k := by simpa using h
    rw [List.getElem?_range h, if_pos h]
  · rename_i h
    have h : ¬ j < k := by simpa using h
    rw [if_neg h, List.length_range, List.getElem?_append]
    split
    · rename_i h2
      have h2 : j - k < d := by simpa using h2
      rw [List.getElem?_map, List.getElem?_range h2, if_pos (by omega)]
      rfl
    · rename_i h2
      have h2 : ¬ j - k < d := by simpa using h2
      have h3 : j - k - d < L - k := by omega
      rw [List.length_map, List.length_range, List.getElem?_map, List.getElem?_range h3, if_neg (by omega)]
      show some (j - k - d + k) = _
      congr 1
      omega
theorem outσ_len (k d L : Nat) (hk : k ≤ L) : (outσ k d L).length = L + d := by
  simp [outσ]; omega
theorem outσ_nodup {k d L : Nat} (hk : k ≤ L) : (outσ k d L).Nodup := by
  refine List.pairwise_iff_getElem.2 fun i j hi hj hij => ?_
  have h1 := outσ_get (d := d) hk i hi
  have h2 := outσ_get (d := d) hk j hj
  rw [List.getElem?_eq_getElem hi] at h1
  rw [List.getElem?_eq_getElem hj] at h2
  rw [outσ_len k d L hk] at hi hj
  rw [Option.some.inj h1, Option.some.inj h2]
  (repeat' split) <;> omega
theorem MRel.mono {w0 : World} {F : Nat → Prop} {ρ ρ' : Rho} {mem : List (Option Blk)} {w : World} (h : MRel w0 F ρ mem w) (hle : ρ.le ρ' none) : MRel w0 F ρ' mem w := by
  refine ⟨fun i b hb => ?_, fun i j b c hb hc hne gi gj hwr => ?_, fun i b hb hwr hg => ?_, h.fr⟩
  · obtain ⟨h1, h2⟩ := h.blk i b hb
    exact ⟨hle.al i h1, h2.kept hle h1 fun _ => rfl⟩
  · have h1 := (h.blk i b hb).1
    have h2 := (h.blk j c hc).1
    rw [hle.γ i h1 (by simp)] at gi
    rw [hle.γ j h2 (by simp)] at gj
    rw [hle.β i h1 (by simp), hle.β j h2 (by simp)]
    exact h.inj i j b c hb hc hne gi gj hwr
  · have h1 := (h.blk i b hb).1
    rw [hle.γ i h1 (by simp)] at hg
    rw [hle.β i h1 (by simp)]
    exact h.own i b hb hwr hg
/-- From the k first blocks to all. -/
theorem out_rel {k : Nat} {mem m' : List (Option Blk)} {w0 w' : World} {F : Nat → Prop} {ρ ρ' : Rho} {r : AV} {v : Value} (hk : k ≤ mem.length) (hkm : k ≤ m'.length) (hv : VR ρ' r v) (hm : MRel w0 F ρ' m' w') (hf : ∀ id, ρ'.al id → id < m'.length)
    (hb : ∀ id, id < k → ρ.al id → ρ'.al id ∧ ρ'.β id = ρ.β id ∧ ρ'.γ id = ρ.γ id ∧ ρ'.o id = ρ.o id) (hw : ∀ id b, blkOf m' id = some b → b.wr = if id < k then wrOf mem id else true) :
    ∃ ρs, VR ρs (outR k (mem.length - k) m' r) v ∧ MRel w0 F ρs (outM k (mem.length - k) m') w' ∧ (∀ id, ρs.al id → id < (outM k (mem.length - k) m').length) ∧ mem.length ≤ (outM k (mem.length - k) m').length ∧
      (∀ id, id < mem.length → ρ.al id → ρs.al id ∧ ρs.β id = ρ.β id ∧ ρs.γ id = ρ.γ id ∧ ρs.o id = ρ.o id) ∧ (∀ id b, blkOf (outM k (mem.length - k) m') id = some b → b.wr = wrOf mem id) := by
  let ρ1 : Rho := ⟨fun i => if i < m'.length then ρ'.β i else ρ.β (k + (i - m'.length)), fun i => if i < m'.length then ρ'.γ i else ρ.γ (k + (i - m'.length)), fun i => if i < m'.length then ρ'.al i else ρ.al (k + (i - m'.length)), fun i => if i < m'.length then ρ'.o i else ρ.o (k + (i - m'.length))⟩
  have hle : ρ'.le ρ1 none := by
    refine ⟨fun id h => ?_, fun id h _ => ?_, fun id h _ => ?_, fun id h _ => ?_⟩
    · show if id < m'.length then ρ'.al id else _
      rw [if_pos (hf id h)]; exact h
    · exact if_pos (hf id h)
    · exact if_pos (hf id h)
    · exact if_pos (hf id h)
  obtain ⟨ρs, h1, h2, h3, h4⟩ := view_rel (outσ_nodup (d := mem.length - k) hkm) (hm.mono hle)
  have hlen : (outM k (mem.length - k) m').length = m'.length + (mem.length - k) := by simp [outM, small, outσ_len k _ _ hkm]
  have hlen2 : (outσ k (mem.length - k) m'.length).length = m'.length + (mem.length - k) := outσ_len k _ _ hkm
  refine ⟨ρs, VR.ren h1 r v (hv.mono hle), h2, fun id hid => ?_, ?_, fun id hid hal => ?_, fun id b hb2 => ?_⟩
  · have := h3 id hid
    omega
  · omega
  · have hg := outσ_get (d := mem.length - k) hkm id (by omega)
    by_cases hlt : id < k
    · rw [if_pos hlt] at hg
      obtain ⟨b1, b2, b3, b4⟩ := h4 id id hg
      obtain ⟨a1, a2, a3, a4⟩ := hb id hlt hal
      have hL : id < m'.length := by omega
      refine ⟨b1 ?_, b2.trans ?_, b3.trans ?_, b4.trans ?_⟩
      · show if id < m'.length then ρ'.al id else _
        rw [if_pos hL]; exact a1
      · exact (if_pos hL).trans a2
      · exact (if_pos hL).trans a3
      · exact (if_pos hL).trans a4
    · rw [if_neg hlt, if_pos (by omega)] at hg
      obtain ⟨b1, b2, b3, b4⟩ := h4 id _ hg
      have hL : ¬ (id - k + m'.length < m'.length) := by omega
      have e : k + (id - k + m'.length - m'.length) = id := by omega
      refine ⟨b1 ?_, b2.trans ?_, b3.trans ?_, b4.trans ?_⟩
      · show if _ then _ else ρ.al _
        rw [if_neg hL, e]; exact hal
      · refine (if_neg hL).trans ?_; rw [e]
      · refine (if_neg hL).trans ?_; rw [e]
      · refine (if_neg hL).trans ?_; rw [e]
  · unfold outM at hb2
    rw [blkOf_small] at hb2
    cases hj : (outσ k (mem.length - k) m'.length)[id]? with
    | none => rw [hj] at hb2; cases hb2
    | some j =>
      rw [hj] at hb2
      simp only [Option.bind_some] at hb2
      cases h0 : blkOf m' j with
      | none => rw [h0] at hb2; cases hb2
      | some b0 =>
        rw [h0] at hb2
        cases hb2
        have hw0 := hw j b0 h0
        have hjl : j < m'.length := by
          rcases Nat.lt_or_ge j m'.length with h | h
          · exact h
          · unfold blkOf at h0; rw [List.getElem?_eq_none h] at h0; cases h0
        have hil := (List.getElem?_eq_some_iff.1 hj).1
        have hg := outσ_get (d := mem.length - k) hkm id hil
        rw [hj] at hg
        have hg := Option.some.inj hg
        show b0.wr = _
        rw [hw0]
        by_cases hlt : id < k
        · rw [if_pos hlt] at hg
          subst hg
          exact if_pos hlt
        · rw [if_neg hlt] at hg
          by_cases hlt2 : id < k + (mem.length - k)
          · rw [if_pos hlt2] at hg; omega
          · rw [if_neg hlt2] at hg
            rw [if_neg (by omega)]
            unfold wrOf blkOf
            rw [List.getElem?_eq_none (by omega)]
            rfl
theorem runs_bodyK {P : Program} {τ : Tab} {eqt : EqTab} (E : Env P τ eqt) {f : FuncId} {fn : Func} {c : Code} (hf : P.funcs[f]? = some fn) (hb : fn.body = some c) (hcall : ∀ args w, (callFunc f args).run P w = .ok (.enter f args) w)
    {n : Nat} (hn : fn.ntmps = n) {rs : List ResultVar} (hrs : fn.results.toList = rs) {args : List AV} {mem : List (Option Blk)} {Post : AV → List (Option Blk) → Prop} {k : Nat} (hk : k ≤ mem.length) (hkw : allWr (mem.drop k) = true)
    (h : (bodyTK τ eqt k n rs c args mem).holds P fun f => match f with | .ret r m => Post (outR k (mem.length - k) m r) (outM k (mem.length - k) m) | .st .. => False) : Runs P f args mem Post := by
  intro w F ρ vs hm hfresh hv
  refine ⟨hcall _ _, ?_⟩
  refine calls_of_wp hf hb ?_
  let C : Ctx := ⟨w, F, ρ, k, fun id => if id < k then wrOf mem id else true⟩
  have lrest : ∀ n, (rest n).length = n := by intro n; induction n with | zero => rfl | succ n ih => simp [rest, ih]
  have grest : ∀ n i : Nat, (rest n)[i]?.getD .any = .any := by
    intro n
    induction n with
    | zero => intro i; rfl
    | succ n ih => intro i; cases i with | zero => rfl | succ i => simpa [rest] using ih i
  have hvl := hv.length
  have hRl : Rl C ρ ⟨args ++ rest (n - args.length), mem, k⟩ { tmps := vs.toArray ++ Array.replicate (fn.ntmps - vs.toArray.size) undef, defers := [] } w := by
    refine ⟨⟨by simp [lrest, hn, hvl], fun i v hi => ?_⟩, rfl, hm, hfresh, rfl, hk, fun id _ h => ⟨h, rfl, rfl, rfl⟩, fun id b hb => ?_, fun id hid => if_neg (by simpa [C] using hid)⟩
    · rw [List.getD_eq_getElem?_getD, List.getElem?_append]
      by_cases hlt : i < args.length
      · rw [if_pos hlt]
        obtain ⟨u, hu, hvu⟩ := hv.get i args[i] (List.getElem?_eq_getElem hlt)
        rw [Array.getElem?_append_left (by simp [hvl, hlt])] at hi
        simp only [List.getElem?_toArray] at hi
        rw [hi] at hu
        cases hu
        rw [List.getElem?_eq_getElem hlt]
        exact hvu
      · rw [if_neg hlt]
        rw [grest]
        trivial
    · show b.wr = if id < k then wrOf mem id else true
      by_cases hid : id < k
      · rw [if_pos hid]
        unfold wrOf
        rw [hb]
      · rw [if_neg hid]
        have h1 : mem[id]? = some (some b) := by
          unfold blkOf at hb
          cases h2 : mem[id]? with
          | none => rw [h2] at hb; cases hb
          | some x => rw [h2] at hb; exact congrArg some hb
        have h2 : some b ∈ mem.drop k := by
          refine List.mem_of_getElem? (i := id - k) ?_
          rw [List.getElem?_drop, show k + (id - k) = id by omega, h1]
        exact List.all_eq_true.1 hkw (some b) h2
  refine wp_mono (exec_sound E c _ _ ρ _ w h hRl) ?_
  rintro e a' w' ⟨x, s', ρ', rfl, h', hr'⟩
  have fin : (finT τ rs s').holds P (fun f => match f with | .ret r m => Post (outR k (mem.length - k) m r) (outM k (mem.length - k) m) | .st .. => False) → a'.defers = [] ∧ ∃ v, (results fn a'.tmps).run P w' = .ok v w' ∧ (fun e w' => ∃ r m' ρ' v, e = Ending.returned v ∧ Post r m' ∧ VR ρ' r v ∧ MRel w F ρ' m' w' ∧ (∀ id, ρ'.al id → id < m'.length) ∧ mem.length ≤ m'.length ∧
      (∀ id, id < mem.length → ρ.al id → ρ'.al id ∧ ρ'.β id = ρ.β id ∧ ρ'.γ id = ρ.γ id ∧ ρ'.o id = ρ.o id) ∧ (∀ id b, blkOf m' id = some b → b.wr = wrOf mem id)) (.returned v) w' := by
    intro hfin
    refine ⟨hr'.df, ?_⟩
    have main : ∀ (r : AV) (v : Value), VR ρ' r v → (finish s' r).holds P (fun f => match f with | .ret r m => Post (outR k (mem.length - k) m r) (outM k (mem.length - k) m) | .st .. => False) → ∃ r m' ρ' , Post r m' ∧ VR ρ' r v ∧ MRel w F ρ' m' w' ∧ (∀ id, ρ'.al id → id < m'.length) ∧ mem.length ≤ m'.length ∧
      (∀ id, id < mem.length → ρ.al id → ρ'.al id ∧ ρ'.β id = ρ.β id ∧ ρ'.γ id = ρ.γ id ∧ ρ'.o id = ρ.o id) ∧ (∀ id b, blkOf m' id = some b → b.wr = wrOf mem id) := by
      intro r v hv hh
      unfold finish at hh
      dsimp only at hh
      split at hh
      · rename_i hc
        simp only [Bool.and_eq_true] at hc
        obtain ⟨hc1, hc2⟩ := hc
        generalize hσ : reach s'.mem 40 0 (r.ids (List.range s'.np)) = σ at *
        have hnd := nodupB_nodup _ hc1
        have ht : σ.take s'.np = List.range s'.np := by simpa using hc2
        have hvw := hr'.view hnd ht
        obtain ⟨ρs, h1, h2, h3, h4⟩ := view_rel hnd hr'.mem
        have hnp : s'.np = k := hr'.np
        have hlen : k ≤ σ.length := by
          have := congrArg List.length ht
          simp at this
          omega
        obtain ⟨ρo, o1, o2, o3, o4, o5, o6⟩ := out_rel (k := k) (mem := mem) (m' := small s'.mem σ) (ρ := ρ) hk (by simpa [small] using hlen) (VR.ren h1 r v hv) h2 (fun id hid => by simpa [small] using h3 id hid) (fun id hid h0 => by
            obtain ⟨a1, a2, a3, a4⟩ := hr'.base id hid h0
            obtain ⟨b1, b2, b3, b4⟩ := h4 id id (range_get ht id (by omega))
            exact ⟨b1 a1, b2.trans a2, b3.trans a3, b4.trans a4⟩) (fun id b hb => by
            obtain ⟨ρv, hRv⟩ := hvw
            exact hRv.wr id b hb)
        exact ⟨_, _, ρo, hh, o1, o2, o3, o4, o5, o6⟩
      · exact hh.elim
    unfold finT at hfin
    split at hfin
    · rename_i v need hres
      obtain ⟨g1, g2⟩ := mkNeed_holds hfin
      obtain ⟨us, r1, r2⟩ := resA_sound E.tab hr'.mem (fun t => hr'.tm.eval (.tmp t)) rs _ _ hres g1
      obtain ⟨u, ws, rfl, hu, e⟩ := r2
      have e : ws = [] := e
      subst e
      obtain ⟨r, m', ρ', q⟩ := main v u hu g2
      exact ⟨u, results_step rs a'.tmps w' [u] r1 fn hrs, r, m', ρ', u, rfl, q⟩
    · rename_i as need hne hres
      obtain ⟨g1, g2⟩ := mkNeed_holds hfin
      obtain ⟨us, r1, r2⟩ := resA_sound E.tab hr'.mem (fun t => hr'.tm.eval (.tmp t)) rs _ _ hres g1
      obtain ⟨r, m', ρ', q⟩ := main (.tup as) (.tuple us.toArray) ⟨us, rfl, r2⟩ g2
      refine ⟨.tuple us.toArray, ?_, r, m', ρ', _, rfl, q⟩
      rw [results_step rs a'.tmps w' us r1 fn hrs]
      have hl := r2.length
      match us, as, hne, hl with
      | [], _, _, _ => rfl
      | [u], [v], hne, _ => exact absurd rfl (hne v)
      | u :: u2 :: us, _, _, _ => rfl
    · exact hfin.elim
  cases x with
  | normal => exact fin h'
  | ret => exact fin h'
  | exit id => exact h'.elim
theorem RunsTo.goK {P : Program} {τ : Tab} {eqt : EqTab} (E : Env P τ eqt) {f : FuncId} {fn : Func} {c : Code} (hf : P.funcs[f]? = some fn) (hb : fn.body = some c) (hcall : ∀ args w, (callFunc f args).run P w = .ok (.enter f args) w)
    {n : Nat} (hn : fn.ntmps = n) {rs : List ResultVar} (hrs : fn.results.toList = rs) {args mem R M} (k : Nat) (hk : k ≤ mem.length) (hkw : allWr (mem.drop k) = true) (a : (AV.factsL args).den → (memFacts mem).den → Ans P) {G : Prop}
    (hG : (∀ (h1 : (AV.factsL args).den) (h2 : (memFacts mem).den), ((a h1 h2).vc τ eqt (fun r m => .mkAnd (leV (outR k (mem.length - k) m r) R) (memPV (outM k (mem.length - k) m) M)) [] (bodyTK τ eqt k n rs c args mem)).den) = G) (h : G) : RunsTo P f args mem R M := by
  rw [← hG] at h
  refine Runs.facts fun h1 h2 => ?_
  refine Runs.weak (runs_bodyK E hf hb hcall hn hrs (Post := fun r m => leP r R ∧ memP m M) hk hkw ?_) fun r m h => ⟨R, M, ⟨rfl, rfl⟩, h⟩
  refine T.holds_mono _ (Ans.vc_sound E _ _ [] _ (h h1 h2)) ?_
  intro f hf
  cases f with
  | st e s => exact hf
  | ret r m =>
    have hf : (VC.mkAnd (leV (outR k (mem.length - k) m r) R) (memPV (outM k (mem.length - k) m) M)).den := hf
    rw [VC.den_and] at hf
    exact ⟨leV_den _ _ hf.1, memPV_den _ _ hf.2⟩
theorem RunsX.goK {P : Program} {τ : Tab} {eqt : EqTab} (E : Env P τ eqt) {f : FuncId} {fn : Func} {c : Code} (hf : P.funcs[f]? = some fn) (hb : fn.body = some c) (hcall : ∀ args w, (callFunc f args).run P w = .ok (.enter f args) w)
    {n : Nat} (hn : fn.ntmps = n) {rs : List ResultVar} (hrs : fn.results.toList = rs) {args mem} {X : Type} {I : X → Prop} {R : X → AV} {M : X → List (Option Blk)} (k : Nat) (hk : k ≤ mem.length) (hkw : allWr (mem.drop k) = true) (a : (AV.factsL args).den → (memFacts mem).den → Ans P) {G : Prop}
    (hG : (∀ (h1 : (AV.factsL args).den) (h2 : (memFacts mem).den), ((a h1 h2).vc τ eqt (fun r m => .ex fun x => .mkAnd (.p (I x)) (.mkAnd (leV (outR k (mem.length - k) m r) (R x)) (memPV (outM k (mem.length - k) m) (M x)))) [] (bodyTK τ eqt k n rs c args mem)).den) = G) (h : G) : Runs P f args mem fun r m => ∃ x, I x ∧ r = R x ∧ m = M x := by
  rw [← hG] at h
  refine Runs.facts fun h1 h2 => ?_
  refine Runs.weak (runs_bodyK E hf hb hcall hn hrs (Post := fun r m => ∃ x, I x ∧ leP r (R x) ∧ memP m (M x)) hk hkw ?_) fun r m ⟨x, h1, h2, h3⟩ => ⟨R x, M x, ⟨x, h1, rfl, rfl⟩, h2, h3⟩
  refine T.holds_mono _ (Ans.vc_sound E _ _ [] _ (h h1 h2)) ?_
  intro f hf
  cases f with
  | st e s => exact hf
  | ret r m =>
    obtain ⟨x, hf⟩ := hf
    rw [VC.den_and, VC.den_and] at hf
    exact ⟨x, hf.1, leV_den _ _ hf.2.1, memPV_den _ _ hf.2.2⟩
end Go.Sym
