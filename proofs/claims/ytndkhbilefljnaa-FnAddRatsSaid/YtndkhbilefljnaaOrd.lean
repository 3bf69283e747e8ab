/- A region that draws its order: quiet operations, a few new variables, then stores in a forced order. One walk, the new blocks being any. -/
import Derived.Test.YtndkhbilefljnaaBase
import Derived.StillTail
namespace Go.Proofs.Ytndkhbilefljnaa
open Go.RowKit
section
variable {P : Program} {ops : Array Oper} {md : Region.Mode}

def exUpon (P : Program) (w : World) (o : Oper) (a : Act) (K : Act → World → Prop) : Result Next → Prop
  | .ok (.value v) w' => Kp w w' ∧ K (a.put o.dst v) w'
  | .ok .skip w' => Kp w w' ∧ K (a.put o.dst undef) w'
  | .ok (.enter f args) w' => w' = w ∧ Calls P f args w fun e w'' => ∃ v, e = .returned v ∧ Kp w w'' ∧ K (a.put o.dst v) w''
  | _ => False
def exAt (P : Program) (o : Oper) (a : Act) (w : World) (K : Act → World → Prop) : Prop := exUpon P w o a K ((execOp a.eval o).run P w)
def exOp (P : Program) (ops : Array Oper) (i : Nat) (K : Act → World → Prop) (a : Act) (w : World) : Prop :=
  match ops[i]? with
  | none => K a w
  | some o => if Region.wanted o (yielded ops a.tmps) then exAt P o a w K else K (a.put o.dst undef) w

theorem exAt_mono {o : Oper} {a : Act} {w : World} {K K' : Act → World → Prop} (h : ∀ a' w', Kp w w' → K a' w' → K' a' w') (hh : exAt P o a w K) : exAt P o a w K' := by
  unfold exAt at *
  generalize (execOp a.eval o).run P w = r at *
  cases r with
  | ok n w' =>
    cases n <;> simp only [exUpon] at hh ⊢
    case enter f args => exact ⟨hh.1, hh.2.mono fun e w'' ⟨v, h1, h2, h3⟩ => ⟨v, h1, h2, h _ _ h2 h3⟩⟩
    all_goals exact ⟨hh.1, h _ _ hh.1 hh.2⟩
  | halt x w' => simp only [exUpon] at hh
theorem exOp_mono {i : Nat} {a : Act} {w : World} {K K' : Act → World → Prop} (h : ∀ a' w', Kp w w' → K a' w' → K' a' w') (hh : exOp P ops i K a w) : exOp P ops i K' a w := by
  unfold exOp at *
  split
  · exact h _ _ (gr_refl w _) (by simpa [*] using hh)
  · rename_i o ho
    simp only [ho] at hh
    split
    · rename_i hw; simp only [hw, if_true] at hh; exact exAt_mono h hh
    · rename_i hw; simp only [hw] at hh; exact h _ _ (gr_refl w _) hh
theorem wp_of_exAt {o : Oper} {a : Act} {w : World} {K : Act → World → Prop} {K' : Act → World → Prop} {Q' : Exit → Act → World → Prop} (h : ∀ a' w', K a' w' → K' a' w') (hh : exAt P o a w K) : o.wp P a w K' Q' := by
  unfold exAt at hh
  unfold Oper.wp
  generalize (execOp a.eval o).run P w = r at *
  cases r with
  | ok n w' =>
    cases n <;> simp only [exUpon] at hh <;> simp only [Oper.upon]
    case enter f args =>
      obtain ⟨rfl, hc⟩ := hh
      exact hc.mono fun e w'' ⟨v, he, _, hk⟩ => by subst he; exact h _ _ hk
    all_goals exact h _ _ hh.2
  | halt x w' => simp only [exUpon] at hh
theorem wpOp_of_exOp {i : Nat} {a : Act} {w : World} {K K' : Act → World → Prop} {Q' : Exit → Act → World → Prop} (h : ∀ a' w', K a' w' → K' a' w') (hh : exOp P ops i K a w) : wpOp P ops Q' i K' a w := by
  unfold exOp at hh
  unfold wpOp
  split
  · rename_i ho; simp only [ho] at hh; exact h _ _ hh
  · rename_i o ho
    simp only [ho] at hh
    split
    · rename_i hw; simp only [hw, if_true] at hh; exact .inl (wp_of_exAt h hh)
    · rename_i hw; simp only [hw] at hh; exact h _ _ hh

/-- What an operation has come to: the value v, and a later world. -/
def gives (P : Program) (w : World) (v : Value) : Result Next → Prop
  | .ok (.value u) w' => Kp w w' ∧ u = v
  | .ok .skip w' => Kp w w' ∧ v = undef
  | .ok (.enter f args) w' => w' = w ∧ Calls P f args w fun e w'' => e = .returned v ∧ w.grownBy w'' none
  | _ => False
theorem exAt_of_gives {o : Oper} {a : Act} {w : World} {v : Value} {K : Act → World → Prop} (h : gives P w v ((execOp a.eval o).run P w)) (hK : ∀ w', Kp w w' → K (a.put o.dst v) w') : exAt P o a w K := by
  unfold exAt
  generalize (execOp a.eval o).run P w = r at *
  cases r with
  | ok n w' =>
    cases n <;> simp only [gives] at h <;> simp only [exUpon]
    case value u => obtain ⟨h1, rfl⟩ := h; exact ⟨h1, hK _ h1⟩
    case skip => obtain ⟨h1, h2⟩ := h; rw [← h2]; exact ⟨h1, hK _ h1⟩
    case enter f args => exact ⟨h.1, h.2.mono fun e w'' ⟨he, hk⟩ => ⟨v, he, hk, hK _ hk⟩⟩
  | halt x w' => simp only [gives] at h
/-- In every later world the operation yields v. -/
def YE (P : Program) (ops : Array Oper) (o : Oper) (v : Value) (a : Act) (w : World) : Prop :=
  (Region.wanted o (yielded ops a.tmps) = true ∧ ∀ w', Kp w w' → gives P w' v ((execOp a.eval o).run P w')) ∨ (Region.wanted o (yielded ops a.tmps) = false ∧ v = undef)
theorem YE.later {o : Oper} {v : Value} {a : Act} {w w' : World} (h : YE P ops o v a w) (hk : Kp w w') : YE P ops o v a w' := by
  rcases h with ⟨h1, h2⟩ | h
  · exact .inl ⟨h1, fun w'' h'' => h2 w'' (kp_trans hk h'')⟩
  · exact .inr h
theorem YE.of_same {o : Oper} {v : Value} {a a' : Act} {w : World} (hy : YE P ops o v a w) (he : execOp a'.eval o = execOp a.eval o) (hw : Region.wanted o (yielded ops a'.tmps) = Region.wanted o (yielded ops a.tmps)) : YE P ops o v a' w := by
  unfold YE at *
  rw [he, hw]
  exact hy
theorem YE.exOp {i : Nat} {o : Oper} {v : Value} {a : Act} {w w' : World} (hi : ops[i]? = some o) (hy : YE P ops o v a w) (hk : Kp w w') {K : Act → World → Prop} (h : ∀ w'', Kp w' w'' → K (a.put o.dst v) w'') : exOp P ops i K a w' := by
  unfold Proofs.Ytndkhbilefljnaa.exOp
  simp only [hi]
  rcases hy with ⟨hw, hv⟩ | ⟨hw, rfl⟩
  · simp only [hw, if_true]; exact exAt_of_gives (hv _ hk) h
  · simp only [hw, Bool.false_eq_true, if_false]; exact h _ (gr_refl w' _)

theorem exOp_put {j : Nat} {oi oj : Oper} {v : Value} {w0 w : World} (hj : ops[j]? = some oj) (hap : oi.apart ops oj = true) (hsi : ∀ cs b, oi.op ≠ .select cs b) (hsj : ∀ cs b, oj.op ≠ .select cs b) {K : Act → World → Prop} {a : Act}
    (hy : YE P ops oi v a w0) (h : exOp P ops j K (a.put oi.dst v) w) : exOp P ops j (fun a' w' => YE P ops oi v a' w0 ∧ K (a'.put oi.dst v) w') a w := by
  obtain ⟨h1, h2, h3⟩ := Oper.apart_spec hap
  have keep : ∀ u, YE P ops oi v (a.put oj.dst u) w0 := fun u => hy.of_same (execOp_put oi hsi a oj.dst u h3) (wanted_put oi a oj.dst u h3)
  have hc : ∀ u, (a.put oj.dst u).put oi.dst v = (a.put oi.dst v).put oj.dst u := fun u => (Act.put_comm a v u h2).symm
  unfold exOp at *
  simp only [hj] at *
  rw [wanted_put oj a oi.dst v h1] at h
  split
  · rename_i hw
    simp only [hw, if_true] at h
    unfold exAt at *
    rw [execOp_put oj hsj a oi.dst v h1] at h
    generalize (execOp a.eval oj).run P w = r at *
    cases r with
    | ok n w' =>
      cases n <;> simp only [exUpon] at h ⊢
      case enter f args => exact ⟨h.1, h.2.mono fun e w'' ⟨u, g1, g2, g3⟩ => ⟨u, g1, g2, keep u, by rw [hc]; exact g3⟩⟩
      case value u => exact ⟨h.1, keep u, by rw [hc]; exact h.2⟩
      case skip => exact ⟨h.1, keep _, by rw [hc]; exact h.2⟩
    | halt x w' => simp only [exUpon] at h
  · rename_i hw
    simp only [hw] at h
    exact ⟨keep _, by rw [hc]; exact h⟩

/-- Whatever order is picked among the first n operations, with anything new made in between. -/
def wpM (P : Program) (md : Region.Mode) (ops : Array Oper) (n : Nat) (L : Array Bool → Act → World → Prop) : Nat → Array Bool → Act → World → Prop
  | 0, listed, a, w => ∀ w', Kp w w' → L listed a w'
  | f + 1, listed, a, w => ∀ w', Kp w w' → Region.ready md ops listed ≠ [] ∧ ∀ i ∈ Region.ready md ops listed, i < n ∧ exOp P ops i (wpM P md ops n L f (listed.setIfInBounds i true)) a w'
theorem wpM_later {n : Nat} {L : Array Bool → Act → World → Prop} {f : Nat} {listed : Array Bool} {a : Act} {w w' : World} (h : wpM P md ops n L f listed a w) (hk : Kp w w') : wpM P md ops n L f listed a w' := by
  cases f with
  | zero => exact fun w'' h'' => h w'' (kp_trans hk h'')
  | succ f => exact fun w'' h'' => h w'' (kp_trans hk h'')
theorem wpAny_of_M {n g : Nat} {L : Array Bool → Act → World → Prop} {Q' : Exit → Act → World → Prop} (hL : ∀ listed a w, L listed a w → wpAny P md ops Q' g listed a w) :
    ∀ (f : Nat) (listed : Array Bool) (a : Act) (w : World), wpM P md ops n L f listed a w → wpAny P md ops Q' (f + g) listed a w
  | 0, listed, a, w, h => by rw [Nat.zero_add]; exact hL _ _ _ (h w (gr_refl w _))
  | f + 1, listed, a, w, h => by
    rw [show f + 1 + g = (f + g) + 1 by omega]
    have h' := h w (gr_refl w _)
    exact ⟨fun h0 => absurd h0 h'.1, fun i hi => wpOp_of_exOp (fun a' w' hh => wpAny_of_M hL f _ a' w' hh) (h'.2 i hi).2⟩

theorem wpM_first {n i : Nat} {oi : Oper} {v : Value} {L : Array Bool → Act → World → Prop} (hi : ops[i]? = some oi) (hsel : ∀ (j : Nat) (o : Oper) cs b, ops[j]? = some o → o.op ≠ .select cs b)
    (hs : Region.sinkB md ops n = true) (hc : Region.chainB md ops n = true) (hn : n < ops.size) (hin : i < n)
    (hdone : ∀ listed a w, L listed a w → ∀ j ∈ Region.ready md ops listed, n ≤ j) :
    ∀ (f : Nat) (listed : Array Bool) (a : Act) (w : World), HeadInv md ops n listed →
      (∀ j oj, ops[j]? = some oj → j ≠ i → listed.getD j true = false → (∀ e ∈ oj.after, Region.binds md e = true → e.on ≠ i) → oi.apart ops oj = true) →
      i ∈ Region.ready md ops listed → YE P ops oi v a w →
      wpM P md ops n L f (listed.setIfInBounds i true) (a.put oi.dst v) w → wpM P md ops n L (f + 1) listed a w := by
  intro f
  induction f with
  | zero =>
    intro listed a w inv _ hr hy H w1 hk1
    have hun := (mem_ready.1 hr).1
    refine ⟨fun h => (by rw [h] at hr; cases hr), fun j hj => ?_⟩
    have hjn : j < n := by
      rcases Nat.lt_or_ge j n with h | h
      · exact h
      · exact absurd hj (tail_waits hs hc hn inv _ i rfl hin hun j h)
    refine ⟨hjn, ?_⟩
    by_cases hji : j = i
    · subst hji; exact hy.exOp hi hk1 fun w2 hk2 => wpM_later H (kp_trans hk1 hk2)
    · have := hdone _ _ _ (H w (gr_refl w _)) j (ready_mono hj hji)
      omega
  | succ f ih =>
    intro listed a w inv hfree hr hy H w1 hk1
    have hun := (mem_ready.1 hr).1
    refine ⟨fun h => (by rw [h] at hr; cases hr), fun j hj => ?_⟩
    have hjn : j < n := by
      rcases Nat.lt_or_ge j n with h | h
      · exact h
      · exact absurd hj (tail_waits hs hc hn inv _ i rfl hin hun j h)
    refine ⟨hjn, ?_⟩
    by_cases hji : j = i
    · subst hji; exact hy.exOp hi hk1 fun w2 hk2 => wpM_later H (kp_trans hk1 hk2)
    · have h1 := ((H w1 hk1).2 j (ready_mono hj hji)).2
      obtain ⟨hjun, oj, hoj, hall⟩ := mem_ready.1 hj
      have hnot : ∀ e ∈ oj.after, Region.binds md e = true → e.on ≠ i := fun e he hb heq => by
        have h1 := hall e he hb
        rw [heq, getD_both hun] at h1
        cases h1
      have h2 := exOp_put hoj (hfree j oj hoj hji hjun hnot) (fun cs b => hsel i oi cs b hi) (fun cs b => hsel j oj cs b hoj) hy h1
      have hfree' : ∀ k ok, ops[k]? = some ok → k ≠ i → (listed.setIfInBounds j true).getD k true = false →
          (∀ e ∈ ok.after, Region.binds md e = true → e.on ≠ i) → oi.apart ops ok = true := fun k ok hk hki hun hno => by
        refine hfree k ok hk hki ?_ hno
        by_cases hjk : j = k
        · subst hjk; exact hjun
        · rw [getD_set_ne true hjk] at hun; exact hun
      refine exOp_mono (fun a' w2 hk2 h3 => ih (listed.setIfInBounds j true) a' w2 (inv.set hj hjn) hfree' (ready_mono hr (Ne.symm hji)) (h3.1.later (kp_trans hk1 hk2)) ?_) h2
      rw [Array.setIfInBounds_comm _ _ hji]
      exact h3.2

/-! ### The quiet operations, in the text's order -/
def equiet (P : Program) (o : Oper) (a : Act) (w : World) (next : Act → Prop) : Prop := ∃ v, (∀ x : ExtW w none, gives P (exN w none x) v ((execOp a.eval o).run P (exN w none x))) ∧ next (a.put o.dst v)
def wpE (P : Program) (ops : Array Oper) (w : World) (Q : Act → Prop) : List Oper → Act → Prop
  | [], a => Q a
  | o :: rest, a => if Region.wanted o (yielded ops a.tmps) then equiet P o a w (wpE P ops w Q rest) else wpE P ops w Q rest (a.put o.dst undef)
attribute [go_sem] equiet gives gr_refl
theorem wpE_nil {w : World} {Q : Act → Prop} {a : Act} (h : Q a) : wpE P ops w Q [] a := h
theorem wpE_step {w : World} {Q : Act → Prop} {a : Act} {o : Oper} {rest : List Oper} (h : ∀ K : Act → Prop, (∀ a, wpE P ops w Q rest a → K a) → if Region.wanted o (yielded ops a.tmps) then equiet P o a w K else K (a.put o.dst undef)) : wpE P ops w Q (o :: rest) a :=
  h _ (fun _ h => h)
/-- The first f operations may be taken in the text's order. -/
def lexQ (md : Region.Mode) (ops : Array Oper) : Nat → Nat → Array Bool → Bool
  | 0, _, _ => true
  | f + 1, k, listed => (Region.ready md ops listed).contains k && Region.free md ops listed k && lexQ md ops f (k + 1) (listed.setIfInBounds k true)
def listQ : Nat → Nat → Array Bool → Array Bool
  | 0, _, listed => listed
  | f + 1, k, listed => listQ f (k + 1) (listed.setIfInBounds k true)
theorem wpM_lex {n m f : Nat} {L : Array Bool → Act → World → Prop} {Lq : Act → Prop} {w : World} (hsel : Region.noSelect ops = true) (hs : Region.sinkB md ops n = true) (hc : Region.chainB md ops n = true) (hn : n < ops.size) (hmn : m ≤ n)
    (hdone : ∀ listed a w, L listed a w → ∀ j ∈ Region.ready md ops listed, n ≤ j) :
    ∀ (l : List Oper) (k : Nat) (listed : Array Bool) (a : Act), (∀ j, j < l.length → l[j]? = ops[k + j]?) → k + l.length = m → HeadInv md ops n listed → lexQ md ops l.length k listed = true → wpE P ops w Lq l a →
    (∀ a', Lq a' → wpM P md ops n L f (listQ l.length k listed) a' w) → wpM P md ops n L (l.length + f) listed a w
  | [], k, listed, a, _, _, _, _, h, H => by simpa [listQ] using H a h
  | o :: l, k, listed, a, hl, hk, inv, hB, h, H => by
    have h0 : ops[k]? = some o := by simpa using (hl 0 (by simp)).symm
    simp only [List.length_cons, lexQ, Bool.and_eq_true] at hB
    obtain ⟨⟨hr, hf⟩, hB'⟩ := hB
    have hkn : k < n := by simp only [List.length_cons] at hk; omega
    have hr' : k ∈ Region.ready md ops listed := by simpa using hr
    rw [List.length_cons, show l.length + 1 + f = (l.length + f) + 1 by omega]
    have go : ∀ v, YE P ops o v a w → wpE P ops w Lq l (a.put o.dst v) → wpM P md ops n L (l.length + f + 1) listed a w := fun v hy hK =>
      wpM_first h0 (Region.noSelect_spec hsel) hs hc hn hkn hdone (l.length + f) listed a w inv (Region.free_spec h0 hf) hr' hy
        (wpM_lex hsel hs hc hn hmn hdone l (k + 1) _ _ (fun j hj => by have := hl (j + 1) (by simp; omega); simpa [Nat.add_assoc, Nat.add_comm 1 j] using this) (by simp only [List.length_cons] at hk; omega) (inv.set hr' hkn) hB' hK (by simpa [listQ] using H))
    unfold wpE at h
    by_cases hw : Region.wanted o (yielded ops a.tmps) = true
    · rw [if_pos hw] at h
      obtain ⟨v, h1, h2⟩ := h
      exact go v (.inl ⟨hw, fun w' hk' => h1 ⟨w', hk'⟩⟩) h2
    · rw [if_neg hw] at h
      exact go undef (.inr ⟨by simpa using hw, rfl⟩) h
end

section
variable {P : Program} {ops : Array Oper} {md : Region.Mode}
theorem exOp_alloc {i : Nat} {o : Oper} {t : TypeId} {z : Array Value} {a : Act} {w : World} (hi : ops[i]? = some o) (hg : o.guard = none) (ha : (execOp a.eval o).run P w = .ok (.value (.pointer (some ⟨w.heap.size, 0, none⟩))) (w.alloc (.cells z t)))
    {K : Act → World → Prop} (h : K (a.put o.dst (.pointer (some ⟨w.heap.size, 0, none⟩))) (w.alloc (.cells z t))) : exOp P ops i K a w := by
  unfold exOp
  simp only [hi]
  have hw : Region.wanted o (yielded ops a.tmps) = true := by simp [Region.wanted, hg]
  rw [if_pos hw]
  unfold exAt
  rw [ha]
  exact ⟨World.grownBy_alloc w _ none, h⟩
theorem equiet_mono {o : Oper} {a : Act} {w w' : World} {K K' : Act → Prop} (hk : Kp w w') (h : ∀ a, K a → K' a) (hh : equiet P o a w K) : equiet P o a w' K' := by
  obtain ⟨v, h1, h2⟩ := hh
  exact ⟨v, fun x => h1 ⟨x.to, kp_trans hk x.ok⟩, h _ h2⟩
theorem wpE_mono {w w' : World} {Q Q' : Act → Prop} (hk : Kp w w') (h : ∀ a, Q a → Q' a) : ∀ (l : List Oper) (a : Act), wpE P ops w Q l a → wpE P ops w' Q' l a
  | [], a, hh => h a hh
  | o :: l, a, hh => by
    unfold wpE at *
    split
    · rename_i hw
      rw [if_pos hw] at hh
      exact equiet_mono hk (fun a => wpE_mono hk h l a) hh
    · rename_i hw
      rw [if_neg hw] at hh
      exact wpE_mono hk h l _ hh
theorem wpE_drawn {w : World} {Q : Act → Prop} {l : List Oper} {a : Act} (h : wpE P ops w Q l a) : wpE P ops { w with drawn := w.drawn + 1 } Q l a := wpE_mono (w := w) (w' := { w with drawn := w.drawn + 1 }) ⟨rfl, rfl, rfl, Nat.le_refl _, fun _ _ _ => rfl⟩ (fun _ h => h) l a h

def bigB2 (ops : Array Oper) (m : Nat) : Bool :=
  Region.noSelect ops && decide (m + 2 < ops.size) && Region.sinkB .any ops (m + 2) && Region.chainB .any ops (m + 2) && lexQ .any ops m 0 (Array.replicate ops.size false) && decide (Region.ready .any ops ((listQ m 0 (Array.replicate ops.size false))) = [m, m + 1]) && decide (Region.ready .any ops (((listQ m 0 (Array.replicate ops.size false)).setIfInBounds (m) true)) = [m + 1]) && decide (Region.ready .any ops (((listQ m 0 (Array.replicate ops.size false)).setIfInBounds (m + 1) true)) = [m]) && Region.seqB .any ops (ops.size - (m + 2)) (m + 2) ((((listQ m 0 (Array.replicate ops.size false)).setIfInBounds (m) true).setIfInBounds (m + 1) true))
theorem wp_region_new2 {P : Program} {id : Nat} {Q : Exit → Act → World → Prop} {a : Act} {w : World} {l : List Oper} (m : Nat) {o0 o1 : Oper} {t0 t1 : TypeId} {z0 z1 : Array Value} (hm : P.follows .mixedOrders = true) (hB : bigB2 l.toArray m = true) (ho0 : l[m]? = some o0) (hg0 : o0.guard = none) (ha0 : ∀ (a : Act) (w : World), (execOp a.eval o0).run P w = .ok (.value (.pointer (some ⟨w.heap.size, 0, none⟩))) (w.alloc (.cells z0 t0))) (ho1 : l[m + 1]? = some o1) (hg1 : o1.guard = none) (ha1 : ∀ (a : Act) (w : World), (execOp a.eval o1).run P w = .ok (.value (.pointer (some ⟨w.heap.size, 0, none⟩))) (w.alloc (.cells z1 t1))) (hd01 : ∀ d, o0.dst = some d → o1.dst ≠ some d)
    (h : wpE P l.toArray w (fun a' => ∀ (b0 b1 : Nat) (w2 : World), Kp w w2 → w.heap.size ≤ b0 → Blk w2 b0 t0 z0 → w.heap.size ≤ b1 → Blk w2 b1 t1 z1 → b0 ≠ b1 → wpList P l.toArray Q (l.drop (m + 2)) ((a'.put o0.dst (.pointer (some ⟨b0, 0, none⟩))).put o1.dst (.pointer (some ⟨b1, 0, none⟩))) w2) (l.take m) a) : (Code.region id l.toArray true).wp P Q a w := by
  simp only [bigB2, Bool.and_eq_true, decide_eq_true_eq] at hB
  obtain ⟨⟨⟨⟨⟨⟨⟨⟨hsel, hn⟩, hs⟩, hc⟩, hlex⟩, r_⟩, r_0⟩, r_1⟩, hseq⟩ := hB
  have hn' : m + 2 < l.length := by simpa using hn
  have htl : (l.take m).length = m := by simp; omega
  have hdl : (l.drop (m + 2)).length = l.toArray.size - (m + 2) := by simp
  have inv0 : HeadInv .any l.toArray (m + 2) (Array.replicate l.toArray.size false) :=
    ⟨by simp, fun j oj _ hl => (by rw [getD_replicate_false] at hl; cases hl), fun t _ ht => getD_in (by simpa using ht) (getD_replicate_false _ _)⟩
  have step0 : ∀ (K : Act → World → Prop) (a : Act) (w : World), K (a.put o0.dst (.pointer (some ⟨w.heap.size, 0, none⟩))) (w.alloc (.cells z0 t0)) → exOp P l.toArray (m) K a w := fun K a w hk => exOp_alloc (by simpa using ho0) hg0 (ha0 a w) hk
  have step1 : ∀ (K : Act → World → Prop) (a : Act) (w : World), K (a.put o1.dst (.pointer (some ⟨w.heap.size, 0, none⟩))) (w.alloc (.cells z1 t1)) → exOp P l.toArray (m + 1) K a w := fun K a w hk => exOp_alloc (by simpa using ho1) hg1 (ha1 a w) hk
  have H := wpM_lex (P := P) (md := .any) (f := 2) (n := m + 2) (m := m) (L := fun listed a w => Region.seqB .any l.toArray (l.toArray.size - (m + 2)) (m + 2) listed = true ∧ wpList P l.toArray Q (l.drop (m + 2)) a w) (w := { w with drawn := w.drawn + 1 }) hsel hs hc hn (by omega) (fun listed a w hL => seqB_ready hL.1) (l.take m) 0 (Array.replicate l.toArray.size false) a
    (fun j hj => by have hj' : j < m := by rw [htl] at hj; exact hj
                    simp [hj']) (by rw [htl]; omega) inv0 (by rw [htl]; exact hlex) (Lq := fun a' => ∀ (b0 b1 : Nat) (w2 : World), Kp w w2 → w.heap.size ≤ b0 → Blk w2 b0 t0 z0 → w.heap.size ≤ b1 → Blk w2 b1 t1 z1 → b0 ≠ b1 → wpList P l.toArray Q (l.drop (m + 2)) ((a'.put o0.dst (.pointer (some ⟨b0, 0, none⟩))).put o1.dst (.pointer (some ⟨b1, 0, none⟩))) w2) ?_ ?_
  · refine wp_region_any hm ?_
    have := wpAny_of_M (Q' := Q) (g := l.toArray.size - (m + 2)) (fun listed a' w' hL => by
      have := wpAny_of_seq (md := .any) (Q' := Q) (l.drop (m + 2)) (m + 2) listed a' w' (fun j => by simp [List.getElem?_drop]) (by rw [hdl]; exact hL.1) hL.2
      rwa [hdl] at this) _ _ _ _ H
    rw [htl, show m + 2 + (l.toArray.size - (m + 2)) = l.toArray.size by simp; omega] at this
    exact this
  · exact wpE_drawn h
  · intro a' hF
    rw [htl]
    intro w1 k1
    have k1 : Kp w w1 := ⟨k1.os, k1.tape, k1.output, k1.size, k1.block⟩
    rw [r_]
    refine ⟨by simp, fun i hi => ?_⟩
    simp only [List.mem_cons, List.not_mem_nil, or_false] at hi
    rcases hi with hi | hi
    · rw [hi]
      clear hi i
      refine ⟨by omega, step0 _ _ _ ?_⟩
      intro w2 k2
      rw [r_0]
      refine ⟨by simp, fun i hi => ?_⟩
      simp only [List.mem_cons, List.not_mem_nil, or_false] at hi
      · rw [hi]
        clear hi i
        refine ⟨by omega, step1 _ _ _ ?_⟩
        intro w3 k3
        refine ⟨?_, ?_⟩
        · have e := hseq
          simpa only [Array.setIfInBounds_comm _ _ (show m + 1 ≠ m by omega)] using e
        · have e := hF w1.heap.size w2.heap.size w3 (kp_trans (kp_alloc (kp_trans (kp_alloc k1 _) k2) _) k3) k1.size ((((Blk.new w1 _ _).kept k2 (by simp)).alloc _).kept k3 (by simp)) (kp_trans (kp_alloc k1 _) k2).size ((Blk.new w2 _ _).kept k3 (by simp)) (by have q2 := k2.size; simp at *; omega)
          exact e
    · rw [hi]
      clear hi i
      refine ⟨by omega, step1 _ _ _ ?_⟩
      intro w2 k2
      rw [r_1]
      refine ⟨by simp, fun i hi => ?_⟩
      simp only [List.mem_cons, List.not_mem_nil, or_false] at hi
      · rw [hi]
        clear hi i
        refine ⟨by omega, step0 _ _ _ ?_⟩
        intro w3 k3
        refine ⟨?_, ?_⟩
        · have e := hseq
          simpa only [Array.setIfInBounds_comm _ _ (show m + 1 ≠ m by omega)] using e
        · have e := hF w2.heap.size w1.heap.size w3 (kp_trans (kp_alloc (kp_trans (kp_alloc k1 _) k2) _) k3) (kp_trans (kp_alloc k1 _) k2).size ((Blk.new w2 _ _).kept k3 (by simp)) k1.size ((((Blk.new w1 _ _).kept k2 (by simp)).alloc _).kept k3 (by simp)) (by have q2 := k2.size; simp at *; omega)
          rw [← Act.put_comm _ _ _ hd01]
          exact e

def bigB3 (ops : Array Oper) (m : Nat) : Bool :=
  Region.noSelect ops && decide (m + 3 < ops.size) && Region.sinkB .any ops (m + 3) && Region.chainB .any ops (m + 3) && lexQ .any ops m 0 (Array.replicate ops.size false) && decide (Region.ready .any ops ((listQ m 0 (Array.replicate ops.size false))) = [m, m + 1, m + 2]) && decide (Region.ready .any ops (((listQ m 0 (Array.replicate ops.size false)).setIfInBounds (m) true)) = [m + 1, m + 2]) && decide (Region.ready .any ops (((listQ m 0 (Array.replicate ops.size false)).setIfInBounds (m + 1) true)) = [m, m + 2]) && decide (Region.ready .any ops (((listQ m 0 (Array.replicate ops.size false)).setIfInBounds (m + 2) true)) = [m, m + 1]) && decide (Region.ready .any ops ((((listQ m 0 (Array.replicate ops.size false)).setIfInBounds (m) true).setIfInBounds (m + 1) true)) = [m + 2]) && decide (Region.ready .any ops ((((listQ m 0 (Array.replicate ops.size false)).setIfInBounds (m) true).setIfInBounds (m + 2) true)) = [m + 1]) && decide (Region.ready .any ops ((((listQ m 0 (Array.replicate ops.size false)).setIfInBounds (m + 1) true).setIfInBounds (m + 2) true)) = [m]) && Region.seqB .any ops (ops.size - (m + 3)) (m + 3) (((((listQ m 0 (Array.replicate ops.size false)).setIfInBounds (m) true).setIfInBounds (m + 1) true).setIfInBounds (m + 2) true))
theorem wp_region_new3 {P : Program} {id : Nat} {Q : Exit → Act → World → Prop} {a : Act} {w : World} {l : List Oper} (m : Nat) {o0 o1 o2 : Oper} {t0 t1 t2 : TypeId} {z0 z1 z2 : Array Value} (hm : P.follows .mixedOrders = true) (hB : bigB3 l.toArray m = true) (ho0 : l[m]? = some o0) (hg0 : o0.guard = none) (ha0 : ∀ (a : Act) (w : World), (execOp a.eval o0).run P w = .ok (.value (.pointer (some ⟨w.heap.size, 0, none⟩))) (w.alloc (.cells z0 t0))) (ho1 : l[m + 1]? = some o1) (hg1 : o1.guard = none) (ha1 : ∀ (a : Act) (w : World), (execOp a.eval o1).run P w = .ok (.value (.pointer (some ⟨w.heap.size, 0, none⟩))) (w.alloc (.cells z1 t1))) (ho2 : l[m + 2]? = some o2) (hg2 : o2.guard = none) (ha2 : ∀ (a : Act) (w : World), (execOp a.eval o2).run P w = .ok (.value (.pointer (some ⟨w.heap.size, 0, none⟩))) (w.alloc (.cells z2 t2))) (hd01 : ∀ d, o0.dst = some d → o1.dst ≠ some d) (hd02 : ∀ d, o0.dst = some d → o2.dst ≠ some d) (hd12 : ∀ d, o1.dst = some d → o2.dst ≠ some d)
    (h : wpE P l.toArray w (fun a' => ∀ (b0 b1 b2 : Nat) (w2 : World), Kp w w2 → w.heap.size ≤ b0 → Blk w2 b0 t0 z0 → w.heap.size ≤ b1 → Blk w2 b1 t1 z1 → w.heap.size ≤ b2 → Blk w2 b2 t2 z2 → b0 ≠ b1 → b0 ≠ b2 → b1 ≠ b2 → wpList P l.toArray Q (l.drop (m + 3)) (((a'.put o0.dst (.pointer (some ⟨b0, 0, none⟩))).put o1.dst (.pointer (some ⟨b1, 0, none⟩))).put o2.dst (.pointer (some ⟨b2, 0, none⟩))) w2) (l.take m) a) : (Code.region id l.toArray true).wp P Q a w := by
  simp only [bigB3, Bool.and_eq_true, decide_eq_true_eq] at hB
  obtain ⟨⟨⟨⟨⟨⟨⟨⟨⟨⟨⟨⟨hsel, hn⟩, hs⟩, hc⟩, hlex⟩, r_⟩, r_0⟩, r_1⟩, r_2⟩, r_01⟩, r_02⟩, r_12⟩, hseq⟩ := hB
  have hn' : m + 3 < l.length := by simpa using hn
  have htl : (l.take m).length = m := by simp; omega
  have hdl : (l.drop (m + 3)).length = l.toArray.size - (m + 3) := by simp
  have inv0 : HeadInv .any l.toArray (m + 3) (Array.replicate l.toArray.size false) :=
    ⟨by simp, fun j oj _ hl => (by rw [getD_replicate_false] at hl; cases hl), fun t _ ht => getD_in (by simpa using ht) (getD_replicate_false _ _)⟩
  have step0 : ∀ (K : Act → World → Prop) (a : Act) (w : World), K (a.put o0.dst (.pointer (some ⟨w.heap.size, 0, none⟩))) (w.alloc (.cells z0 t0)) → exOp P l.toArray (m) K a w := fun K a w hk => exOp_alloc (by simpa using ho0) hg0 (ha0 a w) hk
  have step1 : ∀ (K : Act → World → Prop) (a : Act) (w : World), K (a.put o1.dst (.pointer (some ⟨w.heap.size, 0, none⟩))) (w.alloc (.cells z1 t1)) → exOp P l.toArray (m + 1) K a w := fun K a w hk => exOp_alloc (by simpa using ho1) hg1 (ha1 a w) hk
  have step2 : ∀ (K : Act → World → Prop) (a : Act) (w : World), K (a.put o2.dst (.pointer (some ⟨w.heap.size, 0, none⟩))) (w.alloc (.cells z2 t2)) → exOp P l.toArray (m + 2) K a w := fun K a w hk => exOp_alloc (by simpa using ho2) hg2 (ha2 a w) hk
  have H := wpM_lex (P := P) (md := .any) (f := 3) (n := m + 3) (m := m) (L := fun listed a w => Region.seqB .any l.toArray (l.toArray.size - (m + 3)) (m + 3) listed = true ∧ wpList P l.toArray Q (l.drop (m + 3)) a w) (w := { w with drawn := w.drawn + 1 }) hsel hs hc hn (by omega) (fun listed a w hL => seqB_ready hL.1) (l.take m) 0 (Array.replicate l.toArray.size false) a
    (fun j hj => by have hj' : j < m := by rw [htl] at hj; exact hj
                    simp [hj']) (by rw [htl]; omega) inv0 (by rw [htl]; exact hlex) (Lq := fun a' => ∀ (b0 b1 b2 : Nat) (w2 : World), Kp w w2 → w.heap.size ≤ b0 → Blk w2 b0 t0 z0 → w.heap.size ≤ b1 → Blk w2 b1 t1 z1 → w.heap.size ≤ b2 → Blk w2 b2 t2 z2 → b0 ≠ b1 → b0 ≠ b2 → b1 ≠ b2 → wpList P l.toArray Q (l.drop (m + 3)) (((a'.put o0.dst (.pointer (some ⟨b0, 0, none⟩))).put o1.dst (.pointer (some ⟨b1, 0, none⟩))).put o2.dst (.pointer (some ⟨b2, 0, none⟩))) w2) ?_ ?_
  · refine wp_region_any hm ?_
    have := wpAny_of_M (Q' := Q) (g := l.toArray.size - (m + 3)) (fun listed a' w' hL => by
      have := wpAny_of_seq (md := .any) (Q' := Q) (l.drop (m + 3)) (m + 3) listed a' w' (fun j => by simp [List.getElem?_drop]) (by rw [hdl]; exact hL.1) hL.2
      rwa [hdl] at this) _ _ _ _ H
    rw [htl, show m + 3 + (l.toArray.size - (m + 3)) = l.toArray.size by simp; omega] at this
    exact this
  · exact wpE_drawn h
  · intro a' hF
    rw [htl]
    intro w1 k1
    have k1 : Kp w w1 := ⟨k1.os, k1.tape, k1.output, k1.size, k1.block⟩
    rw [r_]
    refine ⟨by simp, fun i hi => ?_⟩
    simp only [List.mem_cons, List.not_mem_nil, or_false] at hi
    rcases hi with hi | hi | hi
    · rw [hi]
      clear hi i
      refine ⟨by omega, step0 _ _ _ ?_⟩
      intro w2 k2
      rw [r_0]
      refine ⟨by simp, fun i hi => ?_⟩
      simp only [List.mem_cons, List.not_mem_nil, or_false] at hi
      rcases hi with hi | hi
      · rw [hi]
        clear hi i
        refine ⟨by omega, step1 _ _ _ ?_⟩
        intro w3 k3
        rw [r_01]
        refine ⟨by simp, fun i hi => ?_⟩
        simp only [List.mem_cons, List.not_mem_nil, or_false] at hi
        · rw [hi]
          clear hi i
          refine ⟨by omega, step2 _ _ _ ?_⟩
          intro w4 k4
          refine ⟨?_, ?_⟩
          · have e := hseq
            simpa only [Array.setIfInBounds_comm _ _ (show m + 1 ≠ m by omega), Array.setIfInBounds_comm _ _ (show m + 2 ≠ m by omega), Array.setIfInBounds_comm _ _ (show m + 2 ≠ m + 1 by omega)] using e
          · have e := hF w1.heap.size w2.heap.size w3.heap.size w4 (kp_trans (kp_alloc (kp_trans (kp_alloc (kp_trans (kp_alloc k1 _) k2) _) k3) _) k4) k1.size ((((((Blk.new w1 _ _).kept k2 (by simp)).alloc _).kept k3 (by simp)).alloc _).kept k4 (by simp)) (kp_trans (kp_alloc k1 _) k2).size ((((Blk.new w2 _ _).kept k3 (by simp)).alloc _).kept k4 (by simp)) (kp_trans (kp_alloc (kp_trans (kp_alloc k1 _) k2) _) k3).size ((Blk.new w3 _ _).kept k4 (by simp)) (by have q2 := k2.size; have q3 := k3.size; simp at *; omega) (by have q2 := k2.size; have q3 := k3.size; simp at *; omega) (by have q2 := k2.size; have q3 := k3.size; simp at *; omega)
            exact e
      · rw [hi]
        clear hi i
        refine ⟨by omega, step2 _ _ _ ?_⟩
        intro w3 k3
        rw [r_02]
        refine ⟨by simp, fun i hi => ?_⟩
        simp only [List.mem_cons, List.not_mem_nil, or_false] at hi
        · rw [hi]
          clear hi i
          refine ⟨by omega, step1 _ _ _ ?_⟩
          intro w4 k4
          refine ⟨?_, ?_⟩
          · have e := hseq
            simpa only [Array.setIfInBounds_comm _ _ (show m + 1 ≠ m by omega), Array.setIfInBounds_comm _ _ (show m + 2 ≠ m by omega), Array.setIfInBounds_comm _ _ (show m + 2 ≠ m + 1 by omega)] using e
          · have e := hF w1.heap.size w3.heap.size w2.heap.size w4 (kp_trans (kp_alloc (kp_trans (kp_alloc (kp_trans (kp_alloc k1 _) k2) _) k3) _) k4) k1.size ((((((Blk.new w1 _ _).kept k2 (by simp)).alloc _).kept k3 (by simp)).alloc _).kept k4 (by simp)) (kp_trans (kp_alloc (kp_trans (kp_alloc k1 _) k2) _) k3).size ((Blk.new w3 _ _).kept k4 (by simp)) (kp_trans (kp_alloc k1 _) k2).size ((((Blk.new w2 _ _).kept k3 (by simp)).alloc _).kept k4 (by simp)) (by have q2 := k2.size; have q3 := k3.size; simp at *; omega) (by have q2 := k2.size; have q3 := k3.size; simp at *; omega) (by have q2 := k2.size; have q3 := k3.size; simp at *; omega)
            rw [← Act.put_comm _ _ _ hd12]
            exact e
    · rw [hi]
      clear hi i
      refine ⟨by omega, step1 _ _ _ ?_⟩
      intro w2 k2
      rw [r_1]
      refine ⟨by simp, fun i hi => ?_⟩
      simp only [List.mem_cons, List.not_mem_nil, or_false] at hi
      rcases hi with hi | hi
      · rw [hi]
        clear hi i
        refine ⟨by omega, step0 _ _ _ ?_⟩
        intro w3 k3
        have rr := r_01
        rw [Array.setIfInBounds_comm _ _ (show m ≠ m + 1 by omega)] at rr
        rw [rr]
        refine ⟨by simp, fun i hi => ?_⟩
        simp only [List.mem_cons, List.not_mem_nil, or_false] at hi
        · rw [hi]
          clear hi i
          refine ⟨by omega, step2 _ _ _ ?_⟩
          intro w4 k4
          refine ⟨?_, ?_⟩
          · have e := hseq
            simpa only [Array.setIfInBounds_comm _ _ (show m + 1 ≠ m by omega), Array.setIfInBounds_comm _ _ (show m + 2 ≠ m by omega), Array.setIfInBounds_comm _ _ (show m + 2 ≠ m + 1 by omega)] using e
          · have e := hF w2.heap.size w1.heap.size w3.heap.size w4 (kp_trans (kp_alloc (kp_trans (kp_alloc (kp_trans (kp_alloc k1 _) k2) _) k3) _) k4) (kp_trans (kp_alloc k1 _) k2).size ((((Blk.new w2 _ _).kept k3 (by simp)).alloc _).kept k4 (by simp)) k1.size ((((((Blk.new w1 _ _).kept k2 (by simp)).alloc _).kept k3 (by simp)).alloc _).kept k4 (by simp)) (kp_trans (kp_alloc (kp_trans (kp_alloc k1 _) k2) _) k3).size ((Blk.new w3 _ _).kept k4 (by simp)) (by have q2 := k2.size; have q3 := k3.size; simp at *; omega) (by have q2 := k2.size; have q3 := k3.size; simp at *; omega) (by have q2 := k2.size; have q3 := k3.size; simp at *; omega)
            rw [← Act.put_comm _ _ _ hd01]
            exact e
      · rw [hi]
        clear hi i
        refine ⟨by omega, step2 _ _ _ ?_⟩
        intro w3 k3
        rw [r_12]
        refine ⟨by simp, fun i hi => ?_⟩
        simp only [List.mem_cons, List.not_mem_nil, or_false] at hi
        · rw [hi]
          clear hi i
          refine ⟨by omega, step0 _ _ _ ?_⟩
          intro w4 k4
          refine ⟨?_, ?_⟩
          · have e := hseq
            simpa only [Array.setIfInBounds_comm _ _ (show m + 1 ≠ m by omega), Array.setIfInBounds_comm _ _ (show m + 2 ≠ m by omega), Array.setIfInBounds_comm _ _ (show m + 2 ≠ m + 1 by omega)] using e
          · have e := hF w3.heap.size w1.heap.size w2.heap.size w4 (kp_trans (kp_alloc (kp_trans (kp_alloc (kp_trans (kp_alloc k1 _) k2) _) k3) _) k4) (kp_trans (kp_alloc (kp_trans (kp_alloc k1 _) k2) _) k3).size ((Blk.new w3 _ _).kept k4 (by simp)) k1.size ((((((Blk.new w1 _ _).kept k2 (by simp)).alloc _).kept k3 (by simp)).alloc _).kept k4 (by simp)) (kp_trans (kp_alloc k1 _) k2).size ((((Blk.new w2 _ _).kept k3 (by simp)).alloc _).kept k4 (by simp)) (by have q2 := k2.size; have q3 := k3.size; simp at *; omega) (by have q2 := k2.size; have q3 := k3.size; simp at *; omega) (by have q2 := k2.size; have q3 := k3.size; simp at *; omega)
            rw [← Act.put_comm _ _ _ hd02, ← Act.put_comm _ _ _ hd01]
            exact e
    · rw [hi]
      clear hi i
      refine ⟨by omega, step2 _ _ _ ?_⟩
      intro w2 k2
      rw [r_2]
      refine ⟨by simp, fun i hi => ?_⟩
      simp only [List.mem_cons, List.not_mem_nil, or_false] at hi
      rcases hi with hi | hi
      · rw [hi]
        clear hi i
        refine ⟨by omega, step0 _ _ _ ?_⟩
        intro w3 k3
        have rr := r_02
        rw [Array.setIfInBounds_comm _ _ (show m ≠ m + 2 by omega)] at rr
        rw [rr]
        refine ⟨by simp, fun i hi => ?_⟩
        simp only [List.mem_cons, List.not_mem_nil, or_false] at hi
        · rw [hi]
          clear hi i
          refine ⟨by omega, step1 _ _ _ ?_⟩
          intro w4 k4
          refine ⟨?_, ?_⟩
          · have e := hseq
            simpa only [Array.setIfInBounds_comm _ _ (show m + 1 ≠ m by omega), Array.setIfInBounds_comm _ _ (show m + 2 ≠ m by omega), Array.setIfInBounds_comm _ _ (show m + 2 ≠ m + 1 by omega)] using e
          · have e := hF w2.heap.size w3.heap.size w1.heap.size w4 (kp_trans (kp_alloc (kp_trans (kp_alloc (kp_trans (kp_alloc k1 _) k2) _) k3) _) k4) (kp_trans (kp_alloc k1 _) k2).size ((((Blk.new w2 _ _).kept k3 (by simp)).alloc _).kept k4 (by simp)) (kp_trans (kp_alloc (kp_trans (kp_alloc k1 _) k2) _) k3).size ((Blk.new w3 _ _).kept k4 (by simp)) k1.size ((((((Blk.new w1 _ _).kept k2 (by simp)).alloc _).kept k3 (by simp)).alloc _).kept k4 (by simp)) (by have q2 := k2.size; have q3 := k3.size; simp at *; omega) (by have q2 := k2.size; have q3 := k3.size; simp at *; omega) (by have q2 := k2.size; have q3 := k3.size; simp at *; omega)
            rw [← Act.put_comm _ _ _ hd02, ← Act.put_comm _ _ _ hd12]
            exact e
      · rw [hi]
        clear hi i
        refine ⟨by omega, step1 _ _ _ ?_⟩
        intro w3 k3
        have rr := r_12
        rw [Array.setIfInBounds_comm _ _ (show m + 1 ≠ m + 2 by omega)] at rr
        rw [rr]
        refine ⟨by simp, fun i hi => ?_⟩
        simp only [List.mem_cons, List.not_mem_nil, or_false] at hi
        · rw [hi]
          clear hi i
          refine ⟨by omega, step0 _ _ _ ?_⟩
          intro w4 k4
          refine ⟨?_, ?_⟩
          · have e := hseq
            simpa only [Array.setIfInBounds_comm _ _ (show m + 1 ≠ m by omega), Array.setIfInBounds_comm _ _ (show m + 2 ≠ m by omega), Array.setIfInBounds_comm _ _ (show m + 2 ≠ m + 1 by omega)] using e
          · have e := hF w3.heap.size w2.heap.size w1.heap.size w4 (kp_trans (kp_alloc (kp_trans (kp_alloc (kp_trans (kp_alloc k1 _) k2) _) k3) _) k4) (kp_trans (kp_alloc (kp_trans (kp_alloc k1 _) k2) _) k3).size ((Blk.new w3 _ _).kept k4 (by simp)) (kp_trans (kp_alloc k1 _) k2).size ((((Blk.new w2 _ _).kept k3 (by simp)).alloc _).kept k4 (by simp)) k1.size ((((((Blk.new w1 _ _).kept k2 (by simp)).alloc _).kept k3 (by simp)).alloc _).kept k4 (by simp)) (by have q2 := k2.size; have q3 := k3.size; simp at *; omega) (by have q2 := k2.size; have q3 := k3.size; simp at *; omega) (by have q2 := k2.size; have q3 := k3.size; simp at *; omega)
            rw [← Act.put_comm _ _ _ hd12, ← Act.put_comm _ _ _ hd02, ← Act.put_comm _ _ _ hd01]
            exact e
end
end Go.Proofs.Ytndkhbilefljnaa

