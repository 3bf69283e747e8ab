/- A reckoning of code by values known in part: what the words mean in a world. -/
import Derived.Test.YtefikodgmhlfnaaYa
import Derived.Deep.MidRow
import Derived.Laws.Small
set_option linter.unusedSimpArgs false
set_option linter.unusedVariables false
namespace Go.Sym


structure Rho where
  β : Nat → Nat
  γ : Nat → Nat
  al : Nat → Prop
  o : Nat → Nat
def SlAt (ρ : Rho) (id sz r c : Nat) : Option Addr → Prop
  | none => c = 0
  | some a => c = 0 ∨ (a = ⟨ρ.β id, ρ.o id + r * sz, none⟩ ∧ (r + c) * sz ≤ ρ.γ id)
def fnV (f : FuncId) : Bool → List Value → Value
  | true, .tuple a :: vs => .func (.func f) a vs.toArray
  | _, vs => .func (.func f) #[] vs.toArray
theorem fnV_func (f : FuncId) (b : Bool) (vs : List Value) : ∃ x y, fnV f b vs = .func (.func f) x y := by
  unfold fnV
  split
  · exact ⟨_, _, rfl⟩
  · exact ⟨_, _, rfl⟩
mutual
def VR (ρ : Rho) : AV → Value → Prop
  | .any, _ => True
  | .int k e lo hi, v => v = .int k e.den ∧ lo ≤ e.den ∧ e.den ≤ hi
  | .bool b, v => v = .bool b.den
  | .ptr id sz row fld, v => ρ.al id ∧ 0 ≤ row.den ∧ v = .pointer (some ⟨ρ.β id, ρ.o id + (row.den.toNat * sz + fld), none⟩)
  | .sl id sz row len hi, v => ρ.al id ∧ 0 ≤ row.den ∧ 0 ≤ len.den ∧ len.den ≤ hi ∧ ∃ a c, v = .slice a len.den.toNat c ∧ len.den.toNat ≤ c ∧ c ≤ maxLen ∧ SlAt ρ id sz row.den.toNat c a
  | .agg l, v => ∃ vs : List Value, v = .agg vs.toArray ∧ VRs ρ l vs
  | .tup l, v => ∃ vs : List Value, v = .tuple vs.toArray ∧ VRs ρ l vs
  | .fn f l, v => ∃ vs : List Value, v = fnV f (AV.bnd l) vs ∧ VRs ρ l vs
  | .raw x, v => v = x
def VRs (ρ : Rho) : List AV → List Value → Prop
  | [], vs => vs = []
  | a :: l, vs => ∃ v ws, vs = v :: ws ∧ VR ρ a v ∧ VRs ρ l ws
end
/-- ρ' knows all that ρ knows, but for the block x. -/
structure Rho.le (ρ ρ' : Rho) (x : Option Nat) : Prop where
  al : ∀ id, ρ.al id → ρ'.al id
  β : ∀ id, ρ.al id → some id ≠ x → ρ'.β id = ρ.β id
  γ : ∀ id, ρ.al id → some id ≠ x → ρ'.γ id = ρ.γ id
  o : ∀ id, ρ.al id → some id ≠ x → ρ'.o id = ρ.o id
theorem Rho.le_refl (ρ : Rho) (x : Option Nat) : ρ.le ρ x := ⟨fun _ h => h, fun _ _ _ => rfl, fun _ _ _ => rfl, fun _ _ _ => rfl⟩

mutual
theorem VR.le {ρ ρ' : Rho} {x : Option Nat} (h : ρ.le ρ' x) : ∀ (a : AV) (v : Value), (∀ id, x = some id → a.names id = false) → VR ρ a v → VR ρ' a v
  | .any, _, _, _ => trivial
  | .int .., _, _, hv => hv
  | .bool _, _, _, hv => hv
  | .ptr id sz row fld, v, hn, ⟨h1, h2, h3⟩ => by
    have hx : some id ≠ x := fun e => by have := hn id e.symm; simp [AV.names] at this
    exact ⟨h.al _ h1, h2, by rw [h.β _ h1 hx, h.o _ h1 hx]; exact h3⟩
  | .sl id sz row len hi, v, hn, ⟨h1, h2, h3, h4, a, c, h5, h6, h7, h8⟩ => by
    have hx : some id ≠ x := fun e => by have := hn id e.symm; simp [AV.names] at this
    refine ⟨h.al _ h1, h2, h3, h4, a, c, h5, h6, h7, ?_⟩
    cases a with
    | none => exact h8
    | some a => unfold SlAt at h8 ⊢; rw [h.β _ h1 hx, h.γ _ h1 hx, h.o _ h1 hx]; exact h8
  | .agg l, v, hn, ⟨vs, h1, h2⟩ => ⟨vs, h1, VRs.le h l vs (fun id e => by simpa [AV.names] using hn id e) h2⟩
  | .tup l, v, hn, ⟨vs, h1, h2⟩ => ⟨vs, h1, VRs.le h l vs (fun id e => by simpa [AV.names] using hn id e) h2⟩
  | .fn _ l, v, hn, ⟨vs, h1, h2⟩ => ⟨vs, h1, VRs.le h l vs (fun id e => by simpa [AV.names] using hn id e) h2⟩
  | .raw _, _, _, hv => hv
theorem VRs.le {ρ ρ' : Rho} {x : Option Nat} (h : ρ.le ρ' x) : ∀ (l : List AV) (vs : List Value), (∀ id, x = some id → AV.namesL id l = false) → VRs ρ l vs → VRs ρ' l vs
  | [], _, _, hv => hv
  | a :: l, vs, hn, ⟨v, ws, e, h1, h2⟩ => by
    have hn' : ∀ id, x = some id → a.names id = false ∧ AV.namesL id l = false := fun id e => by simpa [AV.namesL] using hn id e
    exact ⟨v, ws, e, VR.le h a v (fun id e => (hn' id e).1) h1, VRs.le h l ws (fun id e => (hn' id e).2) h2⟩
end
theorem VR.mono {ρ ρ' : Rho} (h : ρ.le ρ' none) {a : AV} {v : Value} (hv : VR ρ a v) : VR ρ' a v := VR.le h a v (fun _ e => by cases e) hv
theorem VRs.mono {ρ ρ' : Rho} (h : ρ.le ρ' none) {l : List AV} {vs : List Value} (hv : VRs ρ l vs) : VRs ρ' l vs := VRs.le h l vs (fun _ e => by cases e) hv
theorem VR.forget {ρ ρ' : Rho} {id : Nat} (h : ρ.le ρ' (some id)) {a : AV} {v : Value} (hv : VR ρ a v) : VR ρ' (a.forget id) v := by
  unfold AV.forget
  cases hn : a.names id with
  | true => exact trivial
  | false => simp only [Bool.false_eq_true, if_false]; exact VR.le h a v (fun _ e => by cases e; exact hn) hv
theorem VRs.forget {ρ ρ' : Rho} {id : Nat} (h : ρ.le ρ' (some id)) : ∀ {l : List AV} {vs : List Value}, VRs ρ l vs → VRs ρ' (l.map (·.forget id)) vs
  | [], _, hv => hv
  | _ :: _, _, ⟨v, ws, e, h1, h2⟩ => ⟨v, ws, e, VR.forget h h1, VRs.forget h h2⟩
theorem VRs.length {ρ : Rho} : ∀ {l : List AV} {vs : List Value}, VRs ρ l vs → vs.length = l.length
  | [], _, h => by subst h; rfl
  | _ :: _, _, ⟨v, ws, e, _, h2⟩ => by subst e; simp [VRs.length h2]
theorem VRs.get {ρ : Rho} : ∀ {l : List AV} {vs : List Value}, VRs ρ l vs → ∀ (i : Nat) (a : AV), l[i]? = some a → ∃ v, vs[i]? = some v ∧ VR ρ a v
  | [], _, _, _, _, h => by cases h
  | _ :: _, _, ⟨v, ws, e, h1, _⟩, 0, a, h => by subst e; cases h; exact ⟨v, rfl, h1⟩
  | _ :: _, _, ⟨v, ws, e, _, h2⟩, i + 1, a, h => by subst e; simpa using VRs.get h2 i a (by simpa using h)
theorem VRs.append {ρ : Rho} : ∀ {l m : List AV} {vs us : List Value}, VRs ρ l vs → VRs ρ m us → VRs ρ (l ++ m) (vs ++ us)
  | [], _, _, _, h, k => by subst h; exact k
  | _ :: _, _, _, _, ⟨v, ws, e, h1, h2⟩, k => by subst e; exact ⟨v, ws ++ _, rfl, h1, VRs.append h2 k⟩
theorem VRs.take {ρ : Rho} : ∀ (n : Nat) {l : List AV} {vs : List Value}, VRs ρ l vs → VRs ρ (l.take n) (vs.take n)
  | 0, _, _, _ => by simp [VRs]
  | n + 1, [], _, h => by subst h; simp [VRs]
  | n + 1, _ :: _, _, ⟨v, ws, e, h1, h2⟩ => by subst e; exact ⟨v, ws.take n, by simp, h1, VRs.take n h2⟩
theorem VRs.drop {ρ : Rho} : ∀ (n : Nat) {l : List AV} {vs : List Value}, VRs ρ l vs → VRs ρ (l.drop n) (vs.drop n)
  | 0, _, _, h => h
  | n + 1, [], _, h => by subst h; simp [VRs]
  | n + 1, _ :: _, _, ⟨v, ws, e, h1, h2⟩ => by subst e; exact VRs.drop n h2
theorem VRs.map {ρ : Rho} {α : Type} (f : α → AV) (g : α → Value) : ∀ (l : List α), (∀ x ∈ l, VR ρ (f x) (g x)) → VRs ρ (l.map f) (l.map g)
  | [], _ => rfl
  | a :: l, h => ⟨g a, l.map g, rfl, h a (by simp), VRs.map f g l fun x hx => h x (by simp [hx])⟩
theorem VR.ofCell {ρ : Rho} (v : Value) : VR ρ (AV.ofCell v) v := by
  cases v <;> simp [AV.ofCell, VR, E.den, B.den]
theorem VR.ofV {ρ : Rho} (v : Value) : VR ρ (AV.ofV v) v := by
  cases v with
  | agg cs =>
    refine ⟨cs.toList, by simp, ?_⟩
    have := VRs.map (ρ := ρ) AV.ofCell id cs.toList (fun x _ => VR.ofCell x)
    simpa using this
  | _ => simp only [AV.ofV]; exact VR.ofCell _
theorem VR.one {ρ : Rho} {a : AV} {v : Value} (h : VR ρ a v) (ha : a.one = true) : v.oneCell' = true := by
  cases a with
  | int k e lo hi => rw [h.1]; rfl
  | bool b => have h : v = .bool b.den := h; rw [h]; rfl
  | ptr id sz row fld => rw [h.2.2]; rfl
  | sl id sz row len hi => obtain ⟨_, _, _, _, a, c, h, _⟩ := h; rw [h]; rfl
  | fn f l => obtain ⟨vs, h, _⟩ := h; obtain ⟨x, y, e⟩ := fnV_func f (AV.bnd l) vs; rw [h, e]; rfl
  | raw x => have h : v = x := h; rw [h]; exact ha
  | _ => simp [AV.one] at ha
theorem VRs.one {ρ : Rho} : ∀ {l : List AV} {vs : List Value}, VRs ρ l vs → l.all AV.one = true → ∀ v ∈ vs, v.oneCell' = true
  | [], _, h, _ => by subst h; simp
  | a :: l, _, ⟨v, ws, e, h1, h2⟩, ha => by
    subst e
    simp only [List.all_cons, Bool.and_eq_true] at ha
    intro u hu
    rcases List.mem_cons.1 hu with rfl | hu
    · exact h1.one ha.1
    · exact VRs.one h2 ha.2 u hu
theorem VR.cells {ρ : Rho} {a : AV} {v : Value} {l : List AV} (h : VR ρ a v) (hc : a.cells? = some l) : VRs ρ l v.cells.toList := by
  have one : ∀ {u : Value}, u.oneCell' = true → u.cells.toList = [u] := by intro u hu; cases u <;> simp [Value.oneCell'] at hu <;> rfl
  cases a with
  | agg l' => cases hc; obtain ⟨vs, rfl, h2⟩ := h; simpa [Value.cells] using h2
  | any => cases hc
  | tup _ => cases hc
  | raw x =>
    simp only [AV.cells?] at hc
    split at hc
    · cases hc; rename_i hx; have h : v = x := h; subst h; rw [one hx]; exact ⟨v, [], rfl, rfl, rfl⟩
    · cases hc
  | int k e lo hi => cases hc; rw [one (h.one rfl)]; exact ⟨v, [], rfl, h, rfl⟩
  | bool b => cases hc; rw [one (h.one rfl)]; exact ⟨v, [], rfl, h, rfl⟩
  | ptr id sz row fld => cases hc; rw [one (h.one rfl)]; exact ⟨v, [], rfl, h, rfl⟩
  | sl id sz row len hi => cases hc; rw [one (h.one rfl)]; exact ⟨v, [], rfl, h, rfl⟩
  | fn f l => cases hc; rw [one (h.one rfl)]; exact ⟨v, [], rfl, h, rfl⟩

def RowR (ρ : Rho) : Con → Nat → List Value → Prop
  | .lit rows, i, vs => ∃ r, rows[i]? = some r ∧ VRs ρ r vs
  | .sym _ f, i, vs => ∀ e : E, e.den = i → VRs ρ (f e) vs
  | .snoc c r, i, vs => (i < c.num.den.toNat → RowR ρ c i vs) ∧ (i = c.num.den.toNat → VRs ρ r vs)
  | .set c e r, i, vs => (i = e.den.toNat → VRs ρ r vs) ∧ (i ≠ e.den.toNat → RowR ρ c i vs)
/-- Block id of the memory as it lies in the world. -/
def MR (ρ : Rho) (w : World) (id : Nat) (b : Blk) : Prop :=
  0 < b.sz ∧ ((ρ.γ id = 0 ∧ b.con.num.den.toNat = 0) ∨
    (ρ.o id = 0 ∧ ∃ cs : Array Value, w.heap[ρ.β id]? = some (.cells cs b.ty (0, 0)) ∧ cs.size = ρ.γ id ∧
      ∀ i, i < b.con.num.den.toNat → (i + 1) * b.sz ≤ cs.size ∧ RowR ρ b.con i ((cs.toList.drop (i * b.sz)).take b.sz)) ∨
    (b.wr = false ∧ ρ.γ id ≠ 0 ∧ ρ.β id < w.heap.size ∧
      ∀ i, i < b.con.num.den.toNat → ∃ vs : List Value, vs.length = b.sz ∧ (∀ j v, vs[j]? = some v → w.cell? ⟨ρ.β id, ρ.o id + (i * b.sz + j), none⟩ = some v) ∧ RowR ρ b.con i vs))
structure FrameW (w0 : World) (F : Nat → Prop) (w : World) : Prop where
  os : w.os = w0.os
  tape : w.tape = w0.tape
  output : w.output = w0.output
  size : w0.heap.size ≤ w.heap.size
  block : ∀ k, k < w0.heap.size → ¬ F k → w.heap[k]? = w0.heap[k]?
  drawn : w0.drawn ≤ w.drawn
def blkOf (mem : List (Option Blk)) (id : Nat) : Option Blk := (mem[id]?).join
structure MRel (w0 : World) (F : Nat → Prop) (ρ : Rho) (mem : List (Option Blk)) (w : World) : Prop where
  blk : ∀ id b, blkOf mem id = some b → ρ.al id ∧ MR ρ w id b
  inj : ∀ i j b c, blkOf mem i = some b → blkOf mem j = some c → i ≠ j → ρ.γ i ≠ 0 → ρ.γ j ≠ 0 → (b.wr = true ∨ c.wr = true) → ρ.β i ≠ ρ.β j
  own : ∀ i b, blkOf mem i = some b → b.wr = true → ρ.γ i ≠ 0 → w0.heap.size ≤ ρ.β i ∨ F (ρ.β i)
  fr : FrameW w0 F w
def TRel (ρ : Rho) (l : List AV) (t : Array Value) : Prop := t.size = l.length ∧ ∀ i v, t[i]? = some v → VR ρ (l.getD i .any) v
structure Rel (w0 : World) (F : Nat → Prop) (ρ : Rho) (s : S) (a : Act) (w : World) : Prop where
  tm : TRel ρ s.tmps a.tmps
  df : a.defers = []
  mem : MRel w0 F ρ s.mem w
  fresh : ∀ id, ρ.al id → id < s.mem.length

theorem RowR.le {ρ ρ' : Rho} (h : ρ.le ρ' none) : ∀ {c : Con} {i : Nat} {vs : List Value}, RowR ρ c i vs → RowR ρ' c i vs
  | .lit _, _, _, ⟨r, h1, h2⟩ => ⟨r, h1, h2.mono h⟩
  | .sym _ _, _, _, h1 => fun e he => (h1 e he).mono h
  | .snoc _ _, _, _, ⟨h1, h2⟩ => ⟨fun e => (h1 e).le h, fun e => (h2 e).mono h⟩
  | .set _ _ _, _, _, ⟨h1, h2⟩ => ⟨fun e => (h1 e).mono h, fun e => (h2 e).le h⟩
theorem Con.num_forget (id : Nat) : ∀ (c : Con), (c.forget id).num = c.num
  | .lit rows => by simp [Con.forget, Con.num, forgetRows]
  | .sym _ _ => rfl
  | .snoc c r => by simp [Con.forget, Con.num, Con.num_forget id c]
  | .set c _ _ => by simp [Con.forget, Con.num, Con.num_forget id c]
theorem RowR.forget {ρ ρ' : Rho} {id : Nat} (h : ρ.le ρ' (some id)) : ∀ {c : Con} {i : Nat} {vs : List Value}, RowR ρ c i vs → RowR ρ' (c.forget id) i vs
  | .lit rows, i, _, ⟨r, h1, h2⟩ => ⟨r.map (·.forget id), by simp [forgetRows, h1], h2.forget h⟩
  | .sym _ _, _, _, h1 => fun e he => (h1 e he).forget h
  | .snoc c _, _, _, ⟨h1, h2⟩ => by
    unfold Con.forget RowR
    rw [Con.num_forget]
    exact ⟨fun e => (h1 e).forget h, fun e => (h2 e).forget h⟩
  | .set _ _ _, _, _, ⟨h1, h2⟩ => ⟨fun e => (h1 e).forget h, fun e => (h2 e).forget h⟩

theorem FrameW.refl (w : World) (F : Nat → Prop) : FrameW w F w := ⟨rfl, rfl, rfl, Nat.le_refl _, fun _ _ _ => rfl, Nat.le_refl _⟩
theorem FrameW.trans {w0 w w' : World} {F G : Nat → Prop} (h : FrameW w0 F w) (k : FrameW w G w') (hG : ∀ i, i < w0.heap.size → G i → F i) : FrameW w0 F w' :=
  ⟨k.os.trans h.os, k.tape.trans h.tape, k.output.trans h.output, Nat.le_trans h.size k.size, fun i hi hF => (k.block i (Nat.lt_of_lt_of_le hi h.size) fun g => hF (hG i hi g)).trans (h.block i hi hF), Nat.le_trans h.drawn k.drawn⟩
theorem MR.kept {ρ ρ' : Rho} {w w' : World} {id : Nat} {b : Blk} (h : MR ρ w id b) (hρ : ρ.le ρ' none) (hal : ρ.al id) (hw : ρ.γ id ≠ 0 → w'.heap[ρ.β id]? = w.heap[ρ.β id]?) : MR ρ' w' id b := by
  obtain ⟨h1, h2⟩ := h
  refine ⟨h1, ?_⟩
  rw [hρ.γ id hal (by simp)]
  rw [hρ.β id hal (by simp)]
  rw [hρ.o id hal (by simp)]
  by_cases hg : ρ.γ id = 0
  · rcases h2 with h2 | ⟨ho, cs, a, b', c⟩ | ⟨_, h3, _⟩
    · exact .inl h2
    · refine .inl ⟨hg, ?_⟩
      rcases Nat.eq_zero_or_pos b.con.num.den.toNat with e | e
      · exact e
      · have := (c 0 e).1
        rw [b', hg] at this
        simp at this
        omega
    · exact absurd hg h3
  · rcases h2 with h2 | ⟨ho, cs, a, b', c⟩ | ⟨h3, h4, h5, h6⟩
    · exact absurd h2.1 hg
    · exact .inr (.inl ⟨ho, cs, (hw hg).trans a, b', fun i hi => ⟨(c i hi).1, (c i hi).2.le hρ⟩⟩)
    · refine .inr (.inr ⟨h3, h4, ?_, fun i hi => ?_⟩)
      · have := hw hg
        rw [Array.getElem?_eq_getElem h5] at this
        exact (Array.getElem?_eq_some_iff.1 this).1
      · obtain ⟨vs, e1, e2, e3⟩ := h6 i hi
        exact ⟨vs, e1, fun j v hv => (World.cell?_of_block (a := ⟨ρ.β id, _, none⟩) (hw hg)).trans (e2 j v hv), e3.le hρ⟩
theorem MR.lt {ρ : Rho} {w : World} {id : Nat} {b : Blk} (h : MR ρ w id b) (hg : ρ.γ id ≠ 0) : ρ.β id < w.heap.size := by
  rcases h.2 with h2 | ⟨_, cs, a, _⟩ | ⟨_, _, h5, _⟩
  · exact absurd h2.1 hg
  · rcases Nat.lt_or_ge (ρ.β id) w.heap.size with hlt | hge
    · exact hlt
    · rw [Array.getElem?_eq_none hge] at a; cases a
  · exact h5
theorem blkOf_setAt (l : List (Option Blk)) (i j : Nat) (x : Option Blk) : blkOf (setAt l i x) j = if j = i then x else blkOf l j := by
  induction l generalizing i j with
  | nil =>
    induction i generalizing j with
    | zero => cases j <;> simp [setAt, blkOf]
    | succ i ih =>
      cases j with
      | zero => simp [setAt, blkOf]
      | succ j => have := ih j; simp [setAt, blkOf] at this ⊢; exact this
  | cons a l ih =>
    cases i with
    | zero => cases j <;> simp [setAt, blkOf]
    | succ i =>
      cases j with
      | zero => simp [setAt, blkOf]
      | succ j => have := ih i j; simp [setAt, blkOf] at this ⊢; exact this
theorem length_setAt {α : Type} (l : List (Option α)) (i : Nat) (x : Option α) : (setAt l i x).length = max l.length (i + 1) := by
  induction l generalizing i with
  | nil =>
    induction i with
    | zero => simp [setAt]
    | succ i ih => simp [setAt, ih]
  | cons a l ih =>
    cases i with
    | zero => simp [setAt]
    | succ i => simp [setAt, ih] <;> omega
/-- A new number is read as a new block. -/
def Rho.with (ρ : Rho) (id b g : Nat) : Rho := ⟨fun i => if i = id then b else ρ.β i, fun i => if i = id then g else ρ.γ i, fun i => ρ.al i ∨ i = id, fun i => if i = id then 0 else ρ.o i⟩
theorem Rho.with_le (ρ : Rho) (id b g : Nat) (x : Option Nat) (h : ¬ ρ.al id ∨ x = some id) : ρ.le (ρ.with id b g) x := by
  refine ⟨fun i hi => .inl hi, fun i hi hx => ?_, fun i hi hx => ?_, fun i hi hx => ?_⟩
  all_goals
    have hne : i ≠ id := by
      rintro rfl
      rcases h with h | h
      · exact h hi
      · exact hx h.symm
    simp [Rho.with, hne]
theorem MRel.alloc {w0 : World} {F : Nat → Prop} {ρ : Rho} {mem : List (Option Blk)} {w w' : World} (h : MRel w0 F ρ mem w) {fresh : Nat} (hf : ¬ ρ.al fresh) (b : Blk) (cs : Array Value)
    (hw : w'.heap = w.heap.push (.cells cs b.ty (0, 0))) (ho : w'.os = w.os) (ht : w'.tape = w.tape) (hu : w'.output = w.output) (hsz : 0 < b.sz)
    (hr : ∀ i, i < b.con.num.den.toNat → (i + 1) * b.sz ≤ cs.size ∧ RowR ρ b.con i ((cs.toList.drop (i * b.sz)).take b.sz)) (hd : w.drawn ≤ w'.drawn := by first | exact Nat.le_refl _ | exact Nat.le_succ _) :
    MRel w0 F (ρ.with fresh w.heap.size cs.size) (setAt mem fresh (some b)) w' := by
  have hle := ρ.with_le fresh w.heap.size cs.size none (.inl hf)
  have hold : ∀ k, k < w.heap.size → w'.heap[k]? = w.heap[k]? := fun k hk => by rw [hw, Array.getElem?_push_lt hk]; simp [hk]
  have e1 : (ρ.with fresh w.heap.size cs.size).β fresh = w.heap.size := by simp [Rho.with]
  have e2 : (ρ.with fresh w.heap.size cs.size).γ fresh = cs.size := by simp [Rho.with]
  have f1 : ∀ i, i ≠ fresh → (ρ.with fresh w.heap.size cs.size).β i = ρ.β i := fun i hi => by simp [Rho.with, hi]
  have f2 : ∀ i, i ≠ fresh → (ρ.with fresh w.heap.size cs.size).γ i = ρ.γ i := fun i hi => by simp [Rho.with, hi]
  refine ⟨fun id c hc => ?_, fun i j c d hc hd hne gi gj hwr => ?_, fun i c hc hwr hg => ?_, ?_⟩
  · rw [blkOf_setAt] at hc
    split at hc
    · rename_i e
      subst e
      cases hc
      exact ⟨.inr rfl, hsz, .inr (.inl ⟨by simp [Rho.with], cs, by rw [e1, hw]; first | done | simp, e2.symm, fun i hi => ⟨(hr i hi).1, (hr i hi).2.le hle⟩⟩)⟩
    · obtain ⟨h1, h2⟩ := h.blk id c hc
      exact ⟨.inl h1, h2.kept hle h1 fun hg => hold _ (h2.lt hg)⟩
  · rw [blkOf_setAt] at hc hd
    by_cases ei : i = fresh
    · subst ei
      have hj : j ≠ i := fun e => hne e.symm
      rw [if_neg hj] at hd
      rw [e1, f1 j hj]
      rw [f2 j hj] at gj
      have := ((h.blk j d hd).2).lt gj
      omega
    · rw [if_neg ei] at hc
      rw [f2 i ei] at gi
      by_cases ej : j = fresh
      · subst ej
        rw [e1, f1 i ei]
        have := ((h.blk i c hc).2).lt gi
        omega
      · rw [if_neg ej] at hd
        rw [f2 j ej] at gj
        rw [f1 i ei, f1 j ej]
        exact h.inj i j c d hc hd hne gi gj hwr
  · rw [blkOf_setAt] at hc
    by_cases ei : i = fresh
    · subst ei
      rw [e1]
      exact .inl h.fr.size
    · rw [if_neg ei] at hc
      rw [f1 i ei]
      rw [f2 i ei] at hg
      exact h.own i c hc hwr hg
  · refine h.fr.trans (G := fun _ => False) ⟨ho, ht, hu, by rw [hw]; simp, fun k hk _ => hold k hk, hd⟩ (fun _ _ e => e.elim)


theorem mergeCell_ok {ρ : Rho} {p : Unit → Bool} {a b c : AV} {v : Value} (h : mergeCell p a b = some c) : (p () = true → VR ρ a v → VR ρ c v) ∧ (p () = false → VR ρ b v → VR ρ c v) := by
  unfold mergeCell at h
  split at h
  · split at h
    · rename_i e
      subst e
      cases h
      refine ⟨fun hp hv => ?_, fun hp hv => ?_⟩
      · obtain ⟨h1, h2, h3⟩ := hv
        exact ⟨by rw [h1]; simp [E.den, hp], by simp only [E.den, hp, if_true]; omega, by simp only [E.den, hp, if_true]; omega⟩
      · obtain ⟨h1, h2, h3⟩ := hv
        exact ⟨by rw [h1]; simp [E.den, hp], by simp only [E.den, hp, Bool.false_eq_true, if_false]; omega, by simp only [E.den, hp, Bool.false_eq_true, if_false]; omega⟩
    · cases h
  · cases h
    refine ⟨fun hp hv => ?_, fun hp hv => ?_⟩
    · have hv : v = .bool _ := hv
      show v = .bool _
      rw [hv]; simp [B.den, hp]
    · have hv : v = .bool _ := hv
      show v = .bool _
      rw [hv]; simp [B.den, hp]
  · cases h
theorem mergeRow_ok {ρ : Rho} {p : Unit → Bool} : ∀ (l m r : List AV) (vs : List Value), mergeRow p l m = some r → (p () = true → VRs ρ l vs → VRs ρ r vs) ∧ (p () = false → VRs ρ m vs → VRs ρ r vs)
  | [], [], r, vs, h => by cases h; exact ⟨fun _ h => h, fun _ h => h⟩
  | a :: l, b :: m, r, vs, h => by
    simp only [mergeRow] at h
    split at h
    · rename_i c r' hc hr
      cases h
      refine ⟨fun hp hv => ?_, fun hp hv => ?_⟩
      · obtain ⟨v, ws, e, h1, h2⟩ := hv
        exact ⟨v, ws, e, (mergeCell_ok hc).1 hp h1, (mergeRow_ok l m r' ws hr).1 hp h2⟩
      · obtain ⟨v, ws, e, h1, h2⟩ := hv
        exact ⟨v, ws, e, (mergeCell_ok hc).2 hp h1, (mergeRow_ok l m r' ws hr).2 hp h2⟩
    · cases h
  | [], _ :: _, r, vs, h => by cases h
  | _ :: _, [], r, vs, h => by cases h
theorem row_of {ρ : Rho} : ∀ {c : Con} {e : E} {r : List AV} {vs : List Value}, c.row? e = some r → 0 ≤ e.den → e.den < c.num.den → RowR ρ c e.den.toNat vs → VRs ρ r vs
  | .lit rows, e, r, vs, h, h0, _, hr => by
    cases e <;> simp only [Con.row?] at h <;> try cases h
    rename_i n
    split at h
    · obtain ⟨r', h1, h2⟩ := hr
      simp only [E.den] at h1
      rw [h] at h1
      cases h1
      exact h2
    · cases h
  | .sym n f, e, r, vs, h, h0, _, hr => by
    simp only [Con.row?] at h
    cases h
    exact hr e (by omega)
  | .snoc c r', e, r, vs, h, h0, h1, hr => by
    have gen : (match c.row? e with
      | some q => mergeRow (fun _ => decide (e.den < c.num.den)) q r'
      | none => none) = some r → VRs ρ r vs := by
      intro hg
      split at hg
      · rename_i q hq
        have hk := mergeRow_ok (ρ := ρ) _ _ _ vs hg
        simp only [Con.num, E.den_mkAdd, E.den] at h1
        by_cases hlt : e.den < c.num.den
        · exact hk.1 (by simpa using hlt) (row_of hq h0 hlt (hr.1 (by omega)))
        · exact hk.2 (by simpa using hlt) (hr.2 (by omega))
      · cases hg
    cases e <;> simp only [Con.row?] at h <;> first | exact gen h | skip
    rename_i n
    split at h
    · rename_i m hm
      obtain ⟨ha, hb⟩ := hr
      rw [hm] at ha hb
      simp only [E.den] at ha hb h0
      split at h
      · exact row_of (e := .lit n) h h0 (by rw [hm]; simpa [E.den]) (ha (by omega))
      · split at h
        · cases h; exact hb (by omega)
        · cases h
    · cases h
  | .set c e' r', e, r, vs, h, h0, h1, hr => by
    have gen : (match c.row? e with
      | some r0 => mergeRow (fun _ => decide (e.den.toNat = e'.den.toNat)) r' r0
      | none => none) = some r → VRs ρ r vs := by
      intro hg
      split at hg
      · rename_i r0 hr0
        by_cases he : e.den.toNat = e'.den.toNat
        · exact (mergeRow_ok (p := fun _ => decide (e.den.toNat = e'.den.toNat)) r' r0 r vs hg).1 (decide_eq_true he) (hr.1 he)
        · exact (mergeRow_ok (p := fun _ => decide (e.den.toNat = e'.den.toNat)) r' r0 r vs hg).2 (decide_eq_false he) (row_of hr0 h0 h1 (hr.2 he))
      · cases hg
    cases e <;> cases e' <;> simp only [Con.row?] at h <;> first | exact gen h | skip
    rename_i n m
    obtain ⟨ha, hb⟩ := hr
    simp only [E.den] at ha hb h0
    split at h
    · cases h; exact ha (by omega)
    · split at h
      · exact row_of (e := .lit n) h h0 h1 (hb (by omega))
      · cases h

theorem RowR.put_same {ρ : Rho} {c : Con} {e : E} {row : List AV} {vs : List Value} (h0 : 0 ≤ e.den) (h1 : e.den < c.num.den) (hv : VRs ρ row vs) : RowR ρ (c.put e row) e.den.toNat vs := by
  unfold Con.put
  split
  · rename_i rows n
    simp only [E.den, Con.num] at h0 h1 ⊢
    exact ⟨row, by rw [List.getElem?_set_self (by omega)], hv⟩
  · exact ⟨fun _ => hv, fun h => absurd rfl h⟩
theorem RowR.put_other {ρ : Rho} {c : Con} {e : E} {row : List AV} {i : Nat} {vs : List Value} (h0 : 0 ≤ e.den) (hi : i ≠ e.den.toNat) (hr : RowR ρ c i vs) : RowR ρ (c.put e row) i vs := by
  unfold Con.put
  split
  · rename_i rows n
    simp only [E.den] at hi
    obtain ⟨r, h1, h2⟩ := hr
    exact ⟨r, by rw [List.getElem?_set_ne (fun e => hi e.symm)]; exact h1, h2⟩
  · exact ⟨fun h => absurd h hi, fun _ => hr⟩
theorem Con.num_put (c : Con) (e : E) (row : List AV) : (c.put e row).num = c.num := by
  unfold Con.put
  split
  · simp [Con.num]
  · rfl

/-- What a block gives at a row. -/
theorem MR.read {ρ : Rho} {w : World} {id : Nat} {b : Blk} (h : MR ρ w id b) {e : E} {r : List AV} (hr : b.con.row? e = some r) (h0 : 0 ≤ e.den) (h1 : e.den < b.con.num.den) :
    ∃ vs : List Value, vs.length = b.sz ∧ (∀ j v, vs[j]? = some v → w.cell? ⟨ρ.β id, ρ.o id + (e.den.toNat * b.sz + j), none⟩ = some v) ∧ VRs ρ r vs := by
  rcases h.2 with h2 | ⟨ho, cs, a, b', c⟩ | ⟨_, _, _, c⟩
  · omega
  · obtain ⟨c1, c2⟩ := c e.den.toNat (by omega)
    have e1 : (e.den.toNat + 1) * b.sz = e.den.toNat * b.sz + b.sz := Nat.succ_mul _ _
    refine ⟨_, by simp; omega, fun j v hj => ?_, row_of hr h0 h1 c2⟩
    rw [cell_of_row w _ _ cs _ _ a, ho, Nat.zero_add]
    rw [List.getElem?_take] at hj
    split at hj
    · rw [List.getElem?_drop] at hj; simpa using hj
    · cases hj
  · obtain ⟨vs, c1, c2, c3⟩ := c e.den.toNat (by omega)
    exact ⟨vs, c1, c2, row_of hr h0 h1 c3⟩

theorem fits_sz {P : Program} {t : TypeId} {i : TI} (h : i.ok P t) : (P.info? t).map (·.size) = some i.sz := by
  obtain ⟨f, z, h1, h2, _⟩ := h.info
  rw [h1]; simp [h2]

theorem loadA_sound {P : Program} {τ : Tab} (hτ : ∀ t i, τ t = some i → i.ok P t) {w0 : World} {F : Nat → Prop} {ρ : Rho} {s : S} {w : World} (hm : MRel w0 F ρ s.mem w)
    {t : TypeId} {a : AV} {x : Value} (hx : VR ρ a x) {v : AV} {upd fg need touch} (h : loadA τ s t a = .val v upd fg need touch) (hn : need.den = true) :
    upd = [] ∧ fg = none ∧ ∃ u, (Instr.loadAt t x).run P w = .ok u w ∧ VR ρ v u := by
  unfold loadA at h
  split at h
  · rename_i id sz row fld i hi
    obtain ⟨hal, h0, rfl⟩ := hx
    split at h
    · rename_i b hb
      obtain ⟨_, hM⟩ := hm.blk id b hb
      split at h
      · rename_i hsz
        subst hsz
        split at h
        · rename_i r hr
          dsimp only at h
          split at h
          · rename_i hc
            simp only [Bool.and_eq_true, decide_eq_true_eq, beq_iff_eq] at hc
            obtain ⟨hfit, hlen⟩ := hc
            have hok := hτ t i hi
            have key : need = inRow b.con row → ∃ vs : List Value, vs.length = b.sz ∧ (∀ j v, vs[j]? = some v → w.cell? ⟨ρ.β id, ρ.o id + (row.den.toNat * b.sz + j), none⟩ = some v) ∧ VRs ρ r vs := by
              intro e
              rw [e] at hn
              unfold inRow at hn
              rw [B.den_mkLt] at hn
              exact hM.read hr h0 (by simpa using hn)
            split at h
            · rename_i hagg
              cases h
              obtain ⟨vs, hl0, hc, hv⟩ := key rfl
              have hv := (hv.drop fld).take i.sz
              refine ⟨rfl, rfl, .agg ((vs.drop fld).take i.sz).toArray, ?_, ⟨_, rfl, hv⟩⟩
              obtain ⟨d, hd, hf⟩ := hok.und
              have hrow : d.isRow = true := by
                have := hok.ag
                rw [hagg] at this
                cases hdd : i.d <;> rw [hdd] at this hf <;> simp [TD.fits] at this hf
                · rw [hf]
                · obtain ⟨gs, rfl, _⟩ := hf; rfl
              have hl : i.sz = ((vs.drop fld).take i.sz).length := by simp; omega
              refine run_loadAt_mid w _ _ t _ d (fun j u hj => ?_) hd hrow ?_
              · rw [List.getElem?_take] at hj
                split at hj
                · rw [List.getElem?_drop] at hj
                  have := hc (fld + j) u hj
                  rw [Nat.add_assoc, Nat.add_assoc]
                  exact this
                · cases hj
              · rw [fits_sz hok]; exact congrArg some hl
            · rename_i hagg
              have hagg : i.agg = false := by simpa using hagg
              split at h
              · rename_i c hcs1
                cases h
                obtain ⟨vs, hl0, hc, hv⟩ := key rfl
                have hv := (hv.drop fld).take i.sz
                rw [hcs1] at hv
                obtain ⟨u, ws, e1, hu, e2⟩ := hv
                have e2 : ws = [] := e2
                subst e2
                refine ⟨rfl, rfl, u, ?_, hu⟩
                obtain ⟨d, hd, hf⟩ := hok.und
                have hag := hok.ag
                rw [hagg] at hag
                have hna : (isAgg t).run P w = .ok false w := by
                  unfold isAgg
                  rw [Sem.run_bind, run_underlying hd w]
                  cases hdd : i.d <;> rw [hdd] at hag hf <;> simp [TD.fits] at hag hf
                  · rw [hf]; rfl
                  · rw [hf]; rfl
                  · cases d <;> simp_all
                have hcell : w.cell? ⟨ρ.β id, ρ.o id + (row.den.toNat * b.sz + fld), none⟩ = some u := by
                  have h3 : ((vs.drop fld).take i.sz)[0]? = some u := by rw [e1]; rfl
                  rw [List.getElem?_take] at h3
                  split at h3
                  · rw [List.getElem?_drop] at h3; exact hc fld u h3
                  · cases h3
                simp [Instr.loadAt, Instr.sureAddr, loadVar, hna, hcell]
              · cases h
          · cases h
        · cases h
      · cases h
    · cases h
  · cases h



def over (l : List Value) (o : Nat) (vs : List Value) : List Value := l.take o ++ vs ++ l.drop (o + vs.length)
theorem over_get (l : List Value) (o : Nat) (vs : List Value) (h : o + vs.length ≤ l.length) (j : Nat) : (over l o vs)[j]? = if o ≤ j ∧ j < o + vs.length then vs[j - o]? else l[j]? := by
  unfold over
  simp only [List.getElem?_append, List.length_append, List.length_take, List.getElem?_take, List.getElem?_drop]
  have e : min o l.length = o := by omega
  rw [e]
  by_cases h1 : j < o
  · rw [if_pos (by omega), if_pos h1, if_pos h1, if_neg (by omega)]
  · by_cases h2 : j < o + vs.length
    · rw [if_pos h2, if_neg h1, if_pos (by omega)]
    · rw [if_neg h2, if_neg (by omega)]
      congr 1
      omega
theorem length_over (l : List Value) (o : Nat) (vs : List Value) (h : o + vs.length ≤ l.length) : (over l o vs).length = l.length := by
  unfold over; simp; omega
theorem over_row_other (l : List Value) (r fld sz i : Nat) (vs : List Value) (hf : fld + vs.length ≤ sz) (h : (r + 1) * sz ≤ l.length) (hi : i ≠ r) :
    ((over l (r * sz + fld) vs).drop (i * sz)).take sz = (l.drop (i * sz)).take sz := by
  have e1 : (r + 1) * sz = r * sz + sz := Nat.succ_mul _ _
  apply List.ext_getElem?
  intro j
  simp only [List.getElem?_take, List.getElem?_drop]
  split
  · rename_i hj
    rw [over_get _ _ _ (by omega), if_neg]
    rintro ⟨h1, h2⟩
    rcases Nat.lt_or_gt_of_ne hi with hlt | hgt
    · have e2 : (i + 1) * sz ≤ r * sz := Nat.mul_le_mul_right _ hlt
      have e3 : (i + 1) * sz = i * sz + sz := Nat.succ_mul _ _
      omega
    · have e2 : (r + 1) * sz ≤ i * sz := Nat.mul_le_mul_right _ hgt
      omega
  · rfl
theorem over_row_same (l : List Value) (r fld sz : Nat) (vs : List Value) (hf : fld + vs.length ≤ sz) (h : (r + 1) * sz ≤ l.length) :
    ((over l (r * sz + fld) vs).drop (r * sz)).take sz = over ((l.drop (r * sz)).take sz) fld vs := by
  have e1 : (r + 1) * sz = r * sz + sz := Nat.succ_mul _ _
  apply List.ext_getElem?
  intro j
  rw [over_get _ _ _ (by simp; omega)]
  simp only [List.getElem?_take, List.getElem?_drop]
  split
  · rename_i hj
    rw [over_get _ _ _ (by omega)]
    by_cases hc : fld ≤ j ∧ j < fld + vs.length
    · rw [if_pos (by omega), if_pos hc]; congr 1; omega
    · rw [if_neg (by omega), if_neg hc]
  · rw [if_neg (by omega)]
theorem VRs.over {ρ : Rho} {row cells : List AV} {l vs : List Value} (fld : Nat) (h : VRs ρ row l) (k : VRs ρ cells vs) : VRs ρ (overlay row fld cells) (over l fld vs) := by
  unfold overlay Sym.over
  rw [k.length]
  exact ((h.take fld).append k).append (h.drop _)

theorem MRel.write {w0 : World} {F : Nat → Prop} {ρ : Rho} {mem : List (Option Blk)} {w : World} (h : MRel w0 F ρ mem w) {id : Nat} {b b' : Blk} (hb : blkOf mem id = some b) (hwr : b.wr = true)
    {cs cs' : Array Value} (ho : ρ.o id = 0) (hg : w.heap[ρ.β id]? = some (.cells cs b.ty (0, 0))) (hcs : cs.size = ρ.γ id) (hs : cs'.size = cs.size) (ht : b'.ty = b.ty) (hw' : b'.wr = b.wr) (hsz : 0 < b'.sz) (hpos : 0 < cs.size)
    (hr : ∀ i, i < b'.con.num.den.toNat → (i + 1) * b'.sz ≤ cs'.size ∧ RowR ρ b'.con i ((cs'.toList.drop (i * b'.sz)).take b'.sz)) :
    MRel w0 F ρ (setAt mem id (some b')) (w.setRow (ρ.β id) cs') := by
  have hgam : ρ.γ id ≠ 0 := by omega
  have hother : ∀ k, k ≠ ρ.β id → (w.setRow (ρ.β id) cs').heap[k]? = w.heap[k]? := fun k hk => setRow_other w (ρ.β id) k _ hk
  refine ⟨fun i c hc => ?_, fun i j c d hc hd hne gi gj hwr' => ?_, fun i c hc hwr' hgi => ?_, ?_⟩
  · rw [blkOf_setAt] at hc
    split at hc
    · rename_i e
      subst e
      cases hc
      exact ⟨(h.blk i b hb).1, hsz, .inr (.inl ⟨ho, cs', by rw [ht]; exact setRow_heap w (ρ.β i) cs _ b.ty _ hg, by omega, hr⟩)⟩
    · rename_i hne
      obtain ⟨h1, h2⟩ := h.blk i c hc
      exact ⟨h1, h2.kept (Rho.le_refl ρ none) h1 fun hgi => hother _ (h.inj i id c b hc hb hne hgi hgam (.inr hwr))⟩
  · rw [blkOf_setAt] at hc hd
    have back : ∀ (i : Nat) (c : Blk), (if i = id then some b' else blkOf mem i) = some c → ∃ c0, blkOf mem i = some c0 ∧ c0.wr = c.wr := by
      intro i c hc
      by_cases e : i = id
      · rw [if_pos e] at hc
        exact ⟨b, e ▸ hb, by rw [← Option.some.inj hc, hw']⟩
      · rw [if_neg e] at hc
        exact ⟨c, hc, rfl⟩
    obtain ⟨c0, e1, e2⟩ := back i c hc
    obtain ⟨d0, e3, e4⟩ := back j d hd
    exact h.inj i j c0 d0 e1 e3 hne gi gj (by rw [e2, e4]; exact hwr')
  · rw [blkOf_setAt] at hc
    split at hc
    · rename_i e; subst e; exact h.own i b hb hwr hgi
    · exact h.own i c hc hwr' hgi
  · refine h.fr.trans (G := fun k => k = ρ.β id) ⟨rfl, rfl, rfl, by simp [World.setRow], fun k hk hne => hother k hne, Nat.le_refl _⟩ (fun i hi e => ?_)
    subst e
    rcases h.own id b hb hwr hgam with h1 | h1
    · omega
    · exact h1

theorem storeA_sound {P : Program} {τ : Tab} (hτ : ∀ t i, τ t = some i → i.ok P t) {w0 : World} {F : Nat → Prop} {ρ : Rho} {s : S} {w : World} (hm : MRel w0 F ρ s.mem w)
    {t : TypeId} {a y : AV} {x u : Value} (hx : VR ρ a x) (hu : VR ρ y u) {v : AV} {upd fg need touch} (h : storeA τ s t a y = .val v upd fg need touch) (hn : need.den = true) :
    v = .any ∧ fg = none ∧ ∃ w', (Instr.storeAt t x u).run P w = .ok () w' ∧ MRel w0 F ρ (s.upd upd).mem w' := by
  unfold storeA at h
  split at h
  · rename_i id sz row fld i cells hi hcells
    obtain ⟨hal, h0, rfl⟩ := hx
    split at h
    · rename_i b hb
      obtain ⟨_, hM⟩ := hm.blk id b hb
      split at h
      · rename_i hc
        simp only [Bool.and_eq_true, decide_eq_true_eq] at hc
        obtain ⟨⟨⟨rfl, hwr⟩, hlen⟩, hone⟩ := hc
        have hok := hτ t i hi
        have hv := hu.cells hcells
        have h1 := hv.one hone
        have hvl : u.cells.toList.length = i.sz := by rw [hv.length, hlen]
        have main : ∀ (row' : List AV), need = inRow b.con row → fld + i.sz ≤ b.sz →
            (∀ cs : Array Value, w.heap[ρ.β id]? = some (.cells cs b.ty (0, 0)) → RowR ρ b.con row.den.toNat ((cs.toList.drop (row.den.toNat * b.sz)).take b.sz) → (row.den.toNat + 1) * b.sz ≤ cs.size →
              row.den < b.con.num.den → VRs ρ row' (over ((cs.toList.drop (row.den.toNat * b.sz)).take b.sz) fld u.cells.toList)) →
            ∃ w', (Instr.storeAt t (.pointer (some ⟨ρ.β id, ρ.o id + (row.den.toNat * b.sz + fld), none⟩)) u).run P w = .ok () w' ∧ MRel w0 F ρ (setAt s.mem id (some { b with con := b.con.put row row' })) w' := by
          intro row' he hfit hrow
          rw [he] at hn
          unfold inRow at hn
          rw [B.den_mkLt] at hn
          have hlt : row.den < b.con.num.den := by simpa using hn
          rcases hM.2 with h2 | ⟨ho, cs, hg, hcs, hrows⟩ | ⟨h9, _⟩
          · omega
          · obtain ⟨r1, r2⟩ := hrows row.den.toNat (by omega)
            rw [ho, Nat.zero_add]
            have e1 : (row.den.toNat + 1) * b.sz = row.den.toNat * b.sz + b.sz := Nat.succ_mul _ _
            have hpos := hM.1
            have hfit' : row.den.toNat * b.sz + fld + 0 + u.cells.toList.length ≤ cs.size := by omega
            have hst := run_storeCells_at P (ρ.β id) (row.den.toNat * b.sz + fld) b.ty u.cells.toList 0 cs w hg hfit' h1
            refine ⟨w.setRow (ρ.β id) (over cs.toList (row.den.toNat * b.sz + fld) u.cells.toList).toArray, ?_, ?_⟩
            · obtain ⟨f, z, i1, i2, _⟩ := hok.info
              have hcl : u.cells.size = i.sz := by simpa using hvl
              simp only [Nat.add_zero] at hst
              simp [Instr.storeAt, Instr.sureAddr, storeVar, sizeOf, typeInfo, i1, i2, hcl, hst, over]
            · have hlo : (over cs.toList (row.den.toNat * b.sz + fld) u.cells.toList).length = cs.size := by rw [length_over _ _ _ (by simp at hfit' ⊢; omega)]; simp
              refine hm.write hb hwr ho hg hcs (by simp [hlo]) rfl rfl hpos (by omega) (fun k hk => ?_)
              simp only [Con.num_put] at hk
              obtain ⟨k1, k2⟩ := hrows k hk
              refine ⟨by simp [hlo]; exact k1, ?_⟩
              by_cases hkr : k = row.den.toNat
              · subst hkr
                rw [over_row_same cs.toList row.den.toNat fld b.sz u.cells.toList (by omega) (by simpa using r1)]
                exact RowR.put_same h0 hlt (hrow cs hg r2 r1 hlt)
              · rw [over_row_other cs.toList row.den.toNat fld b.sz k u.cells.toList (by omega) (by simpa using r1) hkr]
                exact RowR.put_other h0 hkr k2
          · rw [hwr] at h9; cases h9
        split at h
        · rename_i hfull
          simp only [Bool.and_eq_true, decide_eq_true_eq] at hfull
          obtain ⟨rfl, hl2⟩ := hfull
          cases h
          refine ⟨rfl, rfl, main cells rfl (by omega) (fun cs hg r2 r1 hlt => ?_)⟩
          have e1 : (row.den.toNat + 1) * b.sz = row.den.toNat * b.sz + b.sz := Nat.succ_mul _ _
          have e : over ((cs.toList.drop (row.den.toNat * b.sz)).take b.sz) 0 u.cells.toList = u.cells.toList := by
            unfold over
            have e2 : (List.take b.sz (List.drop (row.den.toNat * b.sz) cs.toList)).length = b.sz := by simp; omega
            have e3 : List.drop (0 + u.cells.toList.length) (List.take b.sz (List.drop (row.den.toNat * b.sz) cs.toList)) = [] := List.drop_eq_nil_of_le (by omega)
            rw [e3]
            simp
          rw [e]
          exact hv
        · split at h
          · rename_i r hr
            split at h
            · rename_i hc2
              simp only [Bool.and_eq_true, decide_eq_true_eq, beq_iff_eq] at hc2
              cases h
              refine ⟨rfl, rfl, main _ rfl (by omega) (fun cs hg r2 r1 hlt => ?_)⟩
              exact (row_of hr h0 hlt r2).over fld hv
            · cases h
          · cases h
      · cases h
    · cases h
  · cases h


theorem wrap_in (k : IntKind) (x : Int) (h1 : k.min ≤ x) (h2 : x ≤ k.max) : k.wrap x = x := by
  cases k <;> simp [IntKind.min, IntKind.max, IntKind.wrap, IntKind.signed, IntKind.bits] at * <;> (try split) <;> omega
theorem wrap_bd (k : IntKind) (x : Int) : k.min ≤ k.wrap x ∧ k.wrap x ≤ k.max := by
  cases k <;> simp [IntKind.min, IntKind.max, IntKind.wrap, IntKind.signed, IntKind.bits] <;> (try split) <;> omega
theorem numFit_sound {ρ : Rho} {k : IntKind} {e : E} {lo hi : Int} (h1 : lo ≤ e.den) (h2 : e.den ≤ hi) : VR ρ (numFit k e lo hi) (.int k (k.wrap e.den)) := by
  unfold numFit
  split
  · rename_i h
    simp only [Bool.and_eq_true, decide_eq_true_eq] at h
    exact ⟨by rw [wrap_in k _ (by omega) (by omega)], h1, h2⟩
  · exact ⟨rfl, wrap_bd k _⟩
theorem mul_lo {x l h y : Int} (h1 : l ≤ x) (h2 : x ≤ h) : min (l * y) (h * y) ≤ x * y ∧ x * y ≤ max (l * y) (h * y) := by
  rcases Int.le_total 0 y with hy | hy
  · have a := Int.mul_le_mul_of_nonneg_right h1 hy
    have b := Int.mul_le_mul_of_nonneg_right h2 hy
    omega
  · have a := Int.mul_le_mul_of_nonpos_right h1 hy
    have b := Int.mul_le_mul_of_nonpos_right h2 hy
    omega
theorem mul_bd4 {x y la ha lb hb : Int} (h1 : la ≤ x) (h2 : x ≤ ha) (h3 : lb ≤ y) (h4 : y ≤ hb) :
    min4 (la * lb) (la * hb) (ha * lb) (ha * hb) ≤ x * y ∧ x * y ≤ max4 (la * lb) (la * hb) (ha * lb) (ha * hb) := by
  have a := mul_lo (y := y) h1 h2
  have b := mul_lo (y := la) h3 h4
  have c := mul_lo (y := ha) h3 h4
  rw [Int.mul_comm y la, Int.mul_comm lb la, Int.mul_comm hb la] at b
  rw [Int.mul_comm y ha, Int.mul_comm lb ha, Int.mul_comm hb ha] at c
  unfold min4 max4
  omega
theorem tdiv_bd (x y : Int) : -(x.natAbs : Int) ≤ x.tdiv y ∧ x.tdiv y ≤ x.natAbs := by
  have h := Int.natAbs_tdiv x y
  have h2 := Nat.div_le_self x.natAbs y.natAbs
  have h3 : (x.tdiv y).natAbs ≤ x.natAbs := by rw [h]; exact h2
  omega
theorem tmod_bd (x y : Int) : -(x.natAbs : Int) ≤ x.tmod y ∧ x.tmod y ≤ x.natAbs := by
  have h := Int.natAbs_tmod x y
  have h2 := Nat.mod_le x.natAbs y.natAbs
  omega

theorem binInt_sound {P : Program} {ρ : Rho} {w : World} {op : BinOp} {k : IntKind} {a b : E} {la ha lb hb : Int} (h1 : la ≤ a.den) (h2 : a.den ≤ ha) (h3 : lb ≤ b.den) (h4 : b.den ≤ hb)
    {t : TypeId} {v : AV} {upd fg need touch} (h : binInt op k a la ha b lb hb = .val v upd fg need touch) (hn : need.den = true) :
    upd = [] ∧ fg = none ∧ ∃ u, (binOp op t (.int k a.den) (.int k b.den)).run P w = .ok u w ∧ VR ρ v u := by
  cases op <;> simp only [binInt, R.pure] at h <;> first | (cases h; done) | skip
  case add =>
    cases h
    refine ⟨rfl, rfl, .int k (k.wrap (a.den + b.den)), by simp [binOp, Op.intArith], ?_⟩
    rw [← E.den_mkAdd]
    exact numFit_sound (by rw [E.den_mkAdd]; omega) (by rw [E.den_mkAdd]; omega)
  case sub =>
    cases h
    refine ⟨rfl, rfl, .int k (k.wrap (a.den - b.den)), by simp [binOp, Op.intArith], ?_⟩
    rw [← E.den_mkSub]
    exact numFit_sound (by rw [E.den_mkSub]; omega) (by rw [E.den_mkSub]; omega)
  case mul =>
    cases h
    have hm := mul_bd4 h1 h2 h3 h4
    refine ⟨rfl, rfl, .int k (k.wrap (a.den * b.den)), by simp [binOp, Op.intArith], ?_⟩
    rw [← E.den_mkMul]
    exact numFit_sound (by rw [E.den_mkMul]; exact hm.1) (by rw [E.den_mkMul]; exact hm.2)
  case quo =>
    cases h
    have hy : b.den ≠ 0 := by
      split at hn
      · rename_i hc; simp at hc; omega
      · rw [B.den_mkNot, B.den_mkEq] at hn; intro e; simp [E.den, e] at hn
    have hq := tdiv_bd a.den b.den
    refine ⟨rfl, rfl, .int k (k.wrap (a.den.tdiv b.den)), by simp [binOp, Op.intDiv, hy], ?_⟩
    rw [← E.den_mkQuo]
    split
    · rename_i hc
      simp only [Bool.and_eq_true, decide_eq_true_eq] at hc
      have hp : 0 ≤ a.den.tdiv b.den := Int.tdiv_nonneg (by omega) (by omega)
      exact numFit_sound (by rw [E.den_mkQuo]; exact hp) (by rw [E.den_mkQuo]; omega)
    · exact numFit_sound (by rw [E.den_mkQuo]; omega) (by rw [E.den_mkQuo]; omega)
  case rem =>
    cases h
    have hy : b.den ≠ 0 := by
      split at hn
      · rename_i hc; simp at hc; omega
      · rw [B.den_mkNot, B.den_mkEq] at hn; intro e; simp [E.den, e] at hn
    have hq := tmod_bd a.den b.den
    have hq2 : (a.den.tmod b.den).natAbs < b.den.natAbs := by rw [Int.natAbs_tmod]; exact Nat.mod_lt _ (by omega)
    refine ⟨rfl, rfl, .int k (a.den.tmod b.den), by simp [binOp, Op.intDiv, hy], ?_⟩
    split
    · rename_i hc
      simp only [Bool.and_eq_true, decide_eq_true_eq] at hc
      have hp : 0 ≤ a.den.tmod b.den := Int.tmod_nonneg _ (by omega)
      have hl := Int.tmod_lt_of_pos a.den (show 0 < b.den by omega)
      exact ⟨by rw [E.den_mkRem], by rw [E.den_mkRem]; exact hp, by rw [E.den_mkRem]; omega⟩
    · exact ⟨by rw [E.den_mkRem], by rw [E.den_mkRem]; omega, by rw [E.den_mkRem]; omega⟩
  case xor => cases h; exact ⟨rfl, rfl, .int k (kxor k a.den b.den), by simp [binOp, Op.intBits, kxor], ⟨rfl, wrap_bd _ _⟩⟩
  case shr =>
    split at h
    · rename_i hla
      split at h
      · rename_i n
        split at h
        · rename_i hn1
          subst hn1
          cases h
          have hb : min (1 : Int).toNat k.bits = 1 := by cases k <;> rfl
          have hq : a.den.fdiv 2 = a.den.tdiv 2 := by rw [Int.fdiv_eq_tdiv_of_nonneg (by omega) (by decide)]
          have hp : 0 ≤ a.den.tdiv 2 := Int.tdiv_nonneg (by omega) (by decide)
          have hd := tdiv_bd a.den 2
          refine ⟨rfl, rfl, .int k (a.den.tdiv 2), ?_, ?_⟩
          · show (Op.shift .shr k a.den k 1).run P w = _
            unfold Op.shift
            rw [if_neg (by decide), hb]
            show Result.ok (Value.int k (a.den.fdiv (2 ^ 1))) w = _
            rw [show ((2 : Int) ^ 1) = 2 by decide, hq]
          · exact ⟨by rw [E.den_mkQuo]; rfl, by rw [E.den_mkQuo]; exact hp, by rw [E.den_mkQuo]; show a.den.tdiv 2 ≤ ha; omega⟩
        · cases h
      · cases h
    · cases h
  case eql => cases h; exact ⟨rfl, rfl, .bool (a.den == b.den), by simp [binOp, Op.intCmp], by simp only [VR, B.den_mkEq]; congr 1⟩
  case neq => cases h; exact ⟨rfl, rfl, .bool (a.den != b.den), by simp [binOp, Op.intCmp], by simp only [VR, B.den_mkNot, B.den_mkEq]; congr 1⟩
  case lss => cases h; exact ⟨rfl, rfl, .bool (decide (a.den < b.den)), by simp [binOp, Op.intCmp], by simp only [VR, B.den_mkLt]⟩
  case leq => cases h; exact ⟨rfl, rfl, .bool (decide (a.den ≤ b.den)), by simp [binOp, Op.intCmp], by simp only [VR, B.den_mkLe]⟩
  case gtr => cases h; exact ⟨rfl, rfl, .bool (decide (b.den < a.den)), by simp [binOp, Op.intCmp], by simp only [VR, B.den_mkLt]⟩
  case geq => cases h; exact ⟨rfl, rfl, .bool (decide (b.den ≤ a.den)), by simp [binOp, Op.intCmp], by simp only [VR, B.den_mkLe]⟩

def mkInts : List IntKind → List Int → List Value
  | k :: ks, x :: xs => .int k x :: mkInts ks xs
  | _, _ => []
def EqOK (P : Program) (eqt : EqTab) : Prop :=
  ∀ t k, eqt t = some k → match k with
    | .ints ks => P.eqGuardType P.depth t = false ∧
      ∀ (xs ys : List Int) (w : World), xs.length = ks.length → ys.length = ks.length →
        (binOp .eql t (.agg (mkInts ks xs).toArray) (.agg (mkInts ks ys).toArray)).run P w = .ok (.bool (decide (xs = ys))) w ∧
        (binOp .neq t (.agg (mkInts ks xs).toArray) (.agg (mkInts ks ys).toArray)).run P w = .ok (.bool (!decide (xs = ys))) w
    | .bool => P.underlying t = some .bool
    | .sl e => P.underlying t = some (.slice e)
theorem run_equalIn_sl {P : Program} (w : World) (d : Nat) {t e : TypeId} (a : Option Addr) (n c n' c' : Nat) (h : P.underlying t = some (.slice e)) : (Op.equalIn (d + 1) t (.slice a n c) (.slice none n' c')).run P w = .ok a.isNone w := by
  cases a <;> simp [Op.equalIn, run_underlying h]
theorem run_eql_sl {P : Program} (w : World) {t e : TypeId} (a : Option Addr) (n c n' c' : Nat) (h : P.underlying t = some (.slice e)) : (binOp .eql t (.slice a n c) (.slice none n' c')).run P w = .ok (.bool a.isNone) w := by
  simp only [binOp]
  simp [Op.equal, Op.maxDepth, run_equalIn_sl w 9999 a n c n' c' h]
theorem eqCells_sound {ρ : Rho} : ∀ (ks : List IntKind) (l m : List AV) (b : B) (vs us : List Value), eqCells ks l m = some b → VRs ρ l vs → VRs ρ m us →
    ∃ xs ys : List Int, xs.length = ks.length ∧ ys.length = ks.length ∧ vs = mkInts ks xs ∧ us = mkInts ks ys ∧ b.den = decide (xs = ys) := by
  intro ks
  induction ks with
  | nil =>
    intro l m b vs us h h1 h2
    cases l <;> cases m <;> simp [eqCells] at h
    subst h
    have h1 : vs = [] := h1
    have h2 : us = [] := h2
    subst h1 h2
    exact ⟨[], [], rfl, rfl, rfl, rfl, rfl⟩
  | cons k0 ks ih =>
    intro l m b vs us h h1 h2
    unfold eqCells at h
    split at h
    · rename_i e; cases e
    · rename_i k0' ks' k a la ha l' k' c lc hc m' e
      cases e
      split at h
      · rename_i hk
        obtain ⟨rfl, rfl⟩ := hk
        obtain ⟨v, vs', rfl, hv, h1⟩ := h1
        obtain ⟨u, us', rfl, hu, h2⟩ := h2
        cases hb : eqCells ks l' m' with
        | none => rw [hb] at h; cases h
        | some b' =>
          rw [hb] at h
          cases h
          obtain ⟨xs, ys, i1, i2, rfl, rfl, i5⟩ := ih l' m' b' vs' us' hb h1 h2
          refine ⟨a.den :: xs, c.den :: ys, by simp [i1], by simp [i2], ?_, ?_, ?_⟩
          · rw [hv.1]; rfl
          · rw [hu.1]; rfl
          · rw [B.den_mkAnd, B.den_mkEq, i5]
            rw [Bool.eq_iff_iff]
            simp
      · cases h
    · cases h
theorem binOpA_sound {P : Program} {eqt : EqTab} (he : EqOK P eqt) {ρ : Rho} {w : World} {op : BinOp} {t : TypeId} {x y : AV} {ox oy : Operand} {u u' : Value} (hx : VR ρ x u) (hy : VR ρ y u')
    {v : AV} {upd fg need touch} (h : binOpA eqt op t x y = .val v upd fg need touch) (hn : need.den = true) :
    upd = [] ∧ fg = none ∧ ∃ z, (do eqGuard op t ox oy u u'; binOp op t u u').run P w = .ok z w ∧ VR ρ v z := by
  unfold binOpA at h
  split at h
  · rename_i k a la ha k' b lb hb
    split at h
    · rename_i hk
      subst hk
      obtain ⟨rfl, a1, a2⟩ := hx
      obtain ⟨rfl, b1, b2⟩ := hy
      obtain ⟨i1, i2, z, i3, i4⟩ := binInt_sound (P := P) (w := w) (t := t) a1 a2 b1 b2 h hn
      refine ⟨i1, i2, z, ?_, i4⟩
      have hg : (eqGuard op t ox oy (.int k a.den) (.int k b.den)).run P w = .ok () w := by unfold eqGuard; cases op <;> rfl
      rw [Sem.run_bind, hg]
      exact i3
    · cases h
  · rename_i l m
    obtain ⟨vs, rfl, h1⟩ := hx
    obtain ⟨us, rfl, h2⟩ := hy
    split at h
    · rename_i ks hks
      obtain ⟨hg0, hq⟩ := he t _ hks
      have hg : (eqGuard op t ox oy (.agg vs.toArray) (.agg us.toArray)).run P w = .ok () w := by unfold eqGuard; cases op <;> simp [hg0]
      split at h
      · rename_i b hb
        cases h
        obtain ⟨xs, ys, i1, i2, rfl, rfl, i5⟩ := eqCells_sound ks l m b vs us hb h1 h2
        refine ⟨rfl, rfl, .bool (decide (xs = ys)), ?_, by simp only [VR, i5]⟩
        rw [Sem.run_bind, hg]
        exact (hq xs ys w i1 i2).1
      · rename_i b hb
        cases h
        obtain ⟨xs, ys, i1, i2, rfl, rfl, i5⟩ := eqCells_sound ks l m b vs us hb h1 h2
        refine ⟨rfl, rfl, .bool (!decide (xs = ys)), ?_, by simp only [VR, B.den_mkNot, i5]⟩
        rw [Sem.run_bind, hg]
        exact (hq xs ys w i1 i2).2
      · cases h
    · cases h
  · rename_i a b
    have hx : u = .bool a.den := hx
    have hy : u' = .bool b.den := hy
    subst hx hy
    split at h
    · rename_i hks
      have hu : P.underlying t = some .bool := he t _ hks
      have hg : (eqGuard op t ox oy (.bool a.den) (.bool b.den)).run P w = .ok () w := by unfold eqGuard; cases op <;> rfl
      split at h
      · cases h
        refine ⟨rfl, rfl, .bool (a.den == b.den), ?_, by simp only [VR, B.den_mkBeq]⟩
        rw [Sem.run_bind, hg]
        exact run_eql_bool w t a.den b.den hu
      · cases h
        refine ⟨rfl, rfl, .bool (!(a.den == b.den)), ?_, by simp only [VR, B.den_mkNot, B.den_mkBeq]⟩
        rw [Sem.run_bind, hg]
        have := run_equal_bool (P := P) w t a.den b.den hu
        simp [binOp, this]
      · cases h
    · cases h
  · rename_i a n c n' c'
    have hx : u = .slice a n c := hx
    have hy : u' = .slice none n' c' := hy
    subst hx hy
    split at h
    · rename_i e hks
      have hu : P.underlying t = some (.slice e) := he t _ hks
      have hg : (eqGuard op t ox oy (.slice a n c) (.slice none n' c')).run P w = .ok () w := by unfold eqGuard; cases op <;> rfl
      split at h
      · cases h
        refine ⟨rfl, rfl, .bool a.isNone, ?_, rfl⟩
        rw [Sem.run_bind, hg]
        exact run_eql_sl w a n c n' c' hu
      · cases h
    · cases h
  · rename_i id sz row len hi n' c'
    have hy : u' = .slice none n' c' := hy
    subst hy
    obtain ⟨_, _, _, _, a, c, rfl, hlc, _, hs⟩ := hx
    split at h
    · rename_i e hks
      have hu : P.underlying t = some (.slice e) := he t _ hks
      have hg : (eqGuard op t ox oy (.slice a len.den.toNat c) (.slice none n' c')).run P w = .ok () w := by unfold eqGuard; cases op <;> rfl
      split at h
      · cases h
        rw [B.den_mkLt, decide_eq_true_eq] at hn
        have hn : 0 < len.den := hn
        refine ⟨rfl, rfl, .bool a.isNone, ?_, ?_⟩
        · rw [Sem.run_bind, hg]
          exact run_eql_sl w a _ c n' c' hu
        · cases a with
          | none => have : c = 0 := hs; omega
          | some x => rfl
      · cases h
    · cases h
  · cases h
theorem unOpA_sound {P : Program} {ρ : Rho} {w : World} {op : UnOp} {x : AV} {u : Value} (hx : VR ρ x u) {v : AV} {upd fg need touch} (h : unOpA op x = .val v upd fg need touch) :
    upd = [] ∧ fg = none ∧ ∃ z, (Op.unary op u).run P w = .ok z w ∧ VR ρ v z := by
  unfold unOpA at h
  split at h
  · rename_i k e lo hi
    cases h
    obtain ⟨rfl, h1, h2⟩ := hx
    refine ⟨rfl, rfl, .int k (k.wrap (0 - e.den)), by simp [Op.unary, Op.intArith], ?_⟩
    have e0 : (0 : Int) - e.den = (E.mkSub (.lit 0) e).den := by rw [E.den_mkSub]; rfl
    rw [e0]
    exact numFit_sound (by rw [E.den_mkSub]; simp only [E.den]; omega) (by rw [E.den_mkSub]; simp only [E.den]; omega)
  · rename_i b
    cases h
    have hx : u = .bool b.den := hx
    subst hx
    exact ⟨rfl, rfl, .bool !b.den, rfl, by simp only [VR, B.den_mkNot]⟩
  · cases h


theorem Con.num_push (c : Con) (r : List AV) (h : 0 ≤ c.num.den) : (c.push r).num.den = c.num.den + 1 := by
  unfold Con.push
  split
  · simp [Con.num, E.den]
  · simp only [Con.num]; rw [E.den_mkAdd]; rfl
theorem RowR.push {ρ : Rho} {c : Con} {r : List AV} {i : Nat} {vs : List Value} (h1 : i < c.num.den.toNat → RowR ρ c i vs) (h2 : i = c.num.den.toNat → VRs ρ r vs) (h : i < c.num.den.toNat + 1) : RowR ρ (c.push r) i vs := by
  unfold Con.push
  split
  · rename_i rows
    simp only [Con.num, E.den, Int.toNat_natCast] at h1 h2 h
    by_cases hi : i < rows.length
    · obtain ⟨r', a, b⟩ := h1 hi
      exact ⟨r', by rw [List.getElem?_append_left hi]; exact a, b⟩
    · have e : i = rows.length := by omega
      exact ⟨r, by subst e; simp, h2 e⟩
  · exact ⟨h1, h2⟩
theorem num_snocs : ∀ (rows : List (List AV)) (c : Con), 0 ≤ c.num.den → (snocs c rows).num.den = c.num.den + rows.length
  | [], c, _ => by simp [snocs]
  | r :: rest, c, h => by
    have e := c.num_push r h
    rw [snocs, num_snocs rest _ (by omega), e]
    simp
    omega
theorem RowR.snocs {ρ : Rho} {i : Nat} {vs : List Value} : ∀ (rows : List (List AV)) (c : Con), 0 ≤ c.num.den → (i < c.num.den.toNat → RowR ρ c i vs) → (∀ j r, rows[j]? = some r → i = c.num.den.toNat + j → VRs ρ r vs) →
    i < c.num.den.toNat + rows.length → RowR ρ (snocs c rows) i vs
  | [], c, _, h1, _, h => by rw [Sym.snocs]; exact h1 (by simpa using h)
  | r :: rest, c, h0, h1, h2, h => by
    have e := c.num_push r h0
    rw [Sym.snocs]
    simp only [List.length_cons] at h
    refine RowR.snocs rest _ (by omega) (fun hi => RowR.push h1 (fun hi2 => h2 0 r rfl (by omega)) (by omega)) (fun j r' hj hi => h2 (j + 1) r' (by simpa using hj) (by omega)) (by omega)

theorem blkOf_forget (mem : List (Option Blk)) (id j : Nat) : blkOf (mem.map (·.map (·.forget id))) j = (blkOf mem j).map (·.forget id) := by
  unfold blkOf
  rw [List.getElem?_map]
  cases mem[j]? with
  | none => rfl
  | some x => cases x <;> rfl
theorem MR.forget {ρ ρ' : Rho} {w : World} {id j : Nat} {b : Blk} (h : MR ρ w j b) (hρ : ρ.le ρ' (some id)) (hj : j ≠ id) (hal : ρ.al j) : MR ρ' w j (b.forget id) := by
  obtain ⟨h1, h2⟩ := h
  have hx : some j ≠ some id := fun e => hj (Option.some.inj e)
  refine ⟨h1, ?_⟩
  rw [hρ.γ j hal hx, hρ.β j hal hx, hρ.o j hal hx]
  simp only [Blk.forget, Con.num_forget]
  rcases h2 with h2 | ⟨ho, cs, a, b', c⟩ | ⟨h3, h4, h5, c⟩
  · exact .inl h2
  · exact .inr (.inl ⟨ho, cs, a, b', fun i hi => ⟨(c i hi).1, (c i hi).2.forget hρ⟩⟩)
  · refine .inr (.inr ⟨h3, h4, h5, fun i hi => ?_⟩)
    obtain ⟨vs, e1, e2, e3⟩ := c i hi
    exact ⟨vs, e1, e2, e3.forget hρ⟩
/-- Block id lies anew (in a new place or in its own), all else is kept. -/
theorem MRel.renew {w0 : World} {F : Nat → Prop} {ρ ρ' : Rho} {mem : List (Option Blk)} {w w' : World} (h : MRel w0 F ρ mem w) {id : Nat} {b : Blk} (hρ : ρ.le ρ' (some id)) (hal : ρ'.al id)
    (hb : MR ρ' w' id b) (hfr : FrameW w0 F w')
    (hk : ∀ j c, blkOf mem j = some c → j ≠ id → ρ.γ j ≠ 0 → w'.heap[ρ.β j]? = w.heap[ρ.β j]? ∧ ρ'.β id ≠ ρ.β j)
    (hown : ρ'.γ id ≠ 0 → w0.heap.size ≤ ρ'.β id ∨ F (ρ'.β id)) :
    MRel w0 F ρ' (setAt (mem.map (·.map (·.forget id))) id (some b)) w' := by
  have hx : ∀ j, j ≠ id → some j ≠ some id := fun j hj e => hj (Option.some.inj e)
  have look : ∀ j c, blkOf (setAt (mem.map (·.map (·.forget id))) id (some b)) j = some c → j ≠ id → ∃ c0, blkOf mem j = some c0 ∧ c = c0.forget id := by
    intro j c hc hj
    rw [blkOf_setAt, if_neg hj, blkOf_forget] at hc
    cases h0 : blkOf mem j with
    | none => rw [h0] at hc; cases hc
    | some c0 => rw [h0] at hc; exact ⟨c0, rfl, (Option.some.inj hc).symm⟩
  have self : ∀ c, blkOf (setAt (mem.map (·.map (·.forget id))) id (some b)) id = some c → c = b := by
    intro c hc
    rw [blkOf_setAt, if_pos rfl] at hc
    exact (Option.some.inj hc).symm
  refine ⟨fun j c hc => ?_, fun i j c d hc hd hne gi gj hwr => ?_, fun i c hc hwr hg => ?_, hfr⟩
  · by_cases hj : j = id
    · subst hj
      rw [self c hc]
      exact ⟨hal, hb⟩
    · obtain ⟨c0, h1, rfl⟩ := look j c hc hj
      obtain ⟨h2, h3⟩ := h.blk j c0 h1
      refine ⟨hρ.al j h2, ?_⟩
      refine MR.forget (ρ := ρ) ?_ hρ hj h2
      exact h3.kept (Rho.le_refl ρ none) h2 fun hg => (hk j c0 h1 hj hg).1
  · by_cases ei : i = id
    · subst ei
      have hj : j ≠ i := fun e => hne e.symm
      obtain ⟨d0, h1, rfl⟩ := look j d hd hj
      obtain ⟨h2, _⟩ := h.blk j d0 h1
      rw [hρ.γ j h2 (hx j hj)] at gj
      rw [hρ.β j h2 (hx j hj)]
      exact (hk j d0 h1 hj gj).2
    · obtain ⟨c0, h1, rfl⟩ := look i c hc ei
      obtain ⟨h2, _⟩ := h.blk i c0 h1
      rw [hρ.γ i h2 (hx i ei)] at gi
      rw [hρ.β i h2 (hx i ei)]
      by_cases ej : j = id
      · subst ej
        exact fun e => (hk i c0 h1 ei gi).2 e.symm
      · obtain ⟨d0, h3, rfl⟩ := look j d hd ej
        obtain ⟨h4, _⟩ := h.blk j d0 h3
        rw [hρ.γ j h4 (hx j ej)] at gj
        rw [hρ.β j h4 (hx j ej)]
        exact h.inj i j c0 d0 h1 h3 hne gi gj hwr
  · by_cases ei : i = id
    · subst ei
      exact hown hg
    · obtain ⟨c0, h1, rfl⟩ := look i c hc ei
      obtain ⟨h2, _⟩ := h.blk i c0 h1
      rw [hρ.γ i h2 (hx i ei)] at hg
      rw [hρ.β i h2 (hx i ei)]
      exact h.own i c0 h1 hwr hg

theorem elemOf?_ok {P : Program} {τ : Tab} (hτ : ∀ t i, τ t = some i → i.ok P t) {t e : TypeId} {i : TI} (h : elemOf? τ t = some (e, i)) : P.underlying t = some (.slice e) ∧ i.ok P e := by
  unfold elemOf? at h
  split at h
  · rename_i e' agg sz bytes zero ht
    split at h
    · rename_i j hj
      cases h
      obtain ⟨d, h1, h2⟩ := (hτ t _ ht).und
      have h2 : d = .slice e := h2
      exact ⟨by rw [h1, h2], hτ e i hj⟩
    · cases h
  · cases h
theorem take_over (l : List Value) (n : Nat) (vs : List Value) (sz i : Nat) (h : n * sz + vs.length ≤ l.length) (hi : (i + 1) * sz ≤ n * sz) :
    ((over l (n * sz) vs).drop (i * sz)).take sz = (l.drop (i * sz)).take sz := by
  have e3 : (i + 1) * sz = i * sz + sz := Nat.succ_mul _ _
  apply List.ext_getElem?
  intro j
  simp only [List.getElem?_take, List.getElem?_drop]
  split
  · rw [over_get _ _ _ h, if_neg (by omega)]
  · rfl
/-- What is known of the appended rows: their cells. -/
structure News (P : Program) (ρ : Rho) (w : World) (rows : List (List AV)) (sz : Nat) (a : Addr) (news : List Value) : Prop where
  len : news.length = rows.length * sz
  at_ : ∀ j u, news[j]? = some u → w.cell? (a.add j) = some u
  one : ∀ u ∈ news, u.oneCell' = true
  row : ∀ j r, rows[j]? = some r → VRs ρ r ((news.drop (j * sz)).take sz)
theorem news_of {P : Program} {ρ : Rho} {w : World} {id2 : Nat} {b2 : Blk} {rows : List (List AV)} (hM : MR ρ w id2 b2) (hw2 : b2.wr = true) (hc : b2.con = .lit rows) (hr : rows.all (fun r => r.length == b2.sz && r.all AV.one) = true) (h0 : 0 < rows.length) :
    ρ.o id2 = 0 ∧ ∃ news, News P ρ w rows b2.sz ⟨ρ.β id2, 0, none⟩ news := by
  have hnum : b2.con.num.den.toNat = rows.length := by rw [hc]; simp [Con.num, E.den]
  rcases hM.2 with h2 | ⟨ho, cs, a, b', c⟩ | ⟨h9, _⟩
  · omega
  rotate_left
  · rw [hw2] at h9; cases h9
  · rw [hnum] at c
    refine ⟨ho, ?_⟩
    have hlast := (c (rows.length - 1) (by omega)).1
    have e0 : rows.length - 1 + 1 = rows.length := by omega
    rw [e0] at hlast
    have hrow : ∀ j r, rows[j]? = some r → VRs ρ r ((cs.toList.drop (j * b2.sz)).take b2.sz) := by
      intro j r hj
      have hlt := (List.getElem?_eq_some_iff.1 hj).1
      have := (c j hlt).2
      rw [hc] at this
      obtain ⟨r', h1, h2⟩ := this
      rw [hj] at h1
      cases h1
      exact h2
    have hdt : ∀ j, j < rows.length → ((cs.toList.take (rows.length * b2.sz)).drop (j * b2.sz)).take b2.sz = (cs.toList.drop (j * b2.sz)).take b2.sz := by
      intro j hj
      have e1 : (j + 1) * b2.sz ≤ rows.length * b2.sz := Nat.mul_le_mul_right _ hj
      have e3 : (j + 1) * b2.sz = j * b2.sz + b2.sz := Nat.succ_mul _ _
      rw [List.drop_take, List.take_take, Nat.min_eq_left (by omega)]
    refine ⟨cs.toList.take (rows.length * b2.sz), ⟨by simp; omega, fun j u hj => ?_, fun u hu => ?_, fun j r hj => ?_⟩⟩
    · have hadd : (⟨ρ.β id2, 0, none⟩ : Addr).add j = ⟨ρ.β id2, j, none⟩ := by unfold Addr.add; split <;> simp_all
      rw [hadd, cell_of_row w _ _ cs _ _ a]
      rw [List.getElem?_take] at hj
      split at hj
      · simpa using hj
      · cases hj
    · obtain ⟨j, hj, he⟩ := List.getElem_of_mem hu
      have hpos := hM.1
      have hj' : j < rows.length * b2.sz := by simp at hj; omega
      have hq : j / b2.sz < rows.length := Nat.div_lt_of_lt_mul (by rw [Nat.mul_comm]; exact hj')
      have hv := hrow (j / b2.sz) rows[j / b2.sz] (List.getElem?_eq_getElem hq)
      have hall := List.all_eq_true.1 hr rows[j / b2.sz] (List.getElem_mem hq)
      simp only [Bool.and_eq_true] at hall
      refine hv.one hall.2 u ?_
      have hm : j % b2.sz < b2.sz := Nat.mod_lt _ hpos
      have hd : j / b2.sz * b2.sz + j % b2.sz = j := by rw [Nat.mul_comm]; exact Nat.div_add_mod j b2.sz
      refine List.mem_of_getElem? (i := j % b2.sz) ?_
      rw [List.getElem?_take, if_pos hm, List.getElem?_drop, hd]
      rw [← he, List.getElem_take]
      have : j < cs.toList.length := by simp at hj ⊢; omega
      rw [List.getElem?_eq_getElem this]
    · have hlt := (List.getElem?_eq_some_iff.1 hj).1
      rw [hdt j hlt]
      exact hrow j r hj


theorem seg_new (olds news rest : List Value) (n j sz m : Nat) (ho : olds.length = n * sz) (hl : news.length = m * sz) (hj : j < m) :
    ((olds ++ news ++ rest).drop ((n + j) * sz)).take sz = (news.drop (j * sz)).take sz := by
  have e1 : (n + j) * sz = n * sz + j * sz := Nat.add_mul _ _ _
  have e2 : (j + 1) * sz ≤ m * sz := Nat.mul_le_mul_right _ hj
  have e3 : (j + 1) * sz = j * sz + sz := Nat.succ_mul _ _
  apply List.ext_getElem?
  intro k
  simp only [List.getElem?_take, List.getElem?_drop]
  split
  · rw [List.append_assoc, List.getElem?_append_right (by omega), List.getElem?_append_left (by omega)]
    congr 1
    omega
  · rfl
theorem seg_old (olds news : List Value) (n i sz : Nat) (ho : olds.length = n * sz) (hi : i < n) : ((olds ++ news).drop (i * sz)).take sz = (olds.drop (i * sz)).take sz := by
  have e2 : (i + 1) * sz ≤ n * sz := Nat.mul_le_mul_right _ hi
  have e3 : (i + 1) * sz = i * sz + sz := Nat.succ_mul _ _
  apply List.ext_getElem?
  intro k
  simp only [List.getElem?_take, List.getElem?_drop]
  split
  · rw [List.getElem?_append_left (by omega)]
  · rfl
theorem size_push (w : World) (o : Obj) : (w.drew.alloc o).heap = w.heap.push o := rfl

/-- append, in words of the memory alone: rows behind what block id holds. -/
theorem append_blk {P : Program} {w0 : World} {F : Nat → Prop} {ρ : Rho} {mem : List (Option Blk)} {w : World} (hm : MRel w0 F ρ mem w) {t e ty : TypeId} {i : TI} (hu : P.underlying t = some (.slice e)) (hok : i.ok P e) (hby : i.bytes ≤ 64)
    {id : Nat} {b : Blk} (hb : blkOf mem id = some b) (hsz : b.sz = i.sz) (hwr : b.wr = true) (hty : b.ty = e) {n : Nat} (hn : n ≤ 1099511627776) (hnum : b.con.num.den = (n : Int)) {a0 : Option Addr} {c : Nat} (hnc : n ≤ c) (hcm : c ≤ maxLen) (ha : SlAt ρ id i.sz 0 c a0)
    {rows : List (List AV)} (hrl : rows.length ≤ 1099511627776) (hr0 : 0 < rows.length) {a2 : Addr} {c2 : Nat} {news : List Value} (hN : News P ρ w rows i.sz a2 news) :
    ∃ (v : Value) (w' : World) (ρ' : Rho), (Builtin.append_ #[t, t] ty #[.slice a0 n c, .slice (some a2) rows.length c2]).run P w = .ok v w' ∧ ρ.le ρ' (some id) ∧ (∀ j, ρ'.al j → ρ.al j) ∧
      MRel w0 F ρ' (setAt (mem.map (·.map (·.forget id))) id (some { b with con := (snocs b.con rows).forget id })) w' ∧
      VR ρ' (.sl id i.sz (.lit 0) (.lit ((n + rows.length : Nat) : Int)) ((n + rows.length : Nat) : Int)) v := by
  obtain ⟨hal, hM⟩ := hm.blk id b hb
  have hpos := hok.pos
  obtain ⟨f, z, hi, hs1, hs2, hz, hz2, hz3⟩ := hok.info
  have hzs : z.cells.size = i.sz := by have := congrArg List.length hz3; rw [hok.len] at this; simpa using this
  have hnn : b.con.num.den.toNat = n := by omega
  have hnum' : 0 ≤ b.con.num.den := by omega
  have hnumS : (snocs b.con rows).num.den.toNat = n + rows.length := by rw [num_snocs _ _ hnum', hnum]; omega
  have hnl : news.length = rows.length * f.size := by rw [hN.len, hs1]
  have h63 : n + rows.length ≤ 9223372036854775807 := by omega
  -- what the new block must hold
  have rowsOK : ∀ (olds rest : List Value), olds.length = n * i.sz → (∀ k, k < n → RowR ρ b.con k ((olds.drop (k * i.sz)).take i.sz)) →
      ∀ k, k < n + rows.length → RowR ρ (snocs b.con rows) k (((olds ++ news ++ rest).drop (k * i.sz)).take i.sz) := by
    intro olds rest ho hold k hk
    refine RowR.snocs rows b.con hnum' (fun hk2 => ?_) (fun j r hj he => ?_) (by rw [hnn]; exact hk)
    · rw [List.append_assoc, seg_old olds (news ++ rest) n k i.sz ho (by omega)]
      exact hold k (by omega)
    · have he : k = n + j := by omega
      subst he
      have hlt := (List.getElem?_eq_some_iff.1 hj).1
      rw [seg_new olds news rest n j i.sz rows.length ho hN.len hlt]
      exact hN.row j r hj
  have grown : ∀ (olds : List Value) (cap : Nat), olds.length = n * i.sz → (∀ k, k < n → RowR ρ b.con k ((olds.drop (k * i.sz)).take i.sz)) → n + rows.length ≤ cap → cap ≤ maxLen →
      ∃ ρ' : Rho, ρ.le ρ' (some id) ∧ (∀ j, ρ'.al j → ρ.al j) ∧
        MRel w0 F ρ' (setAt (mem.map (·.map (·.forget id))) id (some { b with con := (snocs b.con rows).forget id })) (w.drew.alloc (.cells (olds.toArray ++ news.toArray ++ Builtin.zeroCells z.cells (cap - (n + rows.length))) e)) ∧
        VR ρ' (.sl id i.sz (.lit 0) (.lit ((n + rows.length : Nat) : Int)) ((n + rows.length : Nat) : Int)) (.slice (some ⟨w.heap.size, 0, none⟩) (n + rows.length) cap) := by
    intro olds cap ho hold hcap hcap2
    have hsize : (olds.toArray ++ news.toArray ++ Builtin.zeroCells z.cells (cap - (n + rows.length))).size = cap * i.sz := by
      simp only [Array.size_append, List.size_toArray, size_zeroCells, hzs, ho, hN.len, ← Nat.add_mul]
      congr 1
      omega
    have hle := ρ.with_le id w.heap.size (cap * i.sz) (some id) (.inr rfl)
    have e1 : (ρ.with id w.heap.size (cap * i.sz)).β id = w.heap.size := by simp [Rho.with]
    have e2 : (ρ.with id w.heap.size (cap * i.sz)).γ id = cap * i.sz := by simp [Rho.with]
    have hold' : ∀ (o : Obj) k, k < w.heap.size → (w.drew.alloc o).heap[k]? = w.heap[k]? := fun o k hk => by rw [size_push, Array.getElem?_push_lt hk]; simp [hk]
    refine ⟨ρ.with id w.heap.size (cap * i.sz), hle, fun j hj => ?_, ?_, ?_⟩
    · rcases hj with hj | hj
      · exact hj
      · subst hj; exact hal
    · refine hm.renew hle (.inr rfl) ⟨by rw [hsz]; exact hpos, .inr (.inl ⟨by simp [Rho.with], _, by rw [e1, size_push, hty, Array.getElem?_push_size], by rw [e2]; exact hsize, fun k hk => ?_⟩)⟩ ?_ (fun j c' hc' hj hg => ?_) (fun _ => ?_)
      · simp only [Con.num_forget, hnumS] at hk
        refine ⟨?_, ?_⟩
        · rw [hsize]
          simp only [hsz]
          exact Nat.mul_le_mul_right _ (by omega)
        · simp only [hsz]
          have := rowsOK olds (Builtin.zeroCells z.cells (cap - (n + rows.length))).toList ho hold k hk
          simp only [Array.toList_append]
          exact this.forget hle
      · exact hm.fr.trans (G := fun _ => False) ⟨rfl, rfl, rfl, by rw [size_push]; simp, fun k hk _ => hold' _ k hk, Nat.le_succ _⟩ (fun _ _ e => e.elim)
      · have := ((hm.blk j c' hc').2).lt hg
        exact ⟨hold' _ _ this, by rw [e1]; omega⟩
      · rw [e1]; exact .inl hm.fr.size
    · refine ⟨.inr rfl, by simp [E.den], by simp only [E.den]; omega, by simp only [E.den]; omega, some ⟨w.heap.size, 0, none⟩, cap, ?_, ?_, hcap2, .inr ⟨?_, ?_⟩⟩
      · simp only [E.den, Int.toNat_natCast]
      · simp only [E.den, Int.toNat_natCast]; exact hcap
      · rw [e1]; simp [Rho.with, E.den]
      · rw [e2]; simp [E.den]
  have hbytes : (n + rows.length) * f.bytes ≤ 140737488355328 := by
    rw [hs2]
    exact Nat.le_trans (Nat.mul_le_mul (show n + rows.length ≤ 1099511627776 + 1099511627776 by omega) hby) (by decide)
  have hmax : ∀ old, grownCap w (n + rows.length) old e ≤ maxLen := fun old => grownCap_le_maxLen w _ old e (by simp only [maxLen]; omega)
  by_cases hroom : n + rows.length ≤ c
  · -- there is room
    have hc0 : c ≠ 0 := by omega
    cases a0 with
    | none => exact absurd ha hc0
    | some a0 =>
      obtain ⟨rfl, hcap⟩ := ha.resolve_left hc0
      simp only [Nat.zero_mul, Nat.zero_add] at hcap ⊢
      have hg0 : ρ.γ id ≠ 0 := by
        have : 1 * i.sz ≤ c * i.sz := Nat.mul_le_mul_right _ (by omega)
        omega
      rcases hM.2 with h2 | ⟨ho0, cs, hg, hcs, hrows⟩ | ⟨h9, _⟩
      · exact absurd h2.1 hg0
      rotate_left
      · rw [hwr] at h9; cases h9
      · rw [hnn] at hrows
        rw [ho0]
        rw [hty] at hg
        rw [hsz] at hrows
        have hfit : n * f.size + news.length ≤ cs.size := by
          rw [hnl, hs1, ← Nat.add_mul, hcs]
          exact Nat.le_trans (Nat.mul_le_mul_right _ hroom) hcap
        have hr := run_append_room (P := P) w t ty e f hu hi (ρ.β id) n c cs hg a2 rows.length c2 news hnl hN.at_ hN.one hroom hfit
        have hns : n * i.sz + rows.length * i.sz ≤ cs.size := by rw [hnl, hs1] at hfit; exact hfit
        have ho : (cs.toList.take (n * i.sz)).length = n * i.sz := by simp; omega
        have hle := Rho.le_refl ρ (some id)
        refine ⟨_, _, ρ, hr, hle, fun _ h => h, ?_, ?_⟩
        · have hother : ∀ k, k ≠ ρ.β id → ∀ cs', (w.setRow (ρ.β id) cs').heap[k]? = w.heap[k]? := fun k hk cs' => setRow_other w (ρ.β id) k _ hk
          refine hm.renew hle hal ⟨by rw [hsz]; exact hpos, .inr (.inl ⟨ho0, _, by rw [hty]; exact setRow_heap w (ρ.β id) cs _ e _ hg, ?_, fun k hk => ?_⟩)⟩ ?_ (fun j c' hc' hj hgj => ?_) (fun hgj => hm.own id b hb hwr hgj)
          · have hl := hN.len
            simp only [List.size_toArray, List.length_append, List.length_take, List.length_drop, Array.length_toList, hs1]
            omega
          · simp only [Con.num_forget, hnumS] at hk
            simp only [hsz, hs1]
            refine ⟨?_, ?_⟩
            · have hl := hN.len
              have e1 : (k + 1) * i.sz ≤ (n + rows.length) * i.sz := Nat.mul_le_mul_right _ (by omega)
              have e2 : (n + rows.length) * i.sz = n * i.sz + rows.length * i.sz := Nat.add_mul _ _ _
              simp only [List.size_toArray, List.length_append, List.length_take, List.length_drop, Array.length_toList]
              omega
            · refine (rowsOK (cs.toList.take (n * i.sz)) _ ho (fun k hk => ?_) k hk).forget hle
              have e2 : (k + 1) * i.sz ≤ n * i.sz := Nat.mul_le_mul_right _ hk
              have e3 : (k + 1) * i.sz = k * i.sz + i.sz := Nat.succ_mul _ _
              rw [List.drop_take, List.take_take, Nat.min_eq_left (by omega)]
              exact (hrows k hk).2
          · refine hm.fr.trans (G := fun k => k = ρ.β id) ⟨rfl, rfl, rfl, by simp, fun k _ hk => hother k hk _, Nat.le_refl _⟩ (fun k hk e => ?_)
            subst e
            rcases hm.own id b hb hwr hg0 with h1 | h1
            · omega
            · exact h1
          · have hne := hm.inj j id c' b hc' hb hj hgj hg0 (.inr hwr)
            exact ⟨hother _ hne _, fun e => hne e.symm⟩
        · refine ⟨hal, by simp [E.den], by simp only [E.den]; omega, by simp only [E.den]; omega, some ⟨ρ.β id, 0, none⟩, c, ?_, ?_, hcm, .inr ⟨by simp [ho0, E.den], by simpa [E.den] using hcap⟩⟩
          · simp only [E.den, Int.toNat_natCast]
          · simp only [E.den, Int.toNat_natCast]; exact hroom
  · -- a new block
    have hfit := growslice_fits (show c < n + rows.length by omega) hbytes
    by_cases hn0 : n = 0
    · subst hn0
      have hold : ∀ k, k < 0 → RowR ρ b.con k ((([] : List Value).drop (k * i.sz)).take i.sz) := fun k hk => by omega
      cases a0 with
      | none =>
        have ha : c = 0 := ha
        subst ha
        have hr := run_append_nil (P := P) w t ty e f z hu hi hz a2 rows.length c2 news hnl hN.at_ hr0 (by omega) (by simp only [Nat.zero_add] at hbytes; omega)
        obtain ⟨ρ', g1, g2, g3, g4⟩ := grown [] (grownCap w rows.length 0 e) (by simp) hold (by have := grownCap_ge w rows.length 0 e; omega) (by simpa using hmax 0)
        simp only [Nat.zero_add, Array.empty_append] at g3 g4 hr ⊢
        exact ⟨_, _, ρ', hr, g1, g2, g3, g4⟩
      | some a0 =>
        have hr := run_append_grow (P := P) w t ty e f z hu hi hz a0 0 c [] (by simp) (by simp) a2 rows.length c2 news hnl hN.at_ (by omega) (by omega) hfit
        obtain ⟨ρ', g1, g2, g3, g4⟩ := grown [] (grownCap w (0 + rows.length) c e) (by simp) hold (grownCap_ge w _ _ e) (hmax c)
        exact ⟨_, _, ρ', hr, g1, g2, g3, g4⟩
    · cases a0 with
      | none => have ha : c = 0 := ha; omega
      | some a0 =>
        obtain ⟨rfl, hcap⟩ := ha.resolve_left (by omega)
        rcases hM.2 with h2 | ⟨ho0, cs, hg, hcs, hrows⟩ | ⟨h9, _⟩
        · omega
        rotate_left
        · rw [hwr] at h9; cases h9
        · rw [hnn] at hrows
          rw [hsz] at hrows
          rw [ho0, Nat.zero_add]
          have hlast := (hrows (n - 1) (by omega)).1
          have e0 : n - 1 + 1 = n := by omega
          rw [e0] at hlast
          have ho : (cs.toList.take (n * i.sz)).length = n * i.sz := by simp; omega
          have hat : ∀ j u, (cs.toList.take (n * i.sz))[j]? = some u → w.cell? ((⟨ρ.β id, 0 * i.sz, none⟩ : Addr).add j) = some u := by
            intro j u hj
            have hadd : (⟨ρ.β id, 0 * i.sz, none⟩ : Addr).add j = ⟨ρ.β id, j, none⟩ := by unfold Addr.add; split <;> simp_all
            rw [hadd, cell_of_row w _ _ cs _ _ hg]
            rw [List.getElem?_take] at hj
            split at hj
            · simpa using hj
            · cases hj
          have hr := run_append_grow (P := P) w t ty e f z hu hi hz ⟨ρ.β id, 0 * i.sz, none⟩ n c (cs.toList.take (n * i.sz)) (by rw [ho, hs1]) hat a2 rows.length c2 news hnl hN.at_ (by omega) (by omega) hfit
          obtain ⟨ρ', g1, g2, g3, g4⟩ := grown (cs.toList.take (n * i.sz)) (grownCap w (n + rows.length) c e) ho (fun k hk => by
            have e2 : (k + 1) * i.sz ≤ n * i.sz := Nat.mul_le_mul_right _ hk
            have e3 : (k + 1) * i.sz = k * i.sz + i.sz := Nat.succ_mul _ _
            rw [List.drop_take, List.take_take, Nat.min_eq_left (by omega)]
            exact (hrows k hk).2) (grownCap_ge w _ _ e) (hmax c)
          exact ⟨_, _, ρ', hr, g1, g2, g3, g4⟩

theorem rowAt_of {ρ : Rho} : ∀ {c : Con} {e : E} {r : List AV} {vs : List Value}, c.rowAt? e = some r → 0 ≤ e.den → e.den < c.num.den → RowR ρ c e.den.toNat vs → VRs ρ r vs
  | .sym n f, e, r, vs, h, h0, _, hr => by cases h; exact hr e (by omega)
  | .snoc c q, e, r, vs, h, h0, h1, hr => by
    simp only [Con.rowAt?] at h
    split at h
    · rename_i r0 hc
      have hk := mergeRow_ok (ρ := ρ) _ _ _ vs h
      simp only [Con.num, E.den_mkAdd, E.den] at h1
      by_cases hlt : e.den < c.num.den
      · exact hk.1 (by simpa using hlt) (rowAt_of hc h0 hlt (hr.1 (by omega)))
      · exact hk.2 (by simpa using hlt) (hr.2 (by omega))
    · cases h
  | .lit [q], e, r, vs, h, h0, h1, hr => by
    cases h
    obtain ⟨r', a, b⟩ := hr
    have h3 : e.den.toNat = 0 := by simp [Con.num, E.den] at h1; omega
    rw [h3] at a; cases a; exact b
  | .lit [], _, _, _, h, _, _, _ => by cases h
  | .lit (_ :: _ :: _), _, _, _, h, _, _, _ => by cases h
  | .set _ _ _, _, _, _, h, _, _, _ => by cases h
theorem catRow_ok {ρ : Rho} {c : Con} {n : E} {sz : Nat} {g : E → List AV} {e : E} {vs : List Value} (hn : c.num.den = n.den) (h0 : 0 ≤ n.den) (he : 0 ≤ e.den) (hl : vs.length = sz)
    (h1 : e.den < n.den → RowR ρ c e.den.toNat vs) (h2 : n.den ≤ e.den → ∀ e' : E, e'.den = e.den - n.den → VRs ρ (g e') vs) : VRs ρ (catRow c n sz g e) vs := by
  have hany : VRs ρ (List.replicate sz .any) vs := by
    subst hl
    clear h1 h2
    induction vs with
    | nil => rfl
    | cons v ws ih => exact ⟨v, ws, rfl, trivial, ih⟩
  unfold catRow
  split
  · have h3 : n.den = 0 := by rw [← hn]; rfl
    exact h2 (by omega) e (by omega)
  · split
    · rename_i r hr
      split
      · rename_i q hq
        have hk := mergeRow_ok (ρ := ρ) _ _ _ vs hq
        by_cases hlt : e.den < n.den
        · exact hk.1 (by simpa using hlt) (rowAt_of hr he (by omega) (h1 hlt))
        · exact hk.2 (by simpa using hlt) (h2 (by omega) _ (by rw [E.den_subR]))
      · exact hany
    · exact hany
theorem RowR.push_inv {ρ : Rho} {c : Con} {r : List AV} {i : Nat} {vs : List Value} (h : RowR ρ (c.push r) i vs) : (i < c.num.den.toNat → RowR ρ c i vs) ∧ (i = c.num.den.toNat → VRs ρ r vs) := by
  unfold Con.push at h
  split at h
  · rename_i rows
    obtain ⟨r', a, b⟩ := h
    simp only [Con.num, E.den, Int.toNat_natCast]
    refine ⟨fun hi => ⟨r', by rw [List.getElem?_append_left hi] at a; exact a, b⟩, fun hi => ?_⟩
    subst hi
    simp at a
    subst a
    exact b
  · exact h
theorem RowR.snocs_inv {ρ : Rho} {i : Nat} {vs : List Value} : ∀ (rows : List (List AV)) (c : Con), 0 ≤ c.num.den → RowR ρ (Sym.snocs c rows) i vs → (i < c.num.den.toNat → RowR ρ c i vs) ∧ (∀ j r, rows[j]? = some r → i = c.num.den.toNat + j → VRs ρ r vs)
  | [], c, h0, h => ⟨fun _ => h, fun j r hj => by cases hj⟩
  | r :: rest, c, h0, h => by
    have e := c.num_push r h0
    obtain ⟨a, b⟩ := RowR.snocs_inv rest (c.push r) (by omega) h
    refine ⟨fun hi => (RowR.push_inv (a (by omega))).1 hi, fun j q hj hi => ?_⟩
    cases j with
    | zero => simp at hj; subst hj; exact (RowR.push_inv (a (by omega))).2 (by omega)
    | succ j => exact b j q (by simpa using hj) (by omega)
theorem snocs_forget (id : Nat) : ∀ (rows : List (List AV)) (c : Con), (snocs c rows).forget id = snocs (c.forget id) (forgetRows id rows)
  | [], c => rfl
  | r :: rest, c => by
    have e : (c.push r).forget id = (c.forget id).push (r.map (·.forget id)) := by
      cases c <;> simp [Con.push, Con.forget, forgetRows]
    rw [snocs, snocs_forget id rest, e]
    rfl
theorem VRs.raws {ρ : Rho} : ∀ (l : List Value), VRs ρ (l.map .raw) l
  | [] => rfl
  | v :: l => ⟨v, l, rfl, rfl, VRs.raws l⟩
theorem VRs.raws_inv {ρ : Rho} : ∀ (l vs : List Value), VRs ρ (l.map .raw) vs → vs = l
  | [], vs, h => h
  | v :: l, vs, ⟨u, ws, e, h1, h2⟩ => by
    have h1 : u = v := h1
    rw [e, h1, VRs.raws_inv l ws h2]
theorem MR.cells {ρ : Rho} {w : World} {id : Nat} {b : Blk} (h : MR ρ w id b) {k : Nat} (hk : k < b.con.num.den.toNat) :
    ∃ vs : List Value, vs.length = b.sz ∧ (∀ j v, vs[j]? = some v → w.cell? ⟨ρ.β id, ρ.o id + (k * b.sz + j), none⟩ = some v) ∧ RowR ρ b.con k vs := by
  rcases h.2 with h2 | ⟨ho, cs, a, b', c⟩ | ⟨_, _, _, c⟩
  · omega
  · obtain ⟨c1, c2⟩ := c k hk
    have e1 : (k + 1) * b.sz = k * b.sz + b.sz := Nat.succ_mul _ _
    refine ⟨_, by simp; omega, fun j v hj => ?_, c2⟩
    rw [cell_of_row w _ _ cs _ _ a, ho, Nat.zero_add]
    rw [List.getElem?_take] at hj
    split at hj
    · rw [List.getElem?_drop] at hj; simpa using hj
    · cases hj
  · exact c k hk
theorem span_of {ρ : Rho} {w : World} {id : Nat} {b : Blk} (h : MR ρ w id b) (r : Nat) : ∀ m, r + m ≤ b.con.num.den.toNat →
    ∃ news : List Value, news.length = m * b.sz ∧ (∀ j u, news[j]? = some u → w.cell? ⟨ρ.β id, ρ.o id + (r * b.sz + j), none⟩ = some u) ∧ ∀ k, k < m → RowR ρ b.con (r + k) ((news.drop (k * b.sz)).take b.sz)
  | 0, _ => ⟨[], by simp, fun j u hj => by simp at hj, fun k hk => by omega⟩
  | m + 1, hm => by
    obtain ⟨news, h1, h2, h3⟩ := span_of h r m (by omega)
    obtain ⟨vs, g1, g2, g3⟩ := h.cells (k := r + m) (by omega)
    refine ⟨news ++ vs, by rw [List.length_append, h1, g1, Nat.succ_mul], fun j u hj => ?_, fun k hk => ?_⟩
    · rw [List.getElem?_append] at hj
      split at hj
      · exact h2 j u hj
      · rename_i hlt
        have e := g2 _ u hj
        rw [h1] at e hlt
        have e1 : (r + m) * b.sz + (j - m * b.sz) = r * b.sz + j := by rw [Nat.add_mul]; omega
        rw [e1] at e
        exact e
    · by_cases hk2 : k < m
      · rw [seg_old news vs m k b.sz h1 hk2]; exact h3 k hk2
      · have e : k = m := by omega
        subst e
        rw [← h1, List.drop_left, List.take_of_length_le (by omega)]
        exact g3
theorem MR.forgetR {ρ : Rho} {w : World} {j id : Nat} {b : Blk} (h : MR ρ w j b) : MR ρ w j (b.forget id) := by
  have hρ := Rho.le_refl ρ (some id)
  obtain ⟨h1, h2⟩ := h
  refine ⟨h1, ?_⟩
  simp only [Blk.forget, Con.num_forget]
  rcases h2 with h2 | ⟨ho, cs, a, b', c⟩ | ⟨h3, h4, h5, c⟩
  · exact .inl h2
  · exact .inr (.inl ⟨ho, cs, a, b', fun i hi => ⟨(c i hi).1, (c i hi).2.forget hρ⟩⟩)
  · refine .inr (.inr ⟨h3, h4, h5, fun i hi => ?_⟩)
    obtain ⟨vs, e1, e2, e3⟩ := c i hi
    exact ⟨vs, e1, e2, e3.forget hρ⟩
theorem MRel.forgetR {w0 : World} {F : Nat → Prop} {ρ : Rho} {mem : List (Option Blk)} {w : World} (h : MRel w0 F ρ mem w) (id : Nat) : MRel w0 F ρ (mem.map (·.map (·.forget id))) w := by
  have look : ∀ j c, blkOf (mem.map (·.map (·.forget id))) j = some c → ∃ c0, blkOf mem j = some c0 ∧ c = c0.forget id := by
    intro j c hc
    rw [blkOf_forget] at hc
    cases h0 : blkOf mem j with
    | none => rw [h0] at hc; cases hc
    | some c0 => rw [h0] at hc; exact ⟨c0, rfl, (Option.some.inj hc).symm⟩
  refine ⟨fun j c hc => ?_, fun i j c d hc hd hne gi gj hwr => ?_, fun i c hc hwr hg => ?_, h.fr⟩
  · obtain ⟨c0, h1, rfl⟩ := look j c hc
    exact ⟨(h.blk j c0 h1).1, (h.blk j c0 h1).2.forgetR⟩
  · obtain ⟨c0, h1, rfl⟩ := look i c hc
    obtain ⟨d0, h3, rfl⟩ := look j d hd
    exact h.inj i j c0 d0 h1 h3 hne gi gj hwr
  · obtain ⟨c0, h1, rfl⟩ := look i c hc
    exact h.own i c0 h1 hwr hg
theorem MR.weaken {ρ : Rho} {w : World} {id : Nat} {b : Blk} (h : MR ρ w id b) (k : Con) (hn : k.num.den.toNat = b.con.num.den.toNat) (hr : ∀ i, i < b.con.num.den.toNat → ∀ vs : List Value, vs.length = b.sz → RowR ρ b.con i vs → RowR ρ k i vs) : MR ρ w id { b with con := k } := by
  obtain ⟨h1, h2⟩ := h
  refine ⟨h1, ?_⟩
  simp only [hn]
  rcases h2 with h2 | ⟨ho, cs, a, b', c⟩ | ⟨h3, h4, h5, c⟩
  · exact .inl h2
  · refine .inr (.inl ⟨ho, cs, a, b', fun i hi => ⟨(c i hi).1, hr i hi _ ?_ (c i hi).2⟩⟩)
    have e1 := (c i hi).1
    have e2 : (i + 1) * b.sz = i * b.sz + b.sz := Nat.succ_mul _ _
    simp only [List.length_take, List.length_drop, Array.length_toList]
    omega
  · refine .inr (.inr ⟨h3, h4, h5, fun i hi => ?_⟩)
    obtain ⟨vs, e1, e2, e3⟩ := c i hi
    exact ⟨vs, e1, e2, hr i hi vs e1 e3⟩
theorem MR.trunc {ρ : Rho} {w : World} {id : Nat} {b : Blk} (h : MR ρ w id b) (k : Con) (hn : k.num.den.toNat ≤ b.con.num.den.toNat) (hr : ∀ i, i < k.num.den.toNat → ∀ vs : List Value, RowR ρ b.con i vs → RowR ρ k i vs) : MR ρ w id { b with con := k } := by
  obtain ⟨h1, h2⟩ := h
  refine ⟨h1, ?_⟩
  rcases h2 with h2 | ⟨ho, cs, a, b', c⟩ | ⟨h3, h4, h5, c⟩
  · exact .inl ⟨h2.1, by have := h2.2; show k.num.den.toNat = 0; omega⟩
  · exact .inr (.inl ⟨ho, cs, a, b', fun i hi => ⟨(c i (Nat.lt_of_lt_of_le hi hn)).1, hr i hi _ (c i (Nat.lt_of_lt_of_le hi hn)).2⟩⟩)
  · refine .inr (.inr ⟨h3, h4, h5, fun i hi => ?_⟩)
    obtain ⟨vs, e1, e2, e3⟩ := c i (Nat.lt_of_lt_of_le hi hn)
    exact ⟨vs, e1, e2, hr i hi vs e3⟩
theorem one_zeroCells {z : Array Value} {n : Nat} (hz : ∀ v ∈ z.toList, v.oneCell' = true) : ∀ v ∈ (Builtin.zeroCells z n).toList, v.oneCell' = true := by
  intro v hv
  unfold Builtin.zeroCells at hv
  simp only [Array.toList_map, List.mem_map, Array.toList_range, List.mem_range] at hv
  obtain ⟨i, hi, rfl⟩ := hv
  have hp : 0 < z.size := by
    rcases Nat.eq_zero_or_pos z.size with h | h
    · rw [h] at hi; omega
    · exact h
  have hlt : i % z.size < z.size := Nat.mod_lt _ hp
  rw [getElem!_pos z (i % z.size) hlt]
  exact hz _ (Array.mem_toList_iff.2 (Array.getElem_mem hlt))
theorem MRel.weaken {w0 : World} {F : Nat → Prop} {ρ : Rho} {mem : List (Option Blk)} {w : World} (h : MRel w0 F ρ mem w) {id : Nat} {b b' : Blk} (hb : blkOf mem id = some b) (hM : MR ρ w id b') (hwr : b'.wr = b.wr) : MRel w0 F ρ (setAt mem id (some b')) w := by
  have look : ∀ j c, blkOf (setAt mem id (some b')) j = some c → ∃ c0, blkOf mem j = some c0 ∧ c.wr = c0.wr ∧ (j = id → c = b') ∧ (j ≠ id → c = c0) := by
    intro j c hc
    rw [blkOf_setAt] at hc
    split at hc
    · rename_i e
      subst e
      have e2 := (Option.some.inj hc).symm
      subst e2
      exact ⟨b, hb, hwr, fun _ => rfl, fun e => absurd rfl e⟩
    · rename_i e
      exact ⟨c, hc, rfl, fun e2 => absurd e2 e, fun _ => rfl⟩
  refine ⟨fun j c hc => ?_, fun i j c d hc hd hne gi gj hw => ?_, fun i c hc hw hg => ?_, h.fr⟩
  · obtain ⟨c0, h1, _, h3, h4⟩ := look j c hc
    refine ⟨(h.blk j c0 h1).1, ?_⟩
    by_cases e : j = id
    · rw [h3 e, e]; exact hM
    · rw [h4 e]; exact (h.blk j c0 h1).2
  · obtain ⟨c0, h1, h2, _⟩ := look i c hc
    obtain ⟨d0, h3, h4, _⟩ := look j d hd
    exact h.inj i j c0 d0 h1 h3 hne gi gj (by rw [← h2, ← h4]; exact hw)
  · obtain ⟨c0, h1, h2, _⟩ := look i c hc
    exact h.own i c0 h1 (by rw [← h2]; exact hw) hg
theorem setAt_setAt {α : Type} : ∀ (l : List (Option α)) (i : Nat) (x y : Option α), setAt (setAt l i x) i y = setAt l i y
  | [], 0, _, _ => rfl
  | [], n + 1, x, y => by simp only [setAt]; rw [setAt_setAt]
  | _ :: _, 0, _, _ => rfl
  | a :: l, n + 1, x, y => by simp only [setAt]; rw [setAt_setAt]
theorem run_append_zero {P : Program} {t e ty : TypeId} {i : TI} (hu : P.underlying t = some (.slice e)) (hok : i.ok P e) (w : World) (a0 a2 : Option Addr) (n c c2 : Nat) (hnc : n ≤ c) :
    (Builtin.append_ #[t, t] ty #[.slice a0 n c, .slice a2 0 c2]).run P w = .ok (.slice a0 n c) w := by
  obtain ⟨f, z, hi, hs1, hs2, hz, hz2, hz3⟩ := hok.info
  have hf : (Builtin.firstCells f.size 0 (.slice a2 0 c2)).run P w = .ok #[] w := by
    cases a2 with
    | none => exact run_firstCells_none (P := P) w f.size 0 0 c2
    | some a => exact run_firstCells_some (P := P) w f.size 0 a 0 c2 [] (by simp) (fun j v hj => by simp at hj)
  have hst : ∀ a : Addr, (storeCells a ([] : List Value)).run P w = .ok () w := fun a => rfl
  cases a0 with
  | none => simp [Builtin.append_, run_underlying hu, sizeOf, typeInfo, hi, Builtin.lenOf, hnc, hf]
  | some a => simp [Builtin.append_, run_underlying hu, sizeOf, typeInfo, hi, Builtin.lenOf, hnc, hf, hst]

/-- append of rows that are only named. -/
theorem append_sym {P : Program} {w0 : World} {F : Nat → Prop} {ρ : Rho} {mem : List (Option Blk)} {w : World} (hm : MRel w0 F ρ mem w) {t e ty : TypeId} {i : TI} (hu : P.underlying t = some (.slice e)) (hok : i.ok P e) (hby : i.bytes ≤ 64)
    {id : Nat} {b : Blk} (hb : blkOf mem id = some b) (hsz : b.sz = i.sz) (hwr : b.wr = true) (hty : b.ty = e) {n : Nat} (hn : n ≤ 1099511627776) (hnum : b.con.num.den = (n : Int)) {a0 : Option Addr} {c : Nat} (hnc : n ≤ c) (hcm : c ≤ maxLen) (ha : SlAt ρ id i.sz 0 c a0)
    {id2 : Nat} {b2 : Blk} (hb2 : blkOf mem id2 = some b2) (hsz2 : b2.sz = i.sz) {m2 : E} {f2 : E → List AV} (hc2 : b2.con = .sym m2 f2) {r m : Nat} (hm2 : m ≤ 1099511627776) (hrm : r + m ≤ m2.den.toNat) (h1 : oneF m2 f2 = true)
    {a2 : Option Addr} {c2 : Nat} (hs2 : SlAt ρ id2 i.sz r c2 a2) (hmc : m ≤ c2) {len row2 len2 : E} (hlen : len.den = n) (hrow2 : row2.den = r) (hlen2 : len2.den = m) :
    ∃ (v : Value) (w' : World) (ρ' : Rho), (Builtin.append_ #[t, t] ty #[.slice a0 n c, .slice a2 m c2]).run P w = .ok v w' ∧ ρ.le ρ' (some id) ∧ (∀ j, ρ'.al j → ρ.al j) ∧
      MRel w0 F ρ' (setAt (mem.map (·.map (·.forget id))) id (some { b with con := .sym (E.mkAdd len len2) (catRow (b.con.forget id) len i.sz fun e => (f2 (E.addR e row2)).map (·.forget id)) })) w' ∧
      VR ρ' (.sl id i.sz (.lit 0) (.lit ((n + m : Nat) : Int)) ((n + m : Nat) : Int)) v := by
  obtain ⟨hal, hM⟩ := hm.blk id b hb
  obtain ⟨hal2, hM2⟩ := hm.blk id2 b2 hb2
  have hnn : (b.con.forget id).num.den = len.den := by rw [Con.num_forget, hnum, hlen]
  have hnum2 : b2.con.num.den.toNat = m2.den.toNat := by rw [hc2]; rfl
  by_cases hm0 : m = 0
  · subst hm0
    refine ⟨_, w, ρ, run_append_zero hu hok w a0 a2 n c c2 hnc, Rho.le_refl ρ _, fun _ h => h, ?_, ?_⟩
    · have hF := hm.forgetR id
      have hbF : blkOf (mem.map (·.map (·.forget id))) id = some (b.forget id) := by rw [blkOf_forget, hb]; rfl
      refine hF.weaken hbF ?_ rfl
      refine (hM.forgetR (id := id)).weaken _ ?_ (fun k hk vs hvs hr => ?_)
      · simp only [Con.num, Blk.forget, Con.num_forget, E.den_mkAdd, hlen, hlen2, hnum]; omega
      · intro e' he'
        simp only [Blk.forget, Con.num_forget, hnum] at hk
        refine catRow_ok hnn (by omega) (by omega) (by rw [hvs]; exact hsz) (fun _ => ?_) (fun h => by omega)
        have e3 : e'.den.toNat = k := by omega
        rw [e3]; exact hr
    · exact ⟨hal, by simp [E.den], by simp only [E.den]; omega, by simp only [E.den]; omega, a0, c, by simp [E.den], by simp only [E.den]; omega, hcm, by simpa [E.den] using ha⟩
  · obtain ⟨ha2, hcap2⟩ : a2 = some ⟨ρ.β id2, ρ.o id2 + r * i.sz, none⟩ ∧ True := by
      cases a2 with
      | none => have h9 : c2 = 0 := hs2; omega
      | some a =>
        obtain ⟨rfl, _⟩ := hs2.resolve_left (by omega)
        exact ⟨rfl, trivial⟩
    subst ha2
    obtain ⟨news, g1, g2, g3⟩ := span_of hM2 r m (by omega)
    rw [hsz2] at g1 g2 g3
    let rows : List (List AV) := (List.range m).map fun k => ((news.drop (k * i.sz)).take i.sz).map AV.raw
    have hrl : rows.length = m := by simp [rows]
    have hrow : ∀ j q, rows[j]? = some q → j < m ∧ q = ((news.drop (j * i.sz)).take i.sz).map AV.raw := by
      intro j q hj
      have hlt := (List.getElem?_eq_some_iff.1 hj).1
      rw [hrl] at hlt
      refine ⟨hlt, ?_⟩
      simp only [rows, List.getElem?_map, List.getElem?_range hlt, Option.map_some, Option.some.injEq] at hj
      exact hj.symm
    have hcell : ∀ k, k < m → VRs ρ (f2 (.lit ((r + k : Nat) : Int))) ((news.drop (k * i.sz)).take i.sz) := by
      intro k hk
      have h9 := g3 k hk
      rw [hc2] at h9
      exact h9 _ rfl
    have hN : News P ρ w rows i.sz ⟨ρ.β id2, ρ.o id2 + r * i.sz, none⟩ news := by
      refine ⟨by rw [hrl]; exact g1, fun j u hj => ?_, fun u hu => ?_, fun j q hj => ?_⟩
      · have hadd : (⟨ρ.β id2, ρ.o id2 + r * i.sz, none⟩ : Addr).add j = ⟨ρ.β id2, ρ.o id2 + r * i.sz + j, none⟩ := by unfold Addr.add; split <;> simp_all
        rw [hadd, Nat.add_assoc]
        exact g2 j u hj
      · obtain ⟨j, hj, he⟩ := List.getElem_of_mem hu
        have hpos := hok.pos
        have hj' : j < m * i.sz := by omega
        have hq : j / i.sz < m := Nat.div_lt_of_lt_mul (by rw [Nat.mul_comm]; exact hj')
        have hall : (f2 (.lit ((r + j / i.sz : Nat) : Int))).all AV.one = true := List.all_eq_true.1 h1 (r + j / i.sz) (by simp; omega)
        refine (hcell _ hq).one hall u ?_
        have hm' : j % i.sz < i.sz := Nat.mod_lt _ hpos
        have hd : j / i.sz * i.sz + j % i.sz = j := by rw [Nat.mul_comm]; exact Nat.div_add_mod j i.sz
        refine List.mem_of_getElem? (i := j % i.sz) ?_
        rw [List.getElem?_take, if_pos hm', List.getElem?_drop, hd, ← he]
        exact List.getElem?_eq_getElem hj
      · obtain ⟨_, rfl⟩ := hrow j q hj
        exact VRs.raws _
    obtain ⟨v, w', ρ', r1, r2, r3, r4, r5⟩ := append_blk (P := P) hm hu (ty := ty) hok hby hb hsz hwr hty (n := n) hn hnum hnc hcm ha (rows := rows) (by omega) (by omega) hN (c2 := c2)
    rw [hrl] at r1 r5
    refine ⟨v, w', ρ', r1, r2, r3, ?_, r5⟩
    have hB : blkOf (setAt (mem.map (·.map (·.forget id))) id (some { b with con := (snocs b.con rows).forget id })) id = some { b with con := (snocs b.con rows).forget id } := by rw [blkOf_setAt, if_pos rfl]
    have hMB := (r4.blk id _ hB).2
    have hS : (snocs b.con rows).num.den = n + m := by rw [num_snocs _ _ (by omega), hnum, hrl]
    have hw9 := hMB.weaken (.sym (E.mkAdd len len2) (catRow (b.con.forget id) len i.sz fun e => (f2 (E.addR e row2)).map (·.forget id))) (by
        simp only [Con.num_forget, hS, Con.num, E.den_mkAdd, hlen, hlen2]) (fun k hk vs hvs hr => by
      simp only [Con.num_forget, hS] at hk
      simp only at hr
      rw [snocs_forget] at hr
      obtain ⟨q1, q2⟩ := RowR.snocs_inv _ _ (by rw [Con.num_forget]; omega) hr
      rw [Con.num_forget, hnum] at q1 q2
      intro e' he'
      refine catRow_ok hnn (by omega) (by omega) (by rw [hvs]; exact hsz) (fun h => ?_) (fun h e2 he2 => ?_)
      · have e3 : e'.den.toNat = k := by omega
        rw [e3]; exact q1 (by omega)
      · have hk2 : k - n < m := by omega
        have hraw : (forgetRows id rows)[k - n]? = some (((news.drop ((k - n) * i.sz)).take i.sz).map AV.raw) := by
          simp only [forgetRows, rows, List.getElem?_map, List.getElem?_range hk2, Option.map_some, List.map_map]
          congr 1
          simp only [Function.comp, List.map_map]
          refine List.map_congr_left fun v _ => ?_
          simp [AV.forget, AV.names]
        have hv := VRs.raws_inv _ _ (q2 (k - n) _ hraw (by omega))
        rw [hv]
        refine VRs.forget r2 ?_
        have h9 := g3 (k - n) hk2
        rw [hc2] at h9
        exact h9 _ (by rw [E.den_addR]; omega))
    have hfin := r4.weaken hB hw9 rfl
    rw [setAt_setAt] at hfin
    exact hfin


theorem placeOK {P : Program} {τ : Tab} (hτ : ∀ t i, τ t = some i → i.ok P t) {t : TypeId} {f : Nat} {off : Nat} (h : fieldOff τ t f = some off) :
    ∃ gs g, P.underlying t = some (.struct gs) ∧ gs[f]? = some g ∧ g.offset = off ∧ ∃ j, τ g.type = some j := by
  unfold fieldOff at h
  split at h
  · rename_i fs agg sz bytes zero ht
    split at h
    · rename_i ft off' hf
      split at h
      · rename_i j hj
        cases h
        obtain ⟨d, h1, h2⟩ := (hτ t _ ht).und
        obtain ⟨gs, rfl, h3⟩ := h2
        have h4 : (gs.toList.map (fun g => (g.type, g.offset)))[f]? = some (ft, off) := by rw [h3]; exact hf
        rw [List.getElem?_map] at h4
        cases hg : gs.toList[f]? with
        | none => rw [hg] at h4; cases h4
        | some g =>
          rw [hg] at h4
          simp only [Option.map_some, Option.some.injEq, Prod.mk.injEq] at h4
          refine ⟨gs, g, h1, by simpa using hg, h4.2, j, by rw [h4.1]; exact hj⟩
      · cases h
    · cases h
  · cases h

theorem foldl_over (vs : List Value) : ∀ (l : List Value) (off j : Nat), off + j + vs.length ≤ l.length →
    ((vs.zipIdx j).foldl (fun (cs : Array Value) (c : Value × Nat) => cs.setIfInBounds (off + c.2) c.1) l.toArray) = (over l (off + j) vs).toArray := by
  induction vs with
  | nil => intro l off j _; simp [over]
  | cons v vs ih =>
    intro l off j h
    simp only [List.zipIdx_cons, List.foldl_cons, List.length_cons] at h ⊢
    have e : (l.toArray.setIfInBounds (off + j) v) = (l.set (off + j) v).toArray := by simp
    rw [e, ih (l.set (off + j) v) off (j + 1) (by simp; omega)]
    congr 1
    apply List.ext_getElem?
    intro k
    rw [over_get _ _ _ (by simp; omega), over_get _ _ _ (by simp; omega)]
    simp only [List.length_cons]
    by_cases h1 : off + (j + 1) ≤ k ∧ k < off + (j + 1) + vs.length
    · rw [if_pos h1, if_pos (by omega)]
      have e2 : k - (off + j) = (k - (off + (j + 1))) + 1 := by omega
      rw [e2]
      simp
    · rw [if_neg h1]
      by_cases h2 : k = off + j
      · subst h2
        rw [if_pos (by omega), List.getElem?_set_self (by omega), Nat.sub_self]
        rfl
      · rw [if_neg (by omega), List.getElem?_set_ne (fun e => h2 e.symm)]
theorem foldl_over' (a : Array Value) (l : List Value) (off : Nat) (h : off + a.size ≤ l.length) :
    (a.zipIdx.foldl (fun (cs : Array Value) (c : Value × Nat) => cs.setIfInBounds (off + c.2) c.1) l.toArray) = (over l off a.toList).toArray := by
  have := foldl_over a.toList l off 0 (by simpa using h)
  simp only [Nat.add_zero] at this
  rw [← this]
  obtain ⟨al⟩ := a
  simp
theorem fillA_sound {ρ : Rho} {pl pl' : Nat → Option (Nat × Nat)} (hp : ∀ i x, pl i = some x → pl' i = some x) {α : Type} (f : α → AV) (g : α → Value) (ix : α → Nat) : ∀ (parts : List α), (∀ x ∈ parts, VR ρ (f x) (g x)) → ∀ (cells res : List AV) (vs : List Value), VRs ρ cells vs →
    fillA pl cells (parts.map fun x => (ix x, f x)) = some res → ∃ us, Instr.fill pl' vs.toArray (parts.map fun x => (ix x, g x)) = some us.toArray ∧ VRs ρ res us := by
  intro parts
  induction parts with
  | nil => intro _ cells res vs hv h; cases h; exact ⟨vs, rfl, hv⟩
  | cons x rest ih =>
    intro hall cells res vs hv h
    simp only [List.map_cons, fillA] at h
    split at h
    · rename_i off size cs hpl hcs
      split at h
      · cases h
      · rename_i hc
        simp at hc
        obtain ⟨hc1, hc2⟩ := hc
        have hx := (hall x (by simp)).cells hcs
        have hl := hx.length
        have hvl := hv.length
        have hsz : (g x).cells.size = size := by simpa [hc1] using hl
        obtain ⟨us, h1, h2⟩ := ih (fun y hy => hall y (by simp [hy])) _ res _ (hv.over off hx) h
        refine ⟨us, ?_, h2⟩
        simp only [List.map_cons, Instr.fill, hp _ _ hpl]
        rw [if_neg (by simp [hsz, hvl]; omega), foldl_over' _ _ _ (by omega)]
        exact h1
    · cases h
theorem zero_of {P : Program} {t : TypeId} {i : TI} (h : i.ok P t) (w : World) : ∃ z, (zeroValue t).run P w = .ok z w ∧ z.cells.toList = i.zero := by
  obtain ⟨f, z, h1, _, _, h2, _, h3⟩ := h.info
  exact ⟨z, by simp [zeroValue, typeInfo, h1, h2], h3⟩
theorem sizeOf_of {P : Program} {t : TypeId} {i : TI} (h : i.ok P t) (w : World) : (sizeOf t).run P w = .ok i.sz w := by
  obtain ⟨f, z, h1, h2, _⟩ := h.info
  simp [sizeOf, typeInfo, h1, h2]
theorem VRs.zero {ρ : Rho} (l : List Value) : VRs ρ (l.map .ofCell) l := by
  have := VRs.map (ρ := ρ) AV.ofCell id l (fun x _ => VR.ofCell x)
  simpa using this
theorem VRs.rep {ρ : Rho} {l : List AV} {vs : List Value} (h : VRs ρ l vs) : ∀ n, VRs ρ (rep n l) (List.replicate n vs).flatten
  | 0 => rfl
  | n + 1 => by rw [Sym.rep, List.replicate_succ, List.flatten_cons]; exact h.append (h.rep n)
theorem RowR.rowsOf {ρ : Rho} {sz : Nat} : ∀ (n : Nat) (l : List AV) (vs : List Value), VRs ρ l vs → ∀ i, i < n → RowR ρ (.lit (rowsOf sz n l)) i ((vs.drop (i * sz)).take sz)
  | 0, _, _, _, _, h => by omega
  | n + 1, l, vs, hv, 0, _ => ⟨l.take sz, rfl, by simpa using hv.take sz⟩
  | n + 1, l, vs, hv, i + 1, h => by
    obtain ⟨r, h1, h2⟩ := RowR.rowsOf n (l.drop sz) (vs.drop sz) (hv.drop sz) i (by omega)
    refine ⟨r, by simpa [Sym.rowsOf] using h1, ?_⟩
    rw [List.drop_drop] at h2
    have e : (i + 1) * sz = sz + i * sz := by rw [Nat.succ_mul]; omega
    rw [e]
    exact h2
theorem length_rowsOf (sz : Nat) : ∀ (n : Nat) (l : List AV), (rowsOf sz n l).length = n
  | 0, _ => rfl
  | n + 1, l => by simp [rowsOf, length_rowsOf sz n]
theorem range_flat (z : List Value) (n : Nat) (h : 0 < z.length) : ((Array.range (n * z.length)).map (fun i => z.toArray[i % z.toArray.size]!)) = (List.replicate n z).flatten.toArray := by
  apply Array.ext_getElem?
  intro i
  have key : ∀ (n i : Nat), ((List.replicate n z).flatten)[i]? = if i < n * z.length then z[i % z.length]? else none := by
    intro n
    induction n with
    | zero => intro i; simp
    | succ n ih =>
      intro i
      rw [List.replicate_succ, List.flatten_cons, List.getElem?_append, ih]
      have e : (n + 1) * z.length = n * z.length + z.length := Nat.succ_mul _ _
      by_cases h1 : i < z.length
      · rw [if_pos h1, if_pos (by omega), Nat.mod_eq_of_lt h1]
      · rw [if_neg h1]
        by_cases h2 : i < (n + 1) * z.length
        · rw [if_pos (by omega), if_pos h2]
          conv => rhs; rw [Nat.mod_eq_sub_mod (show z.length ≤ i by omega)]
        · rw [if_neg (by omega), if_neg h2]
  simp only [Array.getElem?_map, List.getElem?_toArray, key]
  by_cases h1 : i < n * z.length
  · have hm : i % z.length < z.length := Nat.mod_lt _ h
    rw [if_pos h1]
    simp [h1, hm]
  · rw [if_neg h1]
    simp [h1]

/-- A new block that holds rows. -/
theorem newRow_sound {P : Program} {w0 : World} {F : Nat → Prop} {ρ : Rho} {mem : List (Option Blk)} {w : World} (h : MRel w0 F ρ mem w) {fresh : Nat} (hf : ¬ ρ.al fresh) (b : Blk) (cs : Array Value) (hwr : 0 < b.sz)
    (hr : ∀ i, i < b.con.num.den.toNat → (i + 1) * b.sz ≤ cs.size ∧ RowR ρ b.con i ((cs.toList.drop (i * b.sz)).take b.sz)) :
    (newRow b.ty cs).run P w = .ok ⟨w.heap.size, 0, none⟩ (w.alloc (.cells cs b.ty)) ∧ MRel w0 F (ρ.with fresh w.heap.size cs.size) (setAt mem fresh (some b)) (w.alloc (.cells cs b.ty)) := by
  refine ⟨by simp only [newRow, newObj, Sem.run_bind, Sem.run, Result.andThen_ok, Sem.run_pure]; rfl, ?_⟩
  exact h.alloc hf b cs rfl rfl rfl rfl hwr hr
end Go.Sym
