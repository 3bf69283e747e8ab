/- A reckoning of code by values known in part: what is left to be proved. -/
import Derived.Test.YtefikodgmhlfnaaYf
set_option linter.unusedSimpArgs false
set_option linter.unusedVariables false
namespace Go.Sym

inductive VC : Type 1 where
  | tt
  | ff
  | p (a : Prop)
  | and (a b : VC)
  | imp (c : Prop) (a : VC)
  | all {X : Type} (f : X → VC)
  | ex {X : Type} (f : X → VC)
def VC.den : VC → Prop
  | .tt => True
  | .ff => False
  | .p a => a
  | .and a b => a.den ∧ b.den
  | .imp c a => c → a.den
  | .all f => ∀ x, (f x).den
  | .ex f => ∃ x, (f x).den
def VC.mkAnd : VC → VC → VC
  | .tt, b => b
  | a, .tt => a
  | a, b => .and a b
def VC.mkImp (c : Prop) : VC → VC
  | .tt => .tt
  | a => .imp c a
theorem VC.den_and (a b : VC) : (VC.mkAnd a b).den ↔ a.den ∧ b.den := by unfold VC.mkAnd; split <;> simp [VC.den]
theorem VC.den_imp (c : Prop) (a : VC) : (VC.mkImp c a).den ↔ (c → a.den) := by unfold VC.mkImp; split <;> simp [VC.den]

def B.pr : B → Bool → Prop
  | .lit b, s => b = s
  | .v g, s => g () = s
  | .lt a b, true => a.den < b.den
  | .lt a b, false => b.den ≤ a.den
  | .le a b, true => a.den ≤ b.den
  | .le a b, false => b.den < a.den
  | .eq a b, true => a.den = b.den
  | .eq a b, false => a.den ≠ b.den
  | .not a, s => a.pr (!s)
  | .and a b, true => a.pr true ∧ b.pr true
  | .and a b, false => a.pr false ∨ b.pr false
  | .or a b, true => a.pr true ∨ b.pr true
  | .or a b, false => a.pr false ∧ b.pr false
  | .beq a b, true => (a.pr true ↔ b.pr true)
  | .beq a b, false => (a.pr true ↔ b.pr false)
theorem B.pr_iff : ∀ (b : B) (s : Bool), b.pr s ↔ b.den = s
  | .lit b, s => Iff.rfl
  | .v g, s => Iff.rfl
  | .lt a b, true => by simp [B.pr, B.den]
  | .lt a b, false => by simp [B.pr, B.den]
  | .le a b, true => by simp [B.pr, B.den]
  | .le a b, false => by simp [B.pr, B.den]
  | .eq a b, true => by simp [B.pr, B.den]
  | .eq a b, false => by simp [B.pr, B.den]
  | .not a, s => by rw [B.pr, B.pr_iff a, B.den]; cases a.den <;> cases s <;> simp
  | .and a b, true => by rw [B.pr, B.pr_iff a, B.pr_iff b, B.den]; cases a.den <;> cases b.den <;> simp
  | .and a b, false => by rw [B.pr, B.pr_iff a, B.pr_iff b, B.den]; cases a.den <;> cases b.den <;> simp
  | .or a b, true => by rw [B.pr, B.pr_iff a, B.pr_iff b, B.den]; cases a.den <;> cases b.den <;> simp
  | .or a b, false => by rw [B.pr, B.pr_iff a, B.pr_iff b, B.den]; cases a.den <;> cases b.den <;> simp
  | .beq a b, true => by rw [B.pr, B.pr_iff a, B.pr_iff b, B.den]; cases a.den <;> cases b.den <;> simp
  | .beq a b, false => by rw [B.pr, B.pr_iff a, B.pr_iff b, B.den]; cases a.den <;> cases b.den <;> simp

def eqE : E → E → VC
  | .lit a, .lit b => if a = b then .tt else .ff
  | a, b => .p (a.den = b.den)
def intV (e : E) (lo hi : Int) (e' : E) (lo' hi' : Int) : VC :=
  .mkAnd (eqE e e') (if lo' ≤ lo ∧ hi ≤ hi' then .tt else .imp (lo ≤ e.den ∧ e.den ≤ hi) (.p (lo' ≤ e'.den ∧ e'.den ≤ hi')))
def boolV : B → B → VC
  | .lit a, .lit b => if a = b then .tt else .ff
  | b, .lit c => .p (b.pr c)
  | .lit c, b => .p (b.pr c)
  | a, b => .p (a.pr true ↔ b.pr true)
def hiV (l : E) (h : Int) (l' : E) (h' : Int) : VC := if h ≤ h' then .tt else .imp (l.den ≤ h) (.p (l'.den ≤ h'))
mutual
def leV : AV → AV → VC
  | _, .any => .tt
  | .int k e lo hi, .int k' e' lo' hi' => if k = k' then intV e lo hi e' lo' hi' else .ff
  | .bool b, .bool b' => boolV b b'
  | .ptr i sz r f, .ptr i' sz' r' f' => if i = i' ∧ sz = sz' ∧ f = f' then eqE r r' else .ff
  | .sl i sz r l h, .sl i' sz' r' l' h' => if i = i' ∧ sz = sz' then .mkAnd (eqE r r') (.mkAnd (eqE l l') (hiV l h l' h')) else .ff
  | .agg l, .agg l' => lesV l l'
  | .tup l, .tup l' => lesV l l'
  | .fn f l, .fn f' l' => if f = f' ∧ AV.bnd l = AV.bnd l' then lesV l l' else .ff
  | .raw v, .raw v' => .p (v = v')
  | _, _ => .ff
def lesV : List AV → List AV → VC
  | [], [] => .tt
  | a :: l, b :: m => .mkAnd (leV a b) (lesV l m)
  | _, _ => .ff
end
theorem eqE_den {a b : E} (h : (eqE a b).den) : a.den = b.den := by
  unfold eqE at h
  split at h
  · split at h
    · rename_i e; rw [e]
    · exact h.elim
  · exact h
theorem intV_den {e e' : E} {lo hi lo' hi' : Int} (h : (intV e lo hi e' lo' hi').den) : e.den = e'.den ∧ (lo ≤ e.den → e.den ≤ hi → lo' ≤ e'.den ∧ e'.den ≤ hi') := by
  unfold intV at h
  rw [VC.den_and] at h
  have he := eqE_den h.1
  refine ⟨he, fun h1 h2 => ?_⟩
  have h := h.2
  split at h
  · rename_i hh; rw [← he]; omega
  · exact h ⟨h1, h2⟩
theorem boolV_den {a b : B} (h : (boolV a b).den) : a.den = b.den := by
  unfold boolV at h
  split at h
  · split at h
    · rename_i e; rw [e]
    · exact h.elim
  · exact (B.pr_iff _ _).1 h
  · exact ((B.pr_iff _ _).1 h).symm
  · have h : a.pr true ↔ b.pr true := h
    rw [B.pr_iff, B.pr_iff] at h
    cases ha : a.den <;> cases hb : b.den <;> simp_all
mutual
theorem leV_den : ∀ (a b : AV), (leV a b).den → leP a b
  | a, .any, _ => by cases a <;> trivial
  | .int k e lo hi, .int k' e' lo' hi', h => by
    rw [leV] at h
    split at h
    · rename_i e; exact ⟨e, intV_den h⟩
    · exact h.elim
  | .bool b, .bool b', h => boolV_den (by rw [leV] at h; exact h)
  | .ptr i sz r f, .ptr i' sz' r' f', h => by
    rw [leV] at h
    split at h
    · rename_i e; exact ⟨e.1, e.2.1, eqE_den h, e.2.2⟩
    · exact h.elim
  | .sl i sz r l hh, .sl i' sz' r' l' h', h => by
    rw [leV] at h
    split at h
    · rename_i e
      rw [VC.den_and, VC.den_and] at h
      refine ⟨e.1, e.2, eqE_den h.1, eqE_den h.2.1, fun k => ?_⟩
      have h3 := h.2.2
      have he := eqE_den h.2.1
      unfold hiV at h3
      split at h3
      · rename_i e; omega
      · exact h3 k
    · exact h.elim
  | .agg l, .agg l', h => lesV_den l l' (by rw [leV] at h; exact h)
  | .tup l, .tup l', h => lesV_den l l' (by rw [leV] at h; exact h)
  | .fn f l, .fn f' l', h => by
    rw [leV] at h
    split at h
    · rename_i e; exact ⟨e, lesV_den l l' h⟩
    · exact h.elim
  | .raw v, .raw v', h => by rw [leV] at h; exact h
  | .any, .int .., h | .any, .bool _, h | .any, .ptr .., h | .any, .sl .., h | .any, .agg _, h | .any, .tup _, h | .any, .fn .., h | .any, .raw _, h => by simp [leV, VC.den] at h
  | .int .., .bool _, h | .int .., .ptr .., h | .int .., .sl .., h | .int .., .agg _, h | .int .., .tup _, h | .int .., .fn .., h | .int .., .raw _, h => by simp [leV, VC.den] at h
  | .bool _, .int .., h | .bool _, .ptr .., h | .bool _, .sl .., h | .bool _, .agg _, h | .bool _, .tup _, h | .bool _, .fn .., h | .bool _, .raw _, h => by simp [leV, VC.den] at h
  | .ptr .., .int .., h | .ptr .., .bool _, h | .ptr .., .sl .., h | .ptr .., .agg _, h | .ptr .., .tup _, h | .ptr .., .fn .., h | .ptr .., .raw _, h => by simp [leV, VC.den] at h
  | .sl .., .int .., h | .sl .., .bool _, h | .sl .., .ptr .., h | .sl .., .agg _, h | .sl .., .tup _, h | .sl .., .fn .., h | .sl .., .raw _, h => by simp [leV, VC.den] at h
  | .agg _, .int .., h | .agg _, .bool _, h | .agg _, .ptr .., h | .agg _, .sl .., h | .agg _, .tup _, h | .agg _, .fn .., h | .agg _, .raw _, h => by simp [leV, VC.den] at h
  | .tup _, .int .., h | .tup _, .bool _, h | .tup _, .ptr .., h | .tup _, .sl .., h | .tup _, .agg _, h | .tup _, .fn .., h | .tup _, .raw _, h => by simp [leV, VC.den] at h
  | .fn .., .int .., h | .fn .., .bool _, h | .fn .., .ptr .., h | .fn .., .sl .., h | .fn .., .agg _, h | .fn .., .tup _, h | .fn .., .raw _, h => by simp [leV, VC.den] at h
  | .raw _, .int .., h | .raw _, .bool _, h | .raw _, .ptr .., h | .raw _, .sl .., h | .raw _, .agg _, h | .raw _, .tup _, h | .raw _, .fn .., h => by simp [leV, VC.den] at h
theorem lesV_den : ∀ (l m : List AV), (lesV l m).den → lePs l m
  | [], [], _ => trivial
  | a :: l, b :: m, h => by
    rw [lesV, VC.den_and] at h
    exact ⟨leV_den a b h.1, lesV_den l m h.2⟩
  | [], _ :: _, h => by simp [lesV, VC.den] at h
  | _ :: _, [], h => by simp [lesV, VC.den] at h
end
def rowsV : List (List AV) → List (List AV) → VC
  | [], [] => .tt
  | a :: l, b :: m => .mkAnd (lesV a b) (rowsV l m)
  | _, _ => .ff
theorem rowsV_den : ∀ (l m : List (List AV)), (rowsV l m).den → rowsP l m
  | [], [], _ => trivial
  | a :: l, b :: m, h => by
    rw [rowsV, VC.den_and] at h
    exact ⟨lesV_den a b h.1, rowsV_den l m h.2⟩
  | [], _ :: _, h => h.elim
  | _ :: _, [], h => h.elim
def rowsFV (f : E → List AV) : List (List AV) → Int → VC
  | [], _ => .tt
  | r :: l, i => .mkAnd (.all fun e : E => .imp (e.den = i) (lesV r (f e))) (rowsFV f l (i + 1))
theorem rowsFV_den (f : E → List AV) : ∀ (l : List (List AV)) (i : Int), (rowsFV f l i).den → rowsF f l i
  | [], _, _ => trivial
  | r :: l, i, h => by
    rw [rowsFV, VC.den_and] at h
    exact ⟨fun e he => lesV_den _ _ (h.1 e he), rowsFV_den f l (i + 1) h.2⟩
def conVL : Con → (E → List AV) → List Int → VC
  | .sym n f', f, xs => .all fun e : E => .imp (0 ≤ e.den ∧ e.den < n.den ∧ notIn e.den xs) (lesV (f' e) (f e))
  | .set c e0 r, f, xs => .mkAnd (conVL c f (xs ++ [e0.den])) (.all fun e : E => .imp (e.den.toNat = e0.den.toNat ∧ 0 ≤ e.den ∧ notIn e.den xs) (lesV r (f e)))
  | _, _, _ => .ff
theorem conVL_den : ∀ (c : Con) (f : E → List AV) (xs : List Int), (conVL c f xs).den → conPL c f xs
  | .sym n f', f, xs, h => fun e he => lesV_den _ _ (h e he)
  | .set c e0 r, f, xs, h => by
    rw [conVL, VC.den_and] at h
    exact ⟨conVL_den c f _ h.1, fun e he => lesV_den _ _ (h.2 e he)⟩
  | .lit _, _, _, h => h.elim
  | .snoc _ _, _, _, h => h.elim
def conV : Con → Con → VC
  | .lit rows, .lit rows' => rowsV rows rows'
  | .lit rows, .sym n f => .mkAnd (eqE n (.lit (rows.length : Nat))) (rowsFV f rows 0)
  | .sym n f, .sym n' f' => .mkAnd (.p (n'.den ≤ n.den)) (.all fun e : E => .imp (0 ≤ e.den ∧ e.den < n'.den) (lesV (f e) (f' e)))
  | .snoc c r, .sym n f => .mkAnd (.p (0 ≤ c.num.den ∧ n.den = c.num.den + 1)) (.mkAnd (conV c (.sym c.num f)) (.all fun e : E => .imp (e.den = c.num.den) (lesV r (f e))))
  | .set c e0 r, .sym n f => .mkAnd (eqE n c.num) (.mkAnd (conVL c f [e0.den]) (.all fun e : E => .imp (e.den.toNat = e0.den.toNat ∧ 0 ≤ e.den) (lesV r (f e))))
  | _, _ => .ff
theorem conV_den : ∀ (c d : Con), (conV c d).den → conP c d
  | .lit rows, .lit rows', h => rowsV_den _ _ h
  | .lit rows, .sym n f, h => by
    rw [conV, VC.den_and] at h
    exact ⟨eqE_den h.1, rowsFV_den f rows 0 h.2⟩
  | .sym n f, .sym n' f', h => by
    rw [conV, VC.den_and] at h
    exact ⟨h.1, fun e h1 h2 => lesV_den _ _ (h.2 e ⟨h1, h2⟩)⟩
  | .snoc c r, .sym n f, h => by
    rw [conV, VC.den_and, VC.den_and] at h
    exact ⟨h.1.1, h.1.2, conV_den c _ h.2.1, fun e he => lesV_den _ _ (h.2.2 e he)⟩
  | .set c e0 r, .sym n f, h => by
    rw [conV, VC.den_and, VC.den_and] at h
    exact ⟨eqE_den h.1, conVL_den c f _ h.2.1, fun e h1 h2 => lesV_den _ _ (h.2.2 e ⟨h1, h2⟩)⟩
  | .lit _, .snoc .., h | .lit _, .set .., h | .sym .., .lit _, h | .sym .., .snoc .., h | .sym .., .set .., h => h.elim
  | .snoc .., .lit _, h | .snoc .., .snoc .., h | .snoc .., .set .., h | .set .., .lit _, h | .set .., .snoc .., h | .set .., .set .., h => h.elim
def blkV (b c : Blk) : VC := if b.ty = c.ty ∧ b.sz = c.sz ∧ b.wr = c.wr then conV b.con c.con else .ff
theorem blkV_den {b c : Blk} (h : (blkV b c).den) : blkP b c := by
  unfold blkV at h
  split at h
  · rename_i e; exact ⟨e.1, e.2.1, e.2.2, conV_den _ _ h⟩
  · exact h.elim
def memPV : List (Option Blk) → List (Option Blk) → VC
  | [], [] => .tt
  | some b :: l, some c :: m => .mkAnd (blkV b c) (memPV l m)
  | _ :: l, none :: m => memPV l m
  | _, _ => .ff
def memQV : List (Option Blk) → List (Option Blk) → VC
  | [], [] => .tt
  | some b :: l, some c :: m => .mkAnd (blkV b c) (memQV l m)
  | none :: l, none :: m => memQV l m
  | _, _ => .ff
theorem memPV_den : ∀ (l m : List (Option Blk)), (memPV l m).den → memP l m
  | [], [], _ => trivial
  | some b :: l, some c :: m, h => by
    rw [memPV, VC.den_and] at h
    exact ⟨blkV_den h.1, memPV_den l m h.2⟩
  | x :: l, none :: m, h => by
    have h : (memPV l m).den := by cases x <;> exact h
    have := memPV_den l m h
    cases x <;> exact this
  | none :: _, some _ :: _, h => h.elim
  | [], some _ :: _, h => h.elim
  | [], none :: _, h => h.elim
  | some _ :: _, [], h => h.elim
  | none :: _, [], h => h.elim
theorem memQV_den : ∀ (l m : List (Option Blk)), (memQV l m).den → memQ l m
  | [], [], _ => trivial
  | some b :: l, some c :: m, h => by
    rw [memQV, VC.den_and] at h
    exact ⟨blkV_den h.1, memQV_den l m h.2⟩
  | none :: l, none :: m, h => memQV_den l m h
  | none :: _, some _ :: _, h => h.elim
  | some _ :: _, none :: _, h => h.elim
  | [], _ :: _, h => h.elim
  | some _ :: _, [], h => h.elim
  | none :: _, [], h => h.elim
def leSV (s t : S) : VC := if s.np = t.np then .mkAnd (lesV s.tmps t.tmps) (memPV s.mem t.mem) else .ff
theorem lePs_get : ∀ (l m : List AV), lePs l m → l.length = m.length ∧ ∀ (i : Nat) (a : AV), m[i]? = some a → ∃ b, l[i]? = some b ∧ leP b a
  | [], [], _ => ⟨rfl, fun i a h => by simp at h⟩
  | a :: l, b :: m, ⟨h1, h2⟩ => by
    obtain ⟨h3, h4⟩ := lePs_get l m h2
    refine ⟨by simp [h3], fun i x hx => ?_⟩
    cases i with
    | zero => simp at hx; subst hx; exact ⟨a, by simp, h1⟩
    | succ i => obtain ⟨y, h5, h6⟩ := h4 i x (by simpa using hx); exact ⟨y, by simpa using h5, h6⟩
  | [], _ :: _, h => h.elim
  | _ :: _, [], h => h.elim
theorem leSV_den {s t : S} (h : (leSV s t).den) : s.le t := by
  unfold leSV at h
  split at h
  · rename_i e
    rw [VC.den_and] at h
    obtain ⟨h1, h2⟩ := lePs_get _ _ (lesV_den _ _ h.1)
    refine ⟨e, h1, fun i a ha => ?_, memP_le _ _ (memPV_den _ _ h.2)⟩
    obtain ⟨b, h3, h4⟩ := h2 i a ha
    exact ⟨b, h3, fun ρ v => leP_le b a v h4⟩
  · exact h.elim

/-! ### what is known of arguments -/
mutual
def AV.facts : AV → VC
  | .int _ (.lit _) _ _ => .tt
  | .int _ e lo hi => .p (lo ≤ e.den ∧ e.den ≤ hi)
  | .sl _ _ _ (.lit _) _ => .tt
  | .sl _ _ _ l h => .p (0 ≤ l.den ∧ l.den ≤ h)
  | .agg l => AV.factsL l
  | .tup l => AV.factsL l
  | _ => .tt
def AV.factsL : List AV → VC
  | [] => .tt
  | a :: l => .mkAnd a.facts (AV.factsL l)
end
mutual
theorem VR.facts {ρ : Rho} : ∀ (a : AV) (v : Value), VR ρ a v → a.facts.den
  | .any, _, _ => trivial
  | .int k e lo hi, v, h => by
    cases e with
    | lit n => trivial
    | _ => exact h.2
  | .bool _, _, _ => trivial
  | .ptr .., _, _ => trivial
  | .sl i sz r l hi, v, h => by
    cases l with
    | lit n => trivial
    | _ => exact ⟨h.2.2.1, h.2.2.2.1⟩
  | .agg l, v, ⟨vs, _, h⟩ => VRs.facts l vs h
  | .tup l, v, ⟨vs, _, h⟩ => VRs.facts l vs h
  | .fn .., _, _ => trivial
  | .raw _, _, _ => trivial
theorem VRs.facts {ρ : Rho} : ∀ (l : List AV) (vs : List Value), VRs ρ l vs → (AV.factsL l).den
  | [], _, _ => trivial
  | a :: l, _, ⟨v, ws, _, h1, h2⟩ => by
    rw [AV.factsL, VC.den_and]
    exact ⟨VR.facts a v h1, VRs.facts l ws h2⟩
end
def rowsFacts : List (List AV) → VC
  | [] => .tt
  | r :: l => .mkAnd (AV.factsL r) (rowsFacts l)
def Blk.facts (b : Blk) : VC := match b.con with
  | .sym n f => .all fun e : E => .imp (0 ≤ e.den ∧ e.den < n.den) (AV.factsL (f e))
  | .lit rows => rowsFacts rows
  | _ => .tt
def memFacts : List (Option Blk) → VC
  | [] => .tt
  | some b :: l => .mkAnd b.facts (memFacts l)
  | none :: l => memFacts l
theorem rowsFacts_of : ∀ (rows : List (List AV)), (∀ (i : Nat) (r : List AV), rows[i]? = some r → (AV.factsL r).den) → (rowsFacts rows).den
  | [], _ => trivial
  | r :: l, h => by
    rw [rowsFacts, VC.den_and]
    exact ⟨h 0 r (by simp), rowsFacts_of l fun i x hx => h (i + 1) x (by simpa using hx)⟩
theorem MR.facts {ρ : Rho} {w : World} {id : Nat} {b : Blk} (h : MR ρ w id b) : b.facts.den := by
  have key : ∀ i, i < b.con.num.den.toNat → ∃ vs, RowR ρ b.con i vs := by
    intro i hi
    rcases h.2 with ⟨_, h0⟩ | ⟨_, cs, _, _, h5⟩ | ⟨_, _, _, h6⟩
    · omega
    · exact ⟨_, (h5 i hi).2⟩
    · obtain ⟨vs, _, _, h7⟩ := h6 i hi; exact ⟨vs, h7⟩
  unfold Blk.facts
  split
  · rename_i n f hc
    intro e ⟨h1, h2⟩
    rw [hc] at key
    obtain ⟨vs, hv⟩ := key e.den.toNat (by simp only [Con.num]; omega)
    exact VRs.facts _ vs (hv e (by omega))
  · rename_i rows hc
    rw [hc] at key
    refine rowsFacts_of rows fun i r hr => ?_
    have hi : i < rows.length := (List.getElem?_eq_some_iff.1 hr).1
    obtain ⟨vs, hv⟩ := key i (by simp only [Con.num, E.den]; omega)
    obtain ⟨r', h1, h2⟩ := hv
    rw [hr] at h1; cases h1
    exact VRs.facts _ vs h2
  · trivial
theorem memFacts_of {ρ : Rho} {w : World} : ∀ (m : List (Option Blk)), (∀ b, some b ∈ m → ∃ id, MR ρ w id b) → (memFacts m).den
  | [], _ => trivial
  | some b :: l, h => by
    rw [memFacts, VC.den_and]
    obtain ⟨id, hb⟩ := h b (by simp)
    exact ⟨hb.facts, memFacts_of l fun c hc => h c (by simp [hc])⟩
  | none :: l, h => memFacts_of l fun c hc => h c (by simp [hc])
theorem Runs.facts {P : Program} {f : FuncId} {args : List AV} {mem : List (Option Blk)} {Post : AV → List (Option Blk) → Prop} (h : (AV.factsL args).den → (memFacts mem).den → Runs P f args mem Post) : Runs P f args mem Post := by
  intro w F ρ vs hm hf hv
  refine h (VRs.facts _ _ hv) (memFacts_of (ρ := ρ) (w := w) mem fun b hb => ?_) w F ρ vs hm hf hv
  obtain ⟨i, hi⟩ := List.mem_iff_getElem?.1 hb
  exact ⟨i, (hm.blk i b (by unfold blkOf; rw [hi]; rfl)).2⟩
theorem Runs.res_facts {P : Program} {f : FuncId} {args : List AV} {mem : List (Option Blk)} {Post : AV → List (Option Blk) → Prop} (h : Runs P f args mem Post) : Runs P f args mem fun r m => Post r m ∧ r.facts.den := by
  intro w F ρ vs hm hf hv
  obtain ⟨h1, h2⟩ := h w F ρ vs hm hf hv
  refine ⟨h1, h2.mono ?_⟩
  rintro e w' ⟨r, m', ρ', v, a, b, c, d⟩
  exact ⟨r, m', ρ', v, a, ⟨b, VR.facts r v c⟩, c, d⟩

/-- The same contract for a caller that knows more of the arguments, and of the result. -/
theorem RunsTo.narrow {P : Program} {f : FuncId} {args args' : List AV} {mem m : List (Option Blk)} {r r' : AV} (h : RunsTo P f args' mem r m) (ha : lePs args args') (hf1 : flatMem mem = true) (hf2 : flatMem m = true)
    (hr : (AV.factsL args).den → (memFacts mem).den → leP r r') : RunsTo P f args mem r' m :=
  Runs.facts fun h1 h2 => Runs.weak (h.less ha (memQ_refl mem hf1)) fun _ _ ⟨e1, e2⟩ => ⟨r', m, ⟨rfl, rfl⟩, e1 ▸ hr h1 h2, e2 ▸ (memQ_P _ _ (memQ_refl m hf2)).1⟩
/-- A list with few values. -/
def spl : Nat → Nat → List (Nat × AV) → List AV
  | 0, _, _ => []
  | n + 1, i, [] => .any :: spl n (i + 1) []
  | n + 1, i, (j, a) :: l => if i = j then a :: spl n (i + 1) l else .any :: spl n (i + 1) ((j, a) :: l)
/-! ### slices that are nil: rows of a block that is not there -/
def nilB (ty sz : Nat) : Option Blk := some ⟨ty, sz, true, .lit []⟩
theorem blkOf_append (m : List (Option Blk)) (b : Option Blk) (i : Nat) : blkOf (m ++ [b]) i = if i < m.length then blkOf m i else if i = m.length then b else none := by
  unfold blkOf
  rw [List.getElem?_append]
  split
  · rfl
  · split
    · rename_i e; simp [e]
    · rename_i h1 h2
      rw [List.getElem?_eq_none (by simp; omega)]; rfl
theorem MRel.nilB {w0 : World} {F : Nat → Prop} {ρ : Rho} {mem : List (Option Blk)} {w : World} (h : MRel w0 F ρ mem w) (hf : ∀ id, ρ.al id → id < mem.length) (ty sz : Nat) (hs : 0 < sz) :
    ρ.le (ρ.with mem.length 0 0) none ∧ MRel w0 F (ρ.with mem.length 0 0) (mem ++ [nilB ty sz]) w ∧ (∀ id, (ρ.with mem.length 0 0).al id → id < (mem ++ [nilB ty sz]).length) := by
  have hle := ρ.with_le mem.length 0 0 none (.inl fun e => Nat.lt_irrefl _ (hf _ e))
  have g0 : (ρ.with mem.length 0 0).γ mem.length = 0 := by simp [Rho.with]
  have old : ∀ i b, blkOf (mem ++ [Go.Sym.nilB ty sz]) i = some b → (ρ.with mem.length 0 0).γ i ≠ 0 → blkOf mem i = some b ∧ (ρ.with mem.length 0 0).β i = ρ.β i ∧ (ρ.with mem.length 0 0).γ i = ρ.γ i := by
    intro i b hb hg
    rw [blkOf_append] at hb
    by_cases hi : i < mem.length
    · rw [if_pos hi] at hb
      exact ⟨hb, by simp [Rho.with, show i ≠ mem.length by omega], by simp [Rho.with, show i ≠ mem.length by omega]⟩
    · rw [if_neg hi] at hb
      by_cases he : i = mem.length
      · subst he; exact absurd g0 hg
      · rw [if_neg he] at hb; cases hb
  refine ⟨hle, ⟨fun i b hb => ?_, fun i j b c hb hc hne gi gj hw => ?_, fun i b hb hw hg => ?_, h.fr⟩, fun id hid => ?_⟩
  · rw [blkOf_append] at hb
    by_cases hi : i < mem.length
    · rw [if_pos hi] at hb
      obtain ⟨h1, h2⟩ := h.blk i b hb
      exact ⟨.inl h1, h2.kept hle h1 fun _ => rfl⟩
    · rw [if_neg hi] at hb
      by_cases he : i = mem.length
      · subst he
        rw [if_pos rfl] at hb
        cases hb
        exact ⟨.inr rfl, hs, .inl ⟨g0, rfl⟩⟩
      · rw [if_neg he] at hb; cases hb
  · obtain ⟨h1, h2, h3⟩ := old i b hb gi
    obtain ⟨h4, h5, h6⟩ := old j c hc gj
    rw [h2, h5]
    exact h.inj i j b c h1 h4 hne (by rw [← h3]; exact gi) (by rw [← h6]; exact gj) hw
  · obtain ⟨h1, h2, h3⟩ := old i b hb hg
    rw [h2]
    exact h.own i b h1 hw (by rw [← h3]; exact hg)
  · rcases hid with h1 | h1
    · have := hf _ h1; simp; omega
    · subst h1; simp
theorem VR.nilSl {ρ : Rho} {id sz : Nat} (hal : ρ.al id) : VR ρ (.sl id sz (.lit 0) (.lit 0) 0) (.slice none 0 0) :=
  ⟨hal, by simp [E.den], by simp [E.den], by simp [E.den], none, 0, rfl, Nat.le_refl _, Nat.zero_le _, rfl⟩
def S.ghost1 (s : S) (t ty sz : Nat) : S :=
  match s.tmps[t]? with
  | some (.raw (.slice none 0 0)) => if 0 < sz then { s with tmps := s.tmps.set t (.sl s.mem.length sz (.lit 0) (.lit 0) 0), mem := s.mem ++ [nilB ty sz] } else s
  | _ => s
def S.ghost (s : S) : List (Nat × Nat × Nat) → S
  | [] => s
  | (t, ty, sz) :: l => (s.ghost1 t ty sz).ghost l
theorem Rl.ghost1 {C : Ctx} {ρ : Rho} {s : S} {a : Act} {w : World} (h : Rl C ρ s a w) (t ty sz : Nat) : ∃ ρ', Rl C ρ' (s.ghost1 t ty sz) a w := by
  unfold S.ghost1
  split
  · rename_i ht
    split
    · rename_i hs
      obtain ⟨k1, k2, k3⟩ := h.mem.nilB h.fresh ty sz hs
      refine ⟨_, ⟨by simp [h.tm.1], fun i v hv => ?_⟩, h.df, k2, k3, h.np, by simp; have := h.len; omega, fun id hid hal => ?_, fun id b hb => ?_, h.wrn⟩
      · rw [List.getD_eq_getElem?_getD]
        by_cases hi : t = i
        · subst hi
          have hlt := (List.getElem?_eq_some_iff.1 ht).1
          rw [List.getElem?_set_self hlt]
          have := h.tm.2 t v hv
          rw [List.getD_eq_getElem?_getD, ht] at this
          have this : v = .slice none 0 0 := this
          subst this
          exact VR.nilSl (.inr rfl)
        · rw [List.getElem?_set_ne hi, ← List.getD_eq_getElem?_getD]
          exact (h.tm.2 i v hv).mono k1
      · obtain ⟨b1, b2, b3, b4⟩ := h.base id hid hal
        exact ⟨k1.al _ b1, (k1.β _ b1 (by simp)).trans b2, (k1.γ _ b1 (by simp)).trans b3, (k1.o _ b1 (by simp)).trans b4⟩
      · rw [blkOf_append] at hb
        by_cases hi : id < s.mem.length
        · rw [if_pos hi] at hb; exact h.wr id b hb
        · rw [if_neg hi] at hb
          by_cases he : id = s.mem.length
          · rw [if_pos he] at hb
            cases hb
            exact (h.wrn id (by have := h.len; omega)).symm
          · rw [if_neg he] at hb; cases hb
    · exact ⟨ρ, h⟩
  · exact ⟨ρ, h⟩
theorem Rl.ghost {C : Ctx} {a : Act} {w : World} : ∀ (l : List (Nat × Nat × Nat)) (ρ : Rho) (s : S), Rl C ρ s a w → ∃ ρ', Rl C ρ' (s.ghost l) a w
  | [], ρ, s, h => ⟨ρ, h⟩
  | (t, ty, sz) :: l, ρ, s, h => by
    obtain ⟨ρ', h'⟩ := h.ghost1 t ty sz
    exact Rl.ghost l ρ' _ h'
theorem LoopRuns.ghost {P : Program} {body : Code} {s : S} {R : AX → S → Prop} (l : List (Nat × Nat × Nat)) (h : LoopRuns P body (s.ghost l) R) : LoopRuns P body s R := by
  intro C ρ a w hr
  obtain ⟨ρ', hr'⟩ := Rl.ghost l ρ s hr
  exact h C ρ' a w hr'
/-- A block of the caller's, handed on as the result: under a new number, and the old one is forgotten. -/
theorem MRel.moved {w0 : World} {F : Nat → Prop} {ρ : Rho} {mem : List (Option Blk)} {w : World} (h : MRel w0 F ρ mem w) (hf : ∀ id, ρ.al id → id < mem.length) {i : Nat} {b : Blk} (hb : blkOf mem i = some b) :
    ∃ ρ' : Rho, ρ.le ρ' none ∧ MRel w0 F ρ' (mem.set i none ++ [some b]) w ∧ (∀ id, ρ'.al id → id < (mem.set i none ++ [some b]).length) ∧ ρ'.al mem.length ∧ ρ'.β mem.length = ρ.β i ∧ ρ'.γ mem.length = ρ.γ i ∧ ρ'.o mem.length = ρ.o i := by
  let ρ' : Rho := ⟨fun x => if x = mem.length then ρ.β i else ρ.β x, fun x => if x = mem.length then ρ.γ i else ρ.γ x, fun x => ρ.al x ∨ x = mem.length, fun x => if x = mem.length then ρ.o i else ρ.o x⟩
  have hle : ρ.le ρ' none := by
    refine ⟨fun x hx => .inl hx, fun x hx _ => ?_, fun x hx _ => ?_, fun x hx _ => ?_⟩ <;> have := hf x hx
    · exact if_neg (by omega)
    · exact if_neg (by omega)
    · exact if_neg (by omega)
  have bL : ρ'.β mem.length = ρ.β i := if_pos rfl
  have gL : ρ'.γ mem.length = ρ.γ i := if_pos rfl
  have oL : ρ'.o mem.length = ρ.o i := if_pos rfl
  have hal := (h.blk i b hb).1
  have hi : i < mem.length := hf i hal
  have look : ∀ j c, blkOf (mem.set i none ++ [some b]) j = some c → (j ≠ i ∧ j < mem.length ∧ blkOf mem j = some c) ∨ (j = mem.length ∧ c = b) := by
    intro j c hc
    rw [blkOf_append] at hc
    rw [List.length_set] at hc
    by_cases hj : j < mem.length
    · rw [if_pos hj] at hc
      by_cases e : j = i
      · subst e
        unfold blkOf at hc
        rw [List.getElem?_set_self hj] at hc
        cases hc
      · left
        refine ⟨e, hj, ?_⟩
        unfold blkOf at hc ⊢
        rwa [List.getElem?_set_ne (fun e' => e e'.symm)] at hc
    · rw [if_neg hj] at hc
      by_cases e : j = mem.length
      · rw [if_pos e] at hc; cases hc; exact .inr ⟨e, rfl⟩
      · rw [if_neg e] at hc; cases hc
  have src : ∀ j c, blkOf (mem.set i none ++ [some b]) j = some c → ∃ k, blkOf mem k = some c ∧ ρ'.β j = ρ.β k ∧ ρ'.γ j = ρ.γ k ∧ ((j = mem.length ∧ k = i) ∨ (j < mem.length ∧ k = j ∧ j ≠ i)) := by
    intro j c hc
    rcases look j c hc with ⟨h1, h2, h3⟩ | ⟨rfl, rfl⟩
    · exact ⟨j, h3, if_neg (by omega), if_neg (by omega), .inr ⟨h2, rfl, h1⟩⟩
    · exact ⟨i, hb, bL, gL, .inl ⟨rfl, rfl⟩⟩
  refine ⟨ρ', hle, ⟨fun j c hc => ?_, fun x y c d hc hd hne gx gy hw => ?_, fun x c hc hw hg => ?_, h.fr⟩, fun id hid => ?_, .inr rfl, bL, gL, oL⟩
  · rcases look j c hc with ⟨h1, h2, h3⟩ | ⟨rfl, rfl⟩
    · obtain ⟨k1, k2⟩ := h.blk j c h3
      exact ⟨.inl k1, k2.kept hle k1 fun _ => rfl⟩
    · refine ⟨.inr rfl, ?_⟩
      obtain ⟨m1, m2⟩ := (h.blk i c hb).2
      refine ⟨m1, ?_⟩
      rw [bL, gL, oL]
      rcases m2 with m2 | ⟨m2, cs, m3, m4, m5⟩ | ⟨m2, m3, m4, m5⟩
      · exact .inl m2
      · exact .inr (.inl ⟨m2, cs, m3, m4, fun r hr => ⟨(m5 r hr).1, (m5 r hr).2.le hle⟩⟩)
      · refine .inr (.inr ⟨m2, m3, m4, fun r hr => ?_⟩)
        obtain ⟨vs, v1, v2, v3⟩ := m5 r hr
        exact ⟨vs, v1, v2, v3.le hle⟩
  · obtain ⟨k, k1, k2, k3, k4⟩ := src x c hc
    obtain ⟨l, l1, l2, l3, l4⟩ := src y d hd
    rw [k2, l2]
    rw [k3] at gx
    rw [l3] at gy
    exact h.inj k l c d k1 l1 (by omega) gx gy hw
  · obtain ⟨k, k1, k2, k3, k4⟩ := src x c hc
    rw [k2]
    rw [k3] at hg
    exact h.own k c k1 hw hg
  · rcases hid with h1 | h1
    · have := hf _ h1; simp; omega
    · subst h1; simp
/-- A result that is nil, as a slice of a block that is not there; one that is a slice of the caller's, as one of a block of its own. -/
def ghostV (M : List (Option Blk)) (m : List (Option Blk)) : AV → AV → AV × List (Option Blk)
  | .raw (.slice none 0 0), .sl k _ _ _ _ =>
    match blkOf M k with
    | some b => if k = m.length ∧ 0 < b.sz then (.sl k b.sz (.lit 0) (.lit 0) 0, m ++ [nilB b.ty b.sz]) else (.raw (.slice none 0 0), m)
    | none => (.raw (.slice none 0 0), m)
  | .sl i sz row len hi, .sl k _ _ _ _ =>
    match blkOf M i with
    | some _ => (.sl i sz row len hi, m)
    | none => match blkOf m i with
      | some b => if k = m.length ∧ b.wr = true then (.sl k sz row len hi, m.set i none ++ [some b]) else (.sl i sz row len hi, m)
      | none => (.sl i sz row len hi, m)
  | r, _ => (r, m)
def ghostL (M : List (Option Blk)) : List (Option Blk) → List AV → List AV → List AV × List (Option Blk)
  | m, r :: l, R :: L => ((ghostV M m r R).1 :: (ghostL M (ghostV M m r R).2 l L).1, (ghostL M (ghostV M m r R).2 l L).2)
  | m, l, _ => (l, m)
def ghostR (M : List (Option Blk)) (m : List (Option Blk)) : AV → AV → AV × List (Option Blk)
  | .tup l, .tup L => (.tup (ghostL M m l L).1, (ghostL M m l L).2)
  | r, R => ghostV M m r R
structure GhostOK (w0 : World) (F : Nat → Prop) (w : World) (ρ ρ' : Rho) (m m' : List (Option Blk)) : Prop where
  le : ρ.le ρ' none
  mem : MRel w0 F ρ' m' w
  fresh : ∀ id, ρ'.al id → id < m'.length
  len : m.length ≤ m'.length
  wr : ∀ id b, blkOf m' id = some b → blkOf m id = some b ∨ (m.length ≤ id ∧ b.wr = true)
theorem GhostOK.refl {w0 : World} {F : Nat → Prop} {w : World} {ρ : Rho} {m : List (Option Blk)} (hm : MRel w0 F ρ m w) (hf : ∀ id, ρ.al id → id < m.length) : GhostOK w0 F w ρ ρ m m :=
  ⟨ρ.le_refl none, hm, hf, Nat.le_refl _, fun _ _ h => .inl h⟩
theorem Rho.le_trans {a b c : Rho} (h : a.le b none) (k : b.le c none) : a.le c none :=
  ⟨fun i hi => k.al i (h.al i hi), fun i hi hx => (k.β i (h.al i hi) hx).trans (h.β i hi hx), fun i hi hx => (k.γ i (h.al i hi) hx).trans (h.γ i hi hx), fun i hi hx => (k.o i (h.al i hi) hx).trans (h.o i hi hx)⟩
theorem GhostOK.trans {w0 : World} {F : Nat → Prop} {w : World} {ρ ρ' ρ'' : Rho} {m m' m'' : List (Option Blk)} (h : GhostOK w0 F w ρ ρ' m m') (k : GhostOK w0 F w ρ' ρ'' m' m'') : GhostOK w0 F w ρ ρ'' m m'' :=
  ⟨Rho.le_trans h.le k.le, k.mem, k.fresh, Nat.le_trans h.len k.len, fun id b hb => by
    rcases k.wr id b hb with h1 | ⟨h1, h2⟩
    · exact h.wr id b h1
    · exact .inr ⟨Nat.le_trans h.len h1, h2⟩⟩
theorem ghostV_ok {w0 : World} {F : Nat → Prop} {w : World} {ρ : Rho} {M m : List (Option Blk)} {r R : AV} {v : Value} (hm : MRel w0 F ρ m w) (hf : ∀ id, ρ.al id → id < m.length) (hv : VR ρ r v) :
    ∃ ρ', GhostOK w0 F w ρ ρ' m (ghostV M m r R).2 ∧ VR ρ' (ghostV M m r R).1 v := by
  have same : ∃ ρ', GhostOK w0 F w ρ ρ' m m ∧ VR ρ' r v := ⟨ρ, .refl hm hf, hv⟩
  unfold ghostV
  split
  · split
    · rename_i k _ _ _ _ b hb
      split
      · rename_i hc
        obtain ⟨rfl, hs⟩ := hc
        obtain ⟨k1, k2, k3⟩ := hm.nilB hf b.ty b.sz hs
        have hv : v = .slice none 0 0 := hv
        subst hv
        refine ⟨_, ⟨k1, k2, k3, by simp, fun id c hc => ?_⟩, VR.nilSl (.inr rfl)⟩
        rw [blkOf_append] at hc
        by_cases hi : id < m.length
        · rw [if_pos hi] at hc; exact .inl hc
        · rw [if_neg hi] at hc
          by_cases he : id = m.length
          · rw [if_pos he] at hc; cases hc; exact .inr ⟨by omega, rfl⟩
          · rw [if_neg he] at hc; cases hc
      · exact same
    · exact same
  · rename_i i sz row len hi k _ _ _ _
    split
    · exact same
    · split
      · rename_i b hb
        split
        · rename_i hc
          obtain ⟨rfl, hw⟩ := hc
          obtain ⟨ρ', k1, k2, k3, k4, k5, k6, k7⟩ := hm.moved hf hb
          obtain ⟨v1, v2, v3, v4, a, c, v5, v6, v7, v8⟩ := hv
          refine ⟨ρ', ⟨k1, k2, k3, by simp, fun id d hd => ?_⟩, k4, v2, v3, v4, a, c, v5, v6, v7, ?_⟩
          · rw [blkOf_append, List.length_set] at hd
            by_cases hi : id < m.length
            · rw [if_pos hi] at hd
              left
              by_cases e : id = i
              · subst e
                unfold blkOf at hd
                rw [List.getElem?_set_self hi] at hd
                cases hd
              · unfold blkOf at hd ⊢
                rwa [List.getElem?_set_ne (fun e' => e e'.symm)] at hd
            · rw [if_neg hi] at hd
              by_cases he : id = m.length
              · rw [if_pos he] at hd; cases hd; exact .inr ⟨by omega, hw⟩
              · rw [if_neg he] at hd; cases hd
          · cases a with
            | none => exact v8
            | some a => unfold SlAt at v8 ⊢; rw [k5, k6, k7]; exact v8
        · exact same
      · exact same
  · exact same
theorem ghostL_ok {w0 : World} {F : Nat → Prop} {w : World} {M : List (Option Blk)} : ∀ (l L : List AV) (vs : List Value) (ρ : Rho) (m : List (Option Blk)), MRel w0 F ρ m w → (∀ id, ρ.al id → id < m.length) → VRs ρ l vs →
    ∃ ρ', GhostOK w0 F w ρ ρ' m (ghostL M m l L).2 ∧ VRs ρ' (ghostL M m l L).1 vs
  | [], L, vs, ρ, m, hm, hf, hv => ⟨ρ, by cases L <;> exact .refl hm hf, by cases L <;> exact hv⟩
  | r :: l, [], vs, ρ, m, hm, hf, hv => ⟨ρ, .refl hm hf, hv⟩
  | r :: l, R :: L, _, ρ, m, hm, hf, ⟨v, ws, e, h1, h2⟩ => by
    obtain ⟨ρ1, g1, v1⟩ := ghostV_ok (M := M) (R := R) hm hf h1
    obtain ⟨ρ2, g2, v2⟩ := ghostL_ok (M := M) l L ws ρ1 _ g1.mem g1.fresh (h2.mono g1.le)
    exact ⟨ρ2, g1.trans g2, v, ws, e, v1.mono g2.le, v2⟩
theorem ghostR_ok {w0 : World} {F : Nat → Prop} {w : World} {ρ : Rho} {M m : List (Option Blk)} {r R : AV} {v : Value} (hm : MRel w0 F ρ m w) (hf : ∀ id, ρ.al id → id < m.length) (hv : VR ρ r v) :
    ∃ ρ', GhostOK w0 F w ρ ρ' m (ghostR M m r R).2 ∧ VR ρ' (ghostR M m r R).1 v := by
  unfold ghostR
  split
  · rename_i l L
    obtain ⟨vs, e, h⟩ := hv
    obtain ⟨ρ', g, h'⟩ := ghostL_ok (M := M) l L vs ρ m hm hf h
    exact ⟨ρ', g, vs, e, h'⟩
  · exact ghostV_ok hm hf hv
theorem Runs.ghost {P : Program} {f : FuncId} {args : List AV} {mem : List (Option Blk)} {Post : AV → List (Option Blk) → Prop} {R : AV} {M : List (Option Blk)}
    (h : Runs P f args mem fun r m => Post (ghostR M m r R).1 (ghostR M m r R).2) : Runs P f args mem Post := by
  intro w F ρ vs hm hf hv
  obtain ⟨h1, h2⟩ := h w F ρ vs hm hf hv
  refine ⟨h1, h2.mono ?_⟩
  rintro e w' ⟨r, m', ρ', v, a1, a2, a3, a4, a5, a6, a7, a8⟩
  obtain ⟨ρ'', g, g2⟩ := ghostR_ok (M := M) (R := R) a4 a5 a3
  refine ⟨_, _, ρ'', v, a1, a2, g2, g.mem, g.fresh, Nat.le_trans a6 g.len, fun id hid hal => ?_, fun id b hb => ?_⟩
  · obtain ⟨b1, b2, b3, b4⟩ := a7 id hid hal
    exact ⟨g.le.al _ b1, (g.le.β _ b1 (by simp)).trans b2, (g.le.γ _ b1 (by simp)).trans b3, (g.le.o _ b1 (by simp)).trans b4⟩
  · rcases g.wr id b hb with h | ⟨h, hw⟩
    · exact a8 id b h
    · rw [hw]
      unfold wrOf
      rw [show blkOf mem id = none by unfold blkOf; rw [List.getElem?_eq_none (by omega)]; rfl]
/-! ### contracts, and the answers that lead through a tree -/
structure Cn (P : Program) where
  f : FuncId
  args : List AV
  mem : List (Option Blk)
  r : AV
  m : List (Option Blk)
  ok : RunsTo P f args mem r m
/-- A contract with a condition. -/
structure CnH (P : Program) where
  f : FuncId
  args : List AV
  mem : List (Option Blk)
  r : AV
  m : List (Option Blk)
  pre : Prop
  ok : pre → RunsTo P f args mem r m
structure CnX (P : Program) where
  f : FuncId
  args : List AV
  mem : List (Option Blk)
  X : Type
  I : X → Prop
  R : X → AV
  M : X → List (Option Blk)
  ok : Runs P f args mem fun r m => ∃ x, I x ∧ r = R x ∧ m = M x
/-- A contract with a condition, of which some part is only known to be there. -/
structure CnXH (P : Program) where
  f : FuncId
  args : List AV
  mem : List (Option Blk)
  X : Type
  I : X → Prop
  R : X → AV
  M : X → List (Option Blk)
  pre : Prop
  ok : pre → Runs P f args mem fun r m => ∃ x, I x ∧ r = R x ∧ m = M x
structure Frame where
  X : Type
  st : X → S
  I : X → Prop
  μ : X → Nat
  x : X
  k : AX → S → T
inductive Ans (P : Program) : Type 1 where
  | ret
  | need (a : Ans P)
  | draw (a : Ans P)
  | ite (a b : Ans P)
  | call (c : Cn P) (a : Ans P)
  | callF (c : Cn P) (a : Ans P)
  | callH (c : CnH P) (a : Ans P)
  | callX (c : CnX P) (a : c.X → Ans P)
  | callXH (c : CnXH P) (a : c.X → Ans P)
  | loop (gh : List (Nat × Nat × Nat)) (σ : List Nat) (X : Type) (st : X → S) (I : X → Prop) (μ : X → Nat) (a : X → Ans P)
  | next (σ : List Nat)
  | out (a : Ans P)
def Ans.vc {P : Program} (τ : Tab) (eqt : EqTab) (Q : AV → List (Option Blk) → VC) : Ans P → List Frame → T → VC
  | .ret, [], .done (.ret r m) => Q r m
  | .need a, stk, .need c t => .mkAnd (.p (c.pr true)) (a.vc τ eqt Q stk t)
  | .draw a, stk, .draw ok t => if ok then a.vc τ eqt Q stk t else .ff
  | .ite a b, stk, .ite c x y => .mkAnd (.mkImp (c.pr true) (a.vc τ eqt Q stk x)) (.mkImp (c.pr false) (b.vc τ eqt Q stk y))
  | .call c a, stk, .call f args mem k => if f = c.f then .mkAnd (lesV args c.args) (.mkAnd (memQV mem c.mem) (a.vc τ eqt Q stk (k c.r c.m))) else .ff
  | .call c a, stk, .callD f args mem k => if f = c.f then .mkAnd (lesV args c.args) (.mkAnd (memQV mem c.mem) (a.vc τ eqt Q stk (k c.r c.m))) else .ff
  | .callF c a, stk, .call f args mem k => if f = c.f then .mkAnd (lesV args c.args) (.mkAnd (memQV mem c.mem) (.mkImp c.r.facts.den (a.vc τ eqt Q stk (k c.r c.m)))) else .ff
  | .callH c a, stk, .call f args mem k => if f = c.f then .mkAnd (.p c.pre) (.mkAnd (lesV args c.args) (.mkAnd (memQV mem c.mem) (a.vc τ eqt Q stk (k c.r c.m)))) else .ff
  | .callH c a, stk, .callD f args mem k => if f = c.f then .mkAnd (.p c.pre) (.mkAnd (lesV args c.args) (.mkAnd (memQV mem c.mem) (a.vc τ eqt Q stk (k c.r c.m)))) else .ff
  | .callX c a, stk, .call f args mem k => if f = c.f then .mkAnd (lesV args c.args) (.mkAnd (memQV mem c.mem) (.all fun x => .mkImp (c.I x) ((a x).vc τ eqt Q stk (k (c.R x) (c.M x))))) else .ff
  | .callXH c a, stk, .call f args mem k => if f = c.f then .mkAnd (.p c.pre) (.mkAnd (lesV args c.args) (.mkAnd (memQV mem c.mem) (.all fun x => .mkImp (c.I x) ((a x).vc τ eqt Q stk (k (c.R x) (c.M x)))))) else .ff
  | .loop gh σ X st I μ a, stk, .loop body s k => if nodupB σ ∧ σ.take (s.ghost gh).np = List.range (s.ghost gh).np then
      .mkAnd (.ex fun x => .mkAnd (.p (I x)) (leSV ((s.ghost gh).view σ) (st x))) (.all fun x => .mkImp (I x) ((a x).vc τ eqt Q (⟨X, st, I, μ, x, k⟩ :: stk) (roundT τ eqt body (st x)))) else .ff
  | .next σ, fr :: _, .done (.st .normal s) => if nodupB σ ∧ σ.take s.np = List.range s.np then
      .ex fun x' => .mkAnd (.p (fr.I x')) (.mkAnd (leSV (s.view σ) (fr.st x')) (.p (fr.μ x' < fr.μ fr.x))) else .ff
  | .out a, fr :: stk, .done (.st (.exit id) s) => a.vc τ eqt Q stk (fr.k (.exit id) s)
  | .out a, fr :: stk, .done (.st .ret s) => a.vc τ eqt Q stk (fr.k .ret s)
  | _, _, _ => .ff
def hold (P : Program) (Q : AV → List (Option Blk) → VC) : List Frame → Fin → Prop
  | [], .ret r m => (Q r m).den
  | [], .st .. => False
  | fr :: _, .st .normal s' => ∃ σ x', nodupB σ = true ∧ (σ.take s'.np == List.range s'.np) = true ∧ fr.I x' ∧ (s'.view σ).le (fr.st x') ∧ fr.μ x' < fr.μ fr.x
  | fr :: stk, .st e s' => (fr.k e s').holds P (hold P Q stk)
  | _ :: _, .ret .. => False
theorem T.holds_mono {P : Program} {Q Q' : Fin → Prop} (t : T) (h : t.holds P Q) (hq : ∀ f, Q f → Q' f) : t.holds P Q' := by
  induction t with
  | done f => exact hq f h
  | ite c x y ihx ihy => exact ⟨fun hc => ihx (h.1 hc), fun hc => ihy (h.2 hc)⟩
  | need c t ih => exact ⟨h.1, ih h.2⟩
  | call f args mem k ih => obtain ⟨Post, h1, h2⟩ := h; exact ⟨Post, h1, fun r m hp => ih r m (h2 r m hp)⟩
  | loop body s k ih => obtain ⟨R, h1, h2⟩ := h; exact ⟨R, h1, fun x s' hr => ih x s' (h2 x s' hr)⟩
  | draw ok t ih => exact ⟨h.1, ih h.2⟩
  | callD f args mem k ih => obtain ⟨r, m, h1, h2⟩ := h; exact ⟨r, m, h1, ih r m h2⟩
  | bad n => exact h
theorem Ans.vc_sound {P : Program} {τ : Tab} {eqt : EqTab} (E : Env P τ eqt) (Q : AV → List (Option Blk) → VC) (a : Ans P) : ∀ (stk : List Frame) (t : T), (a.vc τ eqt Q stk t).den → t.holds P (hold P Q stk) := by
  induction a with
  | ret =>
    intro stk t h
    cases stk with
    | nil =>
      cases t <;> first | exact h.elim | skip
      rename_i f
      cases f <;> first | exact h.elim | exact h
    | cons fr stk => exact h.elim
  | need a ih =>
    intro stk t h
    cases t <;> first | exact h.elim | skip
    rename_i c t
    have h : (VC.mkAnd (.p (c.pr true)) (a.vc τ eqt Q stk t)).den := h
    rw [VC.den_and] at h
    exact ⟨(B.pr_iff _ _).1 h.1, ih stk t h.2⟩
  | draw a ih =>
    intro stk t h
    cases t <;> first | exact h.elim | skip
    rename_i ok t
    have h : (if ok then a.vc τ eqt Q stk t else VC.ff).den := h
    split at h
    · rename_i e; exact ⟨e, ih stk t h⟩
    · exact h.elim
  | ite a b iha ihb =>
    intro stk t h
    cases t <;> first | exact h.elim | skip
    rename_i c x y
    have h : (VC.mkAnd (.mkImp (c.pr true) (a.vc τ eqt Q stk x)) (.mkImp (c.pr false) (b.vc τ eqt Q stk y))).den := h
    rw [VC.den_and, VC.den_imp, VC.den_imp, B.pr_iff, B.pr_iff] at h
    exact ⟨fun hc => iha stk x (h.1 hc), fun hc => ihb stk y (h.2 hc)⟩
  | call c a ih =>
    intro stk t h
    cases t <;> first | exact h.elim | skip
    · rename_i f args mem k
      replace h : (if f = c.f then VC.mkAnd (lesV args c.args) (.mkAnd (memQV mem c.mem) (a.vc τ eqt Q stk (k c.r c.m))) else .ff).den := h
      by_cases e : f = c.f
      · rw [if_pos e] at h
        subst e
        rw [VC.den_and, VC.den_and] at h
        exact call_to (c.ok.less (lesV_den _ _ h.1) (memQV_den _ _ h.2.1)) (ih stk _ h.2.2)
      · rw [if_neg e] at h; exact h.elim
    · rename_i f args mem k
      replace h : (if f = c.f then VC.mkAnd (lesV args c.args) (.mkAnd (memQV mem c.mem) (a.vc τ eqt Q stk (k c.r c.m))) else .ff).den := h
      by_cases e : f = c.f
      · rw [if_pos e] at h
        subst e
        rw [VC.den_and, VC.den_and] at h
        exact callD_to (c.ok.less (lesV_den _ _ h.1) (memQV_den _ _ h.2.1)) (ih stk _ h.2.2)
      · rw [if_neg e] at h; exact h.elim
  | callF c a ih =>
    intro stk t h
    cases t <;> first | exact h.elim | skip
    rename_i f args mem k
    replace h : (if f = c.f then VC.mkAnd (lesV args c.args) (.mkAnd (memQV mem c.mem) (.mkImp c.r.facts.den (a.vc τ eqt Q stk (k c.r c.m)))) else .ff).den := h
    by_cases e : f = c.f
    · rw [if_pos e] at h
      subst e
      rw [VC.den_and, VC.den_and, VC.den_imp] at h
      refine ⟨_, Runs.res_facts (c.ok.less (lesV_den _ _ h.1) (memQV_den _ _ h.2.1)), ?_⟩
      rintro _ _ ⟨⟨rfl, rfl⟩, hf⟩
      exact ih stk _ (h.2.2 hf)
    · rw [if_neg e] at h; exact h.elim
  | callH c a ih =>
    intro stk t h
    cases t <;> first | exact h.elim | skip
    · rename_i f args mem k
      replace h : (if f = c.f then VC.mkAnd (.p c.pre) (.mkAnd (lesV args c.args) (.mkAnd (memQV mem c.mem) (a.vc τ eqt Q stk (k c.r c.m)))) else .ff).den := h
      by_cases e : f = c.f
      · rw [if_pos e] at h
        subst e
        rw [VC.den_and, VC.den_and, VC.den_and] at h
        exact call_to ((c.ok h.1).less (lesV_den _ _ h.2.1) (memQV_den _ _ h.2.2.1)) (ih stk _ h.2.2.2)
      · rw [if_neg e] at h; exact h.elim
    · rename_i f args mem k
      replace h : (if f = c.f then VC.mkAnd (.p c.pre) (.mkAnd (lesV args c.args) (.mkAnd (memQV mem c.mem) (a.vc τ eqt Q stk (k c.r c.m)))) else .ff).den := h
      by_cases e : f = c.f
      · rw [if_pos e] at h
        subst e
        rw [VC.den_and, VC.den_and, VC.den_and] at h
        exact callD_to ((c.ok h.1).less (lesV_den _ _ h.2.1) (memQV_den _ _ h.2.2.1)) (ih stk _ h.2.2.2)
      · rw [if_neg e] at h; exact h.elim
  | callX c a ih =>
    intro stk t h
    cases t <;> first | exact h.elim | skip
    rename_i f args mem k
    replace h : (if f = c.f then VC.mkAnd (lesV args c.args) (.mkAnd (memQV mem c.mem) (.all fun x => .mkImp (c.I x) ((a x).vc τ eqt Q stk (k (c.R x) (c.M x))))) else .ff).den := h
    by_cases e : f = c.f
    · rw [if_pos e] at h
      subst e
      rw [VC.den_and, VC.den_and] at h
      obtain ⟨h1, h2, h3⟩ := h
      obtain ⟨hm1, hm2⟩ := memQ_P _ _ (memQV_den _ _ h2)
      refine ⟨_, Runs.of_args c.ok (fun ρ vs => lePs_le _ _ vs (lesV_den _ _ h1)) (memP_le _ _ hm1) hm2, ?_⟩
      rintro _ _ ⟨x, hI, rfl, rfl⟩
      exact ih x stk _ ((VC.den_imp _ _).1 (h3 x) hI)
    · rw [if_neg e] at h; exact h.elim
  | callXH c a ih =>
    intro stk t h
    cases t <;> first | exact h.elim | skip
    rename_i f args mem k
    replace h : (if f = c.f then VC.mkAnd (.p c.pre) (.mkAnd (lesV args c.args) (.mkAnd (memQV mem c.mem) (.all fun x => .mkImp (c.I x) ((a x).vc τ eqt Q stk (k (c.R x) (c.M x)))))) else .ff).den := h
    by_cases e : f = c.f
    · rw [if_pos e] at h
      subst e
      rw [VC.den_and, VC.den_and, VC.den_and] at h
      obtain ⟨h0, h1, h2, h3⟩ := h
      obtain ⟨hm1, hm2⟩ := memQ_P _ _ (memQV_den _ _ h2)
      refine ⟨_, Runs.of_args (c.ok h0) (fun ρ vs => lePs_le _ _ vs (lesV_den _ _ h1)) (memP_le _ _ hm1) hm2, ?_⟩
      rintro _ _ ⟨x, hI, rfl, rfl⟩
      exact ih x stk _ ((VC.den_imp _ _).1 (h3 x) hI)
    · rw [if_neg e] at h; exact h.elim
  | loop gh σ X st I μ a ih =>
    intro stk t h
    cases t <;> first | exact h.elim | skip
    rename_i body s k
    have h : (if nodupB σ ∧ σ.take (s.ghost gh).np = List.range (s.ghost gh).np then
      VC.mkAnd (.ex fun x => .mkAnd (.p (I x)) (leSV ((s.ghost gh).view σ) (st x))) (.all fun x => .mkImp (I x) ((a x).vc τ eqt Q (⟨X, st, I, μ, x, k⟩ :: stk) (roundT τ eqt body (st x)))) else .ff).den := h
    split at h
    · rename_i e
      rw [VC.den_and] at h
      obtain ⟨⟨x0, hx⟩, hr⟩ := h
      rw [VC.den_and] at hx
      have main : (T.loop body (s.ghost gh) k).holds P (hold P Q stk) := by
       refine loop_rule E st I μ ⟨σ, x0, e.1, by simpa using e.2, hx.1, leSV_den hx.2⟩ fun x hI => ?_
       have := ih x (⟨X, st, I, μ, x, k⟩ :: stk) _ ((VC.den_imp _ _).1 (hr x) hI)
       refine T.holds_mono _ this ?_
       intro f hf
       cases f with
       | st e s' => cases e <;> exact hf
       | ret r m => exact hf
      obtain ⟨R0, l1, l2⟩ := main
      exact ⟨R0, l1.ghost gh, l2⟩
    · exact h.elim
  | next σ =>
    intro stk t h
    cases stk with
    | nil => exact h.elim
    | cons fr stk =>
      cases t <;> first | exact h.elim | skip
      rename_i f
      cases f with
      | ret r m => exact h.elim
      | st e s =>
        cases e with
        | normal =>
          have h : (if nodupB σ ∧ σ.take s.np = List.range s.np then
            VC.ex fun x' => .mkAnd (.p (fr.I x')) (.mkAnd (leSV (s.view σ) (fr.st x')) (.p (fr.μ x' < fr.μ fr.x))) else .ff).den := h
          split at h
          · rename_i e
            obtain ⟨x', hx⟩ := h
            rw [VC.den_and, VC.den_and] at hx
            exact ⟨σ, x', e.1, by simpa using e.2, hx.1, leSV_den hx.2.1, hx.2.2⟩
          · exact h.elim
        | exit id => exact h.elim
        | ret => exact h.elim
  | out a ih =>
    intro stk t h
    cases stk with
    | nil => exact h.elim
    | cons fr stk =>
      cases t <;> first | exact h.elim | skip
      rename_i f
      cases f with
      | ret r m => exact h.elim
      | st e s =>
        cases e with
        | normal => exact h.elim
        | exit id => exact ih stk _ h
        | ret => exact ih stk _ h
/-- A function's contract, from what is left to be proved. -/
theorem RunsTo.go {P : Program} {τ : Tab} {eqt : EqTab} (E : Env P τ eqt) {f : FuncId} {fn : Func} {c : Code} (hf : P.funcs[f]? = some fn) (hb : fn.body = some c) (hcall : ∀ args w, (callFunc f args).run P w = .ok (.enter f args) w)
    {n : Nat} (hn : fn.ntmps = n) {rs : List ResultVar} (hrs : fn.results.toList = rs) {args mem R M} (a : (AV.factsL args).den → (memFacts mem).den → Ans P) {G : Prop}
    (hG : (∀ (h1 : (AV.factsL args).den) (h2 : (memFacts mem).den), ((a h1 h2).vc τ eqt (fun r m => .mkAnd (leV (ghostR M m r R).1 R) (memPV (ghostR M m r R).2 M)) [] (bodyT τ eqt n rs c args mem)).den) = G) (h : G) : RunsTo P f args mem R M := by
  rw [← hG] at h
  refine Runs.facts fun h1 h2 => ?_
  refine Runs.weak (Runs.ghost (R := R) (M := M) (Post := fun r m => leP r R ∧ memP m M) (runs_body E hf hb hcall hn hrs (Post := fun r m => leP (ghostR M m r R).1 R ∧ memP (ghostR M m r R).2 M) ?_)) fun r m h => ⟨R, M, ⟨rfl, rfl⟩, h⟩
  refine T.holds_mono _ (Ans.vc_sound E _ _ [] _ (h h1 h2)) ?_
  intro f hf
  cases f with
  | st e s => exact hf
  | ret r m =>
    have hf : (VC.mkAnd (leV (ghostR M m r R).1 R) (memPV (ghostR M m r R).2 M)).den := hf
    rw [VC.den_and] at hf
    exact ⟨leV_den _ _ hf.1, memPV_den _ _ hf.2⟩
theorem RunsX.go {P : Program} {τ : Tab} {eqt : EqTab} (E : Env P τ eqt) {f : FuncId} {fn : Func} {c : Code} (hf : P.funcs[f]? = some fn) (hb : fn.body = some c) (hcall : ∀ args w, (callFunc f args).run P w = .ok (.enter f args) w)
    {n : Nat} (hn : fn.ntmps = n) {rs : List ResultVar} (hrs : fn.results.toList = rs) {args mem} {X : Type} {I : X → Prop} {R : X → AV} {M : X → List (Option Blk)} (a : (AV.factsL args).den → (memFacts mem).den → Ans P) {G : Prop}
    (hG : (∀ (h1 : (AV.factsL args).den) (h2 : (memFacts mem).den), ((a h1 h2).vc τ eqt (fun r m => .ex fun x => .mkAnd (.p (I x)) (.mkAnd (leV r (R x)) (memPV m (M x)))) [] (bodyT τ eqt n rs c args mem)).den) = G) (h : G) : Runs P f args mem fun r m => ∃ x, I x ∧ r = R x ∧ m = M x := by
  rw [← hG] at h
  refine Runs.facts fun h1 h2 => ?_
  refine Runs.weak (runs_body E hf hb hcall hn hrs (Post := fun r m => ∃ x, I x ∧ leP r (R x) ∧ memP m (M x)) ?_) fun r m ⟨x, h1, h2, h3⟩ => ⟨R x, M x, ⟨x, h1, rfl, rfl⟩, h2, h3⟩
  refine T.holds_mono _ (Ans.vc_sound E _ _ [] _ (h h1 h2)) ?_
  intro f hf
  cases f with
  | st e s => exact hf
  | ret r m =>
    obtain ⟨x, hf⟩ := hf
    rw [VC.den_and, VC.den_and] at hf
    exact ⟨x, hf.1, leV_den _ _ hf.2.1, memPV_den _ _ hf.2.2⟩
end Go.Sym
