/- A reckoning of code by values known in part: words. -/
import Derived.Calls
import Derived.Laws.AppendOwn
import Derived.Orders
set_option linter.unusedSimpArgs false
set_option linter.unusedVariables false
namespace Go.Sym


/-- An integer of which a name is known. -/
inductive E where
  | lit (n : Int)
  | v (g : Unit → Int)
  | add (a b : E)
  | sub (a b : E)
  | mul (a b : E)
  | quo (a b : E)
  | rem (a b : E)
  | emax (a b : E)
  | emin (a b : E)
  | wrap (k : IntKind) (a : E)
  deriving Inhabited
def E.den : E → Int
  | .lit n => n
  | .v g => g ()
  | .add a b => a.den + b.den
  | .sub a b => a.den - b.den
  | .mul a b => a.den * b.den
  | .quo a b => a.den.tdiv b.den
  | .rem a b => a.den.tmod b.den
  | .emax a b => if b.den > a.den then b.den else a.den
  | .emin a b => if b.den < a.den then b.den else a.den
  | .wrap k a => k.wrap a.den
inductive B where
  | lit (b : Bool)
  | v (g : Unit → Bool)
  | lt (a b : E)
  | le (a b : E)
  | eq (a b : E)
  | not (a : B)
  | and (a b : B)
  | or (a b : B)
  | beq (a b : B)
  deriving Inhabited
def B.den : B → Bool
  | .lit b => b
  | .v g => g ()
  | .lt a b => decide (a.den < b.den)
  | .le a b => decide (a.den ≤ b.den)
  | .eq a b => decide (a.den = b.den)
  | .not a => !a.den
  | .and a b => a.den && b.den
  | .or a b => a.den || b.den
  | .beq a b => a.den == b.den

def E.mkAdd : E → E → E
  | .lit a, .lit b => .lit (a + b)
  | .lit 0, e => e
  | e, .lit 0 => e
  | a, b => .add a b
def E.mkSub : E → E → E
  | .lit a, .lit b => .lit (a - b)
  | e, .lit 0 => e
  | a, b => .sub a b
def E.mkMul : E → E → E
  | .lit a, .lit b => .lit (a * b)
  | a, b => .mul a b
def E.mkQuo : E → E → E
  | .lit a, .lit b => .lit (a.tdiv b)
  | a, b => .quo a b
def E.mkRem : E → E → E
  | .lit a, .lit b => .lit (a.tmod b)
  | a, b => .rem a b
def B.mkLt : E → E → B
  | .lit a, .lit b => .lit (decide (a < b))
  | a, b => .lt a b
def B.mkLe : E → E → B
  | .lit a, .lit b => .lit (decide (a ≤ b))
  | a, b => .le a b
def B.mkEq : E → E → B
  | .lit a, .lit b => .lit (decide (a = b))
  | a, b => .eq a b
def B.mkNot : B → B
  | .lit b => .lit (!b)
  | .not b => b
  | b => .not b
def B.mkAnd : B → B → B
  | .lit true, b => b
  | .lit false, _ => .lit false
  | b, .lit true => b
  | a, b => .and a b
def B.mkBeq : B → B → B
  | .lit a, .lit b => .lit (a == b)
  | .lit true, b => b
  | .lit false, b => .mkNot b
  | a, .lit true => a
  | a, .lit false => .mkNot a
  | a, b => .beq a b
theorem E.den_mkAdd (a b : E) : (E.mkAdd a b).den = a.den + b.den := by unfold E.mkAdd; split <;> simp [E.den]
theorem E.den_mkSub (a b : E) : (E.mkSub a b).den = a.den - b.den := by unfold E.mkSub; split <;> simp [E.den]
theorem E.den_mkMul (a b : E) : (E.mkMul a b).den = a.den * b.den := by unfold E.mkMul; split <;> simp [E.den]
theorem E.den_mkQuo (a b : E) : (E.mkQuo a b).den = a.den.tdiv b.den := by unfold E.mkQuo; split <;> simp [E.den]
theorem E.den_mkRem (a b : E) : (E.mkRem a b).den = a.den.tmod b.den := by unfold E.mkRem; split <;> simp [E.den]
theorem B.den_mkLt (a b : E) : (B.mkLt a b).den = decide (a.den < b.den) := by unfold B.mkLt; split <;> rfl
theorem B.den_mkLe (a b : E) : (B.mkLe a b).den = decide (a.den ≤ b.den) := by unfold B.mkLe; split <;> rfl
theorem B.den_mkEq (a b : E) : (B.mkEq a b).den = decide (a.den = b.den) := by unfold B.mkEq; split <;> rfl
theorem B.den_mkNot (a : B) : (B.mkNot a).den = !a.den := by unfold B.mkNot; split <;> simp [B.den]
theorem B.den_mkBeq (a b : B) : (B.mkBeq a b).den = (a.den == b.den) := by unfold B.mkBeq; split <;> simp [B.den, B.den_mkNot]
theorem B.den_mkAnd (a b : B) : (B.mkAnd a b).den = (a.den && b.den) := by unfold B.mkAnd; split <;> simp [B.den]

/-- A value known in part. -/
inductive AV where
  | any
  | int (k : IntKind) (e : E) (lo hi : Int)
  | bool (b : B)
  | ptr (id sz : Nat) (row : E) (fld : Nat)
  | sl (id sz : Nat) (row len : E) (hi : Int)
  | agg (l : List AV)
  | tup (l : List AV)
  | fn (f : FuncId) (caps : List AV)
  | raw (v : Value)
  deriving Inhabited
/-- What a block holds. -/
inductive Con where
  | lit (rows : List (List AV))
  | sym (n : E) (f : E → List AV)
  | snoc (c : Con) (row : List AV)
  | set (c : Con) (row : E) (cells : List AV)
structure Blk where
  ty : TypeId
  sz : Nat
  wr : Bool
  con : Con
def Con.num : Con → E
  | .lit rows => .lit (rows.length : Nat)
  | .sym n _ => n
  | .snoc c _ => E.mkAdd c.num (.lit 1)
  | .set c _ _ => c.num
structure S where
  tmps : List AV
  mem : List (Option Blk)
  np : Nat
inductive AX where
  | normal
  | exit (id : Nat)
  | ret
def AX.conc : AX → Exit
  | .normal => .normal
  | .exit id => .exit id
  | .ret => .ret

def AV.ofCell : Value → AV
  | .int k n => .int k (.lit n) n n
  | .bool b => .bool (.lit b)
  | v => .raw v
def AV.ofV : Value → AV
  | .agg cs => .agg (cs.toList.map AV.ofCell)
  | v => AV.ofCell v

/-! ### types -/
inductive TD where
  | int (k : IntKind)
  | sl (elem : TypeId)
  | arr (n : Nat) (elem : TypeId)
  | st (fields : List (TypeId × Nat))
  | oth
structure TI where
  d : TD
  agg : Bool
  sz : Nat
  bytes : Nat
  zero : List Value
def TD.fits : TD → TypeDesc → Prop
  | .int k, d => d = .int k
  | .sl e, d => d = .slice e
  | .arr n e, d => d = .array n e
  | .st fs, d => ∃ gs, d = .struct gs ∧ gs.toList.map (fun g => (g.type, g.offset)) = fs
  | .oth, d => match d with | .struct _ | .array .. => False | _ => True
structure TI.ok (P : Program) (t : TypeId) (i : TI) : Prop where
  info : ∃ f z, P.info? t = some f ∧ f.size = i.sz ∧ f.bytes = i.bytes ∧ f.zero = some z ∧ z = (if i.agg then .agg i.zero.toArray else i.zero.headD undef) ∧ z.cells.toList = i.zero
  und : ∃ d, P.underlying t = some d ∧ i.d.fits d
  ag : i.agg = (match i.d with | .st _ | .arr .. => true | _ => false)
  one : i.zero.all (·.oneCell') = true
  len : i.zero.length = i.sz
  pos : 0 < i.sz

abbrev Tab := TypeId → Option TI
def tlook {α : Type} : List (Nat × α) → Nat → Option α
  | [], _ => none
  | (n, x) :: l, t => if n = t then some x else tlook l t
def AllOk {α : Type} (ok : Nat → α → Prop) : List (Nat × α) → Prop
  | [] => True
  | (n, x) :: l => ok n x ∧ AllOk ok l
theorem tlook_ok {α : Type} (ok : Nat → α → Prop) : ∀ (l : List (Nat × α)), AllOk ok l → ∀ t x, tlook l t = some x → ok t x
  | [], _, _, _, h => by cases h
  | (n, y) :: l, ⟨h1, h2⟩, t, x, h => by
    rw [tlook] at h
    split at h
    · rename_i e
      cases h
      subst e
      exact h1
    · exact tlook_ok ok l h2 t x h

/-- A value of one cell. -/
def AV.one : AV → Bool
  | .int .. | .bool _ | .ptr .. | .sl .. | .fn .. => true
  | .raw v => v.oneCell'
  | _ => false

/-! ### what one operation gives -/
inductive R where
  | val (v : AV) (upd : List (Nat × Option Blk)) (forget : Option Nat) (need : B) (touch : List Nat)
  | call (f : FuncId) (args : List AV)
  | bad
/-- A func value with a bound receiver: what is bound stands ahead, as a tuple. -/
def AV.bnd : List AV → Bool
  | .tup _ :: _ => true
  | _ => false
def S.tmp (s : S) (t : Nat) : AV := s.tmps.getD t .any
def S.blk (s : S) (id : Nat) : Option Blk := (s.mem[id]?).join
def S.eval (s : S) : Operand → AV
  | .tmp t => s.tmp t
  | .const v => .ofV v
  | .func f => .fn f []
  | .global _ => .any
def AV.cells? : AV → Option (List AV)
  | .agg l => some l
  | .raw v => if v.oneCell' then some [.raw v] else none
  | .any => none
  | .tup _ => none
  | a => some [a]
def R.pure (v : AV) : R := .val v [] none (.lit true) []

def numFit (k : IntKind) (e : E) (lo hi : Int) : AV :=
  if k.min ≤ lo && hi ≤ k.max then .int k e lo hi else .int k (.wrap k e) k.min k.max
def min4 (a b c d : Int) : Int := min (min a b) (min c d)
def max4 (a b c d : Int) : Int := max (max a b) (max c d)
def kxor (k : IntKind) (a b : Int) : Int := k.wrap ((BitVec.ofInt k.bits a ^^^ BitVec.ofInt k.bits b).toNat : Int)
def binInt (op : BinOp) (k : IntKind) (a : E) (la ha : Int) (b : E) (lb hb : Int) : R :=
  match op with
  | .add => .pure (numFit k (E.mkAdd a b) (la + lb) (ha + hb))
  | .sub => .pure (numFit k (E.mkSub a b) (la - hb) (ha - lb))
  | .mul => .pure (numFit k (E.mkMul a b) (min4 (la * lb) (la * hb) (ha * lb) (ha * hb)) (max4 (la * lb) (la * hb) (ha * lb) (ha * hb)))
  | .quo => .val (if 0 ≤ la && 0 ≤ lb then numFit k (E.mkQuo a b) 0 ha else numFit k (E.mkQuo a b) (-(max (-la) ha)) (max (-la) ha)) [] none (if 0 < lb || hb < 0 then .lit true else .mkNot (.mkEq b (.lit 0))) []
  | .rem => .val (if 0 ≤ la && 0 < lb then .int k (E.mkRem a b) 0 (min ha (hb - 1)) else .int k (E.mkRem a b) (-(min (max (-la) ha) (max (-lb) hb))) (min (max (-la) ha) (max (-lb) hb))) [] none (if 0 < lb || hb < 0 then .lit true else .mkNot (.mkEq b (.lit 0))) []
  | .eql => .pure (.bool (.mkEq a b))
  | .neq => .pure (.bool (.mkNot (.mkEq a b)))
  | .lss => .pure (.bool (.mkLt a b))
  | .leq => .pure (.bool (.mkLe a b))
  | .gtr => .pure (.bool (.mkLt b a))
  | .geq => .pure (.bool (.mkLe b a))
  | .xor => .pure (.int k (.v fun _ => kxor k a.den b.den) k.min k.max)
  | .shr => if 0 ≤ la then (match b with
    | .lit n => if n = 1 then .pure (.int k (E.mkQuo a (.lit 2)) 0 ha) else .bad
    | _ => .bad) else .bad
  | _ => .bad
/-- Types all of whose cells are integers of these kinds, compared cell by cell; booleans. -/
inductive EqK where
  | ints (ks : List IntKind)
  | bool
  | sl (e : TypeId)
abbrev EqTab := TypeId → Option EqK
def eqCells : List IntKind → List AV → List AV → Option B
  | [], [], [] => some (.lit true)
  | k0 :: ks, .int k a _ _ :: l, .int k' b _ _ :: m => if k = k0 ∧ k' = k0 then (eqCells ks l m).map (B.mkAnd (.mkEq a b)) else none
  | _, _, _ => none
def binOpA (eqt : EqTab) (op : BinOp) (t : TypeId) (x y : AV) : R :=
  match x, y with
  | .int k a la ha, .int k' b lb hb => if k = k' then binInt op k a la ha b lb hb else .bad
  | .agg l, .agg m =>
    match eqt t with
    | some (.ints ks) => match eqCells ks l m, op with
      | some b, .eql => .pure (.bool b)
      | some b, .neq => .pure (.bool (.mkNot b))
      | _, _ => .bad
    | _ => .bad
  | .bool a, .bool b =>
    match eqt t with
    | some .bool => match op with
      | .eql => .pure (.bool (.mkBeq a b))
      | .neq => .pure (.bool (.mkNot (.mkBeq a b)))
      | _ => .bad
    | _ => .bad
  | .raw (.slice a _ _), .raw (.slice none _ _) =>
    match eqt t with
    | some (.sl _) => match op with
      | .eql => .pure (.bool (.lit a.isNone))
      | _ => .bad
    | _ => .bad
  | .sl _ _ _ len _, .raw (.slice none _ _) =>
    match eqt t with
    | some (.sl _) => match op with
      | .eql => .val (.bool (.lit false)) [] none (.mkLt (.lit 0) len) []
      | _ => .bad
    | _ => .bad
  | _, _ => .bad
def unOpA (op : UnOp) (x : AV) : R :=
  match op, x with
  | .neg, .int k e lo hi => .pure (numFit k (E.mkSub (.lit 0) e) (-hi) (-lo))
  | .not, .bool b => .pure (.bool (.mkNot b))
  | _, _ => .bad

/-- One row or another. -/
def mergeCell (p : Unit → Bool) : AV → AV → Option AV
  | .int k a la ha, .int k' b lb hb => if k = k' then some (.int k (.v fun _ => if p () then a.den else b.den) (min la lb) (max ha hb)) else none
  | .bool a, .bool b => some (.bool (.v fun _ => if p () then a.den else b.den))
  | _, _ => none
def mergeRow (p : Unit → Bool) : List AV → List AV → Option (List AV)
  | [], [] => some []
  | a :: l, b :: m => match mergeCell p a b, mergeRow p l m with
    | some c, some r => some (c :: r)
    | _, _ => none
  | _, _ => none
/-- The cells of one row. -/
def Con.row? : Con → E → Option (List AV)
  | .lit rows, .lit n => if 0 ≤ n then rows[n.toNat]? else none
  | .lit _, _ => none
  | .sym _ f, e => some (f e)
  | .snoc c r, .lit n => match c.num with
    | .lit m => if n < m then c.row? (.lit n) else if n = m then some r else none
    | _ => none
  | .snoc c r, e => match c.row? e with
    | some q => mergeRow (fun _ => decide (e.den < c.num.den)) q r
    | none => none
  | .set c (.lit m) r, .lit n => if m = n then some r else if 0 ≤ m then c.row? (.lit n) else none
  | .set c e0 r, e => match c.row? e with
    | some r0 => mergeRow (fun _ => decide (e.den.toNat = e0.den.toNat)) r r0
    | none => none
def inRow (c : Con) (e : E) : B := .mkLt e c.num
def overlay (row : List AV) (fld : Nat) (cells : List AV) : List AV := row.take fld ++ cells ++ row.drop (fld + cells.length)
def Con.put (c : Con) (e : E) (row : List AV) : Con :=
  match c, e with
  | .lit rows, .lit n => .lit (rows.set n.toNat row)
  | c, e => .set c e row
def loadA (τ : Tab) (s : S) (t : TypeId) (a : AV) : R :=
  match a, τ t with
  | .ptr id sz row fld, some i =>
    match s.blk id with
    | some b =>
      if b.sz = sz then
        match b.con.row? row with
        | some r =>
          let cs := (r.drop fld).take i.sz
          if fld + i.sz ≤ sz && r.length = sz then
            if i.agg then .val (.agg cs) [] none (inRow b.con row) [id]
            else match cs with
              | [c] => .val c [] none (inRow b.con row) [id]
              | _ => .bad
          else .bad
        | none => .bad
      else .bad
    | none => .bad
  | _, _ => .bad
def storeA (τ : Tab) (s : S) (t : TypeId) (a x : AV) : R :=
  match a, τ t, x.cells? with
  | .ptr id sz row fld, some i, some cells =>
    match s.blk id with
    | some b =>
      if b.sz = sz && b.wr && cells.length = i.sz && cells.all AV.one then
        if fld = 0 && cells.length = sz then .val .any [(id, some { b with con := b.con.put row cells })] none (inRow b.con row) [id]
        else match b.con.row? row with
          | some r =>
            if fld + cells.length ≤ sz && r.length = sz then .val .any [(id, some { b with con := b.con.put row (overlay r fld cells) })] none (inRow b.con row) [id]
            else .bad
          | none => .bad
      else .bad
    | none => .bad
  | _, _, _ => .bad
def fillA (place : Nat → Option (Nat × Nat)) (cells : List AV) : List (Nat × AV) → Option (List AV)
  | [] => some cells
  | (i, v) :: rest =>
    match place i, v.cells? with
    | some (off, size), some vs =>
      if vs.length ≠ size || off + size > cells.length then none else fillA place (overlay cells off vs) rest
    | _, _ => none
def rowsOf (sz : Nat) : Nat → List AV → List (List AV)
  | 0, _ => []
  | n + 1, l => l.take sz :: rowsOf sz n (l.drop sz)
def rep (n : Nat) (l : List AV) : List AV := match n with
  | 0 => []
  | n + 1 => l ++ rep n l


def fieldOff (τ : Tab) (t : TypeId) (f : Nat) : Option Nat :=
  match τ t with
  | some { d := .st fs, .. } => match fs[f]? with
    | some (ft, off) => match τ ft with
      | some _ => some off
      | none => none
    | none => none
  | _ => none
def place (τ : Tab) (fs : List (TypeId × Nat)) (i : Nat) : Option (Nat × Nat) :=
  match fs[i]? with
  | some (ft, off) => match τ ft with
    | some j => some (off, j.sz)
    | none => none
  | none => none
def S.put (s : S) (dst : Option Nat) (v : AV) : S :=
  match dst with
  | some d => { s with tmps := s.tmps.set d v }
  | none => s
def setAt {α : Type} (l : List (Option α)) (i : Nat) (x : Option α) : List (Option α) :=
  match l, i with
  | [], 0 => [x]
  | [], n + 1 => none :: setAt [] n x
  | _ :: l, 0 => x :: l
  | a :: l, n + 1 => a :: setAt l n x
def S.upd (s : S) : List (Nat × Option Blk) → S
  | [] => s
  | (id, b) :: rest => { s with mem := setAt s.mem id b }.upd rest
mutual
def AV.names (id : Nat) : AV → Bool
  | .ptr i .. => i == id
  | .sl i .. => i == id
  | .agg l => AV.namesL id l
  | .tup l => AV.namesL id l
  | .fn _ l => AV.namesL id l
  | _ => false
def AV.namesL (id : Nat) : List AV → Bool
  | [] => false
  | a :: l => a.names id || AV.namesL id l
end
def AV.forget (id : Nat) (a : AV) : AV := if a.names id then .any else a
def forgetRows (id : Nat) (rows : List (List AV)) : List (List AV) := rows.map (·.map (·.forget id))
def Con.forget (id : Nat) : Con → Con
  | .lit rows => .lit (forgetRows id rows)
  | .sym n f => .sym n fun e => (f e).map (·.forget id)
  | .snoc c r => .snoc (c.forget id) (r.map (·.forget id))
  | .set c e r => .set (c.forget id) e (r.map (·.forget id))
def Blk.forget (id : Nat) (b : Blk) : Blk := { b with con := b.con.forget id }
def S.forget (s : S) (id : Nat) : S :=
  { s with tmps := s.tmps.map (·.forget id), mem := s.mem.map (·.map (·.forget id)) }
def S.fg (s : S) : Option Nat → S
  | some id => s.forget id
  | none => s

def elemOf? (τ : Tab) (t : TypeId) : Option (TypeId × TI) :=
  match τ t with
  | some { d := .sl e, .. } => match τ e with
    | some i => some (e, i)
    | none => none
  | _ => none
/-- Rows appended one by one. -/
def Con.push (c : Con) (r : List AV) : Con := match c with
  | .lit rows => .lit (rows ++ [r])
  | c => .snoc c r
def snocs (c : Con) : List (List AV) → Con
  | [] => c
  | r :: rest => snocs (c.push r) rest
def bigHi : Int := 1099511627776
def appendA (τ : Tab) (fresh : Nat) (s : S) (t : TypeId) (x y : AV) : R :=
  match elemOf? τ t, y with
  | some (e, i), .sl id2 sz2 (.lit 0) len2 _ =>
    match s.blk id2 with
    | some { con := .lit rows, sz := sz', wr := true, .. } =>
      if sz2 = i.sz && sz' = i.sz && rows.all (fun r => r.length == i.sz && r.all AV.one) && i.bytes ≤ 64 && rows.length ≤ 64 && 0 < rows.length then
        let n2 : Int := (rows.length : Nat)
        match x with
        | .raw (.slice none 0 0) => .val (.sl fresh i.sz (.lit 0) (.lit n2) n2) [(fresh, some ⟨e, i.sz, true, .lit rows⟩)] none (.mkEq len2 (.lit n2)) [id2]
        | .sl id sz (.lit 0) len hi =>
          match s.blk id with
          | some b =>
            if sz = i.sz && b.sz = i.sz && b.wr && b.ty = e && hi ≤ bigHi && s.np ≤ id && id != id2 then
              .val (.sl id i.sz (.lit 0) (E.mkAdd len (.lit n2)) (hi + n2)) [(id, some { b with con := (snocs b.con rows).forget id })] (some id) (.mkAnd (.mkEq len2 (.lit n2)) (.mkEq len b.con.num)) [id, id2]
            else .bad
          | none => .bad
        | _ => .bad
      else .bad
    | _ => .bad
  | _, _ => .bad
/-- Sums and differences whose first part is only named. -/
def E.addR (e r : E) : E := match r with
  | .lit 0 => e
  | r => .add e r
def E.subR (e r : E) : E := match r with
  | .lit 0 => e
  | r => .sub e r
theorem E.den_addR (a b : E) : (E.addR a b).den = a.den + b.den := by unfold E.addR; split <;> simp [E.den]
theorem E.den_subR (a b : E) : (E.subR a b).den = a.den - b.den := by unfold E.subR; split <;> simp [E.den]
/-- The cells of a row that is only named. -/
def Con.rowAt? : Con → E → Option (List AV)
  | .sym _ f, e => some (f e)
  | .snoc c r, e => match c.rowAt? e with
    | some q => mergeRow (fun _ => decide (e.den < c.num.den)) q r
    | none => none
  | .lit [r], _ => some r
  | _, _ => none
/-- Rows of one block, then rows of another. -/
def catRow (c : Con) (n : E) (sz : Nat) (g : E → List AV) (e : E) : List AV :=
  match c with
  | .lit [] => g e
  | c => match c.rowAt? e with
    | some r => match mergeRow (fun _ => decide (e.den < n.den)) r (g (E.subR e n)) with
      | some q => q
      | none => List.replicate sz .any
    | none => List.replicate sz .any
def oneF (n : E) (f : E → List AV) : Bool := (List.range n.den.toNat).all fun k => (f (.lit (k : Int))).all AV.one
theorem oneF_of {n : E} {f : E → List AV} (h : ∀ k : Nat, (f (.lit (k : Int))).all AV.one = true) : oneF n f = true := List.all_eq_true.2 fun k _ => h k
def symSl (s : S) : AV → Bool
  | .sl id2 _ _ _ _ => match s.blk id2 with
    | some { con := .sym _ _, .. } => true
    | _ => false
  | _ => false
def appendS (τ : Tab) (s : S) (t : TypeId) (x y : AV) : R :=
  match elemOf? τ t, x, y with
  | some (e, i), .sl id sz (.lit 0) len hi, .sl id2 sz2 row2 len2 hi2 =>
    match s.blk id, s.blk id2 with
    | some b, some ⟨_, sz', _, .sym m2 f2⟩ =>
      if sz = i.sz && b.sz = i.sz && b.wr && b.ty = e && hi ≤ bigHi && hi2 ≤ bigHi && s.np ≤ id && id != id2 && sz2 = i.sz && sz' = i.sz && i.bytes ≤ 64 then
        .val (.sl id i.sz (.lit 0) (E.mkAdd len len2) (hi + hi2)) [(id, some { b with con := .sym (E.mkAdd len len2) (catRow (b.con.forget id) len i.sz fun e => (f2 (E.addR e row2)).map (·.forget id)) })] (some id)
          (.mkAnd (.mkEq len b.con.num) (.mkAnd (.mkLe (E.mkAdd row2 len2) m2) (.v fun _ => oneF m2 f2))) [id, id2]
      else .bad
    | _, _ => .bad
  | _, _, _ => .bad
/-- clear: of the rows behind nothing is known any more. -/
def clearA (τ : Tab) (s : S) (t : TypeId) (x : AV) : R :=
  match elemOf? τ t, x with
  | some (e, i), .sl id sz row len _ =>
    match s.blk id with
    | some ⟨ty, sz', wr, .sym n f⟩ =>
      if sz = i.sz && sz' = i.sz && wr && ty = e then .val (.tup []) [(id, some ⟨ty, sz', wr, .sym row f⟩)] none (.mkAnd (.mkLe (.lit 0) len) (.mkLe row n)) [id]
      else .bad
    | _ => .bad
  | _, _ => .bad
def lenA (x : AV) : R :=
  match x with
  | .sl _ _ _ len hi => if hi ≤ 9223372036854775807 then .pure (.int .i64 len 0 hi) else .bad
  | .raw (.slice none 0 0) => .pure (.int .i64 (.lit 0) 0 0)
  | _ => .bad
def maxA : AV → AV → Option AV
  | .int k a la ha, .int k' b lb hb => if k = k' then some (.int k (.emax a b) (max la lb) (max ha hb)) else none
  | _, _ => none
def minA : AV → AV → Option AV
  | .int k a la ha, .int k' b lb hb => if k = k' then some (.int k (.emin a b) (min la lb) (min ha hb)) else none
  | _, _ => none
def foldA (f : AV → AV → Option AV) (x : AV) : List AV → Option AV
  | [] => some x
  | y :: l => match f x y with
    | some z => foldA f z l
    | none => none
def sliceA (x : AV) (lo hi : Option AV) : R :=
  match x with
  | .sl id sz row len h =>
    match lo, hi with
    | none, none => .pure x
    | some (.int .i64 a _ _), none => .val (.sl id sz (E.mkAdd row a) (E.mkSub len a) h) [] none (.mkAnd (.mkLe (.lit 0) a) (.mkLe a len)) []
    | none, some (.int .i64 b _ _) => .val (.sl id sz row b h) [] none (.mkAnd (.mkLe (.lit 0) b) (.mkLe b len)) []
    | some (.int .i64 a _ _), some (.int .i64 b _ _) => .val (.sl id sz (E.mkAdd row a) (E.mkSub b a) h) [] none (.mkAnd (.mkLe (.lit 0) a) (.mkAnd (.mkLe a b) (.mkLe b len))) []
    | _, _ => .bad
  | _ => .bad
/-- An appended slice that is known to be empty. -/
def zeroSl : AV → Bool
  | .raw (.slice _ 0 _) => true
  | _ => false
def appendZ (τ : Tab) (t : TypeId) (x : AV) : R :=
  match elemOf? τ t, x with
  | some _, .sl .. => .val x [] none (.lit true) []
  | _, _ => .bad
def builtinA (τ : Tab) (fresh : Nat) (s : S) (b : Builtin) (args : List AV) (tys : List TypeId) : R :=
  match b with
  | .len => match args, tys with
    | [x], [t] => match elemOf? τ t with
      | some _ => lenA x
      | none => .bad
    | _, _ => .bad
  | .append => match args, tys with
    | [x, y], [t, t'] => if t = t' then (if zeroSl y then appendZ τ t x else if symSl s y then appendS τ s t x y else appendA τ fresh s t x y) else .bad
    | _, _ => .bad
  | .clear => match args, tys with
    | [x], [t] => clearA τ s t x
    | _, _ => .bad
  | .max => match args with
    | x :: l => match foldA maxA x l with
      | some v => .pure v
      | none => .bad
    | [] => .bad
  | .min => match args with
    | x :: l => match foldA minA x l with
      | some v => .pure v
      | none => .bad
    | [] => .bad
  | _ => .bad
def callA (τ : Tab) (fresh : Nat) (s : S) (c : Callee) (args : List Operand) (tys : List TypeId) : R :=
  match c with
  | .value f => match s.eval f with
    | .fn f (.tup fs :: cs) => .call f (fs ++ args.map s.eval ++ cs)
    | .fn f caps => .call f (args.map s.eval ++ caps)
    | _ => .bad
  | .builtin b => builtinA τ fresh s b (args.map s.eval) tys
  | .invoke .. => .bad
def astep (τ : Tab) (eqt : EqTab) (fresh : Nat) (s : S) (o : Oper) : R :=
  match o.op with
  | .move x | .assign x => .pure (s.eval x)
  | .pick c a b =>
    match s.eval c with
    | .bool (.lit true) => .pure (s.eval a)
    | .bool (.lit false) => .pure (s.eval b)
    | .bool c => match s.eval a, s.eval b with
      | .bool x, .bool y => .pure (.bool (.or (.mkAnd c x) (.mkAnd (.mkNot c) y)))
      | _, _ => .bad
    | _ => .bad
  | .alloc t => match τ t with
    | some i => .val (.ptr fresh i.sz (.lit 0) 0) [(fresh, some ⟨t, i.sz, true, .lit [i.zero.map .ofCell]⟩)] none (.lit true) []
    | none => .bad
  | .box t x => match (s.eval x).cells? with
    | some cs => if 0 < cs.length then .val (.ptr fresh cs.length (.lit 0) 0) [(fresh, some ⟨t, cs.length, true, .lit [cs]⟩)] none (.lit true) [] else .bad
    | none => .bad
  | .build t parts => match τ t with
    | some { d := .st fs, zero := z, .. } => if !fs.all (fun p => (τ p.1).isSome) then .bad else match fillA (place τ fs) (z.map .ofCell) (parts.toList.map fun (i, x) => (i, s.eval x)) with
      | some cs => .pure (.agg cs)
      | none => .bad
    | some { d := .arr _ e, zero := z, .. } => match τ e with
      | some i => match fillA (fun n => some (n * i.sz, i.sz)) (z.map .ofCell) (parts.toList.map fun (i, x) => (i, s.eval x)) with
        | some cs => .pure (.agg cs)
        | none => .bad
      | none => .bad
    | _ => .bad
  | .buildSlice t len parts => match elemOf? τ t with
    | some (e, i) => if len * i.sz ≤ 65536 then match fillA (fun n => some (n * i.sz, i.sz)) (rep len (i.zero.map .ofCell)) (parts.toList.map fun (i, x) => (i, s.eval x)) with
        | some cs => .val (.sl fresh i.sz (.lit 0) (.lit (len : Nat)) (len : Nat)) [(fresh, some ⟨e, i.sz, true, .lit (rowsOf i.sz len cs)⟩)] none (.lit true) []
        | none => .bad
      else .bad
    | none => .bad
  | .load t a => loadA τ s t (s.eval a)
  | .store t a x => storeA τ s t (s.eval a) (s.eval x)
  | .nilCheck x => match s.eval x with
    | .ptr a b c d => .pure (.ptr a b c d)
    | .fn f l => .pure (.fn f l)
    | _ => .bad
  | .binOp op t x y _ => binOpA eqt op t (s.eval x) (s.eval y)
  | .unOp op _ x => unOpA op (s.eval x)
  | .convert src dst x => match τ src, τ dst, s.eval x with
    | some _, some { d := .int k, .. }, .int _ e lo hi => .pure (numFit k e lo hi)
    | _, _, _ => .bad
  | .makeFunc (.func f) first captured =>
    if first.isEmpty then (if AV.bnd (captured.toList.map s.eval) then .bad else .pure (.fn f (captured.toList.map s.eval)))
    else if captured.isEmpty then .pure (.fn f [.tup (first.toList.map s.eval)]) else .bad
  | .makeSlice t l c => match elemOf? τ t, s.eval l, s.eval c with
    | some (e, i), .int .i64 a la ha, .int .i64 b lb hb =>
      if 0 ≤ lb && hb ≤ 1048576 && i.bytes ≤ 64 && 0 ≤ la then .val (.sl fresh i.sz (.lit 0) a ha) [(fresh, some ⟨e, i.sz, true, match a with | .lit 0 => .lit [] | a => .sym a fun _ => i.zero.map .ofCell⟩)] none (.mkLe a b) []
      else .bad
    | _, _, _ => .bad
  | .slice t x lo hi none => match elemOf? τ t with
    | some (_, i) => match s.eval x with
      | .sl id sz row len h => if sz = i.sz then sliceA (.sl id sz row len h) (lo.map s.eval) (hi.map s.eval) else .bad
      | _ => .bad
    | none => .bad
  | .fieldAddr t x f => match s.eval x, fieldOff τ t f with
    | .ptr id sz row fld, some off => .pure (.ptr id sz row (fld + off))
    | _, _ => .bad
  | .indexAddr t x i => match elemOf? τ t, s.eval x, s.eval i with
    | some (_, ti), .sl id sz row len _, .int _ e _ _ => if ti.sz = sz then .val (.ptr id sz (E.mkAdd row e) 0) [] none (.mkAnd (.mkLe (.lit 0) e) (.mkLt e len)) [] else .bad
    | _, _, _ => .bad
  | .extract t ix => match s.eval t with
    | .tup l => match l[ix]? with
      | some v => .pure v
      | none => .bad
    | _ => .bad
  | .call c => callA τ fresh s c.callee c.args.toList c.argTypes.toList
  | .slice t x none (some hh) (some mm) => match elemOf? τ t with
    | some (_, i) => match s.eval x, s.eval hh, s.eval mm with
      | .sl id sz row len hb, .int .i64 b _ _, .int .i64 c _ _ => if sz = i.sz then .val (.sl id sz row b hb) [] none (.mkAnd (.mkLe (.lit 0) b) (.mkAnd (.mkLe b c) (.mkLe c len))) [] else .bad
      | _, _, _ => .bad
    | none => .bad
  | _ => .bad

/-! ### calls: what the callee may reach, in an order of its own -/
mutual
def AV.ids : AV → List Nat → List Nat
  | .ptr i .., acc => if acc.contains i then acc else acc ++ [i]
  | .sl i .., acc => if acc.contains i then acc else acc ++ [i]
  | .agg l, acc => AV.idsL l acc
  | .tup l, acc => AV.idsL l acc
  | .fn _ l, acc => AV.idsL l acc
  | _, acc => acc
def AV.idsL : List AV → List Nat → List Nat
  | [], acc => acc
  | a :: l, acc => AV.idsL l (a.ids acc)
end
/-- The references in a block that has no formula. -/
def Con.ids : Con → List Nat → List Nat
  | .lit rows, acc => rows.foldl (fun acc r => AV.idsL r acc) acc
  | .sym .., acc => acc
  | .snoc c r, acc => AV.idsL r (c.ids acc)
  | .set c _ r, acc => AV.idsL r (c.ids acc)
def reach (mem : List (Option Blk)) : Nat → Nat → List Nat → List Nat
  | 0, _, acc => acc
  | fuel + 1, i, acc =>
    match acc[i]? with
    | none => acc
    | some id => match (mem[id]?).join with
      | some b => reach mem fuel (i + 1) (b.con.ids acc)
      | none => reach mem fuel (i + 1) acc
def idxOf (σ : List Nat) (id : Nat) : Nat → Option Nat
  | n => match σ with
    | [] => none
    | x :: l => if x = id then some n else idxOf l id (n + 1)
mutual
/-- The same value under other numbers of blocks. -/
def AV.ren (σ : Nat → Option Nat) : AV → AV
  | .ptr i sz row fld => match σ i with | some j => .ptr j sz row fld | none => .any
  | .sl i sz row len hi => match σ i with | some j => .sl j sz row len hi | none => .any
  | .agg l => .agg (AV.renL σ l)
  | .tup l => .tup (AV.renL σ l)
  | .fn f l => .fn f (AV.renL σ l)
  | a => a
def AV.renL (σ : Nat → Option Nat) : List AV → List AV
  | [] => []
  | a :: l => a.ren σ :: AV.renL σ l
end
def Con.ren (σ : Nat → Option Nat) : Con → Con
  | .lit rows => .lit (rows.map (AV.renL σ))
  | .sym n f => .sym n fun e => AV.renL σ (f e)
  | .snoc c r => .snoc (c.ren σ) (AV.renL σ r)
  | .set c e r => .set (c.ren σ) e (AV.renL σ r)
def Blk.ren (σ : Nat → Option Nat) (b : Blk) : Blk := { b with con := b.con.ren σ }
/-- The blocks of the list σ, under their places in it. -/
def small (mem : List (Option Blk)) (σ : List Nat) : List (Option Blk) :=
  σ.map fun id => ((mem[id]?).join).map (·.ren (fun i => idxOf σ i 0))
/-- Where a block of the callee lies afterwards: an old one where it lay, a new one behind all. -/
def back (σ : List Nat) (fresh : Nat) (i : Nat) : Nat := σ.getD i (fresh + (i - σ.length))
def inject (σ : List Nat) (fresh : Nat) (m : List (Option Blk)) : Nat → List (Nat × Option Blk)
  | i => match m with
    | [] => []
    | b :: l => (back σ fresh i, b.map (·.ren fun j => some (back σ fresh j))) :: inject σ fresh l (i + 1)

def nodupB : List Nat → Bool
  | [] => true
  | x :: l => !l.contains x && nodupB l
/-! ### code -/
inductive Fin where
  | st (e : AX) (s : S)
  | ret (r : AV) (m : List (Option Blk))
inductive T where
  | done (f : Fin)
  | ite (c : B) (x y : T)
  | need (c : B) (t : T)
  | call (f : FuncId) (args : List AV) (mem : List (Option Blk)) (k : AV → List (Option Blk) → T)
  | loop (body : Code) (s : S) (k : AX → S → T)
  | draw (ok : Bool) (t : T)
  | callD (f : FuncId) (args : List AV) (mem : List (Option Blk)) (k : AV → List (Option Blk) → T)
  | bad (why : Nat)
def T.mkDraw : Bool → T → T
  | true, t => t
  | false, _ => .bad 13
def T.mkNeed : B → T → T
  | .lit true, t => t
  | c, t => .need c t
def S.apply (s : S) (dst : Option Nat) (v : AV) (upd : List (Nat × Option Blk)) (fg : Option Nat) : S := ((s.fg fg).upd upd).put dst v
/-- What an operation leaves that is passed over. -/
def skipV : AV := .raw undef
def opsA (τ : Tab) (eqt : EqTab) (ops : Array Oper) : List Oper → (S → T) → S → T
  | [], k, s => k s
  | o :: rest, k, s =>
    let go (s : S) : T := match astep τ eqt s.mem.length s o with
      | .val v upd fg need _ => T.mkNeed need (opsA τ eqt ops rest k (s.apply o.dst v upd fg))
      | .call f args =>
        let σ := reach s.mem 40 0 (AV.idsL args [])
        if nodupB σ && σ.all (fun id => (s.blk id).isSome) then
          .call f (AV.renL (fun i => idxOf σ i 0) args) (small s.mem σ) fun r m =>
            opsA τ eqt ops rest k (s.apply o.dst (r.ren fun j => some (back σ s.mem.length j)) (inject σ s.mem.length m 0) none)
        else .bad 6
      | .bad => .bad 1
    match o.guard with
    | none => go s
    | some (j, want) =>
      match (ops[j]?).bind (·.dst) with
      | some d =>
        match s.tmp d with
        | .bool (.lit c) => if c = want then go s else opsA τ eqt ops rest k (s.put o.dst skipV)
        | .bool c =>
          let yes := go (s.put (some d) (.bool (.lit want)))
          let no := opsA τ eqt ops rest k ((s.put (some d) (.bool (.lit !want))).put o.dst skipV)
          if want then .ite c yes no else .ite c no yes
        | .raw (.tuple _) => opsA τ eqt ops rest k (s.put o.dst skipV)
        | _ => .bad 2
      | none => .bad 3
/-! ### regions whose order is drawn -/
structure Log where
  dst : Option Nat
  v : AV
  upd : List (Nat × Option Blk)
  touch : List Nat
  names : List Nat
def addAll : List Nat → List Nat → List Nat
  | [], acc => acc
  | x :: l, acc => if acc.contains x then addAll l acc else addAll l (x :: acc)
/-- What surely lies before: the operations that an edge names, and theirs. -/
def befOf (acc : List (List Nat)) : List Edge → List Nat
  | [] => []
  | e :: l => if Region.binds .any e then addAll (e.on :: acc.getD e.on []) (befOf acc l) else befOf acc l
def befs : List Oper → List (List Nat) → List (List Nat)
  | [], acc => acc
  | o :: rest, acc => befs rest (acc ++ [befOf acc o.after.toList])
def edgesDown : List Oper → Nat → Bool
  | [], _ => true
  | o :: rest, i => o.after.toList.all (fun e => !Region.binds .any e || decide (e.on < i)) && edgesDown rest (i + 1)
def allBefore : Nat → List Nat → Bool
  | 0, _ => true
  | n + 1, l => l.contains n && allBefore n l
/-- From which operation on each waits for all that stand before it. -/
def tailFrom (bef : List (List Nat)) : Nat → Nat
  | 0 => 0
  | n + 1 => if allBefore n (bef.getD n []) then tailFrom bef n else n + 1
def conflict (a b : Log) : Bool :=
  (match a.dst with | some d => b.names.contains d || b.dst == some d | none => false) ||
  (match b.dst with | some d => a.names.contains d | none => false) ||
  a.upd.any (fun u => b.touch.contains u.1 || b.upd.any (fun v => v.1 == u.1)) || b.upd.any (fun u => a.touch.contains u.1)
def indepWith (b : Log) (bf : List Nat) : List Log → Nat → Bool
  | [], _ => true
  | a :: l, i => (!conflict a b || bf.contains i) && indepWith b bf l (i + 1)
def indep (bef : List (List Nat)) : List Log → Nat → List Log → Bool
  | [], _, _ => true
  | b :: l, j, done => indepWith b (bef.getD j []) done 0 && indep bef l (j + 1) (done ++ [b])
def injectD (σ : List Nat) : List (Option Blk) → Nat → List (Nat × Option Blk)
  | [], _ => []
  | b :: l, i => (σ.getD i 0, b.map (·.ren fun j => σ[j]?)) :: injectD σ l (i + 1)
def isSource (ops : List Oper) (i : Nat) : Bool := ops.any fun o => match o.guard with | some (j, _) => j == i | none => false
def drawRun (τ : Tab) (eqt : EqTab) (ops : Array Oper) (base : Nat) : List Oper → Nat → List Log → (List Log → S → T) → S → T
  | [], _, logs, k, s => k logs s
  | o :: rest, i, logs, k, s =>
    let fin (v : AV) (upd : List (Nat × Option Blk)) (touch : List Nat) : T :=
      drawRun τ eqt ops base rest (i + 1) (logs ++ [⟨o.dst, v, upd, touch, o.looksAt ops⟩]) k ((s.upd upd).put o.dst v)
    let out (v : AV) (upd : List (Nat × Option Blk)) (touch : List Nat) : T :=
      match v with
      | .bool (.lit _) => fin v upd touch
      | .bool c => if isSource ops.toList i then .ite c (fin (.bool (.lit true)) upd touch) (fin (.bool (.lit false)) upd touch) else fin v upd touch
      | v => fin v upd touch
    let go : T := match astep τ eqt (base + i) s o with
      | .val v upd none need touch => T.mkNeed need (out v upd touch)
      | .val _ _ (some _) _ _ => .bad 10
      | .call f args =>
        let σ := reach s.mem 40 0 (AV.idsL args [])
        if nodupB σ && σ.all (fun id => (s.blk id).isSome) then
          .callD f (AV.renL (fun i => idxOf σ i 0) args) (small s.mem σ) fun r m =>
            if m.length = σ.length then out (r.ren fun j => σ[j]?) (injectD σ m 0) σ
            else if m.length = σ.length + 1 then out (r.ren fun j => (σ ++ [base + i])[j]?) (injectD (σ ++ [base + i]) m 0) σ
            else .bad 11
        else .bad 6
      | .bad => .bad 1
    match o.guard with
    | none => go
    | some (j, want) =>
      match (ops[j]?).bind (·.dst) with
      | some d =>
        match s.tmp d with
        | .bool (.lit c) => if c = want then go else fin skipV [] []
        | .raw (.tuple _) => fin skipV [] []
        | _ => .bad 2
      | none => .bad 3
def drawT (τ : Tab) (eqt : EqTab) (ops : Array Oper) (k : S → T) (s : S) : T :=
  let l := ops.toList
  let bef := befs l []
  let m := tailFrom bef l.length
  if edgesDown l 0 then
    drawRun τ eqt ops s.mem.length (l.take m) 0 [] (fun logs s' => T.mkDraw (indep bef logs 0 []) (opsA τ eqt ops (l.drop m) k s')) s
  else .bad 12
def exec (τ : Tab) (eqt : EqTab) : Code → (AX → S → T) → S → T
  | .skip, k, s => k .normal s
  | .region _ ops false, k, s => opsA τ eqt ops ops.toList (k .normal) s
  | .region _ ops true, k, s => drawT τ eqt ops (k .normal) s
  | .seq a b, k, s => exec τ eqt a (fun e s' => match e with | .normal => exec τ eqt b k s' | e => k e s') s
  | .cond c a b, k, s =>
    match s.eval c with
    | .bool (.lit true) => exec τ eqt a k s
    | .bool (.lit false) => exec τ eqt b k s
    | .bool c => .ite c (exec τ eqt a k s) (exec τ eqt b k s)
    | _ => .bad 4
  | .block id c, k, s => exec τ eqt c (fun e s' => match e with | .exit j => if j = id then k .normal s' else k (.exit j) s' | e => k e s') s
  | .loop body, k, s => .loop body s k
  | .exit id, k, s => k (.exit id) s
  | .ret, k, s => k .ret s
  | _, _, _ => .bad 5
/-! ### a function's results -/
def resA (τ : Tab) (s : S) : List ResultVar → Option (List AV × B)
  | [] => some ([], .lit true)
  | .tmp t :: l => match resA τ s l with
    | some (vs, n) => some (s.tmp t :: vs, n)
    | none => none
  | .cell a t :: l => match loadA τ s t (s.tmp a), resA τ s l with
    | .val v _ _ need _, some (vs, n) => some (v :: vs, B.mkAnd need n)
    | _, _ => none
def finish (s : S) (r : AV) : T :=
  let σ := reach s.mem 40 0 (r.ids (List.range s.np))
  if nodupB σ && σ.take s.np == List.range s.np then .done (.ret (r.ren fun i => idxOf σ i 0) (small s.mem σ)) else .bad 7
def finT (τ : Tab) (rs : List ResultVar) (s : S) : T :=
  match resA τ s rs with
  | some ([v], need) => T.mkNeed need (finish s v)
  | some (vs, need) => T.mkNeed need (finish s (.tup vs))
  | none => .bad 8
def endT (τ : Tab) (rs : List ResultVar) : AX → S → T
  | .exit _, _ => .bad 9
  | _, s => finT τ rs s
def rest (n : Nat) : List AV := match n with
  | 0 => []
  | n + 1 => .any :: rest n
def bodyT (τ : Tab) (eqt : EqTab) (ntmps : Nat) (rs : List ResultVar) (c : Code) (args : List AV) (mem : List (Option Blk)) : T :=
  exec τ eqt c (endT τ rs) ⟨args ++ rest (ntmps - args.length), mem, mem.length⟩
def roundT (τ : Tab) (eqt : EqTab) (c : Code) (s : S) : T := exec τ eqt c (fun e s' => .done (.st e s')) s
/-- The state with the blocks of σ alone, under their places. -/
def S.view (σ : List Nat) (s : S) : S := ⟨AV.renL (fun i => idxOf σ i 0) s.tmps, small s.mem σ, s.np⟩
/-! The equations by which these words are reckoned, made once. -/
def warmOps : List Oper := [⟨some 0, .move (.const (.int .i64 1)), 3, "", #[], none⟩, ⟨some 1, .binOp .add 3 (.tmp 0) (.const (.int .i64 1)) 3, 3, "", #[⟨0, .data⟩], some (2, true)⟩, ⟨some 2, .binOp .lss 3 (.tmp 0) (.const (.int .i64 1)) 3, 4, "", #[⟨1, .data⟩], none⟩,
  ⟨some 3, .box 3 (.tmp 0), 0, "", #[], none⟩, ⟨some 4, .load 3 (.tmp 3), 0, "", #[], none⟩, ⟨none, .store 3 (.tmp 3) (.tmp 0), 0, "", #[], none⟩, ⟨some 5, .build 9 #[(0, .tmp 0)], 0, "", #[], none⟩, ⟨some 6, .buildSlice 7 2 #[(0, .tmp 0)], 0, "", #[], none⟩,
  ⟨some 7, .indexAddr 7 (.tmp 6) (.const (.int .i64 1)), 0, "", #[], none⟩, ⟨some 8, .call ⟨.builtin .append, #[.tmp 6, .tmp 6], #[7, 7]⟩, 0, "", #[], none⟩, ⟨some 9, .call ⟨.builtin .len, #[.tmp 8], #[7]⟩, 0, "", #[], none⟩, ⟨some 10, .call ⟨.builtin .max, #[.tmp 0, .tmp 0], #[3, 3]⟩, 0, "", #[], none⟩, ⟨some 10, .call ⟨.builtin .min, #[.tmp 0, .tmp 0], #[3, 3]⟩, 0, "", #[], none⟩,
  ⟨some 11, .slice 7 (.tmp 8) (some (.const (.int .i64 1))) none none, 0, "", #[], none⟩, ⟨some 12, .makeSlice 7 (.tmp 0) (.tmp 0), 0, "", #[], none⟩, ⟨some 13, .fieldAddr 9 (.tmp 3) 0, 0, "", #[], none⟩, ⟨some 14, .extract (.tmp 5) 0, 0, "", #[], none⟩, ⟨some 15, .unOp .not 4 (.tmp 2), 0, "", #[], none⟩, ⟨some 15, .unOp .neg 4 (.tmp 0), 0, "", #[], none⟩, ⟨some 15, .convert 3 3 (.tmp 0), 0, "", #[], none⟩,
  ⟨some 15, .makeFunc (.func 1) #[] #[.tmp 0], 0, "", #[], none⟩, ⟨some 15, .nilCheck (.tmp 3), 0, "", #[], none⟩, ⟨some 15, .alloc 9, 0, "", #[], none⟩, ⟨some 15, .pick (.tmp 2) (.tmp 2) (.tmp 2), 0, "", #[], none⟩, ⟨some 15, .binOp .eql 9 (.tmp 5) (.tmp 5) 9, 0, "", #[], none⟩, ⟨some 15, .binOp .eql 4 (.tmp 2) (.tmp 2) 4, 0, "", #[], none⟩, ⟨some 16, .call ⟨.value (.func 3), #[.tmp 3, .tmp 8, .tmp 5], #[3]⟩, 0, "", #[], none⟩]
def warmTab : Tab := tlook [(3, { d := .int .i64, agg := false, sz := 1, bytes := 8, zero := [.int .i64 0] }), (4, { d := .oth, agg := false, sz := 1, bytes := 8, zero := [.bool false] }), (7, { d := .sl 3, agg := false, sz := 1, bytes := 24, zero := [.slice none 0 0] }), (9, { d := .st [(3, 0), (3, 1)], agg := true, sz := 2, bytes := 16, zero := [.int .i64 0, .int .i64 0] })]
def warmEq : EqTab := tlook [(9, .ints [.i64, .i64]), (4, .bool)]
def warmS (x : Int) : S := ⟨[.int .i64 (.v fun _ => x) 0 9, .any, .bool (.v fun _ => true)] ++ rest 20, [none], 1⟩
def warmAll (x : Int) : List R := warmOps.map (astep warmTab warmEq 1 ⟨[.int .i64 (.v fun _ => x) 0 9, .any, .bool (.v fun _ => true), .ptr 0 1 (.lit 0) 0, .any, .agg [.int .i64 (.lit 1) 1 1, .int .i64 (.v fun _ => x) 1 1], .sl 1 1 (.lit 0) (.lit 1) 1, .any, .sl 2 1 (.lit 0) (.v fun _ => x) 1] ++ rest 20, [some ⟨3, 1, true, .lit [[.int .i64 (.lit 1) 1 1]]⟩, some ⟨3, 1, true, .lit [[.int .i64 (.lit 1) 1 1]]⟩, some ⟨3, 1, true, .sym (.v fun _ => x) fun _ => [.int .i64 (.lit 1) 1 1]⟩], 1⟩)
theorem warm1 (x : Int) : warmAll x = warmAll x := by
  conv => lhs; cbv
  conv => rhs; cbv
theorem warm2 (x : Int) : bodyT warmTab warmEq 20 [.tmp 2, .cell 3 3] (.seq (.region 0 warmOps.toArray false) (.seq (.block 0 (.seq (.cond (.tmp 2) .skip (.exit 0)) .skip)) .ret)) [.int .i64 (.v fun _ => x) 0 9, .any, .bool (.v fun _ => true)] [some ⟨3, 1, true, .set (.snoc (.lit []) []) (.lit 0) []⟩] = .bad 9 ∨ True := by
  conv => lhs; lhs; cbv
  exact .inr trivial
theorem warm3 (x : Int) : bodyT warmTab warmEq 20 [.tmp 2] (.seq (.region 0 (warmOps.take 1).toArray true) (.seq (.loop .skip) .ret)) [.int .i64 (.v fun _ => x) 0 9, .any, .bool (.v fun _ => true)] [] = .bad 9 ∨ True := by
  conv => lhs; lhs; cbv
  exact .inr trivial
theorem warm4 (x : Int) : ((warmS x).view [0], drawT warmTab warmEq warmOps.toArray (fun s => .done (.st .ret s)) (warmS x), finT warmTab [.tmp 0, .tmp 1] (warmS x), roundT warmTab warmEq .ret (warmS x), Con.row? (.snoc (.set (.lit [[.any]]) (.lit 0) [.any]) [.any]) (.lit 0), injectD [0] [some ⟨3, 1, true, .sym (.lit 1) fun _ => []⟩] 0, inject [0] 3 [some ⟨3, 1, true, .sym (.lit 1) fun _ => []⟩] 0, Con.put (.sym (.lit 0) fun _ => []) (.lit 0) [], Blk.forget 0 ⟨3, 1, true, .set (.sym (.lit 1) fun _ => []) (.lit 0) [.sl 0 1 (.lit 0) (.lit 0) 1]⟩, (AV.tup [.fn 1 [.ptr 0 1 (.lit 0) 0]]).names 0, (AV.tup [.fn 1 [.ptr 0 1 (.lit 0) 0]]).ids [], (AV.tup [.fn 1 [.ptr 0 1 (.lit 0) 0, .agg []]]).ren fun i => some i, (warmS x).forget 0, numFit .i64 (.lit 0) 0 0, numFit .u64 (.lit 0) 0 0, B.mkBeq (.lit true) (.lit false), E.mkQuo (.lit 1) (.lit 1), E.mkRem (.lit 1) (.lit 1), E.mkMul (.lit 1) (.lit 1), conflict ⟨some 1, .any, [(1, none)], [1], [1]⟩ ⟨some 1, .any, [(1, none)], [1], [1]⟩, indep [[]] [⟨some 1, .any, [(1, none)], [1], [1]⟩, ⟨some 1, .any, [(1, none)], [1], [1]⟩] 0 []).1.np = 1 := by
  conv => lhs; cbv
end Go.Sym
