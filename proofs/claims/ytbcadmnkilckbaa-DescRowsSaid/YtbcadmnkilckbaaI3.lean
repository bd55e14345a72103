/- The ideal machine's operations that only compute or read, each with the proof that the model's operation does the same. Own text; nothing here is trusted. -/
import Derived.Test.YtbcadmnkilckbaaI2
import Derived.ChangeKeysEq
namespace Go.Ideal
set_option linter.unusedSimpArgs false
set_option linter.unusedVariables false

/-! ### Constants -/

def ofCell : Value → Option V
  | .bool b => some (.bool (.c b))
  | .int k n => some (.int k (.c n))
  | .string s => some (.str true s)
  | .pointer none => some .nilp
  | .slice none 0 0 => some .nils
  | .map none => some .nilm
  | .nilFunc => some .nilf
  | .nilIface => some .nili
  | _ => none

def ofCells : List Value → Option (List V)
  | [] => some []
  | y :: ys => match ofCell y with
    | some v => match ofCells ys with
      | some vs => some (v :: vs)
      | none => none
    | none => none

def ofValue : Value → Option V
  | .agg ys => (ofCells ys.toList).map V.agg
  | .tuple ys => (ofCells ys.toList).map V.tuple
  | y => ofCell y

theorem ofCell_ok {r : Rho} {y : Value} {v : V} (h : ofCell y = some v) : VR r v y := by
  unfold ofCell at h
  split at h <;> first
    | (simp only [Option.some.injEq] at h; subst h; simp only [VR, B.val, E.val])
    | simp at h

theorem ofCells_ok {r : Rho} : ∀ (ys : List Value) (vs : List V), ofCells ys = some vs → VRs r vs ys
  | [], vs, h => by simp only [ofCells, Option.some.injEq] at h; subst h; simp only [VRs]
  | y :: ys, vs, h => by
    simp only [ofCells] at h
    cases h1 : ofCell y with
    | none => rw [h1] at h; simp at h
    | some v =>
      rw [h1] at h
      cases h2 : ofCells ys with
      | none => rw [h2] at h; simp at h
      | some us =>
        rw [h2] at h
        simp only [Option.some.injEq] at h
        subst h
        simp only [VRs]
        exact ⟨y, ys, rfl, ofCell_ok h1, ofCells_ok ys us h2⟩

theorem ofValue_ok {r : Rho} {y : Value} {v : V} (h : ofValue y = some v) : VR r v y := by
  unfold ofValue at h
  split at h
  · rename_i ys
    cases h1 : ofCells ys.toList with
    | none => rw [h1] at h; simp at h
    | some vs =>
      rw [h1] at h
      simp only [Option.map_some, Option.some.injEq] at h
      subst h
      simp only [VR]
      exact ⟨ys.toList, by simp, ofCells_ok _ _ h1⟩
  · rename_i ys
    cases h1 : ofCells ys.toList with
    | none => rw [h1] at h; simp at h
    | some vs =>
      rw [h1] at h
      simp only [Option.map_some, Option.some.injEq] at h
      subst h
      simp only [VR]
      exact ⟨ys.toList, by simp, ofCells_ok _ _ h1⟩
  · exact ofCell_ok h

/-- The cells of a value. -/
def V.cells : V → List V
  | .agg cs => cs
  | v => [v]

theorem VR.cells {r : Rho} {v : V} {y : Value} (h : VR r v y) (ha : v.one = true ∨ ∃ cs, v = .agg cs) : VRs r v.cells y.cells.toList := by
  have hone : v.one = true → VRs r v.cells y.cells.toList := by
    intro h1
    have h2 := VR.one h h1
    have e1 : v.cells = [v] := by cases v <;> simp [V.one] at h1 <;> rfl
    have e2 : y.cells.toList = [y] := by cases y <;> simp [Value.oneCell'] at h2 <;> rfl
    rw [e1, e2]
    simp only [VRs]
    exact ⟨y, [], rfl, h, rfl⟩
  rcases ha with ha | ⟨cs, rfl⟩
  · exact hone ha
  · simp only [VR] at h
    obtain ⟨ys, rfl, h2⟩ := h
    simpa [V.cells, Value.cells] using h2

/-! ### What a temporary holds -/

def ev (T : Tr V) : Operand → V
  | .tmp t => match T.get t with
    | some v => v
    | none => .any
  | .const y => match ofValue y with
    | some v => v
    | none => .any
  | .global _ => .any
  | .func f => .func (.func f) [] []

/-- The frame holds the temporaries. -/
structure AR (r : Rho) (nt : Nat) (T : Tr V) (a : Act) : Prop where
  size : a.tmps.size = nt
  defers : a.defers = []
  tmp : ∀ t v, T.get t = some v → VR r v (a.tmps.getD t undef)

theorem ev_ok {r : Rho} {nt : Nat} {T : Tr V} {a : Act} (h : AR r nt T a) (x : Operand) : VR r (ev T x) (a.eval x) := by
  cases x with
  | tmp t =>
    simp only [ev, Act.eval]
    cases ht : T.get t with
    | none => simp only [VR]
    | some v => exact h.tmp t v ht
  | const y =>
    simp only [ev, Act.eval]
    cases hy : ofValue y with
    | none => simp only [VR]
    | some v => exact ofValue_ok hy
  | global g => simp only [ev, VR]
  | func f => simp only [ev, Act.eval, VR, VRs]; exact ⟨[], [], by simp, rfl, rfl⟩

theorem AR.ext {r r' : Rho} {nt : Nat} {T : Tr V} {a : Act} (h : AR r nt T a) (e : Ext r r') : AR r' nt T a :=
  ⟨h.size, h.defers, fun t v ht => VR.ext e _ _ (h.tmp t v ht)⟩

theorem AR.put {r : Rho} {nt : Nat} {T : Tr V} {a : Act} (h : AR r nt T a) {d : Nat} (hd : d < nt) {v : V} {y : Value} (hv : VR r v y) :
    AR r nt (T.set d (some v)) (a.put (some d) y) := by
  refine ⟨by simp [Act.put, h.size], h.defers, fun t u ht => ?_⟩
  rw [Tr.get_set] at ht
  by_cases e : t = d
  · subst e
    rw [if_pos rfl] at ht
    simp only [Option.some.injEq] at ht
    subst ht
    have : t < a.tmps.size := by rw [h.size]; exact hd
    simpa [Act.put, Array.getElem?_setIfInBounds, this] using hv
  · rw [if_neg e] at ht
    have := h.tmp t u ht
    have e' : d ≠ t := fun h => e h.symm
    simpa [Act.put, Array.getElem?_setIfInBounds, e'] using this

/-- Of a temporary nothing is known any more. -/
theorem AR.drop {r : Rho} {nt : Nat} {T : Tr V} {a : Act} (h : AR r nt T a) (d : Nat) (y : Value) : AR r nt (T.set d none) (a.put (some d) y) := by
  refine ⟨by simp [Act.put, h.size], h.defers, fun t u ht => ?_⟩
  rw [Tr.get_set] at ht
  by_cases e : t = d
  · rw [if_pos e] at ht; simp at ht
  · rw [if_neg e] at ht
    have := h.tmp t u ht
    have e' : d ≠ t := fun h => e h.symm
    simpa [Act.put, Array.getElem?_setIfInBounds, e'] using this

/-- What is known already may be told anew. -/
theorem AR.tell {r : Rho} {nt : Nat} {T : Tr V} {a : Act} (h : AR r nt T a) {d : Nat} {v : V} (hv : VR r v (a.tmps.getD d undef)) : AR r nt (T.set d (some v)) a := by
  refine ⟨h.size, h.defers, fun t u ht => ?_⟩
  rw [Tr.get_set] at ht
  by_cases e : t = d
  · subst e
    rw [if_pos rfl] at ht
    simp only [Option.some.injEq] at ht
    subst ht; exact hv
  · rw [if_neg e] at ht; exact h.tmp t u ht

/-! ### Whole numbers -/

def E.op1 (f : Int → Int) : E → E
  | .c a => .c (f a)
  | .s a => .s (f a)
def E.op2 (f : Int → Int → Int) : E → E → E
  | .c a, .c b => .c (f a b)
  | .c a, .s b => .s (f a b)
  | .s a, .c b => .s (f a b)
  | .s a, .s b => .s (f a b)
def E.cmp (f : Int → Int → Bool) : E → E → B
  | .c a, .c b => .c (f a b)
  | .c a, .s b => .s (f a b)
  | .s a, .c b => .s (f a b)
  | .s a, .s b => .s (f a b)
theorem E.op1_val (f : Int → Int) (a : E) : (E.op1 f a).val = f a.val := by cases a <;> rfl
theorem E.op2_val (f : Int → Int → Int) (a b : E) : (E.op2 f a b).val = f a.val b.val := by cases a <;> cases b <;> rfl
theorem E.cmp_val (f : Int → Int → Bool) (a b : E) : (E.cmp f a b).val = f a.val b.val := by cases a <;> cases b <;> rfl

def B.op1 (f : Bool → Bool) : B → B
  | .c a => .c (f a)
  | .s a => .s (f a)
def B.op2 (f : Bool → Bool → Bool) : B → B → B
  | .c a, .c b => .c (f a b)
  | .c a, .s b => .s (f a b)
  | .s a, .c b => .s (f a b)
  | .s a, .s b => .s (f a b)
/-- Both; what is known to be false decides. -/
def B.and : B → B → B
  | .c false, _ => .c false
  | .c true, b => b
  | .s _, .c false => .c false
  | .s a, .c true => .s a
  | .s a, .s b => .s (a && b)
theorem B.op1_val (f : Bool → Bool) (a : B) : (B.op1 f a).val = f a.val := by cases a <;> rfl
theorem B.op2_val (f : Bool → Bool → Bool) (a b : B) : (B.op2 f a b).val = f a.val b.val := by cases a <;> cases b <;> rfl
theorem B.and_val (a b : B) : (B.and a b).val = (a.val && b.val) := by
  rcases a with ⟨⟨⟩⟩ | a <;> rcases b with ⟨⟨⟩⟩ | b <;> simp [B.and, B.val]

/-- A number that must not be 0. -/
def E.nonzero : E → Option (List Prop)
  | .c n => if n = 0 then none else some []
  | .s n => some [n ≠ 0]
theorem E.nonzero_ok {e : E} {cs : List Prop} (h : e.nonzero = some cs) (hcs : ∀ q, q ∈ cs → q) : e.val ≠ 0 := by
  cases e with
  | c n =>
    simp only [E.nonzero] at h
    by_cases hn : n = 0
    · rw [if_pos hn] at h; simp at h
    · exact hn
  | s n =>
    simp only [E.nonzero, Option.some.injEq] at h
    subst h
    exact hcs _ (List.mem_singleton.2 rfl)
/-- A number that must not be below 0. -/
def E.least0 : E → Option (List Prop)
  | .c n => if 0 ≤ n then some [] else none
  | .s n => some [0 ≤ n]
theorem E.least0_ok {e : E} {cs : List Prop} (h : e.least0 = some cs) (hcs : ∀ q, q ∈ cs → q) : 0 ≤ e.val := by
  cases e with
  | c n =>
    simp only [E.least0] at h
    by_cases hn : 0 ≤ n
    · exact hn
    · rw [if_neg hn] at h; simp at h
  | s n =>
    simp only [E.least0, Option.some.injEq] at h
    subst h
    exact hcs _ (List.mem_singleton.2 rfl)

def shl (k : IntKind) (x y : Int) : Int := k.wrap (x * 2 ^ (min y.toNat k.bits))
def shr (k : IntKind) (x y : Int) : Int := x.fdiv (2 ^ (min y.toNat k.bits))

/-- A number of two numbers, or a bool. -/
theorem wrapk (n : Int) (h : -9223372036854775808 ≤ n ∧ n ≤ 9223372036854775807) : IntKind.i64.wrap n = n := by
  simp [IntKind.wrap, IntKind.bits, IntKind.signed]; omega

theorem and_mask (n : Int) (k : Nat) (hk : k ≤ 62) : bits .and .i64 n ((2 ^ k - 1 : Nat) : Int) = n % ((2 ^ k : Nat) : Int) := by
  have hp : 2 ^ k ≤ 2 ^ 62 := Nat.pow_le_pow_right (by decide) hk
  have hp0 : 0 < 2 ^ k := Nat.pow_pos (by decide)
  have h127 : (BitVec.ofInt 64 ((2 ^ k - 1 : Nat) : Int)).toNat = 2 ^ k - 1 := by
    rw [BitVec.toNat_ofInt]
    have : 2 ^ 62 = 4611686018427387904 := by decide
    have : (2 : Nat) ^ 64 = 18446744073709551616 := by decide
    omega
  have key : (BitVec.ofInt 64 n &&& BitVec.ofInt 64 ((2 ^ k - 1 : Nat) : Int)).toNat = (n % ((2 ^ 64 : Nat) : Int)).toNat % 2 ^ k := by
    rw [BitVec.toNat_and, BitVec.toNat_ofInt, h127, Nat.and_two_pow_sub_one_eq_mod]
  show IntKind.i64.wrap ((BitVec.ofInt 64 n &&& BitVec.ofInt 64 ((2 ^ k - 1 : Nat) : Int)).toNat : Nat) = n % ((2 ^ k : Nat) : Int)
  have hm : ((n % ((2 ^ 64 : Nat) : Int)).toNat % 2 ^ k : Nat) = (n % ((2 ^ k : Nat) : Int)) := by
    have h0 : 0 ≤ n % ((2 ^ 64 : Nat) : Int) := Int.emod_nonneg _ (by decide)
    rw [Int.natCast_emod, Int.toNat_of_nonneg h0]
    exact Int.emod_emod_of_dvd n (Int.natCast_dvd_natCast.2 (Nat.pow_dvd_pow 2 (by omega)))
  rw [key, hm]
  have h1 : 0 ≤ n % ((2 ^ k : Nat) : Int) := Int.emod_nonneg _ (by omega)
  have h2 : n % ((2 ^ k : Nat) : Int) < ((2 ^ k : Nat) : Int) := Int.emod_lt_of_pos _ (by omega)
  have : 2 ^ 62 = 4611686018427387904 := by decide
  exact wrapk _ (by omega)

/-- 2 ^ k - 1. -/
def maskB (m : Int) : Bool := match m with
  | .ofNat n => Nat.beq (n + 1) (2 ^ Nat.log2 (n + 1)) && Nat.ble (Nat.log2 (n + 1)) 62
  | _ => false
theorem maskB_ok {m : Int} (h : maskB m = true) (x : Int) : bits .and .i64 x m = x % (m + 1) := by
  cases m with
  | ofNat n =>
    simp only [maskB, Bool.and_eq_true] at h
    have h1 := Nat.eq_of_beq_eq_true h.1
    have h2 := Nat.le_of_ble_eq_true h.2
    have := and_mask x _ h2
    rw [← h1] at this
    simpa using this
  | negSucc n => simp [maskB] at h
def E.opAnd (k : IntKind) (a b : E) : E := match k, a, b with
  | .i64, .s x, .c m => if maskB m then .s (x % (m + 1)) else .s (bits .and .i64 x m)
  | k, a, b => E.op2 (bits .and k) a b
theorem E.opAnd_val (k : IntKind) (a b : E) : (E.opAnd k a b).val = bits .and k a.val b.val := by
  unfold E.opAnd
  split
  · rename_i x m
    by_cases h : maskB m = true
    · rw [if_pos h]; exact (maskB_ok h x).symm
    · rw [if_neg h]; rfl
  · exact E.op2_val _ _ _
def E.opShr (k : IntKind) (a b : E) : E := match a, b with
  | .s x, .c j => .s (x / (2 ^ (min j.toNat k.bits)))
  | a, b => E.op2 (shr k) a b
theorem E.opShr_val (k : IntKind) (a b : E) : (E.opShr k a b).val = shr k a.val b.val := by
  unfold E.opShr
  split
  · rename_i x j
    exact (Int.fdiv_eq_ediv_of_nonneg x (Int.le_of_lt (Int.pow_pos (by decide)))).symm
  · exact E.op2_val _ _ _

def binInt (op : BinOp) (k : IntKind) (a b : E) : Option (V × List Prop) :=
  match op with
  | .add => some (.int k (E.op2 (fun x y => k.wrap (x + y)) a b), [])
  | .sub => some (.int k (E.op2 (fun x y => k.wrap (x - y)) a b), [])
  | .mul => some (.int k (E.op2 (fun x y => k.wrap (x * y)) a b), [])
  | .quo => b.nonzero.map fun cs => (.int k (E.op2 (fun x y => k.wrap (x.tdiv y)) a b), cs)
  | .rem => b.nonzero.map fun cs => (.int k (E.op2 (fun x y => x.tmod y) a b), cs)
  | .and => some (.int k (E.opAnd k a b), [])
  | .or => some (.int k (E.op2 (bits .or k) a b), [])
  | .xor => some (.int k (E.op2 (bits .xor k) a b), [])
  | .andNot => some (.int k (E.op2 (bits .andNot k) a b), [])
  | .eql => some (.bool (E.cmp (fun x y => x == y) a b), [])
  | .neq => some (.bool (E.cmp (fun x y => x != y) a b), [])
  | .lss => some (.bool (E.cmp (fun x y => decide (x < y)) a b), [])
  | .leq => some (.bool (E.cmp (fun x y => decide (x ≤ y)) a b), [])
  | .gtr => some (.bool (E.cmp (fun x y => decide (x > y)) a b), [])
  | .geq => some (.bool (E.cmp (fun x y => decide (x ≥ y)) a b), [])
  | _ => none

def shiftInt (op : BinOp) (k : IntKind) (a b : E) : Option (V × List Prop) :=
  match op with
  | .shl => b.least0.map fun cs => (.int k (E.op2 (shl k) a b), cs)
  | .shr => b.least0.map fun cs => (.int k (E.opShr k a b), cs)
  | _ => none

/-- A Sem that gives a value and leaves the world. -/
def Gives (P : Program) (w : World) (r : Rho) (s : Sem Value) (v : V) : Prop := ∃ y, s.run P w = .ok y w ∧ VR r v y

theorem Gives.mk {P : Program} {w : World} {r : Rho} {s : Sem Value} {v : V} {y : Value} (h : s.run P w = .ok y w) (hv : VR r v y) : Gives P w r s v := ⟨y, h, hv⟩

theorem Gives.int {P : Program} {w : World} {r : Rho} {s : Sem Value} {k : IntKind} {e : E} (h : s.run P w = .ok (.int k e.val) w) : Gives P w r s (.int k e) := ⟨_, h, by simp only [VR]⟩
theorem Gives.bool {P : Program} {w : World} {r : Rho} {s : Sem Value} {b : B} (h : s.run P w = .ok (.bool b.val) w) : Gives P w r s (.bool b) := ⟨_, h, by simp only [VR]⟩

theorem binInt_ok {P : Program} {w : World} {r : Rho} {op : BinOp} {t : TypeId} {k : IntKind} {a b : E} {v : V} {cs : List Prop}
    (h : binInt op k a b = some (v, cs)) (hcs : ∀ q, q ∈ cs → q) : Gives P w r (binOp op t (.int k a.val) (.int k b.val)) v := by
  cases op <;> simp only [binInt, Option.map_eq_some_iff, Option.some.injEq, Prod.mk.injEq, reduceCtorEq] at h
  case quo =>
    obtain ⟨ds, hd, rfl, rfl⟩ := h
    have h0 := E.nonzero_ok hd hcs
    exact .int (by simp [binOp_quo, Op.intDiv, h0, E.op2_val])
  case rem =>
    obtain ⟨ds, hd, rfl, rfl⟩ := h
    have h0 := E.nonzero_ok hd hcs
    exact .int (by simp [binOp_rem, Op.intDiv, h0, E.op2_val])
  all_goals obtain ⟨rfl, rfl⟩ := h
  case add => exact .int (by simp [binOp_add, Op.intArith, E.op2_val])
  case sub => exact .int (by simp [binOp_sub, Op.intArith, E.op2_val])
  case mul => exact .int (by simp [binOp_mul, Op.intArith, E.op2_val])
  case and => exact .int (by simp [binOp_and, intBits_and, E.opAnd_val])
  case or => exact .int (by simp [binOp_or, intBits_or, E.op2_val])
  case xor => exact .int (by simp [binOp_xor, intBits_xor, E.op2_val])
  case andNot => exact .int (by simp [binOp_andNot, intBits_andNot, E.op2_val])
  case eql => exact .bool (by simp [binOp_eql, E.cmp_val])
  case neq => exact .bool (by simp [binOp_neq, E.cmp_val])
  case lss => exact .bool (by simp [binOp_lss, E.cmp_val])
  case leq => exact .bool (by simp [binOp_leq, E.cmp_val])
  case gtr => exact .bool (by simp [binOp_gtr, E.cmp_val])
  case geq => exact .bool (by simp [binOp_geq, E.cmp_val])

theorem shiftInt_ok {P : Program} {w : World} {r : Rho} {op : BinOp} {t : TypeId} {k yk : IntKind} {a b : E} {v : V} {cs : List Prop}
    (h : shiftInt op k a b = some (v, cs)) (hcs : ∀ q, q ∈ cs → q) : Gives P w r (binOp op t (.int k a.val) (.int yk b.val)) v := by
  cases op <;> simp only [shiftInt, Option.map_eq_some_iff, Prod.mk.injEq, reduceCtorEq] at h
  case shl =>
    obtain ⟨ds, hd, rfl, rfl⟩ := h
    have h0 := E.least0_ok hd hcs
    exact .int (by simp [binOp_shl, Op.shift, Int.not_lt.2 h0, E.op2_val, shl])
  case shr =>
    obtain ⟨ds, hd, rfl, rfl⟩ := h
    have h0 := E.least0_ok hd hcs
    exact .int (by simp [binOp_shr, Op.shift, Int.not_lt.2 h0, E.opShr_val, shr])

end Go.Ideal
