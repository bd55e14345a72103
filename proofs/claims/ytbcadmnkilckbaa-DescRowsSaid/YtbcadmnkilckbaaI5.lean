/- The ideal machine: operations that compute or read, one by one. Own text; nothing here is trusted. -/
import Derived.Test.YtbcadmnkilckbaaI4
namespace Go.Ideal
set_option linter.unusedSimpArgs false
set_option linter.unusedVariables false

/-- What comes of an operation: a value, and what must hold. -/
abbrev Ans := Option (V × List Prop)

/-! ### Choosing, negating -/

def pickV (c a b : V) : Ans :=
  match c with
  | .bool (.c t) => some (if t then a else b, [])
  | .bool (.s t) => match a, b with
    | .bool x, .bool y => some (.bool (.s (if t then x.val else y.val)), [])
    | .int k x, .int k' y => if k = k' then some (.int k (.s (if t then x.val else y.val)), []) else none
    | _, _ => none
  | _ => none

theorem pickV_ok {P : Program} {w : World} {r : Rho} {c a b v : V} {C A B' : Value} {cs : List Prop} (h : pickV c a b = some (v, cs)) (hc : VR r c C) (ha : VR r a A) (hb : VR r b B') :
    Gives P w r (do pure (if ← asBool C then A else B')) v := by
  unfold pickV at h
  split at h
  · rename_i t
    simp only [VR, B.val] at hc
    simp only [Option.some.injEq, Prod.mk.injEq] at h
    obtain ⟨rfl, rfl⟩ := h
    subst hc
    cases t
    · exact ⟨B', by simp [asBool], by simpa using hb⟩
    · exact ⟨A, by simp [asBool], by simpa using ha⟩
  · rename_i t
    simp only [VR, B.val] at hc
    subst hc
    split at h
    · rename_i x y
      simp only [VR] at ha hb
      simp only [Option.some.injEq, Prod.mk.injEq] at h
      obtain ⟨rfl, rfl⟩ := h
      subst ha; subst hb
      cases t
      · exact ⟨.bool y.val, by simp [asBool], by simp [VR, B.val]⟩
      · exact ⟨.bool x.val, by simp [asBool], by simp [VR, B.val]⟩
    · rename_i k x k' y
      split at h
      · rename_i hk
        subst hk
        simp only [VR] at ha hb
        simp only [Option.some.injEq, Prod.mk.injEq] at h
        obtain ⟨rfl, rfl⟩ := h
        subst ha; subst hb
        cases t
        · exact ⟨.int k y.val, by simp [asBool], by simp [VR, E.val]⟩
        · exact ⟨.int k x.val, by simp [asBool], by simp [VR, E.val]⟩
      · simp at h
    · simp at h
  · simp at h

def unV (op : UnOp) (x : V) : Ans :=
  match op, x with
  | .not, .bool b => some (.bool (B.op1 (fun t => !t) b), [])
  | .neg, .int k e => some (.int k (E.op1 (fun n => k.wrap (0 - n)) e), [])
  | .xor, .int k e => some (.int k (E.op1 (bits .xor k (if k.signed then -1 else k.max)) e), [])
  | _, _ => none

theorem unV_ok {P : Program} {w : World} {r : Rho} {op : UnOp} {x v : V} {X : Value} {cs : List Prop} (h : unV op x = some (v, cs)) (hx : VR r x X) : Gives P w r (Op.unary op X) v := by
  unfold unV at h
  split at h
  · simp only [VR] at hx; subst hx
    simp only [Option.some.injEq, Prod.mk.injEq] at h
    obtain ⟨rfl, rfl⟩ := h
    exact .bool (by simp [Op.unary, B.op1_val])
  · simp only [VR] at hx; subst hx
    simp only [Option.some.injEq, Prod.mk.injEq] at h
    obtain ⟨rfl, rfl⟩ := h
    exact .int (by simp [Op.unary, Op.intArith, E.op1_val])
  · simp only [VR] at hx; subst hx
    simp only [Option.some.injEq, Prod.mk.injEq] at h
    obtain ⟨rfl, rfl⟩ := h
    exact .int (by simp [Op.unary, intBits_xor, E.op1_val])
  · simp at h

/-! ### Two operands -/

def isConst : Operand → Bool
  | .const _ => true
  | _ => false

/-- May '==' be asked of these two without Go's guard on nil values of interfaces standing in the way? -/
def eqFree (P : Program) (t : TypeId) (cx cy : Bool) (x y : V) : Bool :=
  match x, y with
  | .nili, .nili => cx || cy
  | .agg _, .agg _ => P.eqGuardType P.depth t == false
  | .any, _ => false
  | _, .any => false
  | _, _ => true

def strLt (a b : ByteArray) : Bool := Op.bytesLess a.toList b.toList

def binV (P : Program) (op : BinOp) (t : TypeId) (cx cy : Bool) (x y : V) : Ans :=
  match x, y with
  | .int k a, .int k' b => match op with
    | .shl | .shr => shiftInt op k a b
    | _ => if k = k' then binInt op k a b else none
  | .str ka a, .str kb b => match op with
    | .add => some (.str (ka && kb) (a ++ b), [((a.size + b.size : Nat) : Int) ≤ 9223372036854775807])
    | .eql => some (.bool (if ka && kb then .c (a.toList == b.toList) else .s (a.toList == b.toList)), [])
    | .neq => some (.bool (if ka && kb then .c (!(a.toList == b.toList)) else .s (!(a.toList == b.toList))), [])
    | _ => none
  | _, _ => match op with
    | .eql => if eqFree P t cx cy x y then (eqV P 9 t x y).map fun b => (.bool b, []) else none
    | .neq => if eqFree P t cx cy x y then (eqV P 9 t x y).map fun b => (.bool (B.op1 (fun t => !t) b), []) else none
    | _ => none

theorem eqGuard_free {P : Program} {w : World} {r : Rho} {op : BinOp} {t : TypeId} {x y : Operand} {u v : V} {X Y : Value} (h : eqFree P t (isConst x) (isConst y) u v = true) (hu : VR r u X) (hv : VR r v Y) :
    (eqGuard op t x y X Y).run P w = .ok () w := by
  have hnil : ∀ a b : Operand, (isConst a || isConst b) = true → eqGuard op t a b .nilIface .nilIface = pure () := by
    intro a b hab
    cases a <;> cases b <;> simp [isConst] at hab <;> first | exact eqGuard_nil_constR _ _ _ _ | exact eqGuard_nil_constL _ _ _ _
  cases u <;> simp only [VR] at hu
  case any => cases v <;> simp [eqFree] at h
  case bool => subst hu; rw [eqGuard_at_bool]; rfl
  case int => subst hu; rw [eqGuard_at_int]; rfl
  case str => subst hu; rw [eqGuard_at_string]; rfl
  case nilp => subst hu; rw [eqGuard_at_pointer]; rfl
  case ptr => rw [hu.2, eqGuard_at_pointer]; rfl
  case nils => subst hu; rw [eqGuard_at_slice]; rfl
  case slice => obtain ⟨_, a, c, rfl, _⟩ := hu; rw [eqGuard_at_slice]; rfl
  case nilm => subst hu; rw [eqGuard_at_map]; rfl
  case map => rw [hu.2, eqGuard_at_map]; rfl
  case nilf => subst hu; rw [eqGuard_at_nilFunc]; rfl
  case func => obtain ⟨_, _, rfl, _⟩ := hu; rw [eqGuard_at_func]; rfl
  case iface => obtain ⟨_, rfl, _⟩ := hu; rw [eqGuard_at_iface]; rfl
  case tuple => obtain ⟨_, rfl, _⟩ := hu; rw [eqGuard_at_tuple]; rfl
  case nili =>
    subst hu
    cases v <;> simp only [VR] at hv
    case any => simp [eqFree] at h
    case nili => subst hv; rw [hnil x y (by simpa [eqFree] using h)]; rfl
    case iface => obtain ⟨_, rfl, _⟩ := hv; rw [eqGuard_nil_iface]; rfl
    case ptr => rw [hv.2]; cases op <;> rfl
    case slice => obtain ⟨_, a, c, rfl, _⟩ := hv; cases op <;> rfl
    case map => rw [hv.2]; cases op <;> rfl
    case func => obtain ⟨_, _, rfl, _⟩ := hv; cases op <;> rfl
    case agg => obtain ⟨_, rfl, _⟩ := hv; cases op <;> rfl
    case tuple => obtain ⟨_, rfl, _⟩ := hv; cases op <;> rfl
    all_goals (subst hv; cases op <;> rfl)
  case agg =>
    obtain ⟨_, rfl, _⟩ := hu
    cases v <;> simp only [VR] at hv
    case any => simp [eqFree] at h
    case agg => obtain ⟨_, rfl, _⟩ := hv; exact run_eqGuard_agg w op t x y _ _ (by simpa [eqFree] using h)
    case iface => obtain ⟨_, rfl, _⟩ := hv; cases op <;> rfl
    case ptr => rw [hv.2]; cases op <;> rfl
    case slice => obtain ⟨_, a, c, rfl, _⟩ := hv; cases op <;> rfl
    case map => rw [hv.2]; cases op <;> rfl
    case func => obtain ⟨_, _, rfl, _⟩ := hv; cases op <;> rfl
    case tuple => obtain ⟨_, rfl, _⟩ := hv; cases op <;> rfl
    all_goals (subst hv; cases op <;> rfl)

/-- Neither two whole numbers nor two strings. -/
def plainPair : V → V → Bool
  | .int _ _, .int _ _ => false
  | .str _ _, .str _ _ => false
  | .any, _ => false
  | _, .any => false
  | _, _ => true

theorem run_eql_plain {P : Program} {w : World} {r : Rho} {op : BinOp} (hop : op = .eql ∨ op = .neq) {t : TypeId} {u v : V} {X Y : Value} (h : plainPair u v = true) (hu : VR r u X) (hv : VR r v Y) {b : Bool}
    (he : (Op.equal t X Y).run P w = .ok b w) : (binOp op t X Y).run P w = .ok (.bool (if op = .eql then b else !b)) w := by
  have key : binOp .eql t X Y = (do pure (.bool (← Op.equal t X Y))) ∧ binOp .neq t X Y = (do pure (.bool (!(← Op.equal t X Y)))) := by
    cases u <;> simp only [VR] at hu <;> first
      | (cases v <;> simp [plainPair] at h; done)
      | (first
          | (obtain ⟨_, a, c, rfl, _⟩ := hu)
          | (obtain ⟨_, _, rfl, _⟩ := hu)
          | (obtain ⟨_, rfl, _⟩ := hu)
          | (obtain ⟨_, rfl⟩ := hu)
          | (subst hu)
         cases v <;> simp only [VR] at hv <;> first
          | (simp [plainPair] at h; done)
          | (first
              | (obtain ⟨_, a, c, rfl, _⟩ := hv)
              | (obtain ⟨_, _, rfl, _⟩ := hv)
              | (obtain ⟨_, rfl, _⟩ := hv)
              | (obtain ⟨_, rfl⟩ := hv)
              | (subst hv)
             exact ⟨rfl, rfl⟩))
  rcases hop with rfl | rfl
  · rw [key.1]; simp [he]
  · rw [key.2]; simp [he]

theorem eqFree_plain {P : Program} {t : TypeId} {cx cy : Bool} {u v : V} (h : eqFree P t cx cy u v = true) (hi : ∀ k a k' b, ¬ (u = .int k a ∧ v = .int k' b)) (hs : ∀ k a k' b, ¬ (u = .str k a ∧ v = .str k' b)) :
    plainPair u v = true := by
  cases u <;> cases v <;> simp [eqFree] at h <;> first
    | rfl
    | exact absurd ⟨rfl, rfl⟩ (hi _ _ _ _)
    | exact absurd ⟨rfl, rfl⟩ (hs _ _ _ _)

theorem binV_ok {P : Program} {w : World} {r : Rho} {op : BinOp} {t : TypeId} {x y : Operand} {u v z : V} {X Y : Value} {cs : List Prop}
    (h : binV P op t (isConst x) (isConst y) u v = some (z, cs)) (hcs : ∀ q, q ∈ cs → q) (hu : VR r u X) (hv : VR r v Y) :
    Gives P w r (do eqGuard op t x y X Y; binOp op t X Y) z := by
  unfold binV at h
  split at h
  · rename_i k a k' b
    simp only [VR] at hu hv
    subst hu; subst hv
    have hg : (eqGuard op t x y (.int k a.val) (.int k' b.val)).run P w = .ok () w := by rw [eqGuard_at_int]; rfl
    have fin : ∀ z, Gives P w r (binOp op t (.int k a.val) (.int k' b.val)) z → Gives P w r (do eqGuard op t x y (.int k a.val) (.int k' b.val); binOp op t (.int k a.val) (.int k' b.val)) z :=
      fun z ⟨q, h1, h2⟩ => ⟨q, by simp [hg, h1], h2⟩
    apply fin
    split at h
    · exact shiftInt_ok h hcs
    · exact shiftInt_ok h hcs
    · split at h
      · rename_i hk; subst hk; exact binInt_ok h hcs
      · simp at h
  · rename_i ka a kb b
    simp only [VR] at hu hv
    subst hu; subst hv
    have hg : (eqGuard op t x y (.string a) (.string b)).run P w = .ok () w := by rw [eqGuard_at_string]; rfl
    split at h
    · simp only [Option.some.injEq, Prod.mk.injEq] at h
      obtain ⟨rfl, rfl⟩ := h
      have hle := hcs _ (List.mem_singleton.2 rfl)
      refine ⟨.string (a ++ b), ?_, by simp only [VR]⟩
      simp only [Sem.run_bind, hg, Result.andThen_ok, binOp, Op.stringOp, Sem.run_ite]
      rw [if_neg (by rw [IntKind.max_i64]; omega)]
      rfl
    · simp only [Option.some.injEq, Prod.mk.injEq] at h
      obtain ⟨rfl, rfl⟩ := h
      refine .bool ?_
      simp only [Sem.run_bind, hg, Result.andThen_ok, binOp, Op.stringOp, Sem.run_pure]
      split <;> rfl
    · simp only [Option.some.injEq, Prod.mk.injEq] at h
      obtain ⟨rfl, rfl⟩ := h
      refine .bool ?_
      simp only [Sem.run_bind, hg, Result.andThen_ok, binOp, Op.stringOp, Sem.run_pure]
      split <;> rfl
    · simp at h
  · rename_i hni hns
    have hpl : eqFree P t (isConst x) (isConst y) u v = true → plainPair u v = true := fun hf =>
      eqFree_plain hf (fun k a k' b ⟨e1, e2⟩ => hni k a k' b e1 e2) (fun k a k' b ⟨e1, e2⟩ => hns k a k' b e1 e2)
    split at h
    · split at h
      · rename_i hf
        simp only [Option.map_eq_some_iff, Prod.mk.injEq] at h
        obtain ⟨b, hb, rfl, rfl⟩ := h
        have he := eqV_ok 9 10000 t u v b (by omega) hb w X Y hu hv
        have := run_eql_plain (op := .eql) (.inl rfl) (hpl hf) hu hv (b := b.val) he
        refine .bool ?_
        simp [eqGuard_free hf hu hv, this]
      · simp at h
    · split at h
      · rename_i hf
        simp only [Option.map_eq_some_iff, Prod.mk.injEq] at h
        obtain ⟨b, hb, rfl, rfl⟩ := h
        have he := eqV_ok 9 10000 t u v b (by omega) hb w X Y hu hv
        have := run_eql_plain (op := .neq) (.inr rfl) (hpl hf) hu hv (b := b.val) he
        refine .bool ?_
        simp [eqGuard_free hf hu hv, this, B.op1_val]
      · simp at h
    · simp at h

end Go.Ideal
