/- The ideal machine: parts of values, and what '==' tells of two values. Own text; nothing here is trusted. -/
import Derived.Test.YtbcadmnkilckbaaI3
import Derived.LaidEql
namespace Go.Ideal
set_option linter.unusedSimpArgs false
set_option linter.unusedVariables false

/-! ### Parts -/

theorem VRs.drop {r : Rho} : ∀ (n : Nat) (vs : List V) (ys : List Value), VRs r vs ys → VRs r (vs.drop n) (ys.drop n)
  | 0, _, _, h => h
  | n + 1, [], ys, h => by simp only [VRs] at h; subst h; simp [VRs]
  | n + 1, v :: vs, ys, h => by
    simp only [VRs] at h
    obtain ⟨z, zs, rfl, _, h2⟩ := h
    simpa using VRs.drop n vs zs h2
theorem VRs.take {r : Rho} : ∀ (n : Nat) (vs : List V) (ys : List Value), VRs r vs ys → VRs r (vs.take n) (ys.take n)
  | 0, _, _, h => by simp [VRs]
  | n + 1, [], ys, h => by simp only [VRs] at h; subst h; simp [VRs]
  | n + 1, v :: vs, ys, h => by
    simp only [VRs] at h
    obtain ⟨z, zs, rfl, h1, h2⟩ := h
    simp only [List.take_succ_cons, VRs]
    exact ⟨z, zs.take n, rfl, h1, VRs.take n vs zs h2⟩
theorem VRs.set {r : Rho} : ∀ (vs : List V) (ys : List Value) (i : Nat) (v : V) (y : Value), VRs r vs ys → VR r v y → VRs r (vs.set i v) (ys.set i y)
  | [], ys, i, v, y, h, _ => by simp only [VRs] at h; subst h; simp [VRs]
  | u :: vs, ys, 0, v, y, h, hv => by
    simp only [VRs] at h
    obtain ⟨z, zs, rfl, h1, h2⟩ := h
    simp only [List.set_cons_zero, VRs]
    exact ⟨y, zs, rfl, hv, h2⟩
  | u :: vs, ys, i + 1, v, y, h, hv => by
    simp only [VRs] at h
    obtain ⟨z, zs, rfl, h1, h2⟩ := h
    simp only [List.set_cons_succ, VRs]
    exact ⟨z, zs.set i y, rfl, h1, VRs.set vs zs i v y h2 hv⟩

/-- Is it a struct's or an array's type (some true), another one's (some false)? -/
def aggT (P : Program) (t : TypeId) : Option Bool :=
  match P.underlying t with
  | some (.struct _) => some true
  | some (.array _ _) => some true
  | some _ => some false
  | none => none
theorem run_isAgg {P : Program} {t : TypeId} {b : Bool} (h : aggT P t = some b) (w : World) : (isAgg t).run P w = .ok b w := by
  unfold aggT at h
  cases hu : P.underlying t with
  | none => rw [hu] at h; simp at h
  | some d =>
    rw [hu] at h
    cases d <;> simp only [Option.some.injEq] at h <;> subst h <;> simp [isAgg, run_underlying hu]

def sizeT (P : Program) (t : TypeId) : Option Nat := (P.info? t).map (·.size)
theorem run_sizeT {P : Program} {t : TypeId} {n : Nat} (h : sizeT P t = some n) (w : World) : (sizeOf t).run P w = .ok n w := by
  unfold sizeT at h
  cases hi : P.info? t with
  | none => rw [hi] at h; simp at h
  | some i =>
    rw [hi] at h
    simp only [Option.map_some, Option.some.injEq] at h
    subst h
    simp [sizeOf, typeInfo, hi]

def partV (P : Program) (t : TypeId) (cs : List V) (off : Nat) : Option V :=
  match aggT P t with
  | some true => match sizeT P t with
    | some n => some (.agg ((cs.drop off).take n))
    | none => none
  | some false => cs[off]?
  | none => none

theorem partV_ok {P : Program} {w : World} {r : Rho} {t : TypeId} {cs : List V} {ys : List Value} {off : Nat} {v : V} (h : partV P t cs off = some v) (hc : VRs r cs ys) :
    Gives P w r (part t ys.toArray off) v := by
  unfold partV at h
  cases ha : aggT P t with
  | none => rw [ha] at h; simp at h
  | some b =>
    rw [ha] at h
    cases b
    · simp only at h
      obtain ⟨y, hy, hv⟩ := VRs.get cs ys hc off v h
      refine ⟨y, ?_, hv⟩
      simp [part, run_isAgg ha, hy]
    · cases hs : sizeT P t with
      | none => rw [hs] at h; simp at h
      | some n =>
        rw [hs] at h
        simp only [Option.some.injEq] at h
        subst h
        refine ⟨.agg ((ys.drop off).take n).toArray, ?_, ?_⟩
        · simp only [part, Sem.run_bind, run_isAgg ha, Result.andThen_ok, if_true, run_sizeT hs, Sem.run_pure]
          congr 2
          simp [List.extract_eq_take_drop]
        · simp only [VR]
          exact ⟨_, rfl, VRs.take n _ _ (VRs.drop off _ _ hc)⟩

/-! ### Equality -/

/-- May structs of this type be compared part by part (no blank fields, none that the model stands in for)? -/
def okStruct (P : Program) (t : TypeId) (fs : List Field) : Bool := P.stoodInHeld t == false && fs.all fun f => f.name != "_"

def eqFs (P : Program) (eq : TypeId → V → V → Option B) (xs ys : List V) : List Field → Option B
  | [] => some (.c true)
  | f :: fs => match partV P f.type xs f.offset, partV P f.type ys f.offset with
    | some a, some b => match eq f.type a b, eqFs P eq xs ys fs with
      | some p, some q => some (B.and p q)
      | _, _ => none
    | _, _ => none

def eqIs (P : Program) (eq : TypeId → V → V → Option B) (e : TypeId) (n : Nat) (xs ys : List V) : List Nat → Option B
  | [] => some (.c true)
  | i :: is => match partV P e xs (i * n), partV P e ys (i * n) with
    | some a, some b => match eq e a b, eqIs P eq e n xs ys is with
      | some p, some q => some (B.and p q)
      | _, _ => none
    | _, _ => none

def eqV (P : Program) : Nat → TypeId → V → V → Option B
  | 0, _, _, _ => none
  | d + 1, t, x, y =>
    match P.underlying t, x, y with
    | some .bool, .bool a, .bool b => some (B.op2 (fun p q => p == q) a b)
    | some (.int _), .int k a, .int k' b => if k = k' then some (E.cmp (fun p q => p == q) a b) else none
    | some .string, .str ka a, .str kb b => some (if ka && kb then .c (a == b) else .s (a == b))
    | some (.pointer _), .nilp, .nilp => some (.c true)
    | some (.pointer _), .nilp, .ptr _ _ => some (.c false)
    | some (.pointer _), .ptr _ _, .nilp => some (.c false)
    | some (.pointer e), .ptr b o, .ptr b' o' =>
      match sizeT P e with
      | some (_ + 1) => if b = b' then match o, o' with
          | .c i, .c j => some (.c (i == j))
          | _, _ => some (.s (o.val == o'.val))
        else none
      | _ => none
    | some (.interface _), .nili, .nili => some (.c true)
    | some (.interface _), .nili, .iface _ _ => some (.c false)
    | some (.interface _), .iface _ _, .nili => some (.c false)
    | some (.interface _), .iface tx vx, .iface ty vy =>
      if tx ≠ ty then some (.c false) else match P.info? tx with
        | some i => if i.comparable then eqV P d tx vx vy else none
        | none => none
    | some (.slice _), .nils, .nils => some (.c true)
    | some (.slice _), .nils, .slice _ _ _ _ (.c (_ + 1)) => some (.c false)
    | some (.slice _), .slice _ _ _ _ (.c (_ + 1)), .nils => some (.c false)
    | some (.func _ _ _), .nilf, .nilf => some (.c true)
    | some (.func _ _ _), .nilf, .func _ _ _ => some (.c false)
    | some (.func _ _ _), .func _ _ _, .nilf => some (.c false)
    | some (.struct fs), .agg xs, .agg ys => if okStruct P t fs.toList then eqFs P (eqV P d) xs ys fs.toList else none
    | some (.array n e), .agg xs, .agg ys => match sizeT P e with
      | some s => eqIs P (eqV P d) e s xs ys (List.range n)
      | none => none
    | _, _, _ => none

/-- The model's '==' answers the bool. -/
def EqAns (P : Program) (r : Rho) (D : Nat) (t : TypeId) (x y : V) (b : B) : Prop :=
  ∀ (w : World) (X Y : Value), VR r x X → VR r y Y → (Op.equalIn D t X Y).run P w = .ok b.val w

theorem eqFs_ok {P : Program} {r : Rho} {D : Nat} {eq : TypeId → V → V → Option B} (heq : ∀ t x y b, eq t x y = some b → EqAns P r D t x y b) {xs ys : List V} {X Y : List Value}
    (hx : VRs r xs X) (hy : VRs r ys Y) : ∀ (fs : List Field) (b : B), (fs.all fun f => f.name != "_") = true → eqFs P eq xs ys fs = some b → ∀ w,
    (Op.eqFields D X.toArray Y.toArray fs).run P w = .ok b.val w
  | [], b, _, h, w => by simp only [eqFs, Option.some.injEq] at h; subst h; simp [Op.eqFields, B.val]
  | f :: fs, b, hn, h, w => by
    simp only [List.all_cons, Bool.and_eq_true] at hn
    simp only [eqFs] at h
    split at h
    · rename_i a c ha hc
      split at h
      · rename_i p q hp hq
        simp only [Option.some.injEq] at h
        subst h
        obtain ⟨A, hA, hva⟩ := partV_ok (P := P) (w := w) ha hx
        obtain ⟨C, hC, hvc⟩ := partV_ok (P := P) (w := w) hc hy
        have h1 := heq _ _ _ _ hp w A C hva hvc
        have h2 := eqFs_ok heq hx hy fs q hn.2 hq w
        have hne : f.name ≠ "_" := by simpa using hn.1
        simp only [Op.eqFields, if_pos hne, Sem.run_bind, hA, Result.andThen_ok, hC, h1, B.and_val]
        cases p.val
        · simp
        · simpa using h2
      · simp at h
    · simp at h

theorem eqIs_ok {P : Program} {r : Rho} {D : Nat} {eq : TypeId → V → V → Option B} (heq : ∀ t x y b, eq t x y = some b → EqAns P r D t x y b) {e : TypeId} {n : Nat} {xs ys : List V} {X Y : List Value}
    (hx : VRs r xs X) (hy : VRs r ys Y) : ∀ (is : List Nat) (b : B), eqIs P eq e n xs ys is = some b → ∀ w,
    (Op.eqItems D e n X.toArray Y.toArray is).run P w = .ok b.val w
  | [], b, h, w => by simp only [eqIs, Option.some.injEq] at h; subst h; simp [Op.eqItems, B.val]
  | i :: is, b, h, w => by
    simp only [eqIs] at h
    split at h
    · rename_i a c ha hc
      split at h
      · rename_i p q hp hq
        simp only [Option.some.injEq] at h
        subst h
        obtain ⟨A, hA, hva⟩ := partV_ok (P := P) (w := w) ha hx
        obtain ⟨C, hC, hvc⟩ := partV_ok (P := P) (w := w) hc hy
        have h1 := heq _ _ _ _ hp w A C hva hvc
        have h2 := eqIs_ok heq hx hy is q hq w
        simp only [Op.eqItems, Sem.run_bind, hA, Result.andThen_ok, hC, h1, B.and_val]
        cases p.val
        · simp
        · simpa using h2
      · simp at h
    · simp at h

theorem beqAddr (b i j : Nat) : ((⟨b, i, none⟩ : Addr) == ⟨b, j, none⟩) = (i == j) := by
  rw [Bool.eq_iff_iff]; simp

theorem eqV_ok {P : Program} {r : Rho} : ∀ (d D : Nat) (t : TypeId) (x y : V) (b : B), d ≤ D → eqV P d t x y = some b → EqAns P r D t x y b
  | 0, _, _, _, _, _, _, h => by simp [eqV] at h
  | d + 1, 0, _, _, _, _, hD, _ => absurd hD (by omega)
  | d + 1, D + 1, t, x, y, b, hD, h => by
    have ih := fun t x y b h => eqV_ok (P := P) (r := r) d D t x y b (Nat.le_of_succ_le_succ hD) h
    unfold eqV at h
    intro w X Y hX hY
    split at h
    · rename_i hu
      simp only [Option.some.injEq] at h; subst h
      simp only [VR] at hX hY; subst hX; subst hY
      simp [Op.equalIn, run_underlying hu, B.op2_val]
    · rename_i hu
      simp only [VR] at hX hY; subst hX; subst hY
      split at h
      · rename_i hk
        simp only [Option.some.injEq] at h; subst h
        simp [Op.equalIn, run_underlying hu, hk, E.cmp_val]
      · simp at h
    · rename_i hu
      simp only [Option.some.injEq] at h; subst h
      simp only [VR] at hX hY; subst hX; subst hY
      simp only [Op.equalIn, Sem.run_bind, run_underlying hu, Result.andThen_ok, Sem.run_pure]
      split <;> rfl
    · rename_i hu
      simp only [Option.some.injEq] at h; subst h
      simp only [VR] at hX hY; subst hX; subst hY
      simp [Op.equalIn, run_underlying hu, B.val]
    · rename_i hu
      simp only [Option.some.injEq] at h; subst h
      simp only [VR] at hX hY; subst hX; rw [hY.2]
      simp [Op.equalIn, run_underlying hu, B.val]
    · rename_i hu
      simp only [Option.some.injEq] at h; subst h
      simp only [VR] at hX hY; subst hY; rw [hX.2]
      simp [Op.equalIn, run_underlying hu, B.val]
    · rename_i e b1 o1 b2 o2 hu
      split at h
      · rename_i m hs
        split at h
        · rename_i hb
          subst hb
          have hb : b.val = (o1.val == o2.val) := by
            cases o1 <;> cases o2 <;> simp only [Option.some.injEq] at h <;> subst h <;> rfl
          simp only [VR] at hX hY; rw [hX.2, hY.2]
          simp only [Op.equalIn, Sem.run_bind, run_underlying hu, Result.andThen_ok, run_sizeT hs, Sem.run_ite, sameAddr, beq_self_eq_true, if_true, Sem.run_pure]
          rw [if_pos (by omega), beqAddr, hb]
          congr 1
          rw [Bool.eq_iff_iff]; simp
        · simp at h
      · simp at h
    · rename_i hu
      simp only [Option.some.injEq] at h; subst h
      simp only [VR] at hX hY; subst hX; subst hY
      simp [Op.equalIn, run_underlying hu, B.val]
    · rename_i hu
      simp only [Option.some.injEq] at h; subst h
      simp only [VR] at hX hY; obtain ⟨z, rfl, _⟩ := hY; subst hX
      simp [Op.equalIn, run_underlying hu, B.val]
    · rename_i hu
      simp only [Option.some.injEq] at h; subst h
      simp only [VR] at hX hY; obtain ⟨z, rfl, _⟩ := hX; subst hY
      simp [Op.equalIn, run_underlying hu, B.val]
    · rename_i tx vx ty vy hu
      simp only [VR] at hX hY
      obtain ⟨X', rfl, hX'⟩ := hX
      obtain ⟨Y', rfl, hY'⟩ := hY
      split at h
      · rename_i hne
        simp only [Option.some.injEq] at h; subst h
        simp [Op.equalIn, run_underlying hu, hne, B.val]
      · rename_i he
        have he : tx = ty := Classical.not_not.1 he
        subst he
        split at h
        · rename_i i hi
          split at h
          · rename_i hcmp
            have := ih tx vx vy b h w X' Y' hX' hY'
            simp [Op.equalIn, run_underlying hu, typeInfo, hi, hcmp, this]
          · simp at h
        · simp at h
    · rename_i hu
      simp only [Option.some.injEq] at h; subst h
      simp only [VR] at hX hY; subst hX; subst hY
      simp [Op.equalIn, run_underlying hu, B.val]
    · rename_i hu
      simp only [Option.some.injEq] at h; subst h
      simp only [VR, N.val] at hX hY; obtain ⟨_, a, c, rfl, _, hm, ha⟩ := hY; subst hX
      rcases ha with ⟨rfl, _⟩ | ha
      · simp [Op.equalIn, run_underlying hu, B.val]
      · omega
    · rename_i hu
      simp only [Option.some.injEq] at h; subst h
      simp only [VR, N.val] at hX hY; obtain ⟨_, a, c, rfl, _, hm, ha⟩ := hX; subst hY
      rcases ha with ⟨rfl, _⟩ | ha
      · simp [Op.equalIn, run_underlying hu, B.val]
      · omega
    · rename_i hu
      simp only [Option.some.injEq] at h; subst h
      simp only [VR] at hX hY; subst hX; subst hY
      simp [Op.equalIn, run_underlying hu, B.val]
    · rename_i hu
      simp only [Option.some.injEq] at h; subst h
      simp only [VR] at hX hY; obtain ⟨_, _, rfl, _⟩ := hY; subst hX
      simp [Op.equalIn, run_underlying hu, B.val]
    · rename_i hu
      simp only [Option.some.injEq] at h; subst h
      simp only [VR] at hX hY; obtain ⟨_, _, rfl, _⟩ := hX; subst hY
      simp [Op.equalIn, run_underlying hu, B.val]
    · rename_i fs xs ys hu
      split at h
      · rename_i hok
        simp only [okStruct, Bool.and_eq_true, beq_iff_eq] at hok
        simp only [VR] at hX hY
        obtain ⟨X', rfl, hX'⟩ := hX
        obtain ⟨Y', rfl, hY'⟩ := hY
        have hf : P.fieldsOf t = fs := by simp [Program.fieldsOf, hu]
        rw [run_equalIn_struct w D t _ _ (by rw [hf]; exact hu) hok.1, hf]
        exact eqFs_ok ih hX' hY' fs.toList b hok.2 h w
      · simp at h
    · rename_i n e xs ys hu
      split at h
      · rename_i s hs
        simp only [VR] at hX hY
        obtain ⟨X', rfl, hX'⟩ := hX
        obtain ⟨Y', rfl, hY'⟩ := hY
        unfold sizeT at hs
        cases hi : P.info? e with
        | none => rw [hi] at hs; simp at hs
        | some i =>
          rw [hi] at hs
          simp only [Option.map_some, Option.some.injEq] at hs
          have hcs : P.cellsOf e = s := by simp [Program.cellsOf, hi, hs]
          rw [run_equalIn_array w D _ _ hu hi, hcs]
          exact eqIs_ok ih hX' hY' _ b h w
      · simp at h
    · simp at h

end Go.Ideal
