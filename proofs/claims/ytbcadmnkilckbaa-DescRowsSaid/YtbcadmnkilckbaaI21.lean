/- The ideal machine: proofs along a text with loops: from a state to one of several; a loop by induction; what is forgotten between rounds. Own text; nothing here is trusted. -/
import Derived.Test.YtbcadmnkilckbaaI20
namespace Go.Ideal
set_option linter.unusedSimpArgs false
set_option linter.unusedVariables false

/-- What becomes of a run: what must hold, and what is asked of the outcome. -/
def vcOf {X : Type} (r : Option (X × S)) (K : X → Hp → Prop) : Prop :=
  match r with
  | some (x, s) => AllP s.cs ∧ K x s.H
  | none => False

theorem vcOf.some {X : Type} {r : Option (X × S)} {K : X → Hp → Prop} (h : vcOf r K) : ∃ x s, r = some (x, s) ∧ (∀ q, q ∈ s.cs → q) ∧ K x s.H := by
  unfold vcOf at h
  split at h
  · rename_i x s
    exact ⟨x, s, rfl, AllP.mem h.1, h.2⟩
  · exact h.elim

theorem vcIntro {X : Type} {run : List Bool → Option (X × S)} {K : X → Hp → Prop} {A : Prop} (hh : List Bool) (a : A) (h : A = vcOf (run hh) K) : ∃ hh, vcOf (run hh) K := ⟨hh, h ▸ a⟩

/-! ### Weaker values, blocks, states -/

def E.eqP : E → E → Prop
  | .c a, .c b => if a == b then True else False
  | a, b => a.val = b.val
def B.eqP : B → B → Prop
  | .c a, .c b => if a == b then True else False
  | a, b => a.val = b.val
def N.eqP : N → N → Prop
  | .c a, .c b => if a == b then True else False
  | a, b => a.val = b.val
def N.leP : N → N → Prop
  | .c a, .c b => if Nat.ble a b then True else False
  | a, b => a.val ≤ b.val
theorem E.eqP_ok {a b : E} (h : a.eqP b) : a.val = b.val := by
  cases a <;> cases b <;> simp only [E.eqP, E.val] at h ⊢ <;> try exact h
  rename_i a b
  by_cases e : a = b
  · exact e
  · simp [e] at h
theorem B.eqP_ok {a b : B} (h : a.eqP b) : a.val = b.val := by
  cases a <;> cases b <;> simp only [B.eqP, B.val] at h ⊢ <;> try exact h
  rename_i a b
  by_cases e : a = b
  · exact e
  · simp [e] at h
theorem N.eqP_ok {a b : N} (h : a.eqP b) : a.val = b.val := by
  cases a <;> cases b <;> simp only [N.eqP, N.val] at h ⊢ <;> try exact h
  rename_i a b
  by_cases e : a = b
  · exact e
  · simp [e] at h
theorem N.leP_ok {a b : N} (h : a.leP b) : a.val ≤ b.val := by
  cases a <;> cases b <;> simp only [N.leP, N.val] at h ⊢ <;> try exact h
  rename_i a b
  by_cases e : Nat.ble a b = true
  · exact Nat.le_of_ble_eq_true e
  · simp [e] at h

/-- And, where one side may be nothing. -/
def andP (a b : Prop) : Prop := a ∧ b

mutual
/-- The value u says no more than v. -/
def V.leP : V → V → Prop
  | .any, _ => True
  | .bool a, .bool b => a.eqP b
  | .int k a, .int l b => if k == l then a.eqP b else False
  | .str _ a, .str _ b => a = b
  | .nilp, .nilp => True
  | .ptr b o, .ptr b' o' => if Nat.beq b b' then o.eqP o' else False
  | .nils, .nils => True
  | .slice b o len sz mc, .slice b' o' len' sz' mc' => if Nat.beq b b' && Nat.beq sz sz' then o.eqP o' ∧ len.eqP len' ∧ mc.leP mc' else False
  | .nilm, .nilm => True
  | .map b, .map b' => if Nat.beq b b' then True else False
  | .nilf, .nilf => True
  | .func fn xs ys, .func fn' xs' ys' => fn = fn' ∧ V.lePs xs xs' ∧ V.lePs ys ys'
  | .nili, .nili => True
  | .iface t v, .iface t' v' => if Nat.beq t t' then V.leP v v' else False
  | .agg xs, .agg ys => V.lePs xs ys
  | .tuple xs, .tuple ys => V.lePs xs ys
  | _, _ => False
def V.lePs : List V → List V → Prop
  | [], [] => True
  | [u], [v] => V.leP u v
  | u :: us, v :: vs => V.leP u v ∧ V.lePs us vs
  | _, _ => False
end

theorem kind_eq {k l : IntKind} (h : (k == l) = true) : k = l := by simpa using h

mutual
theorem V.leP_ok {r : Rho} : ∀ (u v : V) (y : Value), V.leP u v → VR r v y → VR r u y
  | .any, _, _, _, _ => by simp only [VR]
  | .bool a, v, y, h, hv => by
    cases v <;> simp only [V.leP] at h
    simp only [VR] at hv ⊢; rw [B.eqP_ok h]; exact hv
  | .int k a, v, y, h, hv => by
    cases v <;> simp only [V.leP] at h
    rename_i l b
    by_cases e : (k == l) = true
    · rw [if_pos e] at h
      simp only [VR] at hv ⊢; rw [E.eqP_ok h, kind_eq e]; exact hv
    · rw [if_neg e] at h; exact h.elim
  | .str _ a, v, y, h, hv => by
    cases v <;> simp only [V.leP] at h
    simp only [VR] at hv ⊢; rw [h]; exact hv
  | .nilp, v, y, h, hv => by cases v <;> simp only [V.leP] at h; exact hv
  | .ptr b o, v, y, h, hv => by
    cases v <;> simp only [V.leP] at h
    rename_i b' o'
    by_cases e : Nat.beq b b' = true
    · rw [if_pos e] at h
      have e := Nat.eq_of_beq_eq_true e
      subst e
      simp only [VR] at hv ⊢; rw [N.eqP_ok h]; exact hv
    · rw [if_neg e] at h; exact h.elim
  | .nils, v, y, h, hv => by cases v <;> simp only [V.leP] at h; exact hv
  | .slice b o len sz mc, v, y, h, hv => by
    cases v <;> simp only [V.leP] at h
    rename_i b' o' len' sz' mc'
    by_cases e : (Nat.beq b b' && Nat.beq sz sz') = true
    · rw [if_pos e] at h
      simp only [Bool.and_eq_true] at e
      have e1 := Nat.eq_of_beq_eq_true e.1
      have e2 := Nat.eq_of_beq_eq_true e.2
      subst e1 e2
      simp only [VR] at hv ⊢
      obtain ⟨hok, a, cap, h1, h2, h3, h4⟩ := hv
      rw [N.eqP_ok h.1, N.eqP_ok h.2.1]
      exact ⟨hok, a, cap, h1, h2, Nat.le_trans (N.leP_ok h.2.2) h3, h4⟩
    · rw [if_neg e] at h; exact h.elim
  | .nilm, v, y, h, hv => by cases v <;> simp only [V.leP] at h; exact hv
  | .map b, v, y, h, hv => by
    cases v <;> simp only [V.leP] at h
    rename_i b'
    by_cases e : Nat.beq b b' = true
    · have e := Nat.eq_of_beq_eq_true e
      subst e; exact hv
    · rw [if_neg e] at h; exact h.elim
  | .nilf, v, y, h, hv => by cases v <;> simp only [V.leP] at h; exact hv
  | .func fn xs ys, v, y, h, hv => by
    cases v <;> simp only [V.leP] at h
    simp only [VR] at hv ⊢
    obtain ⟨a, b, e, h1, h2⟩ := hv
    exact ⟨a, b, by rw [h.1]; exact e, V.lePs_ok xs _ _ h.2.1 h1, V.lePs_ok ys _ _ h.2.2 h2⟩
  | .nili, v, y, h, hv => by cases v <;> simp only [V.leP] at h; exact hv
  | .iface t u, v, y, h, hv => by
    cases v <;> simp only [V.leP] at h
    rename_i t' v'
    by_cases e : Nat.beq t t' = true
    · rw [if_pos e] at h
      have e := Nat.eq_of_beq_eq_true e
      subst e
      simp only [VR] at hv ⊢
      obtain ⟨z, e, h1⟩ := hv
      exact ⟨z, e, V.leP_ok u _ _ h h1⟩
    · rw [if_neg e] at h; exact h.elim
  | .agg xs, v, y, h, hv => by
    cases v <;> simp only [V.leP] at h
    simp only [VR] at hv ⊢
    obtain ⟨z, e, h1⟩ := hv
    exact ⟨z, e, V.lePs_ok xs _ _ h h1⟩
  | .tuple xs, v, y, h, hv => by
    cases v <;> simp only [V.leP] at h
    simp only [VR] at hv ⊢
    obtain ⟨z, e, h1⟩ := hv
    exact ⟨z, e, V.lePs_ok xs _ _ h h1⟩
theorem V.lePs_ok {r : Rho} : ∀ (us vs : List V) (ys : List Value), V.lePs us vs → VRs r vs ys → VRs r us ys
  | [], vs, ys, h, hv => by cases vs <;> simp only [V.lePs] at h; exact hv
  | [u], vs, ys, h, hv => by
    cases vs with
    | nil => simp only [V.lePs] at h
    | cons v vs =>
      cases vs with
      | nil =>
        simp only [V.lePs] at h
        simp only [VRs] at hv ⊢
        obtain ⟨z, zs, e, h1, h2⟩ := hv
        exact ⟨z, zs, e, V.leP_ok u _ _ h h1, h2⟩
      | cons v' vs => simp only [V.lePs, and_false] at h
  | u :: u' :: us, vs, ys, h, hv => by
    cases vs with
    | nil => simp only [V.lePs] at h
    | cons v vs =>
      cases vs with
      | nil => simp only [V.lePs, and_false] at h
      | cons v' vs =>
        simp only [V.lePs] at h
        simp only [VRs] at hv
        obtain ⟨z, zs, e, h1, h2⟩ := hv
        have h3 : VRs r (v' :: vs) zs := by simp only [VRs]; exact h2
        have := V.lePs_ok (u' :: us) (v' :: vs) zs h.2 h3
        simp only [VRs] at this ⊢
        exact ⟨z, zs, e, V.leP_ok u _ _ h.1 h1, this⟩
end

def boolLe (a b : Bool) : Bool := !a || b

/-- The last d of the whole numbers told one by one. -/
def Blk.unflat (d : Nat) : Blk → Blk
  | .own ro e g m rest => .own ro e g (m - d) ((List.range d).map (fun j => .int .i64 (.s (g (m - d + j)))) ++ rest)
  | b => b
/-- Block b says no more than block B. -/
def Blk.leP (b B : Blk) : Prop :=
  match b with
  | .own ro e f n rest => match (match B with | .own _ _ _ m rest' => if Nat.beq rest.length rest'.length then B else if Nat.blt rest'.length rest.length && Nat.ble (rest.length - rest'.length) m then Nat.forced (rest.length - rest'.length) fun d => B.unflat d else B.flat | _ => B) with
    | .own ro' e' g m rest' => if boolLe ro' ro && Nat.beq e e' then (n = m ∧ (∀ k, k < n → f k = g k) ∧ V.lePs rest rest') else False
    | _ => False
  | .ext f n => match B with
    | .ext g m => n.leP m ∧ ∀ k, k < n.val → f k = g k
    | .own _ _ _ _ _ => match B.flat with
      | .own _ _ g m _ => n.val ≤ m ∧ ∀ k, k < n.val → f k = g k
      | _ => False
    | _ => False
  | .mp es => match B with
    | .mp es' => es = es'
    | _ => False

theorem Wk.unflat (d : Nat) (ro : Bool) (e : TypeId) (g : Nat → Int) (m : Nat) (rest : List V) (hd : d ≤ m) : Wk ((Blk.own ro e g m rest).unflat d) (.own ro e g m rest) := by
  refine ⟨fun r w p h => ?_, id, id, id⟩
  obtain ⟨c, h1, h2, h3, h4, h5, h6⟩ := h
  refine ⟨c, h1, h2, h3, by simp; omega, fun o ho => h5 o (by omega), fun j v hj => ?_⟩
  by_cases hjd : j < d
  · rw [List.getElem?_append_left (by simpa using hjd), List.getElem?_map, List.getElem?_range hjd] at hj
    simp only [Option.map_some, Option.some.injEq] at hj
    subst hj
    exact ⟨_, h5 (m - d + j) (by omega), by simp only [VR, E.val]⟩
  · rw [List.getElem?_append_right (by simp; omega)] at hj
    simp only [List.length_map, List.length_range] at hj
    obtain ⟨y, hy, hv⟩ := h6 _ _ hj
    refine ⟨y, ?_, hv⟩
    rw [← hy]; congr 1; omega

theorem Wk.flat (B : Blk) : Wk B.flat B := by
  refine ⟨fun r w p h => h.flat, ?_, ?_, ?_⟩
  · cases B with
    | own ro e f n rest => obtain ⟨f', n', rest', h⟩ := Blk.flat_own ro e f n rest; rw [h]; exact id
    | ext f n => exact id
    | mp es => exact id
  · cases B with
    | own ro e f n rest => obtain ⟨f', n', rest', h⟩ := Blk.flat_own ro e f n rest; rw [h]; exact id
    | ext f n => exact id
    | mp es => exact id
  · cases B with
    | own ro e f n rest => obtain ⟨f', n', rest', h⟩ := Blk.flat_own ro e f n rest; rw [h]; exact id
    | ext f n => exact id
    | mp es => exact id

theorem V.lePs_get {r : Rho} : ∀ (us vs : List V), V.lePs us vs → us.length = vs.length ∧ ∀ (j : Nat) (u : V), us[j]? = some u → ∃ v, vs[j]? = some v ∧ ∀ y, VR r v y → VR r u y
  | [], vs, h => by cases vs <;> simp only [V.lePs] at h; exact ⟨rfl, fun j u hj => by simp at hj⟩
  | [u], vs, h => by
    cases vs with
    | nil => simp only [V.lePs] at h
    | cons v vs =>
      cases vs with
      | nil =>
        simp only [V.lePs] at h
        refine ⟨rfl, fun j x hj => ?_⟩
        cases j with
        | zero => simp only [List.getElem?_cons_zero, Option.some.injEq] at hj; subst hj; exact ⟨v, by simp, fun y => V.leP_ok _ _ y h⟩
        | succ j => simp at hj
      | cons v' vs => simp only [V.lePs, and_false] at h
  | u :: u' :: us, vs, h => by
    cases vs with
    | nil => simp only [V.lePs] at h
    | cons v vs =>
      cases vs with
      | nil => simp only [V.lePs, and_false] at h
      | cons v' vs =>
        simp only [V.lePs] at h
        obtain ⟨h1, h2⟩ := V.lePs_get (u' :: us) (v' :: vs) h.2
        refine ⟨by simpa using h1, fun j x hj => ?_⟩
        cases j with
        | zero => simp only [List.getElem?_cons_zero, Option.some.injEq] at hj; subst hj; exact ⟨v, by simp, fun y => V.leP_ok _ _ y h.1⟩
        | succ j => simp only [List.getElem?_cons_succ] at hj ⊢; exact h2 j x hj

theorem Wk.ownLe {ro ro' : Bool} {e : TypeId} {f g : Nat → Int} {n : Nat} {rest rest' : List V} (hro : boolLe ro' ro = true) (hf : n = 0 ∨ ∀ k, k < n → f k = g k) (hr : V.lePs rest rest') :
    Wk (.own ro e f n rest) (.own ro' e g n rest') := by
  refine ⟨fun r w p h => ?_, ?_, id, id⟩
  · obtain ⟨c, h1, h2, h3, h4, h5, h6⟩ := h
    obtain ⟨hl, hg⟩ := V.lePs_get (r := r) rest rest' hr
    refine ⟨c, h1, h2, h3, by rw [hl]; exact h4, fun o ho => ?_, fun j v hj => ?_⟩
    · rcases hf with rfl | hf
      · omega
      · rw [hf o ho]; exact h5 o ho
    · obtain ⟨v', hv', hle⟩ := hg j v hj
      obtain ⟨y, hy, hvr⟩ := h6 j v' hv'
      exact ⟨y, hy, hle y hvr⟩
  · cases ro <;> cases ro' <;> simp [Blk.writable, boolLe] at hro ⊢

theorem Blk.leP_ok {b B : Blk} (h : b.leP B) : Wk b B := by
  cases b with
  | own ro e f n rest =>
    unfold Blk.leP at h
    simp only at h
    have key : ∀ B', Wk B' B → (match B' with
        | .own ro' e' g m rest' => if (boolLe ro' ro && Nat.beq e e') = true then (n = m ∧ (∀ k, k < n → f k = g k) ∧ V.lePs rest rest') else False
        | _ => False) → Wk (.own ro e f n rest) B := by
      intro B' hw h
      cases B' with
      | own ro' e' g m rest' =>
        simp only at h
        by_cases hc : (boolLe ro' ro && Nat.beq e e') = true
        · rw [if_pos hc] at h
          simp only [Bool.and_eq_true] at hc
          have e1 := Nat.eq_of_beq_eq_true hc.2
          obtain ⟨e2, h1, h2⟩ := h
          subst e1 e2
          exact (Wk.ownLe hc.1 (.inr h1) h2).trans hw
        · rw [if_neg hc] at h; exact h.elim
      | ext g m => exact h.elim
      | mp es => exact h.elim
    cases B with
    | own ro' e' g m rest' =>
      simp only at h
      by_cases hc : Nat.beq rest.length rest'.length = true
      · rw [if_pos hc] at h; exact key _ (Wk.refl _) h
      · rw [if_neg hc] at h
        by_cases hd : (Nat.blt rest'.length rest.length && Nat.ble (rest.length - rest'.length) m) = true
        · rw [if_pos hd, Nat.forced_eq] at h
          simp only [Bool.and_eq_true] at hd
          exact key _ (Wk.unflat _ _ _ _ _ _ (Nat.le_of_ble_eq_true hd.2)) h
        · rw [if_neg hd] at h; exact key _ (Wk.flat _) h
    | ext g m => exact h.elim
    | mp es => exact h.elim
  | ext f n =>
    unfold Blk.leP at h
    simp only at h
    cases B with
    | ext g m =>
      simp only at h
      have hle := N.leP_ok h.1
      exact ⟨fun r w p hb o ho => by rw [h.2 o ho]; exact hb o (Nat.lt_of_lt_of_le ho hle), by simp [Blk.writable], by simp [Blk.isOwn], fun ht => Nat.lt_of_lt_of_le ht hle⟩
    | own ro' e' g m rest' =>
      simp only at h
      obtain ⟨f', n', rest'', hfl⟩ := Blk.flat_own ro' e' g m rest'
      rw [hfl] at h
      simp only at h
      refine ⟨fun r w p hb o ho => ?_, by simp [Blk.writable], by simp [Blk.isOwn], fun _ => trivial⟩
      have hb := hb.flat
      rw [hfl] at hb
      obtain ⟨c, h1, h2, h3, h4, h5, h6⟩ := hb
      rw [h2, Nat.zero_add, cell_of_row w p.blk o c _ (0, 0) h1, h.2 o ho]
      exact h5 o (Nat.lt_of_lt_of_le ho h.1)
    | mp es => exact h.elim
  | mp es =>
    unfold Blk.leP at h
    simp only at h
    cases B with
    | own ro' e' g m rest' => exact h.elim
    | ext g m => exact h.elim
    | mp es' => simp only at h; subst h; exact Wk.refl _

/-! ### Forgetting -/

/-- Behind (T1, H1) nothing but (T2, H2) is kept: block j of the latter is block l[j] of the former; the first n0 stay. -/
structure Dwn (n0 : Nat) (l : List Nat) (T1 : Tr V) (H1 : Hp) (T2 : Tr V) (H2 : Hp) : Prop where
  n : n0 ≤ l.length
  n2 : l.length ≤ H2.n
  same : ∀ j, j < n0 → l.getD j 0 = j
  nodup : l.Nodup
  lt : ∀ i, i ∈ l → i < H1.n
  blk : ∀ j b, H2.tr.get j = some b → j < l.length ∧ ∃ B, H1.tr.get (l.getD j 0) = some B ∧ Wk (b.ren (place l H1.n)) B
  tmp : ∀ t u, T2.get t = some u → ∃ x, T1.get t = some x ∧ ∀ r y, VR r x y → VR r (u.ren (place l H1.n)) y

theorem Fits.down {r0 r1 : Rho} {H0 H1 H2 : Hp} {w0 w1 : World} {T1 T2 : Tr V} {l : List Nat} {nt : Nat} {a : Act} (hH0 : HR r0 H0 w0) (hf : Fits r0 H0 w0 r1 H1 w1) (hd : Dwn H0.n l T1 H1 T2 H2) (hA : AR r1 nt T1 a) :
    ∃ r2, Fits r0 H0 w0 r2 H2 w1 ∧ AR r2 nt T2 a := by
  have hpl : ∀ j, j < l.length → place l H1.n j = l.getD j 0 := fun j hj => if_pos hj
  have hinj : ∀ i j, i < l.length → j < l.length → l.getD i 0 = l.getD j 0 → i = j := fun i j hi hj e => by
    have h1 := findAt_of l i hd.nodup hi
    have h2 := findAt_of l j hd.nodup hj
    rw [e, h2] at h1
    simpa using h1.symm
  have hok : ∀ j, r1.ok (place l H1.n j) → j < l.length := fun j hj => by
    have := hf.hr.okn _ hj
    rw [← hf.hr.n] at this
    unfold place at this
    by_cases h : j < l.length
    · exact h
    · rw [if_neg h] at this; omega
  have h0 : ∀ i, i < H0.n → place l H1.n i = i := fun i hi => by
    rw [hpl i (Nat.lt_of_lt_of_le hi hd.n), hd.same i hi]
  have hlt0 : ∀ i, r0.ok i → i < H0.n := fun i hi => by have := hH0.okn i hi; rwa [← hH0.n] at this
  refine ⟨pull r1 (place l H1.n) H2.n, ⟨⟨?_, fun i hi => ?_, fun i hi => ?_, fun i hi => ?_⟩, ⟨rfl, fun i hi => ?_, fun i b hi => ?_, fun i b hi => ?_, fun i j b c hij hi hj hown hth => ?_⟩, hf.kept, fun k hk hm => ?_⟩, ⟨hA.size, hA.defers, fun t u hu => ?_⟩⟩
  · show r0.n ≤ H2.n
    rw [← hH0.n]; exact Nat.le_trans hd.n hd.n2
  · show r1.ok (place l H1.n i)
    rw [h0 i (hlt0 i hi)]; exact hf.ext.ok i hi
  · show r1.pl (place l H1.n i) = r0.pl i
    rw [h0 i (hlt0 i hi)]; exact hf.ext.pl i hi
  · have hi : r1.ok (place l H1.n i) := hi
    rcases Nat.lt_or_ge i H0.n with h | h
    · rw [h0 i h] at hi
      exact hf.ext.old i hi
    · right; rw [← hH0.n]; exact h
  · exact Nat.lt_of_lt_of_le (hok i hi) hd.n2
  · exact Nat.lt_of_lt_of_le (hd.blk i b hi).1 hd.n2
  · obtain ⟨hlt, B, hB, hw⟩ := hd.blk i b hi
    refine (BR_ren b).1 (hw.br _ _ _ ?_)
    show BR r1 w1 (r1.pl (place l H1.n i)) B
    rw [hpl i hlt]
    exact hf.hr.live _ _ hB
  · obtain ⟨hlt, B, hB, hw⟩ := hd.blk i b hi
    obtain ⟨hlt', C, hC, hw'⟩ := hd.blk j c hj
    show (r1.pl (place l H1.n i)).blk ≠ (r1.pl (place l H1.n j)).blk
    rw [hpl i hlt, hpl j hlt']
    exact hf.hr.apart _ _ B C (fun e => hij (hinj i j hlt hlt' e)) hB hC (hw.own (by rw [Blk.ren_isOwn]; exact hown)) (hw'.there ((Blk.ren_there _ c).2 hth))
  · obtain ⟨i, b, hi, hwr, he⟩ := hm
    obtain ⟨hlt, B, hB, hw⟩ := hd.blk i b hi
    refine hf.mine k hk ⟨l.getD i 0, B, hB, hw.wr (by rw [Blk.ren_writable]; exact hwr), ?_⟩
    rw [← he]
    show (r1.pl (l.getD i 0)).blk = (r1.pl (place l H1.n i)).blk
    rw [hpl i hlt]
  · obtain ⟨x, hx, hle⟩ := hd.tmp t u hu
    exact (VR_ren u _).1 (hle r1 _ (hA.tmp t x hx))

/-! ### From a state to one of several -/

def CodeQ (P : Program) (nt : Nat) (c : Code) (T : Tr V) (H : Hp) (Q : Out → Tr V → Hp → Prop) : Prop :=
  ∀ (r : Rho) (w : World) (a : Act), AR r nt T a → HR r H w → c.wp P (fun e a' w' => ∃ out T' H', Q out T' H' ∧ OutOk r H w nt out T' H' e a' w') a w
def LoopQ (P : Program) (nt : Nat) (c : Code) (T : Tr V) (H : Hp) (Q : Out → Tr V → Hp → Prop) : Prop :=
  ∀ (r : Rho) (w : World) (a : Act), AR r nt T a → HR r H w → LoopWp P c (fun e a' w' => ∃ out T' H', Q out T' H' ∧ OutOk r H w nt out T' H' e a' w') a w

section
variable {P : Program} {nt : Nat}

theorem CodeQ.mono {c : Code} {T : Tr V} {H : Hp} {Q Q' : Out → Tr V → Hp → Prop} (h : CodeQ P nt c T H Q) (hq : ∀ o T H, Q o T H → Q' o T H) : CodeQ P nt c T H Q' :=
  fun r w a hA hH => wp_mono (h r w a hA hH) fun e a' w' ⟨o, T', H', h1, h2⟩ => ⟨o, T', H', hq _ _ _ h1, h2⟩
theorem LoopQ.mono {c : Code} {T : Tr V} {H : Hp} {Q Q' : Out → Tr V → Hp → Prop} (h : LoopQ P nt c T H Q) (hq : ∀ o T H, Q o T H → Q' o T H) : LoopQ P nt c T H Q' :=
  fun r w a hA hH => (h r w a hA hH).mono fun e a' w' ⟨o, T', H', h1, h2⟩ => ⟨o, T', H', hq _ _ _ h1, h2⟩
theorem LoopQ.code {c : Code} {T : Tr V} {H : Hp} {Q : Out → Tr V → Hp → Prop} (h : LoopQ P nt c T H Q) : CodeQ P nt (.loop c) T H Q := fun r w a hA hH => (h r w a hA hH).wp

/-- Behind it less is known. -/
theorem CodeQ.down {c : Code} {T : Tr V} {H : Hp} {Q : Out → Tr V → Hp → Prop} (h : CodeQ P nt c T H fun o T1 H1 => ∃ l T2 H2, Dwn H.n l T1 H1 T2 H2 ∧ Q o T2 H2) : CodeQ P nt c T H Q :=
  fun r w a hA hH => wp_mono (h r w a hA hH) fun e a' w' ⟨o, T', H', ⟨l, T2, H2, hd, hq⟩, he, r', hA', hf⟩ =>
    let ⟨r2, hf2, hA2⟩ := hf.down hH hd hA'
    ⟨o, T2, H2, hq, he, r2, hA2, hf2⟩

/-- A loop: from one round's head to the next one's something gets less. What may be forgotten between two rounds is measured by the memory n0 at the loop's head. -/
theorem LoopQ.ind {α : Type} {body : Code} (T : α → Tr V) (H : α → Hp) (μ : α → Nat) (I : α → Prop) (n0 : Nat) (Q : Out → Tr V → Hp → Prop)
    (step : ∀ a, I a → CodeQ P nt body (T a) (H a) fun o T1 H1 => ∃ l T2 H2, Dwn n0 l T1 H1 T2 H2 ∧ (match o with
      | .norm => ∃ a', I a' ∧ μ a' < μ a ∧ T2 = T a' ∧ H2 = H a'
      | o => Q o T2 H2)) (a0 : α) (h0 : I a0) (hn : (H a0).n = n0) : LoopQ P nt body (T a0) (H a0) Q := by
  have key : ∀ (m : Nat) (a : α), μ a < m → I a → ∀ (r0 r : Rho) (w0 w : World) (x : Act), HR r0 (H a0) w0 → Fits r0 (H a0) w0 r (H a) w → AR r nt (T a) x →
      LoopWp P body (fun e a' w' => ∃ out T' H', Q out T' H' ∧ OutOk r0 (H a0) w0 nt out T' H' e a' w') x w := by
    intro m
    induction m with
    | zero => intro a h; exact absurd h (Nat.not_lt_zero _)
    | succ m ih =>
      intro a hm hI r0 r w0 w x hH0 hf hA
      refine .round (wp_mono (step a hI r w x hA hf.hr) ?_)
      rintro e x' w' ⟨o, T1, H1, ⟨l, T2, H2, hd, hq⟩, he, r1, hA1, hf1⟩
      obtain ⟨r2, hf2, hA2⟩ := (hf.trans hf1).down hH0 (hn ▸ hd) hA1
      cases o with
      | norm =>
        simp only at he
        subst he
        obtain ⟨a', hI', hlt, rfl, rfl⟩ := hq
        exact ih a' (by omega) hI' r0 r2 w0 w' x' hH0 hf2 hA2
      | exit id => simp only at he; subst he; exact ⟨_, T2, H2, hq, rfl, r2, hA2, hf2⟩
      | ret => simp only at he; subst he; exact ⟨_, T2, H2, hq, rfl, r2, hA2, hf2⟩
  intro r w x hA hH
  exact key (μ a0 + 1) a0 (Nat.lt_succ_self _) h0 r r w w x hH (Fits.refl hH) hA

/-- Ahead of it something is forgotten. -/
theorem Weak.fits {r r' : Rho} {H H2 H' : Hp} {w w' : World} (hn : H2.n = H.n) (hb : ∀ j b, H2.tr.get j = some b → ∃ B, H.tr.get j = some B ∧ Wk b B) (hH : HR r H w) : HR r H2 w ∧ (∀ {r' : Rho} {H' : Hp} {w' : World}, Fits r H2 w r' H' w' → Fits r H w r' H' w') := by
  refine ⟨⟨hn.trans hH.n, hH.okn, fun i b hi => ?_, fun i b hi => ?_, fun i j b c hij hi hj hown hth => ?_⟩, fun hf => ⟨hf.ext, hf.hr, hf.kept.mono fun k _ hm => ?_, fun k hk hm => ?_⟩⟩
  · obtain ⟨B, hB, _⟩ := hb i b hi; rw [hn]; exact hH.bound i B hB
  · obtain ⟨B, hB, hw⟩ := hb i b hi; exact hw.br _ _ _ (hH.live i B hB)
  · obtain ⟨B, hB, hw⟩ := hb i b hi
    obtain ⟨C, hC, hw'⟩ := hb j c hj
    exact hH.apart i j B C hij hB hC (hw.own hown) (hw'.there hth)
  · obtain ⟨i, b, hi, hwr, he⟩ := hm
    obtain ⟨B, hB, hw⟩ := hb i b hi
    exact ⟨i, B, hB, hw.wr hwr, he⟩
  · obtain ⟨i, b, hi, hwr, he⟩ := hf.mine k hk hm
    obtain ⟨B, hB, hw⟩ := hb i b hi
    exact ⟨i, B, hB, hw.wr hwr, he⟩

structure Weak (T : Tr V) (H : Hp) (T2 : Tr V) (H2 : Hp) : Prop where
  n : H2.n = H.n
  blk : ∀ j b, H2.tr.get j = some b → ∃ B, H.tr.get j = some B ∧ Wk b B
  tmp : ∀ t u, T2.get t = some u → ∃ x, T.get t = some x ∧ ∀ r y, VR r x y → VR r u y

theorem Weak.ar {T T2 : Tr V} {H H2 : Hp} (h : Weak T H T2 H2) {r : Rho} {a : Act} (hA : AR r nt T a) : AR r nt T2 a :=
  ⟨hA.size, hA.defers, fun t u hu => let ⟨x, hx, hle⟩ := h.tmp t u hu; hle r _ (hA.tmp t x hx)⟩

theorem CodeQ.weak {c : Code} {T T2 : Tr V} {H H2 : Hp} {Q : Out → Tr V → Hp → Prop} (hw : Weak T H T2 H2) (h : CodeQ P nt c T2 H2 Q) : CodeQ P nt c T H Q := fun r w a hA hH =>
  let ⟨h1, h2⟩ := Weak.fits (r' := r) (H' := H) (w' := w) hw.n hw.blk hH
  wp_mono (h r w a (hw.ar hA) h1) fun e a' w' ⟨o, T', H', hq, he, r', hA', hf⟩ => ⟨o, T', H', hq, he, r', hA', h2 hf⟩
theorem LoopQ.weak {c : Code} {T T2 : Tr V} {H H2 : Hp} {Q : Out → Tr V → Hp → Prop} (hw : Weak T H T2 H2) (h : LoopQ P nt c T2 H2 Q) : LoopQ P nt c T H Q := fun r w a hA hH =>
  let ⟨h1, h2⟩ := Weak.fits (r' := r) (H' := H) (w' := w) hw.n hw.blk hH
  (h r w a (hw.ar hA) h1).mono fun e a' w' ⟨o, T', H', hq, he, r', hA', hf⟩ => ⟨o, T', H', hq, he, r', hA', h2 hf⟩

/-! ### The parts of a text -/

def thenQ (P : Program) (nt : Nat) (b : Code) (Q : Out → Tr V → Hp → Prop) : Out → Tr V → Hp → Prop
  | .norm, T, H => CodeQ P nt b T H Q
  | o, T, H => Q o T H
def blockQ (id : Nat) (Q : Out → Tr V → Hp → Prop) : Out → Tr V → Hp → Prop
  | .exit id', T, H => if id' = id then Q .norm T H else Q (.exit id') T H
  | o, T, H => Q o T H
def roundQ (P : Program) (nt : Nat) (b : Code) (Q : Out → Tr V → Hp → Prop) : Out → Tr V → Hp → Prop
  | .norm, T, H => LoopQ P nt b T H Q
  | o, T, H => Q o T H

theorem CodeQ.seq {a b : Code} {T : Tr V} {H : Hp} {Q : Out → Tr V → Hp → Prop} (h : CodeQ P nt a T H (thenQ P nt b Q)) : CodeQ P nt (.seq a b) T H Q := fun r w x hA hH => by
  refine wp_seq (wp_mono (h r w x hA hH) ?_)
  rintro e x' w' ⟨o, T', H', hq, he, r', hA', hf⟩
  cases o with
  | norm =>
    simp only at he; subst he
    exact wp_mono (hq r' w' x' hA' hf.hr) fun e2 x2 w2 ⟨o2, T2, H2, hq2, ho2⟩ => ⟨o2, T2, H2, hq2, OutOk.trans hf ho2⟩
  | exit id => simp only at he; subst he; exact ⟨_, T', H', hq, rfl, r', hA', hf⟩
  | ret => simp only at he; subst he; exact ⟨_, T', H', hq, rfl, r', hA', hf⟩
theorem CodeQ.block {id : Nat} {b : Code} {T : Tr V} {H : Hp} {Q : Out → Tr V → Hp → Prop} (h : CodeQ P nt b T H (blockQ id Q)) : CodeQ P nt (.block id b) T H Q := fun r w x hA hH => by
  refine wp_block (wp_mono (h r w x hA hH) ?_)
  rintro e x' w' ⟨o, T', H', hq, he, r', hA', hf⟩
  cases o with
  | norm => simp only at he; subst he; exact ⟨_, T', H', hq, rfl, r', hA', hf⟩
  | exit id' =>
    simp only at he; subst he
    by_cases hid : id' = id
    · simp only [Exit.inBlock, hid, if_true]
      simp only [blockQ, hid, if_true] at hq
      exact ⟨_, T', H', hq, rfl, r', hA', hf⟩
    · simp only [Exit.inBlock, hid, if_false]
      simp only [blockQ, hid, if_false] at hq
      exact ⟨_, T', H', hq, rfl, r', hA', hf⟩
  | ret => simp only at he; subst he; exact ⟨_, T', H', hq, rfl, r', hA', hf⟩
theorem CodeQ.scope {b : Code} {T : Tr V} {H : Hp} {Q : Out → Tr V → Hp → Prop} (h : CodeQ P nt b T H Q) : CodeQ P nt (.scope b) T H Q := fun r w x hA hH => by
  refine wp_scope_straight (wp_mono (h r w x hA hH) ?_)
  rintro e x' w' ⟨o, T', H', hq, ho⟩
  have he := ho.1
  cases o <;> simp only at he <;> subst he <;> exact ⟨_, T', H', hq, ho⟩
theorem LoopQ.round {b : Code} {T : Tr V} {H : Hp} {Q : Out → Tr V → Hp → Prop} (h : CodeQ P nt b T H (roundQ P nt b Q)) : LoopQ P nt b T H Q := fun r w x hA hH => by
  refine .round (wp_mono (h r w x hA hH) ?_)
  rintro e x' w' ⟨o, T', H', hq, he, r', hA', hf⟩
  cases o with
  | norm =>
    simp only at he; subst he
    exact (hq r' w' x' hA' hf.hr).mono fun e2 x2 w2 ⟨o2, T2, H2, hq2, ho2⟩ => ⟨o2, T2, H2, hq2, OutOk.trans hf ho2⟩
  | exit id => simp only at he; subst he; exact ⟨_, T', H', hq, rfl, r', hA', hf⟩
  | ret => simp only at he; subst he; exact ⟨_, T', H', hq, rfl, r', hA', hf⟩

/-- What must hold behind a part (by the turns that lead to it) for Q to hold behind the whole. -/
def AfterQ (P : Program) (nt : Nat) : List Nat → Code → (Out → Tr V → Hp → Prop) → Out → Tr V → Hp → Prop
  | [], _, Q => Q
  | d :: ds, c, Q => match c with
    | .seq a b => if d = 0 then AfterQ P nt ds a (thenQ P nt b Q) else AfterQ P nt ds b Q
    | .cond _ x y => if d = 0 then AfterQ P nt ds x Q else AfterQ P nt ds y Q
    | .block id b => AfterQ P nt ds b (blockQ id Q)
    | .scope b => AfterQ P nt ds b Q
    | .loop b => AfterQ P nt ds b (roundQ P nt b Q)
    | _ => fun _ _ _ => False

def codeDown (c : Code) : List Nat → Option Code
  | [] => some c
  | d :: ds => (child c d).bind fun x => codeDown x ds

/-! ### Runs -/

/-- On to a part (none: another way was taken). -/
def goS (P : Program) (spec : Spec) (L : LSpec) (n : Nat) (f : FuncId) (nt : Nat) : List Nat → List Nat → Code → Tr V → S → Option (Option (Tr V) × S)
  | [], _, _, T, s => some (some T, s)
  | d :: ds, p, c, T, s => match c with
    | .seq a b => if Nat.beq d 0 then goS P spec L n f nt ds (0 :: p) a T s else match code P spec L n f (0 :: p) nt a T s with
      | some (.norm, T, s) => goS P spec L n f nt ds (1 :: p) b T s
      | some (_, _, s) => some (none, s)
      | none => none
    | .cond c x y => match condV T c s with
      | some (true, T, s) => if Nat.beq d 0 then goS P spec L n f nt ds (0 :: p) x T s else some (none, s)
      | some (false, T, s) => if Nat.beq d 0 then some (none, s) else goS P spec L n f nt ds (1 :: p) y T s
      | none => none
    | .block _ b => if Nat.beq d 0 then goS P spec L n f nt ds (0 :: p) b T s else none
    | .scope b => if Nat.beq d 0 then goS P spec L n f nt ds (0 :: p) b T s else none
    | .loop b => if Nat.beq d 0 then goS P spec L n f nt ds (0 :: p) b T s else none
    | _ => none

/-- From a part on to the end. -/
def afterS (P : Program) (spec : Spec) (L : LSpec) (n : Nat) (f : FuncId) (nt : Nat) : List Nat → List Nat → Code → Out → Tr V → S → Option (Out × Tr V × S)
  | [], _, _, o, T, s => some (o, T, s)
  | d :: ds, p, c, o, T, s => match c with
    | .seq a b => if Nat.beq d 0 then match afterS P spec L n f nt ds (0 :: p) a o T s with
        | some (.norm, T, s) => code P spec L n f (1 :: p) nt b T s
        | x => x
      else afterS P spec L n f nt ds (1 :: p) b o T s
    | .cond _ x y => if Nat.beq d 0 then afterS P spec L n f nt ds (0 :: p) x o T s else afterS P spec L n f nt ds (1 :: p) y o T s
    | .block id b => if Nat.beq d 0 then match afterS P spec L n f nt ds (0 :: p) b o T s with
        | some (.exit id', T, s) => if Nat.beq id' id then some (.norm, T, s) else some (.exit id', T, s)
        | x => x
      else none
    | .scope b => if Nat.beq d 0 then afterS P spec L n f nt ds (0 :: p) b o T s else none
    | _ => none

/-- From a part on to a later one (none: another way was taken). -/
def fromTo (P : Program) (spec : Spec) (L : LSpec) (n : Nat) (f : FuncId) (nt : Nat) : List Nat → List Nat → List Nat → Code → Out → Tr V → S → Option (Option (Tr V) × S)
  | d :: ds, e :: es, p, c, o, T, s => match c with
    | .seq a b => if Nat.beq d e then (if Nat.beq d 0 then fromTo P spec L n f nt ds es (0 :: p) a o T s else fromTo P spec L n f nt ds es (1 :: p) b o T s)
      else if Nat.beq d 0 then match afterS P spec L n f nt ds (0 :: p) a o T s with
        | some (.norm, T, s) => goS P spec L n f nt es (1 :: p) b T s
        | some (_, _, s) => some (none, s)
        | none => none
      else none
    | .cond _ x y => if Nat.beq d e then (if Nat.beq d 0 then fromTo P spec L n f nt ds es (0 :: p) x o T s else fromTo P spec L n f nt ds es (1 :: p) y o T s) else none
    | .block _ b => if Nat.beq d 0 && Nat.beq e 0 then fromTo P spec L n f nt ds es (0 :: p) b o T s else none
    | .scope b => if Nat.beq d 0 && Nat.beq e 0 then fromTo P spec L n f nt ds es (0 :: p) b o T s else none
    | _ => none
  | _, _, _, _, _, _, _ => none

end
end Go.Ideal
