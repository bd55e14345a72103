/- The ideal machine: what a law is handed in: structs and arrays of numbers, bools and strings, and rows of structs of numbers. Own text; nothing here is trusted. -/
import Derived.Test.YtbcadmnkilckbaaI25
namespace Go.Ideal
set_option linter.unusedSimpArgs false
set_option linter.unusedVariables false

inductive Lf where
  | i : Lf
  | b : Lf
  | s : Lf

def LfOk : Lf → Value → Prop
  | .i, y => ∃ n : Int, y = .int .i64 n ∧ -9223372036854775808 ≤ n ∧ n ≤ 9223372036854775807
  | .b, y => ∃ b, y = .bool b
  | .s, y => ∃ s : ByteArray, y = .string s ∧ s.size ≤ maxLen

def leafsF (P : Program) (rec_ : TypeId → Option (List Lf)) : List Field → Nat → Option (List Lf)
  | [], _ => some []
  | f :: fs, off => if Nat.beq f.offset off then match rec_ f.type with
      | some l => if Nat.beq l.length (P.cellsOf f.type) then match leafsF P rec_ fs (off + l.length) with
          | some r => some (l ++ r)
          | none => none
        else none
      | none => none
    else none
/-- The cells of a type. -/
def leafs (P : Program) : Nat → TypeId → Option (List Lf)
  | 0, _ => none
  | n + 1, t => match P.underlying t with
    | some .bool => some [.b]
    | some (.int .i64) => some [.i]
    | some .string => some [.s]
    | some (.struct fs) => match leafsF P (leafs P n) fs.toList 0 with
      | some ls => if Nat.beq ls.length (P.cellsOf t) then some ls else none
      | none => none
    | some (.array k e) => match leafs P n e with
      | some l => if Nat.beq l.length (P.cellsOf e) && Nat.beq (k * l.length) (P.cellsOf t) then some ((List.replicate k l).flatten) else none
      | none => none
    | _ => none

def CellsOk (cs : List Value) (ls : List Lf) : Prop := cs.length = ls.length ∧ ∀ (i : Nat) (l : Lf), ls[i]? = some l → ∃ y, cs[i]? = some y ∧ LfOk l y

theorem flat_get {α : Type} (l : List α) : ∀ (k i : Nat) (a : α), ((List.replicate k l).flatten)[i]? = some a → ∃ q j, q < k ∧ i = q * l.length + j ∧ l[j]? = some a
  | 0, i, a, h => by simp at h
  | k + 1, i, a, h => by
    rw [List.replicate_succ, List.flatten_cons] at h
    by_cases hi : i < l.length
    · rw [List.getElem?_append_left hi] at h
      exact ⟨0, i, by omega, by omega, h⟩
    · rw [List.getElem?_append_right (by omega)] at h
      obtain ⟨q, j, h1, h2, h3⟩ := flat_get l k _ a h
      exact ⟨q + 1, j, by omega, by rw [Nat.add_mul]; omega, h3⟩

section
variable {H : Type} {enc : TypeId × Value → H} {P : Program} {w : World} {base : Nat} {spare : Nat → Bool} {held : Bool}

theorem leafs_ok : ∀ (n : Nat) (t : TypeId) (ls : List Lf) (fuel : Nat) (cs : List Value) (x : DataW H × List MemPlace), leafs P n t = some ls → DataW.trod enc P w base spare held fuel t cs = some x → CellsOk cs ls
  | 0, t, ls, fuel, cs, x, h, _ => by simp [leafs] at h
  | n + 1, t, ls, fuel, cs, x, h, hx => by
    unfold leafs at h
    split at h
    · rename_i hu
      simp only [Option.some.injEq] at h
      subst h
      obtain ⟨b, rfl, _⟩ := DataW.trod_bool hu hx
      refine ⟨rfl, fun i l hl => ?_⟩
      cases i with
      | zero => simp only [List.getElem?_cons_zero, Option.some.injEq] at hl; subst hl; exact ⟨_, rfl, b, rfl⟩
      | succ i => simp at hl
    · rename_i hu
      simp only [Option.some.injEq] at h
      subst h
      obtain ⟨z, rfl, _, hw⟩ := DataW.trod_int hu hx
      refine ⟨rfl, fun i l hl => ?_⟩
      cases i with
      | zero =>
        simp only [List.getElem?_cons_zero, Option.some.injEq] at hl; subst hl
        have := Go.range_i64 (zs := [z]) (by simpa using hw) 0
        exact ⟨_, rfl, z, rfl, by simpa using this⟩
      | succ i => simp at hl
    · rename_i hu
      simp only [Option.some.injEq] at h
      subst h
      obtain ⟨z, rfl, _, hw⟩ := DataW.trod_string hu hx
      refine ⟨rfl, fun i l hl => ?_⟩
      cases i with
      | zero => simp only [List.getElem?_cons_zero, Option.some.injEq] at hl; subst hl; exact ⟨_, rfl, z, rfl, hw⟩
      | succ i => simp at hl
    · rename_i fs hu
      obtain ⟨xs, m, rfl, _, hlen, hxl, hxs⟩ := DataW.trod_struct hu hx
      split at h
      · rename_i ls' hF
        split at h
        · rename_i hl
          simp only [Option.some.injEq] at h
          subst h
          have hl := Nat.eq_of_beq_eq_true hl
          refine ⟨by rw [hlen, hl], ?_⟩
          have key : ∀ (gs : List Field) (k off : Nat) (ls : List Lf), (∀ j g, gs[j]? = some g → fs[k + j]? = some g) → leafsF P (leafs P n) gs off = some ls → ∀ i l, ls[i]? = some l → ∃ y, cs[off + i]? = some y ∧ LfOk l y := by
            intro gs
            induction gs with
            | nil => intro k off ls _ hF i l hi; simp only [leafsF, Option.some.injEq] at hF; subst hF; simp at hi
            | cons g gs ih =>
              intro k off ls hg hF i l hi
              unfold leafsF at hF
              split at hF
              · rename_i ho
                have ho := Nat.eq_of_beq_eq_true ho
                split at hF
                · rename_i l1 h1
                  split at hF
                  · rename_i hl1
                    have hl1 := Nat.eq_of_beq_eq_true hl1
                    split at hF
                    · rename_i r hr
                      simp only [Option.some.injEq] at hF
                      subst hF
                      have hf := hg 0 g rfl
                      have hk : k + 0 < xs.length := by rw [hxl]; exact (Array.getElem?_eq_some_iff.1 hf).1
                      have ht := hxs _ g hf
                      rw [List.getElem?_eq_getElem hk] at ht
                      have hc := leafs_ok n g.type l1 m _ _ h1 ht
                      by_cases hi1 : i < l1.length
                      · rw [List.getElem?_append_left hi1] at hi
                        obtain ⟨y, hy, ho1⟩ := hc.2 i l hi
                        rw [List.getElem?_take_of_lt (by omega), List.getElem?_drop, ho] at hy
                        exact ⟨y, hy, ho1⟩
                      · rw [List.getElem?_append_right (by omega)] at hi
                        obtain ⟨y, hy, ho1⟩ := ih (k + 1) (off + l1.length) r (fun j g' hj => by have := hg (j + 1) g' (by simpa using hj); rw [← this]; congr 1; omega) hr _ l hi
                        refine ⟨y, ?_, ho1⟩
                        rw [← hy]; congr 1; omega
                    · simp at hF
                  · simp at hF
                · simp at hF
              · simp at hF
          intro i l hi
          obtain ⟨y, hy, ho⟩ := key fs.toList 0 0 ls' (fun j g hj => by simpa using hj) hF i l hi
          exact ⟨y, by simpa using hy, ho⟩
        · simp at h
      · simp at h
    · rename_i k e hu
      obtain ⟨xs, m, rfl, _, hlen, hxl, hxs⟩ := DataW.trod_array hu hx
      split at h
      · rename_i l0 hl0
        split at h
        · rename_i hc
          simp only [Option.some.injEq] at h
          subst h
          simp only [Bool.and_eq_true] at hc
          have h1 := Nat.eq_of_beq_eq_true hc.1
          have h2 := Nat.eq_of_beq_eq_true hc.2
          refine ⟨by rw [hlen, ← h2]; simp, fun i l hi => ?_⟩
          obtain ⟨q, j, hq, rfl, hj⟩ := flat_get l0 k i l hi
          have ht := hxs q hq
          rw [List.getElem?_eq_getElem (by rw [hxl]; exact hq)] at ht
          have hc := leafs_ok n e l0 m _ _ hl0 ht
          obtain ⟨y, hy, ho⟩ := hc.2 j l hj
          have hjl : j < l0.length := (List.getElem?_eq_some_iff.1 hj).1
          rw [List.getElem?_take_of_lt (by omega), List.getElem?_drop, ← h1] at hy
          exact ⟨y, hy, ho⟩
        · simp at h
      · simp at h
    · simp at h

/-! ### As ideal values -/

def intOf : Value → Int
  | .int _ n => n
  | _ => 0
def boolOf : Value → Bool
  | .bool b => b
  | _ => false
def strOf : Value → ByteArray
  | .string s => s
  | _ => ByteArray.empty

/-- The cells, by their numbers. -/
def lfV (fi : Nat → Int) (fb : Nat → Bool) (fs : Nat → ByteArray) : Nat → List Lf → List V
  | _, [] => []
  | k, .i :: ls => .int .i64 (.s (fi k)) :: lfV fi fb fs (k + 1) ls
  | k, .b :: ls => .bool (.s (fb k)) :: lfV fi fb fs (k + 1) ls
  | k, .s :: ls => .str false (fs k) :: lfV fi fb fs (k + 1) ls

theorem lfV_ok {r : Rho} (cs : List Value) : ∀ (ls : List Lf) (k : Nat), k + ls.length = cs.length → (∀ i l, ls[i]? = some l → ∃ y, cs[k + i]? = some y ∧ LfOk l y) →
    VRs r (lfV (fun k => intOf (cs.getD k undef)) (fun k => boolOf (cs.getD k undef)) (fun k => strOf (cs.getD k undef)) k ls) (cs.drop k)
  | [], k, hl, _ => by simp only [lfV, VRs]; exact List.drop_of_length_le (by simp at hl; omega)
  | l :: ls, k, hl, h => by
    obtain ⟨y, hy, ho⟩ := h 0 l rfl
    have hy : cs[k]? = some y := by simpa using hy
    have hd : cs.drop k = y :: cs.drop (k + 1) := by
      rw [List.drop_eq_getElem_cons (List.getElem?_eq_some_iff.1 hy).1]
      congr 1
      exact (List.getElem?_eq_some_iff.1 hy).2
    have hg : cs.getD k undef = y := by rw [List.getD_eq_getElem?_getD, hy]; rfl
    have ih := lfV_ok (r := r) cs ls (k + 1) (by simp at hl; omega) (fun i l' hi => by
      have := h (i + 1) l' (by simpa using hi)
      rwa [show k + (i + 1) = k + 1 + i by omega] at this)
    rw [hd]
    cases l with
    | i =>
      obtain ⟨n, rfl, _⟩ := ho
      simp only [lfV, VRs]
      exact ⟨_, _, rfl, by simp only [VR, E.val, hg, intOf], ih⟩
    | b =>
      obtain ⟨b, rfl⟩ := ho
      simp only [lfV, VRs]
      exact ⟨_, _, rfl, by simp only [VR, B.val, hg, boolOf], ih⟩
    | s =>
      obtain ⟨s, rfl, _⟩ := ho
      simp only [lfV, VRs]
      exact ⟨_, _, rfl, by simp only [VR, hg, strOf], ih⟩

/-- A struct or an array of numbers, bools, strings. -/
theorem open_flat {n : Nat} {t : TypeId} {ls : List Lf} {v : Value} {d : DataW H} {ps : List MemPlace} (ht : (match P.underlying t with | some (.struct _) => true | some (.array _ _) => true | _ => false) = true) (hl : leafs P n t = some ls)
    (hval : Value.okWide P w .any 0 t v) (h : DataW.Trod enc P w base spare held t v d ps) :
    ∃ (fi : Nat → Int) (fb : Nat → Bool) (fs : Nat → ByteArray), (∀ i, ls[i]? = some .i → -9223372036854775808 ≤ fi i ∧ fi i ≤ 9223372036854775807) ∧ ∀ r : Rho, VR r (.agg (lfV fi fb fs 0 ls)) v := by
  obtain ⟨cs, rfl⟩ : ∃ cs, v = .agg cs := by
    unfold Value.okWide at hval
    split at hval
    · exact ⟨_, hval.choose_spec.1⟩
    · exact ⟨_, hval.choose_spec.1⟩
    · rename_i h1 h2
      split at ht
      · rename_i hu; exact absurd hu (h1 _)
      · rename_i hu; exact absurd hu (h2 _ _)
      · simp at ht
  obtain ⟨fuel, hx⟩ := h
  have hc := leafs_ok n t ls fuel _ _ hl hx
  have hcs : Value.cells (.agg cs) = cs := rfl
  rw [hcs] at hc
  refine ⟨fun k => intOf (cs.toList.getD k undef), fun k => boolOf (cs.toList.getD k undef), fun k => strOf (cs.toList.getD k undef), fun i hi => ?_, fun r => ?_⟩
  rotate_left
  · simp only [VR]
    refine ⟨cs.toList, by simp, ?_⟩
    simpa using lfV_ok (r := r) cs.toList ls 0 (by rw [hc.1]; simp) (fun i l hi => by simpa using hc.2 i l hi)
  · obtain ⟨y, hy, z, rfl, hz⟩ := hc.2 i _ hi
    simp only [List.getD_eq_getElem?_getD, hy, Option.getD_some, intOf]
    exact hz

/-- A row of structs of numbers. -/
theorem open_rows {n : Nat} {t e : TypeId} {m : Nat} {v : Value} {d : DataW H} {ps : List MemPlace} (ht : P.underlying t = some (.slice e)) (hl : leafs P n e = some (List.replicate m .i)) (hc : P.cellsOf e = m) (hm : 0 < m)
    (hval : Value.okWide P w .any 0 t v) (h : DataW.Trod enc P w 0 (fun _ => true) true t v d ps) :
    v = .slice none 0 0 ∨ ∃ (f : Nat → Int) (len : Nat) (pl : Pl), (∀ i, i < len * m → -9223372036854775808 ≤ f i ∧ f i ≤ 9223372036854775807) ∧ len ≤ maxLen ∧ BR ⟨fun _ => pl, fun _ => True, 0⟩ w pl (.ext f (.s (len * m))) ∧
      ∀ (r : Rho) (i : Nat), r.ok i → r.pl i = pl → VR r (.slice i (.c 0) (.s len) m (.s len)) v := by
  obtain ⟨a0, l0, c0, rfl⟩ := Go.WideShapes.okWide_slice ht hval
  obtain ⟨fuel, hn⟩ := h
  rcases DataW.trod_slice ht hn with ⟨hcs, _⟩ | ⟨a, len, cap, elems, rest, k, _, hcs, _, hb, hlc, hcm, hlen, hel, hsp, _⟩
  · left
    simpa [Value.cells] using hcs
  · right
    simp only [Value.cells, List.cons.injEq, and_true] at hcs
    rw [hcs]
    have hone : ∀ (x : DataW H × List MemPlace) (q : Nat), (w.cells? 0 (a.add (q * P.cellsOf e)) (P.cellsOf e)).bind (DataW.trod enc P w 0 (fun _ => true) true k e) = some x → ∀ j, j < m → ∃ z : Int, w.cell? (a.add (q * m + j)) = some (.int .i64 z) ∧ -9223372036854775808 ≤ z ∧ z ≤ 9223372036854775807 := by
      intro x q h1 j hj
      rw [Option.bind_eq_some_iff] at h1
      obtain ⟨cs, hcs', hx⟩ := h1
      have hk := leafs_ok n e _ k cs _ hl hx
      obtain ⟨y, hy, z, rfl, hz⟩ := hk.2 j .i (by rw [List.getElem?_replicate, if_pos hj])
      refine ⟨z, ?_, hz⟩
      have h2 := World.cells?_some hcs'
      have h3 := h2.2.2 j (by rw [hc]; exact hj)
      have e1 : (a.add (q * P.cellsOf e)).add j = a.add (q * m + j) := by
        rw [hc]
        obtain ⟨ab, ao, asp⟩ := a
        cases hm0 : q * m with
        | zero => cases j with
          | zero => simp [Addr.add]
          | succ j => simp [Addr.add]
        | succ t => cases j with
          | zero => simp [Addr.add]
          | succ j => simp [Addr.add, Nat.add_assoc]
      rw [e1, hy] at h3
      exact h3
    have hcell : ∀ q j, q < len → j < m → ∃ z : Int, w.cell? (a.add (q * m + j)) = some (.int .i64 z) ∧ -9223372036854775808 ≤ z ∧ z ≤ 9223372036854775807 := by
      intro q j hq hj
      have h1 := hel q hq
      rw [List.getElem?_eq_getElem (by omega)] at h1
      exact hone _ q h1 j hj
    have hdm : ∀ o, o < len * m → o / m < len ∧ o % m < m ∧ o / m * m + o % m = o := fun o ho => ⟨(Nat.div_lt_iff_lt_mul hm).2 ho, Nat.mod_lt _ hm, Nat.div_add_mod' o m⟩
    refine ⟨fun o => intOf ((w.cell? (a.add o)).getD undef), len, ⟨a.block, a.off, cap * m⟩, fun o ho => ?_, by omega, fun o ho => ?_, fun r i hi hpl => ?_⟩
    · obtain ⟨h1, h2, h3⟩ := hdm o ho
      obtain ⟨z, hz, hr⟩ := hcell _ _ h1 h2
      rw [h3] at hz
      simp only [hz, Option.getD_some, intOf]
      exact hr
    · have ho : o < len * m := ho
      obtain ⟨h1, h2, h3⟩ := hdm o ho
      obtain ⟨z, hz, hr⟩ := hcell _ _ h1 h2
      rw [h3] at hz
      simp only [hz, Option.getD_some, intOf]
      have h0 := hcell 0 0 (Nat.lt_of_le_of_lt (Nat.zero_le _) h1) hm
      simp only [Nat.zero_mul, Nat.add_zero] at h0
      obtain ⟨z0, hz0, _⟩ := h0
      have hsp := World.cell?_spot hz0
      obtain ⟨ab, ao, asp⟩ := a
      have hsp : asp = none := by simpa [Addr.add] using hsp
      subst hsp
      rw [addr_add] at hz
      exact hz
    · simp only [VR]
      refine ⟨hi, some a, cap, rfl, hlc, hlc, ?_⟩
      by_cases h0 : cap = 0
      · exact .inr h0
      · left
        have hfst : ∃ z : Int, w.cell? (a.add (0 * m + 0)) = some (.int .i64 z) := by
          by_cases hl0 : 0 < len
          · obtain ⟨z, hz, _⟩ := hcell 0 0 hl0 hm
            exact ⟨z, hz⟩
          · obtain ⟨hrl, hr⟩ := hsp rfl
            have h1 := hr 0 (by omega)
            rw [List.getElem?_eq_getElem (by omega), show len + 0 = 0 by omega] at h1
            obtain ⟨z, hz, _⟩ := hone _ 0 h1 0 hm
            exact ⟨z, hz⟩
        obtain ⟨z0, hz0⟩ := hfst
        simp only [Nat.zero_mul, Nat.add_zero] at hz0
        have hsp := World.cell?_spot hz0
        obtain ⟨ab, ao, asp⟩ := a
        have hsp : asp = none := by simpa [Addr.add] using hsp
        subst hsp
        rw [hpl]
        exact ⟨rfl, by simp [N.val]⟩

/-- .. nil too. -/
theorem open_rowsN {n : Nat} {t e : TypeId} (m : Nat) {v : Value} {d : DataW H} {ps : List MemPlace} (ht : P.underlying t = some (.slice e)) (hl : leafs P n e = some (List.replicate m .i)) (hc : P.cellsOf e = m) (hm : 0 < m)
    (hval : Value.okWide P w .any 0 t v) (h : DataW.Trod enc P w 0 (fun _ => true) true t v d ps) :
    ∃ (f : Nat → Int) (len : Nat) (pl : Pl), (∀ i, i < len * m → -9223372036854775808 ≤ f i ∧ f i ≤ 9223372036854775807) ∧ len ≤ maxLen ∧ (∀ r, BR r w pl (.ext f (.s (len * m)))) ∧
      ∀ (r : Rho) (i : Nat), r.ok i → r.pl i = pl → VR r (.slice i (.c 0) (.s len) m (.s len)) v := by
  rcases open_rows ht hl hc hm hval h with rfl | ⟨f, len, pl, h1, h2, h3, h4⟩
  · refine ⟨fun _ => 0, 0, ⟨0, 0, 0⟩, fun i hi => by omega, Nat.zero_le _, fun r o ho => ?_, fun r i hi _ => ?_⟩
    · have ho : o < 0 * m := ho
      omega
    · simp only [VR]
      exact ⟨hi, none, 0, rfl, Nat.le_refl _, Nat.le_refl _, .inr rfl⟩
  · exact ⟨f, len, pl, h1, h2, fun r => h3, h4⟩

/-- .. whatever its elements' type is called. -/
theorem open_rowsE {n : Nat} {t : TypeId} (m : Nat) {v : Value} {d : DataW H} {ps : List MemPlace} (ht : (match P.underlying t with | some (.slice _) => true | _ => false) = true) (hl : leafs P n (P.elem t) = some (List.replicate m .i)) (hc : P.cellsOf (P.elem t) = m) (hm : 0 < m)
    (hval : Value.okWide P w .any 0 t v) (h : DataW.Trod enc P w 0 (fun _ => true) true t v d ps) :
    ∃ (f : Nat → Int) (len : Nat) (pl : Pl), (∀ i, i < len * m → -9223372036854775808 ≤ f i ∧ f i ≤ 9223372036854775807) ∧ len ≤ maxLen ∧ (∀ r, BR r w pl (.ext f (.s (len * m)))) ∧
      ∀ (r : Rho) (i : Nat), r.ok i → r.pl i = pl → VR r (.slice i (.c 0) (.s len) m (.s len)) v := by
  split at ht
  · rename_i e hu
    have he : P.elem t = e := by simp [Program.elem, hu]
    rw [he] at hl hc
    exact open_rowsN m hu hl hc hm hval h
  · simp at ht

theorem open_i {t : TypeId} {v : Value} {d : DataW H} {ps : List MemPlace} (ht : P.underlying t = some (.int .i64)) (hval : Value.okWide P w .any 0 t v) (h : DataW.Trod enc P w base spare held t v d ps) :
    ∃ n : Int, (-9223372036854775808 ≤ n ∧ n ≤ 9223372036854775807) ∧ ∀ r, VR r (.int .i64 (.s n)) v := by
  obtain ⟨n, rfl, _, _, hw⟩ := ChangeShapes.open_int ht hval h
  have := Go.range_i64 (zs := [n]) (by simpa using hw) 0
  exact ⟨n, by simpa using this, fun r => by simp only [VR, E.val]⟩
theorem open_b {t : TypeId} {v : Value} {d : DataW H} {ps : List MemPlace} (ht : P.underlying t = some .bool) (hval : Value.okWide P w .any 0 t v) (h : DataW.Trod enc P w base spare held t v d ps) :
    ∃ b : Bool, ∀ r, VR r (.bool (.s b)) v := by
  obtain ⟨fuel, hx⟩ := h
  obtain ⟨b, hb, _⟩ := DataW.trod_bool ht hx
  obtain ⟨b', rfl⟩ := Go.WideShapes.okWide_bool ht hval
  exact ⟨b', fun r => by simp only [VR, B.val]⟩
theorem open_s {t : TypeId} {v : Value} {d : DataW H} {ps : List MemPlace} (ht : P.underlying t = some .string) (hval : Value.okWide P w .any 0 t v) (h : DataW.Trod enc P w base spare held t v d ps) :
    ∃ s : ByteArray, s.size ≤ maxLen ∧ ∀ r, VR r (.str false s) v := by
  obtain ⟨fuel, hx⟩ := h
  obtain ⟨s, hs, _, hm⟩ := DataW.trod_string ht hx
  obtain ⟨s', rfl⟩ := Go.WideShapes.okWide_string ht hval
  simp only [Value.cells, List.cons.injEq, Value.string.injEq, and_true] at hs
  subst hs
  exact ⟨s', hm, fun r => by simp only [VR]⟩

end
end Go.Ideal
