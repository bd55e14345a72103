/- Contracts of functions that only read one block of numbers, or one value of numbers (what stands ahead of the numbers may be anything). Own text; nothing here is trusted. -/
import Derived.Test.YtbcadmnkilckbaaL0
namespace Go.Ideal
open Go.Proofs Go.Ideal.L1
set_option linter.unusedSimpArgs false
set_option linter.unusedVariables false

/-- d cells of anything, n numbers. -/
def cellsN (d n : Nat) (z : Nat → Int) : List V := List.replicate d .any ++ (List.range n).map (fun i => .int .i64 (.s (z i)))
def readB (e : TypeId) (d n : Nat) (z : Nat → Int) : List (Option Blk) := [some (.own true e (fun _ => 0) 0 (cellsN d n z))]

theorem V.lePs_cons {u v : V} {us vs : List V} (h : V.leP u v) (hs : V.lePs us vs) : V.lePs (u :: us) (v :: vs) := by
  cases us with
  | nil => cases vs with
    | nil => simp only [V.lePs]; exact h
    | cons v' vs => simp [V.lePs] at hs
  | cons u' us => cases vs with
    | nil => simp [V.lePs] at hs
    | cons v' vs => simp only [V.lePs] at hs ⊢; exact ⟨h, hs⟩
theorem intsOf_lePs : ∀ (vs : List V), (intsOf vs).length = vs.length → V.lePs ((intsOf vs).map fun z => V.int .i64 (.s z)) vs
  | [], _ => by simp [intsOf, V.lePs]
  | .int .i64 e :: vs, h => by
    simp only [intsOf, List.length_cons, Nat.add_right_cancel_iff, List.map_cons] at h ⊢
    exact V.lePs_cons (by cases e <;> simp [V.leP, E.eqP, E.val]) (intsOf_lePs vs h)
  | v :: vs, h => by
    unfold intsOf at h ⊢
    split
    · rename_i e vs' heq
      simp only [List.cons.injEq] at heq
      obtain ⟨rfl, rfl⟩ := heq
      simp only [List.length_cons, Nat.add_right_cancel_iff, List.map_cons] at h ⊢
      exact V.lePs_cons (by cases e <;> simp [V.leP, E.eqP, E.val]) (intsOf_lePs vs h)
    · rename_i hne
      simp [hne] at h
theorem anys_lePs (us : List V) : ∀ (d : Nat) (vs : List V), d ≤ vs.length → V.lePs us (vs.drop d) → V.lePs (List.replicate d .any ++ us) vs
  | 0, vs, _, h => by simpa using h
  | d + 1, [], hd, _ => by simp at hd
  | d + 1, v :: vs, hd, h => by
    simp only [List.replicate_succ, List.cons_append]
    exact V.lePs_cons (by simp [V.leP]) (anys_lePs us d vs (by simpa using hd) (by simpa using h))
theorem range_getD (zs : List Int) {n : Nat} (h : zs.length = n) : (List.range n).map (fun i => zs.getD i 0) = zs := by
  apply List.ext_getElem
  · simp [h]
  · intro i h1 h2
    simp [List.getD_eq_getElem?_getD, h2]
theorem cellsN_lePs {vs : List V} {d n : Nat} (hd : vs.length = d + n) (hn : (intsOf (vs.drop d)).length = n) : V.lePs (cellsN d n fun i => (intsOf (vs.drop d)).getD i 0) vs := by
  unfold cellsN
  have e : (List.range n).map (fun i => V.int .i64 (.s ((intsOf (vs.drop d)).getD i 0))) = (intsOf (vs.drop d)).map fun z => V.int .i64 (.s z) := by
    have := congrArg (List.map fun z => V.int .i64 (.s z)) (range_getD (intsOf (vs.drop d)) hn)
    rw [← this, List.map_map]; rfl
  rw [e]
  exact anys_lePs _ d vs (by omega) (intsOf_lePs _ (by rw [hn, List.length_drop]; omega))
theorem cellsN_ren (σ : Nat → Nat) (d n : Nat) (z : Nat → Int) : V.renL σ (cellsN d n z) = cellsN d n z := by
  rw [renL_eq]
  unfold cellsN
  rw [List.map_append, List.map_replicate, List.map_map]
  rfl
def bvalOf : V → Bool
  | .bool b => b.val
  | _ => false
def isBoolV : V → Bool
  | .bool _ => true
  | _ => false
/-- d bools, n numbers. -/
def cellsK (d : Nat) (k : Nat → Bool) (n : Nat) (z : Nat → Int) : List V := (List.range d).map (fun i => .bool (.s (k i))) ++ (List.range n).map (fun i => .int .i64 (.s (z i)))
theorem cellsK_plain (d n : Nat) (k : Nat → Bool) (z : Nat → Int) : V.plainL (cellsK d k n z) = true := by
  have h : ∀ us : List V, (∀ u ∈ us, u.plain = true) → V.plainL us = true := by
    intro us
    induction us with
    | nil => intro _; simp [V.plainL]
    | cons u us ih => intro h; simp [V.plainL, h u (by simp), ih (fun v hv => h v (by simp [hv]))]
  refine h _ fun u hu => ?_
  unfold cellsK at hu
  rcases List.mem_append.1 hu with h1 | h1
  · obtain ⟨i, _, rfl⟩ := List.mem_map.1 h1; rfl
  · obtain ⟨i, _, rfl⟩ := List.mem_map.1 h1; rfl
theorem lePs_append : ∀ (us vs us' vs' : List V), V.lePs us vs → V.lePs us' vs' → V.lePs (us ++ us') (vs ++ vs')
  | [], vs, us', vs', h, h' => by cases vs <;> simp [V.lePs] at h; exact h'
  | u :: us, [], us', vs', h, h' => by simp [V.lePs] at h
  | u :: us, v :: vs, us', vs', h, h' => by
    have h2 : V.leP u v ∧ V.lePs us vs := by
      cases us with
      | nil => cases vs with
        | nil => simp only [V.lePs] at h; exact ⟨h, by simp [V.lePs]⟩
        | cons v' vs => simp [V.lePs] at h
      | cons u' us => cases vs with
        | nil => simp [V.lePs] at h
        | cons v' vs => simp only [V.lePs] at h ⊢; exact h
    exact V.lePs_cons h2.1 (lePs_append us vs us' vs' h2.2 h')
theorem bools_lePs : ∀ (vs : List V), vs.all isBoolV = true → V.lePs (vs.map fun v => V.bool (.s (bvalOf v))) vs
  | [], _ => by simp [V.lePs]
  | v :: vs, h => by
    simp only [List.all_cons, Bool.and_eq_true] at h
    simp only [List.map_cons]
    refine V.lePs_cons ?_ (bools_lePs vs h.2)
    cases v <;> simp [isBoolV] at h
    rename_i b
    cases b <;> simp [V.leP, B.eqP, B.val, bvalOf]
theorem cellsK_lePs {vs : List V} {d n : Nat} (hd : vs.length = d + n) (hb : (vs.take d).all isBoolV = true) (hn : (intsOf (vs.drop d)).length = n) : V.lePs (cellsK d (fun i => bvalOf (vs.getD i .any)) n fun i => (intsOf (vs.drop d)).getD i 0) vs := by
  unfold cellsK
  have e : (List.range n).map (fun i => V.int .i64 (.s ((intsOf (vs.drop d)).getD i 0))) = (intsOf (vs.drop d)).map fun z => V.int .i64 (.s z) := by
    have := congrArg (List.map fun z => V.int .i64 (.s z)) (range_getD (intsOf (vs.drop d)) hn)
    rw [← this, List.map_map]; rfl
  have e2 : (List.range d).map (fun i => V.bool (.s (bvalOf (vs.getD i .any)))) = (vs.take d).map fun v => V.bool (.s (bvalOf v)) := by
    apply List.ext_getElem
    · simp; omega
    · intro i h1 h2
      simp only [List.length_map, List.length_take] at h2
      have : i < vs.length := by omega
      simp [List.getD_eq_getElem?_getD, this]
  rw [e, e2]
  have := lePs_append _ _ _ _ (bools_lePs _ hb) (intsOf_lePs (vs.drop d) (by rw [hn, List.length_drop]; omega))
  rwa [List.take_append_drop] at this

section
variable {P : Program}

def readCt (d n : Nat) (ans : List Int → V) : List V → Hp → Option Ct
  | [.ptr b (.c 0)], H => match H.tr.get b with
    | some (.own _ _ _ 0 rest) => if Nat.beq rest.length (d + n) then intsK (rest.drop d) fun zs => if Nat.beq zs.length n then some ⟨[b], [], ans zs, [none], 1, []⟩ else none else none
    | _ => none
  | _, _ => none
def readS (f : FuncId) (d n : Nat) (ans : List Int → V) : Spec := spG f (readCt d n ans)
theorem readS_ok {f : FuncId} {d n : Nat} {ans : List Int → V} (h : ∀ (e : TypeId) (z : Nat → Int), CallOk P f [.ptr 0 (.c 0)] (St (Hm (readB e d n z) 1)) (ans ((List.range n).map z)) (St (Hm [none] 1))) : SpecOk P (readS f d n ans) := spG_ok fun xs H c hc hq hb => by
  unfold readCt at hc
  split at hc
  · rename_i b0
    split at hc
    · rename_i ro e f0 rest hB
      split at hc
      · rename_i hl
        have hl := Nat.eq_of_beq_eq_true hl
        rw [intsK_eq] at hc
        split at hc
        · rename_i hn
          have hn := Nat.eq_of_beq_eq_true hn
          simp only [Option.some.injEq] at hc
          subst hc
          have hle := cellsN_lePs hl hn
          have hz := range_getD _ hn
          have hpl0 : place [b0] H.n 0 = b0 := rfl
          refine ⟨[.ptr 0 (.c 0)], readB e d n (fun i => (intsOf (rest.drop d)).getD i 0), by simp [nodupB], by simp [blt_of (hb _ _ hB)], rfl, rfl, rfl, ?_, ?_, ?_, ?_, ?_⟩
          · intro j b hj
            match j with
            | 0 =>
              simp only [readB, List.getElem?_cons_zero, Option.some.injEq] at hj; subst hj
              refine ⟨by simp, _, hB, ?_⟩
              simp only [Blk.ren, cellsN_ren]
              exact Wk.ownLe (by cases ro <;> rfl) (.inl rfl) hle
            | j + 1 => simp [readB] at hj
          · intro j b _ hj
            match j with
            | 0 => simp only [readB, List.getElem?_cons_zero, Option.some.injEq] at hj; subst hj; rfl
            | j + 1 => simp [readB] at hj
          · intro j b _ hj
            match j with
            | 0 => simp at hj
            | j + 1 => simp at hj
          · intro r ys hy
            simpa only [V.renL, V.ren, hpl0, VRs, VR, N.val] using hy
          · have := h e (fun i => (intsOf (rest.drop d)).getD i 0)
            rw [hz] at this
            exact this
        · simp at hc
      · simp at hc
    · simp at hc
  · simp at hc

/-- .. of one value of numbers. -/
def aggG (d n : Nat) (ans : List Int → V) : List V → Option V
  | [.agg vs] => if Nat.beq vs.length (d + n) && (V.plainL vs && (vs.take d).all isBoolV) then intsK (vs.drop d) fun zs => if Nat.beq zs.length n then some (ans zs) else none else none
  | _ => none
def aggS (f : FuncId) (d n : Nat) (ans : List Int → V) : Spec := spU f (aggG d n ans)
theorem aggS_ok {f : FuncId} {d n : Nat} {ans : List Int → V} (hp : ∀ zs, (ans zs).plain = true) (h : ∀ (k : Nat → Bool) (z : Nat → Int), CallOk P f [.agg (cellsK d k n z)] (St H0) (ans ((List.range n).map z)) (St H0)) : SpecOk P (aggS f d n ans) := spU_ok fun xs v hg => by
  unfold aggG at hg
  split at hg
  · rename_i vs
    split at hg
    · rename_i hl
      simp only [Bool.and_eq_true] at hl
      have hl1 := Nat.eq_of_beq_eq_true hl.1
      rw [intsK_eq] at hg
      split at hg
      · rename_i hn
        have hn := Nat.eq_of_beq_eq_true hn
        simp only [Option.some.injEq] at hg
        subst hg
        refine ⟨by simp [V.plainL, V.plain, hl.2.1], hp _, ?_⟩
        have := h (fun i => bvalOf (vs.getD i .any)) (fun i => (intsOf (vs.drop d)).getD i 0)
        rw [range_getD _ hn] at this
        have hpl : V.plainL [.agg (cellsK d (fun i => bvalOf (vs.getD i .any)) n fun i => (intsOf (vs.drop d)).getD i 0)] = true := by
          simp [V.plainL, V.plain, cellsK_plain]
        refine CallOk.anyHp this hpl (hp _) (fun r ys hy => ?_) (fun r y hy => hy) H0 [] [] [] []
        simp only [VRs, VR] at hy ⊢
        obtain ⟨y, zs, e, ⟨z, e1, h1⟩, h2⟩ := hy
        exact ⟨y, zs, e, ⟨z, e1, V.lePs_ok _ _ _ (cellsK_lePs hl1 hl.2.2 hn) h1⟩, h2⟩
      · simp at hg
    · simp at hg
  · simp at hg
end
end Go.Ideal
