/- Contracts of functions that read the last numbers of one block, behind some of anything. Own text; nothing here is trusted. -/
import Derived.Test.YtpmgdkldhimofaaR1
namespace Go.Ideal
open Go.Proofs Go.Ideal.L1
set_option linter.unusedSimpArgs false
set_option linter.unusedVariables false
section
variable {P : Program}

def readCtO (d n : Nat) (ans : List Int → V) : List V → Hp → Option Ct
  | [.ptr b (.c o)], H => if Nat.beq o d then match H.tr.get b with
    | some (.own _ _ _ 0 rest) => if Nat.beq rest.length (d + n) then intsK (rest.drop d) fun zs => if Nat.beq zs.length n then some ⟨[b], [], ans zs, [none], 1, []⟩ else none else none
    | _ => none
    else none
  | _, _ => none
def readSO (f : FuncId) (d n : Nat) (ans : List Int → V) : Spec := spG f (readCtO d n ans)
theorem readSO_ok {f : FuncId} {d n : Nat} {ans : List Int → V} (h : ∀ (e : TypeId) (z : Nat → Int), CallOk P f [.ptr 0 (.c d)] (St (Hm (readB e d n z) 1)) (ans ((List.range n).map z)) (St (Hm [none] 1))) : SpecOk P (readSO f d n ans) := spG_ok fun xs H c hc hq hb => by
  unfold readCtO at hc
  split at hc
  · rename_i b0 o
    split at hc
    · rename_i ho
      have ho := Nat.eq_of_beq_eq_true ho
      subst ho
      split at hc
      · rename_i ro e f0 rest hB
        split at hc
        · rename_i hl
          have hl := Nat.eq_of_beq_eq_true hl
          rw [intsK_eq] at hc
          split at hc
          · rename_i hn
            have hn := Nat.eq_of_beq_eq_true hn
            simp only [Option.some.injEq] at hc
            subst hc
            have hle := cellsN_lePs hl hn
            have hz := range_getD _ hn
            have hpl0 : place [b0] H.n 0 = b0 := rfl
            refine ⟨[.ptr 0 (.c o)], readB e o n (fun i => (intsOf (rest.drop o)).getD i 0), by simp [nodupB], by simp [blt_of (hb _ _ hB)], rfl, rfl, rfl, ?_, ?_, ?_, ?_, ?_⟩
            · intro j b hj
              match j with
              | 0 =>
                simp only [readB, List.getElem?_cons_zero, Option.some.injEq] at hj; subst hj
                refine ⟨by simp, _, hB, ?_⟩
                simp only [Blk.ren, cellsN_ren]
                exact Wk.ownLe (by cases ro <;> rfl) (.inl rfl) hle
              | j + 1 => simp [readB] at hj
            · intro j b _ hj
              match j with
              | 0 => simp only [readB, List.getElem?_cons_zero, Option.some.injEq] at hj; subst hj; rfl
              | j + 1 => simp [readB] at hj
            · intro j b _ hj
              match j with
              | 0 => simp at hj
              | j + 1 => simp at hj
            · intro r ys hy
              simpa only [V.renL, V.ren, hpl0, VRs, VR, N.val] using hy
            · have := h e (fun i => (intsOf (rest.drop o)).getD i 0)
              rw [hz] at this
              exact this
          · simp at hc
        · simp at hc
      · simp at hc
    · simp at hc
  · simp at hc
end
end Go.Ideal
