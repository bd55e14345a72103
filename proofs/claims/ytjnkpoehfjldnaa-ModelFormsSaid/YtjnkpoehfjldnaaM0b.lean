/- Chapter 8: one operation upon the state of nothing: the contract. Own text. -/
import Derived.Test.YtjnkpoehfjldnaaM0
namespace Go.Ideal.M1
open Go.Proofs Go.Ideal Go.Ideal.L1
set_option linter.unusedSimpArgs false
set_option linter.unusedVariables false
set_option maxRecDepth 100000
set_option maxHeartbeats 4000000

def isNew : List V → Bool
  | [.int .i64 (.c (.negSucc 0)), .int .i64 (.c (.negSucc 0)), .int .i64 (.c (.negSucc 0)), .int .i64 (.c (.negSucc 0)), .bool (.c false), .bool (.c false), .bool (.c false), .bool (.c false), .bool (.c false)] => true
  | _ => false
theorem isNew_eq {vs : List V} (h : isNew vs = true) : vs = newL := by
  unfold isNew at h
  split at h
  · rfl
  · simp at h
def newDoCt : List V → Hp → Option (Bool × Ct × Ct)
  | [.agg vs, .slice b (.c 0) (.c 1) 4 _], H => if isNew vs then match H.tr.get b with
    | some (.own _ _ _ 0 rest) => if Nat.beq rest.length 4 then intsK rest fun zs => match zs with
      | [k, a, b', x] => some (OM.opMayL [k, a, b', x], ⟨[b], [], fineV k a x, [none, none], 2, []⟩, ⟨[b], [], badV, [none], 1, []⟩)
      | _ => none
      else none
    | _ => none
    else none
  | _, _ => none
def newDo : Spec := spA 14 newDoCt
theorem newDo_ok : SpecOk Try.prog newDo := spA_ok fun xs H b c1 c2 hc hb => by
  unfold newDoCt at hc
  split at hc
  · rename_i vs b0 m
    split at hc
    · rename_i hnew
      have hnew := isNew_eq hnew
      subst hnew
      split at hc
      · rename_i ro e f0 rest hB
        split at hc
        · rename_i hl
          have hl := Nat.eq_of_beq_eq_true hl
          rw [intsK_eq] at hc
          split at hc
          · rename_i k a b' x hz
            simp only [Option.some.injEq, Prod.mk.injEq] at hc
            obtain ⟨rfl, rfl, rfl⟩ := hc
            have hle : V.lePs [V.int .i64 (.s k), .int .i64 (.s a), .int .i64 (.s b'), .int .i64 (.s x)] rest := by
              have := intsOf_lePs rest (by rw [hz, hl]; rfl)
              rwa [hz] at this
            have hpl0 : place [b0] H.n 0 = b0 := rfl
            have key : ∀ (v : V) (bs : List (Option Blk)) (n2 : Nat) (hn : 1 ≤ n2) (hbs : bs.length ≤ n2) (hno : ∀ (j : Nat) (b : Blk), bs[j]? = some (some b) → False), CallOk Try.prog 14 [.agg newL, .slice 0 (.c 0) (.c 1) 4 (.s m.val)] (St (Hm (opBk e k a b' x) 1)) v (St (Hm bs n2)) →
                ∃ xs0 bs0, CtOk Try.prog 14 [.agg newL, .slice b0 (.c 0) (.c 1) 4 m] H ⟨[b0], [], v, bs, n2, []⟩ xs0 bs0 := fun v bs n2 hn hbs hno hcall => by
              refine ⟨[.agg newL, .slice 0 (.c 0) (.c 1) 4 (.s m.val)], opBk e k a b' x, by simp [nodupB], by simp [blt_of (hb _ _ hB)], rfl, Nat.ble_eq_true_of_le hn, Nat.ble_eq_true_of_le hbs, ?_, ?_, ?_, ?_, hcall⟩
              · intro j b hj
                match j with
                | 0 =>
                  simp only [opBk, List.getElem?_cons_zero, Option.some.injEq] at hj; subst hj
                  refine ⟨by simp, _, hB, ?_⟩
                  exact Wk.ownLe (by cases ro <;> rfl) (.inl rfl) hle
                | j + 1 => simp [opBk] at hj
              · intro j b _ hj
                match j with
                | 0 => simp only [opBk, List.getElem?_cons_zero, Option.some.injEq] at hj; subst hj; rfl
                | j + 1 => simp [opBk] at hj
              · intro j b _ hj
                exact (hno j b hj).elim
              · intro r ys hy
                have hren : ∀ σ, V.renL σ newL = newL := fun σ => rfl
                simp only [V.renL, V.ren, hren, hpl0]
                simpa only [VRs, VR, N.val] using hy
            refine ⟨fun hm hq => ?_, fun hm hq => ?_⟩
            · exact key _ _ _ (by omega) (by simp) (fun j b hj => by
                match j with
                | 0 => simp at hj
                | 1 => simp at hj
                | j + 2 => simp at hj) (callKeepL (n2 := 2) midBlk OM.opS_ok (new_fine e m.val k a b' x hm))
            · exact key _ _ _ (by omega) (by simp) (fun j b hj => by
                match j with
                | 0 => simp at hj
                | j + 1 => simp at hj) (callKeepL (n2 := 1) midBlk OM.opS_ok (new_bad e m.val k a b' x hm))
          · simp at hc
        · simp at hc
      · simp at hc
    · simp at hc
  · simp at hc
end Go.Ideal.M1
