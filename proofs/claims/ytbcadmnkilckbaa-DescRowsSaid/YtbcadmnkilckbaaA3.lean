/- New arenas: the words as a function, the last access cell by cell. Own text. -/
import Derived.Test.YtbcadmnkilckbaaA2
namespace Go.Ideal.A2
open Go.Proofs Go.Ideal Go.Ideal.L1
set_option linter.unusedSimpArgs false
set_option linter.unusedVariables false
set_option maxRecDepth 100000
set_option maxHeartbeats 4000000

def newC (e : TypeId) : Blk := .own false e arena0 634 (List.replicate 8 (.int .i64 (.c 0)) ++ [.bool (.c false)])
theorem newC_wk (e : TypeId) : Wk (newC e) (newB e) := by
  refine (Wk.ownLe (g := arena0) (rest' := (List.range 8).map (fun i => V.int .i64 (.s (arena0 (634 + i)))) ++ [.bool (.c false)]) (by rfl) (.inr fun _ _ => rfl) ?_).trans (?_ : Wk (.own false e arena0 634 ((List.range 8).map (fun i => V.int .i64 (.s (arena0 (634 + i)))) ++ [.bool (.c false)])) (newB e))
  · simp only [List.replicate, List.range_succ, List.range_zero, List.nil_append, List.map_append, List.map_cons, List.map_nil, List.append_assoc, List.cons_append, V.lePs, V.leP, E.eqP, B.eqP, E.val, beq_self_eq_true, if_true, and_true]
    decide
  · have := Wk.unflat 8 false e arena0 642 [.bool (.c false)] (by decide)
    exact this
theorem newC_of {f : FuncId} {e : TypeId} (h : CallOk Try.prog f [] (St (Hm [] 0)) (.ptr 0 (.c 0)) (St (Hm [some (newB e)] 1))) : CallOk Try.prog f [] (St (Hm [] 0)) (.ptr 0 (.c 0)) (St (Hm [some (newC e)] 1)) := by
  refine CallOk.post h rfl fun j b hj => ?_
  obtain ⟨_, hg⟩ := Tr.ofOpts_get _ _ _ _ hj
  match j with
  | 0 =>
    simp only [Nat.sub_zero, List.getElem?_cons_zero, Option.some.injEq] at hg
    subst hg
    exact ⟨newB e, rfl, newC_wk e⟩
  | j + 1 => simp at hg
def newCCt (e : TypeId) : List V → Hp → Option Ct
  | [], _ => some ⟨[], [], .ptr 0 (.c 0), [some (newC e)], 1, []⟩
  | _, _ => none
theorem newCCt_ok {f : FuncId} {e : TypeId} (h : CallOk Try.prog f [] (St (Hm [] 0)) (.ptr 0 (.c 0)) (St (Hm [some (newC e)] 1))) : SpecOk Try.prog (spG f (newCCt e)) := spG_ok fun xs H c hc hq hb => by
  unfold newCCt at hc
  split at hc
  · simp only [Option.some.injEq] at hc
    subst hc
    refine ⟨[], [], rfl, rfl, rfl, rfl, rfl, fun j b hj => by simp at hj, fun j b _ hj => by simp at hj, fun j b _ hj => ?_, fun r ys hy => hy, h⟩
    match j with
    | 0 => simp only [List.getElem?_cons_zero, Option.some.injEq] at hj; subst hj; rfl
    | j + 1 => simp at hj
  · simp at hc
def specsC : Spec := orS L1.specs0 (orS (spG 54 (newCCt 110)) (spG 55 (newCCt 117)))
theorem specsC_ok : SpecOk Try.prog specsC := orS_ok L1.specs0_ok (orS_ok (newCCt_ok (newC_of (new_of new1))) (newCCt_ok (newC_of (new_of new2))))
end Go.Ideal.A2
