/- Chapter 2: new arenas. Own text. -/
import Derived.Test.YtbcadmnkilckbaaL1
namespace Go.Ideal.A2
open Go.Proofs Go.Ideal Go.Ideal.L1
set_option linter.unusedSimpArgs false
set_option linter.unusedVariables false
set_option maxRecDepth 100000
set_option maxHeartbeats 4000000

/-- The first words. -/
def arena0 (k : Nat) : Int := if k = 16 then 4 else if 17 ≤ k ∧ k < 28 then 4 * ((k : Int) - 15) else 0
def initL : List Int := List.replicate 16 0 ++ [4, 8, 12, 16, 20, 24, 28, 32, 36, 40, 44, 48] ++ List.replicate 614 0
def listB (e : TypeId) : Blk := .own false e (fun _ => 0) 0 (initL.map (fun z => .int .i64 (.c z)) ++ [.bool (.c false)])
def newB (e : TypeId) : Blk := .own false e arena0 642 [.bool (.c false)]

theorem init_eq : ∀ k, k < 642 → arena0 k = initL.getD k 0 := by decide +kernel
theorem newB_wk (e : TypeId) : Wk (newB e) (listB e) := by
  have h : (listB e).flat = .own false e (fun k => initL.getD k 0) 642 [.bool (.c false)] := by kernel_rfl
  have w := Wk.flat (listB e)
  rw [h] at w
  exact (Wk.ownLe (by rfl) (.inr init_eq) (by simp only [V.lePs, V.leP, B.eqP]; trivial)).trans w

theorem CallOk.post {P : Program} {f : FuncId} {xs : List V} {H H1 H2 : Hp} {v : V} (h : CallOk P f xs (St H) v (St H1)) (hn : H2.n = H1.n) (hb : ∀ j b, H2.tr.get j = some b → ∃ B, H1.tr.get j = some B ∧ Wk b B) : CallOk P f xs (St H) v (St H2) := by
  intro r w ys hH hxs
  refine (h r w ys hH hxs).mono ?_
  rintro e w' ⟨y, r', he, hv, hf⟩
  refine ⟨y, r', he, hv, hf.ext, (Weak.fits (r' := r') (H' := H1) (w' := w') hn hb hf.hr).1, hf.kept, fun k hk ⟨i, b, hi, hw, hp⟩ => ?_⟩
  obtain ⟨B, hB, hw'⟩ := hb i b hi
  exact hf.mine k hk ⟨i, B, hB, hw'.wr hw, hp⟩

theorem new_of {f : FuncId} {e : TypeId} (h : runCall Try.prog below noL 3000 f [] (Hm [] 0) [] = some (.ptr 0 (.c 0), ⟨⟨Tr.nil.set 0 (some (listB e)), 1⟩, [], []⟩)) : CallOk Try.prog f [] (St (Hm [] 0)) (.ptr 0 (.c 0)) (St (Hm [some (newB e)] 1)) := by
  refine CallOk.post (path below_ok noL_ok mixed h trivial) rfl fun j b hj => ?_
  obtain ⟨_, hg⟩ := Tr.ofOpts_get _ _ _ _ hj
  match j with
  | 0 =>
    simp only [Nat.sub_zero, List.getElem?_cons_zero, Option.some.injEq] at hg
    subst hg
    exact ⟨_, by rw [Tr.get_set_same], newB_wk e⟩
  | j + 1 => simp at hg

def newCt (e : TypeId) : List V → Hp → Option Ct
  | [], _ => some ⟨[], [], .ptr 0 (.c 0), [some (newB e)], 1, []⟩
  | _, _ => none
theorem newCt_ok {f : FuncId} {e : TypeId} (h : CallOk Try.prog f [] (St (Hm [] 0)) (.ptr 0 (.c 0)) (St (Hm [some (newB e)] 1))) : SpecOk Try.prog (spG f (newCt e)) := spG_ok fun xs H c hc hq hb => by
  unfold newCt at hc
  split at hc
  · simp only [Option.some.injEq] at hc
    subst hc
    refine ⟨[], [], rfl, rfl, rfl, rfl, rfl, fun j b hj => by simp at hj, fun j b _ hj => by simp at hj, fun j b _ hj => ?_, fun r ys hy => hy, h⟩
    match j with
    | 0 => simp only [List.getElem?_cons_zero, Option.some.injEq] at hj; subst hj; rfl
    | j + 1 => simp at hj
  · simp at hc

theorem new1 : runCall Try.prog below noL 3000 54 [] (Hm [] 0) [] = some (.ptr 0 (.c 0), ⟨⟨Tr.nil.set 0 (some (listB 110)), 1⟩, [], []⟩) := by kernel_rfl
theorem new2 : runCall Try.prog below noL 3000 55 [] (Hm [] 0) [] = some (.ptr 0 (.c 0), ⟨⟨Tr.nil.set 0 (some (listB 117)), 1⟩, [], []⟩) := by kernel_rfl

def specs : Spec := orS L1.specs0 (orS (spG 54 (newCt 110)) (spG 55 (newCt 117)))
theorem specs_ok : SpecOk Try.prog specs := orS_ok L1.specs0_ok (orS_ok (newCt_ok (new_of new1)) (newCt_ok (new_of new2)))

end Go.Ideal.A2
