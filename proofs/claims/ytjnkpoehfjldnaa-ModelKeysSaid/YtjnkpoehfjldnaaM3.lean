/- Chapter 8: the contract of model.bank. Own text. -/
import Derived.Test.YtjnkpoehfjldnaaM2
import Derived.Test.YtjnkpoehfjldnaaR2
import Derived.Test.YtjnkpoehfjldnaaR7
namespace Go.Ideal.M2
open Go.Proofs Go.Ideal Go.Ideal.L1
set_option linter.unusedSimpArgs false
set_option linter.unusedVariables false
set_option maxRecDepth 100000
set_option maxHeartbeats 8000000

def mbCt : List V → Hp → Option Ct
  | [.ptr s (.c 0), .ptr b o], H => if Nat.beq s b then none else match H.tr.get s, H.tr.get b with
    | some (.own false e _ 0 cells), some B => if Nat.beq e 25 && Nat.beq cells.length 9 then intsK (cells.take 4) fun ms => boolsK (cells.drop 4) fun is => match ms, is, B.row with
      | [m0, m1, m2, m3], [i0, i1, i2, i3, i4], some (f, n) =>
        some ⟨[s, b], [0], ansV (mdCode m0 m1 m2 m3 (f (o.val + 0)) (f (o.val + 1)) (f (o.val + 2)) (f (o.val + 3))) (mdNum m0 m1 m2 m3 (f (o.val + 0)) (f (o.val + 1)) (f (o.val + 2)) (f (o.val + 3))),
          [some (.own false 25 (fun _ => 0) 0 (stL (mdNow m0 m1 m2 m3 (f (o.val + 0)) (f (o.val + 1)) (f (o.val + 2)) (f (o.val + 3)) 0) (mdNow m0 m1 m2 m3 (f (o.val + 0)) (f (o.val + 1)) (f (o.val + 2)) (f (o.val + 3)) 1) (mdNow m0 m1 m2 m3 (f (o.val + 0)) (f (o.val + 1)) (f (o.val + 2)) (f (o.val + 3)) 2) (mdNow m0 m1 m2 m3 (f (o.val + 0)) (f (o.val + 1)) (f (o.val + 2)) (f (o.val + 3)) 3) i0 i1 i2 i3 i4)), none], 2,
          [o.val + 4 ≤ n.val, mdOk (f (o.val + 0)) (f (o.val + 1)) (f (o.val + 2)) (f (o.val + 3)), stOk m0 m1 m2 m3]⟩
      | _, _, _ => none
      else none
    | _, _ => none
  | _, _ => none
def mbS : Spec := spG 37 mbCt
theorem stL_lePs {cells : List V} {m0 m1 m2 m3 : Int} {i0 i1 i2 i3 i4 : Bool} (hl : cells.length = 9) (hm : intsOf (cells.take 4) = [m0, m1, m2, m3]) (hi : boolsOf (cells.drop 4) = [i0, i1, i2, i3, i4]) : V.lePs (stL m0 m1 m2 m3 i0 i1 i2 i3 i4) cells := by
  have h1 := intsOf_lePs (cells.take 4) (by rw [hm, List.length_take]; simp; omega)
  have h2 := boolsOf_lePs (cells.drop 4) (by rw [hi, List.length_drop]; simp; omega)
  have := lePs_append _ _ _ _ h1 h2
  rw [List.take_append_drop, hm, hi] at this
  exact this
theorem mbS_ok : SpecOk Try.prog mbS := spG_ok fun xs H c hc hq hb => by
  unfold mbCt at hc
  split at hc
  · rename_i s b o
    split at hc
    · simp at hc
    · rename_i hsb
      have hbs : Nat.beq b s = false := by
        cases e : Nat.beq b s with
        | false => rfl
        | true => exact (hsb (by rw [Nat.eq_of_beq_eq_true e]; exact Nat.beq_refl s)).elim
      split at hc
      · rename_i e f0 cells B hS hB
        split at hc
        · rename_i hl
          simp only [Bool.and_eq_true] at hl
          have he := Nat.eq_of_beq_eq_true hl.1
          have hl9 := Nat.eq_of_beq_eq_true hl.2
          subst he
          rw [intsK_eq] at hc
          simp only [boolsK_eq] at hc
          split at hc
          · rename_i m0 m1 m2 m3 i0 i1 i2 i3 i4 f n hm hi hr
            simp only [Option.some.injEq] at hc
            subst hc
            have q1 : o.val + 4 ≤ n.val := hq _ (by simp)
            have q2 := hq (mdOk (f (o.val + 0)) (f (o.val + 1)) (f (o.val + 2)) (f (o.val + 3))) (by simp)
            have q3 := hq (stOk m0 m1 m2 m3) (by simp)
            have hle := stL_lePs hl9 hm hi
            have hpl0 : place [s, b] H.n 0 = s := rfl
            have hpl1 : place [s, b] H.n 1 = b := rfl
            refine ⟨[.ptr 0 (.c 0), .ptr 1 (.s o.val)], stBk m0 m1 m2 m3 i0 i1 i2 i3 i4 f n.val, by simp [nodupB, hbs], by simp [blt_of (hb _ _ hS), blt_of (hb _ _ hB)], rfl, rfl, rfl, ?_, ?_, ?_, ?_, callKeep noSpec_ok (mb1 m0 m1 m2 m3 i0 i1 i2 i3 i4 f n.val o.val _ _ _ _ rfl rfl rfl rfl q1 q2 q3)⟩
            · intro j b' hj
              match j with
              | 0 =>
                simp only [stBk, List.getElem?_cons_zero, Option.some.injEq] at hj; subst hj
                exact ⟨by simp, _, hS, Wk.ownLe rfl (.inl rfl) hle⟩
              | 1 =>
                simp only [stBk, List.getElem?_cons_succ, List.getElem?_cons_zero, Option.some.injEq] at hj; subst hj
                exact ⟨by simp, B, hB, Blk.row_s hr⟩
              | j + 2 => simp [stBk] at hj
            · intro j b' hj hj'
              match j with
              | 0 => simp at hj
              | 1 => simp only [stBk, List.getElem?_cons_succ, List.getElem?_cons_zero, Option.some.injEq] at hj'; subst hj'; rfl
              | j + 2 => simp [stBk] at hj'
            · intro j b' _ hj
              match j with
              | 0 => simp only [List.getElem?_cons_zero, Option.some.injEq] at hj; subst hj; rfl
              | 1 => simp at hj
              | j + 2 => simp at hj
            · intro r ys hy
              simp only [V.renL, V.ren, hpl0, hpl1]
              simpa only [VRs, VR, N.val] using hy
          · simp at hc
        · simp at hc
      · simp at hc
  · simp at hc
end Go.Ideal.M2
