/- Chapter 8: the contract of model.Do with one operation or two. Own text. -/
import Derived.Test.YtjnkpoehfjldnaaR8
import Derived.Test.YtjnkpoehfjldnaaN3
import Derived.Test.YtjnkpoehfjldnaaN4
namespace Go.Ideal.M2
open Go.Proofs Go.Ideal Go.Ideal.L1
set_option linter.unusedSimpArgs false
set_option linter.unusedVariables false
set_option maxRecDepth 100000
set_option maxHeartbeats 8000000

def badCt (b : Nat) (q : Prop) : Ct := ⟨[b], [], noV, [none], 1, [q]⟩
def oneCt (b : Nat) (q : Prop) (st : List V) (c n : Int) : Ct := ⟨[b], [], .tuple [.agg st, .slice 1 (.c 0) (.c 1) 2 (.c 1), .int .i64 (.c 0)], [none, some (asB c n)], 2, [q]⟩
def twoCt (b : Nat) (q : Prop) (st : List V) (c n d m : Int) : Ct := ⟨[b], [], .tuple [.agg st, .slice 1 (.c 0) (.c 2) 2 (.c 2), .int .i64 (.c 0)], [none, some (as2B c n d m)], 2, [q]⟩
def do1Sh (m0 m1 m2 m3 : Int) (i0 i1 i2 i3 i4 : Bool) (b : Nat) (q : Prop) (k a b' x : Int) : List (Bool × Ct) × Ct :=
  ([(stB m0 m1 m2 m3 && OM.opMay k a b' x, oneCt b q (dL m0 m1 m2 m3 i0 i1 i2 i3 i4 k a b' x) (dCode m0 m1 m2 m3 i0 i1 i2 i3 i4 k a b' x) (dNum m0 m1 m2 m3 i0 i1 i2 i3 i4 k a b' x))], badCt b q)
def do2Sh (m0 m1 m2 m3 : Int) (i0 i1 i2 i3 i4 : Bool) (b : Nat) (q : Prop) (k a b' x l c d y : Int) : List (Bool × Ct) × Ct :=
  ([(!(stB m0 m1 m2 m3 && OM.opMay k a b' x && OM.opMay l c d y), badCt b q),
    (dCode m0 m1 m2 m3 i0 i1 i2 i3 i4 k a b' x == 0, twoCt b q (eL m0 m1 m2 m3 i0 i1 i2 i3 i4 k a b' x l c d y) (dCode m0 m1 m2 m3 i0 i1 i2 i3 i4 k a b' x) (dNum m0 m1 m2 m3 i0 i1 i2 i3 i4 k a b' x) (eCode m0 m1 m2 m3 i0 i1 i2 i3 i4 k a b' x l c d y) (eNum m0 m1 m2 m3 i0 i1 i2 i3 i4 k a b' x l c d y))],
   oneCt b q (stL m0 m1 m2 m3 i0 i1 i2 i3 i4) (dCode m0 m1 m2 m3 i0 i1 i2 i3 i4 k a b' x) (dNum m0 m1 m2 m3 i0 i1 i2 i3 i4 k a b' x))
def doCt : List V → Hp → Option (List (Bool × Ct) × Ct)
  | [.agg cells, .slice b o len 4 m], H => if Nat.beq cells.length 9 then intsK (cells.take 4) fun ms => boolsK (cells.drop 4) fun is => match ms, is, H.tr.get b with
    | [m0, m1, m2, m3], [i0, i1, i2, i3, i4], some B => match B.row with
      | some (f, n) => match len with
        | .c 1 => some (do1Sh m0 m1 m2 m3 i0 i1 i2 i3 i4 b (o.val + 4 ≤ n.val) (f (o.val + 0)) (f (o.val + 1)) (f (o.val + 2)) (f (o.val + 3)))
        | .c 2 => some (do2Sh m0 m1 m2 m3 i0 i1 i2 i3 i4 b (o.val + 8 ≤ n.val) (f (o.val + 0)) (f (o.val + 1)) (f (o.val + 2)) (f (o.val + 3)) (f (o.val + 4)) (f (o.val + 5)) (f (o.val + 6)) (f (o.val + 7)))
        | _ => none
      | none => none
    | _, _, _ => none
    else none
  | _, _ => none
def doM : Spec := spN 14 doCt

theorem row_key {cells : List V} {b0 : Nat} {o : N} {len : N} {m : N} {H : Hp} {B : Blk} {f : Nat → Int} {n : N} {m0 m1 m2 m3 : Int} {i0 i1 i2 i3 i4 : Bool} {v : V} {bs : List (Option Blk)} {n2 : Nat} {qs : List Prop}
    (hb : ∀ i B, H.tr.get i = some B → i < H.n) (hB : H.tr.get b0 = some B) (hr : B.row = some (f, n)) (hl9 : cells.length = 9) (hm : intsOf (cells.take 4) = [m0, m1, m2, m3]) (hi : boolsOf (cells.drop 4) = [i0, i1, i2, i3, i4])
    (hn : 1 ≤ n2) (hbs : bs.length ≤ n2) (hw : ∀ (j : Nat) (b : Blk), bs[j]? = some (some b) → b.writable = true)
    (hcall : CallOk Try.prog 14 [.agg (stL m0 m1 m2 m3 i0 i1 i2 i3 i4), .slice 0 (.s o.val) len 4 (.s m.val)] (St (Hm (rowBk f n.val) 1)) v (St (Hm bs n2))) :
    ∃ xs0 bs0, CtOk Try.prog 14 [.agg cells, .slice b0 o len 4 m] H ⟨[b0], [], v, bs, n2, qs⟩ xs0 bs0 := by
  have hle := stL_lePs hl9 hm hi
  have hpl0 : place [b0] H.n 0 = b0 := rfl
  refine ⟨[.agg (stL m0 m1 m2 m3 i0 i1 i2 i3 i4), .slice 0 (.s o.val) len 4 (.s m.val)], rowBk f n.val, by simp [nodupB], by simp [blt_of (hb _ _ hB)], rfl, Nat.ble_eq_true_of_le hn, Nat.ble_eq_true_of_le hbs, ?_, ?_, ?_, ?_, hcall⟩
  · intro j b' hj
    match j with
    | 0 =>
      simp only [rowBk, List.getElem?_cons_zero, Option.some.injEq] at hj; subst hj
      exact ⟨by simp, B, hB, Blk.row_s hr⟩
    | j + 1 => simp [rowBk] at hj
  · intro j b' hj hj'
    match j with
    | 0 => simp only [rowBk, List.getElem?_cons_zero, Option.some.injEq] at hj'; subst hj'; rfl
    | j + 1 => simp [rowBk] at hj'
  · intro j b' _ hj
    exact hw j b' hj
  · intro r ys hy
    have hren : ∀ σ, V.renL σ (stL m0 m1 m2 m3 i0 i1 i2 i3 i4) = stL m0 m1 m2 m3 i0 i1 i2 i3 i4 := fun σ => rfl
    simp only [V.renL, V.ren, hren, hpl0]
    simp only [VRs, VR] at hy ⊢
    obtain ⟨z, zs, e, ⟨cs, e1, h1⟩, h2⟩ := hy
    refine ⟨z, zs, e, ⟨cs, e1, V.lePs_ok _ _ _ hle h1⟩, ?_⟩
    simpa only [N.val] using h2
theorem new1 {B : Blk} (h : B.writable = true) : ∀ (j : Nat) (b : Blk), [none, some B][j]? = some (some b) → b.writable = true := fun j b hj => by
  match j with
  | 0 => simp at hj
  | 1 => simp only [List.getElem?_cons_succ, List.getElem?_cons_zero, Option.some.injEq] at hj; subst hj; exact h
  | j + 2 => simp at hj
theorem new0 : ∀ (j : Nat) (b : Blk), ([none] : List (Option Blk))[j]? = some (some b) → b.writable = true := fun j b hj => by
  match j with
  | 0 => simp at hj
  | j + 1 => simp at hj
theorem doM_ok : SpecOk Try.prog doM := spN_ok fun xs H cl z hc hb => by
  unfold doCt at hc
  split at hc
  · rename_i cells b o len m
    split at hc
    · rename_i hl
      have hl9 := Nat.eq_of_beq_eq_true hl
      rw [intsK_eq] at hc
      simp only [boolsK_eq] at hc
      split at hc
      · rename_i m0 m1 m2 m3 i0 i1 i2 i3 i4 B hm hi hB
        split at hc
        · rename_i f n hr
          split at hc
          · simp only [Option.some.injEq, Prod.mk.injEq, do1Sh] at hc
            obtain ⟨rfl, rfl⟩ := hc
            refine ⟨fun hq hcs => ?_, fun hq hcs => ?_⟩
            · have q1 : o.val + 4 ≤ n.val := hcs _ (by simp [oneCt])
              exact row_key hb hB hr hl9 hm hi (by omega) (by simp) (new1 rfl) (callKeepL lastOf doS_ok (do1fine m0 m1 m2 m3 i0 i1 i2 i3 i4 f n.val o.val m.val _ _ _ _ rfl rfl rfl rfl q1 hq))
            · have q1 : o.val + 4 ≤ n.val := hcs _ (by simp [badCt])
              exact row_key hb hB hr hl9 hm hi (by omega) (by simp) new0 (callKeep doS_ok (do1bad m0 m1 m2 m3 i0 i1 i2 i3 i4 f n.val o.val m.val _ _ _ _ rfl rfl rfl rfl q1 hq))
          · simp only [Option.some.injEq, Prod.mk.injEq, do2Sh] at hc
            obtain ⟨rfl, rfl⟩ := hc
            refine ⟨fun hq hcs => ?_, fun hq => ⟨fun hq' hcs => ?_, fun hq' hcs => ?_⟩⟩
            · have q1 : o.val + 8 ≤ n.val := hcs _ (by simp [badCt])
              exact row_key hb hB hr hl9 hm hi (by omega) (by simp) new0 (callKeep doS_ok (do2bad m0 m1 m2 m3 i0 i1 i2 i3 i4 f n.val o.val m.val _ _ _ _ _ _ _ _ rfl rfl rfl rfl rfl rfl rfl rfl q1 ((Bool.not_eq_true' _).mp hq)))
            · have q1 : o.val + 8 ≤ n.val := hcs _ (by simp [twoCt])
              exact row_key hb hB hr hl9 hm hi (by omega) (by simp) (new1 rfl) (callKeepL lastOf doS_ok (do2fine m0 m1 m2 m3 i0 i1 i2 i3 i4 f n.val o.val m.val _ _ _ _ _ _ _ _ rfl rfl rfl rfl rfl rfl rfl rfl q1 ((Bool.not_eq_false' ..).mp hq) (by simpa using hq')))
            · have q1 : o.val + 8 ≤ n.val := hcs _ (by simp [oneCt])
              exact row_key hb hB hr hl9 hm hi (by omega) (by simp) (new1 rfl) (callKeepL lastOf doS_ok (do2one m0 m1 m2 m3 i0 i1 i2 i3 i4 f n.val o.val m.val _ _ _ _ _ _ _ _ rfl rfl rfl rfl rfl rfl rfl rfl q1 ((Bool.not_eq_false' ..).mp hq) (by simpa using hq')))
          · simp at hc
        · simp at hc
      · simp at hc
    · simp at hc
  · simp at hc
end Go.Ideal.M2
