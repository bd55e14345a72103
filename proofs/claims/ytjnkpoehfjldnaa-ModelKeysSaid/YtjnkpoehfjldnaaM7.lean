/- Chapter 8: what model.skip computes, put together. Own text. -/
import Derived.Test.YtjnkpoehfjldnaaM5
import Derived.Test.YtjnkpoehfjldnaaM6
namespace Go.Ideal.M2
open Go.Proofs Go.Ideal Go.Ideal.L1
set_option linter.unusedSimpArgs false
set_option linter.unusedVariables false
set_option maxRecDepth 100000
set_option maxHeartbeats 8000000

theorem roundK_norm {n2 : Nat} {l : List Nat} {ts tx : List (Nat × V)} {bs bx : List (Option Blk)} {c fin : Prop} {id : Nat} {x : Out × Tr V} {H : Hp} (h : roundK n2 l ts bs c id [] [] False x H) : roundK n2 l ts bs c id tx bx fin x H := by
  obtain ⟨o, T⟩ := x
  cases o with
  | norm => exact h
  | exit k =>
    simp only [roundK] at h
    split at h
    · exact h.2.elim
    · exact h.elim
  | ret => exact h.elim
theorem roundK_exit {n2 : Nat} {l : List Nat} {ts tx : List (Nat × V)} {bs bx : List (Option Blk)} {c fin : Prop} {id : Nat} {x : Out × Tr V} {H : Hp} (h : roundK n2 l [] [] False id tx bx fin x H) : roundK n2 l ts bs c id tx bx fin x H := by
  obtain ⟨o, T⟩ := x
  cases o with
  | norm => exact h.2.elim
  | exit k => exact h
  | ret => exact h.elim

def kBits (i0 i1 i2 i3 i4 : Bool) (a b : Int) : Nat → Int
  | 0 => 0
  | 1 => kyBits i0 a b 0 0 1
  | 2 => kyBits i1 a b (kyBits i0 a b 0 0 1) 1 2
  | 3 => kyBits i2 a b (kyBits i1 a b (kyBits i0 a b 0 0 1) 1 2) 2 4
  | 4 => kyBits i3 a b (kyBits i2 a b (kyBits i1 a b (kyBits i0 a b 0 0 1) 1 2) 2 4) 3 8
  | _ => kyBits i4 a b (kyBits i3 a b (kyBits i2 a b (kyBits i1 a b (kyBits i0 a b 0 0 1) 1 2) 2 4) 3 8) 4 16
def kLeast (i0 i1 i2 i3 i4 : Bool) : Nat → Int
  | 0 => -1
  | 1 => kyLeast i0 (-1) 0
  | 2 => kyLeast i1 (kyLeast i0 (-1) 0) 1
  | 3 => kyLeast i2 (kyLeast i1 (kyLeast i0 (-1) 0) 1) 2
  | 4 => kyLeast i3 (kyLeast i2 (kyLeast i1 (kyLeast i0 (-1) 0) 1) 2) 3
  | _ => kyLeast i4 (kyLeast i3 (kyLeast i2 (kyLeast i1 (kyLeast i0 (-1) 0) 1) 2) 3) 4
def kE : Nat → E
  | 0 => .c 0
  | 1 => .c 1
  | 2 => .c 2
  | 3 => .c 3
  | 4 => .c 4
  | _ => .c 5

theorem sk_q (m0 m1 m2 m3 : Int) (i0 i1 i2 i3 i4 : Bool) (f : Nat → Int) (n o : Nat) (k a b : Int) (ek : f (o + 0) = k) (ea : f (o + 1) = a) (eb : f (o + 2) = b) (hn : o + 4 ≤ n) (ho : kyOk k a b) :
    CallQ Try.prog 35 [.ptr 0 (.c 0), .ptr 1 (.s o)] (Hm (stBk m0 m1 m2 m3 i0 i1 i2 i3 i4 f n) 2) (fun v H1 => retP 2 [0, 1] v H1 (ansV (kyCode (selB i0 i1 i2 i3 i4 a) (kLeast i0 i1 i2 i3 i4 5) k) (kyNum (selB i0 i1 i2 i3 i4 a) (kBits i0 i1 i2 i3 i4 (f (o + 1)) (f (o + 2)) 5) (kLeast i0 i1 i2 i3 i4 5) k a))
      [some (.own false 25 (fun _ => 0) 0 (stL m0 m1 m2 m3 (kyIn (selB i0 i1 i2 i3 i4 a) (kLeast i0 i1 i2 i3 i4 5) k a 0 i0) (kyIn (selB i0 i1 i2 i3 i4 a) (kLeast i0 i1 i2 i3 i4 5) k a 1 i1) (kyIn (selB i0 i1 i2 i3 i4 a) (kLeast i0 i1 i2 i3 i4 5) k a 2 i2) (kyIn (selB i0 i1 i2 i3 i4 a) (kLeast i0 i1 i2 i3 i4 5) k a 3 i3) (kyIn (selB i0 i1 i2 i3 i4 a) (kLeast i0 i1 i2 i3 i4 5) k a 4 i4))), none] 2) := by
  refine CallQ.loop1 (n := 3000) noSpec_ok mixed (fun j : Nat => skT o i0 i1 i2 i3 i4 (kBits i0 i1 i2 i3 i4 (f (o + 1)) (f (o + 2)) j) (kLeast i0 i1 i2 i3 i4 j) (kE j)) (fun _ => skB m0 m1 m2 m3 i0 i1 i2 i3 i4 f n) 3 [0, 1, 2] (fun j => 5 - j) (fun j => j ≤ 5)
    (fun j => j + 1) (fun j => j < 5) 0 (fun j => skT o i0 i1 i2 i3 i4 (kBits i0 i1 i2 i3 i4 (f (o + 1)) (f (o + 2)) 5) (kLeast i0 i1 i2 i3 i4 5) (.c 5)) (fun _ => skB m0 m1 m2 m3 i0 i1 i2 i3 i4 f n) (fun j => True) (by kernel_rfl) (by kernel_rfl)
    0 (Nat.zero_le _) (sk_go m0 m1 m2 m3 i0 i1 i2 i3 i4 f n o hn) (fun j hj => ?_) (fun j hj hc => ⟨hc, by have h : j < 5 := hc; show 5 - (j + 1) < 5 - j; omega⟩) (fun j _ _ => sk_end m0 m1 m2 m3 i0 i1 i2 i3 i4 f n o _ _ k a b ek ea eb hn ho)
  have up : ∀ {ts : List (Nat × V)} {bs : List (Option Blk)} {tx : List (Nat × V)} {bx : List (Option Blk)} {c : Prop} {x : Out × Tr V} {H : Hp}, c → roundK 3 [0, 1, 2] ts bs True 0 [] [] False x H → roundK 3 [0, 1, 2] ts bs c 0 tx bx True x H := by
    intro ts bs tx bx c x H hc h
    have h := roundK_norm (tx := tx) (bx := bx) (fin := True) h
    obtain ⟨oo, T⟩ := x
    cases oo with
    | norm => exact ⟨h.1, hc⟩
    | exit k => exact h
    | ret => exact h
  match j, hj with
  | 0, _ => obtain ⟨hh, hb⟩ := sk_0 m0 m1 m2 m3 i0 i1 i2 i3 i4 f n o 0 (-1) hn; exact ⟨hh, vcOf_mono hb fun x H hx => up (by decide) hx⟩
  | 1, _ => obtain ⟨hh, hb⟩ := sk_1 m0 m1 m2 m3 i0 i1 i2 i3 i4 f n o _ _ hn; exact ⟨hh, vcOf_mono hb fun x H hx => up (by decide) hx⟩
  | 2, _ => obtain ⟨hh, hb⟩ := sk_2 m0 m1 m2 m3 i0 i1 i2 i3 i4 f n o _ _ hn; exact ⟨hh, vcOf_mono hb fun x H hx => up (by decide) hx⟩
  | 3, _ => obtain ⟨hh, hb⟩ := sk_3 m0 m1 m2 m3 i0 i1 i2 i3 i4 f n o _ _ hn; exact ⟨hh, vcOf_mono hb fun x H hx => up (by decide) hx⟩
  | 4, _ => obtain ⟨hh, hb⟩ := sk_4 m0 m1 m2 m3 i0 i1 i2 i3 i4 f n o _ _ hn; exact ⟨hh, vcOf_mono hb fun x H hx => up (by decide) hx⟩
  | 5, _ => obtain ⟨hh, hb⟩ := sk_5 m0 m1 m2 m3 i0 i1 i2 i3 i4 f n o (kBits i0 i1 i2 i3 i4 (f (o + 1)) (f (o + 2)) 5) (kLeast i0 i1 i2 i3 i4 5) hn; exact ⟨hh, vcOf_mono hb fun x H hx => roundK_exit hx⟩
  | j + 6, hj => exact absurd hj (by omega)
end Go.Ideal.M2
