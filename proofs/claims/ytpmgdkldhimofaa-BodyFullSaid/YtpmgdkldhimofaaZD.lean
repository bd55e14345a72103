/- Put together of: Zd1 Zd2b Zd2s. Own text; nothing here is trusted. -/
import Derived.Test.YtpmgdkldhimofaaPP
import Derived.Test.YtpmgdkldhimofaaY0p
import Derived.Test.YtpmgdkldhimofaaQ6
import Derived.Test.YtpmgdkldhimofaaKH
import Derived.Test.YtpmgdkldhimofaaR8
namespace Go.Ideal.Bd
section
open Go.Proofs Go.Ideal Go.Ideal.L1 Go.Ideal.K6
set_option linter.unusedSimpArgs false
set_option linter.unusedVariables false
set_option linter.defProp false
set_option maxRecDepth 100000
set_option maxHeartbeats 80000000

def dosB : Spec := orS Y1.op4 (orS B1.opsS (orS K6.skipS (orS B1.bankS B1.maysP)))
theorem cZd1_0 (b : Nat → Bool) (z : Nat → Int) {R : Prop} (h : R) : ((b 0):Bool) = (b 0) ∧ (((b 1):Bool) = (b 1) ∧ (((b 2):Bool) = (b 2) ∧ (((b 3):Bool) = (b 3) ∧ (((b 4):Bool) = (b 4) ∧ (((b 5):Bool) = (b 5) ∧ (((b 6):Bool) = (b 6) ∧ (((b 7):Bool) = (b 7) ∧ (((b 8):Bool) = (b 8) ∧ (((b 9):Bool) = (b 9) ∧ (((b 10):Bool) = (b 10) ∧ (((b 11):Bool) = (b 11) ∧ (((b 12):Bool) = (b 12) ∧ (((b 13):Bool) = (b 13) ∧ (((b 14):Bool) = (b 14) ∧ (((b 15):Bool) = (b 15) ∧ (((z 0):Int) = (z 0) ∧ (((z 1):Int) = (z 1) ∧ (((z 2):Int) = (z 2) ∧ (((z 3):Int) = (z 3) ∧ (((z 4):Int) = (z 4) ∧ (((z 5):Int) = (z 5) ∧ (((z 6):Int) = (z 6) ∧ (((z 7):Int) = (z 7) ∧ (((z 8):Int) = (z 8) ∧ (((z 9):Int) = (z 9) ∧ (((z 10):Int) = (z 10) ∧ (((z 11):Int) = (z 11) ∧ (((z 12):Int) = (z 12) ∧ (((z 13):Int) = (z 13) ∧ (((z 14):Int) = (z 14) ∧ (((z 15):Int) = (z 15) ∧ (((z 16):Int) = (z 16) ∧ (((z 17):Int) = (z 17) ∧ (((z 18):Int) = (z 18) ∧ (((z 19):Int) = (z 19) ∧ (((z 20):Int) = (z 20) ∧ (((z 21):Int) = (z 21) ∧ (((z 22):Int) = (z 22) ∧ (((z 23):Int) = (z 23) ∧ (((z 24):Int) = (z 24) ∧ (((z 25):Int) = (z 25) ∧ (((z 26):Int) = (z 26) ∧ (((z 27):Int) = (z 27) ∧ (((z 28):Int) = (z 28) ∧ (((z 29):Int) = (z 29) ∧ (((z 30):Int) = (z 30) ∧ (R))))))))))))))))))))))))))))))))))))))))))))))) := ⟨rfl, ⟨rfl, ⟨rfl, ⟨rfl, ⟨rfl, ⟨rfl, ⟨rfl, ⟨rfl, ⟨rfl, ⟨rfl, ⟨rfl, ⟨rfl, ⟨rfl, ⟨rfl, ⟨rfl, ⟨rfl, ⟨rfl, ⟨rfl, ⟨rfl, ⟨rfl, ⟨rfl, ⟨rfl, ⟨rfl, ⟨rfl, ⟨rfl, ⟨rfl, ⟨rfl, ⟨rfl, ⟨rfl, ⟨rfl, ⟨rfl, ⟨rfl, ⟨rfl, ⟨rfl, ⟨rfl, ⟨rfl, ⟨rfl, ⟨rfl, ⟨rfl, ⟨rfl, ⟨rfl, ⟨rfl, ⟨rfl, ⟨rfl, ⟨rfl, ⟨rfl, ⟨rfl, h⟩⟩⟩⟩⟩⟩⟩⟩⟩⟩⟩⟩⟩⟩⟩⟩⟩⟩⟩⟩⟩⟩⟩⟩⟩⟩⟩⟩⟩⟩⟩⟩⟩⟩⟩⟩⟩⟩⟩⟩⟩⟩⟩⟩⟩⟩⟩
theorem cZd1_1 (b : Nat → Bool) {R : Prop} (h : R) : ((b 0):Bool) = (b 0) ∧ (((b 1):Bool) = (b 1) ∧ (((b 2):Bool) = (b 2) ∧ (((b 3):Bool) = (b 3) ∧ (((b 4):Bool) = (b 4) ∧ (((b 5):Bool) = (b 5) ∧ (((b 6):Bool) = (b 6) ∧ (((b 7):Bool) = (b 7) ∧ (((b 8):Bool) = (b 8) ∧ (((b 9):Bool) = (b 9) ∧ (((b 10):Bool) = (b 10) ∧ (((b 11):Bool) = (b 11) ∧ (((b 12):Bool) = (b 12) ∧ (((b 13):Bool) = (b 13) ∧ (((b 14):Bool) = (b 14) ∧ (((b 15):Bool) = (b 15) ∧ (R)))))))))))))))) := ⟨rfl, ⟨rfl, ⟨rfl, ⟨rfl, ⟨rfl, ⟨rfl, ⟨rfl, ⟨rfl, ⟨rfl, ⟨rfl, ⟨rfl, ⟨rfl, ⟨rfl, ⟨rfl, ⟨rfl, ⟨rfl, h⟩⟩⟩⟩⟩⟩⟩⟩⟩⟩⟩⟩⟩⟩⟩⟩
def pZd1_1 := an (an (an tt (an tt (an tt (an tt (an tt (an tt (an tt (an tt (an tt (an tt (an tt (an tt (an tt (an tt (an tt (an tt (an tt (an tt (an tt (an tt (an tt (an tt (an tt (an tt (an tt (an tt (an tt (an tt (an tt (an tt (an tt (an tt (an tt (an tt (an tt (an tt (an tt (an tt (an tt (an tt (an tt (an tt (an tt (an tt (an tt (an tt (an tt (an tt (an tt tt))))))))))))))))))))))))))))))))))))))))))))))))) tt) tt
theorem dosB_ok : SpecOk Try.prog dosB := orS_ok Y1.op4_ok (orS_ok B1.opsS_ok (orS_ok K6.skS_ok (orS_ok B1.bkS_ok B1.maysP_ok)))
/-- The cells behind an operation of accounts, of keys. -/
def zb (z : Nat → Int) (k a e x:Int) (j:Nat) : Int := if j < 16 then z j else if j < 20 then B1.bkNow (z 16) (z 17) (z 18) (z 19) k a e x ((j - 16:Nat):Int) else z j
def zk (b : Nat → Bool) (z : Nat → Int) (k a x:Int) (j:Nat) : Int := if j < 16 then z j else skC (bl b) (zl z) k a x ((j - 16:Nat):Int)
def askN (n:Int) (b : Nat → Bool) (z : Nat → Int) : V := .tuple [.agg (.int .i64 (.s n) :: viewOf (bl b) (zl z) ++ [.nils]), .int .i64 (.c 0)]
def askD (n:Nat) (b : Nat → Bool) (z : Nat → Int) : V := .tuple [.agg (.int .i64 (.c (-1)) :: viewOf (bl b) (zl z) ++ [.slice 1 (.c 0) (.c n) 2 (.c n)]), .int .i64 (.c 0)]
def ans1 (c n:Int) : List (Option Blk) := [none, some (.own false 48 (fun _ => 0) 0 [.int .i64 (.s c), .int .i64 (.s n)])]
def ans2 (c n d k:Int) : List (Option Blk) := [none, some (.own false 48 (fun _ => 0) 0 [.int .i64 (.s c), .int .i64 (.s n), .int .i64 (.s d), .int .i64 (.s k)])]
/-- The cells behind the first operation, as a list. -/
abbrev lB (z g : Nat → Int) : List Int := [z 0, z 1, z 2, z 3, z 4, z 5, z 6, z 7, z 8, z 9, z 10, z 11, z 12, z 13, z 14, z 15, B1.bkNow (z 16) (z 17) (z 18) (z 19) (g 0) (g 1) (g 2) (g 3) 0, B1.bkNow (z 16) (z 17) (z 18) (z 19) (g 0) (g 1) (g 2) (g 3) 1, B1.bkNow (z 16) (z 17) (z 18) (z 19) (g 0) (g 1) (g 2) (g 3) 2, B1.bkNow (z 16) (z 17) (z 18) (z 19) (g 0) (g 1) (g 2) (g 3) 3, z 20, z 21, z 22, z 23, z 24, z 25, z 26, z 27, z 28, z 29, z 30, z 31]
abbrev lS (b : Nat → Bool) (z g : Nat → Int) : List Int := [z 0, z 1, z 2, z 3, z 4, z 5, z 6, z 7, z 8, z 9, z 10, z 11, z 12, z 13, z 14, z 15, skC (bl b) (zl z) (g 0) (g 1) (g 3) 0, skC (bl b) (zl z) (g 0) (g 1) (g 3) 1, skC (bl b) (zl z) (g 0) (g 1) (g 3) 2, skC (bl b) (zl z) (g 0) (g 1) (g 3) 3, skC (bl b) (zl z) (g 0) (g 1) (g 3) 4, skC (bl b) (zl z) (g 0) (g 1) (g 3) 5, skC (bl b) (zl z) (g 0) (g 1) (g 3) 6, skC (bl b) (zl z) (g 0) (g 1) (g 3) 7, skC (bl b) (zl z) (g 0) (g 1) (g 3) 8, skC (bl b) (zl z) (g 0) (g 1) (g 3) 9, skC (bl b) (zl z) (g 0) (g 1) (g 3) 10, skC (bl b) (zl z) (g 0) (g 1) (g 3) 11, skC (bl b) (zl z) (g 0) (g 1) (g 3) 12, skC (bl b) (zl z) (g 0) (g 1) (g 3) 13, skC (bl b) (zl z) (g 0) (g 1) (g 3) 14, skC (bl b) (zl z) (g 0) (g 1) (g 3) 15]
theorem bdx (g : Nat → Int) (N m c:Nat) (b : Nat → Bool) (z : Nat → Int) (hm9 : m < 9223372036854775808) (hN : m * 4 ≤ N) (hh9 : (B1.allMay (zl z) && B1.opsB g m) = false) : ∃ hh, vcOf (runCall Try.prog dosB noL 6000 22 [.agg (viewOf (bl b) (zl z)), .slice 0 (.c 0) (.s m) 4 (.s c)] (Hm [some (.ext g (.s N))] 1) hh) (fun v H1 => retP 1 (0 :: lastBlk v) v H1 (badAsk 700) [none] 1) := by
  simp only [Bool.and_eq_false_iff] at hh9

  rcases eb (!B1.allMay [z 0, z 1, z 2, z 3, z 4, z 5, z 6, z 7, z 8, z 9, z 10, z 11, z 12, z 13, z 14, z 15, z 16, z 17, z 18, z 19, z 20, z 21, z 22, z 23, z 24, z 25, z 26, z 27, z 28, z 29, z 30, z 31]) with h0 | h0
  ·
   refine vcIntro [true] (an (an h0 tt) (pZd1_1)) ?_
   kernel_rfl
  ·
   rcases eb (!B1.opsB g m) with h1 | h1
   ·
    refine vcIntro (hx2 2 2) (an (an h1 (an (an (show m * (4:Nat) ≤ N by omega) (show m.succ ≤ (9223372036854775808:Nat) by omega)) (an h0 tt))) (pZd1_1)) ?_
    kernel_rfl
   · exact ff (by simp_all)
theorem bd1bn (g : Nat → Int) (N m c:Nat) (b : Nat → Bool) (z : Nat → Int) (hm9 : m < 9223372036854775808) (hN : m * 4 ≤ N) (hm : m = 1 ∨ m = 2) (ho : B1.opsB g m = true) (hv0 : B1.allMay (zl z) = true) (ho0 : B1.opMay (g 0) (g 1) (g 2) (g 3) = true) (hp0 : B1.opMayL [g 0, g 1, g 2, g 3] = true) (hk0 : 0 ≤ g 0 ∧ g 0 ≤ 5) (hb0 : B1.bkMay (zl z) (g 0) (g 1) (g 2) (g 3) = true) (hd0 : (B1.bkD (bl b) (g 0) (g 1) (g 2)) ≠ -1) (hd0' : 0 ≤ (B1.bkD (bl b) (g 0) (g 1) (g 2))) : ∃ hh, vcOf (runCall Try.prog dosB noL 6000 22 [.agg (viewOf (bl b) (zl z)), .slice 0 (.c 0) (.s m) 4 (.s c)] (Hm [some (.ext g (.s N))] 1) hh) (fun v H1 => retP 1 (0 :: lastBlk v) v H1 (askN (B1.bkD (bl b) (g 0) (g 1) (g 2)) b z) [none] 1) := by

  let q1_ := [z 0, z 1, z 2, z 3, z 4, z 5, z 6, z 7, z 8, z 9, z 10, z 11, z 12, z 13, z 14, z 15, z 16, z 17, z 18, z 19, z 20, z 21, z 22, z 23, z 24, z 25, z 26, z 27, z 28, z 29, z 30, z 31]
  let q2_ := [b 0, b 1, b 2, b 3, b 4, b 5, b 6, b 7, b 8, b 9, b 10, b 11, b 12, b 13, b 14, b 15]
  rcases eb (!B1.allMay q1_) with h0 | h0
  · exact ff (by (try dsimp only [q1_, q2_] at *); simp [ho, hv0, ho0, hp0, hb0, hd0, hd0'] at *)
  ·
   rcases eb (!B1.opsB g m) with h1 | h1
   · exact ff (by (try dsimp only [q1_, q2_] at *); simp [ho, hv0, ho0, hp0, hb0, hd0, hd0'] at *)
   ·
    rcases eb (decide ((0:Int) < (↑m:Int))) with h2 | h2
    ·
     rcases eb (decide (g 0 ≥ (0:Int))) with h3 | h3
     ·
      rcases eb (decide (g 0 ≤ (5:Int))) with h4 | h4
      ·
       rcases eb (!B1.bkMay q1_ (g 0) (g 1) (g 2) (g 3)) with h5 | h5
       · exact ff (by (try dsimp only [q1_, q2_] at *); simp [ho, hv0, ho0, hp0, hb0, hd0, hd0'] at *)
       ·
        rcases eb (decide ((0:Int) ≤ B1.bkD q2_ (g 0) (g 1) (g 2))) with h6 | h6
        ·
         rcases eb (decide (B1.bkD q2_ (g 0) (g 1) (g 2) ≥ (0:Int))) with h7 | h7
         ·
          refine vcIntro (hx2 8 220) (an (an h7 (an h6 (an h5 (an h4 (an h3 (an (show (1:Nat) ≤ N by (try dsimp only [q1_, q2_] at *); omega) (an (show (2:Nat) ≤ N by (try dsimp only [q1_, q2_] at *); omega) (an (show (3:Nat) ≤ N by (try dsimp only [q1_, q2_] at *); omega) (an (show (4:Nat) ≤ N by (try dsimp only [q1_, q2_] at *); omega) (an (an (show (0:Int) ≤ (0:Int) by (try dsimp only [q1_, q2_] at *); simp) (show (1:Int) ≤ (↑m:Int) by (try dsimp only [q1_, q2_] at *); omega)) (an h2 (an h1 (an (an (show m * (4:Nat) ≤ N by (try dsimp only [q1_, q2_] at *); omega) (show m.succ ≤ (9223372036854775808:Nat) by (try dsimp only [q1_, q2_] at *); omega)) (an h0 tt)))))))))))))) (an (an (an (ri (B1.bkD (bl b) (g 0) (g 1) (g 2))) (cZd1_0 b z (an (ri (z 31)) tt))) tt) tt)) ?_
          kernel_rfl
         · exact ff (by ((try dsimp only [q1_, q2_] at *); first | (simp at *; omega) | (simp_all; done)))
        · exact ff (by (try dsimp only [q1_, q2_] at *); simp [ho, hv0, ho0, hp0, hb0, hd0, hd0'] at *)
      · exact ff (by ((try dsimp only [q1_, q2_] at *); first | (simp at *; omega) | (simp_all; done)))
     · exact ff (by ((try dsimp only [q1_, q2_] at *); first | (simp at *; omega) | (simp_all; done)))
    · exact ff (by ((try dsimp only [q1_, q2_] at *); first | (simp at *; omega) | (simp_all; done)))
theorem bd1br (g : Nat → Int) (N m c:Nat) (b : Nat → Bool) (z : Nat → Int) (hm9 : m < 9223372036854775808) (hN : m * 4 ≤ N) (hm : m = 1 ∨ m = 2) (ho : B1.opsB g m = true) (hv0 : B1.allMay (zl z) = true) (ho0 : B1.opMay (g 0) (g 1) (g 2) (g 3) = true) (hp0 : B1.opMayL [g 0, g 1, g 2, g 3] = true) (hk0 : 0 ≤ g 0 ∧ g 0 ≤ 5) (hb0 : B1.bkMay (zl z) (g 0) (g 1) (g 2) (g 3) = true) (hd0 : (B1.bkD (bl b) (g 0) (g 1) (g 2)) = -1) (hc0 : (B1.bkCode (z 16) (z 17) (z 18) (z 19) (g 0) (g 1) (g 2) (g 3)) ≠ 0) : ∃ hh, vcOf (runCall Try.prog dosB noL 6000 22 [.agg (viewOf (bl b) (zl z)), .slice 0 (.c 0) (.s m) 4 (.s c)] (Hm [some (.ext g (.s N))] 1) hh) (fun v H1 => retP 1 (0 :: lastBlk v) v H1 (askD 1 b z) (ans1 (B1.bkCode (z 16) (z 17) (z 18) (z 19) (g 0) (g 1) (g 2) (g 3)) (B1.bkNum (z 16) (z 17) (z 18) (z 19) (g 0) (g 1) (g 2) (g 3))) 2) := by

  let q1_ := [z 0, z 1, z 2, z 3, z 4, z 5, z 6, z 7, z 8, z 9, z 10, z 11, z 12, z 13, z 14, z 15, z 16, z 17, z 18, z 19, z 20, z 21, z 22, z 23, z 24, z 25, z 26, z 27, z 28, z 29, z 30, z 31]
  rcases eb (!B1.allMay q1_) with h0 | h0
  · exact ff (by (try dsimp only [q1_] at *); simp [ho, hv0, ho0, hp0, hb0, hd0, hc0] at *)
  ·
   rcases eb (!B1.opsB g m) with h1 | h1
   · exact ff (by (try dsimp only [q1_] at *); simp [ho, hv0, ho0, hp0, hb0, hd0, hc0] at *)
   ·
    rcases eb (decide ((0:Int) < (↑m:Int))) with h2 | h2
    ·
     rcases eb (decide (g 0 ≥ (0:Int))) with h3 | h3
     ·
      rcases eb (decide (g 0 ≤ (5:Int))) with h4 | h4
      ·
       rcases eb (!B1.bkMay q1_ (g 0) (g 1) (g 2) (g 3)) with h5 | h5
       · exact ff (by (try dsimp only [q1_] at *); simp [ho, hv0, ho0, hp0, hb0, hd0, hc0] at *)
       ·
        rcases eb (decide ((0:Int) ≤ B1.bkD [b 0, b 1, b 2, b 3, b 4, b 5, b 6, b 7, b 8, b 9, b 10, b 11, b 12, b 13, b 14, b 15] (g 0) (g 1) (g 2))) with h6 | h6
        · exact ff (by (try dsimp only [q1_] at *); simp [ho, hv0, ho0, hp0, hb0, hd0, hc0] at *)
        ·
         rcases eb (B1.bkCode (z 16) (z 17) (z 18) (z 19) (g 0) (g 1) (g 2) (g 3) != (0:Int)) with h7 | h7
         ·
          refine vcIntro (hx2 8 156) (an (an h7 (an h6 (an h5 (an h4 (an h3 (an (show (1:Nat) ≤ N by (try dsimp only [q1_] at *); omega) (an (show (2:Nat) ≤ N by (try dsimp only [q1_] at *); omega) (an (show (3:Nat) ≤ N by (try dsimp only [q1_] at *); omega) (an (show (4:Nat) ≤ N by (try dsimp only [q1_] at *); omega) (an (an (show (0:Int) ≤ (0:Int) by (try dsimp only [q1_] at *); simp) (show (1:Int) ≤ (↑m:Int) by (try dsimp only [q1_] at *); omega)) (an h2 (an h1 (an (an (show m * (4:Nat) ≤ N by (try dsimp only [q1_] at *); omega) (show m.succ ≤ (9223372036854775808:Nat) by (try dsimp only [q1_] at *); omega)) (an h0 tt)))))))))))))) (an (an (an tt (cZd1_0 b z (an (ri (z 31)) (an tt (an tt tt))))) tt) (an (zo (an (ri (B1.bkCode (z 16) (z 17) (z 18) (z 19) (g 0) (g 1) (g 2) (g 3))) (ri (B1.bkNum (z 16) (z 17) (z 18) (z 19) (g 0) (g 1) (g 2) (g 3))))) tt))) ?_
          kernel_rfl
         · exact ff (by ((try dsimp only [q1_] at *); first | (simp at *; omega) | (simp_all; done)))
      · exact ff (by ((try dsimp only [q1_] at *); first | (simp at *; omega) | (simp_all; done)))
     · exact ff (by ((try dsimp only [q1_] at *); first | (simp at *; omega) | (simp_all; done)))
    · exact ff (by ((try dsimp only [q1_] at *); first | (simp at *; omega) | (simp_all; done)))
theorem bd1bd (g : Nat → Int) (N m c:Nat) (b : Nat → Bool) (z : Nat → Int) (hm9 : m < 9223372036854775808) (hN : m * 4 ≤ N) (hm : m = 1) (ho : B1.opsB g m = true) (hv0 : B1.allMay (zl z) = true) (ho0 : B1.opMay (g 0) (g 1) (g 2) (g 3) = true) (hp0 : B1.opMayL [g 0, g 1, g 2, g 3] = true) (hk0 : 0 ≤ g 0 ∧ g 0 ≤ 5) (hb0 : B1.bkMay (zl z) (g 0) (g 1) (g 2) (g 3) = true) (hd0 : (B1.bkD (bl b) (g 0) (g 1) (g 2)) = -1) (hc0 : (B1.bkCode (z 16) (z 17) (z 18) (z 19) (g 0) (g 1) (g 2) (g 3)) = 0) : ∃ hh, vcOf (runCall Try.prog dosB noL 6000 22 [.agg (viewOf (bl b) (zl z)), .slice 0 (.c 0) (.s m) 4 (.s c)] (Hm [some (.ext g (.s N))] 1) hh) (fun v H1 => retP 1 (0 :: lastBlk v) v H1 (askD 1 b (zb z (g 0) (g 1) (g 2) (g 3))) (ans1 (B1.bkCode (z 16) (z 17) (z 18) (z 19) (g 0) (g 1) (g 2) (g 3)) (B1.bkNum (z 16) (z 17) (z 18) (z 19) (g 0) (g 1) (g 2) (g 3))) 2) := by

  let q1_ := [z 0, z 1, z 2, z 3, z 4, z 5, z 6, z 7, z 8, z 9, z 10, z 11, z 12, z 13, z 14, z 15, z 16, z 17, z 18, z 19, z 20, z 21, z 22, z 23, z 24, z 25, z 26, z 27, z 28, z 29, z 30, z 31]
  rcases eb (!B1.allMay q1_) with h0 | h0
  · exact ff (by (try dsimp only [q1_] at *); simp [ho, hv0, ho0, hp0, hb0, hd0, hc0] at *)
  ·
   rcases eb (!B1.opsB g m) with h1 | h1
   · exact ff (by (try dsimp only [q1_] at *); simp [ho, hv0, ho0, hp0, hb0, hd0, hc0] at *)
   ·
    rcases eb (decide ((0:Int) < (↑m:Int))) with h2 | h2
    ·
     rcases eb (decide (g 0 ≥ (0:Int))) with h3 | h3
     ·
      rcases eb (decide (g 0 ≤ (5:Int))) with h4 | h4
      ·
       rcases eb (!B1.bkMay q1_ (g 0) (g 1) (g 2) (g 3)) with h5 | h5
       · exact ff (by (try dsimp only [q1_] at *); simp [ho, hv0, ho0, hp0, hb0, hd0, hc0] at *)
       ·
        rcases eb (decide ((0:Int) ≤ B1.bkD [b 0, b 1, b 2, b 3, b 4, b 5, b 6, b 7, b 8, b 9, b 10, b 11, b 12, b 13, b 14, b 15] (g 0) (g 1) (g 2))) with h6 | h6
        · exact ff (by (try dsimp only [q1_] at *); simp [ho, hv0, ho0, hp0, hb0, hd0, hc0] at *)
        ·
         rcases eb (B1.bkCode (z 16) (z 17) (z 18) (z 19) (g 0) (g 1) (g 2) (g 3) != (0:Int)) with h7 | h7
         · exact ff (by ((try dsimp only [q1_] at *); first | (simp at *; omega) | (simp_all; done)))
         ·
          rcases eb (decide ((1:Int) < (↑m:Int))) with h8 | h8
          · exact ff (by ((try dsimp only [q1_] at *); first | (simp at *; omega) | (simp_all; done)))
          ·
           refine vcIntro (hx2 9 28) (an (an h8 (an h7 (an h6 (an h5 (an h4 (an h3 (an (show (1:Nat) ≤ N by (try dsimp only [q1_] at *); omega) (an (show (2:Nat) ≤ N by (try dsimp only [q1_] at *); omega) (an (show (3:Nat) ≤ N by (try dsimp only [q1_] at *); omega) (an (show (4:Nat) ≤ N by (try dsimp only [q1_] at *); omega) (an (an (show (0:Int) ≤ (0:Int) by (try dsimp only [q1_] at *); simp) (show (1:Int) ≤ (↑m:Int) by (try dsimp only [q1_] at *); omega)) (an h2 (an h1 (an (an (show m * (4:Nat) ≤ N by (try dsimp only [q1_] at *); omega) (show m.succ ≤ (9223372036854775808:Nat) by (try dsimp only [q1_] at *); omega)) (an h0 tt))))))))))))))) (an (an (an tt (cZd1_1 b (an (show zb z (g 0) (g 1) (g 2) (g 3) 0 = z 0 by rfl) (an (show zb z (g 0) (g 1) (g 2) (g 3) 1 = z 1 by rfl) (an (show zb z (g 0) (g 1) (g 2) (g 3) 2 = z 2 by rfl) (an (show zb z (g 0) (g 1) (g 2) (g 3) 3 = z 3 by rfl) (an (show zb z (g 0) (g 1) (g 2) (g 3) 4 = z 4 by rfl) (an (show zb z (g 0) (g 1) (g 2) (g 3) 5 = z 5 by rfl) (an (show zb z (g 0) (g 1) (g 2) (g 3) 6 = z 6 by rfl) (an (show zb z (g 0) (g 1) (g 2) (g 3) 7 = z 7 by rfl) (an (show zb z (g 0) (g 1) (g 2) (g 3) 8 = z 8 by rfl) (an (show zb z (g 0) (g 1) (g 2) (g 3) 9 = z 9 by rfl) (an (show zb z (g 0) (g 1) (g 2) (g 3) 10 = z 10 by rfl) (an (show zb z (g 0) (g 1) (g 2) (g 3) 11 = z 11 by rfl) (an (show zb z (g 0) (g 1) (g 2) (g 3) 12 = z 12 by rfl) (an (show zb z (g 0) (g 1) (g 2) (g 3) 13 = z 13 by rfl) (an (show zb z (g 0) (g 1) (g 2) (g 3) 14 = z 14 by rfl) (an (show zb z (g 0) (g 1) (g 2) (g 3) 15 = z 15 by rfl) (an (show zb z (g 0) (g 1) (g 2) (g 3) 16 = B1.bkNow (z 16) (z 17) (z 18) (z 19) (g 0) (g 1) (g 2) (g 3) 0 by rfl) (an (show zb z (g 0) (g 1) (g 2) (g 3) 17 = B1.bkNow (z 16) (z 17) (z 18) (z 19) (g 0) (g 1) (g 2) (g 3) 1 by rfl) (an (show zb z (g 0) (g 1) (g 2) (g 3) 18 = B1.bkNow (z 16) (z 17) (z 18) (z 19) (g 0) (g 1) (g 2) (g 3) 2 by rfl) (an (show zb z (g 0) (g 1) (g 2) (g 3) 19 = B1.bkNow (z 16) (z 17) (z 18) (z 19) (g 0) (g 1) (g 2) (g 3) 3 by rfl) (an (show zb z (g 0) (g 1) (g 2) (g 3) 20 = z 20 by rfl) (an (show zb z (g 0) (g 1) (g 2) (g 3) 21 = z 21 by rfl) (an (show zb z (g 0) (g 1) (g 2) (g 3) 22 = z 22 by rfl) (an (show zb z (g 0) (g 1) (g 2) (g 3) 23 = z 23 by rfl) (an (show zb z (g 0) (g 1) (g 2) (g 3) 24 = z 24 by rfl) (an (show zb z (g 0) (g 1) (g 2) (g 3) 25 = z 25 by rfl) (an (show zb z (g 0) (g 1) (g 2) (g 3) 26 = z 26 by rfl) (an (show zb z (g 0) (g 1) (g 2) (g 3) 27 = z 27 by rfl) (an (show zb z (g 0) (g 1) (g 2) (g 3) 28 = z 28 by rfl) (an (show zb z (g 0) (g 1) (g 2) (g 3) 29 = z 29 by rfl) (an (show zb z (g 0) (g 1) (g 2) (g 3) 30 = z 30 by rfl) (an (show zb z (g 0) (g 1) (g 2) (g 3) 31 = z 31 by rfl) (an tt (an tt tt)))))))))))))))))))))))))))))))))))) tt) (an (zo (an (ri (B1.bkCode (z 16) (z 17) (z 18) (z 19) (g 0) (g 1) (g 2) (g 3))) (ri (B1.bkNum (z 16) (z 17) (z 18) (z 19) (g 0) (g 1) (g 2) (g 3))))) tt))) ?_
           kernel_rfl
      · exact ff (by ((try dsimp only [q1_] at *); first | (simp at *; omega) | (simp_all; done)))
     · exact ff (by ((try dsimp only [q1_] at *); first | (simp at *; omega) | (simp_all; done)))
    · exact ff (by ((try dsimp only [q1_] at *); first | (simp at *; omega) | (simp_all; done)))
theorem bd1sn (g : Nat → Int) (N m c:Nat) (b : Nat → Bool) (z : Nat → Int) (hm9 : m < 9223372036854775808) (hN : m * 4 ≤ N) (hm : m = 1 ∨ m = 2) (ho : B1.opsB g m = true) (hv0 : B1.allMay (zl z) = true) (ho0 : B1.opMay (g 0) (g 1) (g 2) (g 3) = true) (hp0 : B1.opMayL [g 0, g 1, g 2, g 3] = true) (hk0 : 6 ≤ g 0) (hb0 : skMay (zl z) (g 0) (g 1) (g 2) (g 3) = true) (hd0 : (skN (bl b) (zl z) (g 0) (g 1) (g 2) (g 3)) ≠ -1) (hd0' : 0 ≤ (skN (bl b) (zl z) (g 0) (g 1) (g 2) (g 3))) : ∃ hh, vcOf (runCall Try.prog dosB noL 6000 22 [.agg (viewOf (bl b) (zl z)), .slice 0 (.c 0) (.s m) 4 (.s c)] (Hm [some (.ext g (.s N))] 1) hh) (fun v H1 => retP 1 (0 :: lastBlk v) v H1 (askN (skN (bl b) (zl z) (g 0) (g 1) (g 2) (g 3)) b z) [none] 1) := by

  let q1_ := [z 0, z 1, z 2, z 3, z 4, z 5, z 6, z 7, z 8, z 9, z 10, z 11, z 12, z 13, z 14, z 15, z 16, z 17, z 18, z 19, z 20, z 21, z 22, z 23, z 24, z 25, z 26, z 27, z 28, z 29, z 30, z 31]
  let q2_ := [b 0, b 1, b 2, b 3, b 4, b 5, b 6, b 7, b 8, b 9, b 10, b 11, b 12, b 13, b 14, b 15]
  rcases eb (!B1.allMay q1_) with h0 | h0
  · exact ff (by (try dsimp only [q1_, q2_] at *); simp [ho, hv0, ho0, hp0, hb0, hd0, hd0'] at *)
  ·
   rcases eb (!B1.opsB g m) with h1 | h1
   · exact ff (by (try dsimp only [q1_, q2_] at *); simp [ho, hv0, ho0, hp0, hb0, hd0, hd0'] at *)
   ·
    rcases eb (decide ((0:Int) < (↑m:Int))) with h2 | h2
    ·
     rcases eb (decide (g 0 ≥ (0:Int))) with h3 | h3
     ·
      rcases eb (decide (g 0 ≤ (5:Int))) with h4 | h4
      · exact ff (by ((try dsimp only [q1_, q2_] at *); first | (simp at *; omega) | (simp_all; done)))
      ·
       rcases eb (!skMay q1_ (g 0) (g 1) (g 2) (g 3)) with h5 | h5
       · exact ff (by (try dsimp only [q1_, q2_] at *); simp [ho, hv0, ho0, hp0, hb0, hd0, hd0'] at *)
       ·
        rcases eb (!skN q2_ q1_ (g 0) (g 1) (g 2) (g 3) == (-1:Int)) with h6 | h6
        ·
         rcases eb (decide (skN q2_ q1_ (g 0) (g 1) (g 2) (g 3) ≥ (0:Int))) with h7 | h7
         ·
          refine vcIntro (hx2 8 204) (an (an h7 (an h6 (an h5 (an h4 (an h3 (an (show (1:Nat) ≤ N by (try dsimp only [q1_, q2_] at *); omega) (an (show (2:Nat) ≤ N by (try dsimp only [q1_, q2_] at *); omega) (an (show (3:Nat) ≤ N by (try dsimp only [q1_, q2_] at *); omega) (an (show (4:Nat) ≤ N by (try dsimp only [q1_, q2_] at *); omega) (an (an (show (0:Int) ≤ (0:Int) by (try dsimp only [q1_, q2_] at *); simp) (show (1:Int) ≤ (↑m:Int) by (try dsimp only [q1_, q2_] at *); omega)) (an h2 (an h1 (an (an (show m * (4:Nat) ≤ N by (try dsimp only [q1_, q2_] at *); omega) (show m.succ ≤ (9223372036854775808:Nat) by (try dsimp only [q1_, q2_] at *); omega)) (an h0 tt)))))))))))))) (an (an (an (ri (skN (bl b) q1_ (g 0) (g 1) (g 2) (g 3))) (cZd1_0 b z (an (ri (z 31)) tt))) tt) tt)) ?_
          kernel_rfl
         · exact ff (by (try dsimp only [q1_, q2_] at *); simp [ho, hv0, ho0, hp0, hb0, hd0, hd0'] at *)
        · exact ff (by (try dsimp only [q1_, q2_] at *); simp [ho, hv0, ho0, hp0, hb0, hd0, hd0'] at *)
     · exact ff (by ((try dsimp only [q1_, q2_] at *); first | (simp at *; omega) | (simp_all; done)))
    · exact ff (by ((try dsimp only [q1_, q2_] at *); first | (simp at *; omega) | (simp_all; done)))
theorem bd1sr (g : Nat → Int) (N m c:Nat) (b : Nat → Bool) (z : Nat → Int) (hm9 : m < 9223372036854775808) (hN : m * 4 ≤ N) (hm : m = 1 ∨ m = 2) (ho : B1.opsB g m = true) (hv0 : B1.allMay (zl z) = true) (ho0 : B1.opMay (g 0) (g 1) (g 2) (g 3) = true) (hp0 : B1.opMayL [g 0, g 1, g 2, g 3] = true) (hk0 : 6 ≤ g 0) (hb0 : skMay (zl z) (g 0) (g 1) (g 2) (g 3) = true) (hd0 : (skN (bl b) (zl z) (g 0) (g 1) (g 2) (g 3)) = -1) (hc0 : (skCode (bl b) (zl z) (g 0) (g 1)) ≠ 0) : ∃ hh, vcOf (runCall Try.prog dosB noL 6000 22 [.agg (viewOf (bl b) (zl z)), .slice 0 (.c 0) (.s m) 4 (.s c)] (Hm [some (.ext g (.s N))] 1) hh) (fun v H1 => retP 1 (0 :: lastBlk v) v H1 (askD 1 b z) (ans1 (skCode (bl b) (zl z) (g 0) (g 1)) (skNum (bl b) (zl z) (g 0) (g 1) (g 2))) 2) := by

  let q1_ := [z 0, z 1, z 2, z 3, z 4, z 5, z 6, z 7, z 8, z 9, z 10, z 11, z 12, z 13, z 14, z 15, z 16, z 17, z 18, z 19, z 20, z 21, z 22, z 23, z 24, z 25, z 26, z 27, z 28, z 29, z 30, z 31]
  let q2_ := [b 0, b 1, b 2, b 3, b 4, b 5, b 6, b 7, b 8, b 9, b 10, b 11, b 12, b 13, b 14, b 15]
  rcases eb (!B1.allMay q1_) with h0 | h0
  · exact ff (by (try dsimp only [q1_, q2_] at *); simp [ho, hv0, ho0, hp0, hb0, hd0, hc0] at *)
  ·
   rcases eb (!B1.opsB g m) with h1 | h1
   · exact ff (by (try dsimp only [q1_, q2_] at *); simp [ho, hv0, ho0, hp0, hb0, hd0, hc0] at *)
   ·
    rcases eb (decide ((0:Int) < (↑m:Int))) with h2 | h2
    ·
     rcases eb (decide (g 0 ≥ (0:Int))) with h3 | h3
     ·
      rcases eb (decide (g 0 ≤ (5:Int))) with h4 | h4
      · exact ff (by ((try dsimp only [q1_, q2_] at *); first | (simp at *; omega) | (simp_all; done)))
      ·
       rcases eb (!skMay q1_ (g 0) (g 1) (g 2) (g 3)) with h5 | h5
       · exact ff (by (try dsimp only [q1_, q2_] at *); simp [ho, hv0, ho0, hp0, hb0, hd0, hc0] at *)
       ·
        rcases eb (!skN q2_ q1_ (g 0) (g 1) (g 2) (g 3) == (-1:Int)) with h6 | h6
        · exact ff (by (try dsimp only [q1_, q2_] at *); simp [ho, hv0, ho0, hp0, hb0, hd0, hc0] at *)
        ·
         rcases eb (skCode q2_ q1_ (g 0) (g 1) != (0:Int)) with h7 | h7
         ·
          refine vcIntro (hx2 8 140) (an (an h7 (an h6 (an h5 (an h4 (an h3 (an (show (1:Nat) ≤ N by (try dsimp only [q1_, q2_] at *); omega) (an (show (2:Nat) ≤ N by (try dsimp only [q1_, q2_] at *); omega) (an (show (3:Nat) ≤ N by (try dsimp only [q1_, q2_] at *); omega) (an (show (4:Nat) ≤ N by (try dsimp only [q1_, q2_] at *); omega) (an (an (show (0:Int) ≤ (0:Int) by (try dsimp only [q1_, q2_] at *); simp) (show (1:Int) ≤ (↑m:Int) by (try dsimp only [q1_, q2_] at *); omega)) (an h2 (an h1 (an (an (show m * (4:Nat) ≤ N by (try dsimp only [q1_, q2_] at *); omega) (show m.succ ≤ (9223372036854775808:Nat) by (try dsimp only [q1_, q2_] at *); omega)) (an h0 tt)))))))))))))) (an (an (an tt (cZd1_0 b z (an (ri (z 31)) (an tt (an tt tt))))) tt) (an (zo (an (ri (skCode (bl b) q1_ (g 0) (g 1))) (ri (skNum (bl b) q1_ (g 0) (g 1) (g 2))))) tt))) ?_
          kernel_rfl
         · exact ff (by (try dsimp only [q1_, q2_] at *); simp [ho, hv0, ho0, hp0, hb0, hd0, hc0] at *)
     · exact ff (by ((try dsimp only [q1_, q2_] at *); first | (simp at *; omega) | (simp_all; done)))
    · exact ff (by ((try dsimp only [q1_, q2_] at *); first | (simp at *; omega) | (simp_all; done)))
theorem bd1sd (g : Nat → Int) (N m c:Nat) (b : Nat → Bool) (z : Nat → Int) (hm9 : m < 9223372036854775808) (hN : m * 4 ≤ N) (hm : m = 1) (ho : B1.opsB g m = true) (hv0 : B1.allMay (zl z) = true) (ho0 : B1.opMay (g 0) (g 1) (g 2) (g 3) = true) (hp0 : B1.opMayL [g 0, g 1, g 2, g 3] = true) (hk0 : 6 ≤ g 0) (hb0 : skMay (zl z) (g 0) (g 1) (g 2) (g 3) = true) (hd0 : (skN (bl b) (zl z) (g 0) (g 1) (g 2) (g 3)) = -1) (hc0 : (skCode (bl b) (zl z) (g 0) (g 1)) = 0) : ∃ hh, vcOf (runCall Try.prog dosB noL 6000 22 [.agg (viewOf (bl b) (zl z)), .slice 0 (.c 0) (.s m) 4 (.s c)] (Hm [some (.ext g (.s N))] 1) hh) (fun v H1 => retP 1 (0 :: lastBlk v) v H1 (askD 1 b (zk b z (g 0) (g 1) (g 3))) (ans1 (skCode (bl b) (zl z) (g 0) (g 1)) (skNum (bl b) (zl z) (g 0) (g 1) (g 2))) 2) := by

  let q1_ := [z 0, z 1, z 2, z 3, z 4, z 5, z 6, z 7, z 8, z 9, z 10, z 11, z 12, z 13, z 14, z 15, z 16, z 17, z 18, z 19, z 20, z 21, z 22, z 23, z 24, z 25, z 26, z 27, z 28, z 29, z 30, z 31]
  let q2_ := [b 0, b 1, b 2, b 3, b 4, b 5, b 6, b 7, b 8, b 9, b 10, b 11, b 12, b 13, b 14, b 15]
  rcases eb (!B1.allMay q1_) with h0 | h0
  · exact ff (by (try dsimp only [q1_, q2_] at *); simp [ho, hv0, ho0, hp0, hb0, hd0, hc0] at *)
  ·
   rcases eb (!B1.opsB g m) with h1 | h1
   · exact ff (by (try dsimp only [q1_, q2_] at *); simp [ho, hv0, ho0, hp0, hb0, hd0, hc0] at *)
   ·
    rcases eb (decide ((0:Int) < (↑m:Int))) with h2 | h2
    ·
     rcases eb (decide (g 0 ≥ (0:Int))) with h3 | h3
     ·
      rcases eb (decide (g 0 ≤ (5:Int))) with h4 | h4
      · exact ff (by ((try dsimp only [q1_, q2_] at *); first | (simp at *; omega) | (simp_all; done)))
      ·
       rcases eb (!skMay q1_ (g 0) (g 1) (g 2) (g 3)) with h5 | h5
       · exact ff (by (try dsimp only [q1_, q2_] at *); simp [ho, hv0, ho0, hp0, hb0, hd0, hc0] at *)
       ·
        rcases eb (!skN q2_ q1_ (g 0) (g 1) (g 2) (g 3) == (-1:Int)) with h6 | h6
        · exact ff (by (try dsimp only [q1_, q2_] at *); simp [ho, hv0, ho0, hp0, hb0, hd0, hc0] at *)
        ·
         rcases eb (skCode q2_ q1_ (g 0) (g 1) != (0:Int)) with h7 | h7
         · exact ff (by (try dsimp only [q1_, q2_] at *); simp [ho, hv0, ho0, hp0, hb0, hd0, hc0] at *)
         ·
          rcases eb (decide ((1:Int) < (↑m:Int))) with h8 | h8
          · exact ff (by ((try dsimp only [q1_, q2_] at *); first | (simp at *; omega) | (simp_all; done)))
          ·
           refine vcIntro (hx2 9 12) (an (an h8 (an h7 (an h6 (an h5 (an h4 (an h3 (an (show (1:Nat) ≤ N by (try dsimp only [q1_, q2_] at *); omega) (an (show (2:Nat) ≤ N by (try dsimp only [q1_, q2_] at *); omega) (an (show (3:Nat) ≤ N by (try dsimp only [q1_, q2_] at *); omega) (an (show (4:Nat) ≤ N by (try dsimp only [q1_, q2_] at *); omega) (an (an (show (0:Int) ≤ (0:Int) by (try dsimp only [q1_, q2_] at *); simp) (show (1:Int) ≤ (↑m:Int) by (try dsimp only [q1_, q2_] at *); omega)) (an h2 (an h1 (an (an (show m * (4:Nat) ≤ N by (try dsimp only [q1_, q2_] at *); omega) (show m.succ ≤ (9223372036854775808:Nat) by (try dsimp only [q1_, q2_] at *); omega)) (an h0 tt))))))))))))))) (an (an (an tt (cZd1_1 b (an (show zk b z (g 0) (g 1) (g 3) 0 = z 0 by rfl) (an (show zk b z (g 0) (g 1) (g 3) 1 = z 1 by rfl) (an (show zk b z (g 0) (g 1) (g 3) 2 = z 2 by rfl) (an (show zk b z (g 0) (g 1) (g 3) 3 = z 3 by rfl) (an (show zk b z (g 0) (g 1) (g 3) 4 = z 4 by rfl) (an (show zk b z (g 0) (g 1) (g 3) 5 = z 5 by rfl) (an (show zk b z (g 0) (g 1) (g 3) 6 = z 6 by rfl) (an (show zk b z (g 0) (g 1) (g 3) 7 = z 7 by rfl) (an (show zk b z (g 0) (g 1) (g 3) 8 = z 8 by rfl) (an (show zk b z (g 0) (g 1) (g 3) 9 = z 9 by rfl) (an (show zk b z (g 0) (g 1) (g 3) 10 = z 10 by rfl) (an (show zk b z (g 0) (g 1) (g 3) 11 = z 11 by rfl) (an (show zk b z (g 0) (g 1) (g 3) 12 = z 12 by rfl) (an (show zk b z (g 0) (g 1) (g 3) 13 = z 13 by rfl) (an (show zk b z (g 0) (g 1) (g 3) 14 = z 14 by rfl) (an (show zk b z (g 0) (g 1) (g 3) 15 = z 15 by rfl) (an (show zk b z (g 0) (g 1) (g 3) 16 = skC q2_ q1_ (g 0) (g 1) (g 3) 0 by rfl) (an (show zk b z (g 0) (g 1) (g 3) 17 = skC q2_ q1_ (g 0) (g 1) (g 3) 1 by rfl) (an (show zk b z (g 0) (g 1) (g 3) 18 = skC q2_ q1_ (g 0) (g 1) (g 3) 2 by rfl) (an (show zk b z (g 0) (g 1) (g 3) 19 = skC q2_ q1_ (g 0) (g 1) (g 3) 3 by rfl) (an (show zk b z (g 0) (g 1) (g 3) 20 = skC q2_ q1_ (g 0) (g 1) (g 3) 4 by rfl) (an (show zk b z (g 0) (g 1) (g 3) 21 = skC q2_ q1_ (g 0) (g 1) (g 3) 5 by rfl) (an (show zk b z (g 0) (g 1) (g 3) 22 = skC q2_ q1_ (g 0) (g 1) (g 3) 6 by rfl) (an (show zk b z (g 0) (g 1) (g 3) 23 = skC q2_ q1_ (g 0) (g 1) (g 3) 7 by rfl) (an (show zk b z (g 0) (g 1) (g 3) 24 = skC q2_ q1_ (g 0) (g 1) (g 3) 8 by rfl) (an (show zk b z (g 0) (g 1) (g 3) 25 = skC q2_ q1_ (g 0) (g 1) (g 3) 9 by rfl) (an (show zk b z (g 0) (g 1) (g 3) 26 = skC q2_ q1_ (g 0) (g 1) (g 3) 10 by rfl) (an (show zk b z (g 0) (g 1) (g 3) 27 = skC q2_ q1_ (g 0) (g 1) (g 3) 11 by rfl) (an (show zk b z (g 0) (g 1) (g 3) 28 = skC q2_ q1_ (g 0) (g 1) (g 3) 12 by rfl) (an (show zk b z (g 0) (g 1) (g 3) 29 = skC q2_ q1_ (g 0) (g 1) (g 3) 13 by rfl) (an (show zk b z (g 0) (g 1) (g 3) 30 = skC q2_ q1_ (g 0) (g 1) (g 3) 14 by rfl) (an (show zk b z (g 0) (g 1) (g 3) 31 = skC q2_ q1_ (g 0) (g 1) (g 3) 15 by rfl) (an tt (an tt tt)))))))))))))))))))))))))))))))))))) tt) (an (zo (an (ri (skCode (bl b) q1_ (g 0) (g 1))) (ri (skNum (bl b) q1_ (g 0) (g 1) (g 2))))) tt))) ?_
           kernel_rfl
     · exact ff (by ((try dsimp only [q1_, q2_] at *); first | (simp at *; omega) | (simp_all; done)))
    · exact ff (by ((try dsimp only [q1_, q2_] at *); first | (simp at *; omega) | (simp_all; done)))
end
end Go.Ideal.Bd

namespace Go.Ideal.Bd
section
open Go.Proofs Go.Ideal Go.Ideal.L1 Go.Ideal.K6
set_option linter.unusedSimpArgs false
set_option linter.unusedVariables false
set_option maxRecDepth 100000
set_option maxHeartbeats 80000000

theorem cZd2b_0 (b : Nat → Bool) (z : Nat → Int) {R : Prop} (h : R) : ((b 0):Bool) = (b 0) ∧ (((b 1):Bool) = (b 1) ∧ (((b 2):Bool) = (b 2) ∧ (((b 3):Bool) = (b 3) ∧ (((b 4):Bool) = (b 4) ∧ (((b 5):Bool) = (b 5) ∧ (((b 6):Bool) = (b 6) ∧ (((b 7):Bool) = (b 7) ∧ (((b 8):Bool) = (b 8) ∧ (((b 9):Bool) = (b 9) ∧ (((b 10):Bool) = (b 10) ∧ (((b 11):Bool) = (b 11) ∧ (((b 12):Bool) = (b 12) ∧ (((b 13):Bool) = (b 13) ∧ (((b 14):Bool) = (b 14) ∧ (((b 15):Bool) = (b 15) ∧ (((z 0):Int) = (z 0) ∧ (((z 1):Int) = (z 1) ∧ (((z 2):Int) = (z 2) ∧ (((z 3):Int) = (z 3) ∧ (((z 4):Int) = (z 4) ∧ (((z 5):Int) = (z 5) ∧ (((z 6):Int) = (z 6) ∧ (((z 7):Int) = (z 7) ∧ (((z 8):Int) = (z 8) ∧ (((z 9):Int) = (z 9) ∧ (((z 10):Int) = (z 10) ∧ (((z 11):Int) = (z 11) ∧ (((z 12):Int) = (z 12) ∧ (((z 13):Int) = (z 13) ∧ (((z 14):Int) = (z 14) ∧ (((z 15):Int) = (z 15) ∧ (((z 16):Int) = (z 16) ∧ (((z 17):Int) = (z 17) ∧ (((z 18):Int) = (z 18) ∧ (((z 19):Int) = (z 19) ∧ (((z 20):Int) = (z 20) ∧ (((z 21):Int) = (z 21) ∧ (((z 22):Int) = (z 22) ∧ (((z 23):Int) = (z 23) ∧ (((z 24):Int) = (z 24) ∧ (((z 25):Int) = (z 25) ∧ (((z 26):Int) = (z 26) ∧ (((z 27):Int) = (z 27) ∧ (((z 28):Int) = (z 28) ∧ (((z 29):Int) = (z 29) ∧ (((z 30):Int) = (z 30) ∧ (R))))))))))))))))))))))))))))))))))))))))))))))) := ⟨rfl, ⟨rfl, ⟨rfl, ⟨rfl, ⟨rfl, ⟨rfl, ⟨rfl, ⟨rfl, ⟨rfl, ⟨rfl, ⟨rfl, ⟨rfl, ⟨rfl, ⟨rfl, ⟨rfl, ⟨rfl, ⟨rfl, ⟨rfl, ⟨rfl, ⟨rfl, ⟨rfl, ⟨rfl, ⟨rfl, ⟨rfl, ⟨rfl, ⟨rfl, ⟨rfl, ⟨rfl, ⟨rfl, ⟨rfl, ⟨rfl, ⟨rfl, ⟨rfl, ⟨rfl, ⟨rfl, ⟨rfl, ⟨rfl, ⟨rfl, ⟨rfl, ⟨rfl, ⟨rfl, ⟨rfl, ⟨rfl, ⟨rfl, ⟨rfl, ⟨rfl, ⟨rfl, h⟩⟩⟩⟩⟩⟩⟩⟩⟩⟩⟩⟩⟩⟩⟩⟩⟩⟩⟩⟩⟩⟩⟩⟩⟩⟩⟩⟩⟩⟩⟩⟩⟩⟩⟩⟩⟩⟩⟩⟩⟩⟩⟩⟩⟩⟩⟩
theorem cZd2b_1 (b : Nat → Bool) {R : Prop} (h : R) : ((b 0):Bool) = (b 0) ∧ (((b 1):Bool) = (b 1) ∧ (((b 2):Bool) = (b 2) ∧ (((b 3):Bool) = (b 3) ∧ (((b 4):Bool) = (b 4) ∧ (((b 5):Bool) = (b 5) ∧ (((b 6):Bool) = (b 6) ∧ (((b 7):Bool) = (b 7) ∧ (((b 8):Bool) = (b 8) ∧ (((b 9):Bool) = (b 9) ∧ (((b 10):Bool) = (b 10) ∧ (((b 11):Bool) = (b 11) ∧ (((b 12):Bool) = (b 12) ∧ (((b 13):Bool) = (b 13) ∧ (((b 14):Bool) = (b 14) ∧ (((b 15):Bool) = (b 15) ∧ (R)))))))))))))))) := ⟨rfl, ⟨rfl, ⟨rfl, ⟨rfl, ⟨rfl, ⟨rfl, ⟨rfl, ⟨rfl, ⟨rfl, ⟨rfl, ⟨rfl, ⟨rfl, ⟨rfl, ⟨rfl, ⟨rfl, ⟨rfl, h⟩⟩⟩⟩⟩⟩⟩⟩⟩⟩⟩⟩⟩⟩⟩⟩
theorem bd2bbn (g : Nat → Int) (N m c:Nat) (b : Nat → Bool) (z : Nat → Int) (hm9 : m < 9223372036854775808) (hN : m * 4 ≤ N) (hm : m = 2) (ho : B1.opsB g m = true) (hv0 : B1.allMay (zl z) = true) (ho0 : B1.opMay (g 0) (g 1) (g 2) (g 3) = true) (hp0 : B1.opMayL [g 0, g 1, g 2, g 3] = true) (hk0 : 0 ≤ g 0 ∧ g 0 ≤ 5) (hb0 : B1.bkMay (zl z) (g 0) (g 1) (g 2) (g 3) = true) (hd0 : (B1.bkD (bl b) (g 0) (g 1) (g 2)) = -1) (hc0 : (B1.bkCode (z 16) (z 17) (z 18) (z 19) (g 0) (g 1) (g 2) (g 3)) = 0) (hv1 : B1.allMay (lB z g) = true) (ho1 : B1.opMay (g 4) (g 5) (g 6) (g 7) = true) (hp1 : B1.opMayL [g 4, g 5, g 6, g 7] = true) (hk1 : 0 ≤ g 4 ∧ g 4 ≤ 5) (hb1 : B1.bkMay (lB z g) (g 4) (g 5) (g 6) (g 7) = true) (hd1 : (B1.bkD (bl b) (g 4) (g 5) (g 6)) ≠ -1) (hd1' : 0 ≤ (B1.bkD (bl b) (g 4) (g 5) (g 6))) : ∃ hh, vcOf (runCall Try.prog dosB noL 6000 22 [.agg (viewOf (bl b) (zl z)), .slice 0 (.c 0) (.s m) 4 (.s c)] (Hm [some (.ext g (.s N))] 1) hh) (fun v H1 => retP 1 (0 :: lastBlk v) v H1 (askN (B1.bkD (bl b) (g 4) (g 5) (g 6)) b z) [none] 1) := by

  let q1_ := [z 0, z 1, z 2, z 3, z 4, z 5, z 6, z 7, z 8, z 9, z 10, z 11, z 12, z 13, z 14, z 15, z 16, z 17, z 18, z 19, z 20, z 21, z 22, z 23, z 24, z 25, z 26, z 27, z 28, z 29, z 30, z 31]
  let q2_ := [b 0, b 1, b 2, b 3, b 4, b 5, b 6, b 7, b 8, b 9, b 10, b 11, b 12, b 13, b 14, b 15]
  rcases eb (!B1.allMay q1_) with h0 | h0
  · exact ff (by (try dsimp only [q1_, q2_] at *); simp [ho, hv0, ho0, hp0, hb0, hd0, hc0, hv1, ho1, hp1, hb1, hd1, hd1'] at *)
  ·
   rcases eb (!B1.opsB g m) with h1 | h1
   · exact ff (by (try dsimp only [q1_, q2_] at *); simp [ho, hv0, ho0, hp0, hb0, hd0, hc0, hv1, ho1, hp1, hb1, hd1, hd1'] at *)
   ·
    rcases eb (decide ((0:Int) < (↑m:Int))) with h2 | h2
    ·
     rcases eb (decide (g 0 ≥ (0:Int))) with h3 | h3
     ·
      rcases eb (decide (g 0 ≤ (5:Int))) with h4 | h4
      ·
       rcases eb (!B1.bkMay q1_ (g 0) (g 1) (g 2) (g 3)) with h5 | h5
       · exact ff (by (try dsimp only [q1_, q2_] at *); simp [ho, hv0, ho0, hp0, hb0, hd0, hc0, hv1, ho1, hp1, hb1, hd1, hd1'] at *)
       ·
        rcases eb (decide ((0:Int) ≤ B1.bkD q2_ (g 0) (g 1) (g 2))) with h6 | h6
        · exact ff (by (try dsimp only [q1_, q2_] at *); simp [ho, hv0, ho0, hp0, hb0, hd0, hc0, hv1, ho1, hp1, hb1, hd1, hd1'] at *)
        ·
         rcases eb (B1.bkCode (z 16) (z 17) (z 18) (z 19) (g 0) (g 1) (g 2) (g 3) != (0:Int)) with h7 | h7
         · exact ff (by ((try dsimp only [q1_, q2_] at *); first | (simp at *; omega) | (simp_all; done)))
         ·
          rcases eb (decide ((1:Int) < (↑m:Int))) with h8 | h8
          ·
           rcases eb (decide (g 4 ≥ (0:Int))) with h9 | h9
           ·
            rcases eb (decide (g 4 ≤ (5:Int))) with h10 | h10
            ·
             rcases eb (!B1.bkMay [z 0, z 1, z 2, z 3, z 4, z 5, z 6, z 7, z 8, z 9, z 10, z 11, z 12, z 13, z 14, z 15, B1.bkNow (z 16) (z 17) (z 18) (z 19) (g 0) (g 1) (g 2) (g 3) 0, B1.bkNow (z 16) (z 17) (z 18) (z 19) (g 0) (g 1) (g 2) (g 3) 1, B1.bkNow (z 16) (z 17) (z 18) (z 19) (g 0) (g 1) (g 2) (g 3) 2, B1.bkNow (z 16) (z 17) (z 18) (z 19) (g 0) (g 1) (g 2) (g 3) 3, z 20, z 21, z 22, z 23, z 24, z 25, z 26, z 27, z 28, z 29, z 30, z 31] (g 4) (g 5) (g 6) (g 7)) with h11 | h11
             · exact ff (by (try dsimp only [q1_, q2_] at *); simp [ho, hv0, ho0, hp0, hb0, hd0, hc0, hv1, ho1, hp1, hb1, hd1, hd1'] at *)
             ·
              rcases eb (decide ((0:Int) ≤ B1.bkD q2_ (g 4) (g 5) (g 6))) with h12 | h12
              ·
               rcases eb (decide (B1.bkD q2_ (g 4) (g 5) (g 6) ≥ (0:Int))) with h13 | h13
               ·
                refine vcIntro (hx2 14 14108) (an (an h13 (an h12 (an h11 (an h10 (an h9 (an (show (5:Nat) ≤ N by (try dsimp only [q1_, q2_] at *); omega) (an (show (6:Nat) ≤ N by (try dsimp only [q1_, q2_] at *); omega) (an (show (7:Nat) ≤ N by (try dsimp only [q1_, q2_] at *); omega) (an (show (8:Nat) ≤ N by (try dsimp only [q1_, q2_] at *); omega) (an (an (show (0:Int) ≤ (1:Int) by (try dsimp only [q1_, q2_] at *); simp) (show (2:Int) ≤ (↑m:Int) by (try dsimp only [q1_, q2_] at *); omega)) (an h8 (an h7 (an h6 (an h5 (an h4 (an h3 (an (show (1:Nat) ≤ N by (try dsimp only [q1_, q2_] at *); omega) (an (show (2:Nat) ≤ N by (try dsimp only [q1_, q2_] at *); omega) (an (show (3:Nat) ≤ N by (try dsimp only [q1_, q2_] at *); omega) (an (show (4:Nat) ≤ N by (try dsimp only [q1_, q2_] at *); omega) (an (an (show (0:Int) ≤ (0:Int) by (try dsimp only [q1_, q2_] at *); simp) (show (1:Int) ≤ (↑m:Int) by (try dsimp only [q1_, q2_] at *); omega)) (an h2 (an h1 (an (an (show m * (4:Nat) ≤ N by (try dsimp only [q1_, q2_] at *); omega) (show m.succ ≤ (9223372036854775808:Nat) by (try dsimp only [q1_, q2_] at *); omega)) (an h0 tt))))))))))))))))))))))))) (an (an (an (ri (B1.bkD (bl b) (g 4) (g 5) (g 6))) (cZd2b_0 b z (an (ri (z 31)) tt))) tt) tt)) ?_
                kernel_rfl
               · exact ff (by ((try dsimp only [q1_, q2_] at *); first | (simp at *; omega) | (simp_all; done)))
              · exact ff (by (try dsimp only [q1_, q2_] at *); simp [ho, hv0, ho0, hp0, hb0, hd0, hc0, hv1, ho1, hp1, hb1, hd1, hd1'] at *)
            · exact ff (by ((try dsimp only [q1_, q2_] at *); first | (simp at *; omega) | (simp_all; done)))
           · exact ff (by ((try dsimp only [q1_, q2_] at *); first | (simp at *; omega) | (simp_all; done)))
          · exact ff (by ((try dsimp only [q1_, q2_] at *); first | (simp at *; omega) | (simp_all; done)))
      · exact ff (by ((try dsimp only [q1_, q2_] at *); first | (simp at *; omega) | (simp_all; done)))
     · exact ff (by ((try dsimp only [q1_, q2_] at *); first | (simp at *; omega) | (simp_all; done)))
    · exact ff (by ((try dsimp only [q1_, q2_] at *); first | (simp at *; omega) | (simp_all; done)))
theorem bd2bbr (g : Nat → Int) (N m c:Nat) (b : Nat → Bool) (z : Nat → Int) (hm9 : m < 9223372036854775808) (hN : m * 4 ≤ N) (hm : m = 2) (ho : B1.opsB g m = true) (hv0 : B1.allMay (zl z) = true) (ho0 : B1.opMay (g 0) (g 1) (g 2) (g 3) = true) (hp0 : B1.opMayL [g 0, g 1, g 2, g 3] = true) (hk0 : 0 ≤ g 0 ∧ g 0 ≤ 5) (hb0 : B1.bkMay (zl z) (g 0) (g 1) (g 2) (g 3) = true) (hd0 : (B1.bkD (bl b) (g 0) (g 1) (g 2)) = -1) (hc0 : (B1.bkCode (z 16) (z 17) (z 18) (z 19) (g 0) (g 1) (g 2) (g 3)) = 0) (hv1 : B1.allMay (lB z g) = true) (ho1 : B1.opMay (g 4) (g 5) (g 6) (g 7) = true) (hp1 : B1.opMayL [g 4, g 5, g 6, g 7] = true) (hk1 : 0 ≤ g 4 ∧ g 4 ≤ 5) (hb1 : B1.bkMay (lB z g) (g 4) (g 5) (g 6) (g 7) = true) (hd1 : (B1.bkD (bl b) (g 4) (g 5) (g 6)) = -1) (hc1 : (B1.bkCode (B1.bkNow (z 16) (z 17) (z 18) (z 19) (g 0) (g 1) (g 2) (g 3) 0) (B1.bkNow (z 16) (z 17) (z 18) (z 19) (g 0) (g 1) (g 2) (g 3) 1) (B1.bkNow (z 16) (z 17) (z 18) (z 19) (g 0) (g 1) (g 2) (g 3) 2) (B1.bkNow (z 16) (z 17) (z 18) (z 19) (g 0) (g 1) (g 2) (g 3) 3) (g 4) (g 5) (g 6) (g 7)) ≠ 0) : ∃ hh, vcOf (runCall Try.prog dosB noL 6000 22 [.agg (viewOf (bl b) (zl z)), .slice 0 (.c 0) (.s m) 4 (.s c)] (Hm [some (.ext g (.s N))] 1) hh) (fun v H1 => retP 1 (0 :: lastBlk v) v H1 (askD 2 b z) (ans2 (B1.bkCode (z 16) (z 17) (z 18) (z 19) (g 0) (g 1) (g 2) (g 3)) (B1.bkNum (z 16) (z 17) (z 18) (z 19) (g 0) (g 1) (g 2) (g 3)) (B1.bkCode ((zb z (g 0) (g 1) (g 2) (g 3)) 16) ((zb z (g 0) (g 1) (g 2) (g 3)) 17) ((zb z (g 0) (g 1) (g 2) (g 3)) 18) ((zb z (g 0) (g 1) (g 2) (g 3)) 19) (g 4) (g 5) (g 6) (g 7)) (B1.bkNum ((zb z (g 0) (g 1) (g 2) (g 3)) 16) ((zb z (g 0) (g 1) (g 2) (g 3)) 17) ((zb z (g 0) (g 1) (g 2) (g 3)) 18) ((zb z (g 0) (g 1) (g 2) (g 3)) 19) (g 4) (g 5) (g 6) (g 7))) 2) := by

  let q1_ := [z 0, z 1, z 2, z 3, z 4, z 5, z 6, z 7, z 8, z 9, z 10, z 11, z 12, z 13, z 14, z 15, z 16, z 17, z 18, z 19, z 20, z 21, z 22, z 23, z 24, z 25, z 26, z 27, z 28, z 29, z 30, z 31]
  let q2_ := (B1.bkNow (z 16) (z 17) (z 18) (z 19) (g 0) (g 1) (g 2) (g 3) 0)
  let q3_ := (B1.bkNow (z 16) (z 17) (z 18) (z 19) (g 0) (g 1) (g 2) (g 3) 1)
  let q4_ := (B1.bkNow (z 16) (z 17) (z 18) (z 19) (g 0) (g 1) (g 2) (g 3) 2)
  let q5_ := (B1.bkNow (z 16) (z 17) (z 18) (z 19) (g 0) (g 1) (g 2) (g 3) 3)
  let q6_ := [b 0, b 1, b 2, b 3, b 4, b 5, b 6, b 7, b 8, b 9, b 10, b 11, b 12, b 13, b 14, b 15]
  rcases eb (!B1.allMay q1_) with h0 | h0
  · exact ff (by (try dsimp only [q1_, q2_, q3_, q4_, q5_, q6_] at *); simp [ho, hv0, ho0, hp0, hb0, hd0, hc0, hv1, ho1, hp1, hb1, hd1, hc1] at *)
  ·
   rcases eb (!B1.opsB g m) with h1 | h1
   · exact ff (by (try dsimp only [q1_, q2_, q3_, q4_, q5_, q6_] at *); simp [ho, hv0, ho0, hp0, hb0, hd0, hc0, hv1, ho1, hp1, hb1, hd1, hc1] at *)
   ·
    rcases eb (decide ((0:Int) < (↑m:Int))) with h2 | h2
    ·
     rcases eb (decide (g 0 ≥ (0:Int))) with h3 | h3
     ·
      rcases eb (decide (g 0 ≤ (5:Int))) with h4 | h4
      ·
       rcases eb (!B1.bkMay q1_ (g 0) (g 1) (g 2) (g 3)) with h5 | h5
       · exact ff (by (try dsimp only [q1_, q2_, q3_, q4_, q5_, q6_] at *); simp [ho, hv0, ho0, hp0, hb0, hd0, hc0, hv1, ho1, hp1, hb1, hd1, hc1] at *)
       ·
        rcases eb (decide ((0:Int) ≤ B1.bkD q6_ (g 0) (g 1) (g 2))) with h6 | h6
        · exact ff (by (try dsimp only [q1_, q2_, q3_, q4_, q5_, q6_] at *); simp [ho, hv0, ho0, hp0, hb0, hd0, hc0, hv1, ho1, hp1, hb1, hd1, hc1] at *)
        ·
         rcases eb (B1.bkCode (z 16) (z 17) (z 18) (z 19) (g 0) (g 1) (g 2) (g 3) != (0:Int)) with h7 | h7
         · exact ff (by ((try dsimp only [q1_, q2_, q3_, q4_, q5_, q6_] at *); first | (simp at *; omega) | (simp_all; done)))
         ·
          rcases eb (decide ((1:Int) < (↑m:Int))) with h8 | h8
          ·
           rcases eb (decide (g 4 ≥ (0:Int))) with h9 | h9
           ·
            rcases eb (decide (g 4 ≤ (5:Int))) with h10 | h10
            ·
             rcases eb (!B1.bkMay [z 0, z 1, z 2, z 3, z 4, z 5, z 6, z 7, z 8, z 9, z 10, z 11, z 12, z 13, z 14, z 15, B1.bkNow (z 16) (z 17) (z 18) (z 19) (g 0) (g 1) (g 2) (g 3) 0, B1.bkNow (z 16) (z 17) (z 18) (z 19) (g 0) (g 1) (g 2) (g 3) 1, B1.bkNow (z 16) (z 17) (z 18) (z 19) (g 0) (g 1) (g 2) (g 3) 2, B1.bkNow (z 16) (z 17) (z 18) (z 19) (g 0) (g 1) (g 2) (g 3) 3, z 20, z 21, z 22, z 23, z 24, z 25, z 26, z 27, z 28, z 29, z 30, z 31] (g 4) (g 5) (g 6) (g 7)) with h11 | h11
             · exact ff (by (try dsimp only [q1_, q2_, q3_, q4_, q5_, q6_] at *); simp [ho, hv0, ho0, hp0, hb0, hd0, hc0, hv1, ho1, hp1, hb1, hd1, hc1] at *)
             ·
              rcases eb (decide ((0:Int) ≤ B1.bkD q6_ (g 4) (g 5) (g 6))) with h12 | h12
              · exact ff (by (try dsimp only [q1_, q2_, q3_, q4_, q5_, q6_] at *); simp [ho, hv0, ho0, hp0, hb0, hd0, hc0, hv1, ho1, hp1, hb1, hd1, hc1] at *)
              ·
               rcases eb (B1.bkCode q2_ q3_ q4_ q5_ (g 4) (g 5) (g 6) (g 7) != (0:Int)) with h13 | h13
               ·
                refine vcIntro (hx2 14 10012) (an (an h13 (an h12 (an h11 (an h10 (an h9 (an (show (5:Nat) ≤ N by (try dsimp only [q1_, q2_, q3_, q4_, q5_, q6_] at *); omega) (an (show (6:Nat) ≤ N by (try dsimp only [q1_, q2_, q3_, q4_, q5_, q6_] at *); omega) (an (show (7:Nat) ≤ N by (try dsimp only [q1_, q2_, q3_, q4_, q5_, q6_] at *); omega) (an (show (8:Nat) ≤ N by (try dsimp only [q1_, q2_, q3_, q4_, q5_, q6_] at *); omega) (an (an (show (0:Int) ≤ (1:Int) by (try dsimp only [q1_, q2_, q3_, q4_, q5_, q6_] at *); simp) (show (2:Int) ≤ (↑m:Int) by (try dsimp only [q1_, q2_, q3_, q4_, q5_, q6_] at *); omega)) (an h8 (an h7 (an h6 (an h5 (an h4 (an h3 (an (show (1:Nat) ≤ N by (try dsimp only [q1_, q2_, q3_, q4_, q5_, q6_] at *); omega) (an (show (2:Nat) ≤ N by (try dsimp only [q1_, q2_, q3_, q4_, q5_, q6_] at *); omega) (an (show (3:Nat) ≤ N by (try dsimp only [q1_, q2_, q3_, q4_, q5_, q6_] at *); omega) (an (show (4:Nat) ≤ N by (try dsimp only [q1_, q2_, q3_, q4_, q5_, q6_] at *); omega) (an (an (show (0:Int) ≤ (0:Int) by (try dsimp only [q1_, q2_, q3_, q4_, q5_, q6_] at *); simp) (show (1:Int) ≤ (↑m:Int) by (try dsimp only [q1_, q2_, q3_, q4_, q5_, q6_] at *); omega)) (an h2 (an h1 (an (an (show m * (4:Nat) ≤ N by (try dsimp only [q1_, q2_, q3_, q4_, q5_, q6_] at *); omega) (show m.succ ≤ (9223372036854775808:Nat) by (try dsimp only [q1_, q2_, q3_, q4_, q5_, q6_] at *); omega)) (an h0 tt))))))))))))))))))))))))) (an (an (an tt (cZd2b_0 b z (an (ri (z 31)) (an tt (an tt tt))))) tt) (an (zo (an (ri (B1.bkCode (z 16) (z 17) (z 18) (z 19) (g 0) (g 1) (g 2) (g 3))) (an (ri (B1.bkNum (z 16) (z 17) (z 18) (z 19) (g 0) (g 1) (g 2) (g 3))) (an (show B1.bkCode (zb z (g 0) (g 1) (g 2) (g 3) 16) (zb z (g 0) (g 1) (g 2) (g 3) 17) (zb z (g 0) (g 1) (g 2) (g 3) 18) (zb z (g 0) (g 1) (g 2) (g 3) 19) (g 4) (g 5) (g 6) (g 7) = B1.bkCode q2_ q3_ q4_ q5_ (g 4) (g 5) (g 6) (g 7) by rfl) (show B1.bkNum (zb z (g 0) (g 1) (g 2) (g 3) 16) (zb z (g 0) (g 1) (g 2) (g 3) 17) (zb z (g 0) (g 1) (g 2) (g 3) 18) (zb z (g 0) (g 1) (g 2) (g 3) 19) (g 4) (g 5) (g 6) (g 7) = B1.bkNum q2_ q3_ q4_ q5_ (g 4) (g 5) (g 6) (g 7) by rfl))))) tt))) ?_
                kernel_rfl
               · exact ff (by ((try dsimp only [q1_, q2_, q3_, q4_, q5_, q6_] at *); first | (simp at *; omega) | (simp_all; done)))
            · exact ff (by ((try dsimp only [q1_, q2_, q3_, q4_, q5_, q6_] at *); first | (simp at *; omega) | (simp_all; done)))
           · exact ff (by ((try dsimp only [q1_, q2_, q3_, q4_, q5_, q6_] at *); first | (simp at *; omega) | (simp_all; done)))
          · exact ff (by ((try dsimp only [q1_, q2_, q3_, q4_, q5_, q6_] at *); first | (simp at *; omega) | (simp_all; done)))
      · exact ff (by ((try dsimp only [q1_, q2_, q3_, q4_, q5_, q6_] at *); first | (simp at *; omega) | (simp_all; done)))
     · exact ff (by ((try dsimp only [q1_, q2_, q3_, q4_, q5_, q6_] at *); first | (simp at *; omega) | (simp_all; done)))
    · exact ff (by ((try dsimp only [q1_, q2_, q3_, q4_, q5_, q6_] at *); first | (simp at *; omega) | (simp_all; done)))
theorem bd2bbd (g : Nat → Int) (N m c:Nat) (b : Nat → Bool) (z : Nat → Int) (hm9 : m < 9223372036854775808) (hN : m * 4 ≤ N) (hm : m = 2) (ho : B1.opsB g m = true) (hv0 : B1.allMay (zl z) = true) (ho0 : B1.opMay (g 0) (g 1) (g 2) (g 3) = true) (hp0 : B1.opMayL [g 0, g 1, g 2, g 3] = true) (hk0 : 0 ≤ g 0 ∧ g 0 ≤ 5) (hb0 : B1.bkMay (zl z) (g 0) (g 1) (g 2) (g 3) = true) (hd0 : (B1.bkD (bl b) (g 0) (g 1) (g 2)) = -1) (hc0 : (B1.bkCode (z 16) (z 17) (z 18) (z 19) (g 0) (g 1) (g 2) (g 3)) = 0) (hv1 : B1.allMay (lB z g) = true) (ho1 : B1.opMay (g 4) (g 5) (g 6) (g 7) = true) (hp1 : B1.opMayL [g 4, g 5, g 6, g 7] = true) (hk1 : 0 ≤ g 4 ∧ g 4 ≤ 5) (hb1 : B1.bkMay (lB z g) (g 4) (g 5) (g 6) (g 7) = true) (hd1 : (B1.bkD (bl b) (g 4) (g 5) (g 6)) = -1) (hc1 : (B1.bkCode (B1.bkNow (z 16) (z 17) (z 18) (z 19) (g 0) (g 1) (g 2) (g 3) 0) (B1.bkNow (z 16) (z 17) (z 18) (z 19) (g 0) (g 1) (g 2) (g 3) 1) (B1.bkNow (z 16) (z 17) (z 18) (z 19) (g 0) (g 1) (g 2) (g 3) 2) (B1.bkNow (z 16) (z 17) (z 18) (z 19) (g 0) (g 1) (g 2) (g 3) 3) (g 4) (g 5) (g 6) (g 7)) = 0) : ∃ hh, vcOf (runCall Try.prog dosB noL 6000 22 [.agg (viewOf (bl b) (zl z)), .slice 0 (.c 0) (.s m) 4 (.s c)] (Hm [some (.ext g (.s N))] 1) hh) (fun v H1 => retP 1 (0 :: lastBlk v) v H1 (askD 2 b (zb (zb z (g 0) (g 1) (g 2) (g 3)) (g 4) (g 5) (g 6) (g 7))) (ans2 (B1.bkCode (z 16) (z 17) (z 18) (z 19) (g 0) (g 1) (g 2) (g 3)) (B1.bkNum (z 16) (z 17) (z 18) (z 19) (g 0) (g 1) (g 2) (g 3)) (B1.bkCode ((zb z (g 0) (g 1) (g 2) (g 3)) 16) ((zb z (g 0) (g 1) (g 2) (g 3)) 17) ((zb z (g 0) (g 1) (g 2) (g 3)) 18) ((zb z (g 0) (g 1) (g 2) (g 3)) 19) (g 4) (g 5) (g 6) (g 7)) (B1.bkNum ((zb z (g 0) (g 1) (g 2) (g 3)) 16) ((zb z (g 0) (g 1) (g 2) (g 3)) 17) ((zb z (g 0) (g 1) (g 2) (g 3)) 18) ((zb z (g 0) (g 1) (g 2) (g 3)) 19) (g 4) (g 5) (g 6) (g 7))) 2) := by

  let q1_ := (zb z (g 0) (g 1) (g 2) (g 3))
  let q2_ := (B1.bkNow (z 16) (z 17) (z 18) (z 19) (g 0) (g 1) (g 2) (g 3) 0)
  let q3_ := (B1.bkNow (z 16) (z 17) (z 18) (z 19) (g 0) (g 1) (g 2) (g 3) 1)
  let q4_ := (B1.bkNow (z 16) (z 17) (z 18) (z 19) (g 0) (g 1) (g 2) (g 3) 2)
  let q5_ := (B1.bkNow (z 16) (z 17) (z 18) (z 19) (g 0) (g 1) (g 2) (g 3) 3)
  let q6_ := [z 0, z 1, z 2, z 3, z 4, z 5, z 6, z 7, z 8, z 9, z 10, z 11, z 12, z 13, z 14, z 15, z 16, z 17, z 18, z 19, z 20, z 21, z 22, z 23, z 24, z 25, z 26, z 27, z 28, z 29, z 30, z 31]
  let q7_ := [b 0, b 1, b 2, b 3, b 4, b 5, b 6, b 7, b 8, b 9, b 10, b 11, b 12, b 13, b 14, b 15]
  rcases eb (!B1.allMay q6_) with h0 | h0
  · exact ff (by (try dsimp only [q1_, q2_, q3_, q4_, q5_, q6_, q7_] at *); simp [ho, hv0, ho0, hp0, hb0, hd0, hc0, hv1, ho1, hp1, hb1, hd1, hc1] at *)
  ·
   rcases eb (!B1.opsB g m) with h1 | h1
   · exact ff (by (try dsimp only [q1_, q2_, q3_, q4_, q5_, q6_, q7_] at *); simp [ho, hv0, ho0, hp0, hb0, hd0, hc0, hv1, ho1, hp1, hb1, hd1, hc1] at *)
   ·
    rcases eb (decide ((0:Int) < (↑m:Int))) with h2 | h2
    ·
     rcases eb (decide (g 0 ≥ (0:Int))) with h3 | h3
     ·
      rcases eb (decide (g 0 ≤ (5:Int))) with h4 | h4
      ·
       rcases eb (!B1.bkMay q6_ (g 0) (g 1) (g 2) (g 3)) with h5 | h5
       · exact ff (by (try dsimp only [q1_, q2_, q3_, q4_, q5_, q6_, q7_] at *); simp [ho, hv0, ho0, hp0, hb0, hd0, hc0, hv1, ho1, hp1, hb1, hd1, hc1] at *)
       ·
        rcases eb (decide ((0:Int) ≤ B1.bkD q7_ (g 0) (g 1) (g 2))) with h6 | h6
        · exact ff (by (try dsimp only [q1_, q2_, q3_, q4_, q5_, q6_, q7_] at *); simp [ho, hv0, ho0, hp0, hb0, hd0, hc0, hv1, ho1, hp1, hb1, hd1, hc1] at *)
        ·
         rcases eb (B1.bkCode (z 16) (z 17) (z 18) (z 19) (g 0) (g 1) (g 2) (g 3) != (0:Int)) with h7 | h7
         · exact ff (by ((try dsimp only [q1_, q2_, q3_, q4_, q5_, q6_, q7_] at *); first | (simp at *; omega) | (simp_all; done)))
         ·
          rcases eb (decide ((1:Int) < (↑m:Int))) with h8 | h8
          ·
           rcases eb (decide (g 4 ≥ (0:Int))) with h9 | h9
           ·
            rcases eb (decide (g 4 ≤ (5:Int))) with h10 | h10
            ·
             rcases eb (!B1.bkMay [z 0, z 1, z 2, z 3, z 4, z 5, z 6, z 7, z 8, z 9, z 10, z 11, z 12, z 13, z 14, z 15, B1.bkNow (z 16) (z 17) (z 18) (z 19) (g 0) (g 1) (g 2) (g 3) 0, B1.bkNow (z 16) (z 17) (z 18) (z 19) (g 0) (g 1) (g 2) (g 3) 1, B1.bkNow (z 16) (z 17) (z 18) (z 19) (g 0) (g 1) (g 2) (g 3) 2, B1.bkNow (z 16) (z 17) (z 18) (z 19) (g 0) (g 1) (g 2) (g 3) 3, z 20, z 21, z 22, z 23, z 24, z 25, z 26, z 27, z 28, z 29, z 30, z 31] (g 4) (g 5) (g 6) (g 7)) with h11 | h11
             · exact ff (by (try dsimp only [q1_, q2_, q3_, q4_, q5_, q6_, q7_] at *); simp [ho, hv0, ho0, hp0, hb0, hd0, hc0, hv1, ho1, hp1, hb1, hd1, hc1] at *)
             ·
              rcases eb (decide ((0:Int) ≤ B1.bkD q7_ (g 4) (g 5) (g 6))) with h12 | h12
              · exact ff (by (try dsimp only [q1_, q2_, q3_, q4_, q5_, q6_, q7_] at *); simp [ho, hv0, ho0, hp0, hb0, hd0, hc0, hv1, ho1, hp1, hb1, hd1, hc1] at *)
              ·
               rcases eb (B1.bkCode q2_ q3_ q4_ q5_ (g 4) (g 5) (g 6) (g 7) != (0:Int)) with h13 | h13
               · exact ff (by ((try dsimp only [q1_, q2_, q3_, q4_, q5_, q6_, q7_] at *); first | (simp at *; omega) | (simp_all; done)))
               ·
                rcases eb (decide ((2:Int) < (↑m:Int))) with h14 | h14
                · exact ff (by ((try dsimp only [q1_, q2_, q3_, q4_, q5_, q6_, q7_] at *); first | (simp at *; omega) | (simp_all; done)))
                ·
                 refine vcIntro (hx2 15 1820) (an (an h14 (an h13 (an h12 (an h11 (an h10 (an h9 (an (show (5:Nat) ≤ N by (try dsimp only [q1_, q2_, q3_, q4_, q5_, q6_, q7_] at *); omega) (an (show (6:Nat) ≤ N by (try dsimp only [q1_, q2_, q3_, q4_, q5_, q6_, q7_] at *); omega) (an (show (7:Nat) ≤ N by (try dsimp only [q1_, q2_, q3_, q4_, q5_, q6_, q7_] at *); omega) (an (show (8:Nat) ≤ N by (try dsimp only [q1_, q2_, q3_, q4_, q5_, q6_, q7_] at *); omega) (an (an (show (0:Int) ≤ (1:Int) by (try dsimp only [q1_, q2_, q3_, q4_, q5_, q6_, q7_] at *); simp) (show (2:Int) ≤ (↑m:Int) by (try dsimp only [q1_, q2_, q3_, q4_, q5_, q6_, q7_] at *); omega)) (an h8 (an h7 (an h6 (an h5 (an h4 (an h3 (an (show (1:Nat) ≤ N by (try dsimp only [q1_, q2_, q3_, q4_, q5_, q6_, q7_] at *); omega) (an (show (2:Nat) ≤ N by (try dsimp only [q1_, q2_, q3_, q4_, q5_, q6_, q7_] at *); omega) (an (show (3:Nat) ≤ N by (try dsimp only [q1_, q2_, q3_, q4_, q5_, q6_, q7_] at *); omega) (an (show (4:Nat) ≤ N by (try dsimp only [q1_, q2_, q3_, q4_, q5_, q6_, q7_] at *); omega) (an (an (show (0:Int) ≤ (0:Int) by (try dsimp only [q1_, q2_, q3_, q4_, q5_, q6_, q7_] at *); simp) (show (1:Int) ≤ (↑m:Int) by (try dsimp only [q1_, q2_, q3_, q4_, q5_, q6_, q7_] at *); omega)) (an h2 (an h1 (an (an (show m * (4:Nat) ≤ N by (try dsimp only [q1_, q2_, q3_, q4_, q5_, q6_, q7_] at *); omega) (show m.succ ≤ (9223372036854775808:Nat) by (try dsimp only [q1_, q2_, q3_, q4_, q5_, q6_, q7_] at *); omega)) (an h0 tt)))))))))))))))))))))))))) (an (an (an tt (cZd2b_1 b (an (show zb q1_ (g 4) (g 5) (g 6) (g 7) 0 = z 0 by rfl) (an (show zb q1_ (g 4) (g 5) (g 6) (g 7) 1 = z 1 by rfl) (an (show zb q1_ (g 4) (g 5) (g 6) (g 7) 2 = z 2 by rfl) (an (show zb q1_ (g 4) (g 5) (g 6) (g 7) 3 = z 3 by rfl) (an (show zb q1_ (g 4) (g 5) (g 6) (g 7) 4 = z 4 by rfl) (an (show zb q1_ (g 4) (g 5) (g 6) (g 7) 5 = z 5 by rfl) (an (show zb q1_ (g 4) (g 5) (g 6) (g 7) 6 = z 6 by rfl) (an (show zb q1_ (g 4) (g 5) (g 6) (g 7) 7 = z 7 by rfl) (an (show zb q1_ (g 4) (g 5) (g 6) (g 7) 8 = z 8 by rfl) (an (show zb q1_ (g 4) (g 5) (g 6) (g 7) 9 = z 9 by rfl) (an (show zb q1_ (g 4) (g 5) (g 6) (g 7) 10 = z 10 by rfl) (an (show zb q1_ (g 4) (g 5) (g 6) (g 7) 11 = z 11 by rfl) (an (show zb q1_ (g 4) (g 5) (g 6) (g 7) 12 = z 12 by rfl) (an (show zb q1_ (g 4) (g 5) (g 6) (g 7) 13 = z 13 by rfl) (an (show zb q1_ (g 4) (g 5) (g 6) (g 7) 14 = z 14 by rfl) (an (show zb q1_ (g 4) (g 5) (g 6) (g 7) 15 = z 15 by rfl) (an (show zb q1_ (g 4) (g 5) (g 6) (g 7) 16 = B1.bkNow q2_ q3_ q4_ q5_ (g 4) (g 5) (g 6) (g 7) 0 by rfl) (an (show zb q1_ (g 4) (g 5) (g 6) (g 7) 17 = B1.bkNow q2_ q3_ q4_ q5_ (g 4) (g 5) (g 6) (g 7) 1 by rfl) (an (show zb q1_ (g 4) (g 5) (g 6) (g 7) 18 = B1.bkNow q2_ q3_ q4_ q5_ (g 4) (g 5) (g 6) (g 7) 2 by rfl) (an (show zb q1_ (g 4) (g 5) (g 6) (g 7) 19 = B1.bkNow q2_ q3_ q4_ q5_ (g 4) (g 5) (g 6) (g 7) 3 by rfl) (an (show zb q1_ (g 4) (g 5) (g 6) (g 7) 20 = z 20 by rfl) (an (show zb q1_ (g 4) (g 5) (g 6) (g 7) 21 = z 21 by rfl) (an (show zb q1_ (g 4) (g 5) (g 6) (g 7) 22 = z 22 by rfl) (an (show zb q1_ (g 4) (g 5) (g 6) (g 7) 23 = z 23 by rfl) (an (show zb q1_ (g 4) (g 5) (g 6) (g 7) 24 = z 24 by rfl) (an (show zb q1_ (g 4) (g 5) (g 6) (g 7) 25 = z 25 by rfl) (an (show zb q1_ (g 4) (g 5) (g 6) (g 7) 26 = z 26 by rfl) (an (show zb q1_ (g 4) (g 5) (g 6) (g 7) 27 = z 27 by rfl) (an (show zb q1_ (g 4) (g 5) (g 6) (g 7) 28 = z 28 by rfl) (an (show zb q1_ (g 4) (g 5) (g 6) (g 7) 29 = z 29 by rfl) (an (show zb q1_ (g 4) (g 5) (g 6) (g 7) 30 = z 30 by rfl) (an (show zb q1_ (g 4) (g 5) (g 6) (g 7) 31 = z 31 by rfl) (an tt (an tt tt)))))))))))))))))))))))))))))))))))) tt) (an (zo (an (ri (B1.bkCode (z 16) (z 17) (z 18) (z 19) (g 0) (g 1) (g 2) (g 3))) (an (ri (B1.bkNum (z 16) (z 17) (z 18) (z 19) (g 0) (g 1) (g 2) (g 3))) (an (show B1.bkCode (zb z (g 0) (g 1) (g 2) (g 3) 16) (zb z (g 0) (g 1) (g 2) (g 3) 17) (zb z (g 0) (g 1) (g 2) (g 3) 18) (zb z (g 0) (g 1) (g 2) (g 3) 19) (g 4) (g 5) (g 6) (g 7) = B1.bkCode q2_ q3_ q4_ q5_ (g 4) (g 5) (g 6) (g 7) by rfl) (show B1.bkNum (zb z (g 0) (g 1) (g 2) (g 3) 16) (zb z (g 0) (g 1) (g 2) (g 3) 17) (zb z (g 0) (g 1) (g 2) (g 3) 18) (zb z (g 0) (g 1) (g 2) (g 3) 19) (g 4) (g 5) (g 6) (g 7) = B1.bkNum q2_ q3_ q4_ q5_ (g 4) (g 5) (g 6) (g 7) by rfl))))) tt))) ?_
                 kernel_rfl
            · exact ff (by ((try dsimp only [q1_, q2_, q3_, q4_, q5_, q6_, q7_] at *); first | (simp at *; omega) | (simp_all; done)))
           · exact ff (by ((try dsimp only [q1_, q2_, q3_, q4_, q5_, q6_, q7_] at *); first | (simp at *; omega) | (simp_all; done)))
          · exact ff (by ((try dsimp only [q1_, q2_, q3_, q4_, q5_, q6_, q7_] at *); first | (simp at *; omega) | (simp_all; done)))
      · exact ff (by ((try dsimp only [q1_, q2_, q3_, q4_, q5_, q6_, q7_] at *); first | (simp at *; omega) | (simp_all; done)))
     · exact ff (by ((try dsimp only [q1_, q2_, q3_, q4_, q5_, q6_, q7_] at *); first | (simp at *; omega) | (simp_all; done)))
    · exact ff (by ((try dsimp only [q1_, q2_, q3_, q4_, q5_, q6_, q7_] at *); first | (simp at *; omega) | (simp_all; done)))
theorem bd2bsn (g : Nat → Int) (N m c:Nat) (b : Nat → Bool) (z : Nat → Int) (hm9 : m < 9223372036854775808) (hN : m * 4 ≤ N) (hm : m = 2) (ho : B1.opsB g m = true) (hv0 : B1.allMay (zl z) = true) (ho0 : B1.opMay (g 0) (g 1) (g 2) (g 3) = true) (hp0 : B1.opMayL [g 0, g 1, g 2, g 3] = true) (hk0 : 0 ≤ g 0 ∧ g 0 ≤ 5) (hb0 : B1.bkMay (zl z) (g 0) (g 1) (g 2) (g 3) = true) (hd0 : (B1.bkD (bl b) (g 0) (g 1) (g 2)) = -1) (hc0 : (B1.bkCode (z 16) (z 17) (z 18) (z 19) (g 0) (g 1) (g 2) (g 3)) = 0) (hv1 : B1.allMay (lB z g) = true) (ho1 : B1.opMay (g 4) (g 5) (g 6) (g 7) = true) (hp1 : B1.opMayL [g 4, g 5, g 6, g 7] = true) (hk1 : 6 ≤ g 4) (hb1 : skMay (lB z g) (g 4) (g 5) (g 6) (g 7) = true) (hd1 : (skN (bl b) (lB z g) (g 4) (g 5) (g 6) (g 7)) ≠ -1) (hd1' : 0 ≤ (skN (bl b) (lB z g) (g 4) (g 5) (g 6) (g 7))) : ∃ hh, vcOf (runCall Try.prog dosB noL 6000 22 [.agg (viewOf (bl b) (zl z)), .slice 0 (.c 0) (.s m) 4 (.s c)] (Hm [some (.ext g (.s N))] 1) hh) (fun v H1 => retP 1 (0 :: lastBlk v) v H1 (askN (skN (bl b) (zl (zb z (g 0) (g 1) (g 2) (g 3))) (g 4) (g 5) (g 6) (g 7)) b z) [none] 1) := by

  let q1_ := [z 0, z 1, z 2, z 3, z 4, z 5, z 6, z 7, z 8, z 9, z 10, z 11, z 12, z 13, z 14, z 15, B1.bkNow (z 16) (z 17) (z 18) (z 19) (g 0) (g 1) (g 2) (g 3) 0, B1.bkNow (z 16) (z 17) (z 18) (z 19) (g 0) (g 1) (g 2) (g 3) 1, B1.bkNow (z 16) (z 17) (z 18) (z 19) (g 0) (g 1) (g 2) (g 3) 2, B1.bkNow (z 16) (z 17) (z 18) (z 19) (g 0) (g 1) (g 2) (g 3) 3, z 20, z 21, z 22, z 23, z 24, z 25, z 26, z 27, z 28, z 29, z 30, z 31]
  let q2_ := [b 0, b 1, b 2, b 3, b 4, b 5, b 6, b 7, b 8, b 9, b 10, b 11, b 12, b 13, b 14, b 15]
  let q3_ := [z 0, z 1, z 2, z 3, z 4, z 5, z 6, z 7, z 8, z 9, z 10, z 11, z 12, z 13, z 14, z 15, z 16, z 17, z 18, z 19, z 20, z 21, z 22, z 23, z 24, z 25, z 26, z 27, z 28, z 29, z 30, z 31]
  rcases eb (!B1.allMay q3_) with h0 | h0
  · exact ff (by (try dsimp only [q1_, q2_, q3_] at *); simp [ho, hv0, ho0, hp0, hb0, hd0, hc0, hv1, ho1, hp1, hb1, hd1, hd1'] at *)
  ·
   rcases eb (!B1.opsB g m) with h1 | h1
   · exact ff (by (try dsimp only [q1_, q2_, q3_] at *); simp [ho, hv0, ho0, hp0, hb0, hd0, hc0, hv1, ho1, hp1, hb1, hd1, hd1'] at *)
   ·
    rcases eb (decide ((0:Int) < (↑m:Int))) with h2 | h2
    ·
     rcases eb (decide (g 0 ≥ (0:Int))) with h3 | h3
     ·
      rcases eb (decide (g 0 ≤ (5:Int))) with h4 | h4
      ·
       rcases eb (!B1.bkMay q3_ (g 0) (g 1) (g 2) (g 3)) with h5 | h5
       · exact ff (by (try dsimp only [q1_, q2_, q3_] at *); simp [ho, hv0, ho0, hp0, hb0, hd0, hc0, hv1, ho1, hp1, hb1, hd1, hd1'] at *)
       ·
        rcases eb (decide ((0:Int) ≤ B1.bkD q2_ (g 0) (g 1) (g 2))) with h6 | h6
        · exact ff (by (try dsimp only [q1_, q2_, q3_] at *); simp [ho, hv0, ho0, hp0, hb0, hd0, hc0, hv1, ho1, hp1, hb1, hd1, hd1'] at *)
        ·
         rcases eb (B1.bkCode (z 16) (z 17) (z 18) (z 19) (g 0) (g 1) (g 2) (g 3) != (0:Int)) with h7 | h7
         · exact ff (by ((try dsimp only [q1_, q2_, q3_] at *); first | (simp at *; omega) | (simp_all; done)))
         ·
          rcases eb (decide ((1:Int) < (↑m:Int))) with h8 | h8
          ·
           rcases eb (decide (g 4 ≥ (0:Int))) with h9 | h9
           ·
            rcases eb (decide (g 4 ≤ (5:Int))) with h10 | h10
            · exact ff (by ((try dsimp only [q1_, q2_, q3_] at *); first | (simp at *; omega) | (simp_all; done)))
            ·
             rcases eb (!skMay q1_ (g 4) (g 5) (g 6) (g 7)) with h11 | h11
             · exact ff (by (try dsimp only [q1_, q2_, q3_] at *); simp [ho, hv0, ho0, hp0, hb0, hd0, hc0, hv1, ho1, hp1, hb1, hd1, hd1'] at *)
             ·
              rcases eb (!skN q2_ q1_ (g 4) (g 5) (g 6) (g 7) == (-1:Int)) with h12 | h12
              ·
               rcases eb (decide (skN q2_ q1_ (g 4) (g 5) (g 6) (g 7) ≥ (0:Int))) with h13 | h13
               ·
                refine vcIntro (hx2 14 13084) (an (an h13 (an h12 (an h11 (an h10 (an h9 (an (show (5:Nat) ≤ N by (try dsimp only [q1_, q2_, q3_] at *); omega) (an (show (6:Nat) ≤ N by (try dsimp only [q1_, q2_, q3_] at *); omega) (an (show (7:Nat) ≤ N by (try dsimp only [q1_, q2_, q3_] at *); omega) (an (show (8:Nat) ≤ N by (try dsimp only [q1_, q2_, q3_] at *); omega) (an (an (show (0:Int) ≤ (1:Int) by (try dsimp only [q1_, q2_, q3_] at *); simp) (show (2:Int) ≤ (↑m:Int) by (try dsimp only [q1_, q2_, q3_] at *); omega)) (an h8 (an h7 (an h6 (an h5 (an h4 (an h3 (an (show (1:Nat) ≤ N by (try dsimp only [q1_, q2_, q3_] at *); omega) (an (show (2:Nat) ≤ N by (try dsimp only [q1_, q2_, q3_] at *); omega) (an (show (3:Nat) ≤ N by (try dsimp only [q1_, q2_, q3_] at *); omega) (an (show (4:Nat) ≤ N by (try dsimp only [q1_, q2_, q3_] at *); omega) (an (an (show (0:Int) ≤ (0:Int) by (try dsimp only [q1_, q2_, q3_] at *); simp) (show (1:Int) ≤ (↑m:Int) by (try dsimp only [q1_, q2_, q3_] at *); omega)) (an h2 (an h1 (an (an (show m * (4:Nat) ≤ N by (try dsimp only [q1_, q2_, q3_] at *); omega) (show m.succ ≤ (9223372036854775808:Nat) by (try dsimp only [q1_, q2_, q3_] at *); omega)) (an h0 tt))))))))))))))))))))))))) (an (an (an (show skN (bl b) [zb z (g 0) (g 1) (g 2) (g 3) 0, zb z (g 0) (g 1) (g 2) (g 3) 1, zb z (g 0) (g 1) (g 2) (g 3) 2, zb z (g 0) (g 1) (g 2) (g 3) 3, zb z (g 0) (g 1) (g 2) (g 3) 4, zb z (g 0) (g 1) (g 2) (g 3) 5, zb z (g 0) (g 1) (g 2) (g 3) 6, zb z (g 0) (g 1) (g 2) (g 3) 7, zb z (g 0) (g 1) (g 2) (g 3) 8, zb z (g 0) (g 1) (g 2) (g 3) 9, zb z (g 0) (g 1) (g 2) (g 3) 10, zb z (g 0) (g 1) (g 2) (g 3) 11, zb z (g 0) (g 1) (g 2) (g 3) 12, zb z (g 0) (g 1) (g 2) (g 3) 13, zb z (g 0) (g 1) (g 2) (g 3) 14, zb z (g 0) (g 1) (g 2) (g 3) 15, zb z (g 0) (g 1) (g 2) (g 3) 16, zb z (g 0) (g 1) (g 2) (g 3) 17, zb z (g 0) (g 1) (g 2) (g 3) 18, zb z (g 0) (g 1) (g 2) (g 3) 19, zb z (g 0) (g 1) (g 2) (g 3) 20, zb z (g 0) (g 1) (g 2) (g 3) 21, zb z (g 0) (g 1) (g 2) (g 3) 22, zb z (g 0) (g 1) (g 2) (g 3) 23, zb z (g 0) (g 1) (g 2) (g 3) 24, zb z (g 0) (g 1) (g 2) (g 3) 25, zb z (g 0) (g 1) (g 2) (g 3) 26, zb z (g 0) (g 1) (g 2) (g 3) 27, zb z (g 0) (g 1) (g 2) (g 3) 28, zb z (g 0) (g 1) (g 2) (g 3) 29, zb z (g 0) (g 1) (g 2) (g 3) 30, zb z (g 0) (g 1) (g 2) (g 3) 31] (g 4) (g 5) (g 6) (g 7) = skN q2_ q1_ (g 4) (g 5) (g 6) (g 7) by rfl) (cZd2b_0 b z (an (ri (z 31)) tt))) tt) tt)) ?_
                kernel_rfl
               · exact ff (by (try dsimp only [q1_, q2_, q3_] at *); simp [ho, hv0, ho0, hp0, hb0, hd0, hc0, hv1, ho1, hp1, hb1, hd1, hd1'] at *)
              · exact ff (by (try dsimp only [q1_, q2_, q3_] at *); simp [ho, hv0, ho0, hp0, hb0, hd0, hc0, hv1, ho1, hp1, hb1, hd1, hd1'] at *)
           · exact ff (by ((try dsimp only [q1_, q2_, q3_] at *); first | (simp at *; omega) | (simp_all; done)))
          · exact ff (by ((try dsimp only [q1_, q2_, q3_] at *); first | (simp at *; omega) | (simp_all; done)))
      · exact ff (by ((try dsimp only [q1_, q2_, q3_] at *); first | (simp at *; omega) | (simp_all; done)))
     · exact ff (by ((try dsimp only [q1_, q2_, q3_] at *); first | (simp at *; omega) | (simp_all; done)))
    · exact ff (by ((try dsimp only [q1_, q2_, q3_] at *); first | (simp at *; omega) | (simp_all; done)))
theorem bd2bsr (g : Nat → Int) (N m c:Nat) (b : Nat → Bool) (z : Nat → Int) (hm9 : m < 9223372036854775808) (hN : m * 4 ≤ N) (hm : m = 2) (ho : B1.opsB g m = true) (hv0 : B1.allMay (zl z) = true) (ho0 : B1.opMay (g 0) (g 1) (g 2) (g 3) = true) (hp0 : B1.opMayL [g 0, g 1, g 2, g 3] = true) (hk0 : 0 ≤ g 0 ∧ g 0 ≤ 5) (hb0 : B1.bkMay (zl z) (g 0) (g 1) (g 2) (g 3) = true) (hd0 : (B1.bkD (bl b) (g 0) (g 1) (g 2)) = -1) (hc0 : (B1.bkCode (z 16) (z 17) (z 18) (z 19) (g 0) (g 1) (g 2) (g 3)) = 0) (hv1 : B1.allMay (lB z g) = true) (ho1 : B1.opMay (g 4) (g 5) (g 6) (g 7) = true) (hp1 : B1.opMayL [g 4, g 5, g 6, g 7] = true) (hk1 : 6 ≤ g 4) (hb1 : skMay (lB z g) (g 4) (g 5) (g 6) (g 7) = true) (hd1 : (skN (bl b) (lB z g) (g 4) (g 5) (g 6) (g 7)) = -1) (hc1 : (skCode (bl b) (lB z g) (g 4) (g 5)) ≠ 0) : ∃ hh, vcOf (runCall Try.prog dosB noL 6000 22 [.agg (viewOf (bl b) (zl z)), .slice 0 (.c 0) (.s m) 4 (.s c)] (Hm [some (.ext g (.s N))] 1) hh) (fun v H1 => retP 1 (0 :: lastBlk v) v H1 (askD 2 b z) (ans2 (B1.bkCode (z 16) (z 17) (z 18) (z 19) (g 0) (g 1) (g 2) (g 3)) (B1.bkNum (z 16) (z 17) (z 18) (z 19) (g 0) (g 1) (g 2) (g 3)) (skCode (bl b) (zl (zb z (g 0) (g 1) (g 2) (g 3))) (g 4) (g 5)) (skNum (bl b) (zl (zb z (g 0) (g 1) (g 2) (g 3))) (g 4) (g 5) (g 6))) 2) := by

  let q1_ := [z 0, z 1, z 2, z 3, z 4, z 5, z 6, z 7, z 8, z 9, z 10, z 11, z 12, z 13, z 14, z 15, B1.bkNow (z 16) (z 17) (z 18) (z 19) (g 0) (g 1) (g 2) (g 3) 0, B1.bkNow (z 16) (z 17) (z 18) (z 19) (g 0) (g 1) (g 2) (g 3) 1, B1.bkNow (z 16) (z 17) (z 18) (z 19) (g 0) (g 1) (g 2) (g 3) 2, B1.bkNow (z 16) (z 17) (z 18) (z 19) (g 0) (g 1) (g 2) (g 3) 3, z 20, z 21, z 22, z 23, z 24, z 25, z 26, z 27, z 28, z 29, z 30, z 31]
  let q2_ := [zb z (g 0) (g 1) (g 2) (g 3) 0, zb z (g 0) (g 1) (g 2) (g 3) 1, zb z (g 0) (g 1) (g 2) (g 3) 2, zb z (g 0) (g 1) (g 2) (g 3) 3, zb z (g 0) (g 1) (g 2) (g 3) 4, zb z (g 0) (g 1) (g 2) (g 3) 5, zb z (g 0) (g 1) (g 2) (g 3) 6, zb z (g 0) (g 1) (g 2) (g 3) 7, zb z (g 0) (g 1) (g 2) (g 3) 8, zb z (g 0) (g 1) (g 2) (g 3) 9, zb z (g 0) (g 1) (g 2) (g 3) 10, zb z (g 0) (g 1) (g 2) (g 3) 11, zb z (g 0) (g 1) (g 2) (g 3) 12, zb z (g 0) (g 1) (g 2) (g 3) 13, zb z (g 0) (g 1) (g 2) (g 3) 14, zb z (g 0) (g 1) (g 2) (g 3) 15, zb z (g 0) (g 1) (g 2) (g 3) 16, zb z (g 0) (g 1) (g 2) (g 3) 17, zb z (g 0) (g 1) (g 2) (g 3) 18, zb z (g 0) (g 1) (g 2) (g 3) 19, zb z (g 0) (g 1) (g 2) (g 3) 20, zb z (g 0) (g 1) (g 2) (g 3) 21, zb z (g 0) (g 1) (g 2) (g 3) 22, zb z (g 0) (g 1) (g 2) (g 3) 23, zb z (g 0) (g 1) (g 2) (g 3) 24, zb z (g 0) (g 1) (g 2) (g 3) 25, zb z (g 0) (g 1) (g 2) (g 3) 26, zb z (g 0) (g 1) (g 2) (g 3) 27, zb z (g 0) (g 1) (g 2) (g 3) 28, zb z (g 0) (g 1) (g 2) (g 3) 29, zb z (g 0) (g 1) (g 2) (g 3) 30, zb z (g 0) (g 1) (g 2) (g 3) 31]
  let q3_ := [b 0, b 1, b 2, b 3, b 4, b 5, b 6, b 7, b 8, b 9, b 10, b 11, b 12, b 13, b 14, b 15]
  let q4_ := [z 0, z 1, z 2, z 3, z 4, z 5, z 6, z 7, z 8, z 9, z 10, z 11, z 12, z 13, z 14, z 15, z 16, z 17, z 18, z 19, z 20, z 21, z 22, z 23, z 24, z 25, z 26, z 27, z 28, z 29, z 30, z 31]
  rcases eb (!B1.allMay q4_) with h0 | h0
  · exact ff (by (try dsimp only [q1_, q2_, q3_, q4_] at *); simp [ho, hv0, ho0, hp0, hb0, hd0, hc0, hv1, ho1, hp1, hb1, hd1, hc1] at *)
  ·
   rcases eb (!B1.opsB g m) with h1 | h1
   · exact ff (by (try dsimp only [q1_, q2_, q3_, q4_] at *); simp [ho, hv0, ho0, hp0, hb0, hd0, hc0, hv1, ho1, hp1, hb1, hd1, hc1] at *)
   ·
    rcases eb (decide ((0:Int) < (↑m:Int))) with h2 | h2
    ·
     rcases eb (decide (g 0 ≥ (0:Int))) with h3 | h3
     ·
      rcases eb (decide (g 0 ≤ (5:Int))) with h4 | h4
      ·
       rcases eb (!B1.bkMay q4_ (g 0) (g 1) (g 2) (g 3)) with h5 | h5
       · exact ff (by (try dsimp only [q1_, q2_, q3_, q4_] at *); simp [ho, hv0, ho0, hp0, hb0, hd0, hc0, hv1, ho1, hp1, hb1, hd1, hc1] at *)
       ·
        rcases eb (decide ((0:Int) ≤ B1.bkD q3_ (g 0) (g 1) (g 2))) with h6 | h6
        · exact ff (by (try dsimp only [q1_, q2_, q3_, q4_] at *); simp [ho, hv0, ho0, hp0, hb0, hd0, hc0, hv1, ho1, hp1, hb1, hd1, hc1] at *)
        ·
         rcases eb (B1.bkCode (z 16) (z 17) (z 18) (z 19) (g 0) (g 1) (g 2) (g 3) != (0:Int)) with h7 | h7
         · exact ff (by ((try dsimp only [q1_, q2_, q3_, q4_] at *); first | (simp at *; omega) | (simp_all; done)))
         ·
          rcases eb (decide ((1:Int) < (↑m:Int))) with h8 | h8
          ·
           rcases eb (decide (g 4 ≥ (0:Int))) with h9 | h9
           ·
            rcases eb (decide (g 4 ≤ (5:Int))) with h10 | h10
            · exact ff (by ((try dsimp only [q1_, q2_, q3_, q4_] at *); first | (simp at *; omega) | (simp_all; done)))
            ·
             rcases eb (!skMay q1_ (g 4) (g 5) (g 6) (g 7)) with h11 | h11
             · exact ff (by (try dsimp only [q1_, q2_, q3_, q4_] at *); simp [ho, hv0, ho0, hp0, hb0, hd0, hc0, hv1, ho1, hp1, hb1, hd1, hc1] at *)
             ·
              rcases eb (!skN q3_ q1_ (g 4) (g 5) (g 6) (g 7) == (-1:Int)) with h12 | h12
              · exact ff (by (try dsimp only [q1_, q2_, q3_, q4_] at *); simp [ho, hv0, ho0, hp0, hb0, hd0, hc0, hv1, ho1, hp1, hb1, hd1, hc1] at *)
              ·
               rcases eb (skCode q3_ q1_ (g 4) (g 5) != (0:Int)) with h13 | h13
               ·
                refine vcIntro (hx2 14 8988) (an (an h13 (an h12 (an h11 (an h10 (an h9 (an (show (5:Nat) ≤ N by (try dsimp only [q1_, q2_, q3_, q4_] at *); omega) (an (show (6:Nat) ≤ N by (try dsimp only [q1_, q2_, q3_, q4_] at *); omega) (an (show (7:Nat) ≤ N by (try dsimp only [q1_, q2_, q3_, q4_] at *); omega) (an (show (8:Nat) ≤ N by (try dsimp only [q1_, q2_, q3_, q4_] at *); omega) (an (an (show (0:Int) ≤ (1:Int) by (try dsimp only [q1_, q2_, q3_, q4_] at *); simp) (show (2:Int) ≤ (↑m:Int) by (try dsimp only [q1_, q2_, q3_, q4_] at *); omega)) (an h8 (an h7 (an h6 (an h5 (an h4 (an h3 (an (show (1:Nat) ≤ N by (try dsimp only [q1_, q2_, q3_, q4_] at *); omega) (an (show (2:Nat) ≤ N by (try dsimp only [q1_, q2_, q3_, q4_] at *); omega) (an (show (3:Nat) ≤ N by (try dsimp only [q1_, q2_, q3_, q4_] at *); omega) (an (show (4:Nat) ≤ N by (try dsimp only [q1_, q2_, q3_, q4_] at *); omega) (an (an (show (0:Int) ≤ (0:Int) by (try dsimp only [q1_, q2_, q3_, q4_] at *); simp) (show (1:Int) ≤ (↑m:Int) by (try dsimp only [q1_, q2_, q3_, q4_] at *); omega)) (an h2 (an h1 (an (an (show m * (4:Nat) ≤ N by (try dsimp only [q1_, q2_, q3_, q4_] at *); omega) (show m.succ ≤ (9223372036854775808:Nat) by (try dsimp only [q1_, q2_, q3_, q4_] at *); omega)) (an h0 tt))))))))))))))))))))))))) (an (an (an tt (cZd2b_0 b z (an (ri (z 31)) (an tt (an tt tt))))) tt) (an (zo (an (ri (B1.bkCode (z 16) (z 17) (z 18) (z 19) (g 0) (g 1) (g 2) (g 3))) (an (ri (B1.bkNum (z 16) (z 17) (z 18) (z 19) (g 0) (g 1) (g 2) (g 3))) (an (show skCode (bl b) q2_ (g 4) (g 5) = skCode q3_ q1_ (g 4) (g 5) by rfl) (show skNum (bl b) q2_ (g 4) (g 5) (g 6) = skNum q3_ q1_ (g 4) (g 5) (g 6) by rfl))))) tt))) ?_
                kernel_rfl
               · exact ff (by (try dsimp only [q1_, q2_, q3_, q4_] at *); simp [ho, hv0, ho0, hp0, hb0, hd0, hc0, hv1, ho1, hp1, hb1, hd1, hc1] at *)
           · exact ff (by ((try dsimp only [q1_, q2_, q3_, q4_] at *); first | (simp at *; omega) | (simp_all; done)))
          · exact ff (by ((try dsimp only [q1_, q2_, q3_, q4_] at *); first | (simp at *; omega) | (simp_all; done)))
      · exact ff (by ((try dsimp only [q1_, q2_, q3_, q4_] at *); first | (simp at *; omega) | (simp_all; done)))
     · exact ff (by ((try dsimp only [q1_, q2_, q3_, q4_] at *); first | (simp at *; omega) | (simp_all; done)))
    · exact ff (by ((try dsimp only [q1_, q2_, q3_, q4_] at *); first | (simp at *; omega) | (simp_all; done)))
theorem bd2bsd (g : Nat → Int) (N m c:Nat) (b : Nat → Bool) (z : Nat → Int) (hm9 : m < 9223372036854775808) (hN : m * 4 ≤ N) (hm : m = 2) (ho : B1.opsB g m = true) (hv0 : B1.allMay (zl z) = true) (ho0 : B1.opMay (g 0) (g 1) (g 2) (g 3) = true) (hp0 : B1.opMayL [g 0, g 1, g 2, g 3] = true) (hk0 : 0 ≤ g 0 ∧ g 0 ≤ 5) (hb0 : B1.bkMay (zl z) (g 0) (g 1) (g 2) (g 3) = true) (hd0 : (B1.bkD (bl b) (g 0) (g 1) (g 2)) = -1) (hc0 : (B1.bkCode (z 16) (z 17) (z 18) (z 19) (g 0) (g 1) (g 2) (g 3)) = 0) (hv1 : B1.allMay (lB z g) = true) (ho1 : B1.opMay (g 4) (g 5) (g 6) (g 7) = true) (hp1 : B1.opMayL [g 4, g 5, g 6, g 7] = true) (hk1 : 6 ≤ g 4) (hb1 : skMay (lB z g) (g 4) (g 5) (g 6) (g 7) = true) (hd1 : (skN (bl b) (lB z g) (g 4) (g 5) (g 6) (g 7)) = -1) (hc1 : (skCode (bl b) (lB z g) (g 4) (g 5)) = 0) : ∃ hh, vcOf (runCall Try.prog dosB noL 6000 22 [.agg (viewOf (bl b) (zl z)), .slice 0 (.c 0) (.s m) 4 (.s c)] (Hm [some (.ext g (.s N))] 1) hh) (fun v H1 => retP 1 (0 :: lastBlk v) v H1 (askD 2 b (zk b (zb z (g 0) (g 1) (g 2) (g 3)) (g 4) (g 5) (g 7))) (ans2 (B1.bkCode (z 16) (z 17) (z 18) (z 19) (g 0) (g 1) (g 2) (g 3)) (B1.bkNum (z 16) (z 17) (z 18) (z 19) (g 0) (g 1) (g 2) (g 3)) (skCode (bl b) (zl (zb z (g 0) (g 1) (g 2) (g 3))) (g 4) (g 5)) (skNum (bl b) (zl (zb z (g 0) (g 1) (g 2) (g 3))) (g 4) (g 5) (g 6))) 2) := by

  let q1_ := [z 0, z 1, z 2, z 3, z 4, z 5, z 6, z 7, z 8, z 9, z 10, z 11, z 12, z 13, z 14, z 15, B1.bkNow (z 16) (z 17) (z 18) (z 19) (g 0) (g 1) (g 2) (g 3) 0, B1.bkNow (z 16) (z 17) (z 18) (z 19) (g 0) (g 1) (g 2) (g 3) 1, B1.bkNow (z 16) (z 17) (z 18) (z 19) (g 0) (g 1) (g 2) (g 3) 2, B1.bkNow (z 16) (z 17) (z 18) (z 19) (g 0) (g 1) (g 2) (g 3) 3, z 20, z 21, z 22, z 23, z 24, z 25, z 26, z 27, z 28, z 29, z 30, z 31]
  let q2_ := [b 0, b 1, b 2, b 3, b 4, b 5, b 6, b 7, b 8, b 9, b 10, b 11, b 12, b 13, b 14, b 15]
  let q3_ := [zb z (g 0) (g 1) (g 2) (g 3) 0, zb z (g 0) (g 1) (g 2) (g 3) 1, zb z (g 0) (g 1) (g 2) (g 3) 2, zb z (g 0) (g 1) (g 2) (g 3) 3, zb z (g 0) (g 1) (g 2) (g 3) 4, zb z (g 0) (g 1) (g 2) (g 3) 5, zb z (g 0) (g 1) (g 2) (g 3) 6, zb z (g 0) (g 1) (g 2) (g 3) 7, zb z (g 0) (g 1) (g 2) (g 3) 8, zb z (g 0) (g 1) (g 2) (g 3) 9, zb z (g 0) (g 1) (g 2) (g 3) 10, zb z (g 0) (g 1) (g 2) (g 3) 11, zb z (g 0) (g 1) (g 2) (g 3) 12, zb z (g 0) (g 1) (g 2) (g 3) 13, zb z (g 0) (g 1) (g 2) (g 3) 14, zb z (g 0) (g 1) (g 2) (g 3) 15, zb z (g 0) (g 1) (g 2) (g 3) 16, zb z (g 0) (g 1) (g 2) (g 3) 17, zb z (g 0) (g 1) (g 2) (g 3) 18, zb z (g 0) (g 1) (g 2) (g 3) 19, zb z (g 0) (g 1) (g 2) (g 3) 20, zb z (g 0) (g 1) (g 2) (g 3) 21, zb z (g 0) (g 1) (g 2) (g 3) 22, zb z (g 0) (g 1) (g 2) (g 3) 23, zb z (g 0) (g 1) (g 2) (g 3) 24, zb z (g 0) (g 1) (g 2) (g 3) 25, zb z (g 0) (g 1) (g 2) (g 3) 26, zb z (g 0) (g 1) (g 2) (g 3) 27, zb z (g 0) (g 1) (g 2) (g 3) 28, zb z (g 0) (g 1) (g 2) (g 3) 29, zb z (g 0) (g 1) (g 2) (g 3) 30, zb z (g 0) (g 1) (g 2) (g 3) 31]
  let q4_ := (zb z (g 0) (g 1) (g 2) (g 3))
  let q5_ := [z 0, z 1, z 2, z 3, z 4, z 5, z 6, z 7, z 8, z 9, z 10, z 11, z 12, z 13, z 14, z 15, z 16, z 17, z 18, z 19, z 20, z 21, z 22, z 23, z 24, z 25, z 26, z 27, z 28, z 29, z 30, z 31]
  rcases eb (!B1.allMay q5_) with h0 | h0
  · exact ff (by (try dsimp only [q1_, q2_, q3_, q4_, q5_] at *); simp [ho, hv0, ho0, hp0, hb0, hd0, hc0, hv1, ho1, hp1, hb1, hd1, hc1] at *)
  ·
   rcases eb (!B1.opsB g m) with h1 | h1
   · exact ff (by (try dsimp only [q1_, q2_, q3_, q4_, q5_] at *); simp [ho, hv0, ho0, hp0, hb0, hd0, hc0, hv1, ho1, hp1, hb1, hd1, hc1] at *)
   ·
    rcases eb (decide ((0:Int) < (↑m:Int))) with h2 | h2
    ·
     rcases eb (decide (g 0 ≥ (0:Int))) with h3 | h3
     ·
      rcases eb (decide (g 0 ≤ (5:Int))) with h4 | h4
      ·
       rcases eb (!B1.bkMay q5_ (g 0) (g 1) (g 2) (g 3)) with h5 | h5
       · exact ff (by (try dsimp only [q1_, q2_, q3_, q4_, q5_] at *); simp [ho, hv0, ho0, hp0, hb0, hd0, hc0, hv1, ho1, hp1, hb1, hd1, hc1] at *)
       ·
        rcases eb (decide ((0:Int) ≤ B1.bkD q2_ (g 0) (g 1) (g 2))) with h6 | h6
        · exact ff (by (try dsimp only [q1_, q2_, q3_, q4_, q5_] at *); simp [ho, hv0, ho0, hp0, hb0, hd0, hc0, hv1, ho1, hp1, hb1, hd1, hc1] at *)
        ·
         rcases eb (B1.bkCode (z 16) (z 17) (z 18) (z 19) (g 0) (g 1) (g 2) (g 3) != (0:Int)) with h7 | h7
         · exact ff (by ((try dsimp only [q1_, q2_, q3_, q4_, q5_] at *); first | (simp at *; omega) | (simp_all; done)))
         ·
          rcases eb (decide ((1:Int) < (↑m:Int))) with h8 | h8
          ·
           rcases eb (decide (g 4 ≥ (0:Int))) with h9 | h9
           ·
            rcases eb (decide (g 4 ≤ (5:Int))) with h10 | h10
            · exact ff (by ((try dsimp only [q1_, q2_, q3_, q4_, q5_] at *); first | (simp at *; omega) | (simp_all; done)))
            ·
             rcases eb (!skMay q1_ (g 4) (g 5) (g 6) (g 7)) with h11 | h11
             · exact ff (by (try dsimp only [q1_, q2_, q3_, q4_, q5_] at *); simp [ho, hv0, ho0, hp0, hb0, hd0, hc0, hv1, ho1, hp1, hb1, hd1, hc1] at *)
             ·
              rcases eb (!skN q2_ q1_ (g 4) (g 5) (g 6) (g 7) == (-1:Int)) with h12 | h12
              · exact ff (by (try dsimp only [q1_, q2_, q3_, q4_, q5_] at *); simp [ho, hv0, ho0, hp0, hb0, hd0, hc0, hv1, ho1, hp1, hb1, hd1, hc1] at *)
              ·
               rcases eb (skCode q2_ q1_ (g 4) (g 5) != (0:Int)) with h13 | h13
               · exact ff (by (try dsimp only [q1_, q2_, q3_, q4_, q5_] at *); simp [ho, hv0, ho0, hp0, hb0, hd0, hc0, hv1, ho1, hp1, hb1, hd1, hc1] at *)
               ·
                rcases eb (decide ((2:Int) < (↑m:Int))) with h14 | h14
                · exact ff (by ((try dsimp only [q1_, q2_, q3_, q4_, q5_] at *); first | (simp at *; omega) | (simp_all; done)))
                ·
                 refine vcIntro (hx2 15 796) (an (an h14 (an h13 (an h12 (an h11 (an h10 (an h9 (an (show (5:Nat) ≤ N by (try dsimp only [q1_, q2_, q3_, q4_, q5_] at *); omega) (an (show (6:Nat) ≤ N by (try dsimp only [q1_, q2_, q3_, q4_, q5_] at *); omega) (an (show (7:Nat) ≤ N by (try dsimp only [q1_, q2_, q3_, q4_, q5_] at *); omega) (an (show (8:Nat) ≤ N by (try dsimp only [q1_, q2_, q3_, q4_, q5_] at *); omega) (an (an (show (0:Int) ≤ (1:Int) by (try dsimp only [q1_, q2_, q3_, q4_, q5_] at *); simp) (show (2:Int) ≤ (↑m:Int) by (try dsimp only [q1_, q2_, q3_, q4_, q5_] at *); omega)) (an h8 (an h7 (an h6 (an h5 (an h4 (an h3 (an (show (1:Nat) ≤ N by (try dsimp only [q1_, q2_, q3_, q4_, q5_] at *); omega) (an (show (2:Nat) ≤ N by (try dsimp only [q1_, q2_, q3_, q4_, q5_] at *); omega) (an (show (3:Nat) ≤ N by (try dsimp only [q1_, q2_, q3_, q4_, q5_] at *); omega) (an (show (4:Nat) ≤ N by (try dsimp only [q1_, q2_, q3_, q4_, q5_] at *); omega) (an (an (show (0:Int) ≤ (0:Int) by (try dsimp only [q1_, q2_, q3_, q4_, q5_] at *); simp) (show (1:Int) ≤ (↑m:Int) by (try dsimp only [q1_, q2_, q3_, q4_, q5_] at *); omega)) (an h2 (an h1 (an (an (show m * (4:Nat) ≤ N by (try dsimp only [q1_, q2_, q3_, q4_, q5_] at *); omega) (show m.succ ≤ (9223372036854775808:Nat) by (try dsimp only [q1_, q2_, q3_, q4_, q5_] at *); omega)) (an h0 tt)))))))))))))))))))))))))) (an (an (an tt (cZd2b_1 b (an (show zk b q4_ (g 4) (g 5) (g 7) 0 = z 0 by rfl) (an (show zk b q4_ (g 4) (g 5) (g 7) 1 = z 1 by rfl) (an (show zk b q4_ (g 4) (g 5) (g 7) 2 = z 2 by rfl) (an (show zk b q4_ (g 4) (g 5) (g 7) 3 = z 3 by rfl) (an (show zk b q4_ (g 4) (g 5) (g 7) 4 = z 4 by rfl) (an (show zk b q4_ (g 4) (g 5) (g 7) 5 = z 5 by rfl) (an (show zk b q4_ (g 4) (g 5) (g 7) 6 = z 6 by rfl) (an (show zk b q4_ (g 4) (g 5) (g 7) 7 = z 7 by rfl) (an (show zk b q4_ (g 4) (g 5) (g 7) 8 = z 8 by rfl) (an (show zk b q4_ (g 4) (g 5) (g 7) 9 = z 9 by rfl) (an (show zk b q4_ (g 4) (g 5) (g 7) 10 = z 10 by rfl) (an (show zk b q4_ (g 4) (g 5) (g 7) 11 = z 11 by rfl) (an (show zk b q4_ (g 4) (g 5) (g 7) 12 = z 12 by rfl) (an (show zk b q4_ (g 4) (g 5) (g 7) 13 = z 13 by rfl) (an (show zk b q4_ (g 4) (g 5) (g 7) 14 = z 14 by rfl) (an (show zk b q4_ (g 4) (g 5) (g 7) 15 = z 15 by rfl) (an (show zk b q4_ (g 4) (g 5) (g 7) 16 = skC q2_ q1_ (g 4) (g 5) (g 7) 0 by rfl) (an (show zk b q4_ (g 4) (g 5) (g 7) 17 = skC q2_ q1_ (g 4) (g 5) (g 7) 1 by rfl) (an (show zk b q4_ (g 4) (g 5) (g 7) 18 = skC q2_ q1_ (g 4) (g 5) (g 7) 2 by rfl) (an (show zk b q4_ (g 4) (g 5) (g 7) 19 = skC q2_ q1_ (g 4) (g 5) (g 7) 3 by rfl) (an (show zk b q4_ (g 4) (g 5) (g 7) 20 = skC q2_ q1_ (g 4) (g 5) (g 7) 4 by rfl) (an (show zk b q4_ (g 4) (g 5) (g 7) 21 = skC q2_ q1_ (g 4) (g 5) (g 7) 5 by rfl) (an (show zk b q4_ (g 4) (g 5) (g 7) 22 = skC q2_ q1_ (g 4) (g 5) (g 7) 6 by rfl) (an (show zk b q4_ (g 4) (g 5) (g 7) 23 = skC q2_ q1_ (g 4) (g 5) (g 7) 7 by rfl) (an (show zk b q4_ (g 4) (g 5) (g 7) 24 = skC q2_ q1_ (g 4) (g 5) (g 7) 8 by rfl) (an (show zk b q4_ (g 4) (g 5) (g 7) 25 = skC q2_ q1_ (g 4) (g 5) (g 7) 9 by rfl) (an (show zk b q4_ (g 4) (g 5) (g 7) 26 = skC q2_ q1_ (g 4) (g 5) (g 7) 10 by rfl) (an (show zk b q4_ (g 4) (g 5) (g 7) 27 = skC q2_ q1_ (g 4) (g 5) (g 7) 11 by rfl) (an (show zk b q4_ (g 4) (g 5) (g 7) 28 = skC q2_ q1_ (g 4) (g 5) (g 7) 12 by rfl) (an (show zk b q4_ (g 4) (g 5) (g 7) 29 = skC q2_ q1_ (g 4) (g 5) (g 7) 13 by rfl) (an (show zk b q4_ (g 4) (g 5) (g 7) 30 = skC q2_ q1_ (g 4) (g 5) (g 7) 14 by rfl) (an (show zk b q4_ (g 4) (g 5) (g 7) 31 = skC q2_ q1_ (g 4) (g 5) (g 7) 15 by rfl) (an tt (an tt tt)))))))))))))))))))))))))))))))))))) tt) (an (zo (an (ri (B1.bkCode (z 16) (z 17) (z 18) (z 19) (g 0) (g 1) (g 2) (g 3))) (an (ri (B1.bkNum (z 16) (z 17) (z 18) (z 19) (g 0) (g 1) (g 2) (g 3))) (an (show skCode (bl b) q3_ (g 4) (g 5) = skCode q2_ q1_ (g 4) (g 5) by rfl) (show skNum (bl b) q3_ (g 4) (g 5) (g 6) = skNum q2_ q1_ (g 4) (g 5) (g 6) by rfl))))) tt))) ?_
                 kernel_rfl
           · exact ff (by ((try dsimp only [q1_, q2_, q3_, q4_, q5_] at *); first | (simp at *; omega) | (simp_all; done)))
          · exact ff (by ((try dsimp only [q1_, q2_, q3_, q4_, q5_] at *); first | (simp at *; omega) | (simp_all; done)))
      · exact ff (by ((try dsimp only [q1_, q2_, q3_, q4_, q5_] at *); first | (simp at *; omega) | (simp_all; done)))
     · exact ff (by ((try dsimp only [q1_, q2_, q3_, q4_, q5_] at *); first | (simp at *; omega) | (simp_all; done)))
    · exact ff (by ((try dsimp only [q1_, q2_, q3_, q4_, q5_] at *); first | (simp at *; omega) | (simp_all; done)))
end
end Go.Ideal.Bd

namespace Go.Ideal.Bd
section
open Go.Proofs Go.Ideal Go.Ideal.L1 Go.Ideal.K6
set_option linter.unusedSimpArgs false
set_option linter.unusedVariables false
set_option maxRecDepth 100000
set_option maxHeartbeats 80000000

theorem cZd2s_0 (b : Nat → Bool) (z : Nat → Int) {R : Prop} (h : R) : ((b 0):Bool) = (b 0) ∧ (((b 1):Bool) = (b 1) ∧ (((b 2):Bool) = (b 2) ∧ (((b 3):Bool) = (b 3) ∧ (((b 4):Bool) = (b 4) ∧ (((b 5):Bool) = (b 5) ∧ (((b 6):Bool) = (b 6) ∧ (((b 7):Bool) = (b 7) ∧ (((b 8):Bool) = (b 8) ∧ (((b 9):Bool) = (b 9) ∧ (((b 10):Bool) = (b 10) ∧ (((b 11):Bool) = (b 11) ∧ (((b 12):Bool) = (b 12) ∧ (((b 13):Bool) = (b 13) ∧ (((b 14):Bool) = (b 14) ∧ (((b 15):Bool) = (b 15) ∧ (((z 0):Int) = (z 0) ∧ (((z 1):Int) = (z 1) ∧ (((z 2):Int) = (z 2) ∧ (((z 3):Int) = (z 3) ∧ (((z 4):Int) = (z 4) ∧ (((z 5):Int) = (z 5) ∧ (((z 6):Int) = (z 6) ∧ (((z 7):Int) = (z 7) ∧ (((z 8):Int) = (z 8) ∧ (((z 9):Int) = (z 9) ∧ (((z 10):Int) = (z 10) ∧ (((z 11):Int) = (z 11) ∧ (((z 12):Int) = (z 12) ∧ (((z 13):Int) = (z 13) ∧ (((z 14):Int) = (z 14) ∧ (((z 15):Int) = (z 15) ∧ (((z 16):Int) = (z 16) ∧ (((z 17):Int) = (z 17) ∧ (((z 18):Int) = (z 18) ∧ (((z 19):Int) = (z 19) ∧ (((z 20):Int) = (z 20) ∧ (((z 21):Int) = (z 21) ∧ (((z 22):Int) = (z 22) ∧ (((z 23):Int) = (z 23) ∧ (((z 24):Int) = (z 24) ∧ (((z 25):Int) = (z 25) ∧ (((z 26):Int) = (z 26) ∧ (((z 27):Int) = (z 27) ∧ (((z 28):Int) = (z 28) ∧ (((z 29):Int) = (z 29) ∧ (((z 30):Int) = (z 30) ∧ (R))))))))))))))))))))))))))))))))))))))))))))))) := ⟨rfl, ⟨rfl, ⟨rfl, ⟨rfl, ⟨rfl, ⟨rfl, ⟨rfl, ⟨rfl, ⟨rfl, ⟨rfl, ⟨rfl, ⟨rfl, ⟨rfl, ⟨rfl, ⟨rfl, ⟨rfl, ⟨rfl, ⟨rfl, ⟨rfl, ⟨rfl, ⟨rfl, ⟨rfl, ⟨rfl, ⟨rfl, ⟨rfl, ⟨rfl, ⟨rfl, ⟨rfl, ⟨rfl, ⟨rfl, ⟨rfl, ⟨rfl, ⟨rfl, ⟨rfl, ⟨rfl, ⟨rfl, ⟨rfl, ⟨rfl, ⟨rfl, ⟨rfl, ⟨rfl, ⟨rfl, ⟨rfl, ⟨rfl, ⟨rfl, ⟨rfl, ⟨rfl, h⟩⟩⟩⟩⟩⟩⟩⟩⟩⟩⟩⟩⟩⟩⟩⟩⟩⟩⟩⟩⟩⟩⟩⟩⟩⟩⟩⟩⟩⟩⟩⟩⟩⟩⟩⟩⟩⟩⟩⟩⟩⟩⟩⟩⟩⟩⟩
theorem cZd2s_1 (b : Nat → Bool) {R : Prop} (h : R) : ((b 0):Bool) = (b 0) ∧ (((b 1):Bool) = (b 1) ∧ (((b 2):Bool) = (b 2) ∧ (((b 3):Bool) = (b 3) ∧ (((b 4):Bool) = (b 4) ∧ (((b 5):Bool) = (b 5) ∧ (((b 6):Bool) = (b 6) ∧ (((b 7):Bool) = (b 7) ∧ (((b 8):Bool) = (b 8) ∧ (((b 9):Bool) = (b 9) ∧ (((b 10):Bool) = (b 10) ∧ (((b 11):Bool) = (b 11) ∧ (((b 12):Bool) = (b 12) ∧ (((b 13):Bool) = (b 13) ∧ (((b 14):Bool) = (b 14) ∧ (((b 15):Bool) = (b 15) ∧ (R)))))))))))))))) := ⟨rfl, ⟨rfl, ⟨rfl, ⟨rfl, ⟨rfl, ⟨rfl, ⟨rfl, ⟨rfl, ⟨rfl, ⟨rfl, ⟨rfl, ⟨rfl, ⟨rfl, ⟨rfl, ⟨rfl, ⟨rfl, h⟩⟩⟩⟩⟩⟩⟩⟩⟩⟩⟩⟩⟩⟩⟩⟩
theorem bd2sbn (g : Nat → Int) (N m c:Nat) (b : Nat → Bool) (z : Nat → Int) (hm9 : m < 9223372036854775808) (hN : m * 4 ≤ N) (hm : m = 2) (ho : B1.opsB g m = true) (hv0 : B1.allMay (zl z) = true) (ho0 : B1.opMay (g 0) (g 1) (g 2) (g 3) = true) (hp0 : B1.opMayL [g 0, g 1, g 2, g 3] = true) (hk0 : 6 ≤ g 0) (hb0 : skMay (zl z) (g 0) (g 1) (g 2) (g 3) = true) (hd0 : (skN (bl b) (zl z) (g 0) (g 1) (g 2) (g 3)) = -1) (hc0 : (skCode (bl b) (zl z) (g 0) (g 1)) = 0) (hv1 : B1.allMay (lS b z g) = true) (ho1 : B1.opMay (g 4) (g 5) (g 6) (g 7) = true) (hp1 : B1.opMayL [g 4, g 5, g 6, g 7] = true) (hk1 : 0 ≤ g 4 ∧ g 4 ≤ 5) (hb1 : B1.bkMay (lS b z g) (g 4) (g 5) (g 6) (g 7) = true) (hd1 : (B1.bkD (bl b) (g 4) (g 5) (g 6)) ≠ -1) (hd1' : 0 ≤ (B1.bkD (bl b) (g 4) (g 5) (g 6))) : ∃ hh, vcOf (runCall Try.prog dosB noL 6000 22 [.agg (viewOf (bl b) (zl z)), .slice 0 (.c 0) (.s m) 4 (.s c)] (Hm [some (.ext g (.s N))] 1) hh) (fun v H1 => retP 1 (0 :: lastBlk v) v H1 (askN (B1.bkD (bl b) (g 4) (g 5) (g 6)) b z) [none] 1) := by

  let q1_ := [z 0, z 1, z 2, z 3, z 4, z 5, z 6, z 7, z 8, z 9, z 10, z 11, z 12, z 13, z 14, z 15, z 16, z 17, z 18, z 19, z 20, z 21, z 22, z 23, z 24, z 25, z 26, z 27, z 28, z 29, z 30, z 31]
  let q2_ := [b 0, b 1, b 2, b 3, b 4, b 5, b 6, b 7, b 8, b 9, b 10, b 11, b 12, b 13, b 14, b 15]
  rcases eb (!B1.allMay q1_) with h0 | h0
  · exact ff (by (try dsimp only [q1_, q2_] at *); simp [ho, hv0, ho0, hp0, hb0, hd0, hc0, hv1, ho1, hp1, hb1, hd1, hd1'] at *)
  ·
   rcases eb (!B1.opsB g m) with h1 | h1
   · exact ff (by (try dsimp only [q1_, q2_] at *); simp [ho, hv0, ho0, hp0, hb0, hd0, hc0, hv1, ho1, hp1, hb1, hd1, hd1'] at *)
   ·
    rcases eb (decide ((0:Int) < (↑m:Int))) with h2 | h2
    ·
     rcases eb (decide (g 0 ≥ (0:Int))) with h3 | h3
     ·
      rcases eb (decide (g 0 ≤ (5:Int))) with h4 | h4
      · exact ff (by ((try dsimp only [q1_, q2_] at *); first | (simp at *; omega) | (simp_all; done)))
      ·
       rcases eb (!skMay q1_ (g 0) (g 1) (g 2) (g 3)) with h5 | h5
       · exact ff (by (try dsimp only [q1_, q2_] at *); simp [ho, hv0, ho0, hp0, hb0, hd0, hc0, hv1, ho1, hp1, hb1, hd1, hd1'] at *)
       ·
        rcases eb (!skN q2_ q1_ (g 0) (g 1) (g 2) (g 3) == (-1:Int)) with h6 | h6
        · exact ff (by (try dsimp only [q1_, q2_] at *); simp [ho, hv0, ho0, hp0, hb0, hd0, hc0, hv1, ho1, hp1, hb1, hd1, hd1'] at *)
        ·
         rcases eb (skCode q2_ q1_ (g 0) (g 1) != (0:Int)) with h7 | h7
         · exact ff (by (try dsimp only [q1_, q2_] at *); simp [ho, hv0, ho0, hp0, hb0, hd0, hc0, hv1, ho1, hp1, hb1, hd1, hd1'] at *)
         ·
          rcases eb (decide ((1:Int) < (↑m:Int))) with h8 | h8
          ·
           rcases eb (decide (g 4 ≥ (0:Int))) with h9 | h9
           ·
            rcases eb (decide (g 4 ≤ (5:Int))) with h10 | h10
            ·
             rcases eb (!B1.bkMay [z 0, z 1, z 2, z 3, z 4, z 5, z 6, z 7, z 8, z 9, z 10, z 11, z 12, z 13, z 14, z 15, skC q2_ q1_ (g 0) (g 1) (g 3) 0, skC q2_ q1_ (g 0) (g 1) (g 3) 1, skC q2_ q1_ (g 0) (g 1) (g 3) 2, skC q2_ q1_ (g 0) (g 1) (g 3) 3, skC q2_ q1_ (g 0) (g 1) (g 3) 4, skC q2_ q1_ (g 0) (g 1) (g 3) 5, skC q2_ q1_ (g 0) (g 1) (g 3) 6, skC q2_ q1_ (g 0) (g 1) (g 3) 7, skC q2_ q1_ (g 0) (g 1) (g 3) 8, skC q2_ q1_ (g 0) (g 1) (g 3) 9, skC q2_ q1_ (g 0) (g 1) (g 3) 10, skC q2_ q1_ (g 0) (g 1) (g 3) 11, skC q2_ q1_ (g 0) (g 1) (g 3) 12, skC q2_ q1_ (g 0) (g 1) (g 3) 13, skC q2_ q1_ (g 0) (g 1) (g 3) 14, skC q2_ q1_ (g 0) (g 1) (g 3) 15] (g 4) (g 5) (g 6) (g 7)) with h11 | h11
             · exact ff (by (try dsimp only [q1_, q2_] at *); simp [ho, hv0, ho0, hp0, hb0, hd0, hc0, hv1, ho1, hp1, hb1, hd1, hd1'] at *)
             ·
              rcases eb (decide ((0:Int) ≤ B1.bkD q2_ (g 4) (g 5) (g 6))) with h12 | h12
              ·
               rcases eb (decide (B1.bkD q2_ (g 4) (g 5) (g 6) ≥ (0:Int))) with h13 | h13
               ·
                refine vcIntro (hx2 14 14092) (an (an h13 (an h12 (an h11 (an h10 (an h9 (an (show (5:Nat) ≤ N by (try dsimp only [q1_, q2_] at *); omega) (an (show (6:Nat) ≤ N by (try dsimp only [q1_, q2_] at *); omega) (an (show (7:Nat) ≤ N by (try dsimp only [q1_, q2_] at *); omega) (an (show (8:Nat) ≤ N by (try dsimp only [q1_, q2_] at *); omega) (an (an (show (0:Int) ≤ (1:Int) by (try dsimp only [q1_, q2_] at *); simp) (show (2:Int) ≤ (↑m:Int) by (try dsimp only [q1_, q2_] at *); omega)) (an h8 (an h7 (an h6 (an h5 (an h4 (an h3 (an (show (1:Nat) ≤ N by (try dsimp only [q1_, q2_] at *); omega) (an (show (2:Nat) ≤ N by (try dsimp only [q1_, q2_] at *); omega) (an (show (3:Nat) ≤ N by (try dsimp only [q1_, q2_] at *); omega) (an (show (4:Nat) ≤ N by (try dsimp only [q1_, q2_] at *); omega) (an (an (show (0:Int) ≤ (0:Int) by (try dsimp only [q1_, q2_] at *); simp) (show (1:Int) ≤ (↑m:Int) by (try dsimp only [q1_, q2_] at *); omega)) (an h2 (an h1 (an (an (show m * (4:Nat) ≤ N by (try dsimp only [q1_, q2_] at *); omega) (show m.succ ≤ (9223372036854775808:Nat) by (try dsimp only [q1_, q2_] at *); omega)) (an h0 tt))))))))))))))))))))))))) (an (an (an (ri (B1.bkD (bl b) (g 4) (g 5) (g 6))) (cZd2s_0 b z (an (ri (z 31)) tt))) tt) tt)) ?_
                kernel_rfl
               · exact ff (by ((try dsimp only [q1_, q2_] at *); first | (simp at *; omega) | (simp_all; done)))
              · exact ff (by (try dsimp only [q1_, q2_] at *); simp [ho, hv0, ho0, hp0, hb0, hd0, hc0, hv1, ho1, hp1, hb1, hd1, hd1'] at *)
            · exact ff (by ((try dsimp only [q1_, q2_] at *); first | (simp at *; omega) | (simp_all; done)))
           · exact ff (by ((try dsimp only [q1_, q2_] at *); first | (simp at *; omega) | (simp_all; done)))
          · exact ff (by ((try dsimp only [q1_, q2_] at *); first | (simp at *; omega) | (simp_all; done)))
     · exact ff (by ((try dsimp only [q1_, q2_] at *); first | (simp at *; omega) | (simp_all; done)))
    · exact ff (by ((try dsimp only [q1_, q2_] at *); first | (simp at *; omega) | (simp_all; done)))
theorem bd2sbr (g : Nat → Int) (N m c:Nat) (b : Nat → Bool) (z : Nat → Int) (hm9 : m < 9223372036854775808) (hN : m * 4 ≤ N) (hm : m = 2) (ho : B1.opsB g m = true) (hv0 : B1.allMay (zl z) = true) (ho0 : B1.opMay (g 0) (g 1) (g 2) (g 3) = true) (hp0 : B1.opMayL [g 0, g 1, g 2, g 3] = true) (hk0 : 6 ≤ g 0) (hb0 : skMay (zl z) (g 0) (g 1) (g 2) (g 3) = true) (hd0 : (skN (bl b) (zl z) (g 0) (g 1) (g 2) (g 3)) = -1) (hc0 : (skCode (bl b) (zl z) (g 0) (g 1)) = 0) (hv1 : B1.allMay (lS b z g) = true) (ho1 : B1.opMay (g 4) (g 5) (g 6) (g 7) = true) (hp1 : B1.opMayL [g 4, g 5, g 6, g 7] = true) (hk1 : 0 ≤ g 4 ∧ g 4 ≤ 5) (hb1 : B1.bkMay (lS b z g) (g 4) (g 5) (g 6) (g 7) = true) (hd1 : (B1.bkD (bl b) (g 4) (g 5) (g 6)) = -1) (hc1 : (B1.bkCode (skC (bl b) (zl z) (g 0) (g 1) (g 3) 0) (skC (bl b) (zl z) (g 0) (g 1) (g 3) 1) (skC (bl b) (zl z) (g 0) (g 1) (g 3) 2) (skC (bl b) (zl z) (g 0) (g 1) (g 3) 3) (g 4) (g 5) (g 6) (g 7)) ≠ 0) : ∃ hh, vcOf (runCall Try.prog dosB noL 6000 22 [.agg (viewOf (bl b) (zl z)), .slice 0 (.c 0) (.s m) 4 (.s c)] (Hm [some (.ext g (.s N))] 1) hh) (fun v H1 => retP 1 (0 :: lastBlk v) v H1 (askD 2 b z) (ans2 (skCode (bl b) (zl z) (g 0) (g 1)) (skNum (bl b) (zl z) (g 0) (g 1) (g 2)) (B1.bkCode ((zk b z (g 0) (g 1) (g 3)) 16) ((zk b z (g 0) (g 1) (g 3)) 17) ((zk b z (g 0) (g 1) (g 3)) 18) ((zk b z (g 0) (g 1) (g 3)) 19) (g 4) (g 5) (g 6) (g 7)) (B1.bkNum ((zk b z (g 0) (g 1) (g 3)) 16) ((zk b z (g 0) (g 1) (g 3)) 17) ((zk b z (g 0) (g 1) (g 3)) 18) ((zk b z (g 0) (g 1) (g 3)) 19) (g 4) (g 5) (g 6) (g 7))) 2) := by

  let q1_ := [z 0, z 1, z 2, z 3, z 4, z 5, z 6, z 7, z 8, z 9, z 10, z 11, z 12, z 13, z 14, z 15, z 16, z 17, z 18, z 19, z 20, z 21, z 22, z 23, z 24, z 25, z 26, z 27, z 28, z 29, z 30, z 31]
  let q2_ := [b 0, b 1, b 2, b 3, b 4, b 5, b 6, b 7, b 8, b 9, b 10, b 11, b 12, b 13, b 14, b 15]
  rcases eb (!B1.allMay q1_) with h0 | h0
  · exact ff (by (try dsimp only [q1_, q2_] at *); simp [ho, hv0, ho0, hp0, hb0, hd0, hc0, hv1, ho1, hp1, hb1, hd1, hc1] at *)
  ·
   rcases eb (!B1.opsB g m) with h1 | h1
   · exact ff (by (try dsimp only [q1_, q2_] at *); simp [ho, hv0, ho0, hp0, hb0, hd0, hc0, hv1, ho1, hp1, hb1, hd1, hc1] at *)
   ·
    rcases eb (decide ((0:Int) < (↑m:Int))) with h2 | h2
    ·
     rcases eb (decide (g 0 ≥ (0:Int))) with h3 | h3
     ·
      rcases eb (decide (g 0 ≤ (5:Int))) with h4 | h4
      · exact ff (by ((try dsimp only [q1_, q2_] at *); first | (simp at *; omega) | (simp_all; done)))
      ·
       rcases eb (!skMay q1_ (g 0) (g 1) (g 2) (g 3)) with h5 | h5
       · exact ff (by (try dsimp only [q1_, q2_] at *); simp [ho, hv0, ho0, hp0, hb0, hd0, hc0, hv1, ho1, hp1, hb1, hd1, hc1] at *)
       ·
        rcases eb (!skN q2_ q1_ (g 0) (g 1) (g 2) (g 3) == (-1:Int)) with h6 | h6
        · exact ff (by (try dsimp only [q1_, q2_] at *); simp [ho, hv0, ho0, hp0, hb0, hd0, hc0, hv1, ho1, hp1, hb1, hd1, hc1] at *)
        ·
         rcases eb (skCode q2_ q1_ (g 0) (g 1) != (0:Int)) with h7 | h7
         · exact ff (by (try dsimp only [q1_, q2_] at *); simp [ho, hv0, ho0, hp0, hb0, hd0, hc0, hv1, ho1, hp1, hb1, hd1, hc1] at *)
         ·
          rcases eb (decide ((1:Int) < (↑m:Int))) with h8 | h8
          ·
           rcases eb (decide (g 4 ≥ (0:Int))) with h9 | h9
           ·
            rcases eb (decide (g 4 ≤ (5:Int))) with h10 | h10
            ·
             rcases eb (!B1.bkMay [z 0, z 1, z 2, z 3, z 4, z 5, z 6, z 7, z 8, z 9, z 10, z 11, z 12, z 13, z 14, z 15, skC q2_ q1_ (g 0) (g 1) (g 3) 0, skC q2_ q1_ (g 0) (g 1) (g 3) 1, skC q2_ q1_ (g 0) (g 1) (g 3) 2, skC q2_ q1_ (g 0) (g 1) (g 3) 3, skC q2_ q1_ (g 0) (g 1) (g 3) 4, skC q2_ q1_ (g 0) (g 1) (g 3) 5, skC q2_ q1_ (g 0) (g 1) (g 3) 6, skC q2_ q1_ (g 0) (g 1) (g 3) 7, skC q2_ q1_ (g 0) (g 1) (g 3) 8, skC q2_ q1_ (g 0) (g 1) (g 3) 9, skC q2_ q1_ (g 0) (g 1) (g 3) 10, skC q2_ q1_ (g 0) (g 1) (g 3) 11, skC q2_ q1_ (g 0) (g 1) (g 3) 12, skC q2_ q1_ (g 0) (g 1) (g 3) 13, skC q2_ q1_ (g 0) (g 1) (g 3) 14, skC q2_ q1_ (g 0) (g 1) (g 3) 15] (g 4) (g 5) (g 6) (g 7)) with h11 | h11
             · exact ff (by (try dsimp only [q1_, q2_] at *); simp [ho, hv0, ho0, hp0, hb0, hd0, hc0, hv1, ho1, hp1, hb1, hd1, hc1] at *)
             ·
              rcases eb (decide ((0:Int) ≤ B1.bkD q2_ (g 4) (g 5) (g 6))) with h12 | h12
              · exact ff (by (try dsimp only [q1_, q2_] at *); simp [ho, hv0, ho0, hp0, hb0, hd0, hc0, hv1, ho1, hp1, hb1, hd1, hc1] at *)
              ·
               rcases eb (B1.bkCode (skC q2_ q1_ (g 0) (g 1) (g 3) 0) (skC q2_ q1_ (g 0) (g 1) (g 3) 1) (skC q2_ q1_ (g 0) (g 1) (g 3) 2) (skC q2_ q1_ (g 0) (g 1) (g 3) 3) (g 4) (g 5) (g 6) (g 7) != (0:Int)) with h13 | h13
               ·
                refine vcIntro (hx2 14 9996) (an (an h13 (an h12 (an h11 (an h10 (an h9 (an (show (5:Nat) ≤ N by (try dsimp only [q1_, q2_] at *); omega) (an (show (6:Nat) ≤ N by (try dsimp only [q1_, q2_] at *); omega) (an (show (7:Nat) ≤ N by (try dsimp only [q1_, q2_] at *); omega) (an (show (8:Nat) ≤ N by (try dsimp only [q1_, q2_] at *); omega) (an (an (show (0:Int) ≤ (1:Int) by (try dsimp only [q1_, q2_] at *); simp) (show (2:Int) ≤ (↑m:Int) by (try dsimp only [q1_, q2_] at *); omega)) (an h8 (an h7 (an h6 (an h5 (an h4 (an h3 (an (show (1:Nat) ≤ N by (try dsimp only [q1_, q2_] at *); omega) (an (show (2:Nat) ≤ N by (try dsimp only [q1_, q2_] at *); omega) (an (show (3:Nat) ≤ N by (try dsimp only [q1_, q2_] at *); omega) (an (show (4:Nat) ≤ N by (try dsimp only [q1_, q2_] at *); omega) (an (an (show (0:Int) ≤ (0:Int) by (try dsimp only [q1_, q2_] at *); simp) (show (1:Int) ≤ (↑m:Int) by (try dsimp only [q1_, q2_] at *); omega)) (an h2 (an h1 (an (an (show m * (4:Nat) ≤ N by (try dsimp only [q1_, q2_] at *); omega) (show m.succ ≤ (9223372036854775808:Nat) by (try dsimp only [q1_, q2_] at *); omega)) (an h0 tt))))))))))))))))))))))))) (an (an (an tt (cZd2s_0 b z (an (ri (z 31)) (an tt (an tt tt))))) tt) (an (zo (an (ri (skCode (bl b) q1_ (g 0) (g 1))) (an (ri (skNum (bl b) q1_ (g 0) (g 1) (g 2))) (an (show B1.bkCode (zk b z (g 0) (g 1) (g 3) 16) (zk b z (g 0) (g 1) (g 3) 17) (zk b z (g 0) (g 1) (g 3) 18) (zk b z (g 0) (g 1) (g 3) 19) (g 4) (g 5) (g 6) (g 7) = B1.bkCode (skC q2_ q1_ (g 0) (g 1) (g 3) 0) (skC q2_ q1_ (g 0) (g 1) (g 3) 1) (skC q2_ q1_ (g 0) (g 1) (g 3) 2) (skC q2_ q1_ (g 0) (g 1) (g 3) 3) (g 4) (g 5) (g 6) (g 7) by rfl) (show B1.bkNum (zk b z (g 0) (g 1) (g 3) 16) (zk b z (g 0) (g 1) (g 3) 17) (zk b z (g 0) (g 1) (g 3) 18) (zk b z (g 0) (g 1) (g 3) 19) (g 4) (g 5) (g 6) (g 7) = B1.bkNum (skC q2_ q1_ (g 0) (g 1) (g 3) 0) (skC q2_ q1_ (g 0) (g 1) (g 3) 1) (skC q2_ q1_ (g 0) (g 1) (g 3) 2) (skC q2_ q1_ (g 0) (g 1) (g 3) 3) (g 4) (g 5) (g 6) (g 7) by rfl))))) tt))) ?_
                kernel_rfl
               · exact ff (by (try dsimp only [q1_, q2_] at *); simp [ho, hv0, ho0, hp0, hb0, hd0, hc0, hv1, ho1, hp1, hb1, hd1, hc1] at *)
            · exact ff (by ((try dsimp only [q1_, q2_] at *); first | (simp at *; omega) | (simp_all; done)))
           · exact ff (by ((try dsimp only [q1_, q2_] at *); first | (simp at *; omega) | (simp_all; done)))
          · exact ff (by ((try dsimp only [q1_, q2_] at *); first | (simp at *; omega) | (simp_all; done)))
     · exact ff (by ((try dsimp only [q1_, q2_] at *); first | (simp at *; omega) | (simp_all; done)))
    · exact ff (by ((try dsimp only [q1_, q2_] at *); first | (simp at *; omega) | (simp_all; done)))
theorem bd2sbd (g : Nat → Int) (N m c:Nat) (b : Nat → Bool) (z : Nat → Int) (hm9 : m < 9223372036854775808) (hN : m * 4 ≤ N) (hm : m = 2) (ho : B1.opsB g m = true) (hv0 : B1.allMay (zl z) = true) (ho0 : B1.opMay (g 0) (g 1) (g 2) (g 3) = true) (hp0 : B1.opMayL [g 0, g 1, g 2, g 3] = true) (hk0 : 6 ≤ g 0) (hb0 : skMay (zl z) (g 0) (g 1) (g 2) (g 3) = true) (hd0 : (skN (bl b) (zl z) (g 0) (g 1) (g 2) (g 3)) = -1) (hc0 : (skCode (bl b) (zl z) (g 0) (g 1)) = 0) (hv1 : B1.allMay (lS b z g) = true) (ho1 : B1.opMay (g 4) (g 5) (g 6) (g 7) = true) (hp1 : B1.opMayL [g 4, g 5, g 6, g 7] = true) (hk1 : 0 ≤ g 4 ∧ g 4 ≤ 5) (hb1 : B1.bkMay (lS b z g) (g 4) (g 5) (g 6) (g 7) = true) (hd1 : (B1.bkD (bl b) (g 4) (g 5) (g 6)) = -1) (hc1 : (B1.bkCode (skC (bl b) (zl z) (g 0) (g 1) (g 3) 0) (skC (bl b) (zl z) (g 0) (g 1) (g 3) 1) (skC (bl b) (zl z) (g 0) (g 1) (g 3) 2) (skC (bl b) (zl z) (g 0) (g 1) (g 3) 3) (g 4) (g 5) (g 6) (g 7)) = 0) : ∃ hh, vcOf (runCall Try.prog dosB noL 6000 22 [.agg (viewOf (bl b) (zl z)), .slice 0 (.c 0) (.s m) 4 (.s c)] (Hm [some (.ext g (.s N))] 1) hh) (fun v H1 => retP 1 (0 :: lastBlk v) v H1 (askD 2 b (zb (zk b z (g 0) (g 1) (g 3)) (g 4) (g 5) (g 6) (g 7))) (ans2 (skCode (bl b) (zl z) (g 0) (g 1)) (skNum (bl b) (zl z) (g 0) (g 1) (g 2)) (B1.bkCode ((zk b z (g 0) (g 1) (g 3)) 16) ((zk b z (g 0) (g 1) (g 3)) 17) ((zk b z (g 0) (g 1) (g 3)) 18) ((zk b z (g 0) (g 1) (g 3)) 19) (g 4) (g 5) (g 6) (g 7)) (B1.bkNum ((zk b z (g 0) (g 1) (g 3)) 16) ((zk b z (g 0) (g 1) (g 3)) 17) ((zk b z (g 0) (g 1) (g 3)) 18) ((zk b z (g 0) (g 1) (g 3)) 19) (g 4) (g 5) (g 6) (g 7))) 2) := by

  let q1_ := [z 0, z 1, z 2, z 3, z 4, z 5, z 6, z 7, z 8, z 9, z 10, z 11, z 12, z 13, z 14, z 15, z 16, z 17, z 18, z 19, z 20, z 21, z 22, z 23, z 24, z 25, z 26, z 27, z 28, z 29, z 30, z 31]
  let q2_ := [b 0, b 1, b 2, b 3, b 4, b 5, b 6, b 7, b 8, b 9, b 10, b 11, b 12, b 13, b 14, b 15]
  let q3_ := (zk b z (g 0) (g 1) (g 3))
  let q4_ := (skC q2_ q1_ (g 0) (g 1) (g 3) 0)
  let q5_ := (skC q2_ q1_ (g 0) (g 1) (g 3) 1)
  let q6_ := (skC q2_ q1_ (g 0) (g 1) (g 3) 2)
  let q7_ := (skC q2_ q1_ (g 0) (g 1) (g 3) 3)
  rcases eb (!B1.allMay q1_) with h0 | h0
  · exact ff (by (try dsimp only [q1_, q2_, q3_, q4_, q5_, q6_, q7_] at *); simp [ho, hv0, ho0, hp0, hb0, hd0, hc0, hv1, ho1, hp1, hb1, hd1, hc1] at *)
  ·
   rcases eb (!B1.opsB g m) with h1 | h1
   · exact ff (by (try dsimp only [q1_, q2_, q3_, q4_, q5_, q6_, q7_] at *); simp [ho, hv0, ho0, hp0, hb0, hd0, hc0, hv1, ho1, hp1, hb1, hd1, hc1] at *)
   ·
    rcases eb (decide ((0:Int) < (↑m:Int))) with h2 | h2
    ·
     rcases eb (decide (g 0 ≥ (0:Int))) with h3 | h3
     ·
      rcases eb (decide (g 0 ≤ (5:Int))) with h4 | h4
      · exact ff (by ((try dsimp only [q1_, q2_, q3_, q4_, q5_, q6_, q7_] at *); first | (simp at *; omega) | (simp_all; done)))
      ·
       rcases eb (!skMay q1_ (g 0) (g 1) (g 2) (g 3)) with h5 | h5
       · exact ff (by (try dsimp only [q1_, q2_, q3_, q4_, q5_, q6_, q7_] at *); simp [ho, hv0, ho0, hp0, hb0, hd0, hc0, hv1, ho1, hp1, hb1, hd1, hc1] at *)
       ·
        rcases eb (!skN q2_ q1_ (g 0) (g 1) (g 2) (g 3) == (-1:Int)) with h6 | h6
        · exact ff (by (try dsimp only [q1_, q2_, q3_, q4_, q5_, q6_, q7_] at *); simp [ho, hv0, ho0, hp0, hb0, hd0, hc0, hv1, ho1, hp1, hb1, hd1, hc1] at *)
        ·
         rcases eb (skCode q2_ q1_ (g 0) (g 1) != (0:Int)) with h7 | h7
         · exact ff (by (try dsimp only [q1_, q2_, q3_, q4_, q5_, q6_, q7_] at *); simp [ho, hv0, ho0, hp0, hb0, hd0, hc0, hv1, ho1, hp1, hb1, hd1, hc1] at *)
         ·
          rcases eb (decide ((1:Int) < (↑m:Int))) with h8 | h8
          ·
           rcases eb (decide (g 4 ≥ (0:Int))) with h9 | h9
           ·
            rcases eb (decide (g 4 ≤ (5:Int))) with h10 | h10
            ·
             rcases eb (!B1.bkMay [z 0, z 1, z 2, z 3, z 4, z 5, z 6, z 7, z 8, z 9, z 10, z 11, z 12, z 13, z 14, z 15, skC q2_ q1_ (g 0) (g 1) (g 3) 0, skC q2_ q1_ (g 0) (g 1) (g 3) 1, skC q2_ q1_ (g 0) (g 1) (g 3) 2, skC q2_ q1_ (g 0) (g 1) (g 3) 3, skC q2_ q1_ (g 0) (g 1) (g 3) 4, skC q2_ q1_ (g 0) (g 1) (g 3) 5, skC q2_ q1_ (g 0) (g 1) (g 3) 6, skC q2_ q1_ (g 0) (g 1) (g 3) 7, skC q2_ q1_ (g 0) (g 1) (g 3) 8, skC q2_ q1_ (g 0) (g 1) (g 3) 9, skC q2_ q1_ (g 0) (g 1) (g 3) 10, skC q2_ q1_ (g 0) (g 1) (g 3) 11, skC q2_ q1_ (g 0) (g 1) (g 3) 12, skC q2_ q1_ (g 0) (g 1) (g 3) 13, skC q2_ q1_ (g 0) (g 1) (g 3) 14, skC q2_ q1_ (g 0) (g 1) (g 3) 15] (g 4) (g 5) (g 6) (g 7)) with h11 | h11
             · exact ff (by (try dsimp only [q1_, q2_, q3_, q4_, q5_, q6_, q7_] at *); simp [ho, hv0, ho0, hp0, hb0, hd0, hc0, hv1, ho1, hp1, hb1, hd1, hc1] at *)
             ·
              rcases eb (decide ((0:Int) ≤ B1.bkD q2_ (g 4) (g 5) (g 6))) with h12 | h12
              · exact ff (by (try dsimp only [q1_, q2_, q3_, q4_, q5_, q6_, q7_] at *); simp [ho, hv0, ho0, hp0, hb0, hd0, hc0, hv1, ho1, hp1, hb1, hd1, hc1] at *)
              ·
               rcases eb (B1.bkCode q4_ q5_ q6_ q7_ (g 4) (g 5) (g 6) (g 7) != (0:Int)) with h13 | h13
               · exact ff (by (try dsimp only [q1_, q2_, q3_, q4_, q5_, q6_, q7_] at *); simp [ho, hv0, ho0, hp0, hb0, hd0, hc0, hv1, ho1, hp1, hb1, hd1, hc1] at *)
               ·
                rcases eb (decide ((2:Int) < (↑m:Int))) with h14 | h14
                · exact ff (by ((try dsimp only [q1_, q2_, q3_, q4_, q5_, q6_, q7_] at *); first | (simp at *; omega) | (simp_all; done)))
                ·
                 refine vcIntro (hx2 15 1804) (an (an h14 (an h13 (an h12 (an h11 (an h10 (an h9 (an (show (5:Nat) ≤ N by (try dsimp only [q1_, q2_, q3_, q4_, q5_, q6_, q7_] at *); omega) (an (show (6:Nat) ≤ N by (try dsimp only [q1_, q2_, q3_, q4_, q5_, q6_, q7_] at *); omega) (an (show (7:Nat) ≤ N by (try dsimp only [q1_, q2_, q3_, q4_, q5_, q6_, q7_] at *); omega) (an (show (8:Nat) ≤ N by (try dsimp only [q1_, q2_, q3_, q4_, q5_, q6_, q7_] at *); omega) (an (an (show (0:Int) ≤ (1:Int) by (try dsimp only [q1_, q2_, q3_, q4_, q5_, q6_, q7_] at *); simp) (show (2:Int) ≤ (↑m:Int) by (try dsimp only [q1_, q2_, q3_, q4_, q5_, q6_, q7_] at *); omega)) (an h8 (an h7 (an h6 (an h5 (an h4 (an h3 (an (show (1:Nat) ≤ N by (try dsimp only [q1_, q2_, q3_, q4_, q5_, q6_, q7_] at *); omega) (an (show (2:Nat) ≤ N by (try dsimp only [q1_, q2_, q3_, q4_, q5_, q6_, q7_] at *); omega) (an (show (3:Nat) ≤ N by (try dsimp only [q1_, q2_, q3_, q4_, q5_, q6_, q7_] at *); omega) (an (show (4:Nat) ≤ N by (try dsimp only [q1_, q2_, q3_, q4_, q5_, q6_, q7_] at *); omega) (an (an (show (0:Int) ≤ (0:Int) by (try dsimp only [q1_, q2_, q3_, q4_, q5_, q6_, q7_] at *); simp) (show (1:Int) ≤ (↑m:Int) by (try dsimp only [q1_, q2_, q3_, q4_, q5_, q6_, q7_] at *); omega)) (an h2 (an h1 (an (an (show m * (4:Nat) ≤ N by (try dsimp only [q1_, q2_, q3_, q4_, q5_, q6_, q7_] at *); omega) (show m.succ ≤ (9223372036854775808:Nat) by (try dsimp only [q1_, q2_, q3_, q4_, q5_, q6_, q7_] at *); omega)) (an h0 tt)))))))))))))))))))))))))) (an (an (an tt (cZd2s_1 b (an (show zb q3_ (g 4) (g 5) (g 6) (g 7) 0 = z 0 by rfl) (an (show zb q3_ (g 4) (g 5) (g 6) (g 7) 1 = z 1 by rfl) (an (show zb q3_ (g 4) (g 5) (g 6) (g 7) 2 = z 2 by rfl) (an (show zb q3_ (g 4) (g 5) (g 6) (g 7) 3 = z 3 by rfl) (an (show zb q3_ (g 4) (g 5) (g 6) (g 7) 4 = z 4 by rfl) (an (show zb q3_ (g 4) (g 5) (g 6) (g 7) 5 = z 5 by rfl) (an (show zb q3_ (g 4) (g 5) (g 6) (g 7) 6 = z 6 by rfl) (an (show zb q3_ (g 4) (g 5) (g 6) (g 7) 7 = z 7 by rfl) (an (show zb q3_ (g 4) (g 5) (g 6) (g 7) 8 = z 8 by rfl) (an (show zb q3_ (g 4) (g 5) (g 6) (g 7) 9 = z 9 by rfl) (an (show zb q3_ (g 4) (g 5) (g 6) (g 7) 10 = z 10 by rfl) (an (show zb q3_ (g 4) (g 5) (g 6) (g 7) 11 = z 11 by rfl) (an (show zb q3_ (g 4) (g 5) (g 6) (g 7) 12 = z 12 by rfl) (an (show zb q3_ (g 4) (g 5) (g 6) (g 7) 13 = z 13 by rfl) (an (show zb q3_ (g 4) (g 5) (g 6) (g 7) 14 = z 14 by rfl) (an (show zb q3_ (g 4) (g 5) (g 6) (g 7) 15 = z 15 by rfl) (an (show zb q3_ (g 4) (g 5) (g 6) (g 7) 16 = B1.bkNow q4_ q5_ q6_ q7_ (g 4) (g 5) (g 6) (g 7) 0 by rfl) (an (show zb q3_ (g 4) (g 5) (g 6) (g 7) 17 = B1.bkNow q4_ q5_ q6_ q7_ (g 4) (g 5) (g 6) (g 7) 1 by rfl) (an (show zb q3_ (g 4) (g 5) (g 6) (g 7) 18 = B1.bkNow q4_ q5_ q6_ q7_ (g 4) (g 5) (g 6) (g 7) 2 by rfl) (an (show zb q3_ (g 4) (g 5) (g 6) (g 7) 19 = B1.bkNow q4_ q5_ q6_ q7_ (g 4) (g 5) (g 6) (g 7) 3 by rfl) (an (show zb q3_ (g 4) (g 5) (g 6) (g 7) 20 = skC q2_ q1_ (g 0) (g 1) (g 3) 4 by rfl) (an (show zb q3_ (g 4) (g 5) (g 6) (g 7) 21 = skC q2_ q1_ (g 0) (g 1) (g 3) 5 by rfl) (an (show zb q3_ (g 4) (g 5) (g 6) (g 7) 22 = skC q2_ q1_ (g 0) (g 1) (g 3) 6 by rfl) (an (show zb q3_ (g 4) (g 5) (g 6) (g 7) 23 = skC q2_ q1_ (g 0) (g 1) (g 3) 7 by rfl) (an (show zb q3_ (g 4) (g 5) (g 6) (g 7) 24 = skC q2_ q1_ (g 0) (g 1) (g 3) 8 by rfl) (an (show zb q3_ (g 4) (g 5) (g 6) (g 7) 25 = skC q2_ q1_ (g 0) (g 1) (g 3) 9 by rfl) (an (show zb q3_ (g 4) (g 5) (g 6) (g 7) 26 = skC q2_ q1_ (g 0) (g 1) (g 3) 10 by rfl) (an (show zb q3_ (g 4) (g 5) (g 6) (g 7) 27 = skC q2_ q1_ (g 0) (g 1) (g 3) 11 by rfl) (an (show zb q3_ (g 4) (g 5) (g 6) (g 7) 28 = skC q2_ q1_ (g 0) (g 1) (g 3) 12 by rfl) (an (show zb q3_ (g 4) (g 5) (g 6) (g 7) 29 = skC q2_ q1_ (g 0) (g 1) (g 3) 13 by rfl) (an (show zb q3_ (g 4) (g 5) (g 6) (g 7) 30 = skC q2_ q1_ (g 0) (g 1) (g 3) 14 by rfl) (an (show zb q3_ (g 4) (g 5) (g 6) (g 7) 31 = skC q2_ q1_ (g 0) (g 1) (g 3) 15 by rfl) (an tt (an tt tt)))))))))))))))))))))))))))))))))))) tt) (an (zo (an (ri (skCode (bl b) q1_ (g 0) (g 1))) (an (ri (skNum (bl b) q1_ (g 0) (g 1) (g 2))) (an (show B1.bkCode (zk b z (g 0) (g 1) (g 3) 16) (zk b z (g 0) (g 1) (g 3) 17) (zk b z (g 0) (g 1) (g 3) 18) (zk b z (g 0) (g 1) (g 3) 19) (g 4) (g 5) (g 6) (g 7) = B1.bkCode q4_ q5_ q6_ q7_ (g 4) (g 5) (g 6) (g 7) by rfl) (show B1.bkNum (zk b z (g 0) (g 1) (g 3) 16) (zk b z (g 0) (g 1) (g 3) 17) (zk b z (g 0) (g 1) (g 3) 18) (zk b z (g 0) (g 1) (g 3) 19) (g 4) (g 5) (g 6) (g 7) = B1.bkNum q4_ q5_ q6_ q7_ (g 4) (g 5) (g 6) (g 7) by rfl))))) tt))) ?_
                 kernel_rfl
            · exact ff (by ((try dsimp only [q1_, q2_, q3_, q4_, q5_, q6_, q7_] at *); first | (simp at *; omega) | (simp_all; done)))
           · exact ff (by ((try dsimp only [q1_, q2_, q3_, q4_, q5_, q6_, q7_] at *); first | (simp at *; omega) | (simp_all; done)))
          · exact ff (by ((try dsimp only [q1_, q2_, q3_, q4_, q5_, q6_, q7_] at *); first | (simp at *; omega) | (simp_all; done)))
     · exact ff (by ((try dsimp only [q1_, q2_, q3_, q4_, q5_, q6_, q7_] at *); first | (simp at *; omega) | (simp_all; done)))
    · exact ff (by ((try dsimp only [q1_, q2_, q3_, q4_, q5_, q6_, q7_] at *); first | (simp at *; omega) | (simp_all; done)))
theorem bd2ssn (g : Nat → Int) (N m c:Nat) (b : Nat → Bool) (z : Nat → Int) (hm9 : m < 9223372036854775808) (hN : m * 4 ≤ N) (hm : m = 2) (ho : B1.opsB g m = true) (hv0 : B1.allMay (zl z) = true) (ho0 : B1.opMay (g 0) (g 1) (g 2) (g 3) = true) (hp0 : B1.opMayL [g 0, g 1, g 2, g 3] = true) (hk0 : 6 ≤ g 0) (hb0 : skMay (zl z) (g 0) (g 1) (g 2) (g 3) = true) (hd0 : (skN (bl b) (zl z) (g 0) (g 1) (g 2) (g 3)) = -1) (hc0 : (skCode (bl b) (zl z) (g 0) (g 1)) = 0) (hv1 : B1.allMay (lS b z g) = true) (ho1 : B1.opMay (g 4) (g 5) (g 6) (g 7) = true) (hp1 : B1.opMayL [g 4, g 5, g 6, g 7] = true) (hk1 : 6 ≤ g 4) (hb1 : skMay (lS b z g) (g 4) (g 5) (g 6) (g 7) = true) (hd1 : (skN (bl b) (lS b z g) (g 4) (g 5) (g 6) (g 7)) ≠ -1) (hd1' : 0 ≤ (skN (bl b) (lS b z g) (g 4) (g 5) (g 6) (g 7))) : ∃ hh, vcOf (runCall Try.prog dosB noL 6000 22 [.agg (viewOf (bl b) (zl z)), .slice 0 (.c 0) (.s m) 4 (.s c)] (Hm [some (.ext g (.s N))] 1) hh) (fun v H1 => retP 1 (0 :: lastBlk v) v H1 (askN (skN (bl b) (zl (zk b z (g 0) (g 1) (g 3))) (g 4) (g 5) (g 6) (g 7)) b z) [none] 1) := by

  let q2_ := [z 0, z 1, z 2, z 3, z 4, z 5, z 6, z 7, z 8, z 9, z 10, z 11, z 12, z 13, z 14, z 15, z 16, z 17, z 18, z 19, z 20, z 21, z 22, z 23, z 24, z 25, z 26, z 27, z 28, z 29, z 30, z 31]
  let q3_ := [b 0, b 1, b 2, b 3, b 4, b 5, b 6, b 7, b 8, b 9, b 10, b 11, b 12, b 13, b 14, b 15]
  let q1_ := [z 0, z 1, z 2, z 3, z 4, z 5, z 6, z 7, z 8, z 9, z 10, z 11, z 12, z 13, z 14, z 15, skC q3_ q2_ (g 0) (g 1) (g 3) 0, skC q3_ q2_ (g 0) (g 1) (g 3) 1, skC q3_ q2_ (g 0) (g 1) (g 3) 2, skC q3_ q2_ (g 0) (g 1) (g 3) 3, skC q3_ q2_ (g 0) (g 1) (g 3) 4, skC q3_ q2_ (g 0) (g 1) (g 3) 5, skC q3_ q2_ (g 0) (g 1) (g 3) 6, skC q3_ q2_ (g 0) (g 1) (g 3) 7, skC q3_ q2_ (g 0) (g 1) (g 3) 8, skC q3_ q2_ (g 0) (g 1) (g 3) 9, skC q3_ q2_ (g 0) (g 1) (g 3) 10, skC q3_ q2_ (g 0) (g 1) (g 3) 11, skC q3_ q2_ (g 0) (g 1) (g 3) 12, skC q3_ q2_ (g 0) (g 1) (g 3) 13, skC q3_ q2_ (g 0) (g 1) (g 3) 14, skC q3_ q2_ (g 0) (g 1) (g 3) 15]
  rcases eb (!B1.allMay q2_) with h0 | h0
  · exact ff (by (try dsimp only [q2_, q3_, q1_] at *); simp [ho, hv0, ho0, hp0, hb0, hd0, hc0, hv1, ho1, hp1, hb1, hd1, hd1'] at *)
  ·
   rcases eb (!B1.opsB g m) with h1 | h1
   · exact ff (by (try dsimp only [q2_, q3_, q1_] at *); simp [ho, hv0, ho0, hp0, hb0, hd0, hc0, hv1, ho1, hp1, hb1, hd1, hd1'] at *)
   ·
    rcases eb (decide ((0:Int) < (↑m:Int))) with h2 | h2
    ·
     rcases eb (decide (g 0 ≥ (0:Int))) with h3 | h3
     ·
      rcases eb (decide (g 0 ≤ (5:Int))) with h4 | h4
      · exact ff (by ((try dsimp only [q2_, q3_, q1_] at *); first | (simp at *; omega) | (simp_all; done)))
      ·
       rcases eb (!skMay q2_ (g 0) (g 1) (g 2) (g 3)) with h5 | h5
       · exact ff (by (try dsimp only [q2_, q3_, q1_] at *); simp [ho, hv0, ho0, hp0, hb0, hd0, hc0, hv1, ho1, hp1, hb1, hd1, hd1'] at *)
       ·
        rcases eb (!skN q3_ q2_ (g 0) (g 1) (g 2) (g 3) == (-1:Int)) with h6 | h6
        · exact ff (by (try dsimp only [q2_, q3_, q1_] at *); simp [ho, hv0, ho0, hp0, hb0, hd0, hc0, hv1, ho1, hp1, hb1, hd1, hd1'] at *)
        ·
         rcases eb (skCode q3_ q2_ (g 0) (g 1) != (0:Int)) with h7 | h7
         · exact ff (by (try dsimp only [q2_, q3_, q1_] at *); simp [ho, hv0, ho0, hp0, hb0, hd0, hc0, hv1, ho1, hp1, hb1, hd1, hd1'] at *)
         ·
          rcases eb (decide ((1:Int) < (↑m:Int))) with h8 | h8
          ·
           rcases eb (decide (g 4 ≥ (0:Int))) with h9 | h9
           ·
            rcases eb (decide (g 4 ≤ (5:Int))) with h10 | h10
            · exact ff (by ((try dsimp only [q2_, q3_, q1_] at *); first | (simp at *; omega) | (simp_all; done)))
            ·
             rcases eb (!skMay q1_ (g 4) (g 5) (g 6) (g 7)) with h11 | h11
             · exact ff (by (try dsimp only [q2_, q3_, q1_] at *); simp [ho, hv0, ho0, hp0, hb0, hd0, hc0, hv1, ho1, hp1, hb1, hd1, hd1'] at *)
             ·
              rcases eb (!skN q3_ q1_ (g 4) (g 5) (g 6) (g 7) == (-1:Int)) with h12 | h12
              ·
               rcases eb (decide (skN q3_ q1_ (g 4) (g 5) (g 6) (g 7) ≥ (0:Int))) with h13 | h13
               ·
                refine vcIntro (hx2 14 13068) (an (an h13 (an h12 (an h11 (an h10 (an h9 (an (show (5:Nat) ≤ N by (try dsimp only [q2_, q3_, q1_] at *); omega) (an (show (6:Nat) ≤ N by (try dsimp only [q2_, q3_, q1_] at *); omega) (an (show (7:Nat) ≤ N by (try dsimp only [q2_, q3_, q1_] at *); omega) (an (show (8:Nat) ≤ N by (try dsimp only [q2_, q3_, q1_] at *); omega) (an (an (show (0:Int) ≤ (1:Int) by (try dsimp only [q2_, q3_, q1_] at *); simp) (show (2:Int) ≤ (↑m:Int) by (try dsimp only [q2_, q3_, q1_] at *); omega)) (an h8 (an h7 (an h6 (an h5 (an h4 (an h3 (an (show (1:Nat) ≤ N by (try dsimp only [q2_, q3_, q1_] at *); omega) (an (show (2:Nat) ≤ N by (try dsimp only [q2_, q3_, q1_] at *); omega) (an (show (3:Nat) ≤ N by (try dsimp only [q2_, q3_, q1_] at *); omega) (an (show (4:Nat) ≤ N by (try dsimp only [q2_, q3_, q1_] at *); omega) (an (an (show (0:Int) ≤ (0:Int) by (try dsimp only [q2_, q3_, q1_] at *); simp) (show (1:Int) ≤ (↑m:Int) by (try dsimp only [q2_, q3_, q1_] at *); omega)) (an h2 (an h1 (an (an (show m * (4:Nat) ≤ N by (try dsimp only [q2_, q3_, q1_] at *); omega) (show m.succ ≤ (9223372036854775808:Nat) by (try dsimp only [q2_, q3_, q1_] at *); omega)) (an h0 tt))))))))))))))))))))))))) (an (an (an (show skN (bl b) [zk b z (g 0) (g 1) (g 3) 0, zk b z (g 0) (g 1) (g 3) 1, zk b z (g 0) (g 1) (g 3) 2, zk b z (g 0) (g 1) (g 3) 3, zk b z (g 0) (g 1) (g 3) 4, zk b z (g 0) (g 1) (g 3) 5, zk b z (g 0) (g 1) (g 3) 6, zk b z (g 0) (g 1) (g 3) 7, zk b z (g 0) (g 1) (g 3) 8, zk b z (g 0) (g 1) (g 3) 9, zk b z (g 0) (g 1) (g 3) 10, zk b z (g 0) (g 1) (g 3) 11, zk b z (g 0) (g 1) (g 3) 12, zk b z (g 0) (g 1) (g 3) 13, zk b z (g 0) (g 1) (g 3) 14, zk b z (g 0) (g 1) (g 3) 15, zk b z (g 0) (g 1) (g 3) 16, zk b z (g 0) (g 1) (g 3) 17, zk b z (g 0) (g 1) (g 3) 18, zk b z (g 0) (g 1) (g 3) 19, zk b z (g 0) (g 1) (g 3) 20, zk b z (g 0) (g 1) (g 3) 21, zk b z (g 0) (g 1) (g 3) 22, zk b z (g 0) (g 1) (g 3) 23, zk b z (g 0) (g 1) (g 3) 24, zk b z (g 0) (g 1) (g 3) 25, zk b z (g 0) (g 1) (g 3) 26, zk b z (g 0) (g 1) (g 3) 27, zk b z (g 0) (g 1) (g 3) 28, zk b z (g 0) (g 1) (g 3) 29, zk b z (g 0) (g 1) (g 3) 30, zk b z (g 0) (g 1) (g 3) 31] (g 4) (g 5) (g 6) (g 7) = skN q3_ q1_ (g 4) (g 5) (g 6) (g 7) by rfl) (cZd2s_0 b z (an (ri (z 31)) tt))) tt) tt)) ?_
                kernel_rfl
               · exact ff (by (try dsimp only [q2_, q3_, q1_] at *); simp [ho, hv0, ho0, hp0, hb0, hd0, hc0, hv1, ho1, hp1, hb1, hd1, hd1'] at *)
              · exact ff (by (try dsimp only [q2_, q3_, q1_] at *); simp [ho, hv0, ho0, hp0, hb0, hd0, hc0, hv1, ho1, hp1, hb1, hd1, hd1'] at *)
           · exact ff (by ((try dsimp only [q2_, q3_, q1_] at *); first | (simp at *; omega) | (simp_all; done)))
          · exact ff (by ((try dsimp only [q2_, q3_, q1_] at *); first | (simp at *; omega) | (simp_all; done)))
     · exact ff (by ((try dsimp only [q2_, q3_, q1_] at *); first | (simp at *; omega) | (simp_all; done)))
    · exact ff (by ((try dsimp only [q2_, q3_, q1_] at *); first | (simp at *; omega) | (simp_all; done)))
theorem bd2ssr (g : Nat → Int) (N m c:Nat) (b : Nat → Bool) (z : Nat → Int) (hm9 : m < 9223372036854775808) (hN : m * 4 ≤ N) (hm : m = 2) (ho : B1.opsB g m = true) (hv0 : B1.allMay (zl z) = true) (ho0 : B1.opMay (g 0) (g 1) (g 2) (g 3) = true) (hp0 : B1.opMayL [g 0, g 1, g 2, g 3] = true) (hk0 : 6 ≤ g 0) (hb0 : skMay (zl z) (g 0) (g 1) (g 2) (g 3) = true) (hd0 : (skN (bl b) (zl z) (g 0) (g 1) (g 2) (g 3)) = -1) (hc0 : (skCode (bl b) (zl z) (g 0) (g 1)) = 0) (hv1 : B1.allMay (lS b z g) = true) (ho1 : B1.opMay (g 4) (g 5) (g 6) (g 7) = true) (hp1 : B1.opMayL [g 4, g 5, g 6, g 7] = true) (hk1 : 6 ≤ g 4) (hb1 : skMay (lS b z g) (g 4) (g 5) (g 6) (g 7) = true) (hd1 : (skN (bl b) (lS b z g) (g 4) (g 5) (g 6) (g 7)) = -1) (hc1 : (skCode (bl b) (lS b z g) (g 4) (g 5)) ≠ 0) : ∃ hh, vcOf (runCall Try.prog dosB noL 6000 22 [.agg (viewOf (bl b) (zl z)), .slice 0 (.c 0) (.s m) 4 (.s c)] (Hm [some (.ext g (.s N))] 1) hh) (fun v H1 => retP 1 (0 :: lastBlk v) v H1 (askD 2 b z) (ans2 (skCode (bl b) (zl z) (g 0) (g 1)) (skNum (bl b) (zl z) (g 0) (g 1) (g 2)) (skCode (bl b) (zl (zk b z (g 0) (g 1) (g 3))) (g 4) (g 5)) (skNum (bl b) (zl (zk b z (g 0) (g 1) (g 3))) (g 4) (g 5) (g 6))) 2) := by

  let q2_ := [z 0, z 1, z 2, z 3, z 4, z 5, z 6, z 7, z 8, z 9, z 10, z 11, z 12, z 13, z 14, z 15, z 16, z 17, z 18, z 19, z 20, z 21, z 22, z 23, z 24, z 25, z 26, z 27, z 28, z 29, z 30, z 31]
  let q3_ := [b 0, b 1, b 2, b 3, b 4, b 5, b 6, b 7, b 8, b 9, b 10, b 11, b 12, b 13, b 14, b 15]
  let q1_ := [z 0, z 1, z 2, z 3, z 4, z 5, z 6, z 7, z 8, z 9, z 10, z 11, z 12, z 13, z 14, z 15, skC q3_ q2_ (g 0) (g 1) (g 3) 0, skC q3_ q2_ (g 0) (g 1) (g 3) 1, skC q3_ q2_ (g 0) (g 1) (g 3) 2, skC q3_ q2_ (g 0) (g 1) (g 3) 3, skC q3_ q2_ (g 0) (g 1) (g 3) 4, skC q3_ q2_ (g 0) (g 1) (g 3) 5, skC q3_ q2_ (g 0) (g 1) (g 3) 6, skC q3_ q2_ (g 0) (g 1) (g 3) 7, skC q3_ q2_ (g 0) (g 1) (g 3) 8, skC q3_ q2_ (g 0) (g 1) (g 3) 9, skC q3_ q2_ (g 0) (g 1) (g 3) 10, skC q3_ q2_ (g 0) (g 1) (g 3) 11, skC q3_ q2_ (g 0) (g 1) (g 3) 12, skC q3_ q2_ (g 0) (g 1) (g 3) 13, skC q3_ q2_ (g 0) (g 1) (g 3) 14, skC q3_ q2_ (g 0) (g 1) (g 3) 15]
  let q4_ := [zk b z (g 0) (g 1) (g 3) 0, zk b z (g 0) (g 1) (g 3) 1, zk b z (g 0) (g 1) (g 3) 2, zk b z (g 0) (g 1) (g 3) 3, zk b z (g 0) (g 1) (g 3) 4, zk b z (g 0) (g 1) (g 3) 5, zk b z (g 0) (g 1) (g 3) 6, zk b z (g 0) (g 1) (g 3) 7, zk b z (g 0) (g 1) (g 3) 8, zk b z (g 0) (g 1) (g 3) 9, zk b z (g 0) (g 1) (g 3) 10, zk b z (g 0) (g 1) (g 3) 11, zk b z (g 0) (g 1) (g 3) 12, zk b z (g 0) (g 1) (g 3) 13, zk b z (g 0) (g 1) (g 3) 14, zk b z (g 0) (g 1) (g 3) 15, zk b z (g 0) (g 1) (g 3) 16, zk b z (g 0) (g 1) (g 3) 17, zk b z (g 0) (g 1) (g 3) 18, zk b z (g 0) (g 1) (g 3) 19, zk b z (g 0) (g 1) (g 3) 20, zk b z (g 0) (g 1) (g 3) 21, zk b z (g 0) (g 1) (g 3) 22, zk b z (g 0) (g 1) (g 3) 23, zk b z (g 0) (g 1) (g 3) 24, zk b z (g 0) (g 1) (g 3) 25, zk b z (g 0) (g 1) (g 3) 26, zk b z (g 0) (g 1) (g 3) 27, zk b z (g 0) (g 1) (g 3) 28, zk b z (g 0) (g 1) (g 3) 29, zk b z (g 0) (g 1) (g 3) 30, zk b z (g 0) (g 1) (g 3) 31]
  rcases eb (!B1.allMay q2_) with h0 | h0
  · exact ff (by (try dsimp only [q2_, q3_, q1_, q4_] at *); simp [ho, hv0, ho0, hp0, hb0, hd0, hc0, hv1, ho1, hp1, hb1, hd1, hc1] at *)
  ·
   rcases eb (!B1.opsB g m) with h1 | h1
   · exact ff (by (try dsimp only [q2_, q3_, q1_, q4_] at *); simp [ho, hv0, ho0, hp0, hb0, hd0, hc0, hv1, ho1, hp1, hb1, hd1, hc1] at *)
   ·
    rcases eb (decide ((0:Int) < (↑m:Int))) with h2 | h2
    ·
     rcases eb (decide (g 0 ≥ (0:Int))) with h3 | h3
     ·
      rcases eb (decide (g 0 ≤ (5:Int))) with h4 | h4
      · exact ff (by ((try dsimp only [q2_, q3_, q1_, q4_] at *); first | (simp at *; omega) | (simp_all; done)))
      ·
       rcases eb (!skMay q2_ (g 0) (g 1) (g 2) (g 3)) with h5 | h5
       · exact ff (by (try dsimp only [q2_, q3_, q1_, q4_] at *); simp [ho, hv0, ho0, hp0, hb0, hd0, hc0, hv1, ho1, hp1, hb1, hd1, hc1] at *)
       ·
        rcases eb (!skN q3_ q2_ (g 0) (g 1) (g 2) (g 3) == (-1:Int)) with h6 | h6
        · exact ff (by (try dsimp only [q2_, q3_, q1_, q4_] at *); simp [ho, hv0, ho0, hp0, hb0, hd0, hc0, hv1, ho1, hp1, hb1, hd1, hc1] at *)
        ·
         rcases eb (skCode q3_ q2_ (g 0) (g 1) != (0:Int)) with h7 | h7
         · exact ff (by (try dsimp only [q2_, q3_, q1_, q4_] at *); simp [ho, hv0, ho0, hp0, hb0, hd0, hc0, hv1, ho1, hp1, hb1, hd1, hc1] at *)
         ·
          rcases eb (decide ((1:Int) < (↑m:Int))) with h8 | h8
          ·
           rcases eb (decide (g 4 ≥ (0:Int))) with h9 | h9
           ·
            rcases eb (decide (g 4 ≤ (5:Int))) with h10 | h10
            · exact ff (by ((try dsimp only [q2_, q3_, q1_, q4_] at *); first | (simp at *; omega) | (simp_all; done)))
            ·
             rcases eb (!skMay q1_ (g 4) (g 5) (g 6) (g 7)) with h11 | h11
             · exact ff (by (try dsimp only [q2_, q3_, q1_, q4_] at *); simp [ho, hv0, ho0, hp0, hb0, hd0, hc0, hv1, ho1, hp1, hb1, hd1, hc1] at *)
             ·
              rcases eb (!skN q3_ q1_ (g 4) (g 5) (g 6) (g 7) == (-1:Int)) with h12 | h12
              · exact ff (by (try dsimp only [q2_, q3_, q1_, q4_] at *); simp [ho, hv0, ho0, hp0, hb0, hd0, hc0, hv1, ho1, hp1, hb1, hd1, hc1] at *)
              ·
               rcases eb (skCode q3_ q1_ (g 4) (g 5) != (0:Int)) with h13 | h13
               ·
                refine vcIntro (hx2 14 8972) (an (an h13 (an h12 (an h11 (an h10 (an h9 (an (show (5:Nat) ≤ N by (try dsimp only [q2_, q3_, q1_, q4_] at *); omega) (an (show (6:Nat) ≤ N by (try dsimp only [q2_, q3_, q1_, q4_] at *); omega) (an (show (7:Nat) ≤ N by (try dsimp only [q2_, q3_, q1_, q4_] at *); omega) (an (show (8:Nat) ≤ N by (try dsimp only [q2_, q3_, q1_, q4_] at *); omega) (an (an (show (0:Int) ≤ (1:Int) by (try dsimp only [q2_, q3_, q1_, q4_] at *); simp) (show (2:Int) ≤ (↑m:Int) by (try dsimp only [q2_, q3_, q1_, q4_] at *); omega)) (an h8 (an h7 (an h6 (an h5 (an h4 (an h3 (an (show (1:Nat) ≤ N by (try dsimp only [q2_, q3_, q1_, q4_] at *); omega) (an (show (2:Nat) ≤ N by (try dsimp only [q2_, q3_, q1_, q4_] at *); omega) (an (show (3:Nat) ≤ N by (try dsimp only [q2_, q3_, q1_, q4_] at *); omega) (an (show (4:Nat) ≤ N by (try dsimp only [q2_, q3_, q1_, q4_] at *); omega) (an (an (show (0:Int) ≤ (0:Int) by (try dsimp only [q2_, q3_, q1_, q4_] at *); simp) (show (1:Int) ≤ (↑m:Int) by (try dsimp only [q2_, q3_, q1_, q4_] at *); omega)) (an h2 (an h1 (an (an (show m * (4:Nat) ≤ N by (try dsimp only [q2_, q3_, q1_, q4_] at *); omega) (show m.succ ≤ (9223372036854775808:Nat) by (try dsimp only [q2_, q3_, q1_, q4_] at *); omega)) (an h0 tt))))))))))))))))))))))))) (an (an (an tt (cZd2s_0 b z (an (ri (z 31)) (an tt (an tt tt))))) tt) (an (zo (an (ri (skCode (bl b) q2_ (g 0) (g 1))) (an (ri (skNum (bl b) q2_ (g 0) (g 1) (g 2))) (an (show skCode (bl b) q4_ (g 4) (g 5) = skCode q3_ q1_ (g 4) (g 5) by rfl) (show skNum (bl b) q4_ (g 4) (g 5) (g 6) = skNum q3_ q1_ (g 4) (g 5) (g 6) by rfl))))) tt))) ?_
                kernel_rfl
               · exact ff (by (try dsimp only [q2_, q3_, q1_, q4_] at *); simp [ho, hv0, ho0, hp0, hb0, hd0, hc0, hv1, ho1, hp1, hb1, hd1, hc1] at *)
           · exact ff (by ((try dsimp only [q2_, q3_, q1_, q4_] at *); first | (simp at *; omega) | (simp_all; done)))
          · exact ff (by ((try dsimp only [q2_, q3_, q1_, q4_] at *); first | (simp at *; omega) | (simp_all; done)))
     · exact ff (by ((try dsimp only [q2_, q3_, q1_, q4_] at *); first | (simp at *; omega) | (simp_all; done)))
    · exact ff (by ((try dsimp only [q2_, q3_, q1_, q4_] at *); first | (simp at *; omega) | (simp_all; done)))
theorem bd2ssd (g : Nat → Int) (N m c:Nat) (b : Nat → Bool) (z : Nat → Int) (hm9 : m < 9223372036854775808) (hN : m * 4 ≤ N) (hm : m = 2) (ho : B1.opsB g m = true) (hv0 : B1.allMay (zl z) = true) (ho0 : B1.opMay (g 0) (g 1) (g 2) (g 3) = true) (hp0 : B1.opMayL [g 0, g 1, g 2, g 3] = true) (hk0 : 6 ≤ g 0) (hb0 : skMay (zl z) (g 0) (g 1) (g 2) (g 3) = true) (hd0 : (skN (bl b) (zl z) (g 0) (g 1) (g 2) (g 3)) = -1) (hc0 : (skCode (bl b) (zl z) (g 0) (g 1)) = 0) (hv1 : B1.allMay (lS b z g) = true) (ho1 : B1.opMay (g 4) (g 5) (g 6) (g 7) = true) (hp1 : B1.opMayL [g 4, g 5, g 6, g 7] = true) (hk1 : 6 ≤ g 4) (hb1 : skMay (lS b z g) (g 4) (g 5) (g 6) (g 7) = true) (hd1 : (skN (bl b) (lS b z g) (g 4) (g 5) (g 6) (g 7)) = -1) (hc1 : (skCode (bl b) (lS b z g) (g 4) (g 5)) = 0) : ∃ hh, vcOf (runCall Try.prog dosB noL 6000 22 [.agg (viewOf (bl b) (zl z)), .slice 0 (.c 0) (.s m) 4 (.s c)] (Hm [some (.ext g (.s N))] 1) hh) (fun v H1 => retP 1 (0 :: lastBlk v) v H1 (askD 2 b (zk b (zk b z (g 0) (g 1) (g 3)) (g 4) (g 5) (g 7))) (ans2 (skCode (bl b) (zl z) (g 0) (g 1)) (skNum (bl b) (zl z) (g 0) (g 1) (g 2)) (skCode (bl b) (zl (zk b z (g 0) (g 1) (g 3))) (g 4) (g 5)) (skNum (bl b) (zl (zk b z (g 0) (g 1) (g 3))) (g 4) (g 5) (g 6))) 2) := by

  let q2_ := [z 0, z 1, z 2, z 3, z 4, z 5, z 6, z 7, z 8, z 9, z 10, z 11, z 12, z 13, z 14, z 15, z 16, z 17, z 18, z 19, z 20, z 21, z 22, z 23, z 24, z 25, z 26, z 27, z 28, z 29, z 30, z 31]
  let q3_ := [b 0, b 1, b 2, b 3, b 4, b 5, b 6, b 7, b 8, b 9, b 10, b 11, b 12, b 13, b 14, b 15]
  let q1_ := [z 0, z 1, z 2, z 3, z 4, z 5, z 6, z 7, z 8, z 9, z 10, z 11, z 12, z 13, z 14, z 15, skC q3_ q2_ (g 0) (g 1) (g 3) 0, skC q3_ q2_ (g 0) (g 1) (g 3) 1, skC q3_ q2_ (g 0) (g 1) (g 3) 2, skC q3_ q2_ (g 0) (g 1) (g 3) 3, skC q3_ q2_ (g 0) (g 1) (g 3) 4, skC q3_ q2_ (g 0) (g 1) (g 3) 5, skC q3_ q2_ (g 0) (g 1) (g 3) 6, skC q3_ q2_ (g 0) (g 1) (g 3) 7, skC q3_ q2_ (g 0) (g 1) (g 3) 8, skC q3_ q2_ (g 0) (g 1) (g 3) 9, skC q3_ q2_ (g 0) (g 1) (g 3) 10, skC q3_ q2_ (g 0) (g 1) (g 3) 11, skC q3_ q2_ (g 0) (g 1) (g 3) 12, skC q3_ q2_ (g 0) (g 1) (g 3) 13, skC q3_ q2_ (g 0) (g 1) (g 3) 14, skC q3_ q2_ (g 0) (g 1) (g 3) 15]
  let q4_ := [zk b z (g 0) (g 1) (g 3) 0, zk b z (g 0) (g 1) (g 3) 1, zk b z (g 0) (g 1) (g 3) 2, zk b z (g 0) (g 1) (g 3) 3, zk b z (g 0) (g 1) (g 3) 4, zk b z (g 0) (g 1) (g 3) 5, zk b z (g 0) (g 1) (g 3) 6, zk b z (g 0) (g 1) (g 3) 7, zk b z (g 0) (g 1) (g 3) 8, zk b z (g 0) (g 1) (g 3) 9, zk b z (g 0) (g 1) (g 3) 10, zk b z (g 0) (g 1) (g 3) 11, zk b z (g 0) (g 1) (g 3) 12, zk b z (g 0) (g 1) (g 3) 13, zk b z (g 0) (g 1) (g 3) 14, zk b z (g 0) (g 1) (g 3) 15, zk b z (g 0) (g 1) (g 3) 16, zk b z (g 0) (g 1) (g 3) 17, zk b z (g 0) (g 1) (g 3) 18, zk b z (g 0) (g 1) (g 3) 19, zk b z (g 0) (g 1) (g 3) 20, zk b z (g 0) (g 1) (g 3) 21, zk b z (g 0) (g 1) (g 3) 22, zk b z (g 0) (g 1) (g 3) 23, zk b z (g 0) (g 1) (g 3) 24, zk b z (g 0) (g 1) (g 3) 25, zk b z (g 0) (g 1) (g 3) 26, zk b z (g 0) (g 1) (g 3) 27, zk b z (g 0) (g 1) (g 3) 28, zk b z (g 0) (g 1) (g 3) 29, zk b z (g 0) (g 1) (g 3) 30, zk b z (g 0) (g 1) (g 3) 31]
  let q5_ := (zk b z (g 0) (g 1) (g 3))
  rcases eb (!B1.allMay q2_) with h0 | h0
  · exact ff (by (try dsimp only [q2_, q3_, q1_, q4_, q5_] at *); simp [ho, hv0, ho0, hp0, hb0, hd0, hc0, hv1, ho1, hp1, hb1, hd1, hc1] at *)
  ·
   rcases eb (!B1.opsB g m) with h1 | h1
   · exact ff (by (try dsimp only [q2_, q3_, q1_, q4_, q5_] at *); simp [ho, hv0, ho0, hp0, hb0, hd0, hc0, hv1, ho1, hp1, hb1, hd1, hc1] at *)
   ·
    rcases eb (decide ((0:Int) < (↑m:Int))) with h2 | h2
    ·
     rcases eb (decide (g 0 ≥ (0:Int))) with h3 | h3
     ·
      rcases eb (decide (g 0 ≤ (5:Int))) with h4 | h4
      · exact ff (by ((try dsimp only [q2_, q3_, q1_, q4_, q5_] at *); first | (simp at *; omega) | (simp_all; done)))
      ·
       rcases eb (!skMay q2_ (g 0) (g 1) (g 2) (g 3)) with h5 | h5
       · exact ff (by (try dsimp only [q2_, q3_, q1_, q4_, q5_] at *); simp [ho, hv0, ho0, hp0, hb0, hd0, hc0, hv1, ho1, hp1, hb1, hd1, hc1] at *)
       ·
        rcases eb (!skN q3_ q2_ (g 0) (g 1) (g 2) (g 3) == (-1:Int)) with h6 | h6
        · exact ff (by (try dsimp only [q2_, q3_, q1_, q4_, q5_] at *); simp [ho, hv0, ho0, hp0, hb0, hd0, hc0, hv1, ho1, hp1, hb1, hd1, hc1] at *)
        ·
         rcases eb (skCode q3_ q2_ (g 0) (g 1) != (0:Int)) with h7 | h7
         · exact ff (by (try dsimp only [q2_, q3_, q1_, q4_, q5_] at *); simp [ho, hv0, ho0, hp0, hb0, hd0, hc0, hv1, ho1, hp1, hb1, hd1, hc1] at *)
         ·
          rcases eb (decide ((1:Int) < (↑m:Int))) with h8 | h8
          ·
           rcases eb (decide (g 4 ≥ (0:Int))) with h9 | h9
           ·
            rcases eb (decide (g 4 ≤ (5:Int))) with h10 | h10
            · exact ff (by ((try dsimp only [q2_, q3_, q1_, q4_, q5_] at *); first | (simp at *; omega) | (simp_all; done)))
            ·
             rcases eb (!skMay q1_ (g 4) (g 5) (g 6) (g 7)) with h11 | h11
             · exact ff (by (try dsimp only [q2_, q3_, q1_, q4_, q5_] at *); simp [ho, hv0, ho0, hp0, hb0, hd0, hc0, hv1, ho1, hp1, hb1, hd1, hc1] at *)
             ·
              rcases eb (!skN q3_ q1_ (g 4) (g 5) (g 6) (g 7) == (-1:Int)) with h12 | h12
              · exact ff (by (try dsimp only [q2_, q3_, q1_, q4_, q5_] at *); simp [ho, hv0, ho0, hp0, hb0, hd0, hc0, hv1, ho1, hp1, hb1, hd1, hc1] at *)
              ·
               rcases eb (skCode q3_ q1_ (g 4) (g 5) != (0:Int)) with h13 | h13
               · exact ff (by (try dsimp only [q2_, q3_, q1_, q4_, q5_] at *); simp [ho, hv0, ho0, hp0, hb0, hd0, hc0, hv1, ho1, hp1, hb1, hd1, hc1] at *)
               ·
                rcases eb (decide ((2:Int) < (↑m:Int))) with h14 | h14
                · exact ff (by ((try dsimp only [q2_, q3_, q1_, q4_, q5_] at *); first | (simp at *; omega) | (simp_all; done)))
                ·
                 refine vcIntro (hx2 15 780) (an (an h14 (an h13 (an h12 (an h11 (an h10 (an h9 (an (show (5:Nat) ≤ N by (try dsimp only [q2_, q3_, q1_, q4_, q5_] at *); omega) (an (show (6:Nat) ≤ N by (try dsimp only [q2_, q3_, q1_, q4_, q5_] at *); omega) (an (show (7:Nat) ≤ N by (try dsimp only [q2_, q3_, q1_, q4_, q5_] at *); omega) (an (show (8:Nat) ≤ N by (try dsimp only [q2_, q3_, q1_, q4_, q5_] at *); omega) (an (an (show (0:Int) ≤ (1:Int) by (try dsimp only [q2_, q3_, q1_, q4_, q5_] at *); simp) (show (2:Int) ≤ (↑m:Int) by (try dsimp only [q2_, q3_, q1_, q4_, q5_] at *); omega)) (an h8 (an h7 (an h6 (an h5 (an h4 (an h3 (an (show (1:Nat) ≤ N by (try dsimp only [q2_, q3_, q1_, q4_, q5_] at *); omega) (an (show (2:Nat) ≤ N by (try dsimp only [q2_, q3_, q1_, q4_, q5_] at *); omega) (an (show (3:Nat) ≤ N by (try dsimp only [q2_, q3_, q1_, q4_, q5_] at *); omega) (an (show (4:Nat) ≤ N by (try dsimp only [q2_, q3_, q1_, q4_, q5_] at *); omega) (an (an (show (0:Int) ≤ (0:Int) by (try dsimp only [q2_, q3_, q1_, q4_, q5_] at *); simp) (show (1:Int) ≤ (↑m:Int) by (try dsimp only [q2_, q3_, q1_, q4_, q5_] at *); omega)) (an h2 (an h1 (an (an (show m * (4:Nat) ≤ N by (try dsimp only [q2_, q3_, q1_, q4_, q5_] at *); omega) (show m.succ ≤ (9223372036854775808:Nat) by (try dsimp only [q2_, q3_, q1_, q4_, q5_] at *); omega)) (an h0 tt)))))))))))))))))))))))))) (an (an (an tt (cZd2s_1 b (an (show zk b q5_ (g 4) (g 5) (g 7) 0 = z 0 by rfl) (an (show zk b q5_ (g 4) (g 5) (g 7) 1 = z 1 by rfl) (an (show zk b q5_ (g 4) (g 5) (g 7) 2 = z 2 by rfl) (an (show zk b q5_ (g 4) (g 5) (g 7) 3 = z 3 by rfl) (an (show zk b q5_ (g 4) (g 5) (g 7) 4 = z 4 by rfl) (an (show zk b q5_ (g 4) (g 5) (g 7) 5 = z 5 by rfl) (an (show zk b q5_ (g 4) (g 5) (g 7) 6 = z 6 by rfl) (an (show zk b q5_ (g 4) (g 5) (g 7) 7 = z 7 by rfl) (an (show zk b q5_ (g 4) (g 5) (g 7) 8 = z 8 by rfl) (an (show zk b q5_ (g 4) (g 5) (g 7) 9 = z 9 by rfl) (an (show zk b q5_ (g 4) (g 5) (g 7) 10 = z 10 by rfl) (an (show zk b q5_ (g 4) (g 5) (g 7) 11 = z 11 by rfl) (an (show zk b q5_ (g 4) (g 5) (g 7) 12 = z 12 by rfl) (an (show zk b q5_ (g 4) (g 5) (g 7) 13 = z 13 by rfl) (an (show zk b q5_ (g 4) (g 5) (g 7) 14 = z 14 by rfl) (an (show zk b q5_ (g 4) (g 5) (g 7) 15 = z 15 by rfl) (an (show zk b q5_ (g 4) (g 5) (g 7) 16 = skC q3_ q1_ (g 4) (g 5) (g 7) 0 by rfl) (an (show zk b q5_ (g 4) (g 5) (g 7) 17 = skC q3_ q1_ (g 4) (g 5) (g 7) 1 by rfl) (an (show zk b q5_ (g 4) (g 5) (g 7) 18 = skC q3_ q1_ (g 4) (g 5) (g 7) 2 by rfl) (an (show zk b q5_ (g 4) (g 5) (g 7) 19 = skC q3_ q1_ (g 4) (g 5) (g 7) 3 by rfl) (an (show zk b q5_ (g 4) (g 5) (g 7) 20 = skC q3_ q1_ (g 4) (g 5) (g 7) 4 by rfl) (an (show zk b q5_ (g 4) (g 5) (g 7) 21 = skC q3_ q1_ (g 4) (g 5) (g 7) 5 by rfl) (an (show zk b q5_ (g 4) (g 5) (g 7) 22 = skC q3_ q1_ (g 4) (g 5) (g 7) 6 by rfl) (an (show zk b q5_ (g 4) (g 5) (g 7) 23 = skC q3_ q1_ (g 4) (g 5) (g 7) 7 by rfl) (an (show zk b q5_ (g 4) (g 5) (g 7) 24 = skC q3_ q1_ (g 4) (g 5) (g 7) 8 by rfl) (an (show zk b q5_ (g 4) (g 5) (g 7) 25 = skC q3_ q1_ (g 4) (g 5) (g 7) 9 by rfl) (an (show zk b q5_ (g 4) (g 5) (g 7) 26 = skC q3_ q1_ (g 4) (g 5) (g 7) 10 by rfl) (an (show zk b q5_ (g 4) (g 5) (g 7) 27 = skC q3_ q1_ (g 4) (g 5) (g 7) 11 by rfl) (an (show zk b q5_ (g 4) (g 5) (g 7) 28 = skC q3_ q1_ (g 4) (g 5) (g 7) 12 by rfl) (an (show zk b q5_ (g 4) (g 5) (g 7) 29 = skC q3_ q1_ (g 4) (g 5) (g 7) 13 by rfl) (an (show zk b q5_ (g 4) (g 5) (g 7) 30 = skC q3_ q1_ (g 4) (g 5) (g 7) 14 by rfl) (an (show zk b q5_ (g 4) (g 5) (g 7) 31 = skC q3_ q1_ (g 4) (g 5) (g 7) 15 by rfl) (an tt (an tt tt)))))))))))))))))))))))))))))))))))) tt) (an (zo (an (ri (skCode (bl b) q2_ (g 0) (g 1))) (an (ri (skNum (bl b) q2_ (g 0) (g 1) (g 2))) (an (show skCode (bl b) q4_ (g 4) (g 5) = skCode q3_ q1_ (g 4) (g 5) by rfl) (show skNum (bl b) q4_ (g 4) (g 5) (g 6) = skNum q3_ q1_ (g 4) (g 5) (g 6) by rfl))))) tt))) ?_
                 kernel_rfl
           · exact ff (by ((try dsimp only [q2_, q3_, q1_, q4_, q5_] at *); first | (simp at *; omega) | (simp_all; done)))
          · exact ff (by ((try dsimp only [q2_, q3_, q1_, q4_, q5_] at *); first | (simp at *; omega) | (simp_all; done)))
     · exact ff (by ((try dsimp only [q2_, q3_, q1_, q4_, q5_] at *); first | (simp at *; omega) | (simp_all; done)))
    · exact ff (by ((try dsimp only [q2_, q3_, q1_, q4_, q5_] at *); first | (simp at *; omega) | (simp_all; done)))
end
end Go.Ideal.Bd
