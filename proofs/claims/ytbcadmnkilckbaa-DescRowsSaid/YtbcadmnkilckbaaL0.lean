/- Contracts of what all laws use. Own text. -/
import Derived.Test.YtbcadmnkilckbaaI25
import Derived.Test.YtbcadmnkilckbaaRows
import Derived.KernelRfl
namespace Go.Ideal.L1
open Go.Proofs Go.Ideal
set_option linter.unusedSimpArgs false
set_option linter.unusedVariables false
set_option maxRecDepth 100000
set_option maxHeartbeats 4000000

theorem _root_.Go.Ideal.an {a b : Prop} (x : a) (y : b) : a ∧ b := ⟨x, y⟩
theorem _root_.Go.Ideal.rb (b : Bool) : b = b := rfl
theorem _root_.Go.Ideal.ri (b : Int) : b = b := rfl
theorem _root_.Go.Ideal.tt : True := True.intro
theorem _root_.Go.Ideal.ff {p : Prop} (h : False) : p := h.elim
theorem mixed : Try.prog.follows .mixedOrders = true := by kernel_rfl

/-- The first n are the same. -/
def sameF (n : Nat) (f g : Nat → Int) : Bool := decide (∀ k, k < n → f k = g k)
theorem sameF_iff {n : Nat} {f g : Nat → Int} : sameF n f g = true ↔ ∀ k, k < n → f k = g k := by simp [sameF]
def sameN (l1 l2 : N) (f g : Nat → Int) : B := match l1, l2 with
  | .c a, .c b => if Nat.beq a b then .s (sameF a f g) else .c false
  | a, b => .s (decide (a.val = b.val) && sameF a.val f g)
theorem sameN_val (l1 l2 : N) (f g : Nat → Int) : (sameN l1 l2 f g).val = (decide (l1.val = l2.val) && sameF l1.val f g) := by
  unfold sameN
  split
  · rename_i a b
    by_cases e : a = b
    · subst e; simp [B.val, N.val]
    · have : ¬ Nat.beq a b = true := fun h => e (Nat.eq_of_beq_eq_true h)
      simp [this, B.val, N.val, e]
  · rfl
def lenOk (l : N) : List Prop := match l with
  | .c a => if Nat.blt a 9223372036854775807 then [] else [False]
  | .s a => [a < 9223372036854775807]
theorem lenOk_ok {l : N} (h : ∀ q, q ∈ lenOk l → q) : l.val < 9223372036854775807 := by
  cases l with
  | c a =>
    simp only [lenOk] at h
    by_cases e : Nat.blt a 9223372036854775807 = true
    · exact Nat.le_of_ble_eq_true e
    · rw [if_neg e] at h; exact (h False (by simp)).elim
  | s a => exact h (a < 9223372036854775807) (by simp [lenOk])

theorem callKeep {f : FuncId} {xs : List V} {H : Hp} {v2 : V} {bs : List (Option Blk)} {n2 : Nat} {l : List Nat} {spec : Spec} (hs : SpecOk Try.prog spec) {n : Nat} (h : ∃ hh, vcOf (runCall Try.prog spec noL n f xs H hh) fun v H' => retP H.n l v H' v2 bs n2) : CallOk Try.prog f xs (St H) v2 (St (Hm bs n2)) := by
  obtain ⟨hh, hb⟩ := h
  exact CallQ.keep (CallQ.run hs noL_ok mixed ⟨hh, vcOf_mono hb fun v H' hv => ⟨_, hv⟩⟩)

theorem CtOk.val {P : Program} {f : FuncId} {xs : List V} {H : Hp} {l up : List Nat} {v v' : V} {bs : List (Option Blk)} {n2 : Nat} {cs : List Prop} {xs0 : List V} {bs0 : List (Option Blk)} (h : CtOk P f xs H ⟨l, up, v, bs, n2, cs⟩ xs0 bs0) (hv : ∀ r y, VR r v y → VR r v' y) : CtOk P f xs H ⟨l, up, v', bs, n2, cs⟩ xs0 bs0 :=
  ⟨h.nodup, h.lt, h.up, h.n, h.n', h.pre, h.ro, h.wr, h.args, h.call.to rfl rfl hv⟩

theorem blt_of {a b : Nat} (h : a < b) : Nat.blt a b = true := Nat.ble_eq_true_of_le h

/-! ### Below -/

theorem below1 (a b : Int) : ∃ hh, vcOf (runCall Try.prog noSpec noL 100 59 [.int .i64 (.s a), .int .i64 (.s b)] H0 hh) (fun v _ => V.leP (.bool (.s (decide (0 ≤ a) && decide (a < b)))) v) := by

  rcases Bool.eq_false_or_eq_true (Decidable.decide (a ≥ (0 : Int))) with h0 | h0
  ·
    have k1 : (Decidable.decide ((0 : Int) ≤ a) && Decidable.decide (a < b)) = Decidable.decide (a < b) := by (simp_all; done)
    refine vcIntro [true] (And.intro (And.intro h0 True.intro) k1) ?_
    kernel_rfl
  ·
    have k2 : (Decidable.decide ((0 : Int) ≤ a) && Decidable.decide (a < b)) = Bool.false := by (simp at *; intros; omega)
    refine vcIntro [false] (And.intro (And.intro h0 True.intro) k2) ?_
    kernel_rfl
def below : Spec := spU 59 fun xs => match xs with
  | [.int .i64 (.s a), .int .i64 (.s b)] => some (.bool (.s (decide (0 ≤ a) && decide (a < b))))
  | _ => none
theorem below_ok : SpecOk Try.prog below := spU_ok fun xs v h => by
  split at h
  · simp only [Option.some.injEq] at h; subst h
    exact ⟨rfl, rfl, (CallQ.run noSpec_ok noL_ok mixed (below1 _ _)).ok rfl⟩
  · simp at h

end Go.Ideal.L1
