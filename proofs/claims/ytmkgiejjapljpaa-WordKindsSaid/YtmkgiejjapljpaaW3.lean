/- Chapter 1: contracts of words, as they are used. Own text. -/
import Derived.Test.YtmkgiejjapljpaaW2
namespace Go.Ideal.W1
open Go.Proofs Go.Ideal Go.Ideal.L1
set_option linter.unusedSimpArgs false
set_option linter.unusedVariables false
set_option maxRecDepth 100000
set_option maxHeartbeats 8000000

def mayS (f : FuncId) : Spec := spU f fun xs => match xs with
  | [.agg [.int .i64 (.s k), .int .i64 (.s v), .int .i64 (.s s), .int .i64 (.s g), .int .i64 (.s e), .int .i64 (.s t), .int .i64 (.s q)]] => some (.bool (.s (wMay k v s g e t q)))
  | _ => none
theorem mayS_ok {f : FuncId} (h : ∀ k v s g e t q, CallQ Try.prog f [wordV k v s g e t q] H0 fun u _ => V.leP (.bool (.s (wMay k v s g e t q))) u) : SpecOk Try.prog (mayS f) := spU_ok fun xs v hx => by
  split at hx
  · simp only [Option.some.injEq] at hx; subst hx
    exact ⟨rfl, rfl, (h _ _ _ _ _ _ _).ok rfl⟩
  · simp at hx
def putS (f : FuncId) : Spec := spU f fun xs => match xs with
  | [.agg [.int .i64 (.s k), .int .i64 (.s v), .int .i64 (.s s), .int .i64 (.s g), .int .i64 (.s e), .int .i64 (.s t), .int .i64 (.s q)]] => some (.tuple [.int .i64 (.s (putV k v s g e t q)), .int .i64 (.s (putE k v s g e t q))])
  | _ => none
theorem putS_ok {f : FuncId} (h : ∀ k v s g e t q, CallQ Try.prog f [wordV k v s g e t q] H0 fun u _ => V.leP (.tuple [.int .i64 (.s (putV k v s g e t q)), .int .i64 (.s (putE k v s g e t q))]) u) : SpecOk Try.prog (putS f) := spU_ok fun xs v hx => by
  split at hx
  · simp only [Option.some.injEq] at hx; subst hx
    exact ⟨rfl, rfl, (h _ _ _ _ _ _ _).ok rfl⟩
  · simp at hx
/-- Numbers in their range alone are taken apart. -/
def inI (x : Int) : Prop := -9223372036854775808 ≤ x ∧ x ≤ 9223372036854775807
def getT (x : Int) : V := .tuple [wordV (get gK x) (get gV x) (get gS x) (get gG x) (get gE x) (get gT x) (get gQ x), .int .i64 (.s (getE x))]
def getS (f : FuncId) : Spec := fun f' xs s => if Nat.beq f' f then (if V.clearL xs then none else match V.untagL xs with
  | [.int .i64 (.s x)] => some (some (getT x, ⟨s.H, s.hs, inI x :: s.cs⟩))
  | _ => none) else none
theorem getS_ok {f : FuncId} (h : ∀ x, inI x → CallQ Try.prog f [.int .i64 (.s x)] H0 fun u _ => V.leP (getT x) u) : SpecOk Try.prog (getS f) := by
  intro f' xs s v s' hs
  unfold getS at hs
  split at hs
  · rename_i e
    have e := Nat.eq_of_beq_eq_true e
    subst e
    split at hs
    · simp at hs
    · split at hs
      · rename_i x hx
        simp only [Option.some.injEq, Prod.mk.injEq] at hs
        obtain ⟨rfl, rfl⟩ := hs
        refine ⟨More.cons _ _, fun hq => CallOk.anyHp ((h x (hq _ (List.mem_cons_self ..))).ok rfl) rfl rfl (fun r ys hy => ?_) (fun r y hy => hy) s.H s.hs s.hs s.cs _⟩
        have := V.untagL_ok xs ys hy
        rwa [hx] at this
      · simp at hs
  · simp at hs

theorem getr1 (x : Int) (hb : inI x) : ∃ hh, vcOf (runCall Try.prog (mayS 19) noL 200 16 [.int .i64 (.s x)] H0 hh) (fun u _ => V.leP (getT x) u) := by
  unfold inI at hb

  rcases Bool.eq_false_or_eq_true (x % (4 : Int) == (0 : Int)) with h0 | h0
  ·
    rcases Bool.eq_false_or_eq_true (Decidable.decide (x < (0 : Int))) with h1 | h1
    ·
      have k2 : Go.Ideal.W1.get Go.Ideal.W1.gK x = (0 : Int) := by (simp at *; (try simp (disch := omega) only [Int.tdiv_eq_ediv_of_nonneg, Int.tmod_eq_emod_of_nonneg, wrapk] at *); simp_all [get, getE, gMay, gK, gV, gS, gG, gE, gT, gQ]; done)
      have k3 : Go.Ideal.W1.get Go.Ideal.W1.gV x = (0 : Int) := by clear k2; (simp at *; (try simp (disch := omega) only [Int.tdiv_eq_ediv_of_nonneg, Int.tmod_eq_emod_of_nonneg, wrapk] at *); simp_all [get, getE, gMay, gK, gV, gS, gG, gE, gT, gQ, wMay]; omega)
      have k4 : Go.Ideal.W1.get Go.Ideal.W1.gS x = (0 : Int) := by clear k3 k2; (simp at *; (try simp (disch := omega) only [Int.tdiv_eq_ediv_of_nonneg, Int.tmod_eq_emod_of_nonneg, wrapk] at *); simp_all [get, getE, gMay, gK, gV, gS, gG, gE, gT, gQ]; done)
      have k5 : Go.Ideal.W1.get Go.Ideal.W1.gG x = (0 : Int) := by clear k4 k3 k2; (simp at *; (try simp (disch := omega) only [Int.tdiv_eq_ediv_of_nonneg, Int.tmod_eq_emod_of_nonneg, wrapk] at *); simp_all [get, getE, gMay, gK, gV, gS, gG, gE, gT, gQ]; done)
      have k6 : Go.Ideal.W1.get Go.Ideal.W1.gE x = (0 : Int) := by clear k5 k4 k3 k2; (simp at *; (try simp (disch := omega) only [Int.tdiv_eq_ediv_of_nonneg, Int.tmod_eq_emod_of_nonneg, wrapk] at *); simp_all [get, getE, gMay, gK, gV, gS, gG, gE, gT, gQ]; done)
      have k7 : Go.Ideal.W1.get Go.Ideal.W1.gT x = (0 : Int) := by clear k6 k5 k4 k3 k2; (simp at *; (try simp (disch := omega) only [Int.tdiv_eq_ediv_of_nonneg, Int.tmod_eq_emod_of_nonneg, wrapk] at *); simp_all [get, getE, gMay, gK, gV, gS, gG, gE, gT, gQ]; done)
      have k8 : Go.Ideal.W1.get Go.Ideal.W1.gQ x = (0 : Int) := by clear k7 k6 k5 k4 k3 k2; (simp at *; (try simp (disch := omega) only [Int.tdiv_eq_ediv_of_nonneg, Int.tmod_eq_emod_of_nonneg, wrapk] at *); simp_all [get, getE, gMay, gK, gV, gS, gG, gE, gT, gQ]; done)
      have k9 : Go.Ideal.W1.getE x = (100 : Int) := by clear k8 k7 k6 k5 k4 k3 k2; (simp at *; (try simp (disch := omega) only [Int.tdiv_eq_ediv_of_nonneg, Int.tmod_eq_emod_of_nonneg, wrapk] at *); simp_all [get, getE, gMay, gK, gV, gS, gG, gE, gT, gQ, wMay]; omega)
      refine vcIntro [true, true] (And.intro (And.intro h1 (And.intro h0 True.intro)) (And.intro (And.intro k2 (And.intro k3 (And.intro k4 (And.intro k5 (And.intro k6 (And.intro k7 k8)))))) k9)) ?_
      kernel_rfl
    ·
      rcases Bool.eq_false_or_eq_true (!Go.Ideal.W1.wMay (x % (4 : Int)) (x / (4 : Int)) (0 : Int) (0 : Int) (0 : Int) (0 : Int) (0 : Int)) with h10 | h10
      ·
        have k11 : Go.Ideal.W1.get Go.Ideal.W1.gK x = (0 : Int) := by (simp at *; (try simp (disch := omega) only [Int.tdiv_eq_ediv_of_nonneg, Int.tmod_eq_emod_of_nonneg, wrapk] at *); simp_all [get, getE, gMay, gK, gV, gS, gG, gE, gT, gQ]; done)
        have k12 : Go.Ideal.W1.get Go.Ideal.W1.gV x = (0 : Int) := by clear k11; (simp at *; (try simp (disch := omega) only [Int.tdiv_eq_ediv_of_nonneg, Int.tmod_eq_emod_of_nonneg, wrapk] at *); simp_all [get, getE, gMay, gK, gV, gS, gG, gE, gT, gQ]; done)
        have k13 : Go.Ideal.W1.get Go.Ideal.W1.gS x = (0 : Int) := by clear k12 k11; (simp at *; (try simp (disch := omega) only [Int.tdiv_eq_ediv_of_nonneg, Int.tmod_eq_emod_of_nonneg, wrapk] at *); simp_all [get, getE, gMay, gK, gV, gS, gG, gE, gT, gQ]; done)
        have k14 : Go.Ideal.W1.get Go.Ideal.W1.gG x = (0 : Int) := by clear k13 k12 k11; (simp at *; (try simp (disch := omega) only [Int.tdiv_eq_ediv_of_nonneg, Int.tmod_eq_emod_of_nonneg, wrapk] at *); simp_all [get, getE, gMay, gK, gV, gS, gG, gE, gT, gQ]; done)
        have k15 : Go.Ideal.W1.get Go.Ideal.W1.gE x = (0 : Int) := by clear k14 k13 k12 k11; (simp at *; (try simp (disch := omega) only [Int.tdiv_eq_ediv_of_nonneg, Int.tmod_eq_emod_of_nonneg, wrapk] at *); simp_all [get, getE, gMay, gK, gV, gS, gG, gE, gT, gQ]; done)
        have k16 : Go.Ideal.W1.get Go.Ideal.W1.gT x = (0 : Int) := by clear k15 k14 k13 k12 k11; (simp at *; (try simp (disch := omega) only [Int.tdiv_eq_ediv_of_nonneg, Int.tmod_eq_emod_of_nonneg, wrapk] at *); simp_all [get, getE, gMay, gK, gV, gS, gG, gE, gT, gQ]; done)
        have k17 : Go.Ideal.W1.get Go.Ideal.W1.gQ x = (0 : Int) := by clear k16 k15 k14 k13 k12 k11; (simp at *; (try simp (disch := omega) only [Int.tdiv_eq_ediv_of_nonneg, Int.tmod_eq_emod_of_nonneg, wrapk] at *); simp_all [get, getE, gMay, gK, gV, gS, gG, gE, gT, gQ]; done)
        have k18 : Go.Ideal.W1.getE x = (100 : Int) := by clear k17 k16 k15 k14 k13 k12 k11; (simp at *; (try simp (disch := omega) only [Int.tdiv_eq_ediv_of_nonneg, Int.tmod_eq_emod_of_nonneg, wrapk] at *); simp_all [get, getE, gMay, gK, gV, gS, gG, gE, gT, gQ]; done)
        refine vcIntro [true, false, true] (And.intro (And.intro h10 (And.intro h1 (And.intro h0 True.intro))) (And.intro (And.intro k11 (And.intro k12 (And.intro k13 (And.intro k14 (And.intro k15 (And.intro k16 k17)))))) k18)) ?_
        kernel_rfl
      ·
        have k19 : Go.Ideal.W1.get Go.Ideal.W1.gK x = x % (4 : Int) := by (simp at *; (try simp (disch := omega) only [Int.tdiv_eq_ediv_of_nonneg, Int.tmod_eq_emod_of_nonneg, wrapk] at *); simp_all [get, getE, gMay, gK, gV, gS, gG, gE, gT, gQ]; done)
        have k20 : Go.Ideal.W1.get Go.Ideal.W1.gV x = x / (4 : Int) := by clear k19; (simp at *; (try simp (disch := omega) only [Int.tdiv_eq_ediv_of_nonneg, Int.tmod_eq_emod_of_nonneg, wrapk] at *); simp_all [get, getE, gMay, gK, gV, gS, gG, gE, gT, gQ]; done)
        have k21 : Go.Ideal.W1.get Go.Ideal.W1.gS x = (0 : Int) := by clear k20 k19; (simp at *; (try simp (disch := omega) only [Int.tdiv_eq_ediv_of_nonneg, Int.tmod_eq_emod_of_nonneg, wrapk] at *); simp_all [get, getE, gMay, gK, gV, gS, gG, gE, gT, gQ]; done)
        have k22 : Go.Ideal.W1.get Go.Ideal.W1.gG x = (0 : Int) := by clear k21 k20 k19; (simp at *; (try simp (disch := omega) only [Int.tdiv_eq_ediv_of_nonneg, Int.tmod_eq_emod_of_nonneg, wrapk] at *); simp_all [get, getE, gMay, gK, gV, gS, gG, gE, gT, gQ]; done)
        have k23 : Go.Ideal.W1.get Go.Ideal.W1.gE x = (0 : Int) := by clear k22 k21 k20 k19; (simp at *; (try simp (disch := omega) only [Int.tdiv_eq_ediv_of_nonneg, Int.tmod_eq_emod_of_nonneg, wrapk] at *); simp_all [get, getE, gMay, gK, gV, gS, gG, gE, gT, gQ]; done)
        have k24 : Go.Ideal.W1.get Go.Ideal.W1.gT x = (0 : Int) := by clear k23 k22 k21 k20 k19; (simp at *; (try simp (disch := omega) only [Int.tdiv_eq_ediv_of_nonneg, Int.tmod_eq_emod_of_nonneg, wrapk] at *); simp_all [get, getE, gMay, gK, gV, gS, gG, gE, gT, gQ]; done)
        have k25 : Go.Ideal.W1.get Go.Ideal.W1.gQ x = (0 : Int) := by clear k24 k23 k22 k21 k20 k19; (simp at *; (try simp (disch := omega) only [Int.tdiv_eq_ediv_of_nonneg, Int.tmod_eq_emod_of_nonneg, wrapk] at *); simp_all [get, getE, gMay, gK, gV, gS, gG, gE, gT, gQ]; done)
        have k26 : Go.Ideal.W1.getE x = (0 : Int) := by clear k25 k24 k23 k22 k21 k20 k19; (simp at *; (try simp (disch := omega) only [Int.tdiv_eq_ediv_of_nonneg, Int.tmod_eq_emod_of_nonneg, wrapk] at *); simp_all [get, getE, gMay, gK, gV, gS, gG, gE, gT, gQ]; done)
        refine vcIntro [true, false, false] (And.intro (And.intro h10 (And.intro h1 (And.intro h0 True.intro))) (And.intro (And.intro k19 (And.intro k20 (And.intro k21 (And.intro k22 (And.intro k23 (And.intro k24 k25)))))) k26)) ?_
        kernel_rfl
  ·
    rcases Bool.eq_false_or_eq_true (x % (4 : Int) == (1 : Int)) with h27 | h27
    ·
      rcases Bool.eq_false_or_eq_true (Decidable.decide (x < (0 : Int))) with h28 | h28
      ·
        have k29 : Go.Ideal.W1.get Go.Ideal.W1.gK x = (0 : Int) := by (simp at *; (try simp (disch := omega) only [Int.tdiv_eq_ediv_of_nonneg, Int.tmod_eq_emod_of_nonneg, wrapk] at *); simp_all [get, getE, gMay, gK, gV, gS, gG, gE, gT, gQ, wMay]; omega)
        have k30 : Go.Ideal.W1.get Go.Ideal.W1.gV x = (0 : Int) := by clear k29; (simp at *; (try simp (disch := omega) only [Int.tdiv_eq_ediv_of_nonneg, Int.tmod_eq_emod_of_nonneg, wrapk] at *); simp_all [get, getE, gMay, gK, gV, gS, gG, gE, gT, gQ]; done)
        have k31 : Go.Ideal.W1.get Go.Ideal.W1.gS x = (0 : Int) := by clear k30 k29; (simp at *; (try simp (disch := omega) only [Int.tdiv_eq_ediv_of_nonneg, Int.tmod_eq_emod_of_nonneg, wrapk] at *); simp_all [get, getE, gMay, gK, gV, gS, gG, gE, gT, gQ, wMay]; omega)
        have k32 : Go.Ideal.W1.get Go.Ideal.W1.gG x = (0 : Int) := by clear k31 k30 k29; (simp at *; (try simp (disch := omega) only [Int.tdiv_eq_ediv_of_nonneg, Int.tmod_eq_emod_of_nonneg, wrapk] at *); simp_all [get, getE, gMay, gK, gV, gS, gG, gE, gT, gQ, wMay]; omega)
        have k33 : Go.Ideal.W1.get Go.Ideal.W1.gE x = (0 : Int) := by clear k32 k31 k30 k29; (simp at *; (try simp (disch := omega) only [Int.tdiv_eq_ediv_of_nonneg, Int.tmod_eq_emod_of_nonneg, wrapk] at *); simp_all [get, getE, gMay, gK, gV, gS, gG, gE, gT, gQ, wMay]; omega)
        have k34 : Go.Ideal.W1.get Go.Ideal.W1.gT x = (0 : Int) := by clear k33 k32 k31 k30 k29; (simp at *; (try simp (disch := omega) only [Int.tdiv_eq_ediv_of_nonneg, Int.tmod_eq_emod_of_nonneg, wrapk] at *); simp_all [get, getE, gMay, gK, gV, gS, gG, gE, gT, gQ, wMay]; omega)
        have k35 : Go.Ideal.W1.get Go.Ideal.W1.gQ x = (0 : Int) := by clear k34 k33 k32 k31 k30 k29; (simp at *; (try simp (disch := omega) only [Int.tdiv_eq_ediv_of_nonneg, Int.tmod_eq_emod_of_nonneg, wrapk] at *); simp_all [get, getE, gMay, gK, gV, gS, gG, gE, gT, gQ, wMay]; omega)
        have k36 : Go.Ideal.W1.getE x = (100 : Int) := by clear k35 k34 k33 k32 k31 k30 k29; (simp at *; (try simp (disch := omega) only [Int.tdiv_eq_ediv_of_nonneg, Int.tmod_eq_emod_of_nonneg, wrapk] at *); simp_all [get, getE, gMay, gK, gV, gS, gG, gE, gT, gQ, wMay]; omega)
        refine vcIntro [false, true, true] (And.intro (And.intro h28 (And.intro h27 (And.intro h0 True.intro))) (And.intro (And.intro k29 (And.intro k30 (And.intro k31 (And.intro k32 (And.intro k33 (And.intro k34 k35)))))) k36)) ?_
        kernel_rfl
      ·
        rcases Bool.eq_false_or_eq_true (!Go.Ideal.W1.wMay (x % (4 : Int)) (0 : Int) ((Go.IntKind.i64.wrap ((Go.IntKind.i64.wrap ((Go.IntKind.i64.wrap ((x / (4 : Int)).tdiv (1048576 : Int))).tdiv (4 : Int))).tdiv (16 : Int))).tmod (16 : Int)) (Go.IntKind.i64.wrap ((Go.IntKind.i64.wrap ((Go.IntKind.i64.wrap ((Go.IntKind.i64.wrap ((x / (4 : Int)).tdiv (1048576 : Int))).tdiv (4 : Int))).tdiv (16 : Int))).tdiv (16 : Int))) ((Go.IntKind.i64.wrap ((Go.IntKind.i64.wrap ((x / (4 : Int)).tdiv (1048576 : Int))).tdiv (4 : Int))).tmod (16 : Int)) ((Go.IntKind.i64.wrap ((x / (4 : Int)).tdiv (1048576 : Int))).tmod (4 : Int)) (x / (4 : Int) % (1048576 : Int))) with h37 | h37
        ·
          have k38 : Go.Ideal.W1.get Go.Ideal.W1.gK x = (0 : Int) := by (simp at *; (try simp (disch := omega) only [Int.tdiv_eq_ediv_of_nonneg, Int.tmod_eq_emod_of_nonneg, wrapk] at *); simp_all [get, getE, gMay, gK, gV, gS, gG, gE, gT, gQ, wMay]; omega)
          have k39 : Go.Ideal.W1.get Go.Ideal.W1.gV x = (0 : Int) := by clear k38; (simp at *; (try simp (disch := omega) only [Int.tdiv_eq_ediv_of_nonneg, Int.tmod_eq_emod_of_nonneg, wrapk] at *); simp_all [get, getE, gMay, gK, gV, gS, gG, gE, gT, gQ]; done)
          have k40 : Go.Ideal.W1.get Go.Ideal.W1.gS x = (0 : Int) := by clear k39 k38; (simp at *; (try simp (disch := omega) only [Int.tdiv_eq_ediv_of_nonneg, Int.tmod_eq_emod_of_nonneg, wrapk] at *); simp_all [get, getE, gMay, gK, gV, gS, gG, gE, gT, gQ, wMay]; omega)
          have k41 : Go.Ideal.W1.get Go.Ideal.W1.gG x = (0 : Int) := by clear k40 k39 k38; (simp at *; (try simp (disch := omega) only [Int.tdiv_eq_ediv_of_nonneg, Int.tmod_eq_emod_of_nonneg, wrapk] at *); simp_all [get, getE, gMay, gK, gV, gS, gG, gE, gT, gQ, wMay]; omega)
          have k42 : Go.Ideal.W1.get Go.Ideal.W1.gE x = (0 : Int) := by clear k41 k40 k39 k38; (simp at *; (try simp (disch := omega) only [Int.tdiv_eq_ediv_of_nonneg, Int.tmod_eq_emod_of_nonneg, wrapk] at *); simp_all [get, getE, gMay, gK, gV, gS, gG, gE, gT, gQ, wMay]; omega)
          have k43 : Go.Ideal.W1.get Go.Ideal.W1.gT x = (0 : Int) := by clear k42 k41 k40 k39 k38; (simp at *; (try simp (disch := omega) only [Int.tdiv_eq_ediv_of_nonneg, Int.tmod_eq_emod_of_nonneg, wrapk] at *); simp_all [get, getE, gMay, gK, gV, gS, gG, gE, gT, gQ, wMay]; omega)
          have k44 : Go.Ideal.W1.get Go.Ideal.W1.gQ x = (0 : Int) := by clear k43 k42 k41 k40 k39 k38; (simp at *; (try simp (disch := omega) only [Int.tdiv_eq_ediv_of_nonneg, Int.tmod_eq_emod_of_nonneg, wrapk] at *); simp_all [get, getE, gMay, gK, gV, gS, gG, gE, gT, gQ, wMay]; omega)
          have k45 : Go.Ideal.W1.getE x = (100 : Int) := by clear k44 k43 k42 k41 k40 k39 k38; (simp at *; (try simp (disch := omega) only [Int.tdiv_eq_ediv_of_nonneg, Int.tmod_eq_emod_of_nonneg, wrapk] at *); simp_all [get, getE, gMay, gK, gV, gS, gG, gE, gT, gQ, wMay]; omega)
          refine vcIntro [false, true, false, true] (And.intro (And.intro h37 (And.intro h28 (And.intro h27 (And.intro h0 True.intro)))) (And.intro (And.intro k38 (And.intro k39 (And.intro k40 (And.intro k41 (And.intro k42 (And.intro k43 k44)))))) k45)) ?_
          kernel_rfl
        ·
          have k46 : Go.Ideal.W1.get Go.Ideal.W1.gK x = x % (4 : Int) := by (simp at *; (try simp (disch := omega) only [Int.tdiv_eq_ediv_of_nonneg, Int.tmod_eq_emod_of_nonneg, wrapk] at *); simp_all [get, getE, gMay, gK, gV, gS, gG, gE, gT, gQ, wMay]; omega)
          have k47 : Go.Ideal.W1.get Go.Ideal.W1.gV x = (0 : Int) := by clear k46; (simp at *; (try simp (disch := omega) only [Int.tdiv_eq_ediv_of_nonneg, Int.tmod_eq_emod_of_nonneg, wrapk] at *); simp_all [get, getE, gMay, gK, gV, gS, gG, gE, gT, gQ]; done)
          have k48 : Go.Ideal.W1.get Go.Ideal.W1.gS x = (Go.IntKind.i64.wrap ((Go.IntKind.i64.wrap ((Go.IntKind.i64.wrap ((x / (4 : Int)).tdiv (1048576 : Int))).tdiv (4 : Int))).tdiv (16 : Int))).tmod (16 : Int) := by clear k47 k46; (simp at *; (try simp (disch := omega) only [Int.tdiv_eq_ediv_of_nonneg, Int.tmod_eq_emod_of_nonneg, wrapk] at *); simp_all [get, getE, gMay, gK, gV, gS, gG, gE, gT, gQ, wMay]; omega)
          have k49 : Go.Ideal.W1.get Go.Ideal.W1.gG x = Go.IntKind.i64.wrap ((Go.IntKind.i64.wrap ((Go.IntKind.i64.wrap ((Go.IntKind.i64.wrap ((x / (4 : Int)).tdiv (1048576 : Int))).tdiv (4 : Int))).tdiv (16 : Int))).tdiv (16 : Int)) := by clear k48 k47 k46; (simp at *; (try simp (disch := omega) only [Int.tdiv_eq_ediv_of_nonneg, Int.tmod_eq_emod_of_nonneg, wrapk] at *); simp_all [get, getE, gMay, gK, gV, gS, gG, gE, gT, gQ, wMay]; omega)
          have k50 : Go.Ideal.W1.get Go.Ideal.W1.gE x = (Go.IntKind.i64.wrap ((Go.IntKind.i64.wrap ((x / (4 : Int)).tdiv (1048576 : Int))).tdiv (4 : Int))).tmod (16 : Int) := by clear k49 k48 k47 k46; (simp at *; (try simp (disch := omega) only [Int.tdiv_eq_ediv_of_nonneg, Int.tmod_eq_emod_of_nonneg, wrapk] at *); simp_all [get, getE, gMay, gK, gV, gS, gG, gE, gT, gQ, wMay]; omega)
          have k51 : Go.Ideal.W1.get Go.Ideal.W1.gT x = (Go.IntKind.i64.wrap ((x / (4 : Int)).tdiv (1048576 : Int))).tmod (4 : Int) := by clear k50 k49 k48 k47 k46; (simp at *; (try simp (disch := omega) only [Int.tdiv_eq_ediv_of_nonneg, Int.tmod_eq_emod_of_nonneg, wrapk] at *); simp_all [get, getE, gMay, gK, gV, gS, gG, gE, gT, gQ, wMay]; omega)
          have k52 : Go.Ideal.W1.get Go.Ideal.W1.gQ x = x / (4 : Int) % (1048576 : Int) := by clear k51 k50 k49 k48 k47 k46; (simp at *; (try simp (disch := omega) only [Int.tdiv_eq_ediv_of_nonneg, Int.tmod_eq_emod_of_nonneg, wrapk] at *); simp_all [get, getE, gMay, gK, gV, gS, gG, gE, gT, gQ, wMay]; omega)
          have k53 : Go.Ideal.W1.getE x = (0 : Int) := by clear k52 k51 k50 k49 k48 k47 k46; (simp at *; (try simp (disch := omega) only [Int.tdiv_eq_ediv_of_nonneg, Int.tmod_eq_emod_of_nonneg, wrapk] at *); simp_all [get, getE, gMay, gK, gV, gS, gG, gE, gT, gQ, wMay]; omega)
          refine vcIntro [false, true, false, false] (And.intro (And.intro h37 (And.intro h28 (And.intro h27 (And.intro h0 True.intro)))) (And.intro (And.intro k46 (And.intro k47 (And.intro k48 (And.intro k49 (And.intro k50 (And.intro k51 k52)))))) k53)) ?_
          kernel_rfl
    ·
      rcases Bool.eq_false_or_eq_true (x % (4 : Int) == (2 : Int)) with h54 | h54
      ·
        rcases Bool.eq_false_or_eq_true (Decidable.decide (x < (0 : Int))) with h55 | h55
        ·
          have k56 : Go.Ideal.W1.get Go.Ideal.W1.gK x = (0 : Int) := by (simp at *; (try simp (disch := omega) only [Int.tdiv_eq_ediv_of_nonneg, Int.tmod_eq_emod_of_nonneg, wrapk] at *); simp_all [get, getE, gMay, gK, gV, gS, gG, gE, gT, gQ, wMay]; omega)
          have k57 : Go.Ideal.W1.get Go.Ideal.W1.gV x = (0 : Int) := by clear k56; (simp at *; (try simp (disch := omega) only [Int.tdiv_eq_ediv_of_nonneg, Int.tmod_eq_emod_of_nonneg, wrapk] at *); simp_all [get, getE, gMay, gK, gV, gS, gG, gE, gT, gQ]; done)
          have k58 : Go.Ideal.W1.get Go.Ideal.W1.gS x = (0 : Int) := by clear k57 k56; (simp at *; (try simp (disch := omega) only [Int.tdiv_eq_ediv_of_nonneg, Int.tmod_eq_emod_of_nonneg, wrapk] at *); simp_all [get, getE, gMay, gK, gV, gS, gG, gE, gT, gQ, wMay]; omega)
          have k59 : Go.Ideal.W1.get Go.Ideal.W1.gG x = (0 : Int) := by clear k58 k57 k56; (simp at *; (try simp (disch := omega) only [Int.tdiv_eq_ediv_of_nonneg, Int.tmod_eq_emod_of_nonneg, wrapk] at *); simp_all [get, getE, gMay, gK, gV, gS, gG, gE, gT, gQ, wMay]; omega)
          have k60 : Go.Ideal.W1.get Go.Ideal.W1.gE x = (0 : Int) := by clear k59 k58 k57 k56; (simp at *; (try simp (disch := omega) only [Int.tdiv_eq_ediv_of_nonneg, Int.tmod_eq_emod_of_nonneg, wrapk] at *); simp_all [get, getE, gMay, gK, gV, gS, gG, gE, gT, gQ]; done)
          have k61 : Go.Ideal.W1.get Go.Ideal.W1.gT x = (0 : Int) := by clear k60 k59 k58 k57 k56; (simp at *; (try simp (disch := omega) only [Int.tdiv_eq_ediv_of_nonneg, Int.tmod_eq_emod_of_nonneg, wrapk] at *); simp_all [get, getE, gMay, gK, gV, gS, gG, gE, gT, gQ]; done)
          have k62 : Go.Ideal.W1.get Go.Ideal.W1.gQ x = (0 : Int) := by clear k61 k60 k59 k58 k57 k56; (simp at *; (try simp (disch := omega) only [Int.tdiv_eq_ediv_of_nonneg, Int.tmod_eq_emod_of_nonneg, wrapk] at *); simp_all [get, getE, gMay, gK, gV, gS, gG, gE, gT, gQ]; done)
          have k63 : Go.Ideal.W1.getE x = (100 : Int) := by clear k62 k61 k60 k59 k58 k57 k56; (simp at *; (try simp (disch := omega) only [Int.tdiv_eq_ediv_of_nonneg, Int.tmod_eq_emod_of_nonneg, wrapk] at *); simp_all [get, getE, gMay, gK, gV, gS, gG, gE, gT, gQ, wMay]; omega)
          refine vcIntro [false, false, true, true] (And.intro (And.intro h55 (And.intro h54 (And.intro h27 (And.intro h0 True.intro)))) (And.intro (And.intro k56 (And.intro k57 (And.intro k58 (And.intro k59 (And.intro k60 (And.intro k61 k62)))))) k63)) ?_
          kernel_rfl
        ·
          rcases Bool.eq_false_or_eq_true (!Go.Ideal.W1.wMay (x % (4 : Int)) (0 : Int) ((x / (4 : Int)).tmod (16 : Int)) (Go.IntKind.i64.wrap ((x / (4 : Int)).tdiv (16 : Int))) (0 : Int) (0 : Int) (0 : Int)) with h64 | h64
          ·
            have k65 : Go.Ideal.W1.get Go.Ideal.W1.gK x = (0 : Int) := by (simp at *; (try simp (disch := omega) only [Int.tdiv_eq_ediv_of_nonneg, Int.tmod_eq_emod_of_nonneg, wrapk] at *); simp_all [get, getE, gMay, gK, gV, gS, gG, gE, gT, gQ]; done)
            have k66 : Go.Ideal.W1.get Go.Ideal.W1.gV x = (0 : Int) := by clear k65; (simp at *; (try simp (disch := omega) only [Int.tdiv_eq_ediv_of_nonneg, Int.tmod_eq_emod_of_nonneg, wrapk] at *); simp_all [get, getE, gMay, gK, gV, gS, gG, gE, gT, gQ]; done)
            have k67 : Go.Ideal.W1.get Go.Ideal.W1.gS x = (0 : Int) := by clear k66 k65; (simp at *; (try simp (disch := omega) only [Int.tdiv_eq_ediv_of_nonneg, Int.tmod_eq_emod_of_nonneg, wrapk] at *); simp_all [get, getE, gMay, gK, gV, gS, gG, gE, gT, gQ]; done)
            have k68 : Go.Ideal.W1.get Go.Ideal.W1.gG x = (0 : Int) := by clear k67 k66 k65; (simp at *; (try simp (disch := omega) only [Int.tdiv_eq_ediv_of_nonneg, Int.tmod_eq_emod_of_nonneg, wrapk] at *); simp_all [get, getE, gMay, gK, gV, gS, gG, gE, gT, gQ]; done)
            have k69 : Go.Ideal.W1.get Go.Ideal.W1.gE x = (0 : Int) := by clear k68 k67 k66 k65; (simp at *; (try simp (disch := omega) only [Int.tdiv_eq_ediv_of_nonneg, Int.tmod_eq_emod_of_nonneg, wrapk] at *); simp_all [get, getE, gMay, gK, gV, gS, gG, gE, gT, gQ]; done)
            have k70 : Go.Ideal.W1.get Go.Ideal.W1.gT x = (0 : Int) := by clear k69 k68 k67 k66 k65; (simp at *; (try simp (disch := omega) only [Int.tdiv_eq_ediv_of_nonneg, Int.tmod_eq_emod_of_nonneg, wrapk] at *); simp_all [get, getE, gMay, gK, gV, gS, gG, gE, gT, gQ]; done)
            have k71 : Go.Ideal.W1.get Go.Ideal.W1.gQ x = (0 : Int) := by clear k70 k69 k68 k67 k66 k65; (simp at *; (try simp (disch := omega) only [Int.tdiv_eq_ediv_of_nonneg, Int.tmod_eq_emod_of_nonneg, wrapk] at *); simp_all [get, getE, gMay, gK, gV, gS, gG, gE, gT, gQ]; done)
            have k72 : Go.Ideal.W1.getE x = (100 : Int) := by clear k71 k70 k69 k68 k67 k66 k65; (simp at *; (try simp (disch := omega) only [Int.tdiv_eq_ediv_of_nonneg, Int.tmod_eq_emod_of_nonneg, wrapk] at *); simp_all [get, getE, gMay, gK, gV, gS, gG, gE, gT, gQ]; done)
            refine vcIntro [false, false, true, false, true] (And.intro (And.intro h64 (And.intro h55 (And.intro h54 (And.intro h27 (And.intro h0 True.intro))))) (And.intro (And.intro k65 (And.intro k66 (And.intro k67 (And.intro k68 (And.intro k69 (And.intro k70 k71)))))) k72)) ?_
            kernel_rfl
          ·
            have k73 : Go.Ideal.W1.get Go.Ideal.W1.gK x = x % (4 : Int) := by (simp at *; (try simp (disch := omega) only [Int.tdiv_eq_ediv_of_nonneg, Int.tmod_eq_emod_of_nonneg, wrapk] at *); simp_all [get, getE, gMay, gK, gV, gS, gG, gE, gT, gQ]; done)
            have k74 : Go.Ideal.W1.get Go.Ideal.W1.gV x = (0 : Int) := by clear k73; (simp at *; (try simp (disch := omega) only [Int.tdiv_eq_ediv_of_nonneg, Int.tmod_eq_emod_of_nonneg, wrapk] at *); simp_all [get, getE, gMay, gK, gV, gS, gG, gE, gT, gQ]; done)
            have k75 : Go.Ideal.W1.get Go.Ideal.W1.gS x = (x / (4 : Int)).tmod (16 : Int) := by clear k74 k73; (simp at *; (try simp (disch := omega) only [Int.tdiv_eq_ediv_of_nonneg, Int.tmod_eq_emod_of_nonneg, wrapk] at *); simp_all [get, getE, gMay, gK, gV, gS, gG, gE, gT, gQ]; done)
            have k76 : Go.Ideal.W1.get Go.Ideal.W1.gG x = Go.IntKind.i64.wrap ((x / (4 : Int)).tdiv (16 : Int)) := by clear k75 k74 k73; (simp at *; (try simp (disch := omega) only [Int.tdiv_eq_ediv_of_nonneg, Int.tmod_eq_emod_of_nonneg, wrapk] at *); simp_all [get, getE, gMay, gK, gV, gS, gG, gE, gT, gQ]; done)
            have k77 : Go.Ideal.W1.get Go.Ideal.W1.gE x = (0 : Int) := by clear k76 k75 k74 k73; (simp at *; (try simp (disch := omega) only [Int.tdiv_eq_ediv_of_nonneg, Int.tmod_eq_emod_of_nonneg, wrapk] at *); simp_all [get, getE, gMay, gK, gV, gS, gG, gE, gT, gQ]; done)
            have k78 : Go.Ideal.W1.get Go.Ideal.W1.gT x = (0 : Int) := by clear k77 k76 k75 k74 k73; (simp at *; (try simp (disch := omega) only [Int.tdiv_eq_ediv_of_nonneg, Int.tmod_eq_emod_of_nonneg, wrapk] at *); simp_all [get, getE, gMay, gK, gV, gS, gG, gE, gT, gQ]; done)
            have k79 : Go.Ideal.W1.get Go.Ideal.W1.gQ x = (0 : Int) := by clear k78 k77 k76 k75 k74 k73; (simp at *; (try simp (disch := omega) only [Int.tdiv_eq_ediv_of_nonneg, Int.tmod_eq_emod_of_nonneg, wrapk] at *); simp_all [get, getE, gMay, gK, gV, gS, gG, gE, gT, gQ]; done)
            have k80 : Go.Ideal.W1.getE x = (0 : Int) := by clear k79 k78 k77 k76 k75 k74 k73; (simp at *; (try simp (disch := omega) only [Int.tdiv_eq_ediv_of_nonneg, Int.tmod_eq_emod_of_nonneg, wrapk] at *); simp_all [get, getE, gMay, gK, gV, gS, gG, gE, gT, gQ]; done)
            refine vcIntro [false, false, true, false, false] (And.intro (And.intro h64 (And.intro h55 (And.intro h54 (And.intro h27 (And.intro h0 True.intro))))) (And.intro (And.intro k73 (And.intro k74 (And.intro k75 (And.intro k76 (And.intro k77 (And.intro k78 k79)))))) k80)) ?_
            kernel_rfl
      ·
        rcases Bool.eq_false_or_eq_true (Decidable.decide (x < (0 : Int))) with h81 | h81
        ·
          have k82 : Go.Ideal.W1.get Go.Ideal.W1.gK x = (0 : Int) := by (simp at *; (try simp (disch := omega) only [Int.tdiv_eq_ediv_of_nonneg, Int.tmod_eq_emod_of_nonneg, wrapk] at *); simp_all [get, getE, gMay, gK, gV, gS, gG, gE, gT, gQ, wMay]; done)
          have k83 : Go.Ideal.W1.get Go.Ideal.W1.gV x = (0 : Int) := by clear k82; (simp at *; (try simp (disch := omega) only [Int.tdiv_eq_ediv_of_nonneg, Int.tmod_eq_emod_of_nonneg, wrapk] at *); simp_all [get, getE, gMay, gK, gV, gS, gG, gE, gT, gQ]; done)
          have k84 : Go.Ideal.W1.get Go.Ideal.W1.gS x = (0 : Int) := by clear k83 k82; (simp at *; (try simp (disch := omega) only [Int.tdiv_eq_ediv_of_nonneg, Int.tmod_eq_emod_of_nonneg, wrapk] at *); simp_all [get, getE, gMay, gK, gV, gS, gG, gE, gT, gQ]; done)
          have k85 : Go.Ideal.W1.get Go.Ideal.W1.gG x = (0 : Int) := by clear k84 k83 k82; (simp at *; (try simp (disch := omega) only [Int.tdiv_eq_ediv_of_nonneg, Int.tmod_eq_emod_of_nonneg, wrapk] at *); simp_all [get, getE, gMay, gK, gV, gS, gG, gE, gT, gQ]; done)
          have k86 : Go.Ideal.W1.get Go.Ideal.W1.gE x = (0 : Int) := by clear k85 k84 k83 k82; (simp at *; (try simp (disch := omega) only [Int.tdiv_eq_ediv_of_nonneg, Int.tmod_eq_emod_of_nonneg, wrapk] at *); simp_all [get, getE, gMay, gK, gV, gS, gG, gE, gT, gQ]; done)
          have k87 : Go.Ideal.W1.get Go.Ideal.W1.gT x = (0 : Int) := by clear k86 k85 k84 k83 k82; (simp at *; (try simp (disch := omega) only [Int.tdiv_eq_ediv_of_nonneg, Int.tmod_eq_emod_of_nonneg, wrapk] at *); simp_all [get, getE, gMay, gK, gV, gS, gG, gE, gT, gQ]; done)
          have k88 : Go.Ideal.W1.get Go.Ideal.W1.gQ x = (0 : Int) := by clear k87 k86 k85 k84 k83 k82; (simp at *; (try simp (disch := omega) only [Int.tdiv_eq_ediv_of_nonneg, Int.tmod_eq_emod_of_nonneg, wrapk] at *); simp_all [get, getE, gMay, gK, gV, gS, gG, gE, gT, gQ]; done)
          have k89 : Go.Ideal.W1.getE x = (100 : Int) := by clear k88 k87 k86 k85 k84 k83 k82; (simp at *; (try simp (disch := omega) only [Int.tdiv_eq_ediv_of_nonneg, Int.tmod_eq_emod_of_nonneg, wrapk] at *); simp_all [get, getE, gMay, gK, gV, gS, gG, gE, gT, gQ, wMay]; done)
          refine vcIntro [false, false, false, true] (And.intro (And.intro h81 (And.intro h54 (And.intro h27 (And.intro h0 True.intro)))) (And.intro (And.intro k82 (And.intro k83 (And.intro k84 (And.intro k85 (And.intro k86 (And.intro k87 k88)))))) k89)) ?_
          kernel_rfl
        ·
          rcases Bool.eq_false_or_eq_true (!Go.Ideal.W1.wMay (x % (4 : Int)) (0 : Int) (0 : Int) (0 : Int) (0 : Int) (0 : Int) (0 : Int)) with h90 | h90
          ·
            have k91 : Go.Ideal.W1.get Go.Ideal.W1.gK x = (0 : Int) := by (simp at *; (try simp (disch := omega) only [Int.tdiv_eq_ediv_of_nonneg, Int.tmod_eq_emod_of_nonneg, wrapk] at *); simp_all [get, getE, gMay, gK, gV, gS, gG, gE, gT, gQ]; done)
            have k92 : Go.Ideal.W1.get Go.Ideal.W1.gV x = (0 : Int) := by clear k91; (simp at *; (try simp (disch := omega) only [Int.tdiv_eq_ediv_of_nonneg, Int.tmod_eq_emod_of_nonneg, wrapk] at *); simp_all [get, getE, gMay, gK, gV, gS, gG, gE, gT, gQ]; done)
            have k93 : Go.Ideal.W1.get Go.Ideal.W1.gS x = (0 : Int) := by clear k92 k91; (simp at *; (try simp (disch := omega) only [Int.tdiv_eq_ediv_of_nonneg, Int.tmod_eq_emod_of_nonneg, wrapk] at *); simp_all [get, getE, gMay, gK, gV, gS, gG, gE, gT, gQ]; done)
            have k94 : Go.Ideal.W1.get Go.Ideal.W1.gG x = (0 : Int) := by clear k93 k92 k91; (simp at *; (try simp (disch := omega) only [Int.tdiv_eq_ediv_of_nonneg, Int.tmod_eq_emod_of_nonneg, wrapk] at *); simp_all [get, getE, gMay, gK, gV, gS, gG, gE, gT, gQ]; done)
            have k95 : Go.Ideal.W1.get Go.Ideal.W1.gE x = (0 : Int) := by clear k94 k93 k92 k91; (simp at *; (try simp (disch := omega) only [Int.tdiv_eq_ediv_of_nonneg, Int.tmod_eq_emod_of_nonneg, wrapk] at *); simp_all [get, getE, gMay, gK, gV, gS, gG, gE, gT, gQ]; done)
            have k96 : Go.Ideal.W1.get Go.Ideal.W1.gT x = (0 : Int) := by clear k95 k94 k93 k92 k91; (simp at *; (try simp (disch := omega) only [Int.tdiv_eq_ediv_of_nonneg, Int.tmod_eq_emod_of_nonneg, wrapk] at *); simp_all [get, getE, gMay, gK, gV, gS, gG, gE, gT, gQ]; done)
            have k97 : Go.Ideal.W1.get Go.Ideal.W1.gQ x = (0 : Int) := by clear k96 k95 k94 k93 k92 k91; (simp at *; (try simp (disch := omega) only [Int.tdiv_eq_ediv_of_nonneg, Int.tmod_eq_emod_of_nonneg, wrapk] at *); simp_all [get, getE, gMay, gK, gV, gS, gG, gE, gT, gQ]; done)
            have k98 : Go.Ideal.W1.getE x = (100 : Int) := by clear k97 k96 k95 k94 k93 k92 k91; (simp at *; (try simp (disch := omega) only [Int.tdiv_eq_ediv_of_nonneg, Int.tmod_eq_emod_of_nonneg, wrapk] at *); simp_all [get, getE, gMay, gK, gV, gS, gG, gE, gT, gQ]; done)
            refine vcIntro [false, false, false, false, true] (And.intro (And.intro h90 (And.intro h81 (And.intro h54 (And.intro h27 (And.intro h0 True.intro))))) (And.intro (And.intro k91 (And.intro k92 (And.intro k93 (And.intro k94 (And.intro k95 (And.intro k96 k97)))))) k98)) ?_
            kernel_rfl
          ·
            have k99 : Go.Ideal.W1.get Go.Ideal.W1.gK x = x % (4 : Int) := by (simp at *; (try simp (disch := omega) only [Int.tdiv_eq_ediv_of_nonneg, Int.tmod_eq_emod_of_nonneg, wrapk] at *); simp_all [get, getE, gMay, gK, gV, gS, gG, gE, gT, gQ]; done)
            have k100 : Go.Ideal.W1.get Go.Ideal.W1.gV x = (0 : Int) := by clear k99; (simp at *; (try simp (disch := omega) only [Int.tdiv_eq_ediv_of_nonneg, Int.tmod_eq_emod_of_nonneg, wrapk] at *); simp_all [get, getE, gMay, gK, gV, gS, gG, gE, gT, gQ]; done)
            have k101 : Go.Ideal.W1.get Go.Ideal.W1.gS x = (0 : Int) := by clear k100 k99; (simp at *; (try simp (disch := omega) only [Int.tdiv_eq_ediv_of_nonneg, Int.tmod_eq_emod_of_nonneg, wrapk] at *); simp_all [get, getE, gMay, gK, gV, gS, gG, gE, gT, gQ]; done)
            have k102 : Go.Ideal.W1.get Go.Ideal.W1.gG x = (0 : Int) := by clear k101 k100 k99; (simp at *; (try simp (disch := omega) only [Int.tdiv_eq_ediv_of_nonneg, Int.tmod_eq_emod_of_nonneg, wrapk] at *); simp_all [get, getE, gMay, gK, gV, gS, gG, gE, gT, gQ]; done)
            have k103 : Go.Ideal.W1.get Go.Ideal.W1.gE x = (0 : Int) := by clear k102 k101 k100 k99; (simp at *; (try simp (disch := omega) only [Int.tdiv_eq_ediv_of_nonneg, Int.tmod_eq_emod_of_nonneg, wrapk] at *); simp_all [get, getE, gMay, gK, gV, gS, gG, gE, gT, gQ]; done)
            have k104 : Go.Ideal.W1.get Go.Ideal.W1.gT x = (0 : Int) := by clear k103 k102 k101 k100 k99; (simp at *; (try simp (disch := omega) only [Int.tdiv_eq_ediv_of_nonneg, Int.tmod_eq_emod_of_nonneg, wrapk] at *); simp_all [get, getE, gMay, gK, gV, gS, gG, gE, gT, gQ]; done)
            have k105 : Go.Ideal.W1.get Go.Ideal.W1.gQ x = (0 : Int) := by clear k104 k103 k102 k101 k100 k99; (simp at *; (try simp (disch := omega) only [Int.tdiv_eq_ediv_of_nonneg, Int.tmod_eq_emod_of_nonneg, wrapk] at *); simp_all [get, getE, gMay, gK, gV, gS, gG, gE, gT, gQ]; done)
            have k106 : Go.Ideal.W1.getE x = (0 : Int) := by clear k105 k104 k103 k102 k101 k100 k99; (simp at *; (try simp (disch := omega) only [Int.tdiv_eq_ediv_of_nonneg, Int.tmod_eq_emod_of_nonneg, wrapk] at *); simp_all [get, getE, gMay, gK, gV, gS, gG, gE, gT, gQ]; done)
            refine vcIntro [false, false, false, false, false] (And.intro (And.intro h90 (And.intro h81 (And.intro h54 (And.intro h27 (And.intro h0 True.intro))))) (And.intro (And.intro k99 (And.intro k100 (And.intro k101 (And.intro k102 (And.intro k103 (And.intro k104 k105)))))) k106)) ?_
            kernel_rfl
end Go.Ideal.W1
