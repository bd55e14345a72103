/- What a word tells as a plain value: the contracts of word.Plain, pawlref1.IsValue. Own text. -/
import Derived.Test.YtbcadmnkilckbaaL0
namespace Go.Ideal.Wd
open Go.Proofs Go.Ideal Go.Ideal.L1
set_option linter.unusedSimpArgs false
set_option linter.unusedVariables false
set_option maxRecDepth 100000
set_option maxHeartbeats 4000000

def pv (x : Int) : Int := IntKind.i64.wrap (x.tdiv 4)
def isVal (x : Int) : Bool := decide (0 ≤ x) && decide (x.tmod 4 = 0) && decide (0 ≤ pv x) && decide (pv x < 1099511627776)
def plV (x : Int) : Int := if isVal x then pv x else 0
def plT (x : Int) : V := .tuple [.int .i64 (.s (plV x)), .bool (.s (isVal x))]
def plS (f : FuncId) : Spec := spU f fun xs => match xs with
  | [.int .i64 (.s x)] => some (plT x)
  | _ => none
theorem plS_ok {f : FuncId} (h : ∀ x, CallQ Try.prog f [.int .i64 (.s x)] H0 fun u _ => V.leP (plT x) u) : SpecOk Try.prog (plS f) := spU_ok fun xs v hx => by
  split at hx
  · simp only [Option.some.injEq] at hx; subst hx
    exact ⟨rfl, rfl, (h _).ok rfl⟩
  · simp at hx
theorem mod4 (x : Int) (h : 0 ≤ x) : IntKind.i64.wrap (x.tmod 4) = x % 4 := by
  rw [Int.tmod_eq_emod_of_nonneg h, wrapk _ (by omega)]
theorem plain1 (x : Int) : ∃ hh, vcOf (runCall Try.prog noSpec noL 3000 74 [.int .i64 (.s x)] H0 hh) (fun u _ => V.leP (plT x) u) := by
  have hm : 0 ≤ x → x.tmod 4 = x % 4 := Int.tmod_eq_emod_of_nonneg

  rcases Bool.eq_false_or_eq_true (decide (x < (0 : Int))) with h0 | h0
  ·
   refine vcIntro [true] (an (an h0 tt) (an (show plV x = (0 : Int) by (simp at *; simp_all [plV, isVal, pv]; omega)) (show isVal x = false by (simp at *; simp_all [plV, isVal, pv]; omega)))) ?_
   kernel_rfl
  ·
   rcases Bool.eq_false_or_eq_true (x.tmod (4 : Int) == (0 : Int)) with h1 | h1
   ·
    rcases Bool.eq_false_or_eq_true (decide (IntKind.i64.wrap (x.tdiv (4 : Int)) ≥ (0 : Int))) with h2 | h2
    ·
     rcases Bool.eq_false_or_eq_true (decide (IntKind.i64.wrap (x.tdiv (4 : Int)) < (1099511627776 : Int))) with h3 | h3
     ·
      refine vcIntro [false, true, true, true] (an (an h3 (an h2 (an h1 (an h0 tt)))) (an (show plV x = IntKind.i64.wrap (x.tdiv (4 : Int)) by (simp at *; simp_all [plV, isVal, pv]; done)) (show isVal x = true by (simp at *; simp_all [plV, isVal, pv]; done)))) ?_
      kernel_rfl
     ·
      refine vcIntro [false, true, true, false] (an (an h3 (an h2 (an h1 (an h0 tt)))) (an (show plV x = (0 : Int) by (have a1 : ¬ (IntKind.i64.wrap (x.tdiv 4) < 1099511627776) := of_decide_eq_false h3; simp only [plV, isVal, pv, a1, decide_false, Bool.and_false, Bool.false_eq_true, if_false])) (show isVal x = false by (have a1 : ¬ (IntKind.i64.wrap (x.tdiv 4) < 1099511627776) := of_decide_eq_false h3; simp only [plV, isVal, pv, a1, decide_false, Bool.and_false, Bool.false_eq_true, if_false])))) ?_
      kernel_rfl
    ·
     refine vcIntro [false, true, false] (an (an h2 (an h1 (an h0 tt))) (an (show plV x = (0 : Int) by (simp at *; simp_all [plV, isVal, pv]; omega)) (show isVal x = false by (simp at *; simp_all [plV, isVal, pv]; omega)))) ?_
     kernel_rfl
   ·
    rcases Bool.eq_false_or_eq_true (x.tmod (4 : Int) == (2 : Int)) with h4 | h4
    ·
     rcases Bool.eq_false_or_eq_true (decide ((IntKind.i64.wrap (x.tdiv (4 : Int))).tmod (16 : Int) ≥ (0 : Int))) with h5 | h5
     ·
      rcases Bool.eq_false_or_eq_true (decide ((IntKind.i64.wrap (x.tdiv (4 : Int))).tmod (16 : Int) < (12 : Int))) with h6 | h6
      ·
       rcases Bool.eq_false_or_eq_true (decide (IntKind.i64.wrap ((IntKind.i64.wrap (x.tdiv (4 : Int))).tdiv (16 : Int)) ≥ (0 : Int))) with h7 | h7
       ·
        rcases Bool.eq_false_or_eq_true (decide (IntKind.i64.wrap ((IntKind.i64.wrap (x.tdiv (4 : Int))).tdiv (16 : Int)) < (65536 : Int))) with h8 | h8
        ·
         refine vcIntro [false, false, true, true, true, true, true] (an (an h8 (an h7 (an h6 (an h5 (an h4 (an h1 (an h0 tt))))))) (an (show plV x = (0 : Int) by (simp at *; simp_all [plV, isVal, pv]; done)) (show isVal x = false by (simp at *; simp_all [plV, isVal, pv]; done)))) ?_
         kernel_rfl
        ·
         refine vcIntro [false, false, true, true, true, true, false] (an (an h8 (an h7 (an h6 (an h5 (an h4 (an h1 (an h0 tt))))))) (an (show plV x = (0 : Int) by (simp at *; simp_all [plV, isVal, pv]; done)) (show isVal x = false by (simp at *; simp_all [plV, isVal, pv]; done)))) ?_
         kernel_rfl
       ·
        refine vcIntro [false, false, true, true, true, false] (an (an h7 (an h6 (an h5 (an h4 (an h1 (an h0 tt)))))) (an (show plV x = (0 : Int) by (simp at *; simp_all [plV, isVal, pv]; done)) (show isVal x = false by (simp at *; simp_all [plV, isVal, pv]; done)))) ?_
        kernel_rfl
      ·
       refine vcIntro [false, false, true, true, false] (an (an h6 (an h5 (an h4 (an h1 (an h0 tt))))) (an (show plV x = (0 : Int) by (simp at *; simp_all [plV, isVal, pv]; done)) (show isVal x = false by (simp at *; simp_all [plV, isVal, pv]; done)))) ?_
       kernel_rfl
     ·
      refine vcIntro [false, false, true, false] (an (an h5 (an h4 (an h1 (an h0 tt)))) (an (show plV x = (0 : Int) by (simp at *; simp_all [plV, isVal, pv]; done)) (show isVal x = false by (simp at *; simp_all [plV, isVal, pv]; done)))) ?_
      kernel_rfl
    ·
     rcases Bool.eq_false_or_eq_true (x.tmod (4 : Int) == (1 : Int)) with h9 | h9
     ·
      rcases Bool.eq_false_or_eq_true (decide ((IntKind.i64.wrap ((IntKind.i64.wrap ((IntKind.i64.wrap ((IntKind.i64.wrap (x.tdiv (4 : Int))).tdiv (1048576 : Int))).tdiv (4 : Int))).tdiv (16 : Int))).tmod (16 : Int) ≥ (0 : Int))) with h10 | h10
      ·
       rcases Bool.eq_false_or_eq_true (decide ((IntKind.i64.wrap ((IntKind.i64.wrap ((IntKind.i64.wrap ((IntKind.i64.wrap (x.tdiv (4 : Int))).tdiv (1048576 : Int))).tdiv (4 : Int))).tdiv (16 : Int))).tmod (16 : Int) < (12 : Int))) with h11 | h11
       ·
        rcases Bool.eq_false_or_eq_true (decide (IntKind.i64.wrap ((IntKind.i64.wrap ((IntKind.i64.wrap ((IntKind.i64.wrap ((IntKind.i64.wrap (x.tdiv (4 : Int))).tdiv (1048576 : Int))).tdiv (4 : Int))).tdiv (16 : Int))).tdiv (16 : Int)) ≥ (0 : Int))) with h12 | h12
        ·
         rcases Bool.eq_false_or_eq_true (decide (IntKind.i64.wrap ((IntKind.i64.wrap ((IntKind.i64.wrap ((IntKind.i64.wrap ((IntKind.i64.wrap (x.tdiv (4 : Int))).tdiv (1048576 : Int))).tdiv (4 : Int))).tdiv (16 : Int))).tdiv (16 : Int)) < (65536 : Int))) with h13 | h13
         ·
          rcases Bool.eq_false_or_eq_true (decide ((IntKind.i64.wrap ((IntKind.i64.wrap ((IntKind.i64.wrap (x.tdiv (4 : Int))).tdiv (1048576 : Int))).tdiv (4 : Int))).tmod (16 : Int) ≥ (0 : Int))) with h14 | h14
          ·
           rcases Bool.eq_false_or_eq_true (decide ((IntKind.i64.wrap ((IntKind.i64.wrap ((IntKind.i64.wrap (x.tdiv (4 : Int))).tdiv (1048576 : Int))).tdiv (4 : Int))).tmod (16 : Int) < (16 : Int))) with h15 | h15
           ·
            rcases Bool.eq_false_or_eq_true (decide ((IntKind.i64.wrap ((IntKind.i64.wrap (x.tdiv (4 : Int))).tdiv (1048576 : Int))).tmod (4 : Int) ≥ (0 : Int))) with h16 | h16
            ·
             rcases Bool.eq_false_or_eq_true (decide ((IntKind.i64.wrap ((IntKind.i64.wrap (x.tdiv (4 : Int))).tdiv (1048576 : Int))).tmod (4 : Int) < (4 : Int))) with h17 | h17
             ·
              rcases Bool.eq_false_or_eq_true (decide ((IntKind.i64.wrap (x.tdiv (4 : Int))).tmod (1048576 : Int) ≥ (0 : Int))) with h18 | h18
              ·
               rcases Bool.eq_false_or_eq_true (!decide ((IntKind.i64.wrap (x.tdiv (4 : Int))).tmod (1048576 : Int) < (1048576 : Int))) with h19 | h19
               ·
                refine vcIntro [false, false, false, true, true, true, true, true, true, true, true, true, true, true] (an (an h19 (an h18 (an h17 (an h16 (an h15 (an h14 (an h13 (an h12 (an h11 (an h10 (an h9 (an h4 (an h1 (an h0 tt)))))))))))))) (an (show plV x = (0 : Int) by (simp at *; simp_all [plV, isVal, pv]; done)) (show isVal x = false by (simp at *; simp_all [plV, isVal, pv]; done)))) ?_
                kernel_rfl
               ·
                refine vcIntro [false, false, false, true, true, true, true, true, true, true, true, true, true, false] (an (an h19 (an h18 (an h17 (an h16 (an h15 (an h14 (an h13 (an h12 (an h11 (an h10 (an h9 (an h4 (an h1 (an h0 tt)))))))))))))) (an (show plV x = (0 : Int) by (simp at *; simp_all [plV, isVal, pv]; done)) (show isVal x = false by (simp at *; simp_all [plV, isVal, pv]; done)))) ?_
                kernel_rfl
              ·
               refine vcIntro [false, false, false, true, true, true, true, true, true, true, true, true, false] (an (an h18 (an h17 (an h16 (an h15 (an h14 (an h13 (an h12 (an h11 (an h10 (an h9 (an h4 (an h1 (an h0 tt))))))))))))) (an (show plV x = (0 : Int) by (simp at *; simp_all [plV, isVal, pv]; done)) (show isVal x = false by (simp at *; simp_all [plV, isVal, pv]; done)))) ?_
               kernel_rfl
             ·
              refine vcIntro [false, false, false, true, true, true, true, true, true, true, true, false] (an (an h17 (an h16 (an h15 (an h14 (an h13 (an h12 (an h11 (an h10 (an h9 (an h4 (an h1 (an h0 tt)))))))))))) (an (show plV x = (0 : Int) by (simp at *; simp_all [plV, isVal, pv]; done)) (show isVal x = false by (simp at *; simp_all [plV, isVal, pv]; done)))) ?_
              kernel_rfl
            ·
             refine vcIntro [false, false, false, true, true, true, true, true, true, true, false] (an (an h16 (an h15 (an h14 (an h13 (an h12 (an h11 (an h10 (an h9 (an h4 (an h1 (an h0 tt))))))))))) (an (show plV x = (0 : Int) by (simp at *; simp_all [plV, isVal, pv]; done)) (show isVal x = false by (simp at *; simp_all [plV, isVal, pv]; done)))) ?_
             kernel_rfl
           ·
            refine vcIntro [false, false, false, true, true, true, true, true, true, false] (an (an h15 (an h14 (an h13 (an h12 (an h11 (an h10 (an h9 (an h4 (an h1 (an h0 tt)))))))))) (an (show plV x = (0 : Int) by (simp at *; simp_all [plV, isVal, pv]; done)) (show isVal x = false by (simp at *; simp_all [plV, isVal, pv]; done)))) ?_
            kernel_rfl
          ·
           refine vcIntro [false, false, false, true, true, true, true, true, false] (an (an h14 (an h13 (an h12 (an h11 (an h10 (an h9 (an h4 (an h1 (an h0 tt))))))))) (an (show plV x = (0 : Int) by (simp at *; simp_all [plV, isVal, pv]; done)) (show isVal x = false by (simp at *; simp_all [plV, isVal, pv]; done)))) ?_
           kernel_rfl
         ·
          refine vcIntro [false, false, false, true, true, true, true, false] (an (an h13 (an h12 (an h11 (an h10 (an h9 (an h4 (an h1 (an h0 tt)))))))) (an (show plV x = (0 : Int) by (simp at *; simp_all [plV, isVal, pv]; done)) (show isVal x = false by (simp at *; simp_all [plV, isVal, pv]; done)))) ?_
          kernel_rfl
        ·
         refine vcIntro [false, false, false, true, true, true, false] (an (an h12 (an h11 (an h10 (an h9 (an h4 (an h1 (an h0 tt))))))) (an (show plV x = (0 : Int) by (simp at *; simp_all [plV, isVal, pv]; done)) (show isVal x = false by (simp at *; simp_all [plV, isVal, pv]; done)))) ?_
         kernel_rfl
       ·
        refine vcIntro [false, false, false, true, true, false] (an (an h11 (an h10 (an h9 (an h4 (an h1 (an h0 tt)))))) (an (show plV x = (0 : Int) by (simp at *; simp_all [plV, isVal, pv]; done)) (show isVal x = false by (simp at *; simp_all [plV, isVal, pv]; done)))) ?_
        kernel_rfl
      ·
       refine vcIntro [false, false, false, true, false] (an (an h10 (an h9 (an h4 (an h1 (an h0 tt))))) (an (show plV x = (0 : Int) by (simp at *; simp_all [plV, isVal, pv]; done)) (show isVal x = false by (simp at *; simp_all [plV, isVal, pv]; done)))) ?_
       kernel_rfl
     ·
      refine vcIntro [false, false, false, false] (an (an h9 (an h4 (an h1 (an h0 tt)))) (an (show plV x = (0 : Int) by (simp at *; simp_all [plV, isVal, pv]; done)) (show isVal x = false by (simp at *; simp_all [plV, isVal, pv]; done)))) ?_
      kernel_rfl
def plainS : Spec := plS 74
theorem plainS_ok : SpecOk Try.prog plainS := plS_ok fun x => CallQ.run noSpec_ok noL_ok mixed (plain1 x)
theorem isVal_of {x : Int} (h : isVal x = true) (hb : x ≤ 9223372036854775807) : 0 ≤ x ∧ x % 4 = 0 ∧ plV x = x / 4 ∧ x / 4 < 1099511627776 := by
  have h' := h
  simp only [isVal, Bool.and_eq_true, decide_eq_true_eq] at h'
  obtain ⟨⟨⟨h0, h1⟩, h2⟩, h3⟩ := h'
  rw [Int.tmod_eq_emod_of_nonneg h0] at h1
  have e : pv x = x / 4 := by unfold pv; rw [Int.tdiv_eq_ediv_of_nonneg h0, wrapk _ (by omega)]
  rw [e] at h3
  exact ⟨h0, h1, by rw [plV, if_pos h, e], h3⟩
theorem isVal_mk {x : Int} (h0 : 0 ≤ x) (h1 : x % 4 = 0) (h3 : x / 4 < 1099511627776) : isVal x = true ∧ plV x = x / 4 := by
  have e : pv x = x / 4 := by unfold pv; rw [Int.tdiv_eq_ediv_of_nonneg h0, wrapk _ (by omega)]
  have h : isVal x = true := by
    simp only [isVal, e, Bool.and_eq_true, decide_eq_true_eq]
    rw [Int.tmod_eq_emod_of_nonneg h0]
    exact ⟨⟨⟨h0, h1⟩, by omega⟩, h3⟩
  exact ⟨h, by rw [plV, if_pos h, e]⟩
end Go.Ideal.Wd
