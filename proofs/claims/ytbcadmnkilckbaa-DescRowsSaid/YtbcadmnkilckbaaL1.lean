/- Contracts of what all laws use: rows that are compared. Own text. -/
import Derived.Test.YtbcadmnkilckbaaL0
namespace Go.Ideal.L1
open Go.Proofs Go.Ideal
set_option linter.unusedSimpArgs false
set_option linter.unusedVariables false
set_option maxRecDepth 100000
set_option maxHeartbeats 4000000

/-! ### SameInts -/

def rows (f g : Nat → Int) (n m : Nat) : List (Option Blk) := [some (.ext f (.s n)), some (.ext g (.s m))]
def sameT (o1 o2 l1 l2 c1 c2 i : Nat) : List (Nat × V) := [(0, .slice 0 (.s o1) (.s l1) 1 (.s c1)), (1, .slice 1 (.s o2) (.s l2) 1 (.s c2)), (5, .int .i64 (.s i))]

theorem sameInts_go (f g : Nat → Int) (n m o1 o2 l1 l2 c1 c2 : Nat) (hl : l1 = l2) : ∃ hh, vcOf (runGo Try.prog noSpec noL 100 71 [] [1,1,0,1,0] (Tr.ofList [.slice 0 (.s o1) (.s l1) 1 (.s c1), .slice 1 (.s o2) (.s l2) 1 (.s c2)]) (Hm (rows f g n m) 2) hh)
    (reached fun T1 H1 => weakP T1 H1 (sameT o1 o2 l1 l2 c1 c2 0) (rows f g n m) 2) := by

  rcases Bool.eq_false_or_eq_true ((↑l1 : Int) != (↑l2 : Int)) with h0 | h0
  · exact ff (by (simp_all; done))
  ·
   refine vcIntro [false] (an (an h0 tt) (an (an (an (@Eq.refl (Nat) o1) (an (@Eq.refl (Nat) l1) (show c1 ≤ c1 by omega))) (an (an (@Eq.refl (Nat) o2) (an (@Eq.refl (Nat) l2) (show c2 ≤ c2 by omega))) (an (ri ((0 : Int))) tt))) (an (an (show n ≤ n by omega) (show ∀ (k : Nat), k < n → f k = f k from fun _ _ => rfl)) (an (an (show m ≤ m by omega) (show ∀ (k : Nat), k < m → g k = g k from fun _ _ => rfl)) tt)))) ?_
   kernel_rfl
theorem sameInts_ne (f g : Nat → Int) (n m o1 o2 l1 l2 c1 c2 : Nat) (hl : ¬ l1 = l2) : ∃ hh, vcOf (runCall Try.prog noSpec noL 100 71 [.slice 0 (.s o1) (.s l1) 1 (.s c1), .slice 1 (.s o2) (.s l2) 1 (.s c2)] (Hm (rows f g n m) 2) hh)
    (fun v H1 => retP 2 [0, 1] v H1 (.bool (.s (decide (l1 = l2 ∧ ∀ k, k < l1 → f (o1 + k) = g (o2 + k))))) [none, none] 2) := by

  rcases Bool.eq_false_or_eq_true ((↑l1 : Int) != (↑l2 : Int)) with h0 | h0
  ·
   refine vcIntro [true] (an (an h0 tt) (an (show decide (l1 = l2 ∧ ∀ (k : Nat), k < l1 → f (o1 + k) = g (o2 + k)) = false by (simp_all; done)) tt)) ?_
   kernel_rfl
  · exact ff (by (simp at *; omega))
theorem sameInts_body (f g : Nat → Int) (n m o1 o2 l1 l2 c1 c2 i : Nat) (hl : l1 = l2) (h1 : o1 + l1 ≤ n) (h2 : o2 + l2 ≤ m) (hm : l1 < 9223372036854775807) (hi : i ≤ l1) : ∃ hh, vcOf (runAt Try.prog noSpec noL 100 71 [1,1,0,1,0,0] (Tr.ofPairs (sameT o1 o2 l1 l2 c1 c2 i)) (Hm (rows f g n m) 2) hh)
    (fun x H1 => match x.1 with
      | .norm => dwnP 2 [0, 1] x.2 H1 (sameT o1 o2 l1 l2 c1 c2 (i + 1)) (rows f g n m) 2 ∧ i < l1 ∧ f (o1 + i) = g (o2 + i)
      | .exit 0 => dwnP 2 [0, 1] x.2 H1 [] (rows f g n m) 2 ∧ i = l1
      | .ret => dwnP 2 [0, 1] x.2 H1 [(4, .bool (.c false))] (rows f g n m) 2 ∧ i < l1 ∧ f (o1 + i) ≠ g (o2 + i)
      | _ => False) := by

  rcases Bool.eq_false_or_eq_true (decide ((↑i : Int) < (↑l1 : Int))) with h0 | h0
  ·
   rcases Bool.eq_false_or_eq_true (f (o1 + i) != g (o2 + i)) with h1 | h1
   ·
    refine vcIntro [true, true] (an (an h1 (an (show (o2 + i).succ ≤ m by (simp at *; omega)) (an (an (show (0 : Int) ≤ (↑i : Int) by (simp_all; done)) (show (↑i : Int) + (1 : Int) ≤ (↑l2 : Int) by (simp at *; omega))) (an (show (o1 + i).succ ≤ n by (simp at *; omega)) (an (an (show (0 : Int) ≤ (↑i : Int) by (simp_all; done)) (show (↑i : Int) + (1 : Int) ≤ (↑l1 : Int) by (simp at *; omega))) (an h0 tt)))))) (an (an (an tt tt) (an (an (show n ≤ n by (simp_all; done)) (show ∀ (k : Nat), k < n → f k = f k from fun _ _ => rfl)) (an (an (show m ≤ m by (simp_all; done)) (show ∀ (k : Nat), k < m → g k = g k from fun _ _ => rfl)) tt))) (an (show i.succ ≤ l1 by (simp at *; omega)) (show f (o1 + i) = g (o2 + i) → False by (simp at *; omega))))) ?_
    kernel_rfl
   ·
    refine vcIntro [true, false] (an (an h1 (an (show (o2 + i).succ ≤ m by (simp at *; omega)) (an (an (show (0 : Int) ≤ (↑i : Int) by (simp_all; done)) (show (↑i : Int) + (1 : Int) ≤ (↑l2 : Int) by (simp at *; omega))) (an (show (o1 + i).succ ≤ n by (simp at *; omega)) (an (an (show (0 : Int) ≤ (↑i : Int) by (simp_all; done)) (show (↑i : Int) + (1 : Int) ≤ (↑l1 : Int) by (simp at *; omega))) (an h0 tt)))))) (an (an (an (an (@Eq.refl (Nat) o1) (an (@Eq.refl (Nat) l1) (show c1 ≤ c1 by (simp_all; done)))) (an (an (@Eq.refl (Nat) o2) (an (@Eq.refl (Nat) l2) (show c2 ≤ c2 by (simp_all; done)))) (an (show (↑(i + (1 : Nat)) : Int) = IntKind.i64.wrap ((↑i : Int) + (1 : Int)) by (rw [wrapk _ (by omega)]; simp)) tt))) (an (an (show n ≤ n by (simp_all; done)) (show ∀ (k : Nat), k < n → f k = f k from fun _ _ => rfl)) (an (an (show m ≤ m by (simp_all; done)) (show ∀ (k : Nat), k < m → g k = g k from fun _ _ => rfl)) tt))) (an (show i.succ ≤ l1 by (simp at *; omega)) (show f (o1 + i) = g (o2 + i) by (simp at *; omega))))) ?_
    kernel_rfl
  ·
   refine vcIntro [false] (an (an h0 tt) (an (an tt (an (an (show n ≤ n by (simp_all; done)) (show ∀ (k : Nat), k < n → f k = f k from fun _ _ => rfl)) (an (an (show m ≤ m by (simp_all; done)) (show ∀ (k : Nat), k < m → g k = g k from fun _ _ => rfl)) tt))) (show i = l1 by (simp at *; omega)))) ?_
   kernel_rfl
theorem sameInts_end (f g : Nat → Int) (n m : Nat) : ∃ hh, vcOf (runRet Try.prog noSpec noL 100 71 [1,1,0,1,0] (.exit 0) (Tr.ofPairs []) (Hm (rows f g n m) 2) hh) (fun v H1 => retP 2 [0, 1] v H1 (.bool (.s true)) [none, none] 2) := by

  refine vcIntro [] (an tt (an (rb true) tt)) ?_
  kernel_rfl
theorem sameInts_end' (f g : Nat → Int) (n m : Nat) : ∃ hh, vcOf (runRet Try.prog noSpec noL 100 71 [1,1,0,1,0] .ret (Tr.ofPairs [(4, .bool (.c false))]) (Hm (rows f g n m) 2) hh) (fun v H1 => retP 2 [0, 1] v H1 (.bool (.s false)) [none, none] 2) := by

  refine vcIntro [] (an tt (an (rb false) tt)) ?_
  kernel_rfl

theorem sameInts0 (f g : Nat → Int) (n m o1 o2 l1 l2 c1 c2 : Nat) (h1 : o1 + l1 ≤ n) (h2 : o2 + l2 ≤ m) (hm : l1 < 9223372036854775807) :
    CallOk Try.prog 71 [.slice 0 (.s o1) (.s l1) 1 (.s c1), .slice 1 (.s o2) (.s l2) 1 (.s c2)] (St (Hm (rows f g n m) 2)) (.bool (.s (decide (l1 = l2 ∧ ∀ k, k < l1 → f (o1 + k) = g (o2 + k))))) (St (Hm [none, none] 2)) := by
  refine CallQ.keep (H := Hm (rows f g n m) 2) ?_
  by_cases hl : l1 = l2
  · refine CallQ.ofText (by kernel_rfl) (AtQ.go noSpec_ok noL_ok mixed (by kernel_rfl) (by kernel_rfl) (sameInts_go f g n m o1 o2 l1 l2 c1 c2 hl) fun T1 H1 hw => HeadQ.weak (weakP_ok hw) ?_)
    refine (HeadQ.ind (fun i => Tr.ofPairs (sameT o1 o2 l1 l2 c1 c2 i)) (fun _ => Hm (rows f g n m) 2) (fun i => l1 - i) (fun i => i ≤ l1 ∧ ∀ k, k < i → f (o1 + k) = g (o2 + k)) 2
      (fun o T2 H2 => match o with
        | .exit 0 => T2 = Tr.ofPairs [] ∧ H2 = Hm (rows f g n m) 2 ∧ ∀ k, k < l1 → f (o1 + k) = g (o2 + k)
        | .ret => T2 = Tr.ofPairs [(4, .bool (.c false))] ∧ H2 = Hm (rows f g n m) 2 ∧ ∃ k, k < l1 ∧ f (o1 + k) ≠ g (o2 + k)
        | _ => False) (fun i hI => ?_) 0 ⟨Nat.zero_le _, fun k hk => absurd hk (Nat.not_lt_zero _)⟩ rfl).mono ?_
    · obtain ⟨hh, hb⟩ := sameInts_body f g n m o1 o2 l1 l2 c1 c2 i hl h1 h2 hm hI.1
      refine AtQ.run noSpec_ok noL_ok mixed (by kernel_rfl) ⟨hh, vcOf_mono hb fun x H1 hx => ?_⟩
      obtain ⟨o, T1⟩ := x
      cases o with
      | norm =>
        refine ⟨_, _, _, dwnP_ok hx.1, i + 1, ⟨hx.2.1, fun k hk => ?_⟩, by have := hx.2.1; omega, rfl, rfl⟩
        by_cases e : k = i
        · subst e; exact hx.2.2
        · exact hI.2 k (by omega)
      | exit id =>
        cases id with
        | zero => exact ⟨_, _, _, dwnP_ok hx.1, rfl, rfl, fun k hk => hI.2 k (by have := hx.2; omega)⟩
        | succ id => exact hx.elim
      | ret => exact ⟨_, _, _, dwnP_ok hx.1, rfl, rfl, i, hx.2.1, hx.2.2⟩
    · intro o T2 H2 hq
      cases o with
      | norm => exact hq.elim
      | exit id =>
        cases id with
        | zero =>
          obtain ⟨rfl, rfl, hall⟩ := hq
          obtain ⟨hh, hb⟩ := sameInts_end f g n m
          refine After.ret noSpec_ok noL_ok mixed (by kernel_rfl) ⟨hh, vcOf_mono hb fun v H' hv => ⟨[0, 1], ?_⟩⟩
          rw [decide_eq_true (⟨hl, hall⟩ : l1 = l2 ∧ ∀ k, k < l1 → f (o1 + k) = g (o2 + k))]
          exact hv
        | succ id => exact hq.elim
      | ret =>
        obtain ⟨rfl, rfl, k, hk, hne⟩ := hq
        obtain ⟨hh, hb⟩ := sameInts_end' f g n m
        refine After.ret noSpec_ok noL_ok mixed (by kernel_rfl) ⟨hh, vcOf_mono hb fun v H' hv => ⟨[0, 1], ?_⟩⟩
        rw [decide_eq_false (fun h : l1 = l2 ∧ ∀ k, k < l1 → f (o1 + k) = g (o2 + k) => hne (h.2 k hk))]
        exact hv
  · obtain ⟨hh, hb⟩ := sameInts_ne f g n m o1 o2 l1 l2 c1 c2 hl
    exact CallQ.run noSpec_ok noL_ok mixed ⟨hh, vcOf_mono hb fun v H' hv => ⟨_, hv⟩⟩


theorem sameInts_nn : ∃ hh, vcOf (runCall Try.prog noSpec noL 100 71 [.nils, .nils] (Hm [] 0) hh) (fun v H1 => retP 0 [] v H1 (.bool (.c true)) [] 0) := by

  refine vcIntro [] (an tt (an tt tt)) ?_
  kernel_rfl
theorem sameInts_ns (g : Nat → Int) (m o2 l2 c2 : Nat) : ∃ hh, vcOf (runCall Try.prog noSpec noL 100 71 [.nils, .slice 0 (.s o2) (.s l2) 1 (.s c2)] (Hm [some (.ext g (.s m))] 1) hh) (fun v H1 => retP 1 [0] v H1 (.bool (.s (decide (l2 = 0)))) [none] 1) := by

  rcases Bool.eq_false_or_eq_true ((0 : Int) != (↑l2 : Int)) with h0 | h0
  ·
   refine vcIntro [true] (an (an h0 tt) (an (show decide (l2 = (0 : Nat)) = false by (simp at *; omega)) tt)) ?_
   kernel_rfl
  ·
   refine vcIntro [false] (an (an h0 tt) (an (show decide (l2 = (0 : Nat)) = true by (simp at *; omega)) tt)) ?_
   kernel_rfl
theorem sameInts_sn (g : Nat → Int) (m o2 l2 c2 : Nat) : ∃ hh, vcOf (runCall Try.prog noSpec noL 100 71 [.slice 0 (.s o2) (.s l2) 1 (.s c2), .nils] (Hm [some (.ext g (.s m))] 1) hh) (fun v H1 => retP 1 [0] v H1 (.bool (.s (decide (l2 = 0)))) [none] 1) := by

  rcases Bool.eq_false_or_eq_true ((↑l2 : Int) != (0 : Int)) with h0 | h0
  ·
   refine vcIntro [true] (an (an h0 tt) (an (show decide (l2 = (0 : Nat)) = false by (simp at *; omega)) tt)) ?_
   kernel_rfl
  ·
   rcases Bool.eq_false_or_eq_true (decide ((0 : Int) < (↑l2 : Int))) with h1 | h1
   · exact ff (by (simp at *; omega))
   ·
    refine vcIntro [false, false] (an (an h1 (an h0 tt)) (an (show decide (l2 = (0 : Nat)) = true by (simp at *; omega)) tt)) ?_
    kernel_rfl

def sameCt : List V → Hp → Option Ct
  | [.slice b1 o1 l1 sz1 _, .slice b2 o2 l2 sz2 _], H => if Nat.beq sz1 1 && Nat.beq sz2 1 && !Nat.beq b2 b1 then match H.tr.get b1, H.tr.get b2 with
    | some B1, some B2 => match B1.row, B2.row with
      | some (f, n), some (g, m) => some ⟨[b1, b2], [], .bool (sameN l1 l2 (shiftF o1 f) (shiftF o2 g)), [none, none], 2, needLe o1 l1.val n ++ (needLe o2 l2.val m ++ lenOk l1)⟩
      | _, _ => none
    | _, _ => none
    else none
  | [.nils, .nils], _ => some ⟨[], [], .bool (.c true), [], 0, []⟩
  | [.nils, .slice b o l sz _], H => if Nat.beq sz 1 then match H.tr.get b with
    | some B => match B.row with
      | some _ => some ⟨[b], [], .bool (match l with | .c a => .c (Nat.beq a 0) | .s a => .s (decide (a = 0))), [none], 1, []⟩
      | none => none
    | none => none
    else none
  | [.slice b o l sz _, .nils], H => if Nat.beq sz 1 then match H.tr.get b with
    | some B => match B.row with
      | some _ => some ⟨[b], [], .bool (match l with | .c a => .c (Nat.beq a 0) | .s a => .s (decide (a = 0))), [none], 1, []⟩
      | none => none
    | none => none
    else none
  | _, _ => none
def same : Spec := spG 71 sameCt

theorem zero_val (l : N) : B.val (match l with | .c a => .c (Nat.beq a 0) | .s a => .s (decide (a = 0)) : B) = decide (l.val = 0) := by
  cases l with
  | c a => cases a <;> simp [B.val, N.val, Nat.beq]
  | s a => rfl

theorem same_ok : SpecOk Try.prog same := spG_ok fun xs H c hc hq hb => by
  unfold sameCt at hc
  split at hc
  · rename_i b1 o1 l1 sz1 m1 b2 o2 l2 sz2 m2
    split at hc
    · rename_i hsz
      simp only [Bool.and_eq_true, Bool.not_eq_true'] at hsz
      obtain ⟨⟨hs1, hs2⟩, hne⟩ := hsz
      have hs1 := Nat.eq_of_beq_eq_true hs1
      have hs2 := Nat.eq_of_beq_eq_true hs2
      subst hs1 hs2
      split at hc
      · rename_i B1 B2 hB1 hB2
        split at hc
        · rename_i f n g m hr1 hr2
          simp only [Option.some.injEq] at hc
          subst hc
          have n1 := needLe_ok (fun q hq' => hq q (List.mem_append_left _ hq'))
          have n2 := needLe_ok (fun q hq' => hq q (List.mem_append_right _ (List.mem_append_left _ hq')))
          have n3 := lenOk_ok (fun q hq' => hq q (List.mem_append_right _ (List.mem_append_right _ hq')))
          have hpl0 : place [b1, b2] H.n 0 = b1 := rfl
          have hpl1 : place [b1, b2] H.n 1 = b2 := rfl
          refine ⟨[.slice 0 (.s o1.val) (.s l1.val) 1 (.s m1.val), .slice 1 (.s o2.val) (.s l2.val) 1 (.s m2.val)], rows f g n.val m.val, CtOk.val ⟨by simp [nodupB, hne], by simp [blt_of (hb _ _ hB1), blt_of (hb _ _ hB2)], rfl, rfl, rfl, ?_, ?_, ?_, ?_, sameInts0 f g n.val m.val o1.val o2.val l1.val l2.val m1.val m2.val n1 n2 n3⟩ ?_⟩
          · intro j b hj
            match j with
            | 0 => simp only [rows, List.getElem?_cons_zero, Option.some.injEq] at hj; subst hj; exact ⟨by simp, B1, hB1, Blk.row_s hr1⟩
            | 1 => simp only [rows, List.getElem?_cons_succ, List.getElem?_cons_zero, Option.some.injEq] at hj; subst hj; exact ⟨by simp, B2, hB2, Blk.row_s hr2⟩
            | j + 2 => simp [rows] at hj
          · intro j b _ hj
            match j with
            | 0 => simp only [rows, List.getElem?_cons_zero, Option.some.injEq] at hj; subst hj; rfl
            | 1 => simp only [rows, List.getElem?_cons_succ, List.getElem?_cons_zero, Option.some.injEq] at hj; subst hj; rfl
            | j + 2 => simp [rows] at hj
          · intro j b _ hj
            match j with
            | 0 => simp at hj
            | 1 => simp at hj
            | j + 2 => simp at hj
          · intro r ys hy
            simpa only [V.renL, V.ren, hpl0, hpl1, VRs, VR, N.val] using hy
          · intro r y hy
            simp only [VR] at hy ⊢
            rw [sameN_val, hy]
            simp only [sameF, shiftF_eq, Bool.decide_and, B.val]
        · simp at hc
      · simp at hc
    · simp at hc
  · simp only [Option.some.injEq] at hc
    subst hc
    exact ⟨[.nils, .nils], [], rfl, rfl, rfl, rfl, rfl, fun j b hj => by simp at hj, fun j b _ hj => by simp at hj, fun j b _ hj => by simp at hj, fun r ys hy => by simpa only [V.renL, V.ren] using hy, callKeep noSpec_ok sameInts_nn⟩
  · rename_i b o l sz mc
    split at hc
    · rename_i hs
      have hs := Nat.eq_of_beq_eq_true hs
      subst hs
      split at hc
      · rename_i B hB
        split at hc
        · rename_i fn hr
          obtain ⟨g, m⟩ := fn
          simp only [Option.some.injEq] at hc
          subst hc
          refine ⟨[.nils, .slice 0 (.s o.val) (.s l.val) 1 (.s mc.val)], [some (.ext g (.s m.val))], CtOk.val ⟨by simp [nodupB], by simp [blt_of (hb _ _ hB)], rfl, rfl, rfl, ?_, ?_, ?_, ?_, callKeep noSpec_ok (sameInts_ns g m.val o.val l.val mc.val)⟩ ?_⟩
          · intro j b hj
            match j with
            | 0 => simp only [List.getElem?_cons_zero, Option.some.injEq] at hj; subst hj; exact ⟨by simp, B, hB, Blk.row_s hr⟩
            | j + 1 => simp at hj
          · intro j b _ hj
            match j with
            | 0 => simp only [List.getElem?_cons_zero, Option.some.injEq] at hj; subst hj; rfl
            | j + 1 => simp at hj
          · intro j b _ hj
            match j with
            | 0 => simp at hj
            | j + 1 => simp at hj
          · intro r ys hy
            have hpl0 : place [b] H.n 0 = b := rfl
            simpa only [V.renL, V.ren, hpl0, VRs, VR, N.val] using hy
          · intro r y hy
            simp only [VR] at hy ⊢
            rw [zero_val]; exact hy
        · simp at hc
      · simp at hc
    · simp at hc
  · rename_i b o l sz mc
    split at hc
    · rename_i hs
      have hs := Nat.eq_of_beq_eq_true hs
      subst hs
      split at hc
      · rename_i B hB
        split at hc
        · rename_i fn hr
          obtain ⟨g, m⟩ := fn
          simp only [Option.some.injEq] at hc
          subst hc
          refine ⟨[.slice 0 (.s o.val) (.s l.val) 1 (.s mc.val), .nils], [some (.ext g (.s m.val))], CtOk.val ⟨by simp [nodupB], by simp [blt_of (hb _ _ hB)], rfl, rfl, rfl, ?_, ?_, ?_, ?_, callKeep noSpec_ok (sameInts_sn g m.val o.val l.val mc.val)⟩ ?_⟩
          · intro j b hj
            match j with
            | 0 => simp only [List.getElem?_cons_zero, Option.some.injEq] at hj; subst hj; exact ⟨by simp, B, hB, Blk.row_s hr⟩
            | j + 1 => simp at hj
          · intro j b _ hj
            match j with
            | 0 => simp only [List.getElem?_cons_zero, Option.some.injEq] at hj; subst hj; rfl
            | j + 1 => simp at hj
          · intro j b _ hj
            match j with
            | 0 => simp at hj
            | j + 1 => simp at hj
          · intro r ys hy
            have hpl0 : place [b] H.n 0 = b := rfl
            simpa only [V.renL, V.ren, hpl0, VRs, VR, N.val] using hy
          · intro r y hy
            simp only [VR] at hy ⊢
            rw [zero_val]; exact hy
        · simp at hc
      · simp at hc
    · simp at hc
  · simp at hc

def specs0 : Spec := orS below same
theorem specs0_ok : SpecOk Try.prog specs0 := orS_ok below_ok same_ok

end Go.Ideal.L1
