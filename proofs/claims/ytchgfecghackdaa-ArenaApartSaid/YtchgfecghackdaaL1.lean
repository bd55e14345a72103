/- Contracts of what all laws use: rows that are compared. Own text. -/
import Derived.Test.YtchgfecghackdaaI25
import Derived.Test.YtchgfecghackdaaRows
import Derived.KernelRfl
namespace Go.Ideal.L1
open Go.Proofs Go.Ideal
set_option linter.unusedSimpArgs false
set_option linter.unusedVariables false
set_option maxRecDepth 100000
set_option maxHeartbeats 4000000

theorem mixed : Try.prog.follows .mixedOrders = true := by kernel_rfl

/-! ### SameInts -/

def rows (f g : Nat → Int) (n m : Nat) : List (Option Blk) := [some (.ext f (.s n)), some (.ext g (.s m))]
def sameT (o1 o2 l1 l2 c1 c2 i : Nat) : List (Nat × V) := [(0, .slice 0 (.s o1) (.s l1) 1 (.s c1)), (1, .slice 1 (.s o2) (.s l2) 1 (.s c2)), (5, .int .i64 (.s i))]

theorem sameInts_go (f g : Nat → Int) (n m o1 o2 l1 l2 c1 c2 : Nat) (hl : l1 = l2) : ∃ hh, vcOf (runGo Try.prog noSpec noL 100 41 [] [1,1,0,1,0] (Tr.ofList [.slice 0 (.s o1) (.s l1) 1 (.s c1), .slice 1 (.s o2) (.s l2) 1 (.s c2)]) (Hm (rows f g n m) 2) hh)
    (reached fun T1 H1 => weakP T1 H1 (sameT o1 o2 l1 l2 c1 c2 0) (rows f g n m) 2) := by

  rcases Bool.eq_false_or_eq_true ((↑l1 : Int) != (↑l2 : Int)) with h0 | h0
  · exact False.elim (by (simp_all; done))
  ·
    have k1 : c1 ≤ c1 := by omega
    have k2 : c2 ≤ c2 := by omega
    have k3 : n ≤ n := by omega
    have k4 : ∀ (k : Nat), k < n → f k = f k := fun _ _ => rfl
    have k5 : m ≤ m := by omega
    have k6 : ∀ (k : Nat), k < m → g k = g k := fun _ _ => rfl
    refine vcIntro [false] (And.intro (And.intro h0 True.intro) (And.intro (And.intro (And.intro (@Eq.refl (Nat) (o1)) (And.intro (@Eq.refl (Nat) (l1)) k1)) (And.intro (And.intro (@Eq.refl (Nat) (o2)) (And.intro (@Eq.refl (Nat) (l2)) k2)) (And.intro (@Eq.refl (Int) ((0 : Int))) True.intro))) (And.intro (And.intro k3 k4) (And.intro (And.intro k5 k6) True.intro)))) ?_
    kernel_rfl
theorem sameInts_ne (f g : Nat → Int) (n m o1 o2 l1 l2 c1 c2 : Nat) (hl : ¬ l1 = l2) : ∃ hh, vcOf (runCall Try.prog noSpec noL 100 41 [.slice 0 (.s o1) (.s l1) 1 (.s c1), .slice 1 (.s o2) (.s l2) 1 (.s c2)] (Hm (rows f g n m) 2) hh)
    (fun v H1 => retP 2 [0, 1] v H1 (.bool (.s (decide (l1 = l2 ∧ ∀ k, k < l1 → f (o1 + k) = g (o2 + k))))) [none, none] 2) := by

  rcases Bool.eq_false_or_eq_true ((↑l1 : Int) != (↑l2 : Int)) with h0 | h0
  ·
    have k1 : Decidable.decide (l1 = l2 ∧ ∀ (k : Nat), k < l1 → f (o1 + k) = g (o2 + k)) = Bool.false := by (simp_all; done)
    refine vcIntro [true] (And.intro (And.intro h0 True.intro) (And.intro k1 True.intro)) ?_
    kernel_rfl
  · exact False.elim (by (simp at *; omega))
theorem sameInts_body (f g : Nat → Int) (n m o1 o2 l1 l2 c1 c2 i : Nat) (hl : l1 = l2) (h1 : o1 + l1 ≤ n) (h2 : o2 + l2 ≤ m) (hm : l1 < 9223372036854775807) (hi : i ≤ l1) : ∃ hh, vcOf (runAt Try.prog noSpec noL 100 41 [1,1,0,1,0,0] (Tr.ofPairs (sameT o1 o2 l1 l2 c1 c2 i)) (Hm (rows f g n m) 2) hh)
    (fun x H1 => match x.1 with
      | .norm => dwnP 2 [0, 1] x.2 H1 (sameT o1 o2 l1 l2 c1 c2 (i + 1)) (rows f g n m) 2 ∧ i < l1 ∧ f (o1 + i) = g (o2 + i)
      | .exit 0 => dwnP 2 [0, 1] x.2 H1 [] (rows f g n m) 2 ∧ i = l1
      | .ret => dwnP 2 [0, 1] x.2 H1 [(4, .bool (.c false))] (rows f g n m) 2 ∧ i < l1 ∧ f (o1 + i) ≠ g (o2 + i)
      | _ => False) := by

  rcases Bool.eq_false_or_eq_true (Decidable.decide ((↑i : Int) < (↑l1 : Int))) with h0 | h0
  ·
    rcases Bool.eq_false_or_eq_true (f (o1 + i) != g (o2 + i)) with h1 | h1
    ·
      have k2 : (0 : Int) ≤ (↑i : Int) := by (simp_all; done)
      have k3 : (↑i : Int) + (1 : Int) ≤ (↑l1 : Int) := by (simp at *; omega)
      have k4 : (o1 + i).succ ≤ n := by (simp at *; omega)
      have k5 : (↑i : Int) + (1 : Int) ≤ (↑l2 : Int) := by (simp at *; omega)
      have k6 : (o2 + i).succ ≤ m := by (simp at *; omega)
      have k7 : n ≤ n := by (simp_all; done)
      have k8 : ∀ (k : Nat), k < n → f k = f k := fun _ _ => rfl
      have k9 : m ≤ m := by (simp_all; done)
      have k10 : ∀ (k : Nat), k < m → g k = g k := fun _ _ => rfl
      have k11 : i.succ ≤ l1 := by (simp at *; omega)
      have k12 : f (o1 + i) = g (o2 + i) → False := by (simp at *; omega)
      refine vcIntro [true, true] (And.intro (And.intro h1 (And.intro k6 (And.intro (And.intro k2 k5) (And.intro k4 (And.intro (And.intro k2 k3) (And.intro h0 True.intro)))))) (And.intro (And.intro (And.intro True.intro True.intro) (And.intro (And.intro k7 k8) (And.intro (And.intro k9 k10) True.intro))) (And.intro k11 k12))) ?_
      kernel_rfl
    ·
      have k13 : (0 : Int) ≤ (↑i : Int) := by (simp_all; done)
      have k14 : (↑i : Int) + (1 : Int) ≤ (↑l1 : Int) := by (simp at *; omega)
      have k15 : (o1 + i).succ ≤ n := by (simp at *; omega)
      have k16 : (↑i : Int) + (1 : Int) ≤ (↑l2 : Int) := by (simp at *; omega)
      have k17 : (o2 + i).succ ≤ m := by (simp at *; omega)
      have k18 : c1 ≤ c1 := by (simp_all; done)
      have k19 : c2 ≤ c2 := by (simp_all; done)
      have k20 : (↑(i + (1 : Nat)) : Int) = Go.IntKind.i64.wrap ((↑i : Int) + (1 : Int)) := by (rw [wrapk _ (by omega)]; simp)
      have k21 : n ≤ n := by (simp_all; done)
      have k22 : ∀ (k : Nat), k < n → f k = f k := fun _ _ => rfl
      have k23 : m ≤ m := by (simp_all; done)
      have k24 : ∀ (k : Nat), k < m → g k = g k := fun _ _ => rfl
      have k25 : i.succ ≤ l1 := by (simp at *; omega)
      have k26 : f (o1 + i) = g (o2 + i) := by (simp at *; omega)
      refine vcIntro [true, false] (And.intro (And.intro h1 (And.intro k17 (And.intro (And.intro k13 k16) (And.intro k15 (And.intro (And.intro k13 k14) (And.intro h0 True.intro)))))) (And.intro (And.intro (And.intro (And.intro (@Eq.refl (Nat) (o1)) (And.intro (@Eq.refl (Nat) (l1)) k18)) (And.intro (And.intro (@Eq.refl (Nat) (o2)) (And.intro (@Eq.refl (Nat) (l2)) k19)) (And.intro k20 True.intro))) (And.intro (And.intro k21 k22) (And.intro (And.intro k23 k24) True.intro))) (And.intro k25 k26))) ?_
      kernel_rfl
  ·
    have k27 : n ≤ n := by (simp_all; done)
    have k28 : ∀ (k : Nat), k < n → f k = f k := fun _ _ => rfl
    have k29 : m ≤ m := by (simp_all; done)
    have k30 : ∀ (k : Nat), k < m → g k = g k := fun _ _ => rfl
    have k31 : i = l1 := by (simp at *; omega)
    refine vcIntro [false] (And.intro (And.intro h0 True.intro) (And.intro (And.intro True.intro (And.intro (And.intro k27 k28) (And.intro (And.intro k29 k30) True.intro))) k31)) ?_
    kernel_rfl
theorem sameInts_end (f g : Nat → Int) (n m : Nat) : ∃ hh, vcOf (runRet Try.prog noSpec noL 100 41 [1,1,0,1,0] (.exit 0) (Tr.ofPairs []) (Hm (rows f g n m) 2) hh) (fun v H1 => retP 2 [0, 1] v H1 (.bool (.s true)) [none, none] 2) := by

  refine vcIntro [] (And.intro True.intro (And.intro (@Eq.refl (Bool) (Bool.true)) True.intro)) ?_
  kernel_rfl
theorem sameInts_end' (f g : Nat → Int) (n m : Nat) : ∃ hh, vcOf (runRet Try.prog noSpec noL 100 41 [1,1,0,1,0] .ret (Tr.ofPairs [(4, .bool (.c false))]) (Hm (rows f g n m) 2) hh) (fun v H1 => retP 2 [0, 1] v H1 (.bool (.s false)) [none, none] 2) := by

  refine vcIntro [] (And.intro True.intro (And.intro (@Eq.refl (Bool) (Bool.false)) True.intro)) ?_
  kernel_rfl

theorem sameInts0 (f g : Nat → Int) (n m o1 o2 l1 l2 c1 c2 : Nat) (h1 : o1 + l1 ≤ n) (h2 : o2 + l2 ≤ m) (hm : l1 < 9223372036854775807) :
    CallOk Try.prog 41 [.slice 0 (.s o1) (.s l1) 1 (.s c1), .slice 1 (.s o2) (.s l2) 1 (.s c2)] (St (Hm (rows f g n m) 2)) (.bool (.s (decide (l1 = l2 ∧ ∀ k, k < l1 → f (o1 + k) = g (o2 + k))))) (St (Hm [none, none] 2)) := by
  refine CallQ.keep (H := Hm (rows f g n m) 2) ?_
  by_cases hl : l1 = l2
  · refine CallQ.ofText (by kernel_rfl) (AtQ.go noSpec_ok noL_ok mixed (by kernel_rfl) (by kernel_rfl) (sameInts_go f g n m o1 o2 l1 l2 c1 c2 hl) fun T1 H1 hw => HeadQ.weak (weakP_ok hw) ?_)
    refine (HeadQ.ind (fun i => Tr.ofPairs (sameT o1 o2 l1 l2 c1 c2 i)) (fun _ => Hm (rows f g n m) 2) (fun i => l1 - i) (fun i => i ≤ l1 ∧ ∀ k, k < i → f (o1 + k) = g (o2 + k)) 2
      (fun o T2 H2 => match o with
        | .exit 0 => T2 = Tr.ofPairs [] ∧ H2 = Hm (rows f g n m) 2 ∧ ∀ k, k < l1 → f (o1 + k) = g (o2 + k)
        | .ret => T2 = Tr.ofPairs [(4, .bool (.c false))] ∧ H2 = Hm (rows f g n m) 2 ∧ ∃ k, k < l1 ∧ f (o1 + k) ≠ g (o2 + k)
        | _ => False) (fun i hI => ?_) 0 ⟨Nat.zero_le _, fun k hk => absurd hk (Nat.not_lt_zero _)⟩ rfl).mono ?_
    · obtain ⟨hh, hb⟩ := sameInts_body f g n m o1 o2 l1 l2 c1 c2 i hl h1 h2 hm hI.1
      refine AtQ.run noSpec_ok noL_ok mixed (by kernel_rfl) ⟨hh, vcOf_mono hb fun x H1 hx => ?_⟩
      obtain ⟨o, T1⟩ := x
      cases o with
      | norm =>
        refine ⟨_, _, _, dwnP_ok hx.1, i + 1, ⟨hx.2.1, fun k hk => ?_⟩, by have := hx.2.1; omega, rfl, rfl⟩
        by_cases e : k = i
        · subst e; exact hx.2.2
        · exact hI.2 k (by omega)
      | exit id =>
        cases id with
        | zero => exact ⟨_, _, _, dwnP_ok hx.1, rfl, rfl, fun k hk => hI.2 k (by have := hx.2; omega)⟩
        | succ id => exact hx.elim
      | ret => exact ⟨_, _, _, dwnP_ok hx.1, rfl, rfl, i, hx.2.1, hx.2.2⟩
    · intro o T2 H2 hq
      cases o with
      | norm => exact hq.elim
      | exit id =>
        cases id with
        | zero =>
          obtain ⟨rfl, rfl, hall⟩ := hq
          obtain ⟨hh, hb⟩ := sameInts_end f g n m
          refine After.ret noSpec_ok noL_ok mixed (by kernel_rfl) ⟨hh, vcOf_mono hb fun v H' hv => ⟨[0, 1], ?_⟩⟩
          rw [decide_eq_true (⟨hl, hall⟩ : l1 = l2 ∧ ∀ k, k < l1 → f (o1 + k) = g (o2 + k))]
          exact hv
        | succ id => exact hq.elim
      | ret =>
        obtain ⟨rfl, rfl, k, hk, hne⟩ := hq
        obtain ⟨hh, hb⟩ := sameInts_end' f g n m
        refine After.ret noSpec_ok noL_ok mixed (by kernel_rfl) ⟨hh, vcOf_mono hb fun v H' hv => ⟨[0, 1], ?_⟩⟩
        rw [decide_eq_false (fun h : l1 = l2 ∧ ∀ k, k < l1 → f (o1 + k) = g (o2 + k) => hne (h.2 k hk))]
        exact hv
  · obtain ⟨hh, hb⟩ := sameInts_ne f g n m o1 o2 l1 l2 c1 c2 hl
    exact CallQ.run noSpec_ok noL_ok mixed ⟨hh, vcOf_mono hb fun v H' hv => ⟨_, hv⟩⟩


/-- The first n are the same. -/
def sameF (n : Nat) (f g : Nat → Int) : Bool := decide (∀ k, k < n → f k = g k)
theorem sameF_iff {n : Nat} {f g : Nat → Int} : sameF n f g = true ↔ ∀ k, k < n → f k = g k := by simp [sameF]
def sameN (l1 l2 : N) (f g : Nat → Int) : B := match l1, l2 with
  | .c a, .c b => if Nat.beq a b then .s (sameF a f g) else .c false
  | a, b => .s (decide (a.val = b.val) && sameF a.val f g)
theorem sameN_val (l1 l2 : N) (f g : Nat → Int) : (sameN l1 l2 f g).val = (decide (l1.val = l2.val) && sameF l1.val f g) := by
  unfold sameN
  split
  · rename_i a b
    by_cases e : a = b
    · subst e; simp [B.val, N.val]
    · have : ¬ Nat.beq a b = true := fun h => e (Nat.eq_of_beq_eq_true h)
      simp [this, B.val, N.val, e]
  · rfl
def lenOk (l : N) : List Prop := match l with
  | .c a => if Nat.blt a 9223372036854775807 then [] else [False]
  | .s a => [a < 9223372036854775807]
theorem lenOk_ok {l : N} (h : ∀ q, q ∈ lenOk l → q) : l.val < 9223372036854775807 := by
  cases l with
  | c a =>
    simp only [lenOk] at h
    by_cases e : Nat.blt a 9223372036854775807 = true
    · exact Nat.le_of_ble_eq_true e
    · rw [if_neg e] at h; exact (h False (by simp)).elim
  | s a => exact h (a < 9223372036854775807) (by simp [lenOk])

theorem sameInts_nn : ∃ hh, vcOf (runCall Try.prog noSpec noL 100 41 [.nils, .nils] (Hm [] 0) hh) (fun v H1 => retP 0 [] v H1 (.bool (.c true)) [] 0) := by

  refine vcIntro [] (And.intro True.intro (And.intro True.intro True.intro)) ?_
  kernel_rfl
theorem sameInts_ns (g : Nat → Int) (m o2 l2 c2 : Nat) : ∃ hh, vcOf (runCall Try.prog noSpec noL 100 41 [.nils, .slice 0 (.s o2) (.s l2) 1 (.s c2)] (Hm [some (.ext g (.s m))] 1) hh) (fun v H1 => retP 1 [0] v H1 (.bool (.s (decide (l2 = 0)))) [none] 1) := by

  rcases Bool.eq_false_or_eq_true ((0 : Int) != (↑l2 : Int)) with h0 | h0
  ·
    have k1 : Decidable.decide (l2 = (0 : Nat)) = Bool.false := by (simp at *; omega)
    refine vcIntro [true] (And.intro (And.intro h0 True.intro) (And.intro k1 True.intro)) ?_
    kernel_rfl
  ·
    have k2 : Decidable.decide (l2 = (0 : Nat)) = Bool.true := by (simp at *; omega)
    refine vcIntro [false] (And.intro (And.intro h0 True.intro) (And.intro k2 True.intro)) ?_
    kernel_rfl
theorem sameInts_sn (g : Nat → Int) (m o2 l2 c2 : Nat) : ∃ hh, vcOf (runCall Try.prog noSpec noL 100 41 [.slice 0 (.s o2) (.s l2) 1 (.s c2), .nils] (Hm [some (.ext g (.s m))] 1) hh) (fun v H1 => retP 1 [0] v H1 (.bool (.s (decide (l2 = 0)))) [none] 1) := by

  rcases Bool.eq_false_or_eq_true ((↑l2 : Int) != (0 : Int)) with h0 | h0
  ·
    have k1 : Decidable.decide (l2 = (0 : Nat)) = Bool.false := by (simp at *; omega)
    refine vcIntro [true] (And.intro (And.intro h0 True.intro) (And.intro k1 True.intro)) ?_
    kernel_rfl
  ·
    rcases Bool.eq_false_or_eq_true (Decidable.decide ((0 : Int) < (↑l2 : Int))) with h2 | h2
    · exact False.elim (by (simp at *; omega))
    ·
      have k3 : Decidable.decide (l2 = (0 : Nat)) = Bool.true := by (simp at *; omega)
      refine vcIntro [false, false] (And.intro (And.intro h2 (And.intro h0 True.intro)) (And.intro k3 True.intro)) ?_
      kernel_rfl

theorem callKeep {f : FuncId} {xs : List V} {H : Hp} {v2 : V} {bs : List (Option Blk)} {n2 : Nat} {l : List Nat} {spec : Spec} (hs : SpecOk Try.prog spec) {n : Nat} (h : ∃ hh, vcOf (runCall Try.prog spec noL n f xs H hh) fun v H' => retP H.n l v H' v2 bs n2) : CallOk Try.prog f xs (St H) v2 (St (Hm bs n2)) := by
  obtain ⟨hh, hb⟩ := h
  exact CallQ.keep (CallQ.run hs noL_ok mixed ⟨hh, vcOf_mono hb fun v H' hv => ⟨_, hv⟩⟩)

def sameCt : List V → Hp → Option Ct
  | [.slice b1 o1 l1 sz1 _, .slice b2 o2 l2 sz2 _], H => if Nat.beq sz1 1 && Nat.beq sz2 1 && !Nat.beq b2 b1 then match H.tr.get b1, H.tr.get b2 with
    | some B1, some B2 => match B1.row, B2.row with
      | some (f, n), some (g, m) => some ⟨[b1, b2], [], .bool (sameN l1 l2 (shiftF o1 f) (shiftF o2 g)), [none, none], 2, needLe o1 l1.val n ++ (needLe o2 l2.val m ++ lenOk l1)⟩
      | _, _ => none
    | _, _ => none
    else none
  | [.nils, .nils], _ => some ⟨[], [], .bool (.c true), [], 0, []⟩
  | [.nils, .slice b o l sz _], H => if Nat.beq sz 1 then match H.tr.get b with
    | some B => match B.row with
      | some _ => some ⟨[b], [], .bool (match l with | .c a => .c (Nat.beq a 0) | .s a => .s (decide (a = 0))), [none], 1, []⟩
      | none => none
    | none => none
    else none
  | [.slice b o l sz _, .nils], H => if Nat.beq sz 1 then match H.tr.get b with
    | some B => match B.row with
      | some _ => some ⟨[b], [], .bool (match l with | .c a => .c (Nat.beq a 0) | .s a => .s (decide (a = 0))), [none], 1, []⟩
      | none => none
    | none => none
    else none
  | _, _ => none
def same : Spec := spG 41 sameCt

theorem zero_val (l : N) : B.val (match l with | .c a => .c (Nat.beq a 0) | .s a => .s (decide (a = 0)) : B) = decide (l.val = 0) := by
  cases l with
  | c a => cases a <;> simp [B.val, N.val, Nat.beq]
  | s a => rfl

theorem CtOk.val {P : Program} {f : FuncId} {xs : List V} {H : Hp} {l up : List Nat} {v v' : V} {bs : List (Option Blk)} {n2 : Nat} {cs : List Prop} {xs0 : List V} {bs0 : List (Option Blk)} (h : CtOk P f xs H ⟨l, up, v, bs, n2, cs⟩ xs0 bs0) (hv : ∀ r y, VR r v y → VR r v' y) : CtOk P f xs H ⟨l, up, v', bs, n2, cs⟩ xs0 bs0 :=
  ⟨h.nodup, h.lt, h.up, h.n, h.n', h.pre, h.ro, h.wr, h.args, h.call.to rfl rfl hv⟩

theorem blt_of {a b : Nat} (h : a < b) : Nat.blt a b = true := Nat.ble_eq_true_of_le h

theorem same_ok : SpecOk Try.prog same := spG_ok fun xs H c hc hq hb => by
  unfold sameCt at hc
  split at hc
  · rename_i b1 o1 l1 sz1 m1 b2 o2 l2 sz2 m2
    split at hc
    · rename_i hsz
      simp only [Bool.and_eq_true, Bool.not_eq_true'] at hsz
      obtain ⟨⟨hs1, hs2⟩, hne⟩ := hsz
      have hs1 := Nat.eq_of_beq_eq_true hs1
      have hs2 := Nat.eq_of_beq_eq_true hs2
      subst hs1 hs2
      split at hc
      · rename_i B1 B2 hB1 hB2
        split at hc
        · rename_i f n g m hr1 hr2
          simp only [Option.some.injEq] at hc
          subst hc
          have n1 := needLe_ok (fun q hq' => hq q (List.mem_append_left _ hq'))
          have n2 := needLe_ok (fun q hq' => hq q (List.mem_append_right _ (List.mem_append_left _ hq')))
          have n3 := lenOk_ok (fun q hq' => hq q (List.mem_append_right _ (List.mem_append_right _ hq')))
          have hpl0 : place [b1, b2] H.n 0 = b1 := rfl
          have hpl1 : place [b1, b2] H.n 1 = b2 := rfl
          refine ⟨[.slice 0 (.s o1.val) (.s l1.val) 1 (.s m1.val), .slice 1 (.s o2.val) (.s l2.val) 1 (.s m2.val)], rows f g n.val m.val, CtOk.val ⟨by simp [nodupB, hne], by simp [blt_of (hb _ _ hB1), blt_of (hb _ _ hB2)], rfl, rfl, rfl, ?_, ?_, ?_, ?_, sameInts0 f g n.val m.val o1.val o2.val l1.val l2.val m1.val m2.val n1 n2 n3⟩ ?_⟩
          · intro j b hj
            match j with
            | 0 => simp only [rows, List.getElem?_cons_zero, Option.some.injEq] at hj; subst hj; exact ⟨by simp, B1, hB1, Blk.row_s hr1⟩
            | 1 => simp only [rows, List.getElem?_cons_succ, List.getElem?_cons_zero, Option.some.injEq] at hj; subst hj; exact ⟨by simp, B2, hB2, Blk.row_s hr2⟩
            | j + 2 => simp [rows] at hj
          · intro j b _ hj
            match j with
            | 0 => simp only [rows, List.getElem?_cons_zero, Option.some.injEq] at hj; subst hj; rfl
            | 1 => simp only [rows, List.getElem?_cons_succ, List.getElem?_cons_zero, Option.some.injEq] at hj; subst hj; rfl
            | j + 2 => simp [rows] at hj
          · intro j b _ hj
            match j with
            | 0 => simp at hj
            | 1 => simp at hj
            | j + 2 => simp at hj
          · intro r ys hy
            simpa only [V.renL, V.ren, hpl0, hpl1, VRs, VR, N.val] using hy
          · intro r y hy
            simp only [VR] at hy ⊢
            rw [sameN_val, hy]
            simp only [sameF, shiftF_eq, Bool.decide_and, B.val]
        · simp at hc
      · simp at hc
    · simp at hc
  · simp only [Option.some.injEq] at hc
    subst hc
    exact ⟨[.nils, .nils], [], rfl, rfl, rfl, rfl, rfl, fun j b hj => by simp at hj, fun j b _ hj => by simp at hj, fun j b _ hj => by simp at hj, fun r ys hy => by simpa only [V.renL, V.ren] using hy, callKeep noSpec_ok sameInts_nn⟩
  · rename_i b o l sz mc
    split at hc
    · rename_i hs
      have hs := Nat.eq_of_beq_eq_true hs
      subst hs
      split at hc
      · rename_i B hB
        split at hc
        · rename_i fn hr
          obtain ⟨g, m⟩ := fn
          simp only [Option.some.injEq] at hc
          subst hc
          refine ⟨[.nils, .slice 0 (.s o.val) (.s l.val) 1 (.s mc.val)], [some (.ext g (.s m.val))], CtOk.val ⟨by simp [nodupB], by simp [blt_of (hb _ _ hB)], rfl, rfl, rfl, ?_, ?_, ?_, ?_, callKeep noSpec_ok (sameInts_ns g m.val o.val l.val mc.val)⟩ ?_⟩
          · intro j b hj
            match j with
            | 0 => simp only [List.getElem?_cons_zero, Option.some.injEq] at hj; subst hj; exact ⟨by simp, B, hB, Blk.row_s hr⟩
            | j + 1 => simp at hj
          · intro j b _ hj
            match j with
            | 0 => simp only [List.getElem?_cons_zero, Option.some.injEq] at hj; subst hj; rfl
            | j + 1 => simp at hj
          · intro j b _ hj
            match j with
            | 0 => simp at hj
            | j + 1 => simp at hj
          · intro r ys hy
            have hpl0 : place [b] H.n 0 = b := rfl
            simpa only [V.renL, V.ren, hpl0, VRs, VR, N.val] using hy
          · intro r y hy
            simp only [VR] at hy ⊢
            rw [zero_val]; exact hy
        · simp at hc
      · simp at hc
    · simp at hc
  · rename_i b o l sz mc
    split at hc
    · rename_i hs
      have hs := Nat.eq_of_beq_eq_true hs
      subst hs
      split at hc
      · rename_i B hB
        split at hc
        · rename_i fn hr
          obtain ⟨g, m⟩ := fn
          simp only [Option.some.injEq] at hc
          subst hc
          refine ⟨[.slice 0 (.s o.val) (.s l.val) 1 (.s mc.val), .nils], [some (.ext g (.s m.val))], CtOk.val ⟨by simp [nodupB], by simp [blt_of (hb _ _ hB)], rfl, rfl, rfl, ?_, ?_, ?_, ?_, callKeep noSpec_ok (sameInts_sn g m.val o.val l.val mc.val)⟩ ?_⟩
          · intro j b hj
            match j with
            | 0 => simp only [List.getElem?_cons_zero, Option.some.injEq] at hj; subst hj; exact ⟨by simp, B, hB, Blk.row_s hr⟩
            | j + 1 => simp at hj
          · intro j b _ hj
            match j with
            | 0 => simp only [List.getElem?_cons_zero, Option.some.injEq] at hj; subst hj; rfl
            | j + 1 => simp at hj
          · intro j b _ hj
            match j with
            | 0 => simp at hj
            | j + 1 => simp at hj
          · intro r ys hy
            have hpl0 : place [b] H.n 0 = b := rfl
            simpa only [V.renL, V.ren, hpl0, VRs, VR, N.val] using hy
          · intro r y hy
            simp only [VR] at hy ⊢
            rw [zero_val]; exact hy
        · simp at hc
      · simp at hc
    · simp at hc
  · simp at hc

/-! ### SpoilInts -/

def spoilT (o l c i : Nat) : List (Nat × V) := [(0, .slice 0 (.s o) (.s l) 1 (.s c)), (2, .int .i64 (.s i))]
def spoilB (f : Nat → Int) (n : Nat) : List (Option Blk) := [some (.own false 3 f n [])]
theorem spoil_go (f : Nat → Int) (n o l c : Nat) : ∃ hh, vcOf (runGo Try.prog noSpec noL 100 42 [] [1,0] (Tr.ofList [.slice 0 (.s o) (.s l) 1 (.s c)]) (Hm (spoilB f n) 1) hh)
    (reached fun T1 H1 => weakP T1 H1 (spoilT o l c 0) (spoilB f n) 1) := by

  have k0 : c ≤ c := by omega
  have k1 : ∀ (k : Nat), k < n → f k = f k := fun _ _ => rfl
  refine vcIntro [] (And.intro True.intro (And.intro (And.intro (And.intro (@Eq.refl (Nat) (o)) (And.intro (@Eq.refl (Nat) (l)) k0)) (And.intro (@Eq.refl (Int) ((0 : Int))) True.intro)) (And.intro (And.intro (@Eq.refl (Nat) (n)) (And.intro k1 True.intro)) True.intro))) ?_
  kernel_rfl
theorem spoil_body (f : Nat → Int) (n o l c i : Nat) (h1 : o + l ≤ n) (hm : l < 9223372036854775807) (hi : i ≤ l) : ∃ hh, vcOf (runAt Try.prog noSpec noL 100 42 [1,0,0] (Tr.ofPairs (spoilT o l c i)) (Hm (spoilB f n) 1) hh)
    (fun x H1 => match x.1 with
      | .norm => dwnP 1 [0] x.2 H1 (spoilT o l c (i + 1)) (spoilB (fun k => if k = o + i then IntKind.i64.wrap (-9 - f (o + i)) else f k) n) 1 ∧ i < l
      | .exit 0 => dwnP 1 [0] x.2 H1 [] (spoilB f n) 1 ∧ i = l
      | _ => False) := by

  rcases Bool.eq_false_or_eq_true (Decidable.decide ((↑i : Int) < (↑l : Int))) with h0 | h0
  ·
    have k1 : (0 : Int) ≤ (↑i : Int) := by (simp_all; done)
    have k2 : (↑i : Int) + (1 : Int) ≤ (↑l : Int) := by (simp at *; omega)
    have k3 : (o + i).succ ≤ n := by (simp at *; omega)
    have k4 : c ≤ c := by (simp_all; done)
    have k5 : (↑(i + (1 : Nat)) : Int) = Go.IntKind.i64.wrap ((↑i : Int) + (1 : Int)) := by (rw [wrapk _ (by omega)]; simp)
    have k6 : ∀ (k : Nat), k < n → (if k = o + i then Go.IntKind.i64.wrap ((-9 : Int) - f (o + i)) else f k) = if k = o + i then Go.IntKind.i64.wrap ((-9 : Int) - f (o + i)) else f k := fun _ _ => rfl
    have k7 : i.succ ≤ l := by (simp at *; omega)
    refine vcIntro [true] (And.intro (And.intro k3 (And.intro (And.intro k1 k2) (And.intro k3 (And.intro (And.intro k1 k2) (And.intro h0 True.intro))))) (And.intro (And.intro (And.intro (And.intro (@Eq.refl (Nat) (o)) (And.intro (@Eq.refl (Nat) (l)) k4)) (And.intro k5 True.intro)) (And.intro (And.intro (@Eq.refl (Nat) (n)) (And.intro k6 True.intro)) True.intro)) k7)) ?_
    kernel_rfl
  ·
    have k8 : ∀ (k : Nat), k < n → f k = f k := fun _ _ => rfl
    have k9 : i = l := by (simp at *; omega)
    refine vcIntro [false] (And.intro (And.intro h0 True.intro) (And.intro (And.intro True.intro (And.intro (And.intro (@Eq.refl (Nat) (n)) (And.intro k8 True.intro)) True.intro)) k9)) ?_
    kernel_rfl
theorem spoil_end (f : Nat → Int) (n : Nat) : ∃ hh, vcOf (runRet Try.prog noSpec noL 100 42 [1,0] (.exit 0) (Tr.ofPairs []) (Hm (spoilB f n) 1) hh) (fun v H1 => retP 1 [0] v H1 (.tuple []) [none] 1) := by

  refine vcIntro [] (And.intro True.intro (And.intro True.intro True.intro)) ?_
  kernel_rfl
theorem spoil0 (f : Nat → Int) (n o l c : Nat) (h1 : o + l ≤ n) (hm : l < 9223372036854775807) : CallOk Try.prog 42 [.slice 0 (.s o) (.s l) 1 (.s c)] (St (Hm (spoilB f n) 1)) (.tuple []) (St (Hm [none] 1)) := by
  refine CallQ.keep (H := Hm (spoilB f n) 1) ?_
  refine CallQ.ofText (by kernel_rfl) (AtQ.go noSpec_ok noL_ok mixed (by kernel_rfl) (by kernel_rfl) (spoil_go f n o l c) fun T1 H1 hw => HeadQ.weak (weakP_ok hw) ?_)
  refine (HeadQ.ind (fun (a : Nat × (Nat → Int)) => Tr.ofPairs (spoilT o l c a.1)) (fun a => Hm (spoilB a.2 n) 1) (fun a => l - a.1) (fun a => a.1 ≤ l) 1
    (fun o T2 H2 => match o with
      | .exit 0 => ∃ g, T2 = Tr.ofPairs [] ∧ H2 = Hm (spoilB g n) 1
      | _ => False) (fun a hI => ?_) (0, f) (Nat.zero_le _) rfl).mono ?_
  · obtain ⟨i, g⟩ := a
    obtain ⟨hh, hb⟩ := spoil_body g n o l c i h1 hm hI
    refine AtQ.run noSpec_ok noL_ok mixed (by kernel_rfl) ⟨hh, vcOf_mono hb fun x H1 hx => ?_⟩
    obtain ⟨o, T1⟩ := x
    cases o with
    | norm => exact ⟨_, _, _, dwnP_ok hx.1, (i + 1, _), hx.2, by have := hx.2; simp only; omega, rfl, rfl⟩
    | exit id =>
      cases id with
      | zero => exact ⟨_, _, _, dwnP_ok hx.1, _, rfl, rfl⟩
      | succ id => exact hx.elim
    | ret => exact hx.elim
  · intro o T2 H2 hq
    cases o with
    | norm => exact hq.elim
    | exit id =>
      cases id with
      | zero =>
        obtain ⟨g, rfl, rfl⟩ := hq
        obtain ⟨hh, hb⟩ := spoil_end g n
        exact After.ret noSpec_ok noL_ok mixed (by kernel_rfl) ⟨hh, vcOf_mono hb fun v H' hv => ⟨[0], hv⟩⟩
      | succ id => exact hq.elim
    | ret => exact hq.elim

def spoilCt : List V → Hp → Option Ct
  | [.slice b o l sz _], H => if Nat.beq sz 1 then match H.tr.get b with
    | some B => match B.flat with
      | .own false e _ n [] => if Nat.beq e 3 then some ⟨[b], [0], .tuple [], [none], 1, needLe o l.val (.c n) ++ lenOk l⟩ else none
      | _ => none
    | none => none
    else none
  | _, _ => none
def spoil : Spec := spG 42 spoilCt
theorem spoil_ok : SpecOk Try.prog spoil := spG_ok fun xs H c hc hq hb => by
  unfold spoilCt at hc
  split at hc
  · rename_i b o l sz m
    split at hc
    · rename_i hsz
      have hsz := Nat.eq_of_beq_eq_true hsz
      subst hsz
      split at hc
      · rename_i B hB
        split at hc
        · rename_i e f n hfl
          split at hc
          · rename_i he
            have he := Nat.eq_of_beq_eq_true he
            subst he
            simp only [Option.some.injEq] at hc
            subst hc
            have n1 := needLe_ok (fun q hq' => hq q (List.mem_append_left _ hq'))
            have n3 := lenOk_ok (fun q hq' => hq q (List.mem_append_right _ hq'))
            have hpl0 : place [b] H.n 0 = b := rfl
            refine ⟨[.slice 0 (.s o.val) (.s l.val) 1 (.s m.val)], spoilB f n, ⟨by simp [nodupB], by simp [blt_of (hb _ _ hB)], rfl, rfl, rfl, ?_, ?_, ?_, ?_, spoil0 f n o.val l.val m.val n1 n3⟩⟩
            · intro j b hj
              match j with
              | 0 => simp only [spoilB, List.getElem?_cons_zero, Option.some.injEq] at hj; subst hj; exact ⟨by simp, B, hB, by have := Wk.flat B; rwa [hfl] at this⟩
              | j + 1 => simp [spoilB] at hj
            · intro j b hj hj'
              match j with
              | 0 => simp at hj
              | j + 1 => simp [spoilB] at hj'
            · intro j b _ hj
              match j with
              | 0 => simp at hj
              | j + 1 => simp at hj
            · intro r ys hy
              simpa only [V.renL, V.ren, hpl0, VRs, VR, N.val] using hy
          · simp at hc
        · simp at hc
      · simp at hc
    · simp at hc
  · simp at hc

/-! ### Below -/

theorem below1 (a b : Int) : ∃ hh, vcOf (runCall Try.prog noSpec noL 100 44 [.int .i64 (.s a), .int .i64 (.s b)] H0 hh) (fun v _ => V.leP (.bool (.s (decide (0 ≤ a) && decide (a < b)))) v) := by

  rcases Bool.eq_false_or_eq_true (Decidable.decide (a ≥ (0 : Int))) with h0 | h0
  ·
    have k1 : (Decidable.decide ((0 : Int) ≤ a) && Decidable.decide (a < b)) = Decidable.decide (a < b) := by (simp_all; done)
    refine vcIntro [true] (And.intro (And.intro h0 True.intro) k1) ?_
    kernel_rfl
  ·
    have k2 : (Decidable.decide ((0 : Int) ≤ a) && Decidable.decide (a < b)) = Bool.false := by (simp at *; intros; omega)
    refine vcIntro [false] (And.intro (And.intro h0 True.intro) k2) ?_
    kernel_rfl
def below : Spec := spU 44 fun xs => match xs with
  | [.int .i64 (.s a), .int .i64 (.s b)] => some (.bool (.s (decide (0 ≤ a) && decide (a < b))))
  | _ => none
theorem below_ok : SpecOk Try.prog below := spU_ok fun xs v h => by
  split at h
  · simp only [Option.some.injEq] at h; subst h
    exact ⟨rfl, rfl, (CallQ.run noSpec_ok noL_ok mixed (below1 _ _)).ok rfl⟩
  · simp at h

def specs : Spec := orS below (orS same spoil)
theorem specs_ok : SpecOk Try.prog specs := orS_ok below_ok (orS_ok same_ok spoil_ok)

end Go.Ideal.L1
