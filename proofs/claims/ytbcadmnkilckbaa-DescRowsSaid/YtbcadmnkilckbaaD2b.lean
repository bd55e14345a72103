/- Chapter 13: the contract of desc.Rows. Written by gen/drows.py. Own text. -/
import Derived.Test.YtbcadmnkilckbaaD2a
import Derived.Test.YtbcadmnkilckbaaR2
import Derived.Test.YtbcadmnkilckbaaR7
namespace Go.Ideal.D2
open Go.Proofs Go.Ideal Go.Ideal.L1
set_option linter.unusedSimpArgs false
set_option linter.unusedVariables false
set_option maxRecDepth 100000
set_option maxHeartbeats 8000000

/-- The rows behind i rounds: how many and one less, as a function; none: nil. -/
def stR (b : Nat → Bool) (z : Nat → Int) : Nat → Option (Nat × (Nat → Int))
  | 0 => none
  | i + 1 => if b i = true then (match stR b z i with
    | none => some (0, n0 i (z i) (z (i + 16)))
    | some (k, f) => some (k + 1, nx f k i (z i) (z (i + 16)))) else stR b z i
def cnt (b : Nat → Bool) : Nat → Nat
  | 0 => 0
  | i + 1 => if b i = true then cnt b i + 1 else cnt b i
theorem cnt_le (b : Nat → Bool) : ∀ i, cnt b i ≤ i
  | 0 => Nat.le_refl _
  | i + 1 => by have := cnt_le b i; unfold cnt; split <;> omega
theorem cnt_mono (b : Nat → Bool) (i : Nat) : ∀ d, cnt b i ≤ cnt b (i + d)
  | 0 => Nat.le_refl _
  | d + 1 => by
    have := cnt_mono b i d
    have e : cnt b (i + (d + 1)) = if b (i + d) = true then cnt b (i + d) + 1 else cnt b (i + d) := rfl
    rw [e]; split <;> omega
theorem cnt_lt {b : Nat → Bool} {i j : Nat} (h : i < j) (hb : b i = true) : cnt b i < cnt b j := by
  have := cnt_mono b (i + 1) (j - (i + 1))
  have e : i + 1 + (j - (i + 1)) = j := by omega
  rw [e] at this
  have e2 : cnt b (i + 1) = cnt b i + 1 := by show (if b i = true then cnt b i + 1 else cnt b i) = _; rw [if_pos hb]
  omega
/-- What stands in the rows. -/
def okR (b : Nat → Bool) (z : Nat → Int) (i : Nat) : Option (Nat × (Nat → Int)) → Prop
  | none => cnt b i = 0
  | some (k, f) => cnt b i = k + 1 ∧ ∀ j, j < i → b j = true → f (cnt b j * 3) = j ∧ f (cnt b j * 3 + 1) = z j ∧ f (cnt b j * 3 + 2) = z (j + 16)
theorem stR_ok (b : Nat → Bool) (z : Nat → Int) : ∀ i, okR b z i (stR b z i)
  | 0 => rfl
  | i + 1 => by
    have ih := stR_ok b z i
    unfold stR
    by_cases hb : b i = true
    · have ec : cnt b (i + 1) = cnt b i + 1 := by show (if b i = true then cnt b i + 1 else cnt b i) = _; rw [if_pos hb]
      rw [if_pos hb]
      cases hs : stR b z i with
      | none =>
        rw [hs] at ih
        have ih : cnt b i = 0 := ih
        refine ⟨by omega, fun j hj hbj => ?_⟩
        by_cases e : j = i
        · subst e; rw [ih]; exact ⟨rfl, rfl, rfl⟩
        · have := cnt_lt (show j < i by omega) hbj; omega
      | some p =>
        obtain ⟨k, f⟩ := p
        rw [hs] at ih
        obtain ⟨h1, h2⟩ := ih
        refine ⟨by omega, fun j hj hbj => ?_⟩
        by_cases e : j = i
        · subst e
          rw [h1]
          simp only [nx]
          rw [if_neg (by omega), if_neg (by omega), if_neg (by omega)]
          rw [show (k + 1) * 3 - (k + 1) * 3 = 0 by omega, show (k + 1) * 3 + 1 - (k + 1) * 3 = 1 by omega, show (k + 1) * 3 + 2 - (k + 1) * 3 = 2 by omega]
          exact ⟨rfl, rfl, rfl⟩
        · have hlt := cnt_lt (show j < i by omega) hbj
          obtain ⟨g1, g2, g3⟩ := h2 j (by omega) hbj
          simp only [nx]
          rw [if_pos (by omega), if_pos (by omega), if_pos (by omega)]
          exact ⟨g1, g2, g3⟩
    · have ec : cnt b (i + 1) = cnt b i := by show (if b i = true then cnt b i + 1 else cnt b i) = _; rw [if_neg hb]
      rw [if_neg hb]
      have old : ∀ j, j < i + 1 → b j = true → j < i := fun j hj hbj => by
        by_cases e : j = i
        · subst e; exact absurd hbj hb
        · omega
      cases hs : stR b z i with
      | none => rw [hs] at ih; show cnt b (i + 1) = 0; rw [ec]; exact ih
      | some p =>
        obtain ⟨k, f⟩ := p
        rw [hs] at ih
        obtain ⟨h1, h2⟩ := ih
        exact ⟨by omega, fun j hj hbj => h2 j (old j hj hbj) hbj⟩
def rT (b : Nat → Bool) (i : Nat) : Option (Nat × (Nat → Int)) → List (Nat × V)
  | none => rN b i
  | some (k, f) => rS b k i
def rB (b : Nat → Bool) (z : Nat → Int) : Option (Nat × (Nat → Int)) → List (Option Blk)
  | none => [vB b z]
  | some (k, f) => [vB b z, oB f k]
def rn : Option (Nat × (Nat → Int)) → Nat
  | none => 1
  | some _ => 2
abbrev FR : FuncId := 23
abbrev PR : List Nat := [1, 1, 0, 1, 0]
def rK (b : Nat → Bool) (z : Nat → Int) (v : V) (H1 : Hp) : Prop := match stR b z 16 with
  | none => retP 0 [] v H1 .nils [] 0
  | some (k, f) => retP 0 [1] v H1 (.slice 0 (.c 0) (.s (k + 1)) 3 (.s (k + 1))) [oB f k] 1
abbrev QR (b : Nat → Bool) (z : Nat → Int) : Post := RetQ Try.prog FR (rK b z)
def stepP (b : Nat → Bool) (z : Nat → Int) (i : Nat) : Post := fun o T1 H1 => ∃ l T2 H2, Dwn 1 l T1 H1 T2 H2 ∧ (match o with
  | .norm => ∃ i' : Nat, i' ≤ 16 ∧ 16 - i' < 16 - i ∧ T2 = Tr.ofPairs (rT b i' (stR b z i')) ∧ H2 = Hm (rB b z (stR b z i')) (rn (stR b z i'))
  | o => After Try.prog FR [] PR (QR b z) o T2 H2)
theorem step_n {b : Nat → Bool} {z : Nat → Int} {i : Nat} {T : Tr V} {H : Hp} {l : List Nat} (hi : i < 16) {s : Option (Nat × (Nat → Int))} (hs : stR b z (i + 1) = s)
    (h : ∃ hh, vcOf (runAt Try.prog noSpec noL 6000 FR (PR ++ [0]) T H hh) (nrm 1 l (rT b (i + 1) s) (rB b z s) (rn s))) : AtQ Try.prog FR (PR ++ [0]) T H (stepP b z i) := by
  subst hs
  obtain ⟨hh, h⟩ := h
  refine AtQ.run noSpec_ok noL_ok mixed (by kernel_rfl) ⟨hh, vcOf_mono h fun y H1 hy => ?_⟩
  obtain ⟨o, T1⟩ := y
  cases o with
  | norm => exact ⟨l, _, _, dwnP_ok hy, i + 1, by omega, by omega, rfl, rfl⟩
  | exit k => exact hy.elim
  | ret => exact hy.elim
theorem step_x {b : Nat → Bool} {z : Nat → Int} {T : Tr V} {H : Hp} {l : List Nat} {ts : List (Nat × V)} {bs : List (Option Blk)} {n2 : Nat} (h : ∃ hh, vcOf (runAt Try.prog noSpec noL 6000 FR (PR ++ [0]) T H hh) (ext0 1 l ts bs n2))
    (hr : ∃ hh, vcOf (runRet Try.prog noSpec noL 6000 FR PR (.exit 0) (Tr.ofPairs ts) (Hm bs n2) hh) (rK b z)) : AtQ Try.prog FR (PR ++ [0]) T H (stepP b z 16) := by
  obtain ⟨hh, h⟩ := h
  refine AtQ.run noSpec_ok noL_ok mixed (by kernel_rfl) ⟨hh, vcOf_mono h fun y H1 hy => ?_⟩
  obtain ⟨o, T1⟩ := y
  cases o with
  | norm => exact hy.elim
  | exit k =>
    simp only [ext0] at hy
    split at hy
    · next e =>
      have e := Nat.eq_of_beq_eq_true e
      subst e
      exact ⟨_, _, _, dwnP_ok hy, After.ret noSpec_ok noL_ok mixed (by kernel_rfl) hr⟩
    · exact hy.elim
  | ret => exact hy.elim
theorem step (b : Nat → Bool) (z : Nat → Int) (i : Nat) (hi : i ≤ 16) : AtQ Try.prog FR (PR ++ [0]) (Tr.ofPairs (rT b i (stR b z i))) (Hm (rB b z (stR b z i)) (rn (stR b z i))) (stepP b z i) := by
  have hok := stR_ok b z i
  have hle := cnt_le b i
  have hn : ∀ (hb : b i = false), stR b z (i + 1) = stR b z i := fun hb => by show (if b i = true then _ else stR b z i) = _; rw [if_neg (by simp [hb])]
  cases hs : stR b z i with
  | none =>
    have hk : ∀ (hb : b i = true), stR b z (i + 1) = some (0, n0 i (z i) (z (i + 16))) := fun hb => by show (if b i = true then (match stR b z i with | none => some (0, n0 i (z i) (z (i + 16))) | some (k, f) => some (k + 1, nx f k i (z i) (z (i + 16)))) else stR b z i) = _; rw [if_pos hb, hs]
    rw [hs] at hn
    match i, hi with
    | 0, _ =>
      cases hb : b 0 with
      | false => exact step_n (by decide) (hn hb) (rNu0 b z hb)
      | true => exact step_n (by decide) (hk hb) (rNk0 b z hb)
    | 1, _ =>
      cases hb : b 1 with
      | false => exact step_n (by decide) (hn hb) (rNu1 b z hb)
      | true => exact step_n (by decide) (hk hb) (rNk1 b z hb)
    | 2, _ =>
      cases hb : b 2 with
      | false => exact step_n (by decide) (hn hb) (rNu2 b z hb)
      | true => exact step_n (by decide) (hk hb) (rNk2 b z hb)
    | 3, _ =>
      cases hb : b 3 with
      | false => exact step_n (by decide) (hn hb) (rNu3 b z hb)
      | true => exact step_n (by decide) (hk hb) (rNk3 b z hb)
    | 4, _ =>
      cases hb : b 4 with
      | false => exact step_n (by decide) (hn hb) (rNu4 b z hb)
      | true => exact step_n (by decide) (hk hb) (rNk4 b z hb)
    | 5, _ =>
      cases hb : b 5 with
      | false => exact step_n (by decide) (hn hb) (rNu5 b z hb)
      | true => exact step_n (by decide) (hk hb) (rNk5 b z hb)
    | 6, _ =>
      cases hb : b 6 with
      | false => exact step_n (by decide) (hn hb) (rNu6 b z hb)
      | true => exact step_n (by decide) (hk hb) (rNk6 b z hb)
    | 7, _ =>
      cases hb : b 7 with
      | false => exact step_n (by decide) (hn hb) (rNu7 b z hb)
      | true => exact step_n (by decide) (hk hb) (rNk7 b z hb)
    | 8, _ =>
      cases hb : b 8 with
      | false => exact step_n (by decide) (hn hb) (rNu8 b z hb)
      | true => exact step_n (by decide) (hk hb) (rNk8 b z hb)
    | 9, _ =>
      cases hb : b 9 with
      | false => exact step_n (by decide) (hn hb) (rNu9 b z hb)
      | true => exact step_n (by decide) (hk hb) (rNk9 b z hb)
    | 10, _ =>
      cases hb : b 10 with
      | false => exact step_n (by decide) (hn hb) (rNu10 b z hb)
      | true => exact step_n (by decide) (hk hb) (rNk10 b z hb)
    | 11, _ =>
      cases hb : b 11 with
      | false => exact step_n (by decide) (hn hb) (rNu11 b z hb)
      | true => exact step_n (by decide) (hk hb) (rNk11 b z hb)
    | 12, _ =>
      cases hb : b 12 with
      | false => exact step_n (by decide) (hn hb) (rNu12 b z hb)
      | true => exact step_n (by decide) (hk hb) (rNk12 b z hb)
    | 13, _ =>
      cases hb : b 13 with
      | false => exact step_n (by decide) (hn hb) (rNu13 b z hb)
      | true => exact step_n (by decide) (hk hb) (rNk13 b z hb)
    | 14, _ =>
      cases hb : b 14 with
      | false => exact step_n (by decide) (hn hb) (rNu14 b z hb)
      | true => exact step_n (by decide) (hk hb) (rNk14 b z hb)
    | 15, _ =>
      cases hb : b 15 with
      | false => exact step_n (by decide) (hn hb) (rNu15 b z hb)
      | true => exact step_n (by decide) (hk hb) (rNk15 b z hb)
    | 16, _ => exact step_x (rNx b z) (by unfold rK; rw [hs]; exact rNe b)
    | i + 17, h => exact absurd h (by omega)
  | some p =>
    obtain ⟨k, f⟩ := p
    rw [hs] at hok
    have hk16 : cnt b i = k + 1 := hok.1
    have hk : ∀ (hb : b i = true), stR b z (i + 1) = some (k + 1, nx f k i (z i) (z (i + 16))) := fun hb => by show (if b i = true then (match stR b z i with | none => some (0, n0 i (z i) (z (i + 16))) | some (k, f) => some (k + 1, nx f k i (z i) (z (i + 16)))) else stR b z i) = _; rw [if_pos hb, hs]
    rw [hs] at hn
    have hk9 : k < 16 := by omega
    match i, hi with
    | 0, _ => exact absurd hs (by simp [stR])
    | 1, _ =>
      cases hb : b 1 with
      | false => exact step_n (by decide) (hn hb) (rSu1 b z f k hb)
      | true => exact step_n (by decide) (hk hb) (rSk1 b z f k hk9 hb)
    | 2, _ =>
      cases hb : b 2 with
      | false => exact step_n (by decide) (hn hb) (rSu2 b z f k hb)
      | true => exact step_n (by decide) (hk hb) (rSk2 b z f k hk9 hb)
    | 3, _ =>
      cases hb : b 3 with
      | false => exact step_n (by decide) (hn hb) (rSu3 b z f k hb)
      | true => exact step_n (by decide) (hk hb) (rSk3 b z f k hk9 hb)
    | 4, _ =>
      cases hb : b 4 with
      | false => exact step_n (by decide) (hn hb) (rSu4 b z f k hb)
      | true => exact step_n (by decide) (hk hb) (rSk4 b z f k hk9 hb)
    | 5, _ =>
      cases hb : b 5 with
      | false => exact step_n (by decide) (hn hb) (rSu5 b z f k hb)
      | true => exact step_n (by decide) (hk hb) (rSk5 b z f k hk9 hb)
    | 6, _ =>
      cases hb : b 6 with
      | false => exact step_n (by decide) (hn hb) (rSu6 b z f k hb)
      | true => exact step_n (by decide) (hk hb) (rSk6 b z f k hk9 hb)
    | 7, _ =>
      cases hb : b 7 with
      | false => exact step_n (by decide) (hn hb) (rSu7 b z f k hb)
      | true => exact step_n (by decide) (hk hb) (rSk7 b z f k hk9 hb)
    | 8, _ =>
      cases hb : b 8 with
      | false => exact step_n (by decide) (hn hb) (rSu8 b z f k hb)
      | true => exact step_n (by decide) (hk hb) (rSk8 b z f k hk9 hb)
    | 9, _ =>
      cases hb : b 9 with
      | false => exact step_n (by decide) (hn hb) (rSu9 b z f k hb)
      | true => exact step_n (by decide) (hk hb) (rSk9 b z f k hk9 hb)
    | 10, _ =>
      cases hb : b 10 with
      | false => exact step_n (by decide) (hn hb) (rSu10 b z f k hb)
      | true => exact step_n (by decide) (hk hb) (rSk10 b z f k hk9 hb)
    | 11, _ =>
      cases hb : b 11 with
      | false => exact step_n (by decide) (hn hb) (rSu11 b z f k hb)
      | true => exact step_n (by decide) (hk hb) (rSk11 b z f k hk9 hb)
    | 12, _ =>
      cases hb : b 12 with
      | false => exact step_n (by decide) (hn hb) (rSu12 b z f k hb)
      | true => exact step_n (by decide) (hk hb) (rSk12 b z f k hk9 hb)
    | 13, _ =>
      cases hb : b 13 with
      | false => exact step_n (by decide) (hn hb) (rSu13 b z f k hb)
      | true => exact step_n (by decide) (hk hb) (rSk13 b z f k hk9 hb)
    | 14, _ =>
      cases hb : b 14 with
      | false => exact step_n (by decide) (hn hb) (rSu14 b z f k hb)
      | true => exact step_n (by decide) (hk hb) (rSk14 b z f k hk9 hb)
    | 15, _ =>
      cases hb : b 15 with
      | false => exact step_n (by decide) (hn hb) (rSu15 b z f k hb)
      | true => exact step_n (by decide) (hk hb) (rSk15 b z f k hk9 hb)
    | 16, _ => exact step_x (rSx b z f k) (by unfold rK; rw [hs]; exact rSe b f k)
    | i + 17, h => exact absurd h (by omega)
theorem rows_q (b : Nat → Bool) (z : Nat → Int) : CallQ Try.prog FR [.agg (bL b ++ iL z)] (Hm [] 0) (rK b z) := by
  have hl : isLoop Try.prog FR PR = true := by kernel_rfl
  refine CallQ.ofText (by kernel_rfl) (AtQ.go noSpec_ok noL_ok mixed (by kernel_rfl) hl (rg b z) fun T1 H1 hw => HeadQ.weak (weakP_ok hw) ?_)
  exact HeadQ.ind (fun i : Nat => Tr.ofPairs (rT b i (stR b z i))) (fun i => Hm (rB b z (stR b z i)) (rn (stR b z i))) (fun i => 16 - i) (fun i => i ≤ 16) 1 _ (fun i hi => step b z i hi) 0 (Nat.zero_le _) rfl
def bF (bs : List Bool) (j : Nat) : Bool := bs.getD j false
def zF (zs : List Int) (j : Nat) : Int := zs.getD j 0
def kR (b : Nat → Bool) (z : Nat → Int) : Nat := match stR b z 16 with
  | some (k, _) => k
  | none => 0
def fR (b : Nat → Bool) (z : Nat → Int) : Nat → Int := match stR b z 16 with
  | some (_, f) => f
  | none => fun _ => 0
def noR (b : Nat → Bool) (z : Nat → Int) : Bool := match stR b z 16 with
  | some _ => false
  | none => true
def rowsG : List V → Option (List (Bool × Sh) × Sh)
  | [.agg vs] => if Nat.beq vs.length 48 then boolsK (vs.take 16) fun bs => intsK (vs.drop 16) fun zs => if Nat.beq bs.length 16 && Nat.beq zs.length 32 then
      some ([(noR (bF bs) (zF zs), ⟨.nils, []⟩)], ⟨.slice 0 (.c 0) (.s (kR (bF bs) (zF zs) + 1)) 3 (.s (kR (bF bs) (zF zs) + 1)), [oB (fR (bF bs) (zF zs)) (kR (bF bs) (zF zs))]⟩) else none
    else none
  | _ => none
def rowsS : Spec := spC FR rowsG
theorem callQ_mono {P : Program} {f : FuncId} {xs : List V} {H : Hp} {K K' : V → Hp → Prop} (h : CallQ P f xs H K) (hk : ∀ v H1, K v H1 → K' v H1) : CallQ P f xs H K' := by
  intro r w ys hH hxs
  refine (h r w ys hH hxs).mono ?_
  rintro e w' ⟨v, H', y, r', hv, rest⟩
  exact ⟨v, H', y, r', hk _ _ hv, rest⟩
theorem rowsS_ok : SpecOk Try.prog rowsS := spC_ok fun xs cl c h => by
  unfold rowsG at h
  split at h
  · rename_i vs
    split at h
    · rename_i hl
      have hl := Nat.eq_of_beq_eq_true hl
      rw [boolsK_eq] at h
      simp only [intsK_eq] at h
      split at h
      · rename_i hn
        simp only [Bool.and_eq_true] at hn
        have hn1 := Nat.eq_of_beq_eq_true hn.1
        have hn2 := Nat.eq_of_beq_eq_true hn.2
        have h1 : V.lePs (((boolsOf (vs.take 16)).map fun b => V.bool (.s b)) ++ (intsOf (vs.drop 16)).map fun z => V.int .i64 (.s z)) vs := by
          have := lePs_append _ _ _ _ (boolsOf_lePs (vs.take 16) (by rw [hn1, List.length_take]; omega)) (intsOf_lePs (vs.drop 16) (by rw [hn2, List.length_drop]; omega))
          rwa [List.take_append_drop] at this
        have e1 : ((boolsOf (vs.take 16)).map fun b => V.bool (.s b)) = bL (bF (boolsOf (vs.take 16))) := match boolsOf (vs.take 16), hn1 with
          | [b0, b1, b2, b3, b4, b5, b6, b7, b8, b9, b10, b11, b12, b13, b14, b15], _ => rfl
        have e2 : ((intsOf (vs.drop 16)).map fun z => V.int .i64 (.s z)) = iL (zF (intsOf (vs.drop 16))) := match intsOf (vs.drop 16), hn2 with
          | [z0, z1, z2, z3, z4, z5, z6, z7, z8, z9, z10, z11, z12, z13, z14, z15, z16, z17, z18, z19, z20, z21, z22, z23, z24, z25, z26, z27, z28, z29, z30, z31], _ => rfl
        rw [e1, e2] at h1
        generalize bF (boolsOf (vs.take 16)) = b at h1 h
        generalize zF (intsOf (vs.drop 16)) = z at h1 h
        simp only [Option.some.injEq, Prod.mk.injEq] at h
        obtain ⟨rfl, rfl⟩ := h
        have key : ∀ (v : V) (bs : List (Option Blk)), (∀ (j : Nat) (b : Blk), bs[j]? = some (some b) → b.writable = true) → (∀ (u : V) (H1 : Hp), rK b z u H1 → ∃ l, retP 0 l u H1 v bs bs.length) → ShOk Try.prog FR [.agg vs] ⟨v, bs⟩ := fun v bs hw hk =>
          ⟨hw, [.agg (bL b ++ iL z)], rfl, fun r ys hy => by
            simp only [VRs, VR] at hy ⊢
            obtain ⟨y, zs, e, ⟨z', g1, g2⟩, g3⟩ := hy
            exact ⟨y, zs, e, ⟨z', g1, V.lePs_ok _ _ _ h1 g2⟩, g3⟩, CallQ.keep (callQ_mono (rows_q b z) hk)⟩
        refine ⟨fun hb => key _ _ (fun j b hj => by simp at hj) fun u H1 hu => ?_, fun hb => key _ _ (fun j b hj => ?_) fun u H1 hu => ?_⟩
        · unfold noR at hb
          unfold rK at hu
          cases hs : stR b z 16 with
          | none => rw [hs] at hu; exact ⟨_, hu⟩
          | some p => rw [hs] at hb; cases hb
        · match j with
          | 0 => simp only [List.getElem?_cons_zero, Option.some.injEq, oB] at hj; subst hj; rfl
          | j + 1 => simp at hj
        · unfold noR at hb
          unfold rK at hu
          unfold kR fR
          cases hs : stR b z 16 with
          | none => rw [hs] at hb; cases hb
          | some p => obtain ⟨k, f⟩ := p; rw [hs] at hu; exact ⟨_, hu⟩
      · simp at h
    · simp at h
  · simp at h
end Go.Ideal.D2
