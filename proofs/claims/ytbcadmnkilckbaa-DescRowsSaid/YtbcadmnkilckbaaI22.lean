/- The ideal machine: runs along parts of a text, and what they prove; forgetting, computed. Own text; nothing here is trusted. -/
import Derived.Test.YtbcadmnkilckbaaI21
namespace Go.Ideal
set_option linter.unusedSimpArgs false
set_option linter.unusedVariables false

section
variable {P : Program} {spec : Spec} {L : LSpec} {nt : Nat}

theorem CodeQ.ofOk {c : Code} {T T' : Tr V} {s s' : S} {out : Out} {Q : Out → Tr V → Hp → Prop} (h : CodeOk P nt c T s out T' s') (hq : Q out T' s'.H) : CodeQ P nt c T s.H Q :=
  fun r w a hA hH => wp_mono (h r w a hA hH) fun e a' w' ho => ⟨_, _, _, hq, ho⟩

/-- A function's text. -/
def textOf (P : Program) (f : FuncId) : Option (Code × Nat) := match P.funcs[f]? with
  | some fn => match fn.body with
    | some c => some (c, fn.ntmps)
    | none => none
  | none => none
theorem textOf_ok {f : FuncId} {c : Code} {nt : Nat} (h : textOf P f = some (c, nt)) : ∃ fn, P.funcs[f]? = some fn ∧ fn.body = some c ∧ fn.ntmps = nt := by
  unfold textOf at h
  split at h
  · rename_i fn hf
    split at h
    · rename_i c' hc
      simp only [Option.some.injEq, Prod.mk.injEq] at h
      obtain ⟨rfl, rfl⟩ := h
      exact ⟨fn, hf, hc, rfl⟩
    · simp at h
  · simp at h

theorem condV_q {c : Operand} {x y : Code} {T T1 : Tr V} {s s1 : S} {b : Bool} {Q : Out → Tr V → Hp → Prop} (h : condV T c s = some (b, T1, s1)) (hcs : ∀ q, q ∈ s1.cs → q)
    (hq : CodeQ P nt (if b then x else y) T1 s1.H Q) : CodeQ P nt (.cond c x y) T s.H Q := fun r w a hA hH => by
  obtain ⟨_, hH1, hA1⟩ := condV_ok (nt := nt) h
  obtain ⟨hA1, hev⟩ := hA1 hcs r a hA
  have := hq r w a hA1 (hH1 ▸ hH)
  rw [hH1] at this
  exact wp_cond hev this

theorem goS_ok (hs : SpecOk P spec) (hL : LSpecOk P L) (hmo : P.follows .mixedOrders = true) {n : Nat} {f : FuncId} {c0 : Code} (hb : textOf P f = some (c0, nt)) :
    ∀ (ds p : List Nat) (c : Code) (T T1 : Tr V) (s s1 : S), codeAt c0 p = some c → goS P spec L n f nt ds p c T s = some (some T1, s1) →
      More s.cs s1.cs ∧ ((∀ q, q ∈ s1.cs → q) → ∀ (Q : Out → Tr V → Hp → Prop), (∀ c1, codeDown c ds = some c1 → CodeQ P nt c1 T1 s1.H (AfterQ P nt ds c Q)) → CodeQ P nt c T s.H Q)
  | [], p, c, T, T1, s, s1, hp, h => by
    simp only [goS, Option.some.injEq, Prod.mk.injEq] at h
    obtain ⟨rfl, rfl⟩ := h
    exact ⟨More.refl _, fun _ Q hq => hq c rfl⟩
  | d :: ds, p, c, T, T1, s, s1, hp, h => by
    have ih := goS_ok hs hL hmo (n := n) hb ds
    obtain ⟨fn, hf, hbd, hnt⟩ := textOf_ok hb
    have z : ∀ {e : Nat}, Nat.beq e 0 = true → e = 0 := fun h => Nat.eq_of_beq_eq_true h
    have nz : ∀ {e : Nat}, ¬ Nat.beq e 0 = true → e ≠ 0 := fun h e0 => h (by subst e0; rfl)
    unfold goS at h
    split at h
    · rename_i a b
      by_cases hd : Nat.beq d 0 = true
      · rw [if_pos hd] at h
        have hd := z hd
        subst hd
        obtain ⟨h1, h2⟩ := ih (0 :: p) a T T1 s s1 (codeAt_cons hp rfl) h
        exact ⟨h1, fun hcs Q hq => CodeQ.seq (h2 hcs _ fun c1 hc => hq c1 (by simpa [codeDown, child] using hc))⟩
      · rw [if_neg hd] at h
        have hd := nz hd
        split at h
        · rename_i T2 s2 hx
          obtain ⟨hm1, hc1⟩ := code_ok hs hL hmo n f fn c0 _ _ _ _ _ _ _ hf hbd (codeAt_cons hp rfl) (hnt ▸ hx)
          obtain ⟨h1, h2⟩ := ih (1 :: p) b T2 T1 s2 s1 (codeAt_cons hp rfl) h
          refine ⟨hm1.trans h1, fun hcs Q hq => CodeQ.seq ((hnt ▸ CodeQ.ofOk (hc1 (fun q hq => hcs q (h1 q hq))) ?_))⟩
          show CodeQ P _ b T2 s2.H Q
          rw [hnt]
          refine h2 hcs Q fun c1 hc => ?_
          have := hq c1 (by simpa [codeDown, child, hd] using hc)
          simpa [AfterQ, hd] using this
        · simp at h
        · simp at h
    · rename_i c x y
      split at h
      · rename_i T2 s2 hx
        obtain ⟨hm1, _, _⟩ := condV_ok (nt := nt) hx
        by_cases hd : Nat.beq d 0 = true
        · rw [if_pos hd] at h
          have hd := z hd
          subst hd
          obtain ⟨h1, h2⟩ := ih (0 :: p) x T2 T1 s2 s1 (codeAt_cons hp rfl) h
          refine ⟨hm1.trans h1, fun hcs Q hq => condV_q hx (fun q hq => hcs q (h1 q hq)) (h2 hcs Q fun c1 hc => ?_)⟩
          simpa [AfterQ] using hq c1 (by simpa [codeDown, child] using hc)
        · rw [if_neg hd] at h; simp at h
      · rename_i T2 s2 hx
        obtain ⟨hm1, _, _⟩ := condV_ok (nt := nt) hx
        by_cases hd : Nat.beq d 0 = true
        · rw [if_pos hd] at h; simp at h
        · rw [if_neg hd] at h
          have hd := nz hd
          obtain ⟨h1, h2⟩ := ih (1 :: p) y T2 T1 s2 s1 (codeAt_cons hp rfl) h
          refine ⟨hm1.trans h1, fun hcs Q hq => condV_q hx (fun q hq => hcs q (h1 q hq)) (h2 hcs Q fun c1 hc => ?_)⟩
          simpa [AfterQ, hd] using hq c1 (by simpa [codeDown, child, hd] using hc)
      · simp at h
    · rename_i id b
      by_cases hd : Nat.beq d 0 = true
      · rw [if_pos hd] at h
        have hd := z hd
        subst hd
        obtain ⟨h1, h2⟩ := ih (0 :: p) b T T1 s s1 (codeAt_cons hp rfl) h
        exact ⟨h1, fun hcs Q hq => CodeQ.block (h2 hcs _ fun c1 hc => hq c1 (by simpa [codeDown, child] using hc))⟩
      · rw [if_neg hd] at h; simp at h
    · rename_i b
      by_cases hd : Nat.beq d 0 = true
      · rw [if_pos hd] at h
        have hd := z hd
        subst hd
        obtain ⟨h1, h2⟩ := ih (0 :: p) b T T1 s s1 (codeAt_cons hp rfl) h
        exact ⟨h1, fun hcs Q hq => CodeQ.scope (h2 hcs _ fun c1 hc => hq c1 (by simpa [codeDown, child] using hc))⟩
      · rw [if_neg hd] at h; simp at h
    · rename_i b
      by_cases hd : Nat.beq d 0 = true
      · rw [if_pos hd] at h
        have hd := z hd
        subst hd
        obtain ⟨h1, h2⟩ := ih (0 :: p) b T T1 s s1 (codeAt_cons hp rfl) h
        exact ⟨h1, fun hcs Q hq => LoopQ.code (LoopQ.round (h2 hcs _ fun c1 hc => hq c1 (by simpa [codeDown, child] using hc)))⟩
      · rw [if_neg hd] at h; simp at h
    · simp at h

theorem afterS_ok (hs : SpecOk P spec) (hL : LSpecOk P L) (hmo : P.follows .mixedOrders = true) {n : Nat} {f : FuncId} {c0 : Code} (hb : textOf P f = some (c0, nt)) :
    ∀ (ds p : List Nat) (c : Code) (o o1 : Out) (T T1 : Tr V) (s s1 : S), codeAt c0 p = some c → afterS P spec L n f nt ds p c o T s = some (o1, T1, s1) →
      More s.cs s1.cs ∧ ((∀ q, q ∈ s1.cs → q) → ∀ (Q : Out → Tr V → Hp → Prop), Q o1 T1 s1.H → AfterQ P nt ds c Q o T s.H)
  | [], p, c, o, o1, T, T1, s, s1, hp, h => by
    simp only [afterS, Option.some.injEq, Prod.mk.injEq] at h
    obtain ⟨rfl, rfl, rfl⟩ := h
    exact ⟨More.refl _, fun _ Q hq => hq⟩
  | d :: ds, p, c, o, o1, T, T1, s, s1, hp, h => by
    have ih := afterS_ok hs hL hmo (n := n) hb ds
    obtain ⟨fn, hf, hbd, hnt⟩ := textOf_ok hb
    have z : ∀ {e : Nat}, Nat.beq e 0 = true → e = 0 := fun h => Nat.eq_of_beq_eq_true h
    have nz : ∀ {e : Nat}, ¬ Nat.beq e 0 = true → e ≠ 0 := fun h e0 => h (by subst e0; rfl)
    unfold afterS at h
    split at h
    · rename_i a b
      by_cases hd : Nat.beq d 0 = true
      · rw [if_pos hd] at h
        have hd := z hd
        subst hd
        split at h
        · rename_i T2 s2 hx
          obtain ⟨h1, h2⟩ := ih (0 :: p) a o _ T T2 s s2 (codeAt_cons hp rfl) hx
          obtain ⟨hm1, hc1⟩ := code_ok hs hL hmo n f fn c0 _ _ _ _ _ _ _ hf hbd (codeAt_cons hp rfl) (hnt ▸ h)
          refine ⟨h1.trans hm1, fun hcs Q hq => ?_⟩
          refine h2 (fun q hq => hcs q (hm1 q hq)) _ ?_
          exact hnt ▸ CodeQ.ofOk (hc1 hcs) hq
        · rename_i hne
          obtain ⟨h1, h2⟩ := ih (0 :: p) a o _ T T1 s s1 (codeAt_cons hp rfl) h
          refine ⟨h1, fun hcs Q hq => h2 hcs _ ?_⟩
          cases o1 with
          | norm => exact absurd h (hne _ _)
          | exit id => exact hq
          | ret => exact hq
      · rw [if_neg hd] at h
        have hd := nz hd
        obtain ⟨h1, h2⟩ := ih (1 :: p) b o _ T T1 s s1 (codeAt_cons hp rfl) h
        exact ⟨h1, fun hcs Q hq => by simpa [AfterQ, hd] using h2 hcs Q hq⟩
    · rename_i c x y
      by_cases hd : Nat.beq d 0 = true
      · rw [if_pos hd] at h
        have hd := z hd
        subst hd
        obtain ⟨h1, h2⟩ := ih (0 :: p) x o _ T T1 s s1 (codeAt_cons hp rfl) h
        exact ⟨h1, fun hcs Q hq => by simpa [AfterQ] using h2 hcs Q hq⟩
      · rw [if_neg hd] at h
        have hd := nz hd
        obtain ⟨h1, h2⟩ := ih (1 :: p) y o _ T T1 s s1 (codeAt_cons hp rfl) h
        exact ⟨h1, fun hcs Q hq => by simpa [AfterQ, hd] using h2 hcs Q hq⟩
    · rename_i id b
      by_cases hd : Nat.beq d 0 = true
      · rw [if_pos hd] at h
        have hd := z hd
        subst hd
        split at h
        · rename_i id' T2 s2 hx
          obtain ⟨h1, h2⟩ := ih (0 :: p) b o _ T T2 s s2 (codeAt_cons hp rfl) hx
          by_cases hid : Nat.beq id' id = true
          · rw [if_pos hid] at h
            have hid := Nat.eq_of_beq_eq_true hid
            simp only [Option.some.injEq, Prod.mk.injEq] at h
            obtain ⟨rfl, rfl, rfl⟩ := h
            exact ⟨h1, fun hcs Q hq => h2 hcs _ (by simpa [blockQ, hid] using hq)⟩
          · rw [if_neg hid] at h
            have hid : id' ≠ id := fun e => hid (by subst e; exact Nat.beq_refl _)
            simp only [Option.some.injEq, Prod.mk.injEq] at h
            obtain ⟨rfl, rfl, rfl⟩ := h
            exact ⟨h1, fun hcs Q hq => h2 hcs _ (by simpa [blockQ, hid] using hq)⟩
        · rename_i hne
          obtain ⟨h1, h2⟩ := ih (0 :: p) b o _ T T1 s s1 (codeAt_cons hp rfl) h
          refine ⟨h1, fun hcs Q hq => h2 hcs _ ?_⟩
          cases o1 with
          | norm => exact hq
          | exit id' => exact absurd h (hne _ _ _)
          | ret => exact hq
      · rw [if_neg hd] at h; simp at h
    · rename_i b
      by_cases hd : Nat.beq d 0 = true
      · rw [if_pos hd] at h
        have hd := z hd
        subst hd
        obtain ⟨h1, h2⟩ := ih (0 :: p) b o _ T T1 s s1 (codeAt_cons hp rfl) h
        exact ⟨h1, fun hcs Q hq => h2 hcs Q hq⟩
      · rw [if_neg hd] at h; simp at h
    · simp at h

theorem fromTo_ok (hs : SpecOk P spec) (hL : LSpecOk P L) (hmo : P.follows .mixedOrders = true) {n : Nat} {f : FuncId} {c0 : Code} (hb : textOf P f = some (c0, nt)) :
    ∀ (ds es p : List Nat) (c : Code) (o : Out) (T T1 : Tr V) (s s1 : S), codeAt c0 p = some c → fromTo P spec L n f nt ds es p c o T s = some (some T1, s1) →
      More s.cs s1.cs ∧ ((∀ q, q ∈ s1.cs → q) → ∀ (Q : Out → Tr V → Hp → Prop), (∀ c1, codeDown c es = some c1 → CodeQ P nt c1 T1 s1.H (AfterQ P nt es c Q)) → AfterQ P nt ds c Q o T s.H)
  | [], es, p, c, o, T, T1, s, s1, hp, h => by simp [fromTo] at h
  | d :: ds, [], p, c, o, T, T1, s, s1, hp, h => by simp [fromTo] at h
  | d :: ds, e :: es, p, c, o, T, T1, s, s1, hp, h => by
    have ih := fromTo_ok hs hL hmo (n := n) hb ds es
    have z : ∀ {e : Nat}, Nat.beq e 0 = true → e = 0 := fun h => Nat.eq_of_beq_eq_true h
    have nz : ∀ {e : Nat}, ¬ Nat.beq e 0 = true → e ≠ 0 := fun h e0 => h (by subst e0; rfl)
    have eq : ∀ {a b : Nat}, Nat.beq a b = true → a = b := fun h => Nat.eq_of_beq_eq_true h
    unfold fromTo at h
    split at h
    · rename_i a b
      by_cases hde : Nat.beq d e = true
      · rw [if_pos hde] at h
        have hde := eq hde
        subst hde
        by_cases hd : Nat.beq d 0 = true
        · rw [if_pos hd] at h
          have hd := z hd
          subst hd
          obtain ⟨h1, h2⟩ := ih (0 :: p) a o T T1 s s1 (codeAt_cons hp rfl) h
          exact ⟨h1, fun hcs Q hq => h2 hcs _ fun c1 hc => hq c1 (by simpa [codeDown, child] using hc)⟩
        · rw [if_neg hd] at h
          have hd := nz hd
          obtain ⟨h1, h2⟩ := ih (1 :: p) b o T T1 s s1 (codeAt_cons hp rfl) h
          refine ⟨h1, fun hcs Q hq => ?_⟩
          have := h2 hcs Q fun c1 hc => by simpa [AfterQ, hd] using hq c1 (by simpa [codeDown, child, hd] using hc)
          simpa [AfterQ, hd] using this
      · rw [if_neg hde] at h
        by_cases hd : Nat.beq d 0 = true
        · rw [if_pos hd] at h
          have hd := z hd
          subst hd
          have he : e ≠ 0 := fun e0 => hde (by subst e0; rfl)
          split at h
          · rename_i T2 s2 hx
            obtain ⟨h1, h2⟩ := afterS_ok hs hL hmo hb ds (0 :: p) a o _ T T2 s s2 (codeAt_cons hp rfl) hx
            obtain ⟨g1, g2⟩ := goS_ok hs hL hmo hb es (1 :: p) b T2 T1 s2 s1 (codeAt_cons hp rfl) h
            refine ⟨h1.trans g1, fun hcs Q hq => h2 (fun q hq => hcs q (g1 q hq)) _ ?_⟩
            exact g2 hcs Q fun c1 hc => by simpa [AfterQ, he] using hq c1 (by simpa [codeDown, child, he] using hc)
          · simp at h
          · simp at h
        · rw [if_neg hd] at h; simp at h
    · rename_i c x y
      by_cases hde : Nat.beq d e = true
      · rw [if_pos hde] at h
        have hde := eq hde
        subst hde
        by_cases hd : Nat.beq d 0 = true
        · rw [if_pos hd] at h
          have hd := z hd
          subst hd
          obtain ⟨h1, h2⟩ := ih (0 :: p) x o T T1 s s1 (codeAt_cons hp rfl) h
          refine ⟨h1, fun hcs Q hq => ?_⟩
          have := h2 hcs Q fun c1 hc => by simpa [AfterQ] using hq c1 (by simpa [codeDown, child] using hc)
          simpa [AfterQ] using this
        · rw [if_neg hd] at h
          have hd := nz hd
          obtain ⟨h1, h2⟩ := ih (1 :: p) y o T T1 s s1 (codeAt_cons hp rfl) h
          refine ⟨h1, fun hcs Q hq => ?_⟩
          have := h2 hcs Q fun c1 hc => by simpa [AfterQ, hd] using hq c1 (by simpa [codeDown, child, hd] using hc)
          simpa [AfterQ, hd] using this
      · rw [if_neg hde] at h; simp at h
    · rename_i id b
      by_cases hd : (Nat.beq d 0 && Nat.beq e 0) = true
      · rw [if_pos hd] at h
        simp only [Bool.and_eq_true] at hd
        have hd0 := z hd.1
        have he0 := z hd.2
        subst hd0 he0
        obtain ⟨h1, h2⟩ := ih (0 :: p) b o T T1 s s1 (codeAt_cons hp rfl) h
        exact ⟨h1, fun hcs Q hq => h2 hcs _ fun c1 hc => hq c1 (by simpa [codeDown, child] using hc)⟩
      · rw [if_neg hd] at h; simp at h
    · rename_i b
      by_cases hd : (Nat.beq d 0 && Nat.beq e 0) = true
      · rw [if_pos hd] at h
        simp only [Bool.and_eq_true] at hd
        have hd0 := z hd.1
        have he0 := z hd.2
        subst hd0 he0
        obtain ⟨h1, h2⟩ := ih (0 :: p) b o T T1 s s1 (codeAt_cons hp rfl) h
        exact ⟨h1, fun hcs Q hq => h2 hcs _ fun c1 hc => hq c1 (by simpa [codeDown, child] using hc)⟩
      · rw [if_neg hd] at h; simp at h
    · simp at h

end
end Go.Ideal
