/- Cuts: from a loop's end to a later part; from a part to the function's end. Own text; nothing here is trusted. -/
import Derived.Test.YtbcadmnkilckbaaI26
namespace Go.Ideal

set_option linter.unusedSimpArgs false
set_option linter.unusedVariables false
variable {P : Program} {spec : Spec} {L : LSpec}

/-- From a part behind another one on to a third, that need be no loop. -/
theorem After.cut (hs : SpecOk P spec) (hL : LSpecOk P L) (hmo : P.follows .mixedOrders = true) {n : Nat} {f : FuncId} {base ds es : List Nat} {o : Out} {T : Tr V} {H : Hp} {Q : Post} {K : Tr V → Hp → Prop} (hp : hasPrt P f base = true)
    (h : ∃ hh, vcOf (runFrom P spec L n f base ds es o T H hh) (reached K)) (hq : ∀ T1 H1, K T1 H1 → AtQ P f (base ++ es) T1 H1 (After P f base es Q)) : After P f base ds Q o T H := by
  obtain ⟨hh, h⟩ := h
  obtain ⟨x, s, he, hcs, hK⟩ := h.some
  cases x with
  | none => exact hK.elim
  | some T' =>
  obtain ⟨_, hc⟩ := fromTo_ok hs hL hmo (textOf_txt (hasPrt_text hp)) ds es base.reverse (prt P f base) o T T' _ s (codeDown_at _ _ _ (prt_down hp)) he
  refine hc hcs Q fun c1 hc1 => ?_
  rw [down_prt hp hc1]
  exact hq _ _ hK
/-- On to a part, that need be no loop. -/
theorem AtQ.cut (hs : SpecOk P spec) (hL : LSpecOk P L) (hmo : P.follows .mixedOrders = true) {n : Nat} {f : FuncId} {base ds : List Nat} {T : Tr V} {H : Hp} {Q : Post} {K : Tr V → Hp → Prop} (hp : hasPrt P f base = true)
    (h : ∃ hh, vcOf (runGo P spec L n f base ds T H hh) (reached K)) (hq : ∀ T1 H1, K T1 H1 → AtQ P f (base ++ ds) T1 H1 (After P f base ds Q)) : AtQ P f base T H Q := by
  obtain ⟨hh, h⟩ := h
  obtain ⟨x, s, he, hcs, hK⟩ := h.some
  cases x with
  | none => exact hK.elim
  | some T' =>
  obtain ⟨_, hc⟩ := goS_ok hs hL hmo (textOf_txt (hasPrt_text hp)) ds base.reverse (prt P f base) T T' _ s (codeDown_at _ _ _ (prt_down hp)) he
  refine hc hcs Q fun c1 hc1 => ?_
  rw [down_prt hp hc1]
  exact hq _ _ hK
theorem AtQ.weak {f : FuncId} {ds : List Nat} {T T2 : Tr V} {H H2 : Hp} {Q : Post} (hw : Weak T H T2 H2) (h : AtQ P f ds T2 H2 Q) : AtQ P f ds T H Q := CodeQ.weak hw h
theorem AfterQ.append {nt : Nat} : ∀ (ds es : List Nat) (c c1 : Code) (Q : Out → Tr V → Hp → Prop), codeDown c ds = some c1 → AfterQ P nt (ds ++ es) c Q = AfterQ P nt es c1 (AfterQ P nt ds c Q)
  | [], es, c, c1, Q, h => by
    simp only [codeDown, Option.some.injEq] at h
    subst h; rfl
  | d :: ds, es, c, c1, Q, h => by
    simp only [codeDown, Option.bind_eq_some_iff] at h
    obtain ⟨x, hx, h⟩ := h
    cases c with
    | seq a b =>
      by_cases hd : d = 0
      · subst hd
        simp only [child, if_true, Option.some.injEq] at hx
        subst hx
        simp only [List.cons_append, AfterQ, if_true]
        exact AfterQ.append ds es _ c1 _ h
      · simp only [child, if_neg hd, Option.some.injEq] at hx
        subst hx
        simp only [List.cons_append, AfterQ, if_neg hd]
        exact AfterQ.append ds es _ c1 _ h
    | cond q a b =>
      by_cases hd : d = 0
      · subst hd
        simp only [child, if_true, Option.some.injEq] at hx
        subst hx
        simp only [List.cons_append, AfterQ, if_true]
        exact AfterQ.append ds es _ c1 _ h
      · simp only [child, if_neg hd, Option.some.injEq] at hx
        subst hx
        simp only [List.cons_append, AfterQ, if_neg hd]
        exact AfterQ.append ds es _ c1 _ h
    | block id b =>
      simp only [child, Option.some.injEq] at hx
      subst hx
      exact AfterQ.append ds es _ c1 _ h
    | loop b =>
      simp only [child, Option.some.injEq] at hx
      subst hx
      exact AfterQ.append ds es _ c1 _ h
    | scope b =>
      simp only [child, Option.some.injEq] at hx
      subst hx
      exact AfterQ.append ds es _ c1 _ h
    | _ => simp [child] at hx
theorem After.append {f : FuncId} {base ds es : List Nat} {Q : Post} (hp : hasPrt P f base = true) (hp2 : hasPrt P f (base ++ ds) = true) : After P f base (ds ++ es) Q = After P f (base ++ ds) es (After P f base ds Q) := by
  have h := prt_down hp2
  rw [codeDown_append, prt_down hp] at h
  exact AfterQ.append ds es _ _ Q (by simpa using h)
/-- On to a part within another one. -/
theorem AtQ.cutE (hs : SpecOk P spec) (hL : LSpecOk P L) (hmo : P.follows .mixedOrders = true) {n : Nat} {f : FuncId} {es ds : List Nat} {T : Tr V} {H : Hp} {Q : Post} {K : Tr V → Hp → Prop} (hp : hasPrt P f es = true)
    (h : ∃ hh, vcOf (runGo P spec L n f es ds T H hh) (reached K)) (hq : ∀ T1 H1, K T1 H1 → AtQ P f (es ++ ds) T1 H1 (After P f [] (es ++ ds) Q)) : AtQ P f es T H (After P f [] es Q) :=
  AtQ.cut hs hL hmo hp h fun T1 H1 hk => by
    have h0 : hasPrt P f [] = true := by simp [hasPrt, hasPrt_text hp, codeDown]
    have := hq T1 H1 hk
    rw [After.append (base := []) h0 (by simpa using hp)] at this
    exact this
/-- A part, and what is behind it, to the function's end. -/
def runEnd (P : Program) (spec : Spec) (L : LSpec) (n : Nat) (f : FuncId) (ds : List Nat) (T : Tr V) (H : Hp) (hh : List Bool) : Option (V × S) := match code P spec L n f ds.reverse (tmps P f) (prt P f ds) T ⟨H, hh, []⟩ with
  | some (o, T, s) => (match afterS P spec L n f (tmps P f) ds [] (txt P f) o T s with
    | some (.norm, T, s) => (match P.funcs[f]? with
      | some fn => retV P fn T s
      | none => none)
    | some (.ret, T, s) => (match P.funcs[f]? with
      | some fn => retV P fn T s
      | none => none)
    | _ => none)
  | none => none
theorem AtQ.fin (hs : SpecOk P spec) (hL : LSpecOk P L) (hmo : P.follows .mixedOrders = true) {n : Nat} {f : FuncId} {ds : List Nat} {T : Tr V} {H : Hp} {K : V → Hp → Prop} (hp : hasPrt P f ds = true)
    (h : ∃ hh, vcOf (runEnd P spec L n f ds T H hh) K) : AtQ P f ds T H (After P f [] ds (RetQ P f K)) := by
  have ht := hasPrt_text hp
  obtain ⟨hh, h⟩ := h
  obtain ⟨v, s, he, hcs, hK⟩ := h.some
  unfold runEnd at he
  split at he
  · rename_i o0 T0 s0 hx0
    obtain ⟨fn0, hf0, hb, hnt⟩ := textOf_fn ht
    obtain ⟨_, hc0⟩ := code_ok hs hL hmo n f fn0 (txt P f) ds.reverse (prt P f ds) T _ o0 T0 s0 hf0 hb (codeDown_at _ _ _ (prt_down hp)) (by rw [hnt]; exact hx0)
    have fin : ∀ (o' : Out) (T' : Tr V) (s' : S), (o' = .norm ∨ o' = .ret) → afterS P spec L n f (tmps P f) ds [] (txt P f) o0 T0 s0 = some (o', T', s') →
        (match P.funcs[f]? with | some fn => retV P fn T' s' | none => none) = some (v, s) → AtQ P f ds T H (After P f [] ds (RetQ P f K)) := by
      intro o' T' s' ho hx hr
      obtain ⟨hm2, hc⟩ := afterS_ok hs hL hmo (textOf_txt ht) ds [] (txt P f) o0 o' T0 T' _ s' rfl hx
      cases hf : P.funcs[f]? with
      | none => rw [hf] at hr; simp at hr
      | some fn =>
        rw [hf] at hr
        simp only at hr
        obtain ⟨hm, hH⟩ := retV_more hr
        obtain ⟨s'', h1, h2, h3⟩ := retV_state hr
        have hcs' : ∀ q, q ∈ s'.cs → q := fun q hq => hcs q (hm q hq)
        have hA := hc hcs' (RetQ P f K) ⟨by rcases ho with rfl | rfl <;> trivial, fn, v, s'', hf, h1, fun q hq => hcs q (h3 q hq), by rw [h2]; exact hK⟩
        have := CodeQ.ofOk (hc0 fun q hq => hcs' q (hm2 q hq)) (Q := After P f [] ds (RetQ P f K)) hA
        rw [hnt] at this
        exact this
    split at he
    · rename_i T' s' hx; exact fin _ T' s' (.inl rfl) hx he
    · rename_i T' s' hx; exact fin _ T' s' (.inr rfl) hx he
    · simp at he
  · simp at he
end Go.Ideal
