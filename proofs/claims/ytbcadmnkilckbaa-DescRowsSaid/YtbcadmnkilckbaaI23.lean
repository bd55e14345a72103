/- The ideal machine: the rules by which a function with loops is proved, each with a run that the kernel computes. Own text; nothing here is trusted. -/
import Derived.Test.YtbcadmnkilckbaaI22
namespace Go.Ideal
set_option linter.unusedSimpArgs false
set_option linter.unusedVariables false

/-! ### Texts by their places -/

def txt (P : Program) (f : FuncId) : Code := match textOf P f with
  | some (c, _) => c
  | none => .skip
def tmps (P : Program) (f : FuncId) : Nat := match textOf P f with
  | some (_, n) => n
  | none => 0
def hasText (P : Program) (f : FuncId) : Bool := match textOf P f with
  | some _ => true
  | none => false
theorem textOf_txt {P : Program} {f : FuncId} (h : hasText P f = true) : textOf P f = some (txt P f, tmps P f) := by
  unfold hasText at h
  unfold txt tmps
  cases ht : textOf P f with
  | none => rw [ht] at h; simp at h
  | some x => rfl

/-- A part of a function's text, by the turns that lead to it. -/
def prt (P : Program) (f : FuncId) (ds : List Nat) : Code := match codeDown (txt P f) ds with
  | some c => c
  | none => .skip
def hasPrt (P : Program) (f : FuncId) (ds : List Nat) : Bool := hasText P f && match codeDown (txt P f) ds with
  | some _ => true
  | none => false
def isLoop (P : Program) (f : FuncId) (ds : List Nat) : Bool := hasText P f && match codeDown (txt P f) ds with
  | some (.loop _) => true
  | _ => false

theorem codeAt_append (c : Code) : ∀ (p q : List Nat), codeAt c (p ++ q) = (codeAt c q).bind fun x => codeAt x p
  | [], q => by cases h : codeAt c q <;> simp [codeAt, h]
  | d :: p, q => by
    simp only [List.cons_append, codeAt, codeAt_append c p q]
    cases codeAt c q <;> simp [codeAt]
theorem codeDown_at : ∀ (ds : List Nat) (c c1 : Code), codeDown c ds = some c1 → codeAt c ds.reverse = some c1
  | [], c, c1, h => by simpa [codeDown, codeAt] using h
  | d :: ds, c, c1, h => by
    simp only [codeDown] at h
    cases hc : child c d with
    | none => rw [hc] at h; simp at h
    | some x =>
      rw [hc] at h
      simp only [Option.bind_some] at h
      rw [List.reverse_cons, codeAt_append]
      simp only [codeAt, Option.bind_some, hc]
      exact codeDown_at ds x c1 h
theorem codeDown_append : ∀ (ds es : List Nat) (c : Code), codeDown c (ds ++ es) = (codeDown c ds).bind fun x => codeDown x es
  | [], es, c => by simp [codeDown]
  | d :: ds, es, c => by
    simp only [List.cons_append, codeDown]
    cases child c d with
    | none => simp
    | some x => simp only [Option.bind_some]; exact codeDown_append ds es x

theorem prt_down {P : Program} {f : FuncId} {ds : List Nat} (h : hasPrt P f ds = true) : codeDown (txt P f) ds = some (prt P f ds) := by
  simp only [hasPrt, Bool.and_eq_true] at h
  unfold prt
  cases hc : codeDown (txt P f) ds with
  | none => rw [hc] at h; simp at h
  | some c => rfl
theorem isLoop_prt {P : Program} {f : FuncId} {ds : List Nat} (h : isLoop P f ds = true) : hasPrt P f ds = true ∧ hasPrt P f (ds ++ [0]) = true ∧ prt P f ds = .loop (prt P f (ds ++ [0])) := by
  simp only [isLoop, Bool.and_eq_true] at h
  cases hc : codeDown (txt P f) ds with
  | none => rw [hc] at h; simp at h
  | some c =>
    rw [hc] at h
    cases c <;> simp only [Bool.false_eq_true, and_false] at h
    rename_i b
    have h2 : codeDown (txt P f) (ds ++ [0]) = some b := by rw [codeDown_append, hc]; simp [codeDown, child]
    refine ⟨by simp [hasPrt, h, hc], by simp [hasPrt, h, h2], ?_⟩
    unfold prt
    rw [hc, h2]
theorem hasPrt_text {P : Program} {f : FuncId} {ds : List Nat} (h : hasPrt P f ds = true) : hasText P f = true := by
  simp only [hasPrt, Bool.and_eq_true] at h; exact h.1

/-! ### Judgements -/

abbrev Post := Out → Tr V → Hp → Prop

def AtQ (P : Program) (f : FuncId) (ds : List Nat) (T : Tr V) (H : Hp) (Q : Post) : Prop := CodeQ P (tmps P f) (prt P f ds) T H Q
def HeadQ (P : Program) (f : FuncId) (ds : List Nat) (T : Tr V) (H : Hp) (Q : Post) : Prop := LoopQ P (tmps P f) (prt P f (ds ++ [0])) T H Q
def After (P : Program) (f : FuncId) (base ds : List Nat) (Q : Post) : Post := AfterQ P (tmps P f) ds (prt P f base) Q

/-- A call. -/
def CallQ (P : Program) (f : FuncId) (xs : List V) (H : Hp) (K : V → Hp → Prop) : Prop :=
  ∀ (r : Rho) (w : World) (ys : Array Value), HR r H w → VRs r xs ys.toList →
    Calls P f ys w fun e w' => ∃ v H' y r', K v H' ∧ e = .returned y ∧ VR r' v y ∧ Fits r H w r' H' w'

/-- What a function's text must bring about. -/
def RetQ (P : Program) (f : FuncId) (K : V → Hp → Prop) : Post := fun o T H =>
  (match o with | .norm => True | .ret => True | .exit _ => False) ∧ ∃ fn v s', P.funcs[f]? = some fn ∧ retV P fn T ⟨H, [], []⟩ = some (v, s') ∧ (∀ q, q ∈ s'.cs → q) ∧ K v s'.H

def fewArgs (P : Program) (f : FuncId) (n : Nat) : Bool := hasText P f && Nat.ble n (tmps P f)

theorem textOf_fn {P : Program} {f : FuncId} (h : hasText P f = true) : ∃ fn, P.funcs[f]? = some fn ∧ fn.body = some (txt P f) ∧ fn.ntmps = tmps P f := textOf_ok (textOf_txt h)

section
variable {P : Program} {spec : Spec} {L : LSpec}

theorem CallQ.ofText {f : FuncId} {xs : List V} {H : Hp} {K : V → Hp → Prop} (hl : fewArgs P f xs.length = true) (h : AtQ P f [] (Tr.ofList xs) H (RetQ P f K)) : CallQ P f xs H K := by
  simp only [fewArgs, Bool.and_eq_true] at hl
  obtain ⟨fn, hf, hb, hnt⟩ := textOf_fn hl.1
  have hle : xs.length ≤ fn.ntmps := by rw [hnt]; exact Nat.le_of_ble_eq_true hl.2
  intro r w ys hH hxs
  have hsz : ys.size = xs.length := by have := VRs.length _ _ hxs; simpa using this
  have hp : prt P f [] = txt P f := rfl
  have h' : CodeQ P fn.ntmps (txt P f) (Tr.ofList xs) H (RetQ P f K) := by rw [hnt]; exact h
  refine calls_of_wp hf hb (wp_mono (h' r w _ (AR.enter hxs hle) hH) ?_)
  rintro e a' w' ⟨o, T', H', ⟨ho, fn', v, s', hf', hret, hcs, hK⟩, he, r', hA', hfit⟩
  rw [hf] at hf'
  simp only [Option.some.injEq] at hf'
  subst hf'
  obtain ⟨hm, hHeq⟩ := retV_more hret
  have hHeq : s'.H = H' := hHeq
  obtain ⟨y, hy, hv⟩ := retV_ok hret hcs hA' hfit.hr
  rw [hHeq] at hK
  cases o with
  | norm => simp only at he; subst he; exact ⟨hA'.defers, y, hy, v, H', y, r', hK, rfl, hv, hfit⟩
  | ret => simp only at he; subst he; exact ⟨hA'.defers, y, hy, v, H', y, r', hK, rfl, hv, hfit⟩
  | exit id => exact ho.elim

/-! ### Runs -/

def runCall (P : Program) (spec : Spec) (L : LSpec) (n : Nat) (f : FuncId) (xs : List V) (H : Hp) (hh : List Bool) : Option (V × S) := call P spec L n f xs ⟨H, hh, []⟩
theorem CallQ.run (hs : SpecOk P spec) (hL : LSpecOk P L) (hmo : P.follows .mixedOrders = true) {n : Nat} {f : FuncId} {xs : List V} {H : Hp} {K : V → Hp → Prop}
    (h : ∃ hh, vcOf (runCall P spec L n f xs H hh) K) : CallQ P f xs H K := by
  obtain ⟨hh, h⟩ := h
  obtain ⟨v, s, he, hcs, hK⟩ := h.some
  intro r w ys hH hxs
  refine ((call_ok hs hL hmo n f xs _ v _ he).2 hcs r w ys hH hxs).mono ?_
  rintro e w' ⟨y, r', he, hv, hf⟩
  exact ⟨v, s.H, y, r', hK, he, hv, hf⟩

def pairT (x : Option (Out × Tr V × S)) : Option ((Out × Tr V) × S) := match x with
  | some (o, T, s) => some ((o, T), s)
  | none => none
theorem pairT_some {x : Option (Out × Tr V × S)} {o : Out} {T : Tr V} {s : S} (h : pairT x = some ((o, T), s)) : x = some (o, T, s) := by
  cases x with
  | none => simp [pairT] at h
  | some x => obtain ⟨a, b, c⟩ := x; simp only [pairT, Option.some.injEq, Prod.mk.injEq] at h; obtain ⟨⟨rfl, rfl⟩, rfl⟩ := h; rfl

def runAt (P : Program) (spec : Spec) (L : LSpec) (n : Nat) (f : FuncId) (ds : List Nat) (T : Tr V) (H : Hp) (hh : List Bool) : Option ((Out × Tr V) × S) := pairT (code P spec L n f ds.reverse (tmps P f) (prt P f ds) T ⟨H, hh, []⟩)
theorem AtQ.run (hs : SpecOk P spec) (hL : LSpecOk P L) (hmo : P.follows .mixedOrders = true) {n : Nat} {f : FuncId} {ds : List Nat} {T : Tr V} {H : Hp} {Q : Post} (hp : hasPrt P f ds = true)
    (h : ∃ hh, vcOf (runAt P spec L n f ds T H hh) fun x H => Q x.1 x.2 H) : AtQ P f ds T H Q := by
  obtain ⟨hh, h⟩ := h
  obtain ⟨⟨o, T'⟩, s, he, hcs, hq⟩ := h.some
  obtain ⟨fn, hf, hb, hnt⟩ := textOf_fn (hasPrt_text hp)
  have he := pairT_some he
  obtain ⟨_, hc⟩ := code_ok hs hL hmo n f fn (txt P f) ds.reverse (prt P f ds) T _ o T' s hf hb (codeDown_at _ _ _ (prt_down hp)) (by rw [hnt]; exact he)
  have := CodeQ.ofOk (hc hcs) hq
  rw [hnt] at this
  exact this

/-- It was reached. -/
def reached (K : Tr V → Hp → Prop) : Option (Tr V) → Hp → Prop
  | some T, H => K T H
  | none, _ => False

def runGo (P : Program) (spec : Spec) (L : LSpec) (n : Nat) (f : FuncId) (base ds : List Nat) (T : Tr V) (H : Hp) (hh : List Bool) : Option (Option (Tr V) × S) := goS P spec L n f (tmps P f) ds base.reverse (prt P f base) T ⟨H, hh, []⟩

theorem down_prt {f : FuncId} {base ds : List Nat} (hp : hasPrt P f base = true) {c1 : Code} (h : codeDown (prt P f base) ds = some c1) : c1 = prt P f (base ++ ds) := by
  unfold prt
  rw [codeDown_append, prt_down hp]
  simp only [Option.bind_some, h]

theorem AtQ.go (hs : SpecOk P spec) (hL : LSpecOk P L) (hmo : P.follows .mixedOrders = true) {n : Nat} {f : FuncId} {base ds : List Nat} {T : Tr V} {H : Hp} {Q : Post} {K : Tr V → Hp → Prop} (hp : hasPrt P f base = true) (hl : isLoop P f (base ++ ds) = true)
    (h : ∃ hh, vcOf (runGo P spec L n f base ds T H hh) (reached K)) (hq : ∀ T1 H1, K T1 H1 → HeadQ P f (base ++ ds) T1 H1 (After P f base ds Q)) : AtQ P f base T H Q := by
  obtain ⟨hh, h⟩ := h
  obtain ⟨x, s, he, hcs, hK⟩ := h.some
  cases x with
  | none => exact hK.elim
  | some T' =>
  obtain ⟨_, hc⟩ := goS_ok hs hL hmo (textOf_txt (hasPrt_text hp)) ds base.reverse (prt P f base) T T' _ s (codeDown_at _ _ _ (prt_down hp)) he
  refine hc hcs Q fun c1 hc1 => ?_
  rw [down_prt hp hc1, (isLoop_prt hl).2.2]
  exact (hq _ _ hK).code

def runFrom (P : Program) (spec : Spec) (L : LSpec) (n : Nat) (f : FuncId) (base ds es : List Nat) (o : Out) (T : Tr V) (H : Hp) (hh : List Bool) : Option (Option (Tr V) × S) := fromTo P spec L n f (tmps P f) ds es base.reverse (prt P f base) o T ⟨H, hh, []⟩
theorem After.fromTo (hs : SpecOk P spec) (hL : LSpecOk P L) (hmo : P.follows .mixedOrders = true) {n : Nat} {f : FuncId} {base ds es : List Nat} {o : Out} {T : Tr V} {H : Hp} {Q : Post} {K : Tr V → Hp → Prop} (hp : hasPrt P f base = true) (hl : isLoop P f (base ++ es) = true)
    (h : ∃ hh, vcOf (runFrom P spec L n f base ds es o T H hh) (reached K)) (hq : ∀ T1 H1, K T1 H1 → HeadQ P f (base ++ es) T1 H1 (After P f base es Q)) : After P f base ds Q o T H := by
  obtain ⟨hh, h⟩ := h
  obtain ⟨x, s, he, hcs, hK⟩ := h.some
  cases x with
  | none => exact hK.elim
  | some T' =>
  obtain ⟨_, hc⟩ := fromTo_ok hs hL hmo (textOf_txt (hasPrt_text hp)) ds es base.reverse (prt P f base) o T T' _ s (codeDown_at _ _ _ (prt_down hp)) he
  refine hc hcs Q fun c1 hc1 => ?_
  rw [down_prt hp hc1, (isLoop_prt hl).2.2]
  exact (hq _ _ hK).code

def runAfter (P : Program) (spec : Spec) (L : LSpec) (n : Nat) (f : FuncId) (base ds : List Nat) (o : Out) (T : Tr V) (H : Hp) (hh : List Bool) : Option ((Out × Tr V) × S) := pairT (afterS P spec L n f (tmps P f) ds base.reverse (prt P f base) o T ⟨H, hh, []⟩)
theorem After.run (hs : SpecOk P spec) (hL : LSpecOk P L) (hmo : P.follows .mixedOrders = true) {n : Nat} {f : FuncId} {base ds : List Nat} {o : Out} {T : Tr V} {H : Hp} {Q : Post} (hp : hasPrt P f base = true)
    (h : ∃ hh, vcOf (runAfter P spec L n f base ds o T H hh) fun x H => Q x.1 x.2 H) : After P f base ds Q o T H := by
  obtain ⟨hh, h⟩ := h
  obtain ⟨⟨o', T'⟩, s, he, hcs, hK⟩ := h.some
  have he := pairT_some he
  obtain ⟨_, hc⟩ := afterS_ok hs hL hmo (textOf_txt (hasPrt_text hp)) ds base.reverse (prt P f base) o o' T T' _ s (codeDown_at _ _ _ (prt_down hp)) he
  exact hc hcs Q hK

/-- .. to the function's end. -/
def runRet (P : Program) (spec : Spec) (L : LSpec) (n : Nat) (f : FuncId) (ds : List Nat) (o : Out) (T : Tr V) (H : Hp) (hh : List Bool) : Option (V × S) := match afterS P spec L n f (tmps P f) ds [] (txt P f) o T ⟨H, hh, []⟩ with
  | some (.norm, T, s) => match P.funcs[f]? with
    | some fn => retV P fn T s
    | none => none
  | some (.ret, T, s) => match P.funcs[f]? with
    | some fn => retV P fn T s
    | none => none
  | _ => none

theorem retV_state {fn : Func} {T : Tr V} {s s' : S} {v : V} (h : retV P fn T s = some (v, s')) : ∃ s'', retV P fn T ⟨s.H, [], []⟩ = some (v, s'') ∧ s''.H = s'.H ∧ ∀ q, q ∈ s''.cs → q ∈ s'.cs := by
  unfold retV at h ⊢
  simp only at h ⊢
  split at h <;> simp only [Option.some.injEq, Prod.mk.injEq, reduceCtorEq] at h
  · rename_i u cs hr
    obtain ⟨rfl, rfl⟩ := h
    simp only [hr]
    exact ⟨_, rfl, rfl, fun q hq => by simp only [List.append_nil] at hq; exact List.mem_append_left _ hq⟩
  · rename_i vs cs hne hr
    obtain ⟨rfl, rfl⟩ := h
    simp only [hr]
    exact ⟨_, rfl, rfl, fun q hq => by simp only [List.append_nil] at hq; exact List.mem_append_left _ hq⟩

theorem After.ret (hs : SpecOk P spec) (hL : LSpecOk P L) (hmo : P.follows .mixedOrders = true) {n : Nat} {f : FuncId} {ds : List Nat} {o : Out} {T : Tr V} {H : Hp} {K : V → Hp → Prop} (ht : hasText P f = true)
    (h : ∃ hh, vcOf (runRet P spec L n f ds o T H hh) K) : After P f [] ds (RetQ P f K) o T H := by
  obtain ⟨hh, h⟩ := h
  obtain ⟨v, s, he, hcs, hK⟩ := h.some
  unfold runRet at he
  have fin : ∀ (o' : Out) (T' : Tr V) (s' : S), (o' = .norm ∨ o' = .ret) → afterS P spec L n f (tmps P f) ds [] (txt P f) o T ⟨H, hh, []⟩ = some (o', T', s') →
      (match P.funcs[f]? with | some fn => retV P fn T' s' | none => none) = some (v, s) → After P f [] ds (RetQ P f K) o T H := by
    intro o' T' s' ho hx hr
    obtain ⟨_, hc⟩ := afterS_ok hs hL hmo (textOf_txt ht) ds [] (txt P f) o o' T T' _ s' rfl hx
    cases hf : P.funcs[f]? with
    | none => rw [hf] at hr; simp at hr
    | some fn =>
      rw [hf] at hr
      simp only at hr
      obtain ⟨hm, hH⟩ := retV_more hr
      obtain ⟨s'', h1, h2, h3⟩ := retV_state hr
      refine hc (fun q hq => hcs q (hm q hq)) (RetQ P f K) ⟨?_, fn, v, s'', hf, h1, fun q hq => hcs q (h3 q hq), by rw [h2]; exact hK⟩
      rcases ho with rfl | rfl <;> trivial
  split at he
  · rename_i T' s' hx; exact fin _ T' s' (.inl rfl) hx he
  · rename_i T' s' hx; exact fin _ T' s' (.inr rfl) hx he
  · simp at he

theorem HeadQ.weak {f : FuncId} {ds : List Nat} {T T2 : Tr V} {H H2 : Hp} {Q : Post} (hw : Weak T H T2 H2) (h : HeadQ P f ds T2 H2 Q) : HeadQ P f ds T H Q := LoopQ.weak hw h
theorem HeadQ.mono {f : FuncId} {ds : List Nat} {T : Tr V} {H : Hp} {Q Q' : Post} (h : HeadQ P f ds T H Q) (hq : ∀ o T H, Q o T H → Q' o T H) : HeadQ P f ds T H Q' := LoopQ.mono h hq
theorem HeadQ.ind {f : FuncId} {ds : List Nat} {α : Type} (T : α → Tr V) (H : α → Hp) (μ : α → Nat) (I : α → Prop) (n0 : Nat) (Q : Post)
    (step : ∀ a, I a → AtQ P f (ds ++ [0]) (T a) (H a) fun o T1 H1 => ∃ l T2 H2, Dwn n0 l T1 H1 T2 H2 ∧ (match o with
      | .norm => ∃ a', I a' ∧ μ a' < μ a ∧ T2 = T a' ∧ H2 = H a'
      | o => Q o T2 H2)) (a0 : α) (h0 : I a0) (hn : (H a0).n = n0) : HeadQ P f ds (T a0) (H a0) Q := LoopQ.ind T H μ I n0 Q step a0 h0 hn

end

/-! ### Forgetting, computed -/

def Tr.ofPairs {α : Type} : List (Nat × α) → Tr α
  | [] => .nil
  | (t, a) :: as => (Tr.ofPairs as).set t (some a)
theorem Tr.ofPairs_get {α : Type} : ∀ (as : List (Nat × α)) (t : Nat) (a : α), (Tr.ofPairs as).get t = some a → (t, a) ∈ as
  | [], t, a, h => by rw [Tr.ofPairs, Tr.get_nil] at h; simp at h
  | (u, b) :: as, t, a, h => by
    rw [Tr.ofPairs, Tr.get_set] at h
    by_cases e : t = u
    · rw [if_pos e] at h
      simp only [Option.some.injEq] at h
      subst e; subst h; exact List.mem_cons_self ..
    · rw [if_neg e] at h
      exact List.mem_cons_of_mem _ (Tr.ofPairs_get as t a h)

def Tr.ofOpts {α : Type} : Nat → List (Option α) → Tr α
  | _, [] => .nil
  | i, a :: as => match a with
    | some a => (Tr.ofOpts (i + 1) as).set i (some a)
    | none => Tr.ofOpts (i + 1) as
theorem Tr.ofOpts_get {α : Type} : ∀ (as : List (Option α)) (i j : Nat) (a : α), (Tr.ofOpts i as).get j = some a → i ≤ j ∧ as[j - i]? = some (some a)
  | [], i, j, a, h => by rw [Tr.ofOpts, Tr.get_nil] at h; simp at h
  | b :: as, i, j, a, h => by
    have more : (Tr.ofOpts (i + 1) as).get j = some a → i ≤ j ∧ (b :: as)[j - i]? = some (some a) := fun h => by
      obtain ⟨h1, h2⟩ := Tr.ofOpts_get as (i + 1) j a h
      have : j - i = (j - (i + 1)) + 1 := by omega
      exact ⟨by omega, by rw [this, List.getElem?_cons_succ]; exact h2⟩
    cases b with
    | none => exact more (by simpa only [Tr.ofOpts] using h)
    | some b =>
      simp only [Tr.ofOpts] at h
      rw [Tr.get_set] at h
      by_cases e : j = i
      · rw [if_pos e] at h
        simp only [Option.some.injEq] at h
        subst e; subst h
        exact ⟨Nat.le_refl _, by simp⟩
      · rw [if_neg e] at h
        exact more h

/-- A memory by its blocks; there may be more numbers. -/
def Hm (bs : List (Option Blk)) (n : Nat) : Hp := ⟨Tr.ofOpts 0 bs, n⟩

def tmpsP (σ : Nat → Nat) (T1 : Tr V) : List (Nat × V) → Prop
  | [] => True
  | (t, u) :: us => (match T1.get t with | some x => V.leP (u.ren σ) x | none => False) ∧ tmpsP σ T1 us
def blksP (σ : Nat → Nat) (H1 : Hp) : List Nat → List (Option Blk) → Prop
  | _, [] => True
  | _ :: l, none :: bs => blksP σ H1 l bs
  | i :: l, some b :: bs => (match H1.tr.get i with | some B => Blk.leP (b.ren σ) B | none => False) ∧ blksP σ H1 l bs
  | [], _ :: _ => False

theorem tmpsP_ok {σ : Nat → Nat} {T1 : Tr V} : ∀ (ts : List (Nat × V)), tmpsP σ T1 ts → ∀ t u, (t, u) ∈ ts → ∃ x, T1.get t = some x ∧ ∀ r y, VR r x y → VR r (u.ren σ) y
  | [], _, t, u, h => by simp at h
  | (t', u') :: ts, h, t, u, hm => by
    simp only [tmpsP] at h
    rcases List.mem_cons.1 hm with e | hm
    · simp only [Prod.mk.injEq] at e
      obtain ⟨rfl, rfl⟩ := e
      cases hx : T1.get t with
      | none => rw [hx] at h; exact h.1.elim
      | some x => rw [hx] at h; exact ⟨x, rfl, fun r y => V.leP_ok _ _ _ h.1⟩
    · exact tmpsP_ok ts h.2 t u hm
theorem blksP_ok {σ : Nat → Nat} {H1 : Hp} : ∀ (bs : List (Option Blk)) (l : List Nat), blksP σ H1 l bs → ∀ j b, bs[j]? = some (some b) → j < l.length ∧ ∃ B, H1.tr.get (l.getD j 0) = some B ∧ Wk (b.ren σ) B
  | [], l, _, j, b, h => by simp at h
  | none :: bs, [], h, j, b, hj => by simp [blksP] at h
  | some _ :: bs, [], h, j, b, hj => by simp [blksP] at h
  | none :: bs, i :: l, h, j, b, hj => by
    simp only [blksP] at h
    cases j with
    | zero => simp at hj
    | succ j =>
      obtain ⟨h1, h2⟩ := blksP_ok bs l h j b (by simpa using hj)
      exact ⟨by simpa using h1, by simpa using h2⟩
  | some b' :: bs, i :: l, h, j, b, hj => by
    simp only [blksP] at h
    cases j with
    | zero =>
      simp only [List.getElem?_cons_zero, Option.some.injEq] at hj
      subst hj
      cases hx : H1.tr.get i with
      | none => rw [hx] at h; exact h.1.elim
      | some B => rw [hx] at h; exact ⟨by simp, B, by simpa using hx, Blk.leP_ok h.1⟩
    | succ j =>
      obtain ⟨h1, h2⟩ := blksP_ok bs l h.2 j b (by simpa using hj)
      exact ⟨by simpa using h1, by simpa using h2⟩

def nodupB : List Nat → Bool
  | [] => true
  | x :: l => (!(l.any fun y => Nat.beq y x)) && nodupB l
theorem nodupB_ok : ∀ (l : List Nat), nodupB l = true → l.Nodup
  | [], _ => List.nodup_nil
  | x :: l, h => by
    simp only [nodupB, Bool.and_eq_true, Bool.not_eq_true', List.any_eq_false] at h
    refine List.nodup_cons.2 ⟨fun hm => ?_, nodupB_ok l h.2⟩
    exact h.1 x hm (Nat.beq_refl x)
def sameB : Nat → Nat → List Nat → Bool
  | 0, _, _ => true
  | _ + 1, _, [] => false
  | n + 1, i, x :: l => Nat.beq x i && sameB n (i + 1) l
theorem sameB_ok : ∀ (n i : Nat) (l : List Nat), sameB n i l = true → n ≤ l.length ∧ ∀ j, j < n → l.getD j 0 = i + j
  | 0, i, l, _ => ⟨Nat.zero_le _, fun j hj => by omega⟩
  | n + 1, i, [], h => by simp [sameB] at h
  | n + 1, i, x :: l, h => by
    simp only [sameB, Bool.and_eq_true] at h
    obtain ⟨h1, h2⟩ := sameB_ok n (i + 1) l h.2
    refine ⟨by simpa using h1, fun j hj => ?_⟩
    cases j with
    | zero => simpa using Nat.eq_of_beq_eq_true h.1
    | succ j => have := h2 j (by omega); simp only [List.getD_cons_succ]; omega

/-- Between two rounds, or behind a loop. -/
def dwnP (n0 : Nat) (l : List Nat) (T1 : Tr V) (H1 : Hp) (ts : List (Nat × V)) (bs : List (Option Blk)) (n2 : Nat) : Prop :=
  if sameB n0 0 l && nodupB l && Nat.ble l.length n2 && l.all (fun i => Nat.blt i H1.n) then Nat.forced H1.n fun hn => tmpsP (place l hn) T1 ts ∧ blksP (place l hn) H1 l bs else False
theorem dwnP_ok {n0 : Nat} {l : List Nat} {T1 : Tr V} {H1 : Hp} {ts : List (Nat × V)} {bs : List (Option Blk)} {n2 : Nat} (h : dwnP n0 l T1 H1 ts bs n2) : Dwn n0 l T1 H1 (Tr.ofPairs ts) (Hm bs n2) := by
  unfold dwnP at h
  split at h
  · rename_i hc
    rw [Nat.forced_eq] at h
    simp only [Bool.and_eq_true, List.all_eq_true] at hc
    obtain ⟨⟨⟨c1, c2⟩, c3⟩, c4⟩ := hc
    obtain ⟨h1, h2⟩ := sameB_ok _ _ _ c1
    refine ⟨h1, Nat.le_of_ble_eq_true c3, fun j hj => by simpa using h2 j hj, nodupB_ok _ c2, fun i hi => Nat.le_of_ble_eq_true (c4 i hi), fun j b hj => ?_, fun t u ht => ?_⟩
    · obtain ⟨_, hg⟩ := Tr.ofOpts_get _ _ _ _ hj
      exact blksP_ok bs l h.2 j b (by simpa using hg)
    · exact tmpsP_ok ts h.1 t u (Tr.ofPairs_get _ _ _ ht)
  · exact h.elim

/-- Ahead of a loop. -/
def weakP (T1 : Tr V) (H1 : Hp) (ts : List (Nat × V)) (bs : List (Option Blk)) (n2 : Nat) : Prop :=
  if Nat.beq n2 H1.n && Nat.ble bs.length n2 then tmpsP (fun i => i) T1 ts ∧ blksP (fun i => i) H1 (List.range bs.length) bs else False

mutual
theorem V.ren_id' : ∀ v : V, v.ren (fun i => i) = v
  | .any => by simp only [V.ren]
  | .bool _ => by simp only [V.ren]
  | .int _ _ => by simp only [V.ren]
  | .str _ _ => by simp only [V.ren]
  | .nilp => by simp only [V.ren]
  | .ptr _ _ => by simp only [V.ren]
  | .nils => by simp only [V.ren]
  | .slice _ _ _ _ _ => by simp only [V.ren]
  | .nilm => by simp only [V.ren]
  | .map _ => by simp only [V.ren]
  | .nilf => by simp only [V.ren]
  | .nili => by simp only [V.ren]
  | .func _ xs ys => by simp only [V.ren, V.renL_id' xs, V.renL_id' ys]
  | .iface _ v => by simp only [V.ren, V.ren_id' v]
  | .agg vs => by simp only [V.ren, V.renL_id' vs]
  | .tuple vs => by simp only [V.ren, V.renL_id' vs]
theorem V.renL_id' : ∀ vs : List V, V.renL (fun i => i) vs = vs
  | [] => by simp only [V.renL]
  | v :: vs => by simp only [V.renL, V.ren_id' v, V.renL_id' vs]
end
theorem Blk.ren_id' (b : Blk) : b.ren (fun i => i) = b := by
  cases b with
  | own ro e f n rest => simp only [Blk.ren, V.renL_id']
  | ext f n => rfl
  | mp es => simp [Blk.ren, V.ren_id']

theorem weakP_ok {T1 : Tr V} {H1 : Hp} {ts : List (Nat × V)} {bs : List (Option Blk)} {n2 : Nat} (h : weakP T1 H1 ts bs n2) : Weak T1 H1 (Tr.ofPairs ts) (Hm bs n2) := by
  unfold weakP at h
  split at h
  · rename_i hc
    simp only [Bool.and_eq_true] at hc
    refine ⟨Nat.eq_of_beq_eq_true hc.1, fun j b hj => ?_, fun t u ht => ?_⟩
    · obtain ⟨_, hg⟩ := Tr.ofOpts_get _ _ _ _ hj
      obtain ⟨h1, B, hB, hw⟩ := blksP_ok bs _ h.2 j b (by simpa using hg)
      simp only [List.length_range] at h1
      rw [List.getD_eq_getElem?_getD, List.getElem?_range h1] at hB
      simp only [Option.getD_some] at hB
      exact ⟨B, hB, by rw [Blk.ren_id'] at hw; exact hw⟩
    · obtain ⟨x, hx, hv⟩ := tmpsP_ok ts h.1 t u (Tr.ofPairs_get _ _ _ ht)
      exact ⟨x, hx, fun r y hy => by have := hv r y hy; rwa [V.ren_id'] at this⟩
  · exact h.elim

end Go.Ideal
