/- A loop within a part of a text. Own text; nothing here is trusted. -/
import Derived.Test.YtpmgdkldhimofaaR1
namespace Go.Ideal
open Go.Proofs Go.Ideal.L1
set_option linter.unusedSimpArgs false
set_option linter.unusedVariables false

/-- A part with one loop in it: to the loop, round by round, on to the part's end. -/
theorem AtQ.loop1 {P : Program} {spec : Spec} (hs : SpecOk P spec) (hmo : P.follows .mixedOrders = true) {f : FuncId} {base ds : List Nat} {T0 : Tr V} {H0' : Hp} {Q : Post} {n : Nat} {α : Type}
    (T : α → List (Nat × V)) (B : α → List (Option Blk)) (n2 : Nat) (l : List Nat) (μ : α → Nat) (I : α → Prop) (next : α → α) (c : α → Prop) (id : Nat) (tx : α → List (Nat × V)) (bx : α → List (Option Blk)) (fin : α → Prop)
    (hp : hasPrt P f base = true) (hl : isLoop P f (base ++ ds) = true) (a0 : α) (h0 : I a0)
    (go : ∃ hh, vcOf (runGo P spec noL n f base ds T0 H0' hh) (reached fun T1 H1 => weakP T1 H1 (T a0) (B a0) n2))
    (body : ∀ a, I a → ∃ hh, vcOf (runAt P spec noL n f (base ++ ds ++ [0]) (Tr.ofPairs (T a)) (Hm (B a) n2) hh) (roundK n2 l (T (next a)) (B (next a)) (c a) id (tx a) (bx a) (fin a)))
    (hI : ∀ a, I a → c a → I (next a) ∧ μ (next a) < μ a)
    (hx : ∀ a, I a → fin a → ∃ hh, vcOf (runAfter P spec noL n f base ds (.exit id) (Tr.ofPairs (tx a)) (Hm (bx a) n2) hh) fun x H => Q x.1 x.2 H) : AtQ P f base T0 H0' Q := by
  refine AtQ.go hs noL_ok hmo hp hl go fun T1 H1 hw => HeadQ.weak (weakP_ok hw) ?_
  exact HeadQ.round1 hs hmo T B n2 l μ I next c id tx bx fin (isLoop_prt hl).2.1 body hI a0 h0 _ fun a ha hf => After.run hs noL_ok hmo hp (hx a ha hf)
/-- A loop by its rounds, each of them any part. -/
theorem CallQ.loopA {P : Program} {spec : Spec} (hs : SpecOk P spec) (hmo : P.follows .mixedOrders = true) {f : FuncId} {xs : List V} {H : Hp} {K : V → Hp → Prop} {ds : List Nat} {n : Nat} {α : Type} (T : α → List (Nat × V)) (B : α → List (Option Blk)) (n2 : Nat) (l : List Nat) (μ : α → Nat) (I : α → Prop) (id : Nat)
    (hf : fewArgs P f xs.length = true) (hl : isLoop P f ds = true)
    (a0 : α) (h0 : I a0) (go : ∃ hh, vcOf (runGo P spec noL n f [] ds (Tr.ofList xs) H hh) (reached fun T1 H1 => weakP T1 H1 (T a0) (B a0) n2))
    (body : ∀ a, I a → AtQ P f (ds ++ [0]) (Tr.ofPairs (T a)) (Hm (B a) n2) fun o T1 H1 => match o with
      | .norm => ∃ a', I a' ∧ μ a' < μ a ∧ dwnP n2 l T1 H1 (T a') (B a') n2
      | .exit k => k = id ∧ ∃ a', I a' ∧ dwnP n2 l T1 H1 (T a') (B a') n2
      | .ret => False)
    (hx : ∀ a, I a → ∃ hh, vcOf (runRet P spec noL n f ds (.exit id) (Tr.ofPairs (T a)) (Hm (B a) n2) hh) K) : CallQ P f xs H K := by
  have ht : hasText P f = true := hasPrt_text (isLoop_prt hl).1
  refine CallQ.ofText hf (AtQ.go hs noL_ok hmo (by simp [hasPrt, ht, codeDown]) hl go fun T1 H1 hw => HeadQ.weak (weakP_ok hw) ?_)
  refine HeadQ.ind (fun a => Tr.ofPairs (T a)) (fun a => Hm (B a) n2) μ I n2 _ (fun a ha => ?_) a0 h0 rfl
  refine CodeQ.mono (body a ha) fun o T1 H1 hq => ?_
  cases o with
  | norm =>
    obtain ⟨a', h1, h2, h3⟩ := hq
    exact ⟨l, _, _, dwnP_ok h3, a', h1, h2, rfl, rfl⟩
  | exit k =>
    obtain ⟨rfl, a', h1, h3⟩ := hq
    exact ⟨l, _, _, dwnP_ok h3, After.ret hs noL_ok hmo ht (hx a' h1)⟩
  | ret => exact hq.elim
end Go.Ideal
