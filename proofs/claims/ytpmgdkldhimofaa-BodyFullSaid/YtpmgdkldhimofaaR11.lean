/- Two loops within a part; a loop whose rounds may return. Own text; nothing here is trusted. -/
import Derived.Test.YtpmgdkldhimofaaR10
namespace Go.Ideal
open Go.Proofs Go.Ideal.L1
set_option linter.unusedSimpArgs false
set_option linter.unusedVariables false

theorem AtQ.loop2 {P : Program} {spec : Spec} (hs : SpecOk P spec) (hmo : P.follows .mixedOrders = true) {f : FuncId} {base ds es : List Nat} {T0 : Tr V} {H0' : Hp} {Q : Post} {n : Nat} {α β : Type}
    (T1 : α → List (Nat × V)) (B1 : α → List (Option Blk)) (n1 : Nat) (l1 : List Nat) (μ1 : α → Nat) (I1 : α → Prop) (next1 : α → α) (c1 : α → Prop) (id1 : Nat) (tx1 : α → List (Nat × V)) (bx1 : α → List (Option Blk)) (fin1 : α → Prop)
    (T2 : β → List (Nat × V)) (B2 : β → List (Option Blk)) (n2 : Nat) (l2 : List Nat) (μ2 : β → Nat) (I2 : β → Prop) (next2 : β → β) (c2 : β → Prop) (id2 : Nat) (tx2 : β → List (Nat × V)) (bx2 : β → List (Option Blk)) (fin2 : β → Prop)
    (hp : hasPrt P f base = true) (hl1 : isLoop P f (base ++ ds) = true) (hl2 : isLoop P f (base ++ es) = true)
    (a0 : α) (h0 : I1 a0) (go : ∃ hh, vcOf (runGo P spec noL n f base ds T0 H0' hh) (reached fun U1 H1 => weakP U1 H1 (T1 a0) (B1 a0) n1))
    (body1 : ∀ a, I1 a → ∃ hh, vcOf (runAt P spec noL n f (base ++ ds ++ [0]) (Tr.ofPairs (T1 a)) (Hm (B1 a) n1) hh) (roundK n1 l1 (T1 (next1 a)) (B1 (next1 a)) (c1 a) id1 (tx1 a) (bx1 a) (fin1 a)))
    (hI1 : ∀ a, I1 a → c1 a → I1 (next1 a) ∧ μ1 (next1 a) < μ1 a)
    (mid : ∀ a, I1 a → fin1 a → ∃ b, I2 b ∧ ∃ hh, vcOf (runFrom P spec noL n f base ds es (.exit id1) (Tr.ofPairs (tx1 a)) (Hm (bx1 a) n1) hh) (reached fun U1 H1 => weakP U1 H1 (T2 b) (B2 b) n2))
    (body2 : ∀ b, I2 b → ∃ hh, vcOf (runAt P spec noL n f (base ++ es ++ [0]) (Tr.ofPairs (T2 b)) (Hm (B2 b) n2) hh) (roundK n2 l2 (T2 (next2 b)) (B2 (next2 b)) (c2 b) id2 (tx2 b) (bx2 b) (fin2 b)))
    (hI2 : ∀ b, I2 b → c2 b → I2 (next2 b) ∧ μ2 (next2 b) < μ2 b)
    (hx : ∀ b, I2 b → fin2 b → ∃ hh, vcOf (runAfter P spec noL n f base es (.exit id2) (Tr.ofPairs (tx2 b)) (Hm (bx2 b) n2) hh) fun x H => Q x.1 x.2 H) : AtQ P f base T0 H0' Q := by
  refine AtQ.go hs noL_ok hmo hp hl1 go fun U1 H1 hw => HeadQ.weak (weakP_ok hw) ?_
  refine HeadQ.round1 hs hmo T1 B1 n1 l1 μ1 I1 next1 c1 id1 tx1 bx1 fin1 (isLoop_prt hl1).2.1 body1 hI1 a0 h0 _ fun a ha hfa => ?_
  obtain ⟨b, hb, hm⟩ := mid a ha hfa
  refine After.fromTo hs noL_ok hmo hp hl2 hm fun U1 H1 hw => HeadQ.weak (weakP_ok hw) ?_
  exact HeadQ.round1 hs hmo T2 B2 n2 l2 μ2 I2 next2 c2 id2 tx2 bx2 fin2 (isLoop_prt hl2).2.1 body2 hI2 b hb _ fun b' hb' hfb => After.run hs noL_ok hmo hp (hx b' hb' hfb)
/-- A loop by its rounds, each of them any part; a round may return. -/
def roundR {α : Type} (T : α → List (Nat × V)) (B : α → List (Option Blk)) (n2 : Nat) (l : List Nat) (μ : α → Nat) (I J : α → Prop) (id : Nat) (tr : List (Nat × V)) (br : List (Option Blk)) (a : α) : Post := fun o T1 H1 => match o with
  | .norm => ∃ a', I a' ∧ μ a' < μ a ∧ dwnP n2 l T1 H1 (T a') (B a') n2
  | .exit k => k = id ∧ ∃ a', J a' ∧ dwnP n2 l T1 H1 (T a') (B a') n2
  | .ret => dwnP n2 l T1 H1 tr br n2
theorem CallQ.loopR {P : Program} {spec : Spec} (hs : SpecOk P spec) (hmo : P.follows .mixedOrders = true) {f : FuncId} {xs : List V} {H : Hp} {K : V → Hp → Prop} {ds : List Nat} {n : Nat} {α : Type} (T : α → List (Nat × V)) (B : α → List (Option Blk)) (n2 : Nat) (l : List Nat) (μ : α → Nat) (I J : α → Prop) (id : Nat) (tr : List (Nat × V)) (br : List (Option Blk))
    (hf : fewArgs P f xs.length = true) (hl : isLoop P f ds = true)
    (a0 : α) (h0 : I a0) (go : ∃ hh, vcOf (runGo P spec noL n f [] ds (Tr.ofList xs) H hh) (reached fun T1 H1 => weakP T1 H1 (T a0) (B a0) n2))
    (body : ∀ a, I a → AtQ P f (ds ++ [0]) (Tr.ofPairs (T a)) (Hm (B a) n2) (roundR T B n2 l μ I J id tr br a))
    (hx : ∀ a, J a → ∃ hh, vcOf (runRet P spec noL n f ds (.exit id) (Tr.ofPairs (T a)) (Hm (B a) n2) hh) K)
    (hr : ∃ hh, vcOf (runRet P spec noL n f ds .ret (Tr.ofPairs tr) (Hm br n2) hh) K) : CallQ P f xs H K := by
  have ht : hasText P f = true := hasPrt_text (isLoop_prt hl).1
  refine CallQ.ofText hf (AtQ.go hs noL_ok hmo (by simp [hasPrt, ht, codeDown]) hl go fun T1 H1 hw => HeadQ.weak (weakP_ok hw) ?_)
  refine HeadQ.ind (fun a => Tr.ofPairs (T a)) (fun a => Hm (B a) n2) μ I n2 _ (fun a ha => ?_) a0 h0 rfl
  refine CodeQ.mono (body a ha) fun o T1 H1 hq => ?_
  cases o with
  | norm =>
    obtain ⟨a', h1, h2, h3⟩ := hq
    exact ⟨l, _, _, dwnP_ok h3, a', h1, h2, rfl, rfl⟩
  | exit k =>
    obtain ⟨rfl, a', h1, h3⟩ := hq
    exact ⟨l, _, _, dwnP_ok h3, After.ret hs noL_ok hmo ht (hx a' h1)⟩
  | ret => exact ⟨l, _, _, dwnP_ok hq, After.ret hs noL_ok hmo ht hr⟩
end Go.Ideal
