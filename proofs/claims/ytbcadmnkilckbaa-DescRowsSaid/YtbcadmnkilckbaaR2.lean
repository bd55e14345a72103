/- Contracts with several shapes, of functions over values alone that may answer with new blocks. Own text; nothing here is trusted. -/
import Derived.Test.YtbcadmnkilckbaaR1
namespace Go.Ideal
open Go.Proofs Go.Ideal.L1
set_option linter.unusedSimpArgs false
set_option linter.unusedVariables false

/-- One shape: the answer, the new blocks. -/
structure Sh where
  v : V
  bs : List (Option Blk)

/-- Which of the shapes: the first whose bool holds, else the last. -/
def pickS (H : Hp) (mk : Sh → List Bool → List Prop → Option (Option (V × S))) : List (Bool × Sh) → Sh → List Bool → List Prop → Option (Option (V × S))
  | [], c, hs, cs => mk c hs cs
  | (b, c) :: cl, z, hs, cs => match hs with
    | h :: hs => match h with
      | true => mk c hs ((b = true) :: cs)
      | false => pickS H mk cl z hs ((b = false) :: cs)
    | [] => some none
def putS (H : Hp) (c : Sh) (hs : List Bool) (cs : List Prop) : Option (Option (V × S)) := Nat.forced H.n fun hn => (c.v.ren (place [] hn)).force fun v => some (some (v, ⟨graft ⟨H.tr, hn⟩ [] [] c.bs c.bs.length, hs, cs⟩))

/-- The contract: over values without addresses. -/
def spC (f : FuncId) (g : List V → Option (List (Bool × Sh) × Sh)) : Spec := fun f' xs s => if Nat.beq f' f then (if V.clearL xs then none else match g (V.untagL xs) with
  | some (cl, z) => pickS s.H (putS s.H) cl z s.hs s.cs
  | none => none) else none

/-- What is to be shown of one shape. -/
def ShOk (P : Program) (f : FuncId) (xs : List V) (c : Sh) : Prop :=
  (∀ (j : Nat) (b : Blk), c.bs[j]? = some (some b) → b.writable = true) ∧ ∃ xs0, V.plainL xs0 = true ∧ (∀ r ys, VRs r xs ys → VRs r xs0 ys) ∧ CallOk P f xs0 (St H0) c.v (St (Hm c.bs c.bs.length))

def pickP (Q : Sh → Prop) : List (Bool × Sh) → Sh → Prop
  | [], c => Q c
  | (b, c) :: cl, z => (b = true → Q c) ∧ (b = false → pickP Q cl z)

theorem putS_ok {P : Program} {f : FuncId} {xs : List V} {s s' : S} {v : V} {c : Sh} {hs : List Bool} {cs : List Prop} (h : putS s.H c hs cs = some (some (v, s'))) :
    s'.cs = cs ∧ (ShOk P f xs c → CallOk P f xs s v s') := by
  unfold putS at h
  rw [Nat.forced_eq, V.force_eq] at h
  simp only [Option.some.injEq, Prod.mk.injEq] at h
  obtain ⟨rfl, rfl⟩ := h
  refine ⟨rfl, fun hok => ?_⟩
  obtain ⟨hw, xs0, hp, ha, hc⟩ := hok
  have hf : Frm [] s.H H0 := ⟨rfl, by simp, by simp, fun j b hb => by simp [H0, Tr.get_nil] at hb⟩
  have ha2 := graft_aft (H := s.H) (Hs := H0) (l := []) (up := []) (bs := c.bs) (n2 := c.bs.length) (by simp) (by simp) (by simp) (by simp) (Nat.le_refl _) (fun j b hj hb => by simp [H0, Tr.get_nil] at hb) (fun j b _ hb => hw j b hb)
  exact CallOk.frame (v' := c.v.ren (place [] s.H.n)) hc hf ha2 (fun r ys hy => by rw [V.renL_plain _ _ hp]; exact ha r ys hy) (fun r y hy => hy)

theorem pickS_ok {P : Program} {f : FuncId} {xs : List V} {s s' : S} {v : V} : ∀ (cl : List (Bool × Sh)) (z : Sh) (hs : List Bool) (cs : List Prop), pickS s.H (putS s.H) cl z hs cs = some (some (v, s')) →
    More cs s'.cs ∧ ((∀ q, q ∈ s'.cs → q) → pickP (ShOk P f xs) cl z → CallOk P f xs s v s')
  | [], z, hs, cs, h => by
    have := putS_ok (P := P) (f := f) (xs := xs) h
    exact ⟨by rw [this.1]; exact More.refl _, fun _ hp => this.2 hp⟩
  | (b, c) :: cl, z, hs, cs, h => by
    unfold pickS at h
    split at h
    · split at h
      · have := putS_ok (P := P) (f := f) (xs := xs) h
        refine ⟨by rw [this.1]; exact More.cons _ _, fun hq hp => this.2 (hp.1 (hq _ ?_))⟩
        rw [this.1]; exact List.mem_cons_self ..
      · have ih := pickS_ok (P := P) (f := f) (xs := xs) cl z _ _ h
        exact ⟨(More.cons _ _).trans ih.1, fun hq hp => ih.2 hq (hp.2 (hq _ (ih.1 _ (List.mem_cons_self ..))))⟩
    · simp at h

theorem spC_ok {P : Program} {f : FuncId} {g : List V → Option (List (Bool × Sh) × Sh)} (h : ∀ xs cl z, g xs = some (cl, z) → pickP (ShOk P f xs) cl z) : SpecOk P (spC f g) := by
  intro f' xs s v s' hs
  unfold spC at hs
  split at hs
  · rename_i e
    have e := Nat.eq_of_beq_eq_true e
    subst e
    split at hs
    · simp at hs
    · split at hs
      · rename_i cl z hg
        have := pickS_ok (P := P) (f := f') (xs := xs) cl z _ _ hs
        refine ⟨this.1, fun hq => this.2 hq ?_⟩
        have key : ∀ cl, pickP (ShOk P f' (V.untagL xs)) cl z → pickP (ShOk P f' xs) cl z := by
          have one : ∀ c, ShOk P f' (V.untagL xs) c → ShOk P f' xs c := fun c hc => by
            obtain ⟨hw, xs0, hp, ha, hc⟩ := hc
            exact ⟨hw, xs0, hp, fun r ys hy => ha r ys (V.untagL_ok xs ys hy), hc⟩
          intro cl
          induction cl with
          | nil => exact one _
          | cons a cl ih => exact fun hp => ⟨fun hb => one _ (hp.1 hb), fun hb => ih (hp.2 hb)⟩
        exact key cl (h _ cl z hg)
      · simp at hs
  · simp at hs

/-- The block behind an answer's last slice. -/
def lastBlk : V → List Nat
  | .tuple (.agg vs :: _) => match vs.getLast? with
    | some (.slice b _ _ _ _) => [b]
    | _ => []
  | _ => []
theorem callKeepL (lf : V → List Nat) {f : FuncId} {xs : List V} {H : Hp} {v2 : V} {bs : List (Option Blk)} {n2 : Nat} {spec : Spec} (hs : SpecOk Try.prog spec) {n : Nat} (h : ∃ hh, vcOf (runCall Try.prog spec noL n f xs H hh) fun v H' => retP H.n (lf v) v H' v2 bs n2) : CallOk Try.prog f xs (St H) v2 (St (Hm bs n2)) := by
  obtain ⟨hh, hb⟩ := h
  exact CallQ.keep (CallQ.run hs noL_ok mixed ⟨hh, vcOf_mono hb fun v H' hv => ⟨_, hv⟩⟩)

/-- One shape, by a run. -/
theorem ShOk.run {f : FuncId} {xs xs0 : List V} {v : V} {bs : List (Option Blk)} (lf : V → List Nat) {spec : Spec} (hs : SpecOk Try.prog spec) {n : Nat} (hw : ∀ (j : Nat) (b : Blk), bs[j]? = some (some b) → b.writable = true) (hp : V.plainL xs0 = true) (ha : ∀ r ys, VRs r xs ys → VRs r xs0 ys)
    (h : ∃ hh, vcOf (runCall Try.prog spec noL n f xs0 H0 hh) fun u H' => retP 0 (lf u) u H' v bs bs.length) : ShOk Try.prog f xs ⟨v, bs⟩ :=
  ⟨hw, xs0, hp, ha, callKeepL lf hs h⟩
end Go.Ideal
