/- Contracts with several shapes, of functions that turn a few blocks. Own text; nothing here is trusted. -/
import Derived.Test.YtpmgdkldhimofaaR2
import Derived.Test.YtpmgdkldhimofaaR7
namespace Go.Ideal
open Go.Proofs Go.Ideal.L1
set_option linter.unusedSimpArgs false
set_option linter.unusedVariables false

def putG (H : Hp) (c : Ct) (hs : List Bool) (cs : List Prop) : Option (Option (V × S)) := Nat.forced H.n fun hn => (c.v.ren (place c.l hn)).force fun v => some (some (v, ⟨graft ⟨H.tr, hn⟩ c.l c.up c.bs c.n2, hs, c.cs ++ cs⟩))
def pickG (H : Hp) : List (Bool × Ct) → Ct → List Bool → List Prop → Option (Option (V × S))
  | [], c, hs, cs => putG H c hs cs
  | (b, c) :: cl, z, hs, cs => match hs with
    | h :: hs => match h with
      | true => putG H c hs ((b = true) :: cs)
      | false => pickG H cl z hs ((b = false) :: cs)
    | [] => some none
/-- A contract with several shapes. -/
def spN (f : FuncId) (g : List V → Hp → Option (List (Bool × Ct) × Ct)) : Spec := fun f' xs s => if Nat.beq f' f then (match g xs s.H with
  | some (cl, z) => pickG s.H cl z s.hs s.cs
  | none => none) else none

def GOk (P : Program) (f : FuncId) (xs : List V) (H : Hp) (c : Ct) : Prop := (∀ q, q ∈ c.cs → q) → ∃ xs0 bs0, CtOk P f xs H c xs0 bs0
def pickGP (Q : Ct → Prop) : List (Bool × Ct) → Ct → Prop
  | [], c => Q c
  | (b, c) :: cl, z => (b = true → Q c) ∧ (b = false → pickGP Q cl z)

theorem putG_ok {P : Program} {f : FuncId} {xs : List V} {s s' : S} {v : V} {c : Ct} {hs : List Bool} {cs : List Prop} (h : putG s.H c hs cs = some (some (v, s'))) :
    s'.cs = c.cs ++ cs ∧ ((∀ q, q ∈ c.cs → q) → (∃ xs0 bs0, CtOk P f xs s.H c xs0 bs0) → CallOk P f xs s v s') := by
  unfold putG at h
  rw [Nat.forced_eq, V.force_eq] at h
  simp only [Option.some.injEq, Prod.mk.injEq] at h
  obtain ⟨rfl, rfl⟩ := h
  refine ⟨rfl, fun hq hok => ?_⟩
  obtain ⟨xs0, bs0, ok⟩ := hok
  exact ok.callOk s.hs hs s.cs _

theorem pickG_ok {P : Program} {f : FuncId} {xs : List V} {s s' : S} {v : V} : ∀ (cl : List (Bool × Ct)) (z : Ct) (hs : List Bool) (cs : List Prop), pickG s.H cl z hs cs = some (some (v, s')) →
    More cs s'.cs ∧ ((∀ q, q ∈ s'.cs → q) → pickGP (GOk P f xs s.H) cl z → CallOk P f xs s v s')
  | [], z, hs, cs, h => by
    have := putG_ok (P := P) (f := f) (xs := xs) h
    exact ⟨by rw [this.1]; exact fun q hq => List.mem_append_right _ hq, fun hq hp => by
      have hqc : ∀ q, q ∈ z.cs → q := fun q hq' => hq q (by rw [this.1]; exact List.mem_append_left _ hq')
      exact this.2 hqc (hp hqc)⟩
  | (b, c) :: cl, z, hs, cs, h => by
    unfold pickG at h
    split at h
    · split at h
      · have := putG_ok (P := P) (f := f) (xs := xs) h
        refine ⟨by rw [this.1]; exact fun q hq => List.mem_append_right _ (List.mem_cons_of_mem _ hq), fun hq hp => ?_⟩
        have hqc : ∀ q, q ∈ c.cs → q := fun q hq' => hq q (by rw [this.1]; exact List.mem_append_left _ hq')
        have hb : b = true := hq _ (by rw [this.1]; exact List.mem_append_right _ (List.mem_cons_self ..))
        exact this.2 hqc (hp.1 hb hqc)
      · have ih := pickG_ok (P := P) (f := f) (xs := xs) cl z _ _ h
        exact ⟨(More.cons _ _).trans ih.1, fun hq hp => ih.2 hq (hp.2 (hq _ (ih.1 _ (List.mem_cons_self ..))))⟩
    · simp at h

theorem spN_ok {P : Program} {f : FuncId} {g : List V → Hp → Option (List (Bool × Ct) × Ct)} (h : ∀ xs H cl z, g xs H = some (cl, z) → (∀ i B, H.tr.get i = some B → i < H.n) → pickGP (GOk P f xs H) cl z) : SpecOk P (spN f g) := by
  intro f' xs s v s' hs
  unfold spN at hs
  split at hs
  · rename_i e
    have e := Nat.eq_of_beq_eq_true e
    subst e
    split at hs
    · rename_i cl z hg
      have := pickG_ok (P := P) (f := f') (xs := xs) cl z _ _ hs
      refine ⟨this.1, fun hq r w ys hH hxs => this.2 hq (h _ _ cl z hg fun i B hB => hH.bound i B hB) r w ys hH hxs⟩
    · simp at hs
  · simp at hs
end Go.Ideal
