/- The ideal machine: rows of whole numbers that a call only reads. Own text; nothing here is trusted. -/
import Derived.Test.YtbcadmnkilckbaaI19
namespace Go.Ideal
set_option linter.unusedSimpArgs false
set_option linter.unusedVariables false

/-- The whole numbers at a block's head. -/
def Blk.row : Blk → Option ((Nat → Int) × N)
  | .own ro e f n rest => match (Blk.own ro e f n rest).flatS with
    | .own _ _ f n _ => some (f, .c n)
    | _ => none
  | .ext f n => some (f, n)
  | .mp _ => none

theorem Blk.row_ok {b : Blk} {f : Nat → Int} {n : N} (h : b.row = some (f, n)) : Wk (.ext f n) b := by
  refine ⟨fun r w p hb => ?_, by simp [Blk.writable], by simp [Blk.isOwn], fun ht => ?_⟩
  · cases b with
    | own ro e g m rest =>
      have hfl := hb.flatS
      obtain ⟨f', n', rest', he⟩ := Blk.flatS_own ro e g m rest
      simp only [Blk.row, he, Option.some.injEq, Prod.mk.injEq] at h
      obtain ⟨rfl, rfl⟩ := h
      rw [he] at hfl
      obtain ⟨c, hc, hsh, _, _, h4, _⟩ := hfl
      intro o ho
      rw [hsh, Nat.zero_add, cell_of_row w p.blk o c _ (0, 0) hc]
      exact h4 o ho
    | ext g m =>
      simp only [Blk.row, Option.some.injEq, Prod.mk.injEq] at h
      obtain ⟨rfl, rfl⟩ := h
      exact hb
    | mp es => simp [Blk.row] at h
  · cases b with
    | own ro e g m rest => trivial
    | ext g m =>
      simp only [Blk.row, Option.some.injEq, Prod.mk.injEq] at h
      obtain ⟨rfl, rfl⟩ := h
      exact ht
    | mp es => trivial

theorem Blk.row_s {b : Blk} {f : Nat → Int} {n : N} (h : b.row = some (f, n)) : Wk (.ext f (.s n.val)) b :=
  have k : Wk (.ext f (.s n.val)) (.ext f n) := ⟨fun _ _ _ hb => hb, by simp [Blk.writable], by simp [Blk.isOwn], fun ht => ht⟩
  k.trans (Blk.row_ok h)

section
variable {P : Program}

/-- A call that only reads one row holds over each memory that has the row. -/
theorem CallOk.readRow {f : FuncId} {xs xs' : List V} {v v' : V} {g : Nat → Int} {n : N} {b : Nat} {B : Blk} {H : Hp} {s' : S} (h : CallOk P f xs (St (Hx [.ext g n])) v s') (hv : v.plain = true) (hB : H.tr.get b = some B) (hw : Wk (.ext g n) B)
    (hx : ∀ r ys, VRs r xs' ys → VRs r (V.renL (place [b] H.n) xs) ys) (hv' : ∀ r y, VR r v y → VR r v' y) (hs hs' : List Bool) (cs cs' : List Prop) : CallOk P f xs' ⟨H, hs, cs⟩ v' ⟨H, hs', cs'⟩ := by
  intro r w ys hH hxs
  have hb : b < H.n := hH.bound b B hB
  have h0 := h.forgetRo hv fun i c hc => by
    rw [Hx_get] at hc
    cases i with
    | zero => simp only [List.getElem?_cons_zero, Option.some.injEq] at hc; subst hc; rfl
    | succ i => simp at hc
  have hf : Frm [b] H (St (Hx [.ext g n])).H := ⟨rfl, by simp, fun i hi => by simp at hi; exact hi ▸ hb, fun j c hc => by
    have hc : (Hx [.ext g n]).tr.get j = some c := hc
    rw [Hx_get] at hc
    cases j with
    | zero =>
      simp only [List.getElem?_cons_zero, Option.some.injEq] at hc
      subst hc
      exact ⟨by simp, B, hB, hw⟩
    | succ j => simp at hc⟩
  have ha : Aft [b] [] H (St (Hx [.ext g n])).H (St (Hx [.ext g n])).H H := by
    refine ⟨Nat.le_refl _, rfl, fun j c _ hc => ?_, fun j c hj hc => ?_, fun i c hc => .inr ⟨fun j _ => by simp, hc⟩⟩
    · have hc : (Hx [.ext g n]).tr.get j = some c := hc
      rw [Hx_get] at hc
      cases j with
      | zero => simp only [List.getElem?_cons_zero, Option.some.injEq] at hc; subst hc; rfl
      | succ j => simp at hc
    · have hc : (Hx [.ext g n]).tr.get j = some c := hc
      rw [Hx_get] at hc
      rcases hj with hj | hj
      · simp at hj
      · cases j with
        | zero => simp at hj
        | succ j => simp at hc
  exact (CallOk.frame h0 hf ha hx (fun r y hy => by rw [V.ren_plain _ _ hv] at hy; exact hv' r y hy)) r w ys hH hxs

/-- A contract that looks into the memory and leaves it; what must hold is told too. -/
def spR (f : FuncId) (g : List V → Hp → Option (V × List Prop)) : Spec := fun f' xs s => if Nat.beq f' f then (g xs s.H).map (fun p => some (p.1, ⟨s.H, s.hs, p.2 ++ s.cs⟩)) else none

theorem spR_ok {f : FuncId} {g : List V → Hp → Option (V × List Prop)} (h : ∀ xs H v ds, g xs H = some (v, ds) → (∀ q, q ∈ ds → q) → ∀ hs hs' cs cs', CallOk P f xs ⟨H, hs, cs⟩ v ⟨H, hs', cs'⟩) : SpecOk P (spR f g) := by
  intro f' xs s v s' hs
  unfold spR at hs
  split at hs
  · rename_i e
    have e := Nat.eq_of_beq_eq_true e
    subst e
    cases hg : g xs s.H with
    | none => rw [hg] at hs; simp at hs
    | some u =>
      rw [hg] at hs
      simp only [Option.map_some, Option.some.injEq, Prod.mk.injEq] at hs
      obtain ⟨rfl, rfl⟩ := hs
      exact ⟨More.append _ _, fun hq => h xs s.H u.1 u.2 hg (fun q hq' => hq q (List.mem_append_left _ hq')) s.hs s.hs s.cs _⟩
  · simp at hs

end
end Go.Ideal
