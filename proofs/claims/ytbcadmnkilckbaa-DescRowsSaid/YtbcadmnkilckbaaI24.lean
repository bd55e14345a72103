/- The ideal machine: contracts of functions over values alone, laws. Own text; nothing here is trusted. -/
import Derived.Test.YtbcadmnkilckbaaI23
namespace Go.Ideal
set_option linter.unusedSimpArgs false
set_option linter.unusedVariables false

/-! ### Nothing known -/

mutual
def V.untag : V → V
  | .bool b => .bool (.s b.val)
  | .int k e => .int k (.s e.val)
  | .agg vs => .agg (V.untagL vs)
  | .tuple vs => .tuple (V.untagL vs)
  | .iface t v => .iface t v.untag
  | v => v
def V.untagL : List V → List V
  | [] => []
  | v :: vs => v.untag :: V.untagL vs
end

mutual
theorem V.untag_ok {r : Rho} : ∀ (v : V) (y : Value), VR r v y → VR r v.untag y
  | .any, _, h => by simp only [V.untag]; exact h
  | .bool _, _, h => by simp only [V.untag, VR, B.val] at h ⊢; exact h
  | .int _ _, _, h => by simp only [V.untag, VR, E.val] at h ⊢; exact h
  | .str _ _, _, h => by simp only [V.untag]; exact h
  | .nilp, _, h => by simp only [V.untag]; exact h
  | .ptr _ _, _, h => by simp only [V.untag]; exact h
  | .nils, _, h => by simp only [V.untag]; exact h
  | .slice _ _ _ _ _, _, h => by simp only [V.untag]; exact h
  | .nilm, _, h => by simp only [V.untag]; exact h
  | .map _, _, h => by simp only [V.untag]; exact h
  | .nilf, _, h => by simp only [V.untag]; exact h
  | .func _ _ _, _, h => by simp only [V.untag]; exact h
  | .nili, _, h => by simp only [V.untag]; exact h
  | .iface _ v, _, h => by
    simp only [V.untag, VR] at h ⊢
    obtain ⟨z, e, h1⟩ := h
    exact ⟨z, e, V.untag_ok v z h1⟩
  | .agg vs, _, h => by
    simp only [V.untag, VR] at h ⊢
    obtain ⟨z, e, h1⟩ := h
    exact ⟨z, e, V.untagL_ok vs z h1⟩
  | .tuple vs, _, h => by
    simp only [V.untag, VR] at h ⊢
    obtain ⟨z, e, h1⟩ := h
    exact ⟨z, e, V.untagL_ok vs z h1⟩
theorem V.untagL_ok {r : Rho} : ∀ (vs : List V) (ys : List Value), VRs r vs ys → VRs r (V.untagL vs) ys
  | [], _, h => by simp only [V.untagL]; exact h
  | v :: vs, _, h => by
    simp only [V.untagL, VRs] at h ⊢
    obtain ⟨z, zs, e, h1, h2⟩ := h
    exact ⟨z, zs, e, V.untag_ok v z h1, V.untagL_ok vs zs h2⟩
end

mutual
/-- Is all of it known? -/
def V.clear : V → Bool
  | .bool (.s _) => false
  | .int _ (.s _) => false
  | .agg vs => V.clearL vs
  | .tuple vs => V.clearL vs
  | .iface _ v => v.clear
  | _ => true
def V.clearL : List V → Bool
  | [] => true
  | v :: vs => v.clear && V.clearL vs
end

section
variable {P : Program}

/-- A contract over values alone; where all is known the text itself is run. -/
def spU (f : FuncId) (g : List V → Option V) : Spec := fun f' xs s => if Nat.beq f' f then (if V.clearL xs then none else (g (V.untagL xs)).map (fun v => some (v, s))) else none

theorem spU_ok {f : FuncId} {g : List V → Option V} (h : ∀ xs v, g xs = some v → V.plainL xs = true ∧ v.plain = true ∧ CallOk P f xs (St H0) v (St H0)) : SpecOk P (spU f g) := by
  intro f' xs s v s' hs
  unfold spU at hs
  split at hs
  · rename_i e
    have e := Nat.eq_of_beq_eq_true e
    subst e
    split at hs
    · simp at hs
    · cases hg : g (V.untagL xs) with
      | none => rw [hg] at hs; simp at hs
      | some u =>
        rw [hg] at hs
        simp only [Option.map_some, Option.some.injEq, Prod.mk.injEq] at hs
        obtain ⟨rfl, rfl⟩ := hs
        obtain ⟨h1, h2, h3⟩ := h _ u hg
        exact ⟨More.refl _, fun _ => CallOk.anyHp h3 h1 h2 (fun r ys hy => V.untagL_ok xs ys hy) (fun r y hy => hy) s.H s.hs s.hs s.cs s.cs⟩
  · simp at hs

/-- What a call over no memory answers, as a contract. -/
theorem CallQ.ok {f : FuncId} {xs : List V} {v : V} (h : CallQ P f xs H0 fun u _ => V.leP v u) (hv : v.plain = true) : CallOk P f xs (St H0) v (St H0) := by
  intro r w ys hH hxs
  refine (h r w ys hH hxs).mono ?_
  rintro e w' ⟨u, H', y, r', hle, he, hvr, hf⟩
  have hno : ∀ k, ¬ Mine r H0 k := fun k ⟨i, b, hb, _⟩ => by simp [H0, Tr.get_nil] at hb
  exact ⟨y, r, he, (V.leP_ok v u y hle hvr).plain hv, Ext.refl _, hH.kept hf.kept fun i b _ _ => hno _, hf.kept, fun k _ hk => (hno k hk).elim⟩

/-- A closed call. -/
theorem closed_ok {f : FuncId} {v : V} (h : CallQ P f [] H0 fun u _ => V.leP v u) (hv : v.plain = true) : SpecOk P (sp f fun xs => match xs with | [] => some v | _ => none) := sp_ok fun xs u hx H hs hs' cs cs' => by
  split at hx
  · simp only [Option.some.injEq] at hx
    subst hx
    exact (CallQ.ok h hv).anyHp rfl hv (fun r ys hy => hy) (fun r y hy => hy) H hs hs' cs cs'
  · simp at hx

/-! ### Laws -/

def isT : V → Prop
  | .bool (.c true) => True
  | .bool (.s b) => b = true
  | _ => False
theorem isT_ok {v : V} (h : isT v) {r : Rho} {y : Value} (hv : VR r v y) : y = .bool true := by
  unfold isT at h
  split at h
  · simpa only [VR, B.val] using hv
  · simp only [VR, B.val] at hv; rw [hv, h]
  · exact h.elim

theorem CallQ.law {f : FuncId} {xs : List V} {ys : Array Value} {bs : List Blk} {pls : List Pl} {W : World} (h : CallQ P f xs (Hx bs) fun v _ => isT v) (hlen : pls.length = bs.length) (hro : ∀ b ∈ bs, b.isOwn = false)
    (hbr : ∀ i b, bs[i]? = some b → BR (rx pls) W (pls.getD i ⟨0, 0, 0⟩) b) (hx : VRs (rx pls) xs ys.toList) :
    Calls P f ys W fun e W' => e = .returned (.bool true) ∧ RowKit.Below W.heap.size W W' := by
  refine (h _ W ys (Hx_hr hlen hro hbr) hx).mono ?_
  rintro e W' ⟨v, H', y, r', ht, rfl, hv, hf⟩
  refine ⟨by rw [isT_ok ht hv], hf.kept.os, hf.kept.tape, hf.kept.output, hf.kept.size, fun k hk => hf.kept.block k hk ?_⟩
  rintro ⟨i, b, hb, hw, _⟩
  have hb : bs[i]? = some b := by rw [← Hx_get]; exact hb
  have := hro b (List.mem_of_getElem? hb)
  rw [Blk.isOwn_of_writable hw] at this; simp at this

end
end Go.Ideal
