/- The ideal machine: ways through a text, contracts, and what they say of the model. Own text; nothing here is trusted. -/
import Derived.Test.YtbcadmnkilckbaaI17
import Derived.Below
namespace Go.Ideal
set_option linter.unusedSimpArgs false
set_option linter.unusedVariables false

def AllP : List Prop → Prop
  | [] => True
  | q :: qs => q ∧ AllP qs
theorem AllP.mem : ∀ {cs : List Prop}, AllP cs → ∀ q, q ∈ cs → q
  | [], _, q, hq => by simp at hq
  | c :: cs, h, q, hq => by
    rcases List.mem_cons.1 hq with rfl | hq
    · exact h.1
    · exact AllP.mem h.2 q hq
theorem AllP.of {cs : List Prop} (h : ∀ q, q ∈ cs → q) : AllP cs := by
  induction cs with
  | nil => trivial
  | cons c cs ih => exact ⟨h c (List.mem_cons_self ..), ih fun q hq => h q (List.mem_cons_of_mem _ hq)⟩
theorem AllP.append {cs ds : List Prop} (h : AllP (cs ++ ds)) : AllP cs ∧ AllP ds := by
  induction cs with
  | nil => exact ⟨trivial, h⟩
  | cons c cs ih => exact ⟨⟨h.1, (ih h.2).1⟩, (ih h.2).2⟩

/-- The state of a memory alone. -/
def St (H : Hp) : S := ⟨H, [], []⟩
def H0 : Hp := ⟨.nil, 0⟩

section
variable {P : Program} {spec : Spec} {L : LSpec}

/-- One way through a call. -/
theorem path (hs : SpecOk P spec) (hL : LSpecOk P L) (hmo : P.follows .mixedOrders = true) {n : Nat} {f : FuncId} {xs : List V} {H H' : Hp} {v : V} {hh hh' : List Bool} {cs : List Prop}
    (h : call P spec L n f xs ⟨H, hh, []⟩ = some (v, ⟨H', hh', cs⟩)) (hc : AllP cs) : CallOk P f xs (St H) v (St H') := by
  intro r w ys hH hxs
  exact (call_ok hs hL hmo n f xs _ v _ h).2 hc.mem r w ys hH hxs

/-- .. whatever the memory is behind it. -/
theorem pathQ (hs : SpecOk P spec) (hL : LSpecOk P L) (hmo : P.follows .mixedOrders = true) {n : Nat} {f : FuncId} {xs : List V} {H : Hp} {v : V} {hh : List Bool} {cs : List Prop}
    (h : (call P spec L n f xs ⟨H, hh, []⟩).map (fun p => (p.1, p.2.cs)) = some (v, cs)) (hc : AllP cs) : ∃ s', CallOk P f xs (St H) v s' := by
  cases hx : call P spec L n f xs ⟨H, hh, []⟩ with
  | none => rw [hx] at h; simp at h
  | some p =>
    obtain ⟨u, H', hh', ds⟩ := p
    rw [hx] at h
    simp only [Option.map_some, Option.some.injEq, Prod.mk.injEq] at h
    obtain ⟨rfl, rfl⟩ := h
    exact ⟨_, path hs hL hmo hx hc⟩

theorem CallOk.to {f : FuncId} {xs : List V} {s s' t t' : S} {v v' : V} (h : CallOk P f xs s v s') (h1 : t.H = s.H) (h2 : t'.H = s'.H) (hv : ∀ r y, VR r v y → VR r v' y) : CallOk P f xs t v' t' := by
  intro r w ys hH hxs
  rw [h1] at hH
  refine (h r w ys hH hxs).mono ?_
  rintro e w' ⟨y, r', rfl, hvr, hfit⟩
  rw [h1, h2]
  exact ⟨y, r', rfl, hv _ _ hvr, hfit⟩

/-! ### Values without addresses -/

mutual
def V.plain : V → Bool
  | .bool _ => true
  | .int _ _ => true
  | .str _ _ => true
  | .nilp => true
  | .nils => true
  | .nilm => true
  | .nilf => true
  | .nili => true
  | .func _ xs ys => V.plainL xs && V.plainL ys
  | .iface _ v => v.plain
  | .agg vs => V.plainL vs
  | .tuple vs => V.plainL vs
  | _ => false
def V.plainL : List V → Bool
  | [] => true
  | v :: vs => v.plain && V.plainL vs
end

mutual
theorem V.ren_plain (σ : Nat → Nat) : ∀ v : V, v.plain = true → v.ren σ = v
  | .any, _ => by simp only [V.ren]
  | .bool _, _ => by simp only [V.ren]
  | .int _ _, _ => by simp only [V.ren]
  | .str _ _, _ => by simp only [V.ren]
  | .nilp, _ => by simp only [V.ren]
  | .ptr _ _, h => by simp [V.plain] at h
  | .nils, _ => by simp only [V.ren]
  | .slice _ _ _ _ _, h => by simp [V.plain] at h
  | .nilm, _ => by simp only [V.ren]
  | .map _, h => by simp [V.plain] at h
  | .nilf, _ => by simp only [V.ren]
  | .nili, _ => by simp only [V.ren]
  | .func _ xs ys, h => by
    simp only [V.plain, Bool.and_eq_true] at h
    simp only [V.ren, V.renL_plain σ xs h.1, V.renL_plain σ ys h.2]
  | .iface _ v, h => by
    simp only [V.plain] at h
    simp only [V.ren, V.ren_plain σ v h]
  | .agg vs, h => by
    simp only [V.plain] at h
    simp only [V.ren, V.renL_plain σ vs h]
  | .tuple vs, h => by
    simp only [V.plain] at h
    simp only [V.ren, V.renL_plain σ vs h]
theorem V.renL_plain (σ : Nat → Nat) : ∀ vs : List V, V.plainL vs = true → V.renL σ vs = vs
  | [], _ => by simp only [V.renL]
  | v :: vs, h => by
    simp only [V.plainL, Bool.and_eq_true] at h
    simp only [V.renL, V.ren_plain σ v h.1, V.renL_plain σ vs h.2]
end

theorem VR.plain {r r' : Rho} {v : V} {y : Value} (hv : v.plain = true) (h : VR r v y) : VR r' v y := by
  let u : Rho := ⟨fun i => if i % 2 = 0 then r.pl (i / 2) else r'.pl (i / 2), fun i => if i % 2 = 0 then r.ok (i / 2) else r'.ok (i / 2), 0⟩
  have e1 : pull u (fun i => 2 * i) r.n = r := by
    have h1 : ∀ i, 2 * i % 2 = 0 := fun i => by omega
    have h2 : ∀ i, 2 * i / 2 = i := fun i => by omega
    simp [pull, u, h1, h2]
  have e2 : pull u (fun i => 2 * i + 1) r'.n = r' := by
    have h1 : ∀ i, ¬ (2 * i + 1) % 2 = 0 := fun i => by omega
    have h2 : ∀ i, (2 * i + 1) / 2 = i := fun i => by omega
    simp [pull, u, h1, h2]
  rw [← e1] at h
  have h := (VR_ren v y).2 h
  rw [V.ren_plain _ _ hv, ← V.ren_plain (fun i => 2 * i + 1) v hv] at h
  have h := (VR_ren (n := r'.n) v y).1 h
  rwa [e2] at h

/-- What a call has made is forgotten, where nothing may be written. -/
theorem CallOk.forgetRo {f : FuncId} {xs : List V} {v : V} {H : Hp} {s' : S} (h : CallOk P f xs (St H) v s') (hv : v.plain = true) (hro : ∀ i b, H.tr.get i = some b → b.writable = false) : CallOk P f xs (St H) v (St H) := by
  intro r w ys hH hxs
  refine (h r w ys hH hxs).mono ?_
  rintro e w' ⟨y, r', rfl, hvr, hf⟩
  have hno : ∀ k, ¬ Mine r H k := fun k ⟨i, b, hb, hw, _⟩ => by rw [hro i b hb] at hw; simp at hw
  exact ⟨y, r, rfl, hvr.plain hv, Ext.refl _, hH.kept hf.kept fun i b _ _ => hno _, hf.kept, fun k _ hk => (hno k hk).elim⟩

/-- What a call has made is forgotten. -/
theorem CallOk.forget {f : FuncId} {xs : List V} {v : V} {s' : S} (h : CallOk P f xs (St H0) v s') (hv : v.plain = true) : CallOk P f xs (St H0) v (St H0) :=
  h.forgetRo hv fun i b hb => by simp [H0, Tr.get_nil] at hb

/-- A call over no memory holds over each. -/
theorem CallOk.anyHp {f : FuncId} {xs xs' : List V} {v v' : V} (h : CallOk P f xs (St H0) v (St H0)) (hx : V.plainL xs = true) (hv : v.plain = true) (hx' : ∀ r ys, VRs r xs' ys → VRs r xs ys) (hv' : ∀ r y, VR r v y → VR r v' y)
    (H : Hp) (hs hs' : List Bool) (cs cs' : List Prop) : CallOk P f xs' ⟨H, hs, cs⟩ v' ⟨H, hs', cs'⟩ :=
  CallOk.frame h (Frm.none H) (Aft.none H) (fun r ys hy => by rw [V.renL_plain _ _ hx]; exact hx' r ys hy) (fun r y hy => by rw [V.ren_plain _ _ hv] at hy; exact hv' r y hy)

/-! ### Contracts -/

/-- A contract of one function that leaves the memory. -/
def sp (f : FuncId) (g : List V → Option V) : Spec := fun f' xs s => if Nat.beq f' f then (g xs).map (fun v => some (v, s)) else none

theorem sp_ok {f : FuncId} {g : List V → Option V} (h : ∀ xs v, g xs = some v → ∀ H hs hs' cs cs', CallOk P f xs ⟨H, hs, cs⟩ v ⟨H, hs', cs'⟩) : SpecOk P (sp f g) := by
  intro f' xs s v s' hs
  unfold sp at hs
  split at hs
  · rename_i e
    have e := Nat.eq_of_beq_eq_true e
    subst e
    cases hg : g xs with
    | none => rw [hg] at hs; simp at hs
    | some u =>
      rw [hg] at hs
      simp only [Option.map_some, Option.some.injEq, Prod.mk.injEq] at hs
      obtain ⟨rfl, rfl⟩ := hs
      exact ⟨More.refl _, fun _ => h xs u hg s.H s.hs s.hs s.cs s.cs⟩
  · simp at hs

def orS (a b : Spec) : Spec := fun f xs s => match a f xs s with
  | some x => some x
  | none => b f xs s
theorem orS_ok {a b : Spec} (ha : SpecOk P a) (hb : SpecOk P b) : SpecOk P (orS a b) := by
  intro f xs s v s' h
  unfold orS at h
  split at h
  · rename_i x hx
    simp only [Option.some.injEq] at h
    subst h
    exact ha f xs s v s' hx
  · exact hb f xs s v s' h

/-! ### Numbers -/

def noSpec : Spec := fun _ _ _ => none
theorem noSpec_ok : SpecOk P noSpec := fun f xs s v s' h => by simp [noSpec] at h
def noL : LSpec := fun _ _ _ _ => none
theorem noL_ok : LSpecOk P noL := fun f fn c p body T s out T' s' _ _ _ h => by simp [noL] at h

/-! ### What it says of the model -/

/-- A world without own memory: everything below stays. -/
theorem CallOk.calls {f : FuncId} {xs : List V} {v : V} {s' : S} {W : World} {ys : Array Value} (h : CallOk P f xs (St H0) v s') (hx : ∀ r, VRs r xs ys.toList) :
    Calls P f ys W fun e W' => ∃ y r', e = .returned y ∧ VR r' v y ∧ RowKit.Below W.heap.size W W' := by
  have hH : HR ⟨fun _ => ⟨0, 0, 0⟩, fun _ => False, 0⟩ H0 W :=
    ⟨rfl, fun i hi => hi.elim, fun i b hb => by simp [H0, Tr.get_nil] at hb, fun i b hb => by simp [H0, Tr.get_nil] at hb, fun i j b c _ hb => by simp [H0, Tr.get_nil] at hb⟩
  refine (h _ W ys hH (hx _)).mono ?_
  rintro e W' ⟨y, r', rfl, hv, hf⟩
  exact ⟨y, r', rfl, hv, hf.kept.os, hf.kept.tape, hf.kept.output, hf.kept.size, fun k hk => hf.kept.block k hk fun ⟨i, b, hb, _⟩ => by simp [St, H0, Tr.get_nil] at hb⟩

end
end Go.Ideal
