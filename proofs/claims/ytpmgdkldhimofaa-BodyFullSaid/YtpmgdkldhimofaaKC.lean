/- Put together of: K2 K2b K3 K3q. Own text; nothing here is trusted. -/
import Derived.Test.YtpmgdkldhimofaaK1
namespace Go.Ideal.K6
section
open Go.Proofs Go.Ideal Go.Ideal.L1
set_option linter.unusedSimpArgs false
set_option linter.unusedVariables false
set_option maxRecDepth 100000
set_option maxHeartbeats 8000000

def wkG (n:Nat) (mk : Nat → List Bool → List Int → List Int → Option (List (Bool × Ct) × Ct)) (mkA : Nat → List Int → Option Ct) : List V → Hp → Option (List (Bool × Ct) × Ct)
  | .agg [.ptr w (.c 0)] :: vs, H => match H.tr.get w with
    | some (.own false e _ 0 cells) => if Nat.beq e 72 && (Nat.beq cells.length 49 && Nat.beq vs.length n) then intsK vs fun us => boolsK (cells.take 16) fun bs => intsK ((cells.drop 16).take 32) fun zs =>
      if Nat.beq us.length n && (Nat.beq bs.length 16 && Nat.beq zs.length 32) then match cells.drop 48 with
        | [.nili] => mk w bs zs us
        | [.iface t (.int .i64 _)] => if Nat.beq t 89 then (mkA w us).map fun c => ([], c) else none
        | _ => none
      else none
      else none
    | _ => none
  | _, _ => none

theorem cKC_0 (key:Int) (fr:Int) (lv:Int) {R : Prop} (h : R) : (key:Int) = key ∧ ((fr:Int) = fr ∧ ((lv:Int) = lv ∧ (True ∧ (R)))) := ⟨rfl, ⟨rfl, ⟨rfl, ⟨True.intro, h⟩⟩⟩⟩
theorem cKC_1 (b0:Bool) (b1:Bool) (b2:Bool) (b3:Bool) (b4:Bool) (b5:Bool) (b6:Bool) (b7:Bool) (b8:Bool) (b9:Bool) (b10:Bool) (b11:Bool) (b12:Bool) (b13:Bool) (b14:Bool) (b15:Bool) (z0:Int) (z1:Int) (z2:Int) (z3:Int) (z4:Int) (z5:Int) (z6:Int) (z7:Int) (z8:Int) (z9:Int) (z10:Int) (z11:Int) (z12:Int) (z13:Int) (z14:Int) (z15:Int) (z16:Int) (z17:Int) (z18:Int) (z19:Int) (z20:Int) (z21:Int) (z22:Int) (z23:Int) (z24:Int) (z25:Int) (z26:Int) (z27:Int) (z28:Int) (z29:Int) (z30:Int) {R : Prop} (h : R) : (b0:Bool) = b0 ∧ ((b1:Bool) = b1 ∧ ((b2:Bool) = b2 ∧ ((b3:Bool) = b3 ∧ ((b4:Bool) = b4 ∧ ((b5:Bool) = b5 ∧ ((b6:Bool) = b6 ∧ ((b7:Bool) = b7 ∧ ((b8:Bool) = b8 ∧ ((b9:Bool) = b9 ∧ ((b10:Bool) = b10 ∧ ((b11:Bool) = b11 ∧ ((b12:Bool) = b12 ∧ ((b13:Bool) = b13 ∧ ((b14:Bool) = b14 ∧ ((b15:Bool) = b15 ∧ ((z0:Int) = z0 ∧ ((z1:Int) = z1 ∧ ((z2:Int) = z2 ∧ ((z3:Int) = z3 ∧ ((z4:Int) = z4 ∧ ((z5:Int) = z5 ∧ ((z6:Int) = z6 ∧ ((z7:Int) = z7 ∧ ((z8:Int) = z8 ∧ ((z9:Int) = z9 ∧ ((z10:Int) = z10 ∧ ((z11:Int) = z11 ∧ ((z12:Int) = z12 ∧ ((z13:Int) = z13 ∧ ((z14:Int) = z14 ∧ ((z15:Int) = z15 ∧ ((z16:Int) = z16 ∧ ((z17:Int) = z17 ∧ ((z18:Int) = z18 ∧ ((z19:Int) = z19 ∧ ((z20:Int) = z20 ∧ ((z21:Int) = z21 ∧ ((z22:Int) = z22 ∧ ((z23:Int) = z23 ∧ ((z24:Int) = z24 ∧ ((z25:Int) = z25 ∧ ((z26:Int) = z26 ∧ ((z27:Int) = z27 ∧ ((z28:Int) = z28 ∧ ((z29:Int) = z29 ∧ ((z30:Int) = z30 ∧ (R))))))))))))))))))))))))))))))))))))))))))))))) := ⟨rfl, ⟨rfl, ⟨rfl, ⟨rfl, ⟨rfl, ⟨rfl, ⟨rfl, ⟨rfl, ⟨rfl, ⟨rfl, ⟨rfl, ⟨rfl, ⟨rfl, ⟨rfl, ⟨rfl, ⟨rfl, ⟨rfl, ⟨rfl, ⟨rfl, ⟨rfl, ⟨rfl, ⟨rfl, ⟨rfl, ⟨rfl, ⟨rfl, ⟨rfl, ⟨rfl, ⟨rfl, ⟨rfl, ⟨rfl, ⟨rfl, ⟨rfl, ⟨rfl, ⟨rfl, ⟨rfl, ⟨rfl, ⟨rfl, ⟨rfl, ⟨rfl, ⟨rfl, ⟨rfl, ⟨rfl, ⟨rfl, ⟨rfl, ⟨rfl, ⟨rfl, ⟨rfl, h⟩⟩⟩⟩⟩⟩⟩⟩⟩⟩⟩⟩⟩⟩⟩⟩⟩⟩⟩⟩⟩⟩⟩⟩⟩⟩⟩⟩⟩⟩⟩⟩⟩⟩⟩⟩⟩⟩⟩⟩⟩⟩⟩⟩⟩⟩⟩
theorem cKC_2 (key:Int) (x:Int) (lv:Int) {R : Prop} (h : R) : (key:Int) = key ∧ ((x:Int) = x ∧ ((lv:Int) = lv ∧ (True ∧ (R)))) := ⟨rfl, ⟨rfl, ⟨rfl, ⟨True.intro, h⟩⟩⟩⟩
theorem wk_lePs {cells : List V} {bs : List Bool} {zs : List Int} {a : V} (hl : cells.length = 49) (hb : boolsOf (cells.take 16) = bs) (hz : intsOf ((cells.drop 16).take 32) = zs) (hb' : bs.length = 16) (hz' : zs.length = 32) (ha : V.lePs [a] (cells.drop 48)) : V.lePs (wkL bs zs a) cells := by
  have h1 := boolsOf_lePs (cells.take 16) (by rw [hb, hb', List.length_take]; omega)
  have h2 := intsOf_lePs ((cells.drop 16).take 32) (by rw [hz, hz', List.length_take, List.length_drop]; omega)
  have h3 := lePs_append _ _ _ _ (lePs_append _ _ _ _ h1 h2) ha
  have e : (cells.take 16 ++ (cells.drop 16).take 32) ++ cells.drop 48 = cells := by
    have e1 : cells.drop 48 = (cells.drop 16).drop 32 := by rw [List.drop_drop]
    rw [List.append_assoc, e1, List.take_append_drop, List.take_append_drop]
  rw [e, hb, hz] at h3
  exact h3

/-- One shape that reads alone. -/
theorem wk_read {f : FuncId} {w : Nat} {H : Hp} {fz : Nat → Int} {cells vs : List V} {bs : List Bool} {zs us : List Int} {a v : V} {qs : List Prop} (hb : ∀ i B, H.tr.get i = some B → i < H.n) (hw : H.tr.get w = some (.own false 72 fz 0 cells))
    (hle : V.lePs (wkL bs zs a) cells) (hren : ∀ σ, V.renL σ (wkL bs zs a) = wkL bs zs a) (hv : V.lePs (us.map fun z => V.int .i64 (.s z)) vs) (hcall : CallOk Try.prog f (.agg [.ptr 0 (.c 0)] :: us.map fun z => V.int .i64 (.s z)) (St (Hm (wkR bs zs a) 1)) v (St (Hm [none] 1))) :
    ∃ xs0 bs0, CtOk Try.prog f (.agg [.ptr w (.c 0)] :: vs) H ⟨[w], [], v, [none], 1, qs⟩ xs0 bs0 := by
  have hpl0 : place [w] H.n 0 = w := rfl
  refine ⟨.agg [.ptr 0 (.c 0)] :: us.map fun z => V.int .i64 (.s z), wkR bs zs a, by simp [nodupB], by simp [blt_of (hb _ _ hw)], rfl, rfl, rfl, ?_, ?_, ?_, ?_, hcall⟩
  · intro j b hj
    match j with
    | 0 =>
      simp only [wkR, List.getElem?_cons_zero, Option.some.injEq] at hj; subst hj
      refine ⟨by simp, _, hw, ?_⟩
      show Wk (.own true _ _ 0 (V.renL _ (wkL bs zs a))) _
      rw [hren]
      exact Wk.ownLe rfl (.inl rfl) hle
    | j + 1 => simp [wkR] at hj
  · intro j b _ hj
    match j with
    | 0 => simp only [wkR, List.getElem?_cons_zero, Option.some.injEq] at hj; subst hj; rfl
    | j + 1 => simp [wkR] at hj
  · intro j b _ hj
    match j with
    | 0 => simp at hj
    | j + 1 => simp at hj
  · intro r ys hy
    have hmap : ∀ (σ : Nat → Nat) (l : List Int), V.renL σ (l.map fun z => V.int .i64 (.s z)) = l.map fun z => V.int .i64 (.s z) := fun σ l => by
      induction l with
      | nil => rfl
      | cons z l ih => simp only [List.map_cons, V.renL, V.ren, ih]
    simp only [V.renL, V.ren, hpl0, hmap]
    simp only [VRs] at hy ⊢
    obtain ⟨z, zs', e, h1, h2⟩ := hy
    exact ⟨z, zs', e, h1, V.lePs_ok _ _ _ hv h2⟩
/-- One shape that turns the walk. -/
theorem wk_turn {f : FuncId} {w : Nat} {H : Hp} {fz : Nat → Int} {cells vs : List V} {bs : List Bool} {zs us : List Int} {a v : V} {B' : Blk} {qs : List Prop} (hb : ∀ i B, H.tr.get i = some B → i < H.n) (hw : H.tr.get w = some (.own false 72 fz 0 cells))
    (hle : V.lePs (wkL bs zs a) cells) (hren : ∀ σ, V.renL σ (wkL bs zs a) = wkL bs zs a) (hv : V.lePs (us.map fun z => V.int .i64 (.s z)) vs) (hB : B'.writable = true) (hcall : CallOk Try.prog f (.agg [.ptr 0 (.c 0)] :: us.map fun z => V.int .i64 (.s z)) (St (Hm (wk1 bs zs a) 1)) v (St (Hm [some B'] 1))) :
    ∃ xs0 bs0, CtOk Try.prog f (.agg [.ptr w (.c 0)] :: vs) H ⟨[w], [0], v, [some B'], 1, qs⟩ xs0 bs0 := by
  have hpl0 : place [w] H.n 0 = w := rfl
  refine ⟨.agg [.ptr 0 (.c 0)] :: us.map fun z => V.int .i64 (.s z), wk1 bs zs a, by simp [nodupB], by simp [blt_of (hb _ _ hw)], rfl, rfl, rfl, ?_, ?_, ?_, ?_, hcall⟩
  · intro j b hj
    match j with
    | 0 =>
      simp only [wk1, wkB, List.getElem?_cons_zero, Option.some.injEq] at hj; subst hj
      refine ⟨by simp, _, hw, ?_⟩
      show Wk (.own false _ _ 0 (V.renL _ (wkL bs zs a))) _
      rw [hren]
      exact Wk.ownLe rfl (.inl rfl) hle
    | j + 1 => simp [wk1] at hj
  · intro j b hj' hj
    match j with
    | 0 => simp at hj'
    | j + 1 => simp [wk1] at hj
  · intro j b _ hj
    match j with
    | 0 => simp only [List.getElem?_cons_zero, Option.some.injEq] at hj; subst hj; exact hB
    | j + 1 => simp at hj
  · intro r ys hy
    have hmap : ∀ (σ : Nat → Nat) (l : List Int), V.renL σ (l.map fun z => V.int .i64 (.s z)) = l.map fun z => V.int .i64 (.s z) := fun σ l => by
      induction l with
      | nil => rfl
      | cons z l ih => simp only [List.map_cons, V.renL, V.ren, ih]
    simp only [V.renL, V.ren, hpl0, hmap]
    simp only [VRs] at hy ⊢
    obtain ⟨z, zs', e, h1, h2⟩ := hy
    exact ⟨z, zs', e, h1, V.lePs_ok _ _ _ hv h2⟩

theorem wkL_ren {bs : List Bool} {zs : List Int} {a : V} (ha : ∀ σ, V.ren σ a = a) (σ : Nat → Nat) : V.renL σ (wkL bs zs a) = wkL bs zs a := by
  unfold wkL
  have h1 : ∀ (l : List Bool) (m : List V), V.renL σ (l.map (fun b => V.bool (.s b)) ++ m) = l.map (fun b => V.bool (.s b)) ++ V.renL σ m := fun l m => by
    induction l with
    | nil => rfl
    | cons z l ih => simp only [List.map_cons, List.cons_append, V.renL, V.ren, ih]
  have h2 : ∀ (l : List Int) (m : List V), V.renL σ (l.map (fun b => V.int .i64 (.s b)) ++ m) = l.map (fun b => V.int .i64 (.s b)) ++ V.renL σ m := fun l m => by
    induction l with
    | nil => rfl
    | cons z l ih => simp only [List.map_cons, List.cons_append, V.renL, V.ren, ih]
  rw [List.append_assoc, h1, h2]
  simp only [V.renL, ha]

theorem wkG_ok {f : FuncId} {n : Nat} {mk : Nat → List Bool → List Int → List Int → Option (List (Bool × Ct) × Ct)} {mkA : Nat → List Int → Option Ct}
    (h1 : ∀ (xs : List V) (H : Hp) (w:Nat) (bs : List Bool) (zs us : List Int) (cl : List (Bool × Ct)) (z : Ct), bs.length = 16 → zs.length = 32 → us.length = n → mk w bs zs us = some (cl, z) →
      (∀ (v : V) (qs : List Prop), CallOk Try.prog f (.agg [.ptr 0 (.c 0)] :: us.map fun z => V.int .i64 (.s z)) (St (Hm (wkR bs zs .nili) 1)) v (St (Hm [none] 1)) → ∃ xs0 bs0, CtOk Try.prog f xs H ⟨[w], [], v, [none], 1, qs⟩ xs0 bs0) →
      (∀ (v : V) (B' : Blk) (qs : List Prop), B'.writable = true → CallOk Try.prog f (.agg [.ptr 0 (.c 0)] :: us.map fun z => V.int .i64 (.s z)) (St (Hm (wk1 bs zs .nili) 1)) v (St (Hm [some B'] 1)) → ∃ xs0 bs0, CtOk Try.prog f xs H ⟨[w], [0], v, [some B'], 1, qs⟩ xs0 bs0) → pickGP (GOk Try.prog f xs H) cl z)
    (h2 : ∀ (w:Nat) (bs : List Bool) (zs us : List Int) (q:Int) (c : Ct), bs.length = 16 → zs.length = 32 → us.length = n → mkA w us = some c → c.l = [w] ∧ c.up = [] ∧ c.bs = [none] ∧ c.n2 = 1 ∧ ((∀ q, q ∈ c.cs → q) → CallOk Try.prog f (.agg [.ptr 0 (.c 0)] :: us.map fun z => V.int .i64 (.s z)) (St (Hm (wkR bs zs (askV q)) 1)) c.v (St (Hm [none] 1)))) :
    SpecOk Try.prog (spN f (wkG n mk mkA)) := spN_ok fun xs H cl z hc hb => by
  unfold wkG at hc
  split at hc
  · rename_i w vs
    split at hc
    · rename_i e fz cells hw
      split at hc
      · rename_i hl
        simp only [Bool.and_eq_true] at hl
        have he := Nat.eq_of_beq_eq_true hl.1
        have hl1 := Nat.eq_of_beq_eq_true hl.2.1
        have hl2 := Nat.eq_of_beq_eq_true hl.2.2
        subst he
        simp only [intsK_eq, boolsK_eq] at hc
        split at hc
        · rename_i hn
          simp only [Bool.and_eq_true] at hn
          have hn1 := Nat.eq_of_beq_eq_true hn.1
          have hn2 := Nat.eq_of_beq_eq_true hn.2.1
          have hn3 := Nat.eq_of_beq_eq_true hn.2.2
          have hv : V.lePs ((intsOf vs).map fun z => V.int .i64 (.s z)) vs := intsOf_lePs vs (by rw [hn1, hl2])
          split at hc
          · rename_i hd
            have hle : V.lePs (wkL (boolsOf (cells.take 16)) (intsOf ((cells.drop 16).take 32)) .nili) cells := wk_lePs hl1 rfl rfl hn2 hn3 (by rw [hd]; simp [V.lePs, V.leP])
            exact h1 _ H w _ _ _ cl z hn2 hn3 hn1 hc (fun v qs hcall => wk_read hb hw hle (wkL_ren fun σ => rfl) hv hcall) (fun v B' qs hB hcall => wk_turn hb hw hle (wkL_ren fun σ => rfl) hv hB hcall)
          · rename_i t q hd
            split at hc
            · rename_i ht
              have ht := Nat.eq_of_beq_eq_true ht
              subst ht
              cases hm : mkA w (intsOf vs) with
              | none => rw [hm] at hc; simp at hc
              | some c =>
                rw [hm] at hc
                simp only [Option.map_some, Option.some.injEq, Prod.mk.injEq] at hc
                obtain ⟨rfl, rfl⟩ := hc
                have hle : V.lePs (wkL (boolsOf (cells.take 16)) (intsOf ((cells.drop 16).take 32)) (askV q.val)) cells := wk_lePs hl1 rfl rfl hn2 hn3 (by rw [hd]; cases q <;> simp [V.lePs, V.leP, askV, E.eqP, E.val])
                obtain ⟨c1, c2, c3, c4, c5⟩ := h2 w _ _ _ q.val c hn2 hn3 hn1 hm
                obtain ⟨l, up, v, bs', n2, cs⟩ := c
                simp only at c1 c2 c3 c4 c5
                subst c1 c2 c3 c4
                exact fun hcs => wk_read hb hw hle (wkL_ren fun σ => rfl) hv (c5 hcs)
            · simp at hc
          · simp at hc
        · simp at hc
      · simp at hc
    · simp at hc
  · simp at hc
end
end Go.Ideal.K6

namespace Go.Ideal.K6
section
open Go.Proofs Go.Ideal Go.Ideal.L1
set_option linter.unusedSimpArgs false
set_option linter.unusedVariables false
set_option maxRecDepth 100000
set_option maxHeartbeats 8000000

def nwOk (zs : List Int) (c:Int) : Prop := 0 ≤ nw zs c ∧ nw zs c < 1099511627776
def lkMk (w:Nat) (bs : List Bool) (zs : List Int) : List Int → Option (List (Bool × Ct) × Ct)
  | [key, lv] => some ([(kn bs (lk key lv), ⟨[w], [], .int .i64 (.s (nw zs (lk key lv))), [none], 1, [lkOk key lv]⟩)], ⟨[w], [0], .int .i64 (.c 0), [some (wkB bs zs (askV (lk key lv)))], 1, [lkOk key lv]⟩)
  | _ => none
def lkA (w:Nat) : List Int → Option Ct
  | [key, lv] => some ⟨[w], [], .int .i64 (.c 0), [none], 1, []⟩
  | _ => none
def nxMk (w:Nat) (bs : List Bool) (zs : List Int) : List Int → Option (List (Bool × Ct) × Ct)
  | [key, lv] => some ([(kn bs (lk key lv), ⟨[w], [], .int .i64 (.s (nxV key (nw zs (lk key lv)))), [none], 1, [lkOk key lv, nwOk zs (lk key lv)]⟩)], ⟨[w], [0], .int .i64 (.s (-1)), [some (wkB bs zs (askV (lk key lv)))], 1, [lkOk key lv]⟩)
  | _ => none
def nxA (w:Nat) : List Int → Option Ct
  | [key, lv] => some ⟨[w], [], .int .i64 (.s (-1)), [none], 1, [lkOk key lv]⟩
  | _ => none
def ldMk (w:Nat) (bs : List Bool) (zs : List Int) : List Int → Option (List (Bool × Ct) × Ct)
  | [key, lv, x] => some ([], ⟨[w], [0], .tuple [], [some (wkB bs (upz zs (lk key lv) x) .nili)], 1, [lkOk key lv]⟩)
  | _ => none
def ldA (w:Nat) : List Int → Option Ct
  | [key, lv, x] => some ⟨[w], [], .tuple [], [none], 1, []⟩
  | _ => none
def linkS : Spec := spN 50 (wkG 2 lkMk lkA)
theorem linkS_ok : SpecOk Try.prog linkS := wkG_ok (fun xs H w bs zs us cl z hb hz hu hm hr ht => by
  match us, hu with
  | [key, lv], _ =>
  match bs, hb, zs, hz with
  | [b0, b1, b2, b3, b4, b5, b6, b7, b8, b9, b10, b11, b12, b13, b14, b15], _, [z0, z1, z2, z3, z4, z5, z6, z7, z8, z9, z10, z11, z12, z13, z14, z15, z16, z17, z18, z19, z20, z21, z22, z23, z24, z25, z26, z27, z28, z29, z30, z31], _ =>
  simp only [lkMk, Option.some.injEq, Prod.mk.injEq] at hm
  obtain ⟨rfl, rfl⟩ := hm
  refine ⟨fun hk hcs => hr _ _ ?_, fun hk hcs => ht _ _ _ rfl ?_⟩
  · exact callKeep noSpec_ok (lk_k b0 b1 b2 b3 b4 b5 b6 b7 b8 b9 b10 b11 b12 b13 b14 b15 z0 z1 z2 z3 z4 z5 z6 z7 z8 z9 z10 z11 z12 z13 z14 z15 z16 z17 z18 z19 z20 z21 z22 z23 z24 z25 z26 z27 z28 z29 z30 z31 key lv (hcs _ (by simp)) hk)
  · exact callKeep noSpec_ok (lk_u b0 b1 b2 b3 b4 b5 b6 b7 b8 b9 b10 b11 b12 b13 b14 b15 z0 z1 z2 z3 z4 z5 z6 z7 z8 z9 z10 z11 z12 z13 z14 z15 z16 z17 z18 z19 z20 z21 z22 z23 z24 z25 z26 z27 z28 z29 z30 z31 key lv (hcs _ (by simp)) hk)
) (fun w bs zs us q c hb hz hu hm => by
  match us, hu with
  | [key, lv], _ =>
  match bs, hb, zs, hz with
  | [b0, b1, b2, b3, b4, b5, b6, b7, b8, b9, b10, b11, b12, b13, b14, b15], _, [z0, z1, z2, z3, z4, z5, z6, z7, z8, z9, z10, z11, z12, z13, z14, z15, z16, z17, z18, z19, z20, z21, z22, z23, z24, z25, z26, z27, z28, z29, z30, z31], _ =>
  simp only [lkA, Option.some.injEq] at hm
  subst hm
  exact ⟨rfl, rfl, rfl, rfl, fun hcs => callKeep noSpec_ok (lk_a b0 b1 b2 b3 b4 b5 b6 b7 b8 b9 b10 b11 b12 b13 b14 b15 z0 z1 z2 z3 z4 z5 z6 z7 z8 z9 z10 z11 z12 z13 z14 z15 z16 z17 z18 z19 z20 z21 z22 z23 z24 z25 z26 z27 z28 z29 z30 z31 key lv q)⟩)
def nextS : Spec := spN 33 (wkG 2 nxMk nxA)
theorem nextS_ok : SpecOk Try.prog nextS := wkG_ok (fun xs H w bs zs us cl z hb hz hu hm hr ht => by
  match us, hu with
  | [key, lv], _ =>
  match bs, hb, zs, hz with
  | [b0, b1, b2, b3, b4, b5, b6, b7, b8, b9, b10, b11, b12, b13, b14, b15], _, [z0, z1, z2, z3, z4, z5, z6, z7, z8, z9, z10, z11, z12, z13, z14, z15, z16, z17, z18, z19, z20, z21, z22, z23, z24, z25, z26, z27, z28, z29, z30, z31], _ =>
  simp only [nxMk, Option.some.injEq, Prod.mk.injEq] at hm
  obtain ⟨rfl, rfl⟩ := hm
  refine ⟨fun hk hcs => hr _ _ ?_, fun hk hcs => ht _ _ _ rfl ?_⟩
  · exact callKeep noSpec_ok (nx_k b0 b1 b2 b3 b4 b5 b6 b7 b8 b9 b10 b11 b12 b13 b14 b15 z0 z1 z2 z3 z4 z5 z6 z7 z8 z9 z10 z11 z12 z13 z14 z15 z16 z17 z18 z19 z20 z21 z22 z23 z24 z25 z26 z27 z28 z29 z30 z31 key lv (hcs _ (by simp)) (hcs (nwOk _ _) (by simp)) hk)
  · exact callKeep noSpec_ok (nx_u b0 b1 b2 b3 b4 b5 b6 b7 b8 b9 b10 b11 b12 b13 b14 b15 z0 z1 z2 z3 z4 z5 z6 z7 z8 z9 z10 z11 z12 z13 z14 z15 z16 z17 z18 z19 z20 z21 z22 z23 z24 z25 z26 z27 z28 z29 z30 z31 key lv (hcs _ (by simp)) hk)
) (fun w bs zs us q c hb hz hu hm => by
  match us, hu with
  | [key, lv], _ =>
  match bs, hb, zs, hz with
  | [b0, b1, b2, b3, b4, b5, b6, b7, b8, b9, b10, b11, b12, b13, b14, b15], _, [z0, z1, z2, z3, z4, z5, z6, z7, z8, z9, z10, z11, z12, z13, z14, z15, z16, z17, z18, z19, z20, z21, z22, z23, z24, z25, z26, z27, z28, z29, z30, z31], _ =>
  simp only [nxA, Option.some.injEq] at hm
  subst hm
  exact ⟨rfl, rfl, rfl, rfl, fun hcs => callKeep noSpec_ok (nx_a b0 b1 b2 b3 b4 b5 b6 b7 b8 b9 b10 b11 b12 b13 b14 b15 z0 z1 z2 z3 z4 z5 z6 z7 z8 z9 z10 z11 z12 z13 z14 z15 z16 z17 z18 z19 z20 z21 z22 z23 z24 z25 z26 z27 z28 z29 z30 z31 key lv q (hcs _ (by simp)))⟩)
def leadS : Spec := spN 64 (wkG 3 ldMk ldA)
theorem leadS_ok : SpecOk Try.prog leadS := wkG_ok (fun xs H w bs zs us cl z hb hz hu hm hr ht => by
  match us, hu with
  | [key, lv, x], _ =>
  match bs, hb, zs, hz with
  | [b0, b1, b2, b3, b4, b5, b6, b7, b8, b9, b10, b11, b12, b13, b14, b15], _, [z0, z1, z2, z3, z4, z5, z6, z7, z8, z9, z10, z11, z12, z13, z14, z15, z16, z17, z18, z19, z20, z21, z22, z23, z24, z25, z26, z27, z28, z29, z30, z31], _ =>
  simp only [ldMk, Option.some.injEq, Prod.mk.injEq] at hm
  obtain ⟨rfl, rfl⟩ := hm
  exact fun hcs => ht _ _ _ rfl (callKeep noSpec_ok (ld_k b0 b1 b2 b3 b4 b5 b6 b7 b8 b9 b10 b11 b12 b13 b14 b15 z0 z1 z2 z3 z4 z5 z6 z7 z8 z9 z10 z11 z12 z13 z14 z15 z16 z17 z18 z19 z20 z21 z22 z23 z24 z25 z26 z27 z28 z29 z30 z31 key lv x (hcs _ (by simp))))
) (fun w bs zs us q c hb hz hu hm => by
  match us, hu with
  | [key, lv, x], _ =>
  match bs, hb, zs, hz with
  | [b0, b1, b2, b3, b4, b5, b6, b7, b8, b9, b10, b11, b12, b13, b14, b15], _, [z0, z1, z2, z3, z4, z5, z6, z7, z8, z9, z10, z11, z12, z13, z14, z15, z16, z17, z18, z19, z20, z21, z22, z23, z24, z25, z26, z27, z28, z29, z30, z31], _ =>
  simp only [ldA, Option.some.injEq] at hm
  subst hm
  exact ⟨rfl, rfl, rfl, rfl, fun hcs => callKeep noSpec_ok (ld_a b0 b1 b2 b3 b4 b5 b6 b7 b8 b9 b10 b11 b12 b13 b14 b15 z0 z1 z2 z3 z4 z5 z6 z7 z8 z9 z10 z11 z12 z13 z14 z15 z16 z17 z18 z19 z20 z21 z22 z23 z24 z25 z26 z27 z28 z29 z30 z31 key lv x q)⟩)
def lkS : Spec := orS linkS (orS nextS leadS)
theorem lkS_ok : SpecOk Try.prog lkS := orS_ok linkS_ok (orS_ok nextS_ok leadS_ok)
end
end Go.Ideal.K6

namespace Go.Ideal.K6
section
open Go.Proofs Go.Ideal Go.Ideal.L1
set_option linter.unusedSimpArgs false
set_option linter.unusedVariables false
set_option maxRecDepth 100000
set_option maxHeartbeats 80000000

def bfT (key fr lv:Int) (x : E) : List (Nat × V) := [(1, .int .i64 (.s key)), (2, .int .i64 (.s fr)), (3, .int .i64 (.s lv)), (4, .ptr 1 (.c 0)), (9, .int .i64 x)]
def bfB (bs : List Bool) (zs : List Int) (a : V) : List (Option Blk) := [some (wkB bs zs a), some (.own false 74 (fun _ => 0) 0 [.ptr 0 (.c 0)])]
variable (b0 b1 b2 b3 b4 b5 b6 b7 b8 b9 b10 b11 b12 b13 b14 b15:Bool) (z0 z1 z2 z3 z4 z5 z6 z7 z8 z9 z10 z11 z12 z13 z14 z15 z16 z17 z18 z19 z20 z21 z22 z23 z24 z25 z26 z27 z28 z29 z30 z31:Int) (key fr lv x q:Int)
theorem bf_gk (ho : lkOk fr lv) (hz : nwOk [z0, z1, z2, z3, z4, z5, z6, z7, z8, z9, z10, z11, z12, z13, z14, z15, z16, z17, z18, z19, z20, z21, z22, z23, z24, z25, z26, z27, z28, z29, z30, z31] (lk fr lv)) (hk : kn [b0, b1, b2, b3, b4, b5, b6, b7, b8, b9, b10, b11, b12, b13, b14, b15] (lk fr lv) = true) : ∃ hh, vcOf (runGo Try.prog lkS noL 3000 53 [] [1, 0, 1, 0] (Tr.ofList [.agg [.ptr 0 (.c 0)], .int .i64 (.s key), .int .i64 (.s fr), .int .i64 (.s lv)]) (Hm (wk1 [b0, b1, b2, b3, b4, b5, b6, b7, b8, b9, b10, b11, b12, b13, b14, b15] [z0, z1, z2, z3, z4, z5, z6, z7, z8, z9, z10, z11, z12, z13, z14, z15, z16, z17, z18, z19, z20, z21, z22, z23, z24, z25, z26, z27, z28, z29, z30, z31] .nili) 1) hh)
    (reached fun T1 H1 => weakP T1 H1 (bfT key fr lv (.s (nxV fr (nw [z0, z1, z2, z3, z4, z5, z6, z7, z8, z9, z10, z11, z12, z13, z14, z15, z16, z17, z18, z19, z20, z21, z22, z23, z24, z25, z26, z27, z28, z29, z30, z31] (lk fr lv))))) (bfB [b0, b1, b2, b3, b4, b5, b6, b7, b8, b9, b10, b11, b12, b13, b14, b15] [z0, z1, z2, z3, z4, z5, z6, z7, z8, z9, z10, z11, z12, z13, z14, z15, z16, z17, z18, z19, z20, z21, z22, z23, z24, z25, z26, z27, z28, z29, z30, z31] .nili) 2) := by

  rcases eb (kn [b0, b1, b2, b3, b4, b5, b6, b7, b8, b9, b10, b11, b12, b13, b14, b15] (lk fr lv)) with h0 | h0
  ·
   refine vcIntro [true] (an (an (an (show (-1:Int) ≤ fr by unfold lkOk at ho; omega) (an (show fr + (1:Int) ≤ (5:Int) by unfold lkOk at ho; omega) (an (show (0:Int) ≤ lv by unfold lkOk at ho; omega) (show lv + (1:Int) ≤ (2:Int) by unfold lkOk at ho; omega)))) (an (an (show (0:Int) ≤ nw [z0, z1, z2, z3, z4, z5, z6, z7, z8, z9, z10, z11, z12, z13, z14, z15, z16, z17, z18, z19, z20, z21, z22, z23, z24, z25, z26, z27, z28, z29, z30, z31] (lk fr lv) by unfold nwOk at hz; omega) (show nw [z0, z1, z2, z3, z4, z5, z6, z7, z8, z9, z10, z11, z12, z13, z14, z15, z16, z17, z18, z19, z20, z21, z22, z23, z24, z25, z26, z27, z28, z29, z30, z31] (lk fr lv) + (1:Int) ≤ (1099511627776:Int) by unfold nwOk at hz; omega)) (an h0 tt))) (an (cKC_0 key fr lv (an (ri (nxV fr (nw [z0, z1, z2, z3, z4, z5, z6, z7, z8, z9, z10, z11, z12, z13, z14, z15, z16, z17, z18, z19, z20, z21, z22, z23, z24, z25, z26, z27, z28, z29, z30, z31] (lk fr lv)))) tt)) (an (zo (cKC_1 b0 b1 b2 b3 b4 b5 b6 b7 b8 b9 b10 b11 b12 b13 b14 b15 z0 z1 z2 z3 z4 z5 z6 z7 z8 z9 z10 z11 z12 z13 z14 z15 z16 z17 z18 z19 z20 z21 z22 z23 z24 z25 z26 z27 z28 z29 z30 (an (ri z31) tt))) (an (zo tt) tt)))) ?_
   kernel_rfl
  · exact ff (by rw [hk] at *; simp at *)
theorem bf_gu (ho : lkOk fr lv) (hk : kn [b0, b1, b2, b3, b4, b5, b6, b7, b8, b9, b10, b11, b12, b13, b14, b15] (lk fr lv) = false) : ∃ hh, vcOf (runGo Try.prog lkS noL 3000 53 [] [1, 0, 1, 0] (Tr.ofList [.agg [.ptr 0 (.c 0)], .int .i64 (.s key), .int .i64 (.s fr), .int .i64 (.s lv)]) (Hm (wk1 [b0, b1, b2, b3, b4, b5, b6, b7, b8, b9, b10, b11, b12, b13, b14, b15] [z0, z1, z2, z3, z4, z5, z6, z7, z8, z9, z10, z11, z12, z13, z14, z15, z16, z17, z18, z19, z20, z21, z22, z23, z24, z25, z26, z27, z28, z29, z30, z31] .nili) 1) hh)
    (reached fun T1 H1 => weakP T1 H1 (bfT key fr lv (.s (-1))) (bfB [b0, b1, b2, b3, b4, b5, b6, b7, b8, b9, b10, b11, b12, b13, b14, b15] [z0, z1, z2, z3, z4, z5, z6, z7, z8, z9, z10, z11, z12, z13, z14, z15, z16, z17, z18, z19, z20, z21, z22, z23, z24, z25, z26, z27, z28, z29, z30, z31] (askV (lk fr lv))) 2) := by

  rcases eb (kn [b0, b1, b2, b3, b4, b5, b6, b7, b8, b9, b10, b11, b12, b13, b14, b15] (lk fr lv)) with h0 | h0
  · exact ff (by rw [hk] at *; simp at *)
  ·
   refine vcIntro [false] (an (an (an (show (-1:Int) ≤ fr by unfold lkOk at ho; omega) (an (show fr + (1:Int) ≤ (5:Int) by unfold lkOk at ho; omega) (an (show (0:Int) ≤ lv by unfold lkOk at ho; omega) (show lv + (1:Int) ≤ (2:Int) by unfold lkOk at ho; omega)))) (an h0 tt)) (an (cKC_0 key fr lv (an (ri ((-1:Int))) tt)) (an (zo (cKC_1 b0 b1 b2 b3 b4 b5 b6 b7 b8 b9 b10 b11 b12 b13 b14 b15 z0 z1 z2 z3 z4 z5 z6 z7 z8 z9 z10 z11 z12 z13 z14 z15 z16 z17 z18 z19 z20 z21 z22 z23 z24 z25 z26 z27 z28 z29 z30 (an (ri z31) (ri (lk fr lv))))) (an (zo tt) tt)))) ?_
   kernel_rfl
theorem bf_n (hx : x ≠ -1) (hy : x < key) (ho : lkOk x lv) (hz : nwOk [z0, z1, z2, z3, z4, z5, z6, z7, z8, z9, z10, z11, z12, z13, z14, z15, z16, z17, z18, z19, z20, z21, z22, z23, z24, z25, z26, z27, z28, z29, z30, z31] (lk x lv)) (hk : kn [b0, b1, b2, b3, b4, b5, b6, b7, b8, b9, b10, b11, b12, b13, b14, b15] (lk x lv) = true) : ∃ hh, vcOf (runAt Try.prog lkS noL 3000 53 [1, 0, 1, 0, 0] (Tr.ofPairs (bfT key fr lv (.s x))) (Hm (bfB [b0, b1, b2, b3, b4, b5, b6, b7, b8, b9, b10, b11, b12, b13, b14, b15] [z0, z1, z2, z3, z4, z5, z6, z7, z8, z9, z10, z11, z12, z13, z14, z15, z16, z17, z18, z19, z20, z21, z22, z23, z24, z25, z26, z27, z28, z29, z30, z31] .nili) 2) hh)
    (roundK 2 [0, 1] (bfT key x lv (.s (nxV x (nw [z0, z1, z2, z3, z4, z5, z6, z7, z8, z9, z10, z11, z12, z13, z14, z15, z16, z17, z18, z19, z20, z21, z22, z23, z24, z25, z26, z27, z28, z29, z30, z31] (lk x lv))))) (bfB [b0, b1, b2, b3, b4, b5, b6, b7, b8, b9, b10, b11, b12, b13, b14, b15] [z0, z1, z2, z3, z4, z5, z6, z7, z8, z9, z10, z11, z12, z13, z14, z15, z16, z17, z18, z19, z20, z21, z22, z23, z24, z25, z26, z27, z28, z29, z30, z31] .nili) True 0 [] [] False) := by

  rcases eb (x != (-1:Int)) with h0 | h0
  ·
   rcases eb (decide (x < key)) with h1 | h1
   ·
    rcases eb (kn [b0, b1, b2, b3, b4, b5, b6, b7, b8, b9, b10, b11, b12, b13, b14, b15] (lk x lv)) with h2 | h2
    ·
     refine vcIntro (hx2 3 7) (an (an (an (show (-1:Int) ≤ x by unfold lkOk at ho; omega) (an (show x + (1:Int) ≤ (5:Int) by unfold lkOk at ho; omega) (an (show (0:Int) ≤ lv by unfold lkOk at ho; omega) (show lv + (1:Int) ≤ (2:Int) by unfold lkOk at ho; omega)))) (an (an (show (0:Int) ≤ nw [z0, z1, z2, z3, z4, z5, z6, z7, z8, z9, z10, z11, z12, z13, z14, z15, z16, z17, z18, z19, z20, z21, z22, z23, z24, z25, z26, z27, z28, z29, z30, z31] (lk x lv) by unfold nwOk at hz; omega) (show nw [z0, z1, z2, z3, z4, z5, z6, z7, z8, z9, z10, z11, z12, z13, z14, z15, z16, z17, z18, z19, z20, z21, z22, z23, z24, z25, z26, z27, z28, z29, z30, z31] (lk x lv) + (1:Int) ≤ (1099511627776:Int) by unfold nwOk at hz; omega)) (u3 h2 h1 h0))) (an (an (cKC_2 key x lv (an (ri (nxV x (nw [z0, z1, z2, z3, z4, z5, z6, z7, z8, z9, z10, z11, z12, z13, z14, z15, z16, z17, z18, z19, z20, z21, z22, z23, z24, z25, z26, z27, z28, z29, z30, z31] (lk x lv)))) tt)) (an (zo (cKC_1 b0 b1 b2 b3 b4 b5 b6 b7 b8 b9 b10 b11 b12 b13 b14 b15 z0 z1 z2 z3 z4 z5 z6 z7 z8 z9 z10 z11 z12 z13 z14 z15 z16 z17 z18 z19 z20 z21 z22 z23 z24 z25 z26 z27 z28 z29 z30 (an (ri z31) tt))) (an (zo tt) tt))) tt)) ?_
     kernel_rfl
    · exact ff (by rw [hk] at *; simp at *)
   · exact ff (by simp at *; omega)
  · exact ff (by simp at *; omega)
theorem bf_m (hx : x ≠ -1) (hy : x < key) (ho : lkOk x lv) (hk : kn [b0, b1, b2, b3, b4, b5, b6, b7, b8, b9, b10, b11, b12, b13, b14, b15] (lk x lv) = false) : ∃ hh, vcOf (runAt Try.prog lkS noL 3000 53 [1, 0, 1, 0, 0] (Tr.ofPairs (bfT key fr lv (.s x))) (Hm (bfB [b0, b1, b2, b3, b4, b5, b6, b7, b8, b9, b10, b11, b12, b13, b14, b15] [z0, z1, z2, z3, z4, z5, z6, z7, z8, z9, z10, z11, z12, z13, z14, z15, z16, z17, z18, z19, z20, z21, z22, z23, z24, z25, z26, z27, z28, z29, z30, z31] .nili) 2) hh)
    (roundK 2 [0, 1] (bfT key x lv (.s (-1))) (bfB [b0, b1, b2, b3, b4, b5, b6, b7, b8, b9, b10, b11, b12, b13, b14, b15] [z0, z1, z2, z3, z4, z5, z6, z7, z8, z9, z10, z11, z12, z13, z14, z15, z16, z17, z18, z19, z20, z21, z22, z23, z24, z25, z26, z27, z28, z29, z30, z31] (askV (lk x lv))) True 0 [] [] False) := by

  rcases eb (x != (-1:Int)) with h0 | h0
  ·
   rcases eb (decide (x < key)) with h1 | h1
   ·
    rcases eb (kn [b0, b1, b2, b3, b4, b5, b6, b7, b8, b9, b10, b11, b12, b13, b14, b15] (lk x lv)) with h2 | h2
    · exact ff (by rw [hk] at *; simp at *)
    ·
     refine vcIntro (hx2 3 3) (an (an (an (show (-1:Int) ≤ x by unfold lkOk at ho; omega) (an (show x + (1:Int) ≤ (5:Int) by unfold lkOk at ho; omega) (an (show (0:Int) ≤ lv by unfold lkOk at ho; omega) (show lv + (1:Int) ≤ (2:Int) by unfold lkOk at ho; omega)))) (u3 h2 h1 h0)) (an (an (cKC_2 key x lv (an (ri ((-1:Int))) tt)) (an (zo (cKC_1 b0 b1 b2 b3 b4 b5 b6 b7 b8 b9 b10 b11 b12 b13 b14 b15 z0 z1 z2 z3 z4 z5 z6 z7 z8 z9 z10 z11 z12 z13 z14 z15 z16 z17 z18 z19 z20 z21 z22 z23 z24 z25 z26 z27 z28 z29 z30 (an (ri z31) (ri (lk x lv))))) (an (zo tt) tt))) tt)) ?_
     kernel_rfl
   · exact ff (by simp at *; omega)
  · exact ff (by simp at *; omega)
theorem bf_x (hk : ¬ (x ≠ -1 ∧ x < key)) : ∃ hh, vcOf (runAt Try.prog lkS noL 3000 53 [1, 0, 1, 0, 0] (Tr.ofPairs (bfT key fr lv (.s x))) (Hm (bfB [b0, b1, b2, b3, b4, b5, b6, b7, b8, b9, b10, b11, b12, b13, b14, b15] [z0, z1, z2, z3, z4, z5, z6, z7, z8, z9, z10, z11, z12, z13, z14, z15, z16, z17, z18, z19, z20, z21, z22, z23, z24, z25, z26, z27, z28, z29, z30, z31] .nili) 2) hh)
    (roundK 2 [0, 1] [] [] False 0 (bfT key fr lv (.s x)) (bfB [b0, b1, b2, b3, b4, b5, b6, b7, b8, b9, b10, b11, b12, b13, b14, b15] [z0, z1, z2, z3, z4, z5, z6, z7, z8, z9, z10, z11, z12, z13, z14, z15, z16, z17, z18, z19, z20, z21, z22, z23, z24, z25, z26, z27, z28, z29, z30, z31] .nili) True) := by

  rcases eb (x != (-1:Int)) with h0 | h0
  ·
   rcases eb (decide (x < key)) with h1 | h1
   · exact ff (by simp at *; omega)
   ·
    refine vcIntro (hx2 2 1) (an (u2 h1 h0) (an (an (cKC_0 key fr lv (an (ri x) tt)) (an (zo (cKC_1 b0 b1 b2 b3 b4 b5 b6 b7 b8 b9 b10 b11 b12 b13 b14 b15 z0 z1 z2 z3 z4 z5 z6 z7 z8 z9 z10 z11 z12 z13 z14 z15 z16 z17 z18 z19 z20 z21 z22 z23 z24 z25 z26 z27 z28 z29 z30 (an (ri z31) tt))) (an (zo tt) tt))) tt)) ?_
    kernel_rfl
  ·
   refine vcIntro [false] (an (an h0 tt) (an (an (cKC_0 key fr lv (an (ri x) tt)) (an (zo (cKC_1 b0 b1 b2 b3 b4 b5 b6 b7 b8 b9 b10 b11 b12 b13 b14 b15 z0 z1 z2 z3 z4 z5 z6 z7 z8 z9 z10 z11 z12 z13 z14 z15 z16 z17 z18 z19 z20 z21 z22 z23 z24 z25 z26 z27 z28 z29 z30 (an (ri z31) tt))) (an (zo tt) tt))) tt)) ?_
   kernel_rfl
theorem bf_y (hk : x = -1) : ∃ hh, vcOf (runAt Try.prog lkS noL 3000 53 [1, 0, 1, 0, 0] (Tr.ofPairs (bfT key fr lv (.s x))) (Hm (bfB [b0, b1, b2, b3, b4, b5, b6, b7, b8, b9, b10, b11, b12, b13, b14, b15] [z0, z1, z2, z3, z4, z5, z6, z7, z8, z9, z10, z11, z12, z13, z14, z15, z16, z17, z18, z19, z20, z21, z22, z23, z24, z25, z26, z27, z28, z29, z30, z31] (askV q)) 2) hh)
    (roundK 2 [0, 1] [] [] False 0 (bfT key fr lv (.s x)) (bfB [b0, b1, b2, b3, b4, b5, b6, b7, b8, b9, b10, b11, b12, b13, b14, b15] [z0, z1, z2, z3, z4, z5, z6, z7, z8, z9, z10, z11, z12, z13, z14, z15, z16, z17, z18, z19, z20, z21, z22, z23, z24, z25, z26, z27, z28, z29, z30, z31] (askV q)) True) := by

  rcases eb (x != (-1:Int)) with h0 | h0
  · exact ff (by rw [hk] at *; simp at *)
  ·
   refine vcIntro [false] (an (an h0 tt) (an (an (cKC_0 key fr lv (an (ri x) tt)) (an (zo (cKC_1 b0 b1 b2 b3 b4 b5 b6 b7 b8 b9 b10 b11 b12 b13 b14 b15 z0 z1 z2 z3 z4 z5 z6 z7 z8 z9 z10 z11 z12 z13 z14 z15 z16 z17 z18 z19 z20 z21 z22 z23 z24 z25 z26 z27 z28 z29 z30 (an (ri z31) (ri q)))) (an (zo tt) tt))) tt)) ?_
   kernel_rfl
theorem bf_en : ∃ hh, vcOf (runRet Try.prog lkS noL 3000 53 [1, 0, 1, 0] (.exit 0) (Tr.ofPairs (bfT key fr lv (.s x))) (Hm (bfB [b0, b1, b2, b3, b4, b5, b6, b7, b8, b9, b10, b11, b12, b13, b14, b15] [z0, z1, z2, z3, z4, z5, z6, z7, z8, z9, z10, z11, z12, z13, z14, z15, z16, z17, z18, z19, z20, z21, z22, z23, z24, z25, z26, z27, z28, z29, z30, z31] .nili) 2) hh)
    (fun v H1 => retP 1 [0] v H1 (.int .i64 (.s fr)) (wk1 [b0, b1, b2, b3, b4, b5, b6, b7, b8, b9, b10, b11, b12, b13, b14, b15] [z0, z1, z2, z3, z4, z5, z6, z7, z8, z9, z10, z11, z12, z13, z14, z15, z16, z17, z18, z19, z20, z21, z22, z23, z24, z25, z26, z27, z28, z29, z30, z31] .nili) 1) := by

  refine vcIntro [] (an tt (an (ri fr) (an (zo (cKC_1 b0 b1 b2 b3 b4 b5 b6 b7 b8 b9 b10 b11 b12 b13 b14 b15 z0 z1 z2 z3 z4 z5 z6 z7 z8 z9 z10 z11 z12 z13 z14 z15 z16 z17 z18 z19 z20 z21 z22 z23 z24 z25 z26 z27 z28 z29 z30 (an (ri z31) tt))) tt))) ?_
  kernel_rfl
theorem bf_ea : ∃ hh, vcOf (runRet Try.prog lkS noL 3000 53 [1, 0, 1, 0] (.exit 0) (Tr.ofPairs (bfT key fr lv (.s x))) (Hm (bfB [b0, b1, b2, b3, b4, b5, b6, b7, b8, b9, b10, b11, b12, b13, b14, b15] [z0, z1, z2, z3, z4, z5, z6, z7, z8, z9, z10, z11, z12, z13, z14, z15, z16, z17, z18, z19, z20, z21, z22, z23, z24, z25, z26, z27, z28, z29, z30, z31] (askV q)) 2) hh)
    (fun v H1 => retP 1 [0] v H1 (.int .i64 (.s fr)) (wk1 [b0, b1, b2, b3, b4, b5, b6, b7, b8, b9, b10, b11, b12, b13, b14, b15] [z0, z1, z2, z3, z4, z5, z6, z7, z8, z9, z10, z11, z12, z13, z14, z15, z16, z17, z18, z19, z20, z21, z22, z23, z24, z25, z26, z27, z28, z29, z30, z31] (askV q)) 1) := by

  refine vcIntro [] (an tt (an (ri fr) (an (zo (cKC_1 b0 b1 b2 b3 b4 b5 b6 b7 b8 b9 b10 b11 b12 b13 b14 b15 z0 z1 z2 z3 z4 z5 z6 z7 z8 z9 z10 z11 z12 z13 z14 z15 z16 z17 z18 z19 z20 z21 z22 z23 z24 z25 z26 z27 z28 z29 z30 (an (ri z31) (ri q)))) tt))) ?_
  kernel_rfl
theorem bf_a (ho : lkOk fr lv) : ∃ hh, vcOf (runCall Try.prog noSpec noL 3000 53 [.agg [.ptr 0 (.c 0)], .int .i64 (.s key), .int .i64 (.s fr), .int .i64 (.s lv)] (Hm (wkR [b0, b1, b2, b3, b4, b5, b6, b7, b8, b9, b10, b11, b12, b13, b14, b15] [z0, z1, z2, z3, z4, z5, z6, z7, z8, z9, z10, z11, z12, z13, z14, z15, z16, z17, z18, z19, z20, z21, z22, z23, z24, z25, z26, z27, z28, z29, z30, z31] (askV q)) 1) hh) (fun v H1 => retP 1 [0] v H1 (.int .i64 (.s fr)) [none] 1) := by

  rcases eb (decide ((-1:Int) ≤ fr)) with h0 | h0
  ·
   refine vcIntro [true] (an (an h0 tt) (an (ri fr) tt)) ?_
   kernel_rfl
  · exact ff (by unfold lkOk at ho; simp at *; omega)
end
end Go.Ideal.K6

namespace Go.Ideal.K6
section
open Go.Proofs Go.Ideal Go.Ideal.L1
set_option linter.unusedSimpArgs false
set_option linter.unusedVariables false
set_option maxRecDepth 100000
set_option maxHeartbeats 8000000

/-- The cell that must be known (-1: none), the last key ahead of one. -/
def bfG (bs : List Bool) (zs : List Int) (key lv:Int) : Nat → Int → Int × Int
  | 0, fr => (-1, fr)
  | n + 1, fr => if kn bs (lk fr lv) = true then (if nxV fr (nw zs (lk fr lv)) ≠ -1 ∧ nxV fr (nw zs (lk fr lv)) < key then bfG bs zs key lv n (nxV fr (nw zs (lk fr lv))) else (-1, fr)) else (lk fr lv, fr)
def zsOk (zs : List Int) : Prop := ∀ key lv, lkOk key lv → nwOk zs (lk key lv)
theorem callQ_mono {P : Program} {f : FuncId} {xs : List V} {H : Hp} {K K' : V → Hp → Prop} (h : CallQ P f xs H K) (hk : ∀ v H1, K v H1 → K' v H1) : CallQ P f xs H K' := by
  intro r w ys hH hxs
  refine (h r w ys hH hxs).mono ?_
  rintro e w' ⟨v, H', y, r', hv, rest⟩
  exact ⟨v, H', y, r', hk _ _ hv, rest⟩
structure Bf where
  fr : Int
  x : Int
  a : Option Int
def aV : Option Int → V
  | none => .nili
  | some q => askV q
theorem nxV_ok (key z:Int) : nxV key z = -1 ∨ (key < nxV key z ∧ nxV key z < 5) := by
  unfold nxV; split <;> omega
def bfI (bs : List Bool) (zs : List Int) (key fr0 lv:Int) (s : Bf) : Prop := -1 ≤ s.fr ∧ s.fr < 5 ∧ (match s.a with
  | none => kn bs (lk s.fr lv) = true ∧ s.x = nxV s.fr (nw zs (lk s.fr lv)) ∧ ∃ m : Nat, 5 - s.fr ≤ (m:Int) ∧ bfG bs zs key lv 6 fr0 = bfG bs zs key lv m s.fr
  | some q => s.x = -1 ∧ bfG bs zs key lv 6 fr0 = (q, s.fr) ∧ 2 ≤ q)
/-- Does the walk go on? -/
def bfC (key:Int) (s : Bf) : Prop := s.a = none ∧ s.x ≠ -1 ∧ s.x < key
instance (key:Int) (s : Bf) : Decidable (bfC key s) := by unfold bfC; exact inferInstance
def bfN (bs : List Bool) (zs : List Int) (lv:Int) (s : Bf) : Bf := if kn bs (lk s.x lv) = true then ⟨s.x, nxV s.x (nw zs (lk s.x lv)), none⟩ else ⟨s.x, -1, some (lk s.x lv)⟩
theorem bfI_next {bs : List Bool} {zs : List Int} {key fr0 lv : Int} {s : Bf} (h : bfI bs zs key fr0 lv s) (hl : 0 ≤ lv ∧ lv < 2) (hc : bfC key s) : bfI bs zs key fr0 lv (bfN bs zs lv s) ∧ (if (bfN bs zs lv s).a = none then (6 - (bfN bs zs lv s).fr).toNat else 0) < (if s.a = none then (6 - s.fr).toNat else 0) := by
  obtain ⟨fr, x, a⟩ := s
  obtain ⟨h1, h2, h3⟩ := h
  obtain ⟨rfl, c2, c3⟩ := hc
  simp only at h1 h2 h3 c2 c3
  obtain ⟨g1, g2, m, g3, g4⟩ := h3
  have hx := nxV_ok fr (nw zs (lk fr lv))
  rw [← g2] at hx
  have hxb : fr < x ∧ x < 5 := by rcases hx with h | h; exact absurd h c2; exact h
  obtain ⟨m', rfl⟩ : ∃ m', m = m' + 1 := ⟨m - 1, by omega⟩
  have g5 : bfG bs zs key lv 6 fr0 = bfG bs zs key lv m' x := by
    rw [g4]
    show (if kn bs (lk fr lv) = true then (if nxV fr (nw zs (lk fr lv)) ≠ -1 ∧ nxV fr (nw zs (lk fr lv)) < key then bfG bs zs key lv m' (nxV fr (nw zs (lk fr lv))) else (-1, fr)) else (lk fr lv, fr)) = _
    rw [if_pos g1, ← g2, if_pos ⟨c2, c3⟩]
  unfold bfN
  by_cases hk : kn bs (lk x lv) = true
  · simp only [hk, if_true]
    refine ⟨⟨by simp only; omega, hxb.2, hk, rfl, m', by simp only; omega, g5⟩, by omega⟩
  · simp only [hk, if_false, Bool.false_eq_true]
    refine ⟨⟨by simp only; omega, hxb.2, rfl, ?_, by unfold lk; omega⟩, ?_⟩
    · rw [g5]
      obtain ⟨m2, rfl⟩ : ∃ m2, m' = m2 + 1 := ⟨m' - 1, by omega⟩
      show (if kn bs (lk x lv) = true then _ else (lk x lv, x)) = _
      rw [if_neg hk]
    · simp; omega
theorem bfI_end {bs : List Bool} {zs : List Int} {key fr0 lv : Int} {s : Bf} (h : bfI bs zs key fr0 lv s) (hc : ¬ bfC key s) : (s.a = none → bfG bs zs key lv 6 fr0 = (-1, s.fr)) ∧ ∀ q, s.a = some q → bfG bs zs key lv 6 fr0 = (q, s.fr) ∧ q ≠ -1 := by
  obtain ⟨fr, x, a⟩ := s
  obtain ⟨h1, h2, h3⟩ := h
  cases a with
  | none =>
    obtain ⟨g1, g2, m, g3, g4⟩ := h3
    simp only at g1 g2 g3 g4 h1 h2
    refine ⟨fun _ => ?_, fun q hq => by simp at hq⟩
    obtain ⟨m', rfl⟩ : ∃ m', m = m' + 1 := ⟨m - 1, by omega⟩
    rw [g4]
    show (if kn bs (lk fr lv) = true then (if nxV fr (nw zs (lk fr lv)) ≠ -1 ∧ nxV fr (nw zs (lk fr lv)) < key then _ else (-1, fr)) else (lk fr lv, fr)) = _
    rw [if_pos g1, ← g2, if_neg (fun hh => hc ⟨rfl, hh.1, hh.2⟩)]
  | some q =>
    obtain ⟨g1, g2, g3⟩ := h3
    refine ⟨fun hq => by simp at hq, fun q' hq => ?_⟩
    simp only [Option.some.injEq] at hq
    subst hq
    exact ⟨g2, by omega⟩
theorem bf_q (b0 b1 b2 b3 b4 b5 b6 b7 b8 b9 b10 b11 b12 b13 b14 b15:Bool) (z0 z1 z2 z3 z4 z5 z6 z7 z8 z9 z10 z11 z12 z13 z14 z15 z16 z17 z18 z19 z20 z21 z22 z23 z24 z25 z26 z27 z28 z29 z30 z31:Int) (key fr lv:Int) (ho : lkOk fr lv) (hz : zsOk [z0, z1, z2, z3, z4, z5, z6, z7, z8, z9, z10, z11, z12, z13, z14, z15, z16, z17, z18, z19, z20, z21, z22, z23, z24, z25, z26, z27, z28, z29, z30, z31]) :
    CallQ Try.prog 53 [.agg [.ptr 0 (.c 0)], .int .i64 (.s key), .int .i64 (.s fr), .int .i64 (.s lv)] (Hm (wk1 [b0, b1, b2, b3, b4, b5, b6, b7, b8, b9, b10, b11, b12, b13, b14, b15] [z0, z1, z2, z3, z4, z5, z6, z7, z8, z9, z10, z11, z12, z13, z14, z15, z16, z17, z18, z19, z20, z21, z22, z23, z24, z25, z26, z27, z28, z29, z30, z31] .nili) 1)
      (fun v H1 => retP 1 [0] v H1 (.int .i64 (.s (bfG [b0, b1, b2, b3, b4, b5, b6, b7, b8, b9, b10, b11, b12, b13, b14, b15] [z0, z1, z2, z3, z4, z5, z6, z7, z8, z9, z10, z11, z12, z13, z14, z15, z16, z17, z18, z19, z20, z21, z22, z23, z24, z25, z26, z27, z28, z29, z30, z31] key lv 6 fr).2)) (wk1 [b0, b1, b2, b3, b4, b5, b6, b7, b8, b9, b10, b11, b12, b13, b14, b15] [z0, z1, z2, z3, z4, z5, z6, z7, z8, z9, z10, z11, z12, z13, z14, z15, z16, z17, z18, z19, z20, z21, z22, z23, z24, z25, z26, z27, z28, z29, z30, z31] (if (bfG [b0, b1, b2, b3, b4, b5, b6, b7, b8, b9, b10, b11, b12, b13, b14, b15] [z0, z1, z2, z3, z4, z5, z6, z7, z8, z9, z10, z11, z12, z13, z14, z15, z16, z17, z18, z19, z20, z21, z22, z23, z24, z25, z26, z27, z28, z29, z30, z31] key lv 6 fr).1 = -1 then .nili else askV (bfG [b0, b1, b2, b3, b4, b5, b6, b7, b8, b9, b10, b11, b12, b13, b14, b15] [z0, z1, z2, z3, z4, z5, z6, z7, z8, z9, z10, z11, z12, z13, z14, z15, z16, z17, z18, z19, z20, z21, z22, z23, z24, z25, z26, z27, z28, z29, z30, z31] key lv 6 fr).1)) 1) := by
  have hl : 0 ≤ lv ∧ lv < 2 := ⟨ho.2.2.1, ho.2.2.2⟩
  have key1 : ∀ s0 : Bf, bfI [b0, b1, b2, b3, b4, b5, b6, b7, b8, b9, b10, b11, b12, b13, b14, b15] [z0, z1, z2, z3, z4, z5, z6, z7, z8, z9, z10, z11, z12, z13, z14, z15, z16, z17, z18, z19, z20, z21, z22, z23, z24, z25, z26, z27, z28, z29, z30, z31] key fr lv s0 → (∃ hh, vcOf (runGo Try.prog lkS noL 3000 53 [] [1, 0, 1, 0] (Tr.ofList [.agg [.ptr 0 (.c 0)], .int .i64 (.s key), .int .i64 (.s fr), .int .i64 (.s lv)]) (Hm (wk1 [b0, b1, b2, b3, b4, b5, b6, b7, b8, b9, b10, b11, b12, b13, b14, b15] [z0, z1, z2, z3, z4, z5, z6, z7, z8, z9, z10, z11, z12, z13, z14, z15, z16, z17, z18, z19, z20, z21, z22, z23, z24, z25, z26, z27, z28, z29, z30, z31] .nili) 1) hh) (reached fun T1 H1 => weakP T1 H1 (bfT key s0.fr lv (.s s0.x)) (bfB [b0, b1, b2, b3, b4, b5, b6, b7, b8, b9, b10, b11, b12, b13, b14, b15] [z0, z1, z2, z3, z4, z5, z6, z7, z8, z9, z10, z11, z12, z13, z14, z15, z16, z17, z18, z19, z20, z21, z22, z23, z24, z25, z26, z27, z28, z29, z30, z31] (aV s0.a)) 2)) →
      CallQ Try.prog 53 [.agg [.ptr 0 (.c 0)], .int .i64 (.s key), .int .i64 (.s fr), .int .i64 (.s lv)] (Hm (wk1 [b0, b1, b2, b3, b4, b5, b6, b7, b8, b9, b10, b11, b12, b13, b14, b15] [z0, z1, z2, z3, z4, z5, z6, z7, z8, z9, z10, z11, z12, z13, z14, z15, z16, z17, z18, z19, z20, z21, z22, z23, z24, z25, z26, z27, z28, z29, z30, z31] .nili) 1)
      (fun v H1 => retP 1 [0] v H1 (.int .i64 (.s (bfG [b0, b1, b2, b3, b4, b5, b6, b7, b8, b9, b10, b11, b12, b13, b14, b15] [z0, z1, z2, z3, z4, z5, z6, z7, z8, z9, z10, z11, z12, z13, z14, z15, z16, z17, z18, z19, z20, z21, z22, z23, z24, z25, z26, z27, z28, z29, z30, z31] key lv 6 fr).2)) (wk1 [b0, b1, b2, b3, b4, b5, b6, b7, b8, b9, b10, b11, b12, b13, b14, b15] [z0, z1, z2, z3, z4, z5, z6, z7, z8, z9, z10, z11, z12, z13, z14, z15, z16, z17, z18, z19, z20, z21, z22, z23, z24, z25, z26, z27, z28, z29, z30, z31] (if (bfG [b0, b1, b2, b3, b4, b5, b6, b7, b8, b9, b10, b11, b12, b13, b14, b15] [z0, z1, z2, z3, z4, z5, z6, z7, z8, z9, z10, z11, z12, z13, z14, z15, z16, z17, z18, z19, z20, z21, z22, z23, z24, z25, z26, z27, z28, z29, z30, z31] key lv 6 fr).1 = -1 then .nili else askV (bfG [b0, b1, b2, b3, b4, b5, b6, b7, b8, b9, b10, b11, b12, b13, b14, b15] [z0, z1, z2, z3, z4, z5, z6, z7, z8, z9, z10, z11, z12, z13, z14, z15, z16, z17, z18, z19, z20, z21, z22, z23, z24, z25, z26, z27, z28, z29, z30, z31] key lv 6 fr).1)) 1) := fun s0 h0 go => by
    refine CallQ.loop1 (n := 3000) lkS_ok mixed (fun s : Bf => bfT key s.fr lv (.s s.x)) (fun s => bfB [b0, b1, b2, b3, b4, b5, b6, b7, b8, b9, b10, b11, b12, b13, b14, b15] [z0, z1, z2, z3, z4, z5, z6, z7, z8, z9, z10, z11, z12, z13, z14, z15, z16, z17, z18, z19, z20, z21, z22, z23, z24, z25, z26, z27, z28, z29, z30, z31] (aV s.a)) 2 [0, 1] (fun s => if s.a = none then (6 - s.fr).toNat else 0) (bfI [b0, b1, b2, b3, b4, b5, b6, b7, b8, b9, b10, b11, b12, b13, b14, b15] [z0, z1, z2, z3, z4, z5, z6, z7, z8, z9, z10, z11, z12, z13, z14, z15, z16, z17, z18, z19, z20, z21, z22, z23, z24, z25, z26, z27, z28, z29, z30, z31] key fr lv) (bfN [b0, b1, b2, b3, b4, b5, b6, b7, b8, b9, b10, b11, b12, b13, b14, b15] [z0, z1, z2, z3, z4, z5, z6, z7, z8, z9, z10, z11, z12, z13, z14, z15, z16, z17, z18, z19, z20, z21, z22, z23, z24, z25, z26, z27, z28, z29, z30, z31] lv) (bfC key) 0
      (fun s => bfT key s.fr lv (.s s.x)) (fun s => bfB [b0, b1, b2, b3, b4, b5, b6, b7, b8, b9, b10, b11, b12, b13, b14, b15] [z0, z1, z2, z3, z4, z5, z6, z7, z8, z9, z10, z11, z12, z13, z14, z15, z16, z17, z18, z19, z20, z21, z22, z23, z24, z25, z26, z27, z28, z29, z30, z31] (aV s.a)) (fun s => ¬ bfC key s) (by kernel_rfl) (by kernel_rfl) s0 h0 go (fun s hs => ?_) (fun s hs hc => bfI_next hs hl hc) (fun s hs hc => ?_)
    · obtain ⟨fr', x, a⟩ := s
      have upn : ∀ {ts : List (Nat × V)} {bs : List (Option Blk)} {tx : List (Nat × V)} {bx : List (Option Blk)} {c fin : Prop} {x : Out × Tr V} {H : Hp}, c → roundK 2 [0, 1] ts bs True 0 [] [] False x H → roundK 2 [0, 1] ts bs c 0 tx bx fin x H := by
        intro ts bs tx bx c fin x H hc h
        obtain ⟨oo, T⟩ := x
        cases oo with
        | norm => exact ⟨h.1, hc⟩
        | exit k =>
          simp only [roundK] at h
          split at h
          · exact h.2.elim
          · exact h.elim
        | ret => exact h.elim
      have upx : ∀ {ts : List (Nat × V)} {bs : List (Option Blk)} {tx : List (Nat × V)} {bx : List (Option Blk)} {c fin : Prop} {x : Out × Tr V} {H : Hp}, fin → roundK 2 [0, 1] [] [] False 0 tx bx True x H → roundK 2 [0, 1] ts bs c 0 tx bx fin x H := by
        intro ts bs tx bx c fin x H hf h
        obtain ⟨oo, T⟩ := x
        cases oo with
        | norm => exact h.2.elim
        | exit k =>
          simp only [roundK] at h ⊢
          by_cases hi : Nat.beq k 0 = true
          · rw [if_pos hi] at h ⊢; exact ⟨h.1, hf⟩
          · rw [if_neg hi] at h; exact h.elim
        | ret => exact h.elim
      cases a with
      | some q =>
        obtain ⟨hh, hb⟩ := bf_y b0 b1 b2 b3 b4 b5 b6 b7 b8 b9 b10 b11 b12 b13 b14 b15 z0 z1 z2 z3 z4 z5 z6 z7 z8 z9 z10 z11 z12 z13 z14 z15 z16 z17 z18 z19 z20 z21 z22 z23 z24 z25 z26 z27 z28 z29 z30 z31 key fr' lv x q hs.2.2.1
        exact ⟨hh, vcOf_mono hb fun y H hy => upx (fun hc => by simp [bfC] at hc) hy⟩
      | none =>
        by_cases hc : x ≠ -1 ∧ x < key
        · have hx := nxV_ok fr' (nw [z0, z1, z2, z3, z4, z5, z6, z7, z8, z9, z10, z11, z12, z13, z14, z15, z16, z17, z18, z19, z20, z21, z22, z23, z24, z25, z26, z27, z28, z29, z30, z31] (lk fr' lv))
          have h1 := hs.1
          have h2 := hs.2.2.2.1
          simp only at h1 h2
          rw [← h2] at hx
          have hox : lkOk x lv := by unfold lkOk; omega
          by_cases hk : kn [b0, b1, b2, b3, b4, b5, b6, b7, b8, b9, b10, b11, b12, b13, b14, b15] (lk x lv) = true
          · obtain ⟨hh, hb⟩ := bf_n b0 b1 b2 b3 b4 b5 b6 b7 b8 b9 b10 b11 b12 b13 b14 b15 z0 z1 z2 z3 z4 z5 z6 z7 z8 z9 z10 z11 z12 z13 z14 z15 z16 z17 z18 z19 z20 z21 z22 z23 z24 z25 z26 z27 z28 z29 z30 z31 key fr' lv x hc.1 hc.2 hox (hz _ _ hox) hk
            refine ⟨hh, vcOf_mono hb fun y H hy => upn ⟨rfl, hc.1, hc.2⟩ ?_⟩
            simp only [bfN, hk, if_true]; exact hy
          · obtain ⟨hh, hb⟩ := bf_m b0 b1 b2 b3 b4 b5 b6 b7 b8 b9 b10 b11 b12 b13 b14 b15 z0 z1 z2 z3 z4 z5 z6 z7 z8 z9 z10 z11 z12 z13 z14 z15 z16 z17 z18 z19 z20 z21 z22 z23 z24 z25 z26 z27 z28 z29 z30 z31 key fr' lv x hc.1 hc.2 hox (by simpa using hk)
            refine ⟨hh, vcOf_mono hb fun y H hy => upn ⟨rfl, hc.1, hc.2⟩ ?_⟩
            simp only [bfN, hk, if_false, Bool.false_eq_true]; exact hy
        · obtain ⟨hh, hb⟩ := bf_x b0 b1 b2 b3 b4 b5 b6 b7 b8 b9 b10 b11 b12 b13 b14 b15 z0 z1 z2 z3 z4 z5 z6 z7 z8 z9 z10 z11 z12 z13 z14 z15 z16 z17 z18 z19 z20 z21 z22 z23 z24 z25 z26 z27 z28 z29 z30 z31 key fr' lv x hc
          exact ⟨hh, vcOf_mono hb fun y H hy => upx (fun h => hc ⟨h.2.1, h.2.2⟩) hy⟩
    · obtain ⟨e1, e2⟩ := bfI_end hs hc
      obtain ⟨fr', x, a⟩ := s
      cases a with
      | none =>
        obtain ⟨hh, hb⟩ := bf_en b0 b1 b2 b3 b4 b5 b6 b7 b8 b9 b10 b11 b12 b13 b14 b15 z0 z1 z2 z3 z4 z5 z6 z7 z8 z9 z10 z11 z12 z13 z14 z15 z16 z17 z18 z19 z20 z21 z22 z23 z24 z25 z26 z27 z28 z29 z30 z31 key fr' lv x
        refine ⟨hh, vcOf_mono hb fun v H1 hv => ?_⟩
        rw [e1 rfl]
        simp only [if_true]
        exact hv
      | some q =>
        obtain ⟨hh, hb⟩ := bf_ea b0 b1 b2 b3 b4 b5 b6 b7 b8 b9 b10 b11 b12 b13 b14 b15 z0 z1 z2 z3 z4 z5 z6 z7 z8 z9 z10 z11 z12 z13 z14 z15 z16 z17 z18 z19 z20 z21 z22 z23 z24 z25 z26 z27 z28 z29 z30 z31 key fr' lv x q
        refine ⟨hh, vcOf_mono hb fun v H1 hv => ?_⟩
        obtain ⟨e3, e4⟩ := e2 q rfl
        rw [e3]
        simp only [e4, if_false]
        exact hv
  by_cases hk : kn [b0, b1, b2, b3, b4, b5, b6, b7, b8, b9, b10, b11, b12, b13, b14, b15] (lk fr lv) = true
  · exact key1 ⟨fr, nxV fr (nw [z0, z1, z2, z3, z4, z5, z6, z7, z8, z9, z10, z11, z12, z13, z14, z15, z16, z17, z18, z19, z20, z21, z22, z23, z24, z25, z26, z27, z28, z29, z30, z31] (lk fr lv)), none⟩ ⟨ho.1, ho.2.1, hk, rfl, 6, by have := ho.1; simp only; omega, rfl⟩ (bf_gk b0 b1 b2 b3 b4 b5 b6 b7 b8 b9 b10 b11 b12 b13 b14 b15 z0 z1 z2 z3 z4 z5 z6 z7 z8 z9 z10 z11 z12 z13 z14 z15 z16 z17 z18 z19 z20 z21 z22 z23 z24 z25 z26 z27 z28 z29 z30 z31 key fr lv ho (hz _ _ ho) hk)
  · refine key1 ⟨fr, -1, some (lk fr lv)⟩ ⟨ho.1, ho.2.1, rfl, ?_, by have := ho.1; unfold lk; omega⟩ (bf_gu b0 b1 b2 b3 b4 b5 b6 b7 b8 b9 b10 b11 b12 b13 b14 b15 z0 z1 z2 z3 z4 z5 z6 z7 z8 z9 z10 z11 z12 z13 z14 z15 z16 z17 z18 z19 z20 z21 z22 z23 z24 z25 z26 z27 z28 z29 z30 z31 key fr lv ho (by simpa using hk))
    show (if kn _ (lk fr lv) = true then _ else (lk fr lv, fr)) = _
    rw [if_neg hk]
def bfMk (w:Nat) (bs : List Bool) (zs : List Int) : List Int → Option (List (Bool × Ct) × Ct)
  | [key, fr, lv] => some ([(decide ((bfG bs zs key lv 6 fr).1 = -1), ⟨[w], [0], .int .i64 (.s (bfG bs zs key lv 6 fr).2), [some (wkB bs zs .nili)], 1, [lkOk fr lv, zsOk zs]⟩)], ⟨[w], [0], .int .i64 (.s (bfG bs zs key lv 6 fr).2), [some (wkB bs zs (askV (bfG bs zs key lv 6 fr).1))], 1, [lkOk fr lv, zsOk zs]⟩)
  | _ => none
def bfA (w:Nat) : List Int → Option Ct
  | [key, fr, lv] => some ⟨[w], [], .int .i64 (.s fr), [none], 1, [lkOk fr lv]⟩
  | _ => none
def befS : Spec := spN 53 (wkG 3 bfMk bfA)
theorem befS_ok : SpecOk Try.prog befS := wkG_ok (fun xs H w bs zs us cl z hb hz hu hm hr ht => by
  match us, hu with
  | [key, fr, lv], _ =>
  match bs, hb, zs, hz with
  | [b0, b1, b2, b3, b4, b5, b6, b7, b8, b9, b10, b11, b12, b13, b14, b15], _, [z0, z1, z2, z3, z4, z5, z6, z7, z8, z9, z10, z11, z12, z13, z14, z15, z16, z17, z18, z19, z20, z21, z22, z23, z24, z25, z26, z27, z28, z29, z30, z31], _ =>
  simp only [bfMk, Option.some.injEq, Prod.mk.injEq] at hm
  obtain ⟨rfl, rfl⟩ := hm
  refine ⟨fun hk hcs => ht _ _ _ rfl ?_, fun hk hcs => ht _ _ _ rfl ?_⟩
  · refine CallQ.keep (callQ_mono (bf_q b0 b1 b2 b3 b4 b5 b6 b7 b8 b9 b10 b11 b12 b13 b14 b15 z0 z1 z2 z3 z4 z5 z6 z7 z8 z9 z10 z11 z12 z13 z14 z15 z16 z17 z18 z19 z20 z21 z22 z23 z24 z25 z26 z27 z28 z29 z30 z31 key fr lv (hcs _ (by simp)) (hcs (zsOk _) (by simp))) fun v H1 hv => ⟨[0], ?_⟩)
    rw [if_pos (of_decide_eq_true hk)] at hv
    exact hv
  · refine CallQ.keep (callQ_mono (bf_q b0 b1 b2 b3 b4 b5 b6 b7 b8 b9 b10 b11 b12 b13 b14 b15 z0 z1 z2 z3 z4 z5 z6 z7 z8 z9 z10 z11 z12 z13 z14 z15 z16 z17 z18 z19 z20 z21 z22 z23 z24 z25 z26 z27 z28 z29 z30 z31 key fr lv (hcs _ (by simp)) (hcs (zsOk _) (by simp))) fun v H1 hv => ⟨[0], ?_⟩)
    rw [if_neg (of_decide_eq_false hk)] at hv
    exact hv) (fun w bs zs us q c hb hz hu hm => by
  match us, hu with
  | [key, fr, lv], _ =>
  match bs, hb, zs, hz with
  | [b0, b1, b2, b3, b4, b5, b6, b7, b8, b9, b10, b11, b12, b13, b14, b15], _, [z0, z1, z2, z3, z4, z5, z6, z7, z8, z9, z10, z11, z12, z13, z14, z15, z16, z17, z18, z19, z20, z21, z22, z23, z24, z25, z26, z27, z28, z29, z30, z31], _ =>
  simp only [bfA, Option.some.injEq] at hm
  subst hm
  exact ⟨rfl, rfl, rfl, rfl, fun hcs => callKeep noSpec_ok (bf_a b0 b1 b2 b3 b4 b5 b6 b7 b8 b9 b10 b11 b12 b13 b14 b15 z0 z1 z2 z3 z4 z5 z6 z7 z8 z9 z10 z11 z12 z13 z14 z15 z16 z17 z18 z19 z20 z21 z22 z23 z24 z25 z26 z27 z28 z29 z30 z31 key fr lv q (hcs _ (by simp)))⟩)
def bkS : Spec := orS befS lkS
theorem bkS_ok : SpecOk Try.prog bkS := orS_ok befS_ok lkS_ok
end
end Go.Ideal.K6
