/- The ideal machine: code and calls. Own text; nothing here is trusted. -/
import Derived.Test.YtbcadmnkilckbaaI15
import Derived.Deep.LoopGhost
import Derived.Scope
namespace Go.Ideal
set_option linter.unusedSimpArgs false
set_option linter.unusedVariables false

inductive Out where
  | norm : Out
  | exit (id : Nat) : Out
  | ret : Out

/-- What is told beforehand of calls: nothing (none), that it is not known (some none), or what comes of one. -/
abbrev Spec := FuncId → List V → S → Option (Option (V × S))

def SpecOk (P : Program) (spec : Spec) : Prop :=
  ∀ f xs s v s', spec f xs s = some (some (v, s')) → More s.cs s'.cs ∧ ((∀ q, q ∈ s'.cs → q) → CallOk P f xs s v s')

/-- A part of a text, by the way to it (the last turn first). -/
def child : Code → Nat → Option Code
  | .seq a b, d => if d = 0 then some a else some b
  | .cond _ x y, d => if d = 0 then some x else some y
  | .block _ b, _ => some b
  | .loop b, _ => some b
  | .scope b, _ => some b
  | _, _ => none
def codeAt (c : Code) : List Nat → Option Code
  | [] => some c
  | d :: p => (codeAt c p).bind fun x => child x d

/-- What is told beforehand of the loops of a function, each by the way to it. -/
abbrev LSpec := FuncId → List Nat → Tr V → S → Option (Option (Out × Tr V × S))

def resV (P : Program) (T : Tr V) (H : Hp) : List ResultVar → Option (List V × List Prop)
  | [] => some ([], [])
  | .tmp t :: rs => match resV P T H rs with
    | some (vs, cs) => some (ev T (.tmp t) :: vs, cs)
    | none => none
  | .cell a t :: rs => match loadV P H t (ev T (.tmp a)), resV P T H rs with
    | some (v, c), some (vs, cs) => some (v :: vs, c ++ cs)
    | _, _ => none

def retV (P : Program) (fn : Func) (T : Tr V) (s : S) : Option (V × S) :=
  match resV P T s.H fn.results.toList with
  | some ([v], cs) => some (v, ⟨s.H, s.hs, cs ++ s.cs⟩)
  | some (vs, cs) => some (.tuple vs, ⟨s.H, s.hs, cs ++ s.cs⟩)
  | none => none

/-- A call, by what is told of it, or by its text ('run' runs code). -/
def callV (P : Program) (spec : Spec) (run : FuncId → List Nat → Nat → Code → Tr V → S → Option (Out × Tr V × S)) : CallF := fun f xs s => V.forceL xs fun xs =>
  match spec f xs s with
  | some x => x
  | none => match P.funcs[f]? with
    | some fn => match fn.body with
      | some c => if xs.length ≤ fn.ntmps then match run f [] fn.ntmps c (Tr.ofList xs) s with
          | some (.norm, T, s) => retV P fn T s
          | some (.ret, T, s) => retV P fn T s
          | _ => none
        else none
      | none => none
    | none => none

def condV (T : Tr V) (c : Operand) (s : S) : Option (Bool × Tr V × S) :=
  match c with
  | .tmp t => askT T t s
  | .const (.bool b) => some (b, T, s)
  | _ => none

def code (P : Program) (spec : Spec) (L : LSpec) : Nat → FuncId → List Nat → Nat → Code → Tr V → S → Option (Out × Tr V × S)
  | 0, _, _, _, _, _, _ => none
  | n + 1, f, p, nt, c, T, s =>
    match c with
    | .skip => some (.norm, T, s)
    | .label _ => some (.norm, T, s)
    | .region _ ops draw => match (if draw then drawOps P (callV P spec (code P spec L n)) ops nt T s else seqOps P (callV P spec (code P spec L n)) ops nt ops.toList T s) with
      | some (T, s) => some (.norm, T, s)
      | none => none
    | .seq a b => match code P spec L n f (0 :: p) nt a T s with
      | some (.norm, T, s) => code P spec L n f (1 :: p) nt b T s
      | x => x
    | .cond c x y => match condV T c s with
      | some (b, T, s) => code P spec L n f ((if b then 0 else 1) :: p) nt (if b then x else y) T s
      | none => none
    | .block id body => match code P spec L n f (0 :: p) nt body T s with
      | some (.exit id', T, s) => if id' = id then some (.norm, T, s) else some (.exit id', T, s)
      | x => x
    | .loop body => match L f p T s with
      | some x => x
      | none => match code P spec L n f (0 :: p) nt body T s with
        | some (.norm, T, s) => code P spec L n f p nt (.loop body) T s
        | x => x
    | .scope body => code P spec L n f (0 :: p) nt body T s
    | .exit id => some (.exit id, T, s)
    | .ret => some (.ret, T, s)
    | _ => none

/-- A call from outside. -/
def call (P : Program) (spec : Spec) (L : LSpec) (n : Nat) : CallF := callV P spec (code P spec L n)

/-! ### What it means -/

/-- The way out that came, with what is left of it. -/
def OutOk (r : Rho) (H : Hp) (w : World) (nt : Nat) (out : Out) (T' : Tr V) (H' : Hp) (e : Exit) (a' : Act) (w' : World) : Prop :=
  (match out with | .norm => e = .normal | .exit id => e = .exit id | .ret => e = .ret) ∧ ∃ r', AR r' nt T' a' ∧ Fits r H w r' H' w'

def CodeOk (P : Program) (nt : Nat) (c : Code) (T : Tr V) (s : S) (out : Out) (T' : Tr V) (s' : S) : Prop :=
  ∀ (r : Rho) (w : World) (a : Act), AR r nt T a → HR r s.H w → c.wp P (OutOk r s.H w nt out T' s'.H) a w

/-- A loop, from its head on. -/
def LoopWp (P : Program) (c : Code) (Q : Exit → Act → World → Prop) (a : Act) (w : World) : Prop :=
  ∀ (b : Frame) (k : List Item) (cs : List Frame), ∃ e a' w', Q e a' w' ∧ Arrives P (lone (b.at a (.code c :: .inLoop c :: k)) cs w) b k cs e a' w'

theorem LoopWp.wp {P : Program} {c : Code} {Q : Exit → Act → World → Prop} {a : Act} {w : World} (h : LoopWp P c Q a w) : (Code.loop c).wp P Q a w := fun b k cs =>
  let ⟨e, a', w', hq, harr⟩ := h b k cs
  ⟨e, a', w', hq, .of_steps (.one step_loop) harr⟩

theorem LoopWp.mono {P : Program} {c : Code} {Q Q' : Exit → Act → World → Prop} {a : Act} {w : World} (h : LoopWp P c Q a w) (hq : ∀ e a w, Q e a w → Q' e a w) : LoopWp P c Q' a w := fun b k cs =>
  let ⟨e, a', w', h1, harr⟩ := h b k cs
  ⟨e, a', w', hq _ _ _ h1, harr⟩

/-- One round, then the rest. -/
theorem LoopWp.round {P : Program} {c : Code} {Q : Exit → Act → World → Prop} {a : Act} {w : World} (h : c.wp P (Exit.then (LoopWp P c Q) Q) a w) : LoopWp P c Q a w := by
  intro b k cs
  obtain ⟨e, a₁, w₁, hq, harr⟩ := h b (.inLoop c :: k) cs
  cases e with
  | normal =>
    obtain ⟨e₂, a₂, w₂, hq₂, harr₂⟩ := hq b k cs
    exact ⟨e₂, a₂, w₂, hq₂, .of_steps (Steps.trans harr (.one step_inLoop)) harr₂⟩
  | exit id => exact ⟨_, a₁, w₁, hq, .pass (x := .inLoop c) rfl (fun _ _ => .inl (by simp)) harr⟩
  | goto l => exact ⟨_, a₁, w₁, hq, .pass (x := .inLoop c) rfl (fun _ _ => .inl (by simp)) harr⟩
  | ret => exact ⟨_, a₁, w₁, hq, .pass (x := .inLoop c) rfl (fun _ _ => .inl (by simp)) harr⟩
  | panic ch => exact ⟨_, a₁, w₁, hq, .pass (x := .inLoop c) rfl (fun _ _ => .inl (by simp)) harr⟩
  | outgrown => exact ⟨_, a₁, w₁, hq, .pass (x := .inLoop c) rfl (fun _ _ => .inl (by simp)) harr⟩

def LoopOk (P : Program) (nt : Nat) (body : Code) (T : Tr V) (s : S) (out : Out) (T' : Tr V) (s' : S) : Prop :=
  ∀ (r : Rho) (w : World) (a : Act), AR r nt T a → HR r s.H w → LoopWp P body (OutOk r s.H w nt out T' s'.H) a w

def LSpecOk (P : Program) (L : LSpec) : Prop :=
  ∀ f fn c p body T s out T' s', P.funcs[f]? = some fn → fn.body = some c → codeAt c p = some (.loop body) → L f p T s = some (some (out, T', s')) →
    More s.cs s'.cs ∧ ((∀ q, q ∈ s'.cs → q) → LoopOk P fn.ntmps body T s out T' s')

section
variable {P : Program} {spec : Spec} {L : LSpec}

theorem resV_ok {nt : Nat} {T : Tr V} {H : Hp} {r : Rho} {a : Act} {w : World} (hA : AR r nt T a) (hH : HR r H w) {g : ResultVar → Sem Value} (g1 : ∀ t, g (.tmp t) = pure (a.tmps.getD t undef))
    (g2 : ∀ x t, g (.cell x t) = (do loadVar t (← asAddr (a.tmps.getD x undef)))) : ∀ (rs : List ResultVar) (vs : List V) (cs : List Prop), resV P T H rs = some (vs, cs) → (∀ q, q ∈ cs → q) →
    ∃ ys : List Value, (rs.mapM g).run P w = .ok ys w ∧ VRs r vs ys
  | [], vs, cs, h, _ => by
    simp only [resV, Option.some.injEq, Prod.mk.injEq] at h
    obtain ⟨rfl, rfl⟩ := h
    exact ⟨[], by simp, by simp only [VRs]⟩
  | .tmp t :: rs, vs, cs, h, hcs => by
    simp only [resV] at h
    split at h
    · rename_i us ds hr
      simp only [Option.some.injEq, Prod.mk.injEq] at h
      obtain ⟨rfl, rfl⟩ := h
      obtain ⟨ys, hys, hv⟩ := resV_ok hA hH g1 g2 rs us ds hr hcs
      refine ⟨a.tmps.getD t undef :: ys, ?_, by simp only [VRs]; exact ⟨_, _, rfl, ev_ok hA (.tmp t), hv⟩⟩
      simp only [List.mapM_cons, g1, Sem.run_bind, Sem.run_pure, Result.andThen_ok, hys]
    · simp at h
  | .cell x t :: rs, vs, cs, h, hcs => by
    simp only [resV] at h
    split at h
    · rename_i v c us ds hl hr
      simp only [Option.some.injEq, Prod.mk.injEq] at h
      obtain ⟨rfl, rfl⟩ := h
      obtain ⟨ys, hys, hv⟩ := resV_ok hA hH g1 g2 rs us ds hr (fun q hq => hcs q (List.mem_append_right _ hq))
      have hx := ev_ok hA (.tmp x)
      obtain ⟨y, hy, hvy⟩ := loadV_ok (P := P) hH hl (fun q hq => hcs q (List.mem_append_left _ hq)) hx
      refine ⟨y :: ys, ?_, by simp only [VRs]; exact ⟨_, _, rfl, hvy, hv⟩⟩
      have hptr : ∃ b, a.tmps.getD x undef = .pointer (some b) := by
        unfold loadV at hl
        split at hl
        · rename_i b o hev
          rw [hev] at hx
          simp only [VR, Act.eval] at hx
          exact ⟨_, hx.2⟩
        · simp at hl
      obtain ⟨b, hb⟩ := hptr
      simp only [Act.eval, hb, Instr.loadAt, Instr.sureAddr, Sem.run_bind, Sem.run_pure, Result.andThen_ok] at hy
      simp only [List.mapM_cons, g2, Sem.run_bind, hb, asAddr, Sem.run_pure, Result.andThen_ok, hy, hys]
    · simp at h

theorem retV_more {fn : Func} {T : Tr V} {s s' : S} {v : V} (h : retV P fn T s = some (v, s')) : More s.cs s'.cs ∧ s'.H = s.H := by
  unfold retV at h
  split at h <;> simp only [Option.some.injEq, Prod.mk.injEq, reduceCtorEq] at h
  · obtain ⟨_, rfl⟩ := h; exact ⟨More.append _ _, rfl⟩
  · obtain ⟨_, rfl⟩ := h; exact ⟨More.append _ _, rfl⟩

/-- The results, with the way they are read set apart. -/
theorem results_run {fn : Func} {tmps : Array Value} {w : World} {ys : List Value} (h : ∀ g : ResultVar → Sem Value, (∀ t, g (.tmp t) = pure (tmps.getD t undef)) → (∀ x t, g (.cell x t) = (do loadVar t (← asAddr (tmps.getD x undef)))) → (fn.results.toList.mapM g).run P w = .ok ys w) :
    (results fn tmps).run P w = .ok (if ys.length = 1 then ys.headD undef else .tuple ys.toArray) w := by
  unfold results
  rw [Array.mapM_eq_mapM_toList]
  generalize hg : (fun (x : ResultVar) => (match x with | .tmp t => pure (tmps.getD t undef) | .cell a t => do loadVar t (← asAddr (tmps.getD a undef)) : Sem Value)) = g
  have := h g (fun t => by rw [← hg]) (fun x t => by rw [← hg])
  simp only [Sem.run_bind, Sem.run_map]
  rw [this]
  simp only [Result.andThen_ok]
  rcases ys with _ | ⟨y, _ | ⟨z, ys⟩⟩ <;> simp

theorem retV_ok {fn : Func} {nt : Nat} {T : Tr V} {s s' : S} {v : V} {r : Rho} {a : Act} {w : World} (h : retV P fn T s = some (v, s')) (hcs : ∀ q, q ∈ s'.cs → q) (hA : AR r nt T a) (hH : HR r s.H w) :
    ∃ y, (results fn a.tmps).run P w = .ok y w ∧ VR r v y := by
  unfold retV at h
  have key : ∀ vs cs, resV P T s.H fn.results.toList = some (vs, cs) → (∀ q, q ∈ cs → q) → ∃ ys : List Value, (results fn a.tmps).run P w = .ok (if ys.length = 1 then ys.headD undef else .tuple ys.toArray) w ∧ VRs r vs ys := by
    intro vs cs hr hq
    have hx : ∃ ys : List Value, (∀ g : ResultVar → Sem Value, (∀ t, g (.tmp t) = pure (a.tmps.getD t undef)) → (∀ x t, g (.cell x t) = (do loadVar t (← asAddr (a.tmps.getD x undef)))) → (fn.results.toList.mapM g).run P w = .ok ys w) ∧ VRs r vs ys := by
      obtain ⟨ys, hys, hv⟩ := resV_ok (P := P) hA hH (g := fun | .tmp t => pure (a.tmps.getD t undef) | .cell x t => do loadVar t (← asAddr (a.tmps.getD x undef))) (fun t => rfl) (fun x t => rfl) fn.results.toList vs cs hr hq
      refine ⟨ys, fun g g1 g2 => ?_, hv⟩
      have : g = (fun | .tmp t => pure (a.tmps.getD t undef) | .cell x t => do loadVar t (← asAddr (a.tmps.getD x undef))) := by
        funext x; cases x with
        | tmp t => exact g1 t
        | cell x t => exact g2 x t
      rw [this]; exact hys
    obtain ⟨ys, hys, hv⟩ := hx
    exact ⟨ys, results_run hys, hv⟩
  split at h
  · rename_i u cs hr
    simp only [Option.some.injEq, Prod.mk.injEq] at h
    obtain ⟨rfl, rfl⟩ := h
    obtain ⟨ys, hys, hv⟩ := key [u] cs hr (fun q hq => hcs q (List.mem_append_left _ hq))
    simp only [VRs] at hv
    obtain ⟨z, zs, rfl, hz, rfl⟩ := hv
    exact ⟨z, by simpa using hys, hz⟩
  · rename_i vs cs hne hr
    simp only [Option.some.injEq, Prod.mk.injEq] at h
    obtain ⟨rfl, rfl⟩ := h
    obtain ⟨ys, hys, hv⟩ := key vs cs hr (fun q hq => hcs q (List.mem_append_left _ hq))
    have hl := VRs.length _ _ hv
    have hn1 : ¬ ys.length = 1 := by
      intro h1
      rw [hl] at h1
      match vs, h1 with
      | [u], _ => exact hne u rfl
    exact ⟨.tuple ys.toArray, by rw [hys, if_neg hn1], by simp only [VR]; exact ⟨ys, rfl, hv⟩⟩
  · simp at h

/-- What is asked of a runner of code. -/
def RunOk (P : Program) (run : FuncId → List Nat → Nat → Code → Tr V → S → Option (Out × Tr V × S)) : Prop :=
  ∀ f fn c0 p c T s out T' s', P.funcs[f]? = some fn → fn.body = some c0 → codeAt c0 p = some c → run f p fn.ntmps c T s = some (out, T', s') → More s.cs s'.cs ∧ ((∀ q, q ∈ s'.cs → q) → CodeOk P fn.ntmps c T s out T' s')

theorem AR.enter {r : Rho} {xs : List V} {ys : Array Value} {nt : Nat} (h : VRs r xs ys.toList) (hl : xs.length ≤ nt) : AR r nt (Tr.ofList xs) { tmps := ys ++ Array.replicate (nt - ys.size) undef, defers := [] } := by
  have hlen := VRs.length _ _ h
  simp only [Array.length_toList] at hlen
  refine ⟨by simp; omega, rfl, fun t v ht => ?_⟩
  rw [Tr.get_ofList] at ht
  obtain ⟨y, hy, hv⟩ := VRs.get _ _ h t v ht
  have : (ys ++ Array.replicate (nt - ys.size) undef).getD t undef = y := by
    have hy' : ys[t]? = some y := by simpa using hy
    have hlt : t < ys.size := (Array.getElem?_eq_some_iff.1 hy').1
    rw [Array.getD_eq_getD_getElem?, Array.getElem?_append_left hlt, hy']
    rfl
  rw [this]; exact hv

theorem callV_ok {run : FuncId → List Nat → Nat → Code → Tr V → S → Option (Out × Tr V × S)} (hs : SpecOk P spec) (hr : RunOk P run) : CallFOk P (callV P spec run) := by
  intro f xs s v s' h
  unfold callV at h
  rw [V.forceL_eq] at h
  split at h
  · rename_i x hsp
    subst h
    exact hs f xs s v s' hsp
  · split at h
    · rename_i fn hf
      split at h
      · rename_i c hb
        split at h
        · rename_i hle
          have fin : ∀ out T1 s1, (out = .norm ∨ out = .ret) → run f [] fn.ntmps c (Tr.ofList xs) s = some (out, T1, s1) → retV P fn T1 s1 = some (v, s') → More s.cs s'.cs ∧ ((∀ q, q ∈ s'.cs → q) → CallOk P f xs s v s') := by
            intro out T1 s1 hout hrun hret
            obtain ⟨hm, hc⟩ := hr f fn c [] c _ _ _ _ _ hf hb rfl hrun
            obtain ⟨hm2, hH2⟩ := retV_more hret
            refine ⟨hm.trans hm2, fun hcs => ?_⟩
            have hc := hc (fun q hq => hcs q (hm2 q hq))
            intro r w ys hH hxs
            have hsz : ys.size = xs.length := by have := VRs.length _ _ hxs; simpa using this
            refine calls_of_wp hf hb (wp_mono (hc r w _ (AR.enter hxs hle) hH) ?_)
            rintro e a' w' ⟨he, r', hA', hfit⟩
            obtain ⟨y, hy, hv⟩ := retV_ok hret hcs hA' hfit.hr
            rcases hout with rfl | rfl
            · simp only at he
              subst he
              exact ⟨hA'.defers, y, hy, y, r', rfl, hv, by rw [hH2]; exact hfit⟩
            · simp only at he
              subst he
              exact ⟨hA'.defers, y, hy, y, r', rfl, hv, by rw [hH2]; exact hfit⟩
          split at h
          · rename_i T1 s1 hrun; exact fin _ _ _ (.inl rfl) hrun h
          · rename_i T1 s1 hrun; exact fin _ _ _ (.inr rfl) hrun h
          · simp at h
        · simp at h
      · simp at h
    · simp at h

theorem condV_ok {nt : Nat} {T T' : Tr V} {c : Operand} {s s' : S} {b : Bool} (h : condV T c s = some (b, T', s')) :
    More s.cs s'.cs ∧ s'.H = s.H ∧ ((∀ q, q ∈ s'.cs → q) → ∀ r a, AR r nt T a → AR r nt T' a ∧ a.eval c = .bool b) := by
  unfold condV at h
  split at h
  · exact askT_ok h
  · simp only [Option.some.injEq, Prod.mk.injEq] at h
    obtain ⟨rfl, rfl, rfl⟩ := h
    exact ⟨More.refl _, rfl, fun _ r a hA => ⟨hA, rfl⟩⟩
  · simp at h

theorem OutOk.trans {r r1 : Rho} {H H1 H2 : Hp} {w w1 : World} {nt : Nat} {out : Out} {T' : Tr V} {e : Exit} {a' : Act} {w' : World} (hf : Fits r H w r1 H1 w1) (h : OutOk r1 H1 w1 nt out T' H2 e a' w') : OutOk r H w nt out T' H2 e a' w' :=
  ⟨h.1, let ⟨r', hA, hf'⟩ := h.2; ⟨r', hA, hf.trans hf'⟩⟩

theorem codeAt_cons {c0 c c' : Code} {p : List Nat} {d : Nat} (h : codeAt c0 p = some c) (hd : child c d = some c') : codeAt c0 (d :: p) = some c' := by
  simp [codeAt, h, hd]

theorem code_ok_lt (hs : SpecOk P spec) (hL : LSpecOk P L) (hmo : P.follows .mixedOrders = true) : ∀ N n, n < N → RunOk P (code P spec L n)
  | 0, _, hN => absurd hN (Nat.not_lt_zero _)
  | N + 1, 0, _ => fun f fn c0 p c T s out T' s' hf hb hp h => by simp [code] at h
  | N + 1, n + 1, hN => fun f fn c0 p c T s out T' s' hf hb hp h => by
    have ihN := code_ok_lt hs hL hmo N
    have ih := ihN n (Nat.lt_of_succ_lt_succ hN)
    have hcf := callV_ok hs ih
    have horig := h
    unfold code at h
    split at h
    · simp only [Option.some.injEq, Prod.mk.injEq] at h
      obtain ⟨rfl, rfl, rfl⟩ := h
      exact ⟨More.refl _, fun _ r w a hA hH => wp_skip ⟨rfl, r, hA, Fits.refl hH⟩⟩
    · simp only [Option.some.injEq, Prod.mk.injEq] at h
      obtain ⟨rfl, rfl, rfl⟩ := h
      exact ⟨More.refl _, fun _ r w a hA hH => wp_label ⟨rfl, r, hA, Fits.refl hH⟩⟩
    · rename_i id ops draw
      cases draw
      · simp only [Bool.false_eq_true, if_false] at h
        split at h
        · rename_i T1 s1 hrun
          simp only [Option.some.injEq, Prod.mk.injEq] at h
          obtain ⟨rfl, rfl, rfl⟩ := h
          refine ⟨seqOps_more hcf _ _ _ _ _ hrun, fun hcs r w a hA hH => wp_region ?_⟩
          have := seqOps_ok hcf (Q := OutOk r s.H w fn.ntmps .norm T1 s1.H) ops.toList 0 T T1 s s1 r w a (fun j => by simp) hrun hcs hA hH (fun a' w' r' hA' hf => ⟨rfl, r', hA', hf⟩)
          rw [List.range_eq_range']
          simpa using this
        · simp at h
      · simp only [if_true] at h
        split at h
        · rename_i T1 s1 hrun
          simp only [Option.some.injEq, Prod.mk.injEq] at h
          obtain ⟨rfl, rfl, rfl⟩ := h
          exact ⟨drawOps_more hcf hrun, fun hcs r w a hA hH => drawOps_ok hcf hmo hrun hcs hA hH (fun a' w' r' hA' hf => ⟨rfl, r', hA', hf⟩)⟩
        · simp at h
    · rename_i x y
      split at h
      · rename_i T1 s1 hx
        obtain ⟨hm1, hc1⟩ := ih f fn c0 _ _ _ _ _ _ _ hf hb (codeAt_cons hp rfl) hx
        obtain ⟨hm2, hc2⟩ := ih f fn c0 _ _ _ _ _ _ _ hf hb (codeAt_cons hp rfl) h
        refine ⟨hm1.trans hm2, fun hcs r w a hA hH => wp_seq (wp_mono (hc1 (fun q hq => hcs q (hm2 q hq)) r w a hA hH) ?_)⟩
        rintro e a' w' ⟨he, r', hA', hf⟩
        simp only at he
        subst he
        exact wp_mono (hc2 hcs r' w' a' hA' hf.hr) fun e2 a2 w2 h2 => OutOk.trans hf h2
      · rename_i hx
        have hne : out ≠ .norm := by
          rintro rfl
          exact hx _ _ h
        obtain ⟨hm1, hc1⟩ := ih f fn c0 _ _ _ _ _ _ _ hf hb (codeAt_cons hp rfl) h
        refine ⟨hm1, fun hcs r w a hA hH => wp_seq (wp_mono (hc1 hcs r w a hA hH) ?_)⟩
        intro e a' w' ho
        have he := ho.1
        cases out with
        | norm => exact absurd rfl hne
        | exit id => simp only at he; subst he; exact ho
        | ret => simp only at he; subst he; exact ho
    · rename_i c x y
      split at h
      · rename_i b T1 s1 hcnd
        obtain ⟨hm1, hH1, hA1⟩ := condV_ok (nt := fn.ntmps) hcnd
        obtain ⟨hm2, hc2⟩ := ih f fn c0 _ _ _ _ _ _ _ hf hb (codeAt_cons hp (by cases b <;> rfl)) h
        refine ⟨hm1.trans hm2, fun hcs r w a hA hH => ?_⟩
        obtain ⟨hA1, hev⟩ := hA1 (fun q hq => hcs q (hm2 q hq)) r a hA
        have := hc2 hcs r w a hA1 (hH1 ▸ hH)
        rw [hH1] at this
        exact wp_cond hev this
      · simp at h
    · rename_i id body
      split at h
      · rename_i id' T1 s1 hbd
        obtain ⟨hm1, hc1⟩ := ih f fn c0 _ _ _ _ _ _ _ hf hb (codeAt_cons hp rfl) hbd
        split at h
        · rename_i hid
          simp only [Option.some.injEq, Prod.mk.injEq] at h
          obtain ⟨rfl, rfl, rfl⟩ := h
          refine ⟨hm1, fun hcs r w a hA hH => wp_block (wp_mono (hc1 hcs r w a hA hH) ?_)⟩
          rintro e a' w' ⟨he, h2⟩
          simp only at he
          subst he
          simp only [Exit.inBlock, hid, if_true]
          exact ⟨rfl, h2⟩
        · rename_i hid
          simp only [Option.some.injEq, Prod.mk.injEq] at h
          obtain ⟨rfl, rfl, rfl⟩ := h
          refine ⟨hm1, fun hcs r w a hA hH => wp_block (wp_mono (hc1 hcs r w a hA hH) ?_)⟩
          rintro e a' w' ⟨he, h2⟩
          simp only at he
          subst he
          simp only [Exit.inBlock, hid, if_false]
          exact ⟨rfl, h2⟩
      · rename_i hbd
        obtain ⟨hm1, hc1⟩ := ih f fn c0 _ _ _ _ _ _ _ hf hb (codeAt_cons hp rfl) h
        refine ⟨hm1, fun hcs r w a hA hH => wp_block (wp_mono (hc1 hcs r w a hA hH) ?_)⟩
        intro e a' w' ho
        have he := ho.1
        cases out with
        | norm => simp only at he; subst he; exact ho
        | exit id' => exact absurd h (hbd _ _ _)
        | ret => simp only at he; subst he; exact ho
    · rename_i body
      have hp0 : codeAt c0 (0 :: p) = some body := codeAt_cons hp rfl
      have key : ∀ m T1 s1, m < N + 1 → code P spec L m f p fn.ntmps (.loop body) T1 s1 = some (out, T', s') →
          More s1.cs s'.cs ∧ ((∀ q, q ∈ s'.cs → q) → LoopOk P fn.ntmps body T1 s1 out T' s') := by
        intro m
        induction m with
        | zero => intro T1 s1 _ h1; simp [code] at h1
        | succ m ihm =>
          intro T1 s1 hm h1
          simp only [code] at h1
          split at h1
          · rename_i x hx
            subst h1
            exact hL f fn c0 p body T1 s1 out T' s' hf hb hp hx
          · split at h1
            · rename_i T2 s2 hbd
              obtain ⟨hm1, hc1⟩ := (ihN m (Nat.lt_of_succ_lt_succ hm)) f fn c0 _ _ _ _ _ _ _ hf hb hp0 hbd
              obtain ⟨hm2, hc2⟩ := ihm T2 s2 (Nat.lt_of_succ_lt hm) h1
              refine ⟨hm1.trans hm2, fun hcs r w a hA hH => .round (wp_mono (hc1 (fun q hq => hcs q (hm2 q hq)) r w a hA hH) ?_)⟩
              rintro e a2 w2 ⟨he, r2, hA2, hf2⟩
              simp only at he
              subst he
              exact (hc2 hcs r2 w2 a2 hA2 hf2.hr).mono fun e a w h2 => OutOk.trans hf2 h2
            · rename_i hbd
              obtain ⟨hm1, hc1⟩ := (ihN m (Nat.lt_of_succ_lt_succ hm)) f fn c0 _ _ _ _ _ _ _ hf hb hp0 h1
              refine ⟨hm1, fun hcs r w a hA hH => .round (wp_mono (hc1 hcs r w a hA hH) ?_)⟩
              intro e a2 w2 ho
              have he := ho.1
              cases out with
              | norm => exact absurd h1 (hbd _ _)
              | exit id => simp only at he; subst he; exact ho
              | ret => simp only at he; subst he; exact ho
      obtain ⟨h1, h2⟩ := key (n + 1) T s hN horig
      exact ⟨h1, fun hcs r w a hA hH => (h2 hcs r w a hA hH).wp⟩
    · rename_i body
      obtain ⟨hm1, hc1⟩ := ih f fn c0 _ _ _ _ _ _ _ hf hb (codeAt_cons hp rfl) h
      refine ⟨hm1, fun hcs r w a hA hH => wp_scope_straight (wp_mono (hc1 hcs r w a hA hH) ?_)⟩
      intro e a' w' ho
      have he := ho.1
      cases out <;> simp only at he <;> subst he <;> exact ho
    · simp only [Option.some.injEq, Prod.mk.injEq] at h
      obtain ⟨rfl, rfl, rfl⟩ := h
      exact ⟨More.refl _, fun _ r w a hA hH => wp_exit ⟨rfl, r, hA, Fits.refl hH⟩⟩
    · simp only [Option.some.injEq, Prod.mk.injEq] at h
      obtain ⟨rfl, rfl, rfl⟩ := h
      exact ⟨More.refl _, fun _ r w a hA hH => wp_ret ⟨rfl, r, hA, Fits.refl hH⟩⟩
    · simp at h

theorem code_ok (hs : SpecOk P spec) (hL : LSpecOk P L) (hmo : P.follows .mixedOrders = true) (n : Nat) : RunOk P (code P spec L n) := code_ok_lt hs hL hmo (n + 1) n (Nat.lt_succ_self n)

theorem call_ok (hs : SpecOk P spec) (hL : LSpecOk P L) (hmo : P.follows .mixedOrders = true) (n : Nat) : CallFOk P (call P spec L n) := callV_ok hs (code_ok hs hL hmo n)

end
end Go.Ideal
