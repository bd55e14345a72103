/- The ideal machine: operations one behind the other. Own text; nothing here is trusted. -/
import Derived.Test.YtbcadmnkilckbaaI13
namespace Go.Ideal
set_option linter.unusedSimpArgs false
set_option linter.unusedVariables false

/-- The state beside the temporaries: the memory; the outcomes that are foretold for bools that are not looked into; what must hold. -/
structure S where
  H : Hp
  hs : List Bool
  cs : List Prop

abbrev CallF := FuncId → List V → S → Option (V × S)

def askT (T : Tr V) (t : Tmp) (s : S) : Option (Bool × Tr V × S) :=
  match T.get t with
  | some (.bool (.c b)) => some (b, T, s)
  | some (.bool (.s b)) => match s.hs with
    | h :: hs => some (h, T.set t (some (.bool (.c h))), ⟨s.H, hs, (b = h) :: s.cs⟩)
    | [] => none
  | _ => none

def wantedG (ops : Array Oper) (o : Oper) (T : Tr V) (s : S) : Option (Bool × Tr V × S) :=
  match o.guard with
  | none => some (true, T, s)
  | some (g, want) => match (ops[g]?).bind (·.dst) with
    | some d => match T.get d with
      | some (.tuple _) => some (false, T, s)
      | _ => match askT T d s with
        | some (b, T, s) => some (b == want, T, s)
        | none => none
    | none => none

/-- A number that is not looked into is guessed: is it m, m + 1, ..? -/
def pinFrom (T : Tr V) (t : Tmp) (k : IntKind) (x : Int) : Nat → Nat → S → Option (Tr V × S)
  | 0, _, _ => none
  | n + 1, m, s => match s.hs with
    | [] => none
    | h :: hs => match h with
      | true => Nat.forced m fun m => some (T.set t (some (.int k (.c (Int.ofNat m)))), ⟨s.H, hs, (decide (x = Int.ofNat m) = true) :: s.cs⟩)
      | false => Nat.forced m fun m => pinFrom T t k x n (m + 1) ⟨s.H, hs, (decide (x = Int.ofNat m) = false) :: s.cs⟩
def V.rigid : V → Bool
  | .any => false
  | .int _ _ => false
  | _ => true
def Blk.loose : Blk → Bool
  | .own _ _ _ n rest => match n with
    | 0 => rest.any V.rigid
    | _ + 1 => false
  | _ => false
def looseV (H : Hp) : V → Bool
  | .ptr b _ => match H.tr.get b with | some B => B.loose | none => false
  | .slice b _ _ _ _ => match H.tr.get b with | some B => B.loose | none => false
  | .agg _ => true
  | _ => false
/-- Where a place among mixed cells is not looked into. -/
def pinsAt (op : Op) (T : Tr V) (H : Hp) : Option (Tmp × IntKind × Int) :=
  match op with
  | .indexAddr _ x (.tmp t) => match T.get t with
    | some (.int k (.s e)) => if looseV H (ev T x) then some (t, k, e) else none
    | _ => none
  | .index _ x (.tmp t) => match T.get t with
    | some (.int k (.s e)) => if looseV H (ev T x) then some (t, k, e) else none
    | _ => none
  | _ => none
def pinV (op : Op) (T : Tr V) (s : S) : Option (Tr V × S) :=
  match pinsAt op T s.H with
  | some (t, k, e) => pinFrom T t k e 64 0 s
  | none => some (T, s)
def wantedV (ops : Array Oper) (o : Oper) (T : Tr V) (s : S) : Option (Bool × Tr V × S) :=
  match wantedG ops o T s with
  | some (b, T, s) => match b with
    | true => match pinV o.op T s with
      | some (T, s) => some (true, T, s)
      | none => none
    | false => some (false, T, s)
  | none => none

def putT (nt : Nat) (T : Tr V) (dst : Option Tmp) (v : V) : Option (Tr V) :=
  match dst with
  | none => some T
  | some d => if d < nt then v.force fun v => some (T.set d (some v)) else none

def stepV (P : Program) (cf : CallF) (T : Tr V) (op : Op) (s : S) : Option (V × S) :=
  match opV P T s.H op with
  | some (.val v H, cs) => some (v, ⟨H, s.hs, cs ++ s.cs⟩)
  | some (.call f xs, cs) => cf f xs ⟨s.H, s.hs, cs ++ s.cs⟩
  | none => none

def seqOps (P : Program) (cf : CallF) (ops : Array Oper) (nt : Nat) : List Oper → Tr V → S → Option (Tr V × S)
  | [], T, s => some (T, s)
  | o :: os, T, s => match wantedV ops o T s with
    | some (true, T, s) => match stepV P cf T o.op s with
      | some (v, s) => match putT nt T o.dst v with
        | some T => seqOps P cf ops nt os T s
        | none => none
      | none => none
    | some (false, T, s) => match putT nt T o.dst (.tuple []) with
      | some T => seqOps P cf ops nt os T s
      | none => none
    | none => none

/-! ### What it means -/

/-- From one memory and world on to others. -/
structure Fits (r : Rho) (H : Hp) (w : World) (r' : Rho) (H' : Hp) (w' : World) : Prop where
  ext : Ext r r'
  hr : HR r' H' w'
  kept : Kept (Mine r H) w w'
  mine : ∀ k, k < w.heap.size → Mine r' H' k → Mine r H k

theorem Fits.refl {r : Rho} {H : Hp} {w : World} (h : HR r H w) : Fits r H w r H w := ⟨Ext.refl _, h, Kept.refl _ _, fun _ _ h => h⟩
theorem Fits.trans {r r1 r2 : Rho} {H H1 H2 : Hp} {w w1 w2 : World} (h : Fits r H w r1 H1 w1) (k : Fits r1 H1 w1 r2 H2 w2) : Fits r H w r2 H2 w2 :=
  ⟨h.ext.trans k.ext, k.hr, h.kept.trans k.kept (fun i hi hm => h.mine i hi hm), fun i hi hm => h.mine i hi (k.mine i (Nat.lt_of_lt_of_le hi h.kept.size) hm)⟩

/-- More must hold. -/
def More (cs ds : List Prop) : Prop := ∀ q, q ∈ cs → q ∈ ds
theorem More.refl (cs : List Prop) : More cs cs := fun _ h => h
theorem More.trans {a b c : List Prop} (h : More a b) (k : More b c) : More a c := fun q hq => k q (h q hq)
theorem More.append (cs ds : List Prop) : More cs (ds ++ cs) := fun _ h => List.mem_append_right _ h
theorem More.cons (q : Prop) (cs : List Prop) : More cs (q :: cs) := fun _ h => List.mem_cons_of_mem _ h

/-- A call that comes back. -/
def CallOk (P : Program) (f : FuncId) (xs : List V) (s : S) (v : V) (s' : S) : Prop :=
  ∀ (r : Rho) (w : World) (ys : Array Value), HR r s.H w → VRs r xs ys.toList →
    Calls P f ys w fun e w' => ∃ y r', e = .returned y ∧ VR r' v y ∧ Fits r s.H w r' s'.H w'

def CallFOk (P : Program) (cf : CallF) : Prop := ∀ f xs s v s', cf f xs s = some (v, s') → More s.cs s'.cs ∧ ((∀ q, q ∈ s'.cs → q) → CallOk P f xs s v s')

section
variable {P : Program} {cf : CallF} {nt : Nat}

theorem askT_ok {T T' : Tr V} {t : Tmp} {s s' : S} {b : Bool} (h : askT T t s = some (b, T', s')) :
    More s.cs s'.cs ∧ s'.H = s.H ∧ ((∀ q, q ∈ s'.cs → q) → ∀ r a, AR r nt T a → AR r nt T' a ∧ a.tmps.getD t undef = .bool b) := by
  unfold askT at h
  split at h
  · rename_i c hc
    simp only [Option.some.injEq, Prod.mk.injEq] at h
    obtain ⟨rfl, rfl, rfl⟩ := h
    refine ⟨More.refl _, rfl, fun _ r a hA => ⟨hA, ?_⟩⟩
    have := hA.tmp t _ hc
    simpa only [VR, B.val] using this
  · rename_i c hc
    split at h
    · rename_i hd hs hhs
      simp only [Option.some.injEq, Prod.mk.injEq] at h
      obtain ⟨rfl, rfl, rfl⟩ := h
      refine ⟨More.cons _ _, rfl, fun hcs r a hA => ?_⟩
      have he : c = hd := hcs _ (List.mem_cons_self ..)
      have := hA.tmp t _ hc
      simp only [VR, B.val] at this
      rw [he] at this
      exact ⟨hA.tell (by simp only [VR, B.val]; exact this), this⟩
    · simp at h
  · simp at h

theorem yielded_of {ops : Array Oper} {g : Nat} {d : Tmp} {a : Act} {b : Bool} (hd : (ops[g]?).bind (·.dst) = some d) (hb : a.tmps.getD d undef = .bool b) : yielded ops a.tmps g = some b := by
  unfold yielded
  rw [hd]
  simp only [Option.bind_some]
  have : a.tmps[d]? = some (.bool b) := by
    cases hx : a.tmps[d]? with
    | none => rw [Array.getD_eq_getD_getElem?, hx] at hb; simp [undef] at hb
    | some x => rw [Array.getD_eq_getD_getElem?, hx] at hb; simpa using hb
  rw [this]

theorem wantedG_ok {ops : Array Oper} {o : Oper} {T T' : Tr V} {s s' : S} {b : Bool} (h : wantedG ops o T s = some (b, T', s')) :
    More s.cs s'.cs ∧ s'.H = s.H ∧ ((∀ q, q ∈ s'.cs → q) → ∀ r a, AR r nt T a → AR r nt T' a ∧ Region.wanted o (yielded ops a.tmps) = b) := by
  unfold wantedG at h
  split at h
  · rename_i hg
    simp only [Option.some.injEq, Prod.mk.injEq] at h
    obtain ⟨rfl, rfl, rfl⟩ := h
    exact ⟨More.refl _, rfl, fun _ r a hA => ⟨hA, by simp [Region.wanted, hg]⟩⟩
  · rename_i g want hg
    split at h
    · rename_i d hd
      split at h
      · rename_i vs ht
        simp only [Option.some.injEq, Prod.mk.injEq] at h
        obtain ⟨rfl, rfl, rfl⟩ := h
        refine ⟨More.refl _, rfl, fun _ r a hA => ⟨hA, ?_⟩⟩
        have hv := hA.tmp d _ ht
        simp only [VR] at hv
        obtain ⟨zs, hz, _⟩ := hv
        have hy : yielded ops a.tmps g = none := by
          unfold yielded
          rw [hd]
          simp only [Option.bind_some]
          rw [Array.getD_eq_getD_getElem?] at hz
          cases hx : a.tmps[d]? with
          | none => rfl
          | some x => rw [hx] at hz; simp only [Option.getD_some] at hz; rw [hz]
        simp [Region.wanted, hg, hy]
      · split at h
        · rename_i c T1 s1 hask
          simp only [Option.some.injEq, Prod.mk.injEq] at h
          obtain ⟨rfl, rfl, rfl⟩ := h
          obtain ⟨h1, h2, h3⟩ := askT_ok (nt := nt) hask
          refine ⟨h1, h2, fun hcs r a hA => ?_⟩
          obtain ⟨h4, h5⟩ := h3 hcs r a hA
          refine ⟨h4, ?_⟩
          simp only [Region.wanted, hg, yielded_of hd h5]
          cases c <;> cases want <;> rfl
        · simp at h
    · simp at h

theorem pinFrom_ok {T T' : Tr V} {t : Tmp} {k : IntKind} {x : Int} (hT : T.get t = some (.int k (.s x))) : ∀ (n m : Nat) (s s' : S), pinFrom T t k x n m s = some (T', s') →
    More s.cs s'.cs ∧ s'.H = s.H ∧ ((∀ q, q ∈ s'.cs → q) → ∃ m : Nat, x = Int.ofNat m ∧ T' = T.set t (some (.int k (.c (Int.ofNat m)))))
  | 0, _, _, _, h => by simp [pinFrom] at h
  | n + 1, m, s, s', h => by
    unfold pinFrom at h
    split at h
    · simp at h
    · rename_i hd hs hhs
      split at h
      · rw [Nat.forced_eq] at h
        simp only [Option.some.injEq, Prod.mk.injEq] at h
        obtain ⟨rfl, rfl⟩ := h
        refine ⟨More.cons _ _, rfl, fun hcs => ⟨m, ?_, rfl⟩⟩
        exact of_decide_eq_true (hcs _ (List.mem_cons_self ..))
      · rw [Nat.forced_eq] at h
        obtain ⟨h1, h2, h3⟩ := pinFrom_ok hT n _ _ _ h
        exact ⟨(More.cons _ _).trans h1, h2, h3⟩
theorem pinsAt_get {op : Op} {T : Tr V} {H : Hp} {t : Tmp} {k : IntKind} {e : Int} (h : pinsAt op T H = some (t, k, e)) : T.get t = some (.int k (.s e)) := by
  unfold pinsAt at h
  split at h
  · split at h
    · rename_i hg
      split at h
      · simp only [Option.some.injEq, Prod.mk.injEq] at h
        obtain ⟨rfl, rfl, rfl⟩ := h
        exact hg
      · simp at h
    · simp at h
  · split at h
    · rename_i hg
      split at h
      · simp only [Option.some.injEq, Prod.mk.injEq] at h
        obtain ⟨rfl, rfl, rfl⟩ := h
        exact hg
      · simp at h
    · simp at h
  · simp at h
/-- What comes of a guess: the same, or one number that is known. -/
theorem pinV_ok {op : Op} {T T' : Tr V} {s s' : S} (h : pinV op T s = some (T', s')) :
    More s.cs s'.cs ∧ s'.H = s.H ∧ ((∀ q, q ∈ s'.cs → q) → T' = T ∨ ∃ (t : Tmp) (k : IntKind) (x : Int), T.get t = some (.int k (.s x)) ∧ T' = T.set t (some (.int k (.c x)))) := by
  unfold pinV at h
  split at h
  · rename_i t k e hp
    have hg := pinsAt_get hp
    obtain ⟨h1, h2, h3⟩ := pinFrom_ok hg _ _ _ _ h
    refine ⟨h1, h2, fun hcs => .inr ?_⟩
    obtain ⟨m, hm, hT⟩ := h3 hcs
    exact ⟨t, k, e, hg, by rw [hT, hm]⟩
  · simp only [Option.some.injEq, Prod.mk.injEq] at h
    obtain ⟨rfl, rfl⟩ := h
    exact ⟨More.refl _, rfl, fun _ => .inl rfl⟩
theorem wantedV_some {ops : Array Oper} {o : Oper} {T T' : Tr V} {s s' : S} {b : Bool} (h : wantedV ops o T s = some (b, T', s')) :
    ∃ T1 s1, wantedG ops o T s = some (b, T1, s1) ∧ More s1.cs s'.cs ∧ s'.H = s1.H ∧ ((∀ q, q ∈ s'.cs → q) → T' = T1 ∨ ∃ (t : Tmp) (k : IntKind) (x : Int), T1.get t = some (.int k (.s x)) ∧ T' = T1.set t (some (.int k (.c x)))) := by
  unfold wantedV at h
  split at h
  · rename_i b0 T1 s1 hg
    split at h
    · split at h
      · rename_i T2 s2 hp
        simp only [Option.some.injEq, Prod.mk.injEq] at h
        obtain ⟨rfl, rfl, rfl⟩ := h
        obtain ⟨h1, h2, h3⟩ := pinV_ok hp
        exact ⟨T1, s1, hg, h1, h2, h3⟩
      · simp at h
    · simp only [Option.some.injEq, Prod.mk.injEq] at h
      obtain ⟨rfl, rfl, rfl⟩ := h
      exact ⟨T1, s1, hg, More.refl _, rfl, fun _ => .inl rfl⟩
  · simp at h
theorem wantedV_ok {ops : Array Oper} {o : Oper} {T T' : Tr V} {s s' : S} {b : Bool} (h : wantedV ops o T s = some (b, T', s')) :
    More s.cs s'.cs ∧ s'.H = s.H ∧ ((∀ q, q ∈ s'.cs → q) → ∀ r a, AR r nt T a → AR r nt T' a ∧ Region.wanted o (yielded ops a.tmps) = b) := by
  obtain ⟨T1, s1, hg, hm, hH, hT⟩ := wantedV_some h
  obtain ⟨h1, h2, h3⟩ := wantedG_ok (nt := nt) hg
  refine ⟨h1.trans hm, hH.trans h2, fun hcs r a hA => ?_⟩
  obtain ⟨hA1, hw⟩ := h3 (fun q hq => hcs q (hm q hq)) r a hA
  refine ⟨?_, hw⟩
  rcases hT hcs with rfl | ⟨t, k, x, hx, rfl⟩
  · exact hA1
  · have := hA1.tmp t _ hx
    simp only [VR, E.val] at this
    exact hA1.tell (by simp only [VR, E.val]; exact this)

theorem putT_ok {T T' : Tr V} {dst : Option Tmp} {v : V} (h : putT nt T dst v = some T') {r : Rho} {a : Act} {y : Value} (hA : AR r nt T a) (hv : VR r v y) : AR r nt T' (a.put dst y) := by
  unfold putT at h
  split at h
  · simp only [Option.some.injEq] at h; subst h; exact hA
  · rename_i d
    split at h
    · rename_i hd
      rw [V.force_eq] at h
      simp only [Option.some.injEq] at h; subst h
      exact hA.put hd hv
    · simp at h

theorem stepV_more {T : Tr V} {op : Op} {s s' : S} {v : V} (hcf : CallFOk P cf) (h : stepV P cf T op s = some (v, s')) : More s.cs s'.cs := by
  unfold stepV at h
  split at h
  · simp only [Option.some.injEq, Prod.mk.injEq] at h
    obtain ⟨rfl, rfl⟩ := h
    exact More.append _ _
  · exact (More.append _ _).trans (hcf _ _ _ _ _ h).1
  · simp at h

/-- One operation, whatever comes behind. -/
theorem stepV_ok {o : Oper} {T : Tr V} {s s' : S} {v : V} (hcf : CallFOk P cf) (h : stepV P cf T o.op s = some (v, s')) (hcs : ∀ q, q ∈ s'.cs → q) {r : Rho} {w : World} {a : Act} (hA : AR r nt T a) (hH : HR r s.H w)
    {K : Act → World → Prop} {Q : Exit → Act → World → Prop} (hK : ∀ y w' r', VR r' v y → Fits r s.H w r' s'.H w' → K (a.put o.dst y) w') : o.wp P a w K Q := by
  have hmore := stepV_more hcf h
  unfold stepV at h
  split at h
  · rename_i u H cs hop
    simp only [Option.some.injEq, Prod.mk.injEq] at h
    obtain ⟨rfl, rfl⟩ := h
    obtain ⟨dst, op, type, pos, after, guard⟩ := o
    have hd := opV_ok (dst := dst) (type := type) (pos := pos) (after := after) (guard := guard) hH hA hop (fun q hq => hcs q (List.mem_append_left _ hq))
    unfold Oper.wp
    cases hd with
    | val nx y w' r' run nxt ext vr hr kept mine =>
      rw [run]
      have := hK y w' r' vr ⟨ext, hr, kept, mine⟩
      rcases nxt with rfl | ⟨rfl, rfl⟩
      · exact this
      · exact this
  · rename_i f xs cs hop
    obtain ⟨hm, hc⟩ := hcf _ _ _ _ _ h
    have hc := hc hcs
    obtain ⟨dst, op, type, pos, after, guard⟩ := o
    have hd := opV_ok (dst := dst) (type := type) (pos := pos) (after := after) (guard := guard) hH hA hop (fun q hq => hcs q (hm q (List.mem_append_left _ hq)))
    unfold Oper.wp
    cases hd with
    | call ys run vrs =>
      rw [run]
      refine (hc r w ys hH vrs).mono ?_
      rintro e w' ⟨y, r', rfl, hv, hf⟩
      exact hK y w' r' hv hf
  · simp at h

theorem seqOps_more {ops : Array Oper} (hcf : CallFOk P cf) : ∀ (os : List Oper) (T T' : Tr V) (s s' : S), seqOps P cf ops nt os T s = some (T', s') → More s.cs s'.cs
  | [], _, _, _, _, h => by simp only [seqOps, Option.some.injEq, Prod.mk.injEq] at h; obtain ⟨_, rfl⟩ := h; exact More.refl _
  | o :: os, T, T', s, s', h => by
    simp only [seqOps] at h
    split at h
    · rename_i T1 s1 hw
      split at h
      · rename_i v s2 hst
        split at h
        · exact ((wantedV_ok (nt := nt) hw).1.trans (stepV_more hcf hst)).trans (seqOps_more hcf os _ _ _ _ h)
        · simp at h
      · simp at h
    · rename_i T1 s1 hw
      split at h
      · exact (wantedV_ok (nt := nt) hw).1.trans (seqOps_more hcf os _ _ _ _ h)
      · simp at h
    · simp at h

/-- Operations in their row. -/
theorem seqOps_ok {ops : Array Oper} (hcf : CallFOk P cf) {Q : Exit → Act → World → Prop} : ∀ (os : List Oper) (k : Nat) (T T' : Tr V) (s s' : S) (r : Rho) (w : World) (a : Act), (∀ j, os[j]? = ops[k + j]?) →
    seqOps P cf ops nt os T s = some (T', s') → (∀ q, q ∈ s'.cs → q) → AR r nt T a → HR r s.H w → (∀ a' w' r', AR r' nt T' a' → Fits r s.H w r' s'.H w' → Q .normal a' w') →
    wpOps P ops Q (List.range' k os.length) a w
  | [], k, T, T', s, s', r, w, a, _, h, _, hA, hH, hQ => by
    simp only [seqOps, Option.some.injEq, Prod.mk.injEq] at h
    obtain ⟨rfl, rfl⟩ := h
    exact hQ a w r hA (Fits.refl hH)
  | o :: os, k, T, T', s, s', r, w, a, hl, h, hcs, hA, hH, hQ => by
    have h0 : ops[k]? = some o := by have := hl 0; simpa using this.symm
    have hl' : ∀ j, os[j]? = ops[k + 1 + j]? := fun j => by have := hl (j + 1); rw [List.getElem?_cons_succ] at this; rw [this]; congr 1; omega
    simp only [seqOps] at h
    simp only [List.length_cons, List.range'_succ, wpOps, h0]
    split at h
    · rename_i T1 s1 hw
      obtain ⟨hm1, hH1, hA1⟩ := wantedV_ok (nt := nt) hw
      split at h
      · rename_i v s2 hst
        split at h
        · rename_i T2 hput
          have hm3 := seqOps_more hcf os _ _ _ _ h
          have hcs2 : ∀ q, q ∈ s2.cs → q := fun q hq => hcs q (hm3 q hq)
          obtain ⟨hA1, hwant⟩ := hA1 (fun q hq => hcs2 q (stepV_more hcf hst q hq)) r a hA
          rw [hwant]
          simp only [if_true]
          refine .inl (stepV_ok hcf hst hcs2 hA1 (hH1 ▸ hH) fun y w' r' hv hf => ?_)
          rw [hH1] at hf
          exact seqOps_ok hcf os (k + 1) T2 T' s2 s' r' w' _ hl' h hcs (putT_ok hput (hA1.ext hf.ext) hv) hf.hr fun a' w'' r'' hA'' hf'' => hQ a' w'' r'' hA'' (hf.trans hf'')
        · simp at h
      · simp at h
    · rename_i T1 s1 hw
      obtain ⟨hm1, hH1, hA1⟩ := wantedV_ok (nt := nt) hw
      split at h
      · rename_i T2 hput
        have hm3 := seqOps_more hcf os _ _ _ _ h
        obtain ⟨hA1, hwant⟩ := hA1 (fun q hq => hcs q (hm3 q hq)) r a hA
        rw [hwant]
        simp only [Bool.false_eq_true, if_false]
        exact seqOps_ok hcf os (k + 1) T2 T' s1 s' r w _ hl' h hcs (putT_ok hput hA1 (by simp only [VR, VRs]; exact ⟨[], rfl, rfl⟩)) (hH1 ▸ hH) fun a' w'' r'' hA'' hf'' => hQ a' w'' r'' hA'' (hH1 ▸ hf'')
      · simp at h
    · simp at h

end
end Go.Ideal
