/- The ideal machine: contracts of functions that turn a few blocks. Own text; nothing here is trusted. -/
import Derived.Test.YtbcadmnkilckbaaI24
namespace Go.Ideal
set_option linter.unusedSimpArgs false
set_option linter.unusedVariables false

/-! ### What is kept of a call's outcome -/

def retP (n0 : Nat) (l : List Nat) (v1 : V) (H1 : Hp) (v2 : V) (bs : List (Option Blk)) (n2 : Nat) : Prop :=
  if sameB n0 0 l && nodupB l && Nat.ble l.length n2 && l.all (fun i => Nat.blt i H1.n) then Nat.forced H1.n fun hn => V.leP (v2.ren (place l hn)) v1 ∧ blksP (place l hn) H1 l bs else False

theorem vcOf_mono {X : Type} {r : Option (X × S)} {K K' : X → Hp → Prop} (h : vcOf r K) (hk : ∀ x H, K x H → K' x H) : vcOf r K' := by
  unfold vcOf at h ⊢
  split
  · exact ⟨h.1, hk _ _ h.2⟩
  · exact h

section
variable {P : Program}

/-- A call with one outcome, of which only so much is told. -/
theorem CallQ.keep {f : FuncId} {xs : List V} {H : Hp} {v2 : V} {bs : List (Option Blk)} {n2 : Nat} (h : CallQ P f xs H fun v H' => ∃ l, retP H.n l v H' v2 bs n2) : CallOk P f xs (St H) v2 (St (Hm bs n2)) := by
  intro r w ys hH hxs
  refine (h r w ys hH hxs).mono ?_
  rintro e w' ⟨v, H', y, r', ⟨l, hr⟩, he, hv, hf⟩
  unfold retP at hr
  split at hr
  · rename_i hc
    rw [Nat.forced_eq] at hr
    have hd : dwnP H.n l (.nil) H' [] bs n2 := by
      unfold dwnP
      rw [if_pos hc, Nat.forced_eq]
      exact ⟨trivial, hr.2⟩
    have hd := dwnP_ok hd
    -- the value is carried as a temporary
    have hd' : Dwn H.n l ((Tr.nil : Tr V).set 0 (some v)) H' ((Tr.nil : Tr V).set 0 (some v2)) (Hm bs n2) := by
      refine ⟨hd.n, hd.n2, hd.same, hd.nodup, hd.lt, hd.blk, fun t u hu => ?_⟩
      rw [Tr.get_set] at hu
      by_cases e : t = 0
      · subst e
        rw [if_pos rfl] at hu
        simp only [Option.some.injEq] at hu
        subst hu
        exact ⟨v, by rw [Tr.get_set_same], fun r y hy => V.leP_ok _ _ _ hr.1 hy⟩
      · rw [if_neg e, Tr.get_nil] at hu; simp at hu
    obtain ⟨r2, hf2, hA⟩ := hf.down (nt := 1) (a := { tmps := #[y], defers := [] }) hH hd' ⟨rfl, rfl, fun t u hu => by
      rw [Tr.get_set] at hu
      by_cases e : t = 0
      · subst e
        rw [if_pos rfl] at hu
        simp only [Option.some.injEq] at hu
        subst hu
        simpa using hv
      · rw [if_neg e, Tr.get_nil] at hu; simp at hu⟩
    have := hA.tmp 0 v2 (by rw [Tr.get_set_same])
    exact ⟨y, r2, he, by simpa using this, hf2⟩
  · exact hr.elim

/-! ### Blocks in place of others -/

/-- The memory with the blocks l in place: those of l (up: only those), then the new ones. -/
def graftOld (σ : Nat → Nat) (l up : List Nat) (bs : List (Option Blk)) : List Nat → Tr Blk → Tr Blk
  | [], t => t
  | j :: js, t => (graftOld σ l up bs js t).set (l.getD j 0) ((bs.getD j none).map (Blk.ren σ))
def graftNew (σ : Nat → Nat) (base : Nat) : List (Option Blk) → Nat → Tr Blk → Tr Blk
  | [], _, t => t
  | b :: bs, i, t => (graftNew σ base bs (i + 1) t).set (base + i) (b.map (Blk.ren σ))
def graft (H : Hp) (l up : List Nat) (bs : List (Option Blk)) (n2 : Nat) : Hp :=
  let σ := place l H.n
  ⟨graftNew σ H.n (bs.drop l.length) 0 (graftOld σ l up bs up H.tr), H.n + (n2 - l.length)⟩

theorem graftNew_get (σ : Nat → Nat) (base : Nat) : ∀ (bs : List (Option Blk)) (i : Nat) (t : Tr Blk) (k : Nat), (graftNew σ base bs i t).get k = if base + i ≤ k ∧ k < base + i + bs.length then (bs.getD (k - (base + i)) none).map (Blk.ren σ) else t.get k
  | [], i, t, k => by rw [graftNew, if_neg (by simp)]
  | b :: bs, i, t, k => by
    rw [graftNew, Tr.get_set, graftNew_get σ base bs (i + 1)]
    by_cases e : k = base + i
    · subst e; simp
    · rw [if_neg e]
      by_cases h : base + (i + 1) ≤ k ∧ k < base + (i + 1) + bs.length
      · rw [if_pos h, if_pos (by simp; omega)]
        have : k - (base + i) = (k - (base + (i + 1))) + 1 := by omega
        rw [this, List.getD_cons_succ]
      · rw [if_neg h, if_neg (by simp; omega)]
theorem graftOld_get (σ : Nat → Nat) (l up : List Nat) (bs : List (Option Blk)) (hl : l.Nodup) (t : Tr Blk) (k : Nat) : ∀ (js : List Nat), (∀ j ∈ js, j < l.length) → (graftOld σ l up bs js t).get k = match findAt l k with
    | some j => if j ∈ js then (bs.getD j none).map (Blk.ren σ) else t.get k
    | none => t.get k
  | [], _ => by rw [graftOld]; cases findAt l k <;> simp
  | j :: js, hjs => by
    rw [graftOld, Tr.get_set, graftOld_get σ l up bs hl t k js fun i hi => hjs i (List.mem_cons_of_mem _ hi)]
    have hj := hjs j (List.mem_cons_self ..)
    by_cases e : k = l.getD j 0
    · rw [if_pos e, e, findAt_of l j hl hj]; simp
    · rw [if_neg e]
      cases hf : findAt l k with
      | none => rfl
      | some i =>
        simp only [List.mem_cons]
        have hne : i ≠ j := fun e' => e (by rw [← e']; exact (findAt_some l k i hf).2.symm)
        simp [hne]

theorem graft_aft {H Hs : Hp} {l up : List Nat} {bs : List (Option Blk)} {n2 : Nat} (hl : l.Nodup) (hlt : ∀ i ∈ l, i < H.n) (hup : ∀ j ∈ up, j < l.length) (hn : l.length ≤ n2) (hbn : bs.length ≤ n2)
    (hro : ∀ j b, j ∉ up → Hs.tr.get j = some b → b.writable = false) (hwr : ∀ j b, (j ∈ up ∨ l.length ≤ j) → bs[j]? = some (some b) → b.writable = true) :
    Aft l up H Hs (Hm bs n2) (graft H l up bs n2) := by
  have hget : ∀ j, (Hm bs n2).tr.get j = (bs.getD j none) := by
    intro j
    have key : ∀ (as : List (Option Blk)) (i j : Nat), (Tr.ofOpts i as).get j = if i ≤ j then as.getD (j - i) none else none := by
      intro as
      induction as with
      | nil => intro i j; rw [Tr.ofOpts, Tr.get_nil]; simp
      | cons a as ih =>
        intro i j
        cases a with
        | none =>
          simp only [Tr.ofOpts]
          rw [ih]
          by_cases e : i + 1 ≤ j
          · rw [if_pos e, if_pos (by omega)]
            have : j - i = (j - (i + 1)) + 1 := by omega
            rw [this, List.getD_cons_succ]
          · rw [if_neg e]
            by_cases e2 : i ≤ j
            · rw [if_pos e2]
              have : j - i = 0 := by omega
              rw [this]; rfl
            · rw [if_neg e2]
        | some a =>
          simp only [Tr.ofOpts]
          rw [Tr.get_set, ih]
          by_cases e : j = i
          · subst e; simp
          · rw [if_neg e]
            by_cases e1 : i + 1 ≤ j
            · rw [if_pos e1, if_pos (by omega)]
              have : j - i = (j - (i + 1)) + 1 := by omega
              rw [this, List.getD_cons_succ]
            · rw [if_neg e1, if_neg (by omega)]
    have := key bs 0 j
    simpa [Hm] using this
  refine ⟨hn, rfl, hro, fun j b hj hb => hwr j b hj ?_, fun i B hB => ?_⟩
  · rw [hget] at hb
    rw [List.getD_eq_getElem?_getD] at hb
    cases hx : bs[j]? with
    | none => rw [hx] at hb; simp at hb
    | some x => rw [hx] at hb; simp only [Option.getD_some] at hb; rw [hb]
  · unfold graft at hB
    simp only at hB
    rw [graftNew_get] at hB
    by_cases hi : H.n + 0 ≤ i ∧ i < H.n + 0 + (bs.drop l.length).length
    · rw [if_pos hi] at hB
      left
      have e1 : (bs.drop l.length).getD (i - (H.n + 0)) none = bs.getD (i - H.n + l.length) none := by
        rw [List.getD_eq_getElem?_getD, List.getElem?_drop, List.getD_eq_getElem?_getD]
        congr 2; omega
      rw [e1] at hB
      cases hx : bs.getD (i - H.n + l.length) none with
      | none => rw [hx] at hB; simp at hB
      | some b =>
        rw [hx] at hB
        simp only [Option.map_some, Option.some.injEq] at hB
        refine ⟨i - H.n + l.length, b, by unfold unplace; rw [if_pos (by omega)], .inr (by omega), by rw [hget]; exact hx, by rw [← hB]; exact Wk.refl _⟩
    · rw [if_neg hi] at hB
      rw [graftOld_get _ _ _ _ hl _ _ _ hup] at hB
      cases hf : findAt l i with
      | none =>
        rw [hf] at hB
        exact .inr ⟨fun j hj => by simp at hj, hB⟩
      | some j =>
        rw [hf] at hB
        by_cases hj : j ∈ up
        · simp only [if_pos hj] at hB
          cases hx : bs.getD j none with
          | none => rw [hx] at hB; simp at hB
          | some b =>
            rw [hx] at hB
            simp only [Option.map_some, Option.some.injEq] at hB
            have hil : i < H.n := by
              have := findAt_some l i j hf
              rw [← this.2]
              refine hlt _ ?_
              rw [List.getD_eq_getElem?_getD, List.getElem?_eq_getElem this.1]; simp
            exact .inl ⟨j, b, by unfold unplace; rw [if_neg (by omega)]; exact hf, .inl hj, by rw [hget]; exact hx, by rw [← hB]; exact Wk.refl _⟩
        · simp only [if_neg hj] at hB
          exact .inr ⟨fun k hk => by simp only [Option.some.injEq] at hk; subst hk; exact hj, hB⟩

/-- A contract that turns a few blocks: which ones (l; up: those that are written), what is answered, what they hold then, what must hold. -/
structure Ct where
  l : List Nat
  up : List Nat
  v : V
  bs : List (Option Blk)
  n2 : Nat
  cs : List Prop

def spG (f : FuncId) (g : List V → Hp → Option Ct) : Spec := fun f' xs s => if Nat.beq f' f then (match g xs s.H with
  | some c => Nat.forced s.H.n fun hn => (c.v.ren (place c.l hn)).force fun v => some (some (v, ⟨graft ⟨s.H.tr, hn⟩ c.l c.up c.bs c.n2, s.hs, c.cs ++ s.cs⟩))
  | none => none) else none

/-- What is to be shown of one. -/
structure CtOk (P : Program) (f : FuncId) (xs : List V) (H : Hp) (c : Ct) (xs0 : List V) (bs0 : List (Option Blk)) : Prop where
  nodup : nodupB c.l = true
  lt : c.l.all (fun i => Nat.blt i H.n) = true
  up : c.up.all (fun j => Nat.blt j c.l.length) = true
  n : Nat.ble c.l.length c.n2 = true
  n' : Nat.ble c.bs.length c.n2 = true
  pre : ∀ j b, bs0[j]? = some (some b) → j < c.l.length ∧ ∃ B, H.tr.get (c.l.getD j 0) = some B ∧ Wk (b.ren (place c.l H.n)) B
  ro : ∀ j b, j ∉ c.up → bs0[j]? = some (some b) → b.writable = false
  wr : ∀ j b, (j ∈ c.up ∨ c.l.length ≤ j) → c.bs[j]? = some (some b) → b.writable = true
  args : ∀ r ys, VRs r xs ys → VRs r (V.renL (place c.l H.n) xs0) ys
  call : CallOk P f xs0 (St (Hm bs0 c.l.length)) c.v (St (Hm c.bs c.n2))

theorem spG_ok {f : FuncId} {g : List V → Hp → Option Ct} (h : ∀ xs H c, g xs H = some c → (∀ q, q ∈ c.cs → q) → (∀ i B, H.tr.get i = some B → i < H.n) → ∃ xs0 bs0, CtOk P f xs H c xs0 bs0) : SpecOk P (spG f g) := by
  intro f' xs s v s' hs
  unfold spG at hs
  split at hs
  · rename_i e
    have e := Nat.eq_of_beq_eq_true e
    subst e
    split at hs
    · rename_i c hg
      rw [Nat.forced_eq, V.force_eq] at hs
      simp only [Option.some.injEq, Prod.mk.injEq] at hs
      obtain ⟨rfl, rfl⟩ := hs
      refine ⟨More.append _ _, fun hq r w ys hH hxs => ?_⟩
      obtain ⟨xs0, bs0, ok⟩ := h xs s.H c hg (fun q hq' => hq q (List.mem_append_left _ hq')) (fun i B hB => hH.bound i B hB)
      have hl := nodupB_ok _ ok.nodup
      have hlt : ∀ i ∈ c.l, i < s.H.n := fun i hi => Nat.le_of_ble_eq_true (List.all_eq_true.1 ok.lt i hi)
      have hup : ∀ j ∈ c.up, j < c.l.length := fun j hj => Nat.le_of_ble_eq_true (List.all_eq_true.1 ok.up j hj)
      have hget : ∀ j b, (Hm bs0 c.l.length).tr.get j = some b → bs0[j]? = some (some b) := fun j b hb => by
        obtain ⟨_, hg⟩ := Tr.ofOpts_get _ _ _ _ hb
        simpa using hg
      have hf : Frm c.l s.H (Hm bs0 c.l.length) := ⟨rfl, hl, hlt, fun j b hb => ok.pre j b (hget j b hb)⟩
      have ha := graft_aft (H := s.H) (Hs := Hm bs0 c.l.length) (bs := c.bs) hl hlt hup (Nat.le_of_ble_eq_true ok.n) (Nat.le_of_ble_eq_true ok.n') (fun j b hj hb => ok.ro j b hj (hget j b hb)) ok.wr
      exact CallOk.frame (v' := c.v.ren (place c.l s.H.n)) ok.call hf ha ok.args (fun r y hy => hy) r w ys hH hxs
    · simp at hs
  · simp at hs

/-- A contract with two shapes: which one is foretold. -/
def spA (f : FuncId) (g : List V → Hp → Option (Bool × Ct × Ct)) : Spec := fun f' xs s => if Nat.beq f' f then (match g xs s.H with
  | some (b, c1, c2) => match s.hs with
    | h :: hs => match h with
      | true => Nat.forced s.H.n fun hn => (c1.v.ren (place c1.l hn)).force fun v => some (some (v, ⟨graft ⟨s.H.tr, hn⟩ c1.l c1.up c1.bs c1.n2, hs, c1.cs ++ (b = true) :: s.cs⟩))
      | false => Nat.forced s.H.n fun hn => (c2.v.ren (place c2.l hn)).force fun v => some (some (v, ⟨graft ⟨s.H.tr, hn⟩ c2.l c2.up c2.bs c2.n2, hs, c2.cs ++ (b = false) :: s.cs⟩))
    | [] => some none
  | none => none) else none

theorem CtOk.callOk {f : FuncId} {xs : List V} {H : Hp} {c : Ct} {xs0 : List V} {bs0 : List (Option Blk)} (ok : CtOk P f xs H c xs0 bs0) (hs hs' : List Bool) (cs cs' : List Prop) : CallOk P f xs ⟨H, hs, cs⟩ (c.v.ren (place c.l H.n)) ⟨graft H c.l c.up c.bs c.n2, hs', cs'⟩ := by
  have hl := nodupB_ok _ ok.nodup
  have hlt : ∀ i ∈ c.l, i < H.n := fun i hi => Nat.le_of_ble_eq_true (List.all_eq_true.1 ok.lt i hi)
  have hup : ∀ j ∈ c.up, j < c.l.length := fun j hj => Nat.le_of_ble_eq_true (List.all_eq_true.1 ok.up j hj)
  have hget : ∀ j b, (Hm bs0 c.l.length).tr.get j = some b → bs0[j]? = some (some b) := fun j b hb => by
    obtain ⟨_, hg⟩ := Tr.ofOpts_get _ _ _ _ hb
    simpa using hg
  have hf : Frm c.l H (Hm bs0 c.l.length) := ⟨rfl, hl, hlt, fun j b hb => ok.pre j b (hget j b hb)⟩
  have ha := graft_aft (H := H) (Hs := Hm bs0 c.l.length) (bs := c.bs) hl hlt hup (Nat.le_of_ble_eq_true ok.n) (Nat.le_of_ble_eq_true ok.n') (fun j b hj hb => ok.ro j b hj (hget j b hb)) ok.wr
  exact CallOk.frame (v' := c.v.ren (place c.l H.n)) ok.call hf ha ok.args (fun r y hy => hy)

theorem spA_ok {f : FuncId} {g : List V → Hp → Option (Bool × Ct × Ct)} (h : ∀ xs H b c1 c2, g xs H = some (b, c1, c2) → (∀ i B, H.tr.get i = some B → i < H.n) →
    (b = true → (∀ q, q ∈ c1.cs → q) → ∃ xs0 bs0, CtOk P f xs H c1 xs0 bs0) ∧ (b = false → (∀ q, q ∈ c2.cs → q) → ∃ xs0 bs0, CtOk P f xs H c2 xs0 bs0)) : SpecOk P (spA f g) := by
  intro f' xs s v s' hs
  unfold spA at hs
  split at hs
  · rename_i e
    have e := Nat.eq_of_beq_eq_true e
    subst e
    split at hs
    · rename_i b c1 c2 hg
      split at hs
      · rename_i hd tl hhs
        split at hs
        · rw [Nat.forced_eq, V.force_eq] at hs
          simp only [Option.some.injEq, Prod.mk.injEq] at hs
          obtain ⟨rfl, rfl⟩ := hs
          refine ⟨fun q hq => List.mem_append_right _ (List.mem_cons_of_mem _ hq), fun hq r w ys hH hxs => ?_⟩
          obtain ⟨xs0, bs0, ok⟩ := (h xs s.H b c1 c2 hg (fun i B hB => hH.bound i B hB)).1 (hq _ (List.mem_append_right _ (List.mem_cons_self ..))) (fun q hq' => hq q (List.mem_append_left _ hq'))
          exact ok.callOk s.hs tl s.cs _ r w ys hH hxs
        · rw [Nat.forced_eq, V.force_eq] at hs
          simp only [Option.some.injEq, Prod.mk.injEq] at hs
          obtain ⟨rfl, rfl⟩ := hs
          refine ⟨fun q hq => List.mem_append_right _ (List.mem_cons_of_mem _ hq), fun hq r w ys hH hxs => ?_⟩
          obtain ⟨xs0, bs0, ok⟩ := (h xs s.H b c1 c2 hg (fun i B hB => hH.bound i B hB)).2 (hq _ (List.mem_append_right _ (List.mem_cons_self ..))) (fun q hq' => hq q (List.mem_append_left _ hq'))
          exact ok.callOk s.hs tl s.cs _ r w ys hH hxs
      · simp at hs
    · simp at hs
  · simp at hs

/-! ### A function with one loop -/

def roundK (n2 : Nat) (l : List Nat) (ts : List (Nat × V)) (bs : List (Option Blk)) (c : Prop) (id : Nat) (tx : List (Nat × V)) (bx : List (Option Blk)) (fin : Prop) : (Out × Tr V) → Hp → Prop := fun x H1 => match x.1 with
  | .norm => dwnP n2 l x.2 H1 ts bs n2 ∧ c
  | .exit k => if Nat.beq k id then dwnP n2 l x.2 H1 tx bx n2 ∧ fin else False
  | .ret => False

theorem HeadQ.round1 {spec : Spec} (hs : SpecOk P spec) (hmo : P.follows .mixedOrders = true) {f : FuncId} {ds : List Nat} {n : Nat} {α : Type} (T : α → List (Nat × V)) (B : α → List (Option Blk)) (n2 : Nat) (l : List Nat) (μ : α → Nat) (I : α → Prop) (next : α → α) (c : α → Prop) (id : Nat)
    (tx : α → List (Nat × V)) (bx : α → List (Option Blk)) (fin : α → Prop) (hp : hasPrt P f (ds ++ [0]) = true)
    (body : ∀ a, I a → ∃ hh, vcOf (runAt P spec noL n f (ds ++ [0]) (Tr.ofPairs (T a)) (Hm (B a) n2) hh) (roundK n2 l (T (next a)) (B (next a)) (c a) id (tx a) (bx a) (fin a)))
    (hI : ∀ a, I a → c a → I (next a) ∧ μ (next a) < μ a) (a0 : α) (h0 : I a0) (Q : Post) (hx : ∀ a, I a → fin a → Q (.exit id) (Tr.ofPairs (tx a)) (Hm (bx a) n2)) :
    HeadQ P f ds (Tr.ofPairs (T a0)) (Hm (B a0) n2) Q := by
  refine HeadQ.ind (fun a => Tr.ofPairs (T a)) (fun a => Hm (B a) n2) μ I n2 Q (fun a ha => ?_) a0 h0 rfl
  obtain ⟨hh, hb⟩ := body a ha
  refine AtQ.run hs noL_ok hmo hp ⟨hh, vcOf_mono hb fun x H1 hx1 => ?_⟩
  obtain ⟨o, T1⟩ := x
  cases o with
  | norm =>
    obtain ⟨h1, h2⟩ := hI a ha hx1.2
    exact ⟨l, _, _, dwnP_ok hx1.1, next a, h1, h2, rfl, rfl⟩
  | exit k =>
    simp only [roundK] at hx1
    by_cases e : Nat.beq k id = true
    · rw [if_pos e] at hx1
      have e := Nat.eq_of_beq_eq_true e
      subst e
      exact ⟨l, _, _, dwnP_ok hx1.1, hx a ha hx1.2⟩
    · rw [if_neg e] at hx1; exact hx1.elim
  | ret => exact hx1.elim

theorem CallQ.loop1 {spec : Spec} (hs : SpecOk P spec) (hmo : P.follows .mixedOrders = true) {f : FuncId} {xs : List V} {H : Hp} {K : V → Hp → Prop} {ds : List Nat} {n : Nat} {α : Type} (T : α → List (Nat × V)) (B : α → List (Option Blk)) (n2 : Nat) (l : List Nat) (μ : α → Nat) (I : α → Prop) (next : α → α) (c : α → Prop) (id : Nat)
    (tx : α → List (Nat × V)) (bx : α → List (Option Blk)) (fin : α → Prop) (hf : fewArgs P f xs.length = true) (hl : isLoop P f ds = true)
    (a0 : α) (h0 : I a0) (go : ∃ hh, vcOf (runGo P spec noL n f [] ds (Tr.ofList xs) H hh) (reached fun T1 H1 => weakP T1 H1 (T a0) (B a0) n2))
    (body : ∀ a, I a → ∃ hh, vcOf (runAt P spec noL n f (ds ++ [0]) (Tr.ofPairs (T a)) (Hm (B a) n2) hh) (roundK n2 l (T (next a)) (B (next a)) (c a) id (tx a) (bx a) (fin a)))
    (hI : ∀ a, I a → c a → I (next a) ∧ μ (next a) < μ a)
    (hx : ∀ a, I a → fin a → ∃ hh, vcOf (runRet P spec noL n f ds (.exit id) (Tr.ofPairs (tx a)) (Hm (bx a) n2) hh) K) : CallQ P f xs H K := by
  have ht : hasText P f = true := hasPrt_text (isLoop_prt hl).1
  refine CallQ.ofText hf (AtQ.go hs noL_ok hmo (by simp [hasPrt, ht, codeDown]) hl go fun T1 H1 hw => HeadQ.weak (weakP_ok hw) ?_)
  exact HeadQ.round1 hs hmo T B n2 l μ I next c id tx bx fin (isLoop_prt hl).2.1 body hI a0 h0 _ fun a ha hf => After.ret hs noL_ok hmo ht (hx a ha hf)

end
end Go.Ideal
