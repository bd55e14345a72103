/- The ideal machine: what is shown over a small memory holds over a great one. Own text; nothing here is trusted. -/
import Derived.Test.YtbcadmnkilckbaaI16
namespace Go.Ideal
set_option linter.unusedSimpArgs false
set_option linter.unusedVariables false

mutual
def V.ren (σ : Nat → Nat) : V → V
  | .ptr b o => .ptr (σ b) o
  | .slice b o len sz mc => .slice (σ b) o len sz mc
  | .map b => .map (σ b)
  | .func fn xs ys => .func fn (V.renL σ xs) (V.renL σ ys)
  | .iface t v => .iface t (v.ren σ)
  | .agg vs => .agg (V.renL σ vs)
  | .tuple vs => .tuple (V.renL σ vs)
  | .any => .any
  | .bool b => .bool b
  | .int k e => .int k e
  | .str k s => .str k s
  | .nilp => .nilp
  | .nils => .nils
  | .nilm => .nilm
  | .nilf => .nilf
  | .nili => .nili
def V.renL (σ : Nat → Nat) : List V → List V
  | [] => []
  | v :: vs => v.ren σ :: V.renL σ vs
end

theorem renL_eq (σ : Nat → Nat) : ∀ vs, V.renL σ vs = vs.map (V.ren σ)
  | [] => by simp only [V.renL, List.map_nil]
  | v :: vs => by simp only [V.renL, List.map_cons, renL_eq σ vs]

def pull (r : Rho) (σ : Nat → Nat) (n : Nat) : Rho := ⟨fun i => r.pl (σ i), fun i => r.ok (σ i), n⟩

mutual
theorem VR_ren {r : Rho} {σ : Nat → Nat} {n : Nat} : ∀ (v : V) (y : Value), VR r (v.ren σ) y ↔ VR (pull r σ n) v y
  | .any, _ => by simp only [V.ren, VR]
  | .bool _, _ => by simp only [V.ren, VR]
  | .int _ _, _ => by simp only [V.ren, VR]
  | .str _ _, _ => by simp only [V.ren, VR]
  | .nilp, _ => by simp only [V.ren, VR]
  | .ptr b o, _ => by simp only [V.ren, VR, pull]
  | .nils, _ => by simp only [V.ren, VR]
  | .slice b o len sz mc, _ => by simp only [V.ren, VR, pull]
  | .nilm, _ => by simp only [V.ren, VR]
  | .map b, _ => by simp only [V.ren, VR, pull]
  | .nilf, _ => by simp only [V.ren, VR]
  | .func fn xs ys, y => by
    simp only [V.ren, VR]
    constructor
    · rintro ⟨a, b, e, h1, h2⟩; exact ⟨a, b, e, (VRs_ren xs a).1 h1, (VRs_ren ys b).1 h2⟩
    · rintro ⟨a, b, e, h1, h2⟩; exact ⟨a, b, e, (VRs_ren xs a).2 h1, (VRs_ren ys b).2 h2⟩
  | .nili, _ => by simp only [V.ren, VR]
  | .iface t v, y => by
    simp only [V.ren, VR]
    constructor
    · rintro ⟨z, e, h⟩; exact ⟨z, e, (VR_ren v z).1 h⟩
    · rintro ⟨z, e, h⟩; exact ⟨z, e, (VR_ren v z).2 h⟩
  | .agg cs, y => by
    simp only [V.ren, VR]
    constructor
    · rintro ⟨z, e, h⟩; exact ⟨z, e, (VRs_ren cs z).1 h⟩
    · rintro ⟨z, e, h⟩; exact ⟨z, e, (VRs_ren cs z).2 h⟩
  | .tuple cs, y => by
    simp only [V.ren, VR]
    constructor
    · rintro ⟨z, e, h⟩; exact ⟨z, e, (VRs_ren cs z).1 h⟩
    · rintro ⟨z, e, h⟩; exact ⟨z, e, (VRs_ren cs z).2 h⟩
theorem VRs_ren {r : Rho} {σ : Nat → Nat} {n : Nat} : ∀ (vs : List V) (ys : List Value), VRs r (V.renL σ vs) ys ↔ VRs (pull r σ n) vs ys
  | [], _ => by simp only [V.renL, VRs]
  | v :: vs, ys => by
    simp only [V.renL, VRs]
    constructor
    · rintro ⟨z, zs, e, h1, h2⟩; exact ⟨z, zs, e, (VR_ren v z).1 h1, (VRs_ren vs zs).1 h2⟩
    · rintro ⟨z, zs, e, h1, h2⟩; exact ⟨z, zs, e, (VR_ren v z).2 h1, (VRs_ren vs zs).2 h2⟩
end

def Blk.ren (σ : Nat → Nat) : Blk → Blk
  | .own ro e f n rest => .own ro e f n (V.renL σ rest)
  | .ext f n => .ext f n
  | .mp es => .mp (es.map fun p => (p.1, p.2.ren σ))

theorem Blk.ren_writable (σ : Nat → Nat) (b : Blk) : (b.ren σ).writable = b.writable := by cases b <;> rfl
theorem Blk.ren_isOwn (σ : Nat → Nat) (b : Blk) : (b.ren σ).isOwn = b.isOwn := by cases b <;> rfl
theorem Blk.ren_there (σ : Nat → Nat) (b : Blk) : (b.ren σ).there ↔ b.there := by cases b <;> exact Iff.rfl

theorem BR_ren {r : Rho} {w : World} {p : Pl} {σ : Nat → Nat} {n : Nat} (b : Blk) : BR r w p (b.ren σ) ↔ BR (pull r σ n) w p b := by
  cases b with
  | own ro e f m rest =>
    simp only [Blk.ren, BR]
    have hl : (V.renL σ rest).length = rest.length := by rw [renL_eq]; simp
    constructor
    · rintro ⟨c, h1, h2, h3, h4, h5, h6⟩
      refine ⟨c, h1, h2, h3, hl ▸ h4, h5, fun j v hj => ?_⟩
      obtain ⟨y, hy, hv⟩ := h6 j (v.ren σ) (by rw [renL_eq, List.getElem?_map, hj]; rfl)
      exact ⟨y, hy, (VR_ren v y).1 hv⟩
    · rintro ⟨c, h1, h2, h3, h4, h5, h6⟩
      refine ⟨c, h1, h2, h3, hl.symm ▸ h4, h5, fun j v hj => ?_⟩
      rw [renL_eq, List.getElem?_map] at hj
      cases hx : rest[j]? with
      | none => rw [hx] at hj; simp at hj
      | some x =>
        rw [hx] at hj
        simp only [Option.map_some, Option.some.injEq] at hj
        subst hj
        obtain ⟨y, hy, hv⟩ := h6 j x hx
        exact ⟨y, hy, (VR_ren x y).2 hv⟩
  | ext f m => exact Iff.rfl
  | mp es =>
    simp only [Blk.ren, BR]
    constructor
    · rintro ⟨ms, cl, h1, h2, h3⟩
      refine ⟨ms, cl, h1, by simpa using h2, fun j k v hj => ?_⟩
      obtain ⟨m, y, a, b, c, d⟩ := h3 j k (v.ren σ) (by rw [List.getElem?_map, hj]; rfl)
      exact ⟨m, y, a, b, c, (VR_ren v y).1 d⟩
    · rintro ⟨ms, cl, h1, h2, h3⟩
      refine ⟨ms, cl, h1, by simpa using h2, fun j k v hj => ?_⟩
      rw [List.getElem?_map] at hj
      cases hx : es[j]? with
      | none => rw [hx] at hj; simp at hj
      | some x =>
        rw [hx] at hj
        simp only [Option.map_some, Option.some.injEq, Prod.mk.injEq] at hj
        obtain ⟨hk, hv⟩ := hj
        obtain ⟨xk, xv⟩ := x
        simp only at hk hv
        subst hk; subst hv
        obtain ⟨m, y, a, b, c, d⟩ := h3 j xk xv hx
        exact ⟨m, y, a, b, c, (VR_ren xv y).2 d⟩

/-- Block c says no more than block b. -/
structure Wk (c b : Blk) : Prop where
  br : ∀ r w p, BR r w p b → BR r w p c
  wr : c.writable = true → b.writable = true
  own : c.isOwn = true → b.isOwn = true
  there : c.there → b.there
theorem Wk.refl (b : Blk) : Wk b b := ⟨fun _ _ _ h => h, id, id, id⟩
theorem Wk.trans {a b c : Blk} (h : Wk a b) (k : Wk b c) : Wk a c := ⟨fun r w p x => h.br r w p (k.br r w p x), fun x => k.wr (h.wr x), fun x => k.own (h.own x), fun x => k.there (h.there x)⟩
theorem Wk.lock {b c : Blk} (h : b.lock = some c) : Wk c b := by
  cases b <;> simp only [Blk.lock, Option.some.injEq, reduceCtorEq] at h <;> subst h <;> exact ⟨fun _ _ _ h => h, by simp [Blk.writable], id, id⟩
theorem Wk.ren {b c : Blk} (h : Wk c b) (σ : Nat → Nat) : Wk (c.ren σ) (b.ren σ) :=
  ⟨fun r w p x => (BR_ren (n := 0) c).2 (h.br _ w p ((BR_ren (n := 0) b).1 x)), by rw [Blk.ren_writable, Blk.ren_writable]; exact h.wr, by rw [Blk.ren_isOwn, Blk.ren_isOwn]; exact h.own, fun x => (Blk.ren_there σ b).2 (h.there ((Blk.ren_there σ c).1 x))⟩

/-- Where the small memory's blocks lie in the great one: the first ones as the row says, the new ones behind all. -/
def place (l : List Nat) (base i : Nat) : Nat := if i < l.length then l.getD i 0 else base + (i - l.length)
def findAt : List Nat → Nat → Option Nat
  | [], _ => none
  | x :: l, i => if x = i then some 0 else (findAt l i).map (· + 1)
def unplace (l : List Nat) (base i : Nat) : Option Nat := if base ≤ i then some (i - base + l.length) else findAt l i

theorem findAt_some : ∀ (l : List Nat) (i j : Nat), findAt l i = some j → j < l.length ∧ l.getD j 0 = i
  | [], _, _, h => by simp [findAt] at h
  | x :: l, i, j, h => by
    simp only [findAt] at h
    by_cases e : x = i
    · rw [if_pos e] at h
      simp only [Option.some.injEq] at h
      subst h; subst e; simp
    · rw [if_neg e] at h
      cases hf : findAt l i with
      | none => rw [hf] at h; simp at h
      | some k =>
        rw [hf] at h
        simp only [Option.map_some, Option.some.injEq] at h
        subst h
        obtain ⟨h1, h2⟩ := findAt_some l i k hf
        exact ⟨by simp; exact h1, by simpa using h2⟩
theorem findAt_of : ∀ (l : List Nat) (j : Nat), l.Nodup → j < l.length → findAt l (l.getD j 0) = some j
  | [], _, _, h => by simp at h
  | x :: l, j, hn, h => by
    rw [List.nodup_cons] at hn
    cases j with
    | zero => simp [findAt]
    | succ j =>
      have hj : j < l.length := by simpa using h
      have hne : x ≠ (x :: l).getD (j + 1) 0 := by
        intro e
        have : (x :: l).getD (j + 1) 0 ∈ l := by
          simp only [List.getD_cons_succ]
          rw [List.getD_eq_getElem?_getD, List.getElem?_eq_getElem hj]
          simp
        rw [← e] at this
        exact hn.1 this
      simp only [findAt]
      rw [if_neg hne]
      have : (x :: l).getD (j + 1) 0 = l.getD j 0 := by simp
      rw [this, findAt_of l j hn.2 hj]
      rfl

/-- The small memory's blocks are there in the great one. -/
structure Frm (l : List Nat) (H Hs : Hp) : Prop where
  n : Hs.n = l.length
  nodup : l.Nodup
  lt : ∀ i, i ∈ l → i < H.n
  blk : ∀ j b, Hs.tr.get j = some b → j < l.length ∧ ∃ B, H.tr.get (l.getD j 0) = some B ∧ Wk (b.ren (place l H.n)) B

/-- The great memory behind what the small one shows. -/
structure Aft (l up : List Nat) (H Hs Hs' H' : Hp) : Prop where
  le : l.length ≤ Hs'.n
  n : H'.n = H.n + (Hs'.n - l.length)
  not : ∀ j b, j ∉ up → Hs.tr.get j = some b → b.writable = false
  wr : ∀ j b, (j ∈ up ∨ l.length ≤ j) → Hs'.tr.get j = some b → b.writable = true
  get : ∀ i B, H'.tr.get i = some B → (∃ j b, unplace l H.n i = some j ∧ (j ∈ up ∨ l.length ≤ j) ∧ Hs'.tr.get j = some b ∧ Wk B (b.ren (place l H.n))) ∨
    ((∀ j, findAt l i = some j → j ∉ up) ∧ H.tr.get i = some B)

section
variable {l up : List Nat} {H Hs Hs' H' : Hp} {r : Rho} {w : World}

theorem Aft.get' (ha : Aft l up H Hs Hs' H') (hb : ∀ i B, H.tr.get i = some B → i < H.n) (i : Nat) (B : Blk) (h : H'.tr.get i = some B) :
    (∃ j b, unplace l H.n i = some j ∧ (j ∈ up ∨ l.length ≤ j) ∧ Hs'.tr.get j = some b ∧ Wk B (b.ren (place l H.n))) ∨
    ((∀ j, unplace l H.n i = some j → ¬ (j ∈ up ∨ l.length ≤ j)) ∧ H.tr.get i = some B) := by
  rcases ha.get i B h with h1 | ⟨h1, h2⟩
  · exact .inl h1
  · refine .inr ⟨fun j hj => ?_, h2⟩
    unfold unplace at hj
    rw [if_neg (Nat.not_le_of_lt (hb i B h2))] at hj
    have := findAt_some _ _ _ hj
    rintro (h | h)
    · exact h1 j hj h
    · omega

theorem Frm.unplace_place (hf : Frm l H Hs) (j : Nat) : unplace l H.n (place l H.n j) = some j := by
  unfold place unplace
  by_cases h : j < l.length
  · rw [if_pos h]
    have hm : l.getD j 0 ∈ l := by rw [List.getD_eq_getElem?_getD, List.getElem?_eq_getElem h]; simp
    rw [if_neg (Nat.not_le_of_lt (hf.lt _ hm)), findAt_of l j hf.nodup h]
  · rw [if_neg h, if_pos (Nat.le_add_right ..)]
    congr 1; omega
theorem Frm.place_unplace (_hf : Frm l H Hs) {i j : Nat} (h : unplace l H.n i = some j) : place l H.n j = i := by
  unfold unplace at h
  by_cases hb : H.n ≤ i
  · rw [if_pos hb] at h
    simp only [Option.some.injEq] at h
    subst h
    unfold place
    rw [if_neg (by omega)]
    omega
  · rw [if_neg hb] at h
    obtain ⟨h1, h2⟩ := findAt_some _ _ _ h
    unfold place
    rw [if_pos h1, h2]

theorem Frm.hr (hf : Frm l H Hs) (hH : HR r H w) : HR (pull r (place l H.n) l.length) Hs w := by
  have hpl : ∀ j, j < l.length → place l H.n j = l.getD j 0 := fun j hj => if_pos hj
  refine ⟨hf.n, fun i hi => ?_, fun i b hi => hf.n ▸ (hf.blk i b hi).1, fun i b hi => ?_, fun i j b c hij hi hj hown hth => ?_⟩
  · have := hH.okn _ hi
    rw [← hH.n] at this
    unfold place at this
    by_cases h : i < l.length
    · exact h
    · rw [if_neg h] at this; omega
  · obtain ⟨hlt, B, hB, hw⟩ := hf.blk i b hi
    refine (BR_ren b).1 (hw.br _ _ _ ?_)
    show BR r w (r.pl (place l H.n i)) B
    rw [hpl i hlt]
    exact hH.live _ _ hB
  · obtain ⟨hlt, B, hB, hw⟩ := hf.blk i b hi
    obtain ⟨hlt', C, hC, hw'⟩ := hf.blk j c hj
    show (r.pl (place l H.n i)).blk ≠ (r.pl (place l H.n j)).blk
    have hne : place l H.n i ≠ place l H.n j := fun e => by
      have h1 := hf.unplace_place i
      rw [e, hf.unplace_place j] at h1
      simp only [Option.some.injEq] at h1
      exact hij h1.symm
    rw [hpl i hlt, hpl j hlt'] at hne ⊢
    exact hH.apart _ _ B C hne hB hC (hw.own (by rw [Blk.ren_isOwn]; exact hown)) (hw'.there ((Blk.ren_there _ c).2 hth))

theorem Frm.out (hf : Frm l H Hs) (hH : HR r H w) (ha : Aft l up H Hs Hs' H') {r1 : Rho} {w' : World} (hfit : Fits (pull r (place l H.n) l.length) Hs w r1 Hs' w') :
    ∃ r2, Fits r H w r2 H' w' ∧ Sub r1 (pull r2 (place l H.n) Hs'.n) := by
  have hn1 : r1.n = Hs'.n := hfit.hr.n.symm
  let upd (i : Nat) : Prop := ∃ j, unplace l H.n i = some j ∧ (j ∈ up ∨ l.length ≤ j)
  let r2 : Rho := ⟨fun i => match unplace l H.n i with | some j => (open Classical in if j ∈ up ∨ l.length ≤ j then r1.pl j else r.pl i) | none => r.pl i,
    fun i => match unplace l H.n i with | some j => r1.ok j | none => r.ok i, H'.n⟩
  have hplu : ∀ i j, unplace l H.n i = some j → (j ∈ up ∨ l.length ≤ j) → r2.pl i = r1.pl j := fun i j h1 h2 => by
    show (match unplace l H.n i with | some j => (open Classical in if j ∈ up ∨ l.length ≤ j then r1.pl j else r.pl i) | none => r.pl i) = _
    rw [h1]; exact if_pos h2
  have hpln : ∀ i, (∀ j, unplace l H.n i = some j → ¬ (j ∈ up ∨ l.length ≤ j)) → r2.pl i = r.pl i := fun i h => by
    show (match unplace l H.n i with | some j => (open Classical in if j ∈ up ∨ l.length ≤ j then r1.pl j else r.pl i) | none => r.pl i) = _
    cases hu : unplace l H.n i with
    | none => rfl
    | some j => exact if_neg (h j hu)
  have hoks : ∀ i j, unplace l H.n i = some j → (r2.ok i ↔ r1.ok j) := fun i j h => by
    show (match unplace l H.n i with | some j => r1.ok j | none => r.ok i) ↔ _
    rw [h]
  have hokn : ∀ i, unplace l H.n i = none → (r2.ok i ↔ r.ok i) := fun i h => by
    show (match unplace l H.n i with | some j => r1.ok j | none => r.ok i) ↔ _
    rw [h]
  have hsub1 : Sub r1 (pull r2 (place l H.n) Hs'.n) := by
    refine ⟨fun j hj => (hoks _ j (hf.unplace_place j)).2 hj, fun j hj => ?_⟩
    show r2.pl (place l H.n j) = r1.pl j
    by_cases hu : j ∈ up ∨ l.length ≤ j
    · exact hplu _ j (hf.unplace_place j) hu
    · rw [hpln _ fun k hk => by rw [hf.unplace_place j] at hk; simp only [Option.some.injEq] at hk; subst hk; exact hu]
      rcases hfit.ext.old j hj with h | h
      · exact (hfit.ext.pl j h).symm
      · exact absurd (.inr h) hu
  have hext : Ext r r2 := by
    refine ⟨by show r.n ≤ H'.n; rw [ha.n, hH.n]; exact Nat.le_add_right .., fun i hi => ?_, fun i hi => ?_, fun i hi => ?_⟩
    · cases hu : unplace l H.n i with
      | none => exact (hokn i hu).2 hi
      | some j => exact (hoks i j hu).2 (hfit.ext.ok j (by show r.ok (place l H.n j); rw [hf.place_unplace hu]; exact hi))
    · cases hu : unplace l H.n i with
      | none => exact hpln i (fun j hj => by rw [hu] at hj; simp at hj)
      | some j =>
        by_cases hup : j ∈ up ∨ l.length ≤ j
        · rw [hplu i j hu hup]
          have := hfit.ext.pl j (by show r.ok (place l H.n j); rw [hf.place_unplace hu]; exact hi)
          rw [this]
          show r.pl (place l H.n j) = r.pl i
          rw [hf.place_unplace hu]
        · exact hpln i (fun k hk => by rw [hu] at hk; simp only [Option.some.injEq] at hk; subst hk; exact hup)
    · cases hu : unplace l H.n i with
      | none => exact .inl ((hokn i hu).1 hi)
      | some j =>
        rcases hfit.ext.old j ((hoks i j hu).1 hi) with h | h
        · left
          have h : r.ok (place l H.n j) := h
          rw [hf.place_unplace hu] at h; exact h
        · right
          have h : l.length ≤ j := h
          have := hf.place_unplace hu
          unfold place at this
          rw [if_neg (by omega)] at this
          rw [← hH.n]; omega
  have hmine : ∀ x, Mine (pull r (place l H.n) l.length) Hs x → ∃ i j B, unplace l H.n i = some j ∧ j ∈ up ∧ H.tr.get i = some B ∧ B.writable = true ∧ (r.pl i).blk = x := by
    rintro x ⟨j, b, hj, hw, hx⟩
    obtain ⟨hlt, B, hB, hwk⟩ := hf.blk j b hj
    have hpl : place l H.n j = l.getD j 0 := if_pos hlt
    refine ⟨l.getD j 0, j, B, hpl ▸ hf.unplace_place j, ?_, hB, hwk.wr (by rw [Blk.ren_writable]; exact hw), ?_⟩
    · by_cases hu : j ∈ up
      · exact hu
      · rw [ha.not j b hu hj] at hw; simp at hw
    · have : (r.pl (place l H.n j)).blk = x := hx
      rw [hpl] at this; exact this
  have hstay : ∀ i B, (∀ j, unplace l H.n i = some j → ¬ (j ∈ up ∨ l.length ≤ j)) → H.tr.get i = some B → B.there → ¬ Mine (pull r (place l H.n) l.length) Hs (r.pl i).blk := by
    intro i B hi hB hth hM
    obtain ⟨k, j, C, hu, hup, hC, hw, he⟩ := hmine _ hM
    refine hH.apart k i C B (fun e => ?_) hC hB (Blk.isOwn_of_writable hw) hth he
    subst e
    exact hi j hu (.inl hup)
  refine ⟨r2, ⟨hext, ⟨rfl, fun i hi => ?_, fun i B hB => ?_, fun i B hB => ?_, fun i j B C hij hB hC hown hth => ?_⟩, hfit.kept.mono fun x _ hM => ?_, fun x hx hM => ?_⟩, hsub1⟩
  · show i < H'.n
    rw [ha.n]
    cases hu : unplace l H.n i with
    | none =>
      have := hH.okn i ((hokn i hu).1 hi)
      rw [← hH.n] at this; omega
    | some j =>
      have h1 : j < Hs'.n := hn1 ▸ hfit.hr.okn j ((hoks i j hu).1 hi)
      have h2 := hf.place_unplace hu
      unfold place at h2
      by_cases hlt : j < l.length
      · rw [if_pos hlt] at h2
        have hm : l.getD j 0 ∈ l := by rw [List.getD_eq_getElem?_getD, List.getElem?_eq_getElem hlt]; simp
        have := hf.lt _ hm
        omega
      · rw [if_neg hlt] at h2; omega
  · rw [ha.n]
    rcases ha.get' hH.bound i B hB with ⟨j, b, hu, _, hb, _⟩ | ⟨_, hB'⟩
    · have h1 : j < Hs'.n := hfit.hr.bound j b hb
      have h2 := hf.place_unplace hu
      unfold place at h2
      by_cases hlt : j < l.length
      · rw [if_pos hlt] at h2
        have hm : l.getD j 0 ∈ l := by rw [List.getD_eq_getElem?_getD, List.getElem?_eq_getElem hlt]; simp
        have := hf.lt _ hm
        omega
      · rw [if_neg hlt] at h2; omega
    · have := hH.bound i B hB'; omega
  · rcases ha.get' hH.bound i B hB with ⟨j, b, hu, hup, hb, hwk⟩ | ⟨hn, hB'⟩
    · refine hwk.br _ _ _ ((BR_ren (n := Hs'.n) b).2 ?_)
      rw [hplu i j hu hup]
      exact (hfit.hr.live j b hb).sub hsub1
    · rw [hpln i hn]
      have hb := hH.live i B hB'
      exact (hb.of_block fun hth => hfit.kept.block _ (hb.lt hth) (hstay i B hn hB' hth)).ext hext
  · rcases ha.get' hH.bound i B hB with ⟨i', b, hu, hup, hb, hwk⟩ | ⟨hn, hB'⟩
    · have hbw := ha.wr i' b hup hb
      rw [hplu i i' hu hup]
      rcases ha.get' hH.bound j C hC with ⟨j', c, hu', hup', hc, hwk'⟩ | ⟨hn', hC'⟩
      · rw [hplu j j' hu' hup']
        refine hfit.hr.apart i' j' b c (fun e => ?_) hb hc (Blk.isOwn_of_writable hbw) ((Blk.ren_there _ c).1 (hwk'.there hth))
        subst e
        exact hij (by rw [← hf.place_unplace hu, ← hf.place_unplace hu'])
      · rw [hpln j hn']
        intro he
        exact hstay j C hn' hC' hth (hfit.mine _ ((hH.live j C hC').lt hth) ⟨i', b, hb, hbw, he⟩)
    · rw [hpln i hn]
      rcases ha.get' hH.bound j C hC with ⟨j', c, hu', hup', hc, hwk'⟩ | ⟨hn', hC'⟩
      · rw [hplu j j' hu' hup']
        intro he
        exact hstay i B hn hB' (Blk.there_of_own hown) (hfit.mine _ ((hH.live i B hB').lt (Blk.there_of_own hown)) ⟨j', c, hc, ha.wr j' c hup' hc, he.symm⟩)
      · rw [hpln j hn']
        exact hH.apart i j B C hij hB' hC' hown hth
  · obtain ⟨k, _, C, _, _, hC, hw, he⟩ := hmine _ hM
    exact ⟨k, C, hC, hw, he⟩
  · obtain ⟨i, B, hB, hw, he⟩ := hM
    rcases ha.get' hH.bound i B hB with ⟨j, b, hu, hup, hb, hwk⟩ | ⟨hn, hB'⟩
    · rw [hplu i j hu hup] at he
      obtain ⟨k, _, C, _, _, hC, hw', he'⟩ := hmine _ (hfit.mine x hx ⟨j, b, hb, ha.wr j b hup hb, he⟩)
      exact ⟨k, C, hC, hw', he'⟩
    · rw [hpln i hn] at he
      exact ⟨i, B, hB', hw, he⟩

/-- Nothing of the memory is touched. -/
theorem Frm.none (H : Hp) : Frm [] H ⟨.nil, 0⟩ := ⟨rfl, List.nodup_nil, fun i hi => by simp at hi, fun j b hj => by rw [Tr.get_nil] at hj; simp at hj⟩
theorem Aft.none (H : Hp) : Aft [] [] H ⟨.nil, 0⟩ ⟨.nil, 0⟩ H :=
  ⟨Nat.le_refl _, rfl, fun j b _ hj => by rw [Tr.get_nil] at hj; simp at hj, fun j b _ hj => by rw [Tr.get_nil] at hj; simp at hj, fun i B hB => .inr ⟨fun j _ => by simp, hB⟩⟩

/-- A call that is shown over a small memory. -/
theorem CallOk.frame {P : Program} {f : FuncId} {xs xs' : List V} {v v' : V} {s s' : S} {hs hs' : List Bool} {cs cs' : List Prop} (h : CallOk P f xs s v s') (hf : Frm l H s.H) (ha : Aft l up H s.H s'.H H')
    (hx : ∀ r ys, VRs r xs' ys → VRs r (V.renL (place l H.n) xs) ys) (hv : ∀ r y, VR r (v.ren (place l H.n)) y → VR r v' y) : CallOk P f xs' ⟨H, hs, cs⟩ v' ⟨H', hs', cs'⟩ := by
  intro r w ys hH hxs
  refine (h _ w ys (hf.hr hH) ((VRs_ren xs ys.toList).1 (hx _ _ hxs))).mono ?_
  rintro e w' ⟨y, r1, rfl, hvr, hfit⟩
  obtain ⟨r2, hfit2, hsub⟩ := hf.out hH ha hfit
  exact ⟨y, r2, rfl, hv _ _ ((VR_ren v y).2 (VR.sub hsub _ _ hvr)), hfit2⟩

/-- A loop that is shown over a small memory, and few temporaries. -/
theorem LoopOk.frame {P : Program} {nt : Nat} {body : Code} {T T' U U' : Tr V} {out : Out} {s s' : S} {hs hs' : List Bool} {cs cs' : List Prop} (h : LoopOk P nt body T s out T' s') (hf : Frm l H s.H) (ha : Aft l up H s.H s'.H H')
    (hx : ∀ r t u y, T.get t = some u → (∀ x, U.get t = some x → VR r x y) → VR r (u.ren (place l H.n)) y) (hv : ∀ r t x y, U'.get t = some x → (∀ u, T'.get t = some u → VR r (u.ren (place l H.n)) y) → VR r x y) :
    LoopOk P nt body U ⟨H, hs, cs⟩ out U' ⟨H', hs', cs'⟩ := by
  intro r w a hA hH
  have hA1 : AR (pull r (place l H.n) l.length) nt T a := ⟨hA.size, hA.defers, fun t u hu => (VR_ren u _).1 (hx r t u _ hu fun x hx => hA.tmp t x hx)⟩
  refine (h _ w a hA1 (hf.hr hH)).mono ?_
  rintro e a' w' ⟨he, r1, hA', hfit⟩
  obtain ⟨r2, hfit2, hsub⟩ := hf.out hH ha hfit
  exact ⟨he, r2, ⟨hA'.size, hA'.defers, fun t x hx => hv r2 t x _ hx fun u hu => (VR_ren u _).2 (VR.sub hsub _ _ (hA'.tmp t u hu))⟩, hfit2⟩

end
end Go.Ideal
