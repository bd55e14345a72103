/- The ideal machine: addresses, slices, loads, conversions, one by one. Own text; nothing here is trusted. -/
import Derived.Test.YtbcadmnkilckbaaI5
namespace Go.Ideal
set_option linter.unusedSimpArgs false
set_option linter.unusedVariables false

/-! ### Counts -/

def N.op2 (f : Nat → Nat → Nat) : N → N → N
  | .c a, .c b => .c (f a b)
  | .c a, .s b => .s (f a b)
  | .s a, .c b => .s (f a b)
  | .s a, .s b => .s (f a b)
theorem N.op2_val (f : Nat → Nat → Nat) (a b : N) : (N.op2 f a b).val = f a.val b.val := by cases a <;> cases b <;> rfl
def N.toE : N → E
  | .c n => .c (n : Int)
  | .s n => .s (n : Int)
theorem N.toE_val (n : N) : n.toE.val = (n.val : Int) := by cases n <;> rfl
def E.toN : E → N
  | .c n => .c n.toNat
  | .s n => .s n.toNat
theorem E.toN_val (e : E) : e.toN.val = e.val.toNat := by cases e <;> rfl
/-- i times sz further on. -/
def N.madd (o i : N) (sz : Nat) : N := match o, sz with
  | .c 0, 1 => i
  | o, 1 => N.op2 (fun a b => a + b) o i
  | .c 0, sz => N.op2 (fun _ b => b * sz) (.c 0) i
  | o, sz => N.op2 (fun a b => a + b * sz) o i
theorem N.madd_val (o i : N) (sz : Nat) : (o.madd i sz).val = o.val + i.val * sz := by
  unfold N.madd
  split
  · simp [N.val]
  · rw [N.op2_val]; simp
  · rw [N.op2_val]; simp [N.val]
  · rw [N.op2_val]

/-- A whole number that must lie from 0 below n. -/
def idxLt (e : E) (n : N) : Option (N × List Prop) :=
  match e, n with
  | .c i, .c m => if 0 ≤ i ∧ i < (m : Int) then some (.c i.toNat, []) else none
  | e, n => some (e.toN, [0 ≤ e.val ∧ e.val < (n.val : Int)])
/-- A whole number that must lie from 0 up to n. -/
def idxLe (e : E) (n : N) : Option (N × List Prop) :=
  match e, n with
  | .c i, .c m => if 0 ≤ i ∧ i ≤ (m : Int) then some (.c i.toNat, []) else none
  | e, n => some (e.toN, [0 ≤ e.val ∧ e.val ≤ (n.val : Int)])
theorem idxLt_ok {e : E} {n i : N} {cs : List Prop} (h : idxLt e n = some (i, cs)) (hcs : ∀ q, q ∈ cs → q) : 0 ≤ e.val ∧ e.val < (n.val : Int) ∧ i.val = e.val.toNat := by
  unfold idxLt at h
  split at h
  · split at h
    · rename_i hb
      simp only [Option.some.injEq, Prod.mk.injEq] at h
      obtain ⟨rfl, rfl⟩ := h
      exact ⟨hb.1, hb.2, rfl⟩
    · simp at h
  · simp only [Option.some.injEq, Prod.mk.injEq] at h
    obtain ⟨rfl, rfl⟩ := h
    have hb := hcs _ (List.mem_singleton.2 rfl)
    exact ⟨hb.1, hb.2, E.toN_val e⟩
theorem idxLe_ok {e : E} {n i : N} {cs : List Prop} (h : idxLe e n = some (i, cs)) (hcs : ∀ q, q ∈ cs → q) : 0 ≤ e.val ∧ e.val ≤ (n.val : Int) ∧ i.val = e.val.toNat := by
  unfold idxLe at h
  split at h
  · split at h
    · rename_i hb
      simp only [Option.some.injEq, Prod.mk.injEq] at h
      obtain ⟨rfl, rfl⟩ := h
      exact ⟨hb.1, hb.2, rfl⟩
    · simp at h
  · simp only [Option.some.injEq, Prod.mk.injEq] at h
    obtain ⟨rfl, rfl⟩ := h
    have hb := hcs _ (List.mem_singleton.2 rfl)
    exact ⟨hb.1, hb.2, E.toN_val e⟩

/-! ### Addresses -/

def fieldAddrV (P : Program) (t : TypeId) (x : V) (f : Nat) : Ans :=
  match x, P.underlying t with
  | .ptr b o, some (.struct fs) => match fs[f]? with
    | some fd => match sizeT P fd.type with
      | some (_ + 1) => some (.ptr b (o.add fd.offset), [])
      | _ => none
    | none => none
  | _, _ => none

theorem fieldAddrV_ok {P : Program} {w : World} {r : Rho} {t : TypeId} {x v : V} {X : Value} {f : Nat} {cs : List Prop} (h : fieldAddrV P t x f = some (v, cs)) (hx : VR r x X) :
    Gives P w r (Instr.fieldAt t X f) v := by
  unfold fieldAddrV at h
  split at h
  · rename_i b o fs hu
    split at h
    · rename_i fd hfd
      split at h
      · rename_i k hs
        simp only [Option.some.injEq, Prod.mk.injEq] at h
        obtain ⟨rfl, rfl⟩ := h
        simp only [VR] at hx
        obtain ⟨hb, rfl⟩ := hx
        refine ⟨.pointer (some ⟨(r.pl b).blk, (r.pl b).sh + (o.add fd.offset).val, none⟩), ?_, by simp only [VR]; exact ⟨hb, trivial⟩⟩
        simp only [Instr.fieldAt, Sem.run_bind, run_underlying hu, Result.andThen_ok, hfd, Instr.sureAddr, Sem.run_pure, fieldPlace, run_sizeT hs, Sem.run_ite]
        rw [if_neg (by omega), addr_add, N.add_val, Nat.add_assoc]
        rfl
      · simp at h
    · simp at h
  · simp at h

def indexAddrV (P : Program) (t : TypeId) (x i : V) : Ans :=
  match P.underlying t, x, i with
  | some (.array n e), .ptr b o, .int _ j => match sizeT P e, idxLt j (.c n) with
    | some sz, some (m, cs) => some (.ptr b (o.madd m sz), cs)
    | _, _ => none
  | some (.slice e), .slice b o len sz _, .int _ j => match sizeT P e, idxLt j len with
    | some sz', some (m, cs) => if sz = sz' then some (.ptr b (o.madd m sz), cs) else none
    | _, _ => none
  | _, _, _ => none

theorem indexAddrV_ok {P : Program} {w : World} {r : Rho} {t : TypeId} {x i v : V} {X I : Value} {cs : List Prop} (h : indexAddrV P t x i = some (v, cs)) (hcs : ∀ q, q ∈ cs → q) (hx : VR r x X) (hi : VR r i I) :
    Gives P w r (Instr.indexAt t X I) v := by
  unfold indexAddrV at h
  split at h
  · rename_i n e b o k j hu
    split at h
    · rename_i sz m ds hs hm
      simp only [Option.some.injEq, Prod.mk.injEq] at h
      obtain ⟨rfl, rfl⟩ := h
      obtain ⟨h0, h1, h2⟩ := idxLt_ok hm hcs
      simp only [VR] at hx hi
      obtain ⟨hb, rfl⟩ := hx
      subst hi
      refine ⟨.pointer (some ⟨(r.pl b).blk, (r.pl b).sh + (o.madd m sz).val, none⟩), ?_, by simp only [VR]; exact ⟨hb, trivial⟩⟩
      have hl : P.arrayLen t = n := by simp [Program.arrayLen, hu]
      have he : P.elem t = e := by simp [Program.elem, hu]
      rw [run_indexAt_array w t _ k j.val (by rw [hl, he]; exact hu), hl, he, if_pos ⟨h0, h1⟩, run_sizeT hs, Result.andThen_ok, addr_add, N.madd_val, h2, Nat.add_assoc]
    · simp at h
  · rename_i e b o len sz mc k j hu
    split at h
    · rename_i sz' m ds hs hm
      split at h
      · rename_i hsz
        subst hsz
        simp only [Option.some.injEq, Prod.mk.injEq] at h
        obtain ⟨rfl, rfl⟩ := h
        obtain ⟨h0, h1, h2⟩ := idxLt_ok hm hcs
        simp only [VR] at hx hi
        obtain ⟨hb, a, cap, rfl, hlc, hmc, ha⟩ := hx
        subst hi
        have he : P.elem t = e := by simp [Program.elem, hu]
        rcases ha with ⟨rfl, _⟩ | hc0
        · refine ⟨.pointer (some ⟨(r.pl b).blk, (r.pl b).sh + (o.madd m sz).val, none⟩), ?_, by simp only [VR]; exact ⟨hb, trivial⟩⟩
          rw [run_indexAt_slice w t _ _ _ k j.val (by rw [he]; exact hu), he, if_pos ⟨h0, h1⟩, run_sizeT hs, Result.andThen_ok, addr_add, N.madd_val, h2, Nat.add_assoc]
        · omega
      · simp at h
    · simp at h
  · simp at h

/-! ### Slices of slices, arrays, strings -/

/-- A bound of a slice: what it is if it is not told; what it may be at most. -/
def boundV (x : Option V) (least most : N) : Option (N × List Prop) :=
  match x with
  | none => some (least, [])
  | some (.int _ e) => idxLe e most
  | some _ => none

theorem run_sliceBound {P : Program} {w : World} {r : Rho} {e : E} {k : IntKind} {X : Value} {m : N} {i : N} {cs : List Prop} {y : Nat} {code : BoundsCode} (h : idxLe e m = some (i, cs)) (hcs : ∀ q, q ∈ cs → q)
    (hX : VR r (.int k e) X) (hy : m.val ≤ y) : (Instr.sliceBound X y code).run P w = .ok i.val w := by
  obtain ⟨h0, h1, h2⟩ := idxLe_ok h hcs
  simp only [VR] at hX
  subst hX
  simp only [Instr.sliceBound, asIntOf, Sem.run_bind, Sem.run_pure, Result.andThen_ok, Sem.run_ite]
  rw [if_pos ⟨h0, by omega⟩, h2]

def VRo (r : Rho) : Option V → Option Value → Prop
  | none, y => y = none
  | some v, y => ∃ z, y = some z ∧ VR r v z

/-- The third bound as it is told. -/
def CapIs (m : Option N) (m' y : Nat) : Prop :=
  match m with
  | none => m' = y
  | some k => m' = k.val

/-- The three bounds: 'len', 'cap' as they are known (cap: at least). -/
def boundsV (lo hi mx : Option V) (len cap : N) : Option (N × N × Option N × List Prop) :=
  match mx with
  | none => match boundV hi len cap with
    | some (h, c1) => match boundV lo (.c 0) h with
      | some (l, c2) => some (l, h, none, c1 ++ c2)
      | none => none
    | none => none
  | some x => match hi with
    | none => none
    | some y => match boundV (some x) cap cap with
      | some (m, c0) => match boundV (some y) m m with
        | some (h, c1) => match boundV lo (.c 0) h with
          | some (l, c2) => some (l, h, some m, c0 ++ (c1 ++ c2))
          | none => none
        | none => none
      | none => none

theorem run_boundV {P : Program} {w : World} {r : Rho} {x : Option V} {X : Option Value} {least most i : N} {cs : List Prop} {y d : Nat} {code : BoundsCode} (h : boundV x least most = some (i, cs))
    (hcs : ∀ q, q ∈ cs → q) (hX : VRo r x X) (hy : most.val ≤ y) (hd : d = least.val) :
    (match X with | some v => Instr.sliceBound v y code | none => pure d).run P w = .ok i.val w ∧ (i.val ≤ y ∨ x = none) := by
  cases x with
  | none =>
    simp only [boundV, Option.some.injEq, Prod.mk.injEq] at h
    obtain ⟨rfl, rfl⟩ := h
    simp only [VRo] at hX
    subst hX
    exact ⟨by simp [hd], .inr rfl⟩
  | some v =>
    simp only [VRo] at hX
    obtain ⟨z, rfl, hz⟩ := hX
    cases v <;> simp only [boundV, reduceCtorEq] at h
    rename_i k e
    have := idxLe_ok h hcs
    exact ⟨run_sliceBound h hcs hz hy, .inl (by omega)⟩

theorem run_boundsV {P : Program} {w : World} {r : Rho} {lo hi mx : Option V} {LO HI MX : Option Value} {len cap l h : N} {m : Option N} {cs : List Prop} {isSlice : Bool} {n y : Nat}
    (hb : boundsV lo hi mx len cap = some (l, h, m, cs)) (hcs : ∀ q, q ∈ cs → q) (hlo : VRo r lo LO) (hhi : VRo r hi HI) (hmx : VRo r mx MX) (hn : len.val = n) (hly : len.val ≤ y) (hy : cap.val ≤ y) :
    ∃ m', (Instr.sliceBounds isSlice n y LO HI MX).run P w = .ok (l.val, h.val, m') w ∧ l.val ≤ h.val ∧ h.val ≤ m' ∧ m' ≤ y ∧ CapIs m m' y := by
  unfold boundsV at hb
  cases mx with
  | none =>
    simp only [VRo] at hmx
    subst hmx
    simp only at hb
    split at hb
    · rename_i h' c1 h1
      split at hb
      · rename_i l' c2 h2
        simp only [Option.some.injEq, Prod.mk.injEq] at hb
        obtain ⟨rfl, rfl, rfl, rfl⟩ := hb
        have r1 := run_boundV (P := P) (w := w) (y := y) (d := n) (code := if isSlice then .sliceAcap else .sliceAlen) h1 (fun q hq => hcs q (List.mem_append_left _ hq)) hhi hy hn.symm
        have r2 := run_boundV (P := P) (w := w) (y := h'.val) (d := 0) (code := .sliceB) h2 (fun q hq => hcs q (List.mem_append_right _ hq)) hlo (Nat.le_refl _) rfl
        refine ⟨y, ?_, ?_, ?_, Nat.le_refl _, rfl⟩
        · cases HI <;> cases LO <;> simp_all [Instr.sliceBounds]
        · rcases r2.2 with h3 | h3
          · exact h3
          · subst h3; simp only [boundV, Option.some.injEq, Prod.mk.injEq] at h2; rw [← h2.1]; exact Nat.zero_le _
        · rcases r1.2 with h3 | h3
          · exact h3
          · subst h3; simp only [boundV, Option.some.injEq, Prod.mk.injEq] at h1; rw [← h1.1]; exact hly
      · simp at hb
    · simp at hb
  | some x =>
    simp only at hb
    cases hi with
    | none => simp at hb
    | some y' =>
    simp only at hb
    split at hb
    · rename_i m' c0 h0
      split at hb
      · rename_i h' c1 h1
        split at hb
        · rename_i l' c2 h2
          simp only [Option.some.injEq, Prod.mk.injEq] at hb
          obtain ⟨rfl, rfl, rfl, rfl⟩ := hb
          simp only [VRo] at hmx hhi
          obtain ⟨X, rfl, hX⟩ := hmx
          obtain ⟨Y, rfl, hY⟩ := hhi
          have r0 := run_boundV (P := P) (w := w) (y := y) (d := cap.val) (code := if isSlice then .slice3Acap else .slice3Alen) h0 (fun q hq => hcs q (List.mem_append_left _ hq)) (X := some X) (by simp only [VRo]; exact ⟨X, rfl, hX⟩) hy rfl
          have r1 := run_boundV (P := P) (w := w) (y := m'.val) (d := m'.val) (code := .slice3B) h1 (fun q hq => hcs q (List.mem_append_right _ (List.mem_append_left _ hq))) (X := some Y) (by simp only [VRo]; exact ⟨Y, rfl, hY⟩) (Nat.le_refl _) rfl
          have r2 := run_boundV (P := P) (w := w) (y := h'.val) (d := 0) (code := .slice3C) h2 (fun q hq => hcs q (List.mem_append_right _ (List.mem_append_right _ hq))) hlo (Nat.le_refl _) rfl
          refine ⟨m'.val, ?_, ?_, ?_, ?_, rfl⟩
          · cases LO <;> simp_all [Instr.sliceBounds]
          · rcases r2.2 with h3 | h3
            · exact h3
            · subst h3; simp only [boundV, Option.some.injEq, Prod.mk.injEq] at h2; rw [← h2.1]; exact Nat.zero_le _
          · rcases r1.2 with h3 | h3
            · exact h3
            · simp at h3
          · rcases r0.2 with h3 | h3
            · exact h3
            · simp at h3
        · simp at hb
      · simp at hb
    · simp at hb

def N.sub (a b : N) : N := N.op2 (fun x y => x - y) a b
theorem N.sub_val (a b : N) : (a.sub b).val = a.val - b.val := N.op2_val _ a b

/-- A count that must be at most another one. -/
def leN (a b : N) : Option (List Prop) :=
  match a, b with
  | .c x, .c y => if x ≤ y then some [] else none
  | a, b => some [a.val ≤ b.val]
theorem leN_ok {a b : N} {cs : List Prop} (h : leN a b = some cs) (hcs : ∀ q, q ∈ cs → q) : a.val ≤ b.val := by
  unfold leN at h
  split at h
  · split at h
    · rename_i hb; exact hb
    · simp at h
  · simp only [Option.some.injEq] at h
    subst h
    exact hcs _ (List.mem_singleton.2 rfl)

/-- How many cells a block is known to have. -/
def Blk.known : Blk → Option Nat
  | .own _ _ _ n rest => some (n + rest.length)
  | _ => none

theorem BR.known {r : Rho} {w : World} {p : Pl} {b : Blk} {n : Nat} (h : BR r w p b) (hk : b.known = some n) : n ≤ p.cap ∧ p.sh = 0 := by
  cases b <;> simp only [Blk.known, Option.some.injEq, reduceCtorEq] at hk
  subst hk
  obtain ⟨c, _, h1, h2, h3, _⟩ := h
  exact ⟨by rw [h2]; exact h3, h1⟩

/-- The capacity that is known. -/
def capOf (m : Option N) (d : N) : N :=
  match m with
  | none => d
  | some k => k
theorem capOf_le {m : Option N} {d : N} {m' y : Nat} (h : CapIs m m' y) (hd : d.val ≤ y) : (capOf m d).val ≤ m' := by
  cases m with
  | none => simp only [CapIs] at h; subst h; exact hd
  | some k => simp only [CapIs] at h; subst h; exact Nat.le_refl _

def sliceV (P : Program) (H : Hp) (t : TypeId) (x : V) (lo hi mx : Option V) : Ans :=
  match P.underlying t, x with
  | some (.slice e), .slice b o len sz mc => match sizeT P e, boundsV lo hi mx len mc with
    | some sz', some (l, h, m, cs) =>
      if sz = sz' then match leN len mc with
        | some ds => some (.slice b (o.madd l sz) (h.sub l) sz ((capOf m mc).sub l), cs ++ ds)
        | none => none
      else none
    | _, _ => none
  | some (.slice e), .nils => match sizeT P e, boundsV lo hi mx (.c 0) (.c 0) with
    | some _, some (_, _, _, cs) => some (.nils, cs)
    | _, _ => none
  | some (.array n e), .ptr b o => match sizeT P e, boundsV lo hi mx (.c n) (.c n), (H.tr.get b).bind Blk.known with
    | some sz, some (l, h, m, cs), some k => match leN (o.add (n * sz)) (.c k) with
      | some ds => some (.slice b (o.madd l sz) (h.sub l) sz ((capOf m (.c n)).sub l), cs ++ ds)
      | none => none
    | _, _, _ => none
  | some .string, .str kn s => match boundsV lo hi mx (if kn then .c s.size else .s s.size) (if kn then .c s.size else .s s.size), mx with
    | some (l, h, _, cs), none => some (.str (kn && (match l, h with | .c _, .c _ => true | _, _ => false)) (s.extract l.val h.val), cs)
    | _, _ => none
  | _, _ => none

theorem sliceV_ok {P : Program} {w : World} {r : Rho} {H : Hp} {t : TypeId} {x v : V} {X : Value} {lo hi mx : Option V} {LO HI MX : Option Value} {cs : List Prop} (hH : HR r H w)
    (h : sliceV P H t x lo hi mx = some (v, cs)) (hcs : ∀ q, q ∈ cs → q) (hx : VR r x X) (hlo : VRo r lo LO) (hhi : VRo r hi HI) (hmx : VRo r mx MX) : Gives P w r (Instr.sliceAt t X LO HI MX) v := by
  unfold sliceV at h
  split at h
  · rename_i e b o len sz mc hu
    split at h
    · rename_i sz' l hh m ds hs hb
      split at h
      · rename_i hsz
        subst hsz
        split at h
        · rename_i es hle
          simp only [Option.some.injEq, Prod.mk.injEq] at h
          obtain ⟨rfl, rfl⟩ := h
          have hlm := leN_ok hle (fun q hq => hcs q (List.mem_append_right _ hq))
          simp only [VR] at hx
          obtain ⟨hbn, a, cap, rfl, hlc, hmc, ha⟩ := hx
          obtain ⟨m', hr, h1, h2, h3, h4⟩ := run_boundsV (P := P) (w := w) (isSlice := true) hb (fun q hq => hcs q (List.mem_append_left _ hq)) hlo hhi hmx rfl hlc hmc
          have hmm := capOf_le h4 hmc
          refine ⟨.slice (if m' = l.val then a else a.map (·.add (l.val * sz))) (hh.val - l.val) (m' - l.val), ?_, ?_⟩
          · simp only [Instr.sliceAt, Sem.run_bind, run_underlying hu, Result.andThen_ok, Instr.slice, hr, run_sizeT hs, Sem.run_pure]
          · simp only [VR]
            refine ⟨hbn, if m' = l.val then a else a.map (·.add (l.val * sz)), m' - l.val, ?_, ?_, ?_, ?_⟩
            · rw [N.sub_val]
            · rw [N.sub_val]; omega
            · rw [N.sub_val]; omega
            · by_cases e : m' = l.val
              · exact .inr (by omega)
              · rw [if_neg e]
                rcases ha with ⟨rfl, hcap⟩ | hc0
                · refine .inl ⟨?_, ?_⟩
                  · simp only [Option.map_some]; rw [addr_add, N.madd_val, Nat.add_assoc]
                  · rw [N.madd_val]
                    have : l.val * sz + (m' - l.val) * sz = m' * sz := by rw [← Nat.add_mul]; congr 1; omega
                    have h5 : m' * sz ≤ cap * sz := Nat.mul_le_mul_right _ h3
                    omega
                · exact .inr (by omega)
        · simp at h
      · simp at h
    · simp at h
  · rename_i e hu
    split at h
    · rename_i sz l hh m ds hs hb
      simp only [Option.some.injEq, Prod.mk.injEq] at h
      obtain ⟨rfl, rfl⟩ := h
      simp only [VR] at hx
      subst hx
      obtain ⟨m', hr, h1, h2, h3, h4⟩ := run_boundsV (P := P) (w := w) (isSlice := true) (y := 0) (n := 0) hb hcs hlo hhi hmx rfl (Nat.le_refl _) (Nat.le_refl _)
      have hm0 : m' = 0 := by omega
      have hl0 : l.val = 0 := by omega
      have hh0 : hh.val = 0 := by omega
      refine ⟨.slice none 0 0, ?_, by simp only [VR]⟩
      simp only [Instr.sliceAt, Sem.run_bind, run_underlying hu, Result.andThen_ok, Instr.slice, hr, hm0, hl0, hh0, run_sizeT hs, Sem.run_pure]
      rfl
    · simp at h
  · rename_i n e b o hu
    split at h
    · rename_i sz l hh m ds k hs hb hk
      split at h
      · rename_i es hle
        simp only [Option.some.injEq, Prod.mk.injEq] at h
        obtain ⟨rfl, rfl⟩ := h
        have hcap0 := leN_ok hle (fun q hq => hcs q (List.mem_append_right _ hq))
        simp only [VR] at hx
        obtain ⟨hbn, rfl⟩ := hx
        obtain ⟨m', hr, h1, h2, h3, h4⟩ := run_boundsV (P := P) (w := w) (isSlice := false) (y := n) (n := n) hb (fun q hq => hcs q (List.mem_append_left _ hq)) hlo hhi hmx rfl (Nat.le_refl _) (Nat.le_refl _)
        have hcap : o.val + n * sz ≤ (r.pl b).cap := by
          cases hg : H.tr.get b with
          | none => rw [hg] at hk; simp at hk
          | some bl =>
            rw [hg] at hk
            have := (hH.live b bl hg).known hk
            rw [N.add_val] at hcap0
            exact Nat.le_trans hcap0 this.1
        have hmm := capOf_le (d := N.c n) h4 (Nat.le_refl _)
        refine ⟨.slice (some (if m' = l.val then ⟨(r.pl b).blk, (r.pl b).sh + o.val, none⟩ else (⟨(r.pl b).blk, (r.pl b).sh + o.val, none⟩ : Addr).add (l.val * sz))) (hh.val - l.val) (m' - l.val), ?_, ?_⟩
        · simp only [Instr.sliceAt, Sem.run_bind, run_underlying hu, Result.andThen_ok, Instr.sureAddr, Sem.run_pure, hr, run_sizeT hs]
        · simp only [VR]
          refine ⟨hbn, _, m' - l.val, by rw [N.sub_val], ?_, ?_, ?_⟩
          · rw [N.sub_val]; omega
          · rw [N.sub_val]; omega
          · by_cases e : m' = l.val
            · exact .inr (by omega)
            · rw [if_neg e]
              refine .inl ⟨?_, ?_⟩
              · rw [addr_add, N.madd_val, Nat.add_assoc]
              · rw [N.madd_val]
                have : l.val * sz + (m' - l.val) * sz = m' * sz := by rw [← Nat.add_mul]; congr 1; omega
                have h5 : m' * sz ≤ n * sz := Nat.mul_le_mul_right _ h3
                omega
      · simp at h
    · simp at h
  · rename_i kn s hu
    split at h
    · rename_i l hh m ds hb
      simp only [Option.some.injEq, Prod.mk.injEq] at h
      obtain ⟨rfl, rfl⟩ := h
      simp only [VR] at hx
      subst hx
      simp only [VRo] at hmx
      subst hmx
      have hsz : (if kn then (.c s.size : N) else .s s.size).val = s.size := by cases kn <;> rfl
      obtain ⟨m', hr, h1, h2, h3, h4⟩ := run_boundsV (P := P) (w := w) (isSlice := false) (y := s.size) (n := s.size) (MX := none) hb hcs hlo hhi rfl hsz (by rw [hsz]; exact Nat.le_refl _) (by rw [hsz]; exact Nat.le_refl _)
      refine ⟨.string (s.extract l.val hh.val), ?_, by simp only [VR]⟩
      simp only [Instr.sliceAt, Sem.run_bind, run_underlying hu, Result.andThen_ok, Instr.slice, hr, Option.isSome_none, Bool.false_eq_true, if_false, Sem.run_pure]
    · simp at h
  · simp at h

end Go.Ideal
