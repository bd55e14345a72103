/- The ideal machine: append as it is called; maps over whole numbers. Own text; nothing here is trusted. -/
import Derived.Test.YtbcadmnkilckbaaI10
namespace Go.Ideal
set_option linter.unusedSimpArgs false
set_option linter.unusedVariables false

/-- A known number of cells of a slice. -/
def contentV (H : Hp) (x : V) (sz : Nat) : Option (Nat × List V × List Prop) :=
  match x with
  | .nils => some (0, [], [])
  | .slice b o (.c m) sz' _ => if sz' = sz then match H.tr.get b with
      | some bl => match bl.cells o (m * sz) with
        | some (vs, cs) => some (m, vs, cs)
        | none => none
      | none => none
    else none
  | _ => none

/-- k whole numbers from a place on, as a function. -/
def needLe (a : N) (k : Nat) (b : N) : List Prop := match a, b with
  | .c a, .c b => if Nat.ble (a + k) b then [] else [a + k ≤ b]
  | a, b => [a.val + k ≤ b.val]
theorem needLe_ok {a b : N} {k : Nat} (h : ∀ q, q ∈ needLe a k b → q) : a.val + k ≤ b.val := by
  cases a <;> cases b <;> simp only [needLe] at h <;> try exact h _ (List.mem_singleton.2 rfl)
  rename_i a b
  by_cases e : Nat.ble (a + k) b = true
  · exact Nat.le_of_ble_eq_true e
  · rw [if_neg e] at h; exact h _ (List.mem_singleton.2 rfl)
def shiftF (o : N) (f : Nat → Int) : Nat → Int := match o with
  | .c 0 => f
  | o => fun i => f (o.val + i)
theorem shiftF_eq (o : N) (f : Nat → Int) (i : Nat) : shiftF o f i = f (o.val + i) := by
  cases o with
  | c n => cases n with
    | zero => simp [shiftF, N.val]
    | succ n => rfl
  | s n => rfl
def Blk.ints : Blk → N → Nat → Option ((Nat → Int) × List Prop)
  | .ext f n, o, k => some (shiftF o f, needLe o k n)
  | .own _ _ f n _, o, k => match o with
    | .c a => if Nat.ble (a + k) n then some (shiftF o f, []) else none
    | o => some (shiftF o f, [o.val + k ≤ n])
  | .mp _, _, _ => none

theorem BR.ints {r : Rho} {w : World} {p : Pl} {b : Blk} (h : BR r w p b) {o : N} {k : Nat} {g : Nat → Int} {cs : List Prop} (hi : b.ints o k = some (g, cs)) (hcs : ∀ q, q ∈ cs → q) :
    ∀ i, i < k → w.cell? ⟨p.blk, p.sh + o.val + i, none⟩ = some (.int .i64 (g i)) := by
  intro i hik
  cases b
  case own ro e f n rest =>
    have key : o.val + k ≤ n ∧ g = shiftF o f := by
      simp only [Blk.ints] at hi
      split at hi
      · rename_i a
        split at hi
        · rename_i hb
          simp only [Option.some.injEq, Prod.mk.injEq] at hi
          exact ⟨Nat.le_of_ble_eq_true hb, hi.1.symm⟩
        · simp at hi
      · simp only [Option.some.injEq, Prod.mk.injEq] at hi
        obtain ⟨rfl, rfl⟩ := hi
        exact ⟨hcs _ (List.mem_singleton.2 rfl), rfl⟩
    obtain ⟨hb, rfl⟩ := key
    obtain ⟨c, hc, h1, h2, h3, h4, h5⟩ := h
    rw [h1, Nat.zero_add, cell_of_row w p.blk _ c e (0, 0) hc, shiftF_eq]
    exact h4 _ (by omega)
  case ext f n =>
    simp only [Blk.ints, Option.some.injEq, Prod.mk.injEq] at hi
    obtain ⟨rfl, rfl⟩ := hi
    have hb := needLe_ok hcs
    have := h (o.val + i) (by omega)
    rw [Nat.add_assoc, shiftF_eq]
    exact this
  case mp es => simp [Blk.ints] at hi

def eqN (k : Nat) (len : N) (sz : Nat) : Option (List Prop) :=
  match len with
  | .c l => if k = l * sz then some [] else none
  | .s l => some [k = l * sz]
theorem eqN_ok {k : Nat} {len : N} {sz : Nat} {cs : List Prop} (h : eqN k len sz = some cs) (hcs : ∀ q, q ∈ cs → q) : k = len.val * sz := by
  unfold eqN at h
  split at h
  · split at h
    · assumption
    · simp at h
  · simp only [Option.some.injEq] at h; subst h
    exact hcs _ (List.mem_singleton.2 rfl)
/-- There is room for m more. -/
def roomN (len : N) (m bytes : Nat) : Option (List Prop) :=
  match len with
  | .c l => if l + m ≤ 9223372036854775807 ∧ (l + m) * bytes ≤ 140737488355328 then some [] else none
  | .s l => some [l + m ≤ 9223372036854775807 ∧ (l + m) * bytes ≤ 140737488355328]
theorem roomN_ok {m bytes : Nat} {len : N} {cs : List Prop} (h : roomN len m bytes = some cs) (hcs : ∀ q, q ∈ cs → q) : len.val + m ≤ maxLen ∧ (len.val + m) * bytes ≤ 140737488355328 := by
  unfold roomN at h
  split at h
  · split at h
    · rename_i hb; exact ⟨by unfold maxLen; exact hb.1, hb.2⟩
    · simp at h
  · simp only [Option.some.injEq] at h; subst h
    have hb := hcs _ (List.mem_singleton.2 rfl)
    exact ⟨by unfold maxLen; exact hb.1, hb.2⟩

/-- .. for m that may be unknown. -/
def roomNN (len m : N) (bytes : Nat) : Option (List Prop) :=
  match m with
  | .c k => roomN len k bytes
  | .s k => some [len.val + k ≤ 9223372036854775807 ∧ (len.val + k) * bytes ≤ 140737488355328]
theorem roomNN_ok {len m : N} {bytes : Nat} {cs : List Prop} (h : roomNN len m bytes = some cs) (hcs : ∀ q, q ∈ cs → q) : len.val + m.val ≤ maxLen ∧ (len.val + m.val) * bytes ≤ 140737488355328 := by
  unfold roomNN at h
  split at h
  · exact roomN_ok h hcs
  · simp only [Option.some.injEq] at h; subst h
    have hb := hcs _ (List.mem_singleton.2 rfl)
    exact ⟨by unfold maxLen; exact hb.1, hb.2⟩

def N.plus (a : N) (m : Nat) : N := a.add m

/-- append of a known number of elements. -/
def appendK (H : Hp) (e : TypeId) (i : TypeInfo) (s : V) (m : Nat) (vs : List V) (cs : List Prop) : Option (V × Hp × List Prop) :=
  match m, s with
  | 0, .nils => some (.nils, H, cs)
  | 0, .slice b o len sz mc => some (.slice b o len sz mc, H, cs)
  | m + 1, .nils => if vs.all V.one then match roomN (.c 0) (m + 1) i.bytes with
      | some ds => some (.slice H.n (.c 0) (.c (m + 1)) i.size (.c (m + 1)), H.push (.own false e (fun _ => 0) 0 vs), cs ++ ds)
      | none => none
    else none
  | m + 1, .slice b (.c 0) len sz _ => match H.tr.get b with
    | some (.own false e' f n rest) => if vs.all V.one && e' == e && sz == i.size then match eqN (n + rest.length) len sz, roomN len (m + 1) i.bytes with
        | some ds, some es => some (.slice H.n (.c 0) (len.add (m + 1)) i.size (len.add (m + 1)), (H.put b none).push (.own false e f n (rest ++ vs)), cs ++ (ds ++ es))
        | _, _ => none
      else none
    | _ => none
  | _, _ => none

/-- Too many to be told one by one. -/
def N.long : N → Bool
  | .c m => Nat.ble 33 m
  | .s _ => true

def joinF (n : Nat) (f g : Nat → Int) : Nat → Int := match n with
  | 0 => g
  | n => fun k => if k < n then f k else g (k - n)
theorem joinF_eq (n : Nat) (f g : Nat → Int) (o : Nat) : joinF n f g o = if o < n then f o else g (o - n) := by
  cases n <;> simp [joinF]

/-- append of many whole numbers. -/
def appendL (H : Hp) (e : TypeId) (i : TypeInfo) (s x : V) : Option (V × Hp × List Prop) :=
  match x with
  | .slice bx ox m sz' _ => if m.long then match H.tr.get bx, s with
    | some bl, .slice b (.c 0) len sz _ => match bl.ints ox (m.val * i.size), H.tr.get b with
      | some (g, cs), some (.own false e' f n []) => if e' == e && sz == i.size && sz' == i.size then match roomNN len m i.bytes, eqN n len i.size with
          | some ds, some es => some (.slice H.n (.c 0) (N.op2 (fun a b => a + b) len m) i.size (N.op2 (fun a b => a + b) len m), (H.put b none).push (.own false e (joinF n f g) (n + m.val * i.size) []), cs ++ (ds ++ es))
          | _, _ => none
        else none
      | _, _ => none
    | _, _ => none
    else none
  | _ => none

def appendV (P : Program) (H : Hp) (t : TypeId) (s x : V) : Option (V × Hp × List Prop) :=
  match P.underlying t with
  | some (.slice e) => match P.info? e with
    | some i => match i.zero with
      | some Z => if Z.cells.size = i.size then
          match appendL H e i s x with
          | some r => some r
          | none => match contentV H x i.size with
            | some (m, vs, cs) => appendK H e i s m vs cs
            | none => none
        else none
      | none => none
    | none => none
  | _ => none

theorem contentV_ok {w : World} {r : Rho} {H : Hp} {x : V} {X : Value} {sz m : Nat} {vs : List V} {cs : List Prop} (hH : HR r H w) (h : contentV H x sz = some (m, vs, cs)) (hcs : ∀ q, q ∈ cs → q) (hx : VR r x X) :
    ∃ a c, X = .slice a m c ∧ ∃ ys, VRs r vs ys ∧ ys.length = m * sz ∧ (m = 0 ∨ ∃ b, a = some b ∧ ∀ (j : Nat) (y : Value), ys[j]? = some y → w.cell? (b.add j) = some y) := by
  unfold contentV at h
  split at h
  · simp only [Option.some.injEq, Prod.mk.injEq] at h
    obtain ⟨rfl, rfl, rfl⟩ := h
    simp only [VR] at hx
    subst hx
    exact ⟨none, 0, rfl, [], by simp only [VRs], by simp, .inl rfl⟩
  · rename_i b o k sz' mc
    split at h
    · rename_i hsz
      subst hsz
      split at h
      · rename_i bl hg
        split at h
        · rename_i us ds hc
          simp only [Option.some.injEq, Prod.mk.injEq] at h
          obtain ⟨rfl, rfl, rfl⟩ := h
          simp only [VR, N.val_c] at hx
          obtain ⟨hb, a, cap, rfl, hlc, hmc, ha⟩ := hx
          obtain ⟨hl, ys, hvs, hys⟩ := (hH.live b bl hg).cells _ o us ds hc hcs
          have hlen := VRs.length _ _ hvs
          refine ⟨a, cap, rfl, ys, hvs, by omega, ?_⟩
          rcases ha with ⟨rfl, _⟩ | hc0
          · exact .inr ⟨_, rfl, fun j y hj => by rw [addr_add]; exact hys j y hj⟩
          · exact .inl (by omega)
        · simp at h
      · simp at h
    · simp at h
  · simp at h

theorem ones_ok {r : Rho} : ∀ (vs : List V) (ys : List Value), VRs r vs ys → vs.all V.one = true → ∀ u ∈ ys, u.oneCell' = true
  | [], ys, h, _ => by simp only [VRs] at h; subst h; simp
  | v :: vs, ys, h, ho => by
    simp only [VRs] at h
    obtain ⟨z, zs, rfl, h1, h2⟩ := h
    simp only [List.all_cons, Bool.and_eq_true] at ho
    intro u hu
    rcases List.mem_cons.1 hu with rfl | hu
    · exact VR.one h1 ho.1
    · exact ones_ok vs zs h2 ho.2 u hu

theorem appendK_ok {P : Program} {w : World} {r : Rho} {H H' : Hp} {t ty e : TypeId} {i : TypeInfo} {Z : Value} {s v : V} {S X : Value} {m : Nat} {vs : List V} {cs ds : List Prop} (hH : HR r H w) (hu : P.underlying t = some (.slice e))
    (hi : P.info? e = some i) (hz : i.zero = some Z) (hzs : Z.cells.size = i.size) {a : Option Addr} {c : Nat} (hX : X = .slice a m c) {ys : List Value} (hvs : VRs r vs ys) (hyl : ys.length = m * i.size)
    (hcell : m = 0 ∨ ∃ b, a = some b ∧ ∀ (j : Nat) (y : Value), ys[j]? = some y → w.cell? (b.add j) = some y) (h : appendK H e i s m vs cs = some (v, H', ds)) (hds : ∀ q, q ∈ ds → q) (hs : VR r s S) :
    Does P w r H (Builtin.append_ #[t, t] ty #[S, X]) v H' := by
  subst hX
  unfold appendK at h
  split at h
  · simp only [Option.some.injEq, Prod.mk.injEq] at h
    obtain ⟨rfl, rfl, rfl⟩ := h
    simp only [VR] at hs
    subst hs
    exact ⟨.slice none 0 0, w, r, run_append_zero hu hi none 0 0 (Nat.le_refl _) a c, Ext.refl _, by simp only [VR], hH, Kept.refl _ _, fun _ _ h => h⟩
  · rename_i b o len sz mc
    simp only [Option.some.injEq, Prod.mk.injEq] at h
    obtain ⟨rfl, rfl, rfl⟩ := h
    have hs' := hs
    simp only [VR] at hs'
    obtain ⟨hb, a', cap, rfl, hlc, hmc, ha⟩ := hs'
    exact ⟨_, w, r, run_append_zero hu hi a' len.val cap hlc a c, Ext.refl _, hs, hH, Kept.refl _ _, fun _ _ h => h⟩
  · rename_i m
    split at h
    · rename_i hone
      split at h
      · rename_i es hr
        simp only [Option.some.injEq, Prod.mk.injEq] at h
        obtain ⟨rfl, rfl, rfl⟩ := h
        have hroom := roomN_ok hr (fun q hq => hds q (List.mem_append_right _ hq))
        simp only [N.val_c, Nat.zero_add] at hroom
        simp only [VR] at hs
        subst hs
        rcases hcell with h0 | ⟨b, rfl, hb⟩
        · omega
        · have hrun := run_append_nil (P := P) w t ty e i Z hu hi hz b (m + 1) c ys hyl hb (by omega) (by have := hroom.1; unfold maxLen at this; omega) (by omega)
          have hge := grownCap_ge w (m + 1) 0 e
          have hlen := VRs.length _ _ hvs
          refine ⟨_, _, r.push ⟨w.heap.size, 0, grownCap w (m + 1) 0 e * i.size⟩, hrun, Ext.push hH _, ?_, ?_, ?_, Mine.new hH _ _⟩
          · exact VR.newSlice hH.n _ _ (.c (m + 1)) (.c (m + 1)) _ i.size hge hge (Nat.le_refl _)
          · have hsz : (ys ++ (Builtin.zeroCells Z.cells (grownCap w (m + 1) 0 e - (m + 1))).toList).length = grownCap w (m + 1) 0 e * i.size := by
              simp only [List.length_append, hyl, Array.length_toList, size_zeroCells, hzs, ← Nat.add_mul]
              congr 1; omega
            have hal := (hH.drawn (w.drawn + 1)).alloc (Builtin.zeroCells Z.cells (grownCap w (m + 1) 0 e - (m + 1))).toList e hvs
            rw [hsz] at hal
            have e2 : (ys ++ (Builtin.zeroCells Z.cells (grownCap w (m + 1) 0 e - (m + 1))).toList).toArray = ys.toArray ++ Builtin.zeroCells Z.cells (grownCap w (m + 1) 0 e - (m + 1)) := by simp
            rw [e2] at hal
            exact hal
          · exact ⟨rfl, rfl, rfl, (Kept.alloc w.drew _ (fun _ => False)).size, fun k hk _ => (Kept.alloc w.drew _ (fun _ => False)).block k hk (fun h => h)⟩
      · simp at h
    · simp at h
  · rename_i m b len sz mc
    split at h
    · rename_i e' f n rest hg
      split at h
      · rename_i hcond
        simp only [Bool.and_eq_true, beq_iff_eq] at hcond
        obtain ⟨⟨hone, he⟩, hsz⟩ := hcond
        subst he; subst hsz
        split at h
        · rename_i es fs hk hr
          simp only [Option.some.injEq, Prod.mk.injEq] at h
          obtain ⟨rfl, rfl, rfl⟩ := h
          have hroom := roomN_ok hr (fun q hq => hds q (List.mem_append_right _ (List.mem_append_right _ hq)))
          have hK := eqN_ok hk (fun q hq => hds q (List.mem_append_right _ (List.mem_append_left _ hq)))
          have hlen := VRs.length _ _ hvs
          rcases hcell with h0 | ⟨x, rfl, hb⟩
          · omega
          · refine append_move hH hu hi hz hzs hg hs hK hyl hb (ones_ok _ _ hvs hone) hroom.1 hroom.2 (fun olds ho1 ho2 ho3 => ⟨?_, ?_, ?_⟩) (N.add_val _ _) (N.add_val _ _)
            · simp only [List.length_append]; omega
            · intro o ho
              rw [List.getElem?_append_left (by omega)]
              exact ho2 o ho
            · intro j u hj
              rcases Nat.lt_or_ge j rest.length with hjl | hjl
              · rw [List.getElem?_append_left hjl] at hj
                obtain ⟨y, hy, hv⟩ := ho3 j u hj
                exact ⟨y, by rw [List.getElem?_append_left (by omega)]; exact hy, hv⟩
              · rw [List.getElem?_append_right hjl] at hj
                obtain ⟨y, hy, hv⟩ := VRs.get _ _ hvs _ u hj
                refine ⟨y, ?_, hv⟩
                rw [List.getElem?_append_right (by omega), ← hy]
                congr 1
                omega
        · simp at h
      · simp at h
    · simp at h
  · simp at h

/-- Nothing that comes may be nil. -/
theorem Does.any {P : Program} {w : World} {r : Rho} {H H' : Hp} {t ty e : TypeId} {i : TypeInfo} {b : Nat} {len mc : N} {S : Value} {v : V} {a : Option Addr} {x : Addr} {m cap : Nat} (hu : P.underlying t = some (.slice e)) (hi : P.info? e = some i) (hS : VR r (.slice b (.c 0) len i.size mc) S)
    (hx : a = some x ∨ (a = none ∧ cap = 0)) (hm : m ≤ cap) (h : Does P w r H (Builtin.append_ #[t, t] ty #[S, .slice (some x) m cap]) v H') : Does P w r H (Builtin.append_ #[t, t] ty #[S, .slice a m cap]) v H' := by
  rcases hx with rfl | ⟨rfl, rfl⟩
  · exact h
  · have hm0 : m = 0 := by omega
    subst hm0
    simp only [VR] at hS
    obtain ⟨_, a', c', rfl, hl, _⟩ := hS
    obtain ⟨y, w', r', h1, h2⟩ := h
    refine ⟨y, w', r', ?_, h2⟩
    rw [← h1, run_append_zero hu hi a' len.val c' hl none 0, run_append_zero hu hi a' len.val c' hl (some x) 0]

theorem appendL_ok {P : Program} {w : World} {r : Rho} {H H' : Hp} {t ty e : TypeId} {i : TypeInfo} {Z : Value} {s x v : V} {S X : Value} {cs : List Prop} (hH : HR r H w) (hu : P.underlying t = some (.slice e)) (hi : P.info? e = some i) (hz : i.zero = some Z) (hzs : Z.cells.size = i.size)
    (h : appendL H e i s x = some (v, H', cs)) (hcs : ∀ q, q ∈ cs → q) (hs : VR r s S) (hx : VR r x X) : Does P w r H (Builtin.append_ #[t, t] ty #[S, X]) v H' := by
  unfold appendL at h
  split at h
  · rename_i bx ox m sz' mc'
    split at h
    · split at h
      · rename_i bl b len sz mc hgx
        split at h
        · rename_i g ds e' f n hints hg
          split at h
          · rename_i hcond
            simp only [Bool.and_eq_true, beq_iff_eq] at hcond
            obtain ⟨⟨he, hsz⟩, hsz'⟩ := hcond
            subst he; subst hsz; subst hsz'
            split at h
            · rename_i es fs hr hn
              simp only [Option.some.injEq, Prod.mk.injEq] at h
              obtain ⟨rfl, rfl, rfl⟩ := h
              have hroom := roomNN_ok hr (fun q hq => hcs q (List.mem_append_right _ (List.mem_append_left _ hq)))
              have hn := eqN_ok hn (fun q hq => hcs q (List.mem_append_right _ (List.mem_append_right _ hq)))
              simp only [VR] at hx
              obtain ⟨_, a, cap, rfl, hlc, hmc, ha⟩ := hx
              have hcell := (hH.live bx bl hgx).ints hints (fun q hq => hcs q (List.mem_append_left _ hq))
              obtain ⟨x, hx⟩ : ∃ x : Addr, (a = some x ∨ (a = none ∧ cap = 0)) := by
                cases a with
                | none =>
                  refine ⟨⟨0, 0, none⟩, .inr ⟨rfl, ?_⟩⟩
                  rcases ha with ⟨h, _⟩ | h
                  · simp at h
                  · exact h
                | some x => exact ⟨x, .inl rfl⟩
              have ha : (x = ⟨(r.pl bx).blk, (r.pl bx).sh + ox.val, none⟩ ∧ ox.val + cap * i.size ≤ (r.pl bx).cap) ∨ cap = 0 := by
                rcases ha with ⟨h, h'⟩ | h
                · rcases hx with hx | ⟨hx, _⟩
                  · rw [hx] at h; simp only [Option.some.injEq] at h; exact .inl ⟨h, h'⟩
                  · rw [hx] at h; simp at h
                · exact .inr h
              refine Does.any (x := x) hu hi hs hx hlc ?_
              have hnews : ∀ (j : Nat) (u : Value), ((List.range (m.val * i.size)).map fun j => Value.int .i64 (g j))[j]? = some u → w.cell? (x.add j) = some u := by
                intro j u hj
                have hjl : j < m.val * i.size := by have := (List.getElem?_eq_some_iff.1 hj).1; simpa using this
                rw [List.getElem?_map, List.getElem?_range hjl] at hj
                simp only [Option.map_some, Option.some.injEq] at hj
                rcases ha with ⟨rfl, _⟩ | hc0
                · rw [addr_add, ← hj]; exact hcell j hjl
                · have : m.val = 0 := by omega
                  rw [this, Nat.zero_mul] at hjl; exact absurd hjl (Nat.not_lt_zero _)
              refine append_move hH hu hi hz hzs hg hs (by simpa using hn) (by simp) hnews (by simp [Value.oneCell']) hroom.1 hroom.2 (fun olds ho1 ho2 ho3 => ⟨?_, ?_, ?_⟩) (N.op2_val _ len m) (N.op2_val _ len m)
              · simp only [List.length_append, List.length_map, List.length_range, List.length_nil]; omega
              · intro o ho
                rw [joinF_eq]
                by_cases hon : o < n
                · rw [List.getElem?_append_left (by omega), if_pos hon]; exact ho2 o hon
                · rw [List.getElem?_append_right (by omega), if_neg hon, List.getElem?_map, ho1, ← hn, List.getElem?_range (by omega)]; rfl
              · intro j u hj; simp at hj
            · simp at h
          · simp at h
        · simp at h
      · simp at h
    · simp at h
  · simp at h

theorem appendV_ok {P : Program} {w : World} {r : Rho} {H H' : Hp} {t ty : TypeId} {s x v : V} {S X : Value} {cs : List Prop} (hH : HR r H w) (h : appendV P H t s x = some (v, H', cs)) (hcs : ∀ q, q ∈ cs → q) (hs : VR r s S) (hx : VR r x X) :
    Does P w r H (Builtin.append_ #[t, t] ty #[S, X]) v H' := by
  unfold appendV at h
  split at h
  · rename_i e hu
    split at h
    · rename_i i hi
      split at h
      · rename_i Z hz
        split at h
        · rename_i hzs
          split at h
          · rename_i res hl
            simp only [Option.some.injEq] at h
            subst h
            exact appendL_ok hH hu hi hz hzs hl hcs hs hx
          · split at h
            · rename_i m vs ds hc
              obtain ⟨a, c, hX, ys, hvs, hyl, hcell⟩ : ∃ a c, X = .slice a m c ∧ ∃ ys, VRs r vs ys ∧ ys.length = m * i.size ∧ (m = 0 ∨ ∃ b, a = some b ∧ ∀ (j : Nat) (y : Value), ys[j]? = some y → w.cell? (b.add j) = some y) := by
                refine contentV_ok hH hc (fun q hq => hcs q ?_) hx
                unfold appendK at h
                (repeat' split at h) <;> simp only [Option.some.injEq, Prod.mk.injEq, reduceCtorEq] at h <;> obtain ⟨_, _, rfl⟩ := h <;> first | exact hq | exact List.mem_append_left _ hq
              exact appendK_ok hH hu hi hz hzs hX hvs hyl hcell h hcs hs
            · simp at h
        · simp at h
      · simp at h
    · simp at h
  · simp at h

end Go.Ideal
