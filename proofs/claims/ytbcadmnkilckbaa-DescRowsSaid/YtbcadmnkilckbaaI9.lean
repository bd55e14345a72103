/- The ideal machine: slices that are made, and append. Own text; nothing here is trusted. -/
import Derived.Test.YtbcadmnkilckbaaI8
namespace Go.Ideal
set_option linter.unusedSimpArgs false
set_option linter.unusedVariables false

/-! ### Rows of zeros, and literals of slices -/

/-- n cells, z again and again. -/
def rep (z : List V) (n : Nat) : List V := (List.range n).map fun i => z.getD (i % z.length) .any

theorem rep_ok {r : Rho} {z : List V} {ys : Array Value} {n : Nat} (h : VRs r z ys.toList) (hz : n = 0 ∨ z ≠ []) : VRs r (rep z n) ((Array.range n).map (ys[· % ys.size]!)).toList := by
  have hl := VRs.length _ _ h
  refine VRs.mk _ _ (by simp [rep]) fun i v hi => ?_
  simp only [rep, List.getElem?_map] at hi
  have hin : i < n := by
    rcases Nat.lt_or_ge i n with h' | h'
    · exact h'
    · rw [List.getElem?_eq_none (by simpa using h')] at hi; simp at hi
  rw [List.getElem?_range hin] at hi
  simp only [Option.map_some, Option.some.injEq] at hi
  have hzl : 0 < z.length := by
    rcases hz with hz | hz
    · omega
    · exact List.length_pos_iff.2 hz
  have hlt : i % z.length < z.length := Nat.mod_lt _ hzl
  obtain ⟨y, hy, hv⟩ := VRs.get z ys.toList h (i % z.length) z[i % z.length] (List.getElem?_eq_getElem hlt)
  have hys : ys.size = z.length := by simpa using hl
  refine ⟨ys[i % ys.size]!, by simp [hin], ?_⟩
  rw [← hi]
  simp only [List.getD, List.getElem?_eq_getElem hlt, Option.getD_some]
  rw [hys]
  have : ys[i % z.length]! = y := by
    have hy' : ys[i % z.length]? = some y := by simpa using hy
    rw [getElem!_def, hy']
  rw [this]; exact hv

def buildSliceV (P : Program) (H : Hp) (t : TypeId) (len : Nat) (parts : List (Nat × V)) : Option (V × Hp × List Prop) :=
  match P.underlying t with
  | some (.slice e) => match sizeT P e, zeroT P e with
    | some sz, some z =>
      if decide (len * sz ≤ 16777216) && z.fits && (len * sz == 0 || !z.cells.isEmpty) then
        match fillV (fun i => some (i * sz, sz)) (rep z.cells (len * sz)) parts with
        | some cs => V.forceL cs fun cs => some (.slice H.n (.c 0) (.c len) sz (.c len), H.push (.own false e (fun _ => 0) 0 cs), [])
        | none => none
      else none
    | _, _ => none
  | _ => none

theorem fillV_length {place : Nat → Option (Nat × Nat)} : ∀ (parts : List (Nat × V)) (cells out : List V), fillV place cells parts = some out → out.length = cells.length
  | [], cells, out, h => by simp only [fillV, Option.some.injEq] at h; rw [h]
  | (i, v) :: parts, cells, out, h => by
    simp only [fillV] at h
    split at h
    · simp at h
    · split at h
      · rw [fillV_length parts _ out h, setAll_length]
      · simp at h

theorem buildSliceV_ok {P : Program} {w : World} {r : Rho} {H H' : Hp} {t : TypeId} {len : Nat} {parts : List (Nat × V)} {ps : Array (Nat × Value)} {v : V} {cs : List Prop} (hH : HR r H w)
    (h : buildSliceV P H t len parts = some (v, H', cs)) (hp : VRps r parts ps.toList) : Does P w r H (Instr.buildSlice t len ps) v H' := by
  unfold buildSliceV at h
  split at h
  · rename_i e hu
    split at h
    · rename_i sz z hs hz
      split at h
      · rename_i hcond
        simp only [Bool.and_eq_true, Bool.or_eq_true, decide_eq_true_eq, beq_iff_eq, Bool.not_eq_true', List.isEmpty_eq_false_iff] at hcond
        obtain ⟨⟨hmax, hfit⟩, hne⟩ := hcond
        split at h
        · rename_i out hfill
          rw [V.forceL_eq] at h
          simp only [Option.some.injEq, Prod.mk.injEq] at h
          obtain ⟨rfl, rfl, rfl⟩ := h
          obtain ⟨Z, hZ, hv⟩ := run_zeroT (P := P) (w := w) (r := r) hz
          have hzc := VR.fits hv hfit
          -- what is filled
          have hzr : VRs r (rep z.cells (len * sz)) ((Array.range (len * sz)).map ((if len * sz = 0 then #[] else Z.cells)[· % (if len * sz = 0 then #[] else Z.cells).size]!)).toList := by
            by_cases h0 : len * sz = 0
            · rw [h0]; simp [rep, VRs]
            · simp only [if_neg h0]
              refine rep_ok hzc ?_
              rcases hne with h1 | h1
              · exact .inl h1
              · exact .inr h1
          obtain ⟨os, ho, hos⟩ := fillV_ok parts ps.toList _ out _ hfill hp hzr
          have hol : os.size = len * sz := by
            have h1 := VRs.length _ _ hos
            have h2 := fillV_length parts _ out hfill
            have h3 : (rep z.cells (len * sz)).length = len * sz := by simp [rep]
            simp only [Array.length_toList] at h1
            omega
          have hal := hH.alloc [] e hos
          simp only [List.append_nil, Array.toArray_toList, Array.length_toList] at hal
          refine ⟨.slice (some ⟨w.heap.size, 0, none⟩) len len, w.alloc (.cells os e), r.push ⟨w.heap.size, 0, os.size⟩, ?_, Ext.push hH _, ?_, hal, Kept.alloc _ _ _, Mine.new hH _ _⟩
          · simp only [Instr.buildSlice, Sem.run_bind, run_underlying hu, Result.andThen_ok, run_sizeT hs, Sem.run_ite, Sem.run_pure]
            rw [if_neg (by omega)]
            by_cases h0 : len * sz = 0
            · simp only [if_pos h0] at ho ⊢
              simp only [Result.andThen_ok, ho, newRow, newObj, Sem.run, Sem.run_bind, Sem.run_pure]
              rfl
            · simp only [if_neg h0] at ho ⊢
              simp only [hZ, Result.andThen_ok, ho, newRow, newObj, Sem.run, Sem.run_bind, Sem.run_pure]
              rfl
          · exact VR.newSlice hH.n _ _ (.c len) (.c len) len sz (Nat.le_refl _) (Nat.le_refl _) (Nat.le_of_eq hol.symm)
        · simp at h
      · simp at h
    · simp at h
  · simp at h

/-- make: as long as it may get. -/
def makeSliceV (P : Program) (H : Hp) (t : TypeId) (same : Bool) (l : V) : Option (V × Hp × List Prop) :=
  match P.underlying t, l with
  | some (.slice e), .int .i64 n => match P.info? e, zeroT P e with
    | some i, some z =>
      if same && z.fits && !z.cells.isEmpty then match n with
        | .c n => if 0 ≤ n ∧ n * (i.bytes : Int) ≤ 281474976710656 ∧ n < 9223372036854775808 then
            some (.slice H.n (.c 0) (.c n.toNat) i.size (.c n.toNat), H.push (.own false e (fun _ => 0) 0 (rep z.cells (n.toNat * i.size))), []) else none
        | .s n => if z.cells.all (fun v => match v with | .int .i64 (.c 0) => true | _ => false) then
            some (.slice H.n (.c 0) (.s n.toNat) i.size (.s n.toNat), H.push (.own false e (fun _ => 0) (n.toNat * i.size) []), [0 ≤ n ∧ n * (i.bytes : Int) ≤ 281474976710656 ∧ n < 9223372036854775808]) else none
      else none
    | _, _ => none
  | _, _ => none

theorem wrap_small {n : Int} (h0 : 0 ≤ n) (h1 : n < 9223372036854775808) : IntKind.i64.wrap n = n := by
  rw [IntKind.wrap_i64]; omega

theorem run_makeSlice_small {P : Program} {w : World} {t e : TypeId} {i : TypeInfo} {Z : Value} (hu : P.underlying t = some (.slice e)) (hi : P.info? e = some i) (hz : i.zero = some Z) {n : Int} (h0 : 0 ≤ n) (h1 : n * (i.bytes : Int) ≤ 281474976710656) (h2 : n < 9223372036854775808) :
    (Instr.makeSlice t (.int .i64 n) (.int .i64 n)).run P w = .ok (.slice (some ⟨w.heap.size, 0, none⟩) n.toNat n.toNat)
      (w.alloc (.cells ((Array.range (n.toNat * i.size)).map ((if n.toNat * i.size = 0 then #[] else Z.cells)[· % (if n.toNat * i.size = 0 then #[] else Z.cells).size]!)) e)) := by
  have hw := wrap_small h0 h2
  have hnt : ¬ ((i.bytes : Int) * n > 281474976710656) := by rw [Int.mul_comm]; omega
  have hl : ¬ n < 0 := by omega
  have htl : (decide (n < 0) || decide ((i.bytes : Int) * n > (2 : Int) ^ 48)) = false := by
    simp only [Bool.or_eq_false_iff, decide_eq_false_iff_not]
    exact ⟨hl, by simpa using hnt⟩
  have hti : (typeInfo e).run P w = .ok i w := by simp [typeInfo, hi]
  have hzv : (zeroValue e).run P w = .ok Z w := by simp [zeroValue, typeInfo, hi, hz]
  have hso : (sizeOf e).run P w = .ok i.size w := by simp [sizeOf, typeInfo, hi]
  have hask : ∀ b, (askRoom b).run P w = .ok () w := by intro b; unfold askRoom; split <;> rfl
  simp only [Instr.makeSlice, Sem.run_bind, run_underlying hu, Result.andThen_ok, asInt, asIntOf, Sem.run_pure, hti, hw, htl, Sem.run_ite, hask, hso]
  rw [if_neg (by simp [hl])]
  by_cases hn : n.toNat * i.size = 0
  · simp only [if_pos hn, Result.andThen_ok, newRow, newObj, Sem.run, Sem.run_bind, Sem.run_pure]
    rfl
  · simp only [if_neg hn, hzv, Result.andThen_ok, newRow, newObj, Sem.run, Sem.run_bind, Sem.run_pure]
    rfl

theorem makeSliceV_ok {P : Program} {w : World} {r : Rho} {H H' : Hp} {t : TypeId} {l v : V} {same : Bool} {L C : Value} {cs : List Prop} (hH : HR r H w)
    (h : makeSliceV P H t same l = some (v, H', cs)) (hcs : ∀ q, q ∈ cs → q) (hl : VR r l L) (hsame : same = true → C = L) : Does P w r H (Instr.makeSlice t L C) v H' := by
  unfold makeSliceV at h
  split at h
  · rename_i e n hu
    simp only [VR] at hl
    subst hl
    split at h
    · rename_i i z hi hz
      split at h
      · rename_i hcond
        simp only [Bool.and_eq_true, Bool.not_eq_true', List.isEmpty_eq_false_iff] at hcond
        obtain ⟨⟨hsm, hfit⟩, hne⟩ := hcond
        have hC := hsame hsm
        subst hC
        obtain ⟨Z, hZi, hvz⟩ : ∃ Z, i.zero = some Z ∧ VR r z Z := by
          simp only [zeroT, hi, Option.bind_some] at hz
          cases hzz : i.zero with
          | none => rw [hzz] at hz; simp at hz
          | some Z => rw [hzz] at hz; exact ⟨Z, rfl, ofValue_ok (by simpa using hz)⟩
        have hzc := VR.fits hvz hfit
        have hrep : ∀ m, VRs r (rep z.cells m) ((Array.range m).map ((if m = 0 then #[] else Z.cells)[· % (if m = 0 then #[] else Z.cells).size]!)).toList := by
          intro m
          by_cases hm : m = 0
          · subst hm; simp [rep, VRs]
          · simp only [if_neg hm]; exact rep_ok hzc (.inr hne)
        split at h
        · rename_i n
          split at h
          · rename_i hb
            simp only [Option.some.injEq, Prod.mk.injEq] at h
            obtain ⟨rfl, rfl, rfl⟩ := h
            have hal := hH.alloc [] e (hrep (n.toNat * i.size))
            simp only [List.append_nil, Array.toArray_toList, Array.length_toList] at hal
            refine ⟨_, _, _, run_makeSlice_small hu hi hZi hb.1 hb.2.1 hb.2.2, Ext.push hH _, ?_, hal, Kept.alloc _ _ _, Mine.new hH _ _⟩
            exact VR.newSlice hH.n _ _ (.c n.toNat) (.c n.toNat) n.toNat i.size (Nat.le_refl _) (Nat.le_refl _) (by simp)
          · simp at h
        · rename_i n
          split at h
          · rename_i hall
            simp only [Option.some.injEq, Prod.mk.injEq] at h
            obtain ⟨rfl, rfl, rfl⟩ := h
            have hb := hcs _ (List.mem_singleton.2 rfl)
            have hrp := hrep (n.toNat * i.size)
            have hlen := VRs.length _ _ hrp
            have hz0 : ∀ j, j < z.cells.length → z.cells[j]? = some (.int .i64 (.c 0)) := by
              intro j hj
              have := List.all_eq_true.1 hall z.cells[j] (List.getElem_mem hj)
              rw [List.getElem?_eq_getElem hj]
              generalize z.cells[j] = q at this
              split at this
              · rfl
              · simp at this
            have hcell : ∀ o, o < n.toNat * i.size → ((Array.range (n.toNat * i.size)).map ((if n.toNat * i.size = 0 then #[] else Z.cells)[· % (if n.toNat * i.size = 0 then #[] else Z.cells).size]!)).toList[o]? = some (.int .i64 0) := by
              intro o ho
              have hlt : o % z.cells.length < z.cells.length := Nat.mod_lt _ (List.length_pos_iff.2 hne)
              obtain ⟨y, hy, hv⟩ := VRs.get _ _ hrp o (.int .i64 (.c 0)) (by
                simp only [rep, List.getElem?_map, List.getElem?_range ho, Option.map_some, List.getD, hz0 _ hlt, Option.getD_some])
              simp only [VR, E.val] at hv
              rw [hy, hv]
            have hal := hH.allocF [] e (f := fun _ => 0) (n := n.toNat * i.size) (vs := []) hcell (fun j v hj => by simp at hj) (by rw [hlen]; simp [rep])
            simp only [List.append_nil, Array.toArray_toList, Array.length_toList] at hal
            refine ⟨_, _, _, run_makeSlice_small hu hi hZi hb.1 hb.2.1 hb.2.2, Ext.push hH _, ?_, hal, Kept.alloc _ _ _, Mine.new hH _ _⟩
            exact VR.newSlice hH.n _ _ (.s n.toNat) (.s n.toNat) n.toNat i.size (Nat.le_refl _) (Nat.le_refl _) (by simp)
          · simp at h
      · simp at h
    · simp at h
  · simp at h

end Go.Ideal
