/- The ideal machine: what a law is handed in (rows of whole numbers too), and what is read again behind it. Own text; nothing here is trusted. -/
import Derived.Test.YtbcadmnkilckbaaI18
import Derived.ReadAgain
import Derived.ChangeOld
import Derived.ChangeSlices
import Derived.OpenShut
namespace Go.Ideal
set_option linter.unusedSimpArgs false
set_option linter.unusedVariables false

section
variable {P : Program} {H : Type} {enc : TypeId × Value → H} {W W' : World}

/-- The arguments of a call that leaves the memory read again as they did. -/
theorem again (hl : laidOutB P = true) (hm : mapsRowed P = true)
    (hz : ((List.range P.types.size).all fun t => match P.underlying t with | some (.slice e) => decide (0 < P.cellsOf e) | _ => true) = true)
    {ts : List TypeId} {vs : List Value} {ds : List (DataW H)} {ps : List MemPlace} (hT : ts.all (fun t => decide (t < P.types.size)) = true)
    (h : DataW.TrodAll enc P W 0 (fun _ => true) true ts vs ds ps) (b : RowKit.Below W.heap.size W W') :
    DataW.TrodAll enc P W' 0 (fun y => decide (y < W.heap.size)) true ts vs ds ps := by
  have h1 := DataW.TrodAll.respare (kids_rows hl hm) (slices_full_of P hz) (spare' := fun y => decide (y < W.heap.size)) (fun t ht => by simpa using List.all_eq_true.1 hT t ht) h
    (fun p hp => by simpa using h.lt p hp)
  have up : ∀ {ts : List TypeId} {vs : List Value} {ds : List (DataW H)} {ps : List MemPlace}, DataW.TrodAll enc P W 0 (fun y => decide (y < W.heap.size)) true ts vs ds ps → DataW.TrodAll enc P W' 0 (fun y => decide (y < W.heap.size)) true ts vs ds ps := by
    intro ts
    induction ts with
    | nil => intro vs ds ps h; cases vs <;> cases ds <;> first | exact h | (simp [DataW.TrodAll] at h)
    | cons t ts ih =>
      intro vs ds ps h
      cases vs with
      | nil => simp [DataW.TrodAll] at h
      | cons v vs =>
        cases ds with
        | nil => simp [DataW.TrodAll] at h
        | cons d ds =>
          obtain ⟨p, q, ⟨n, h1⟩, h2, e⟩ := h
          exact ⟨p, q, ⟨n, DataW.trod_carry n _ _ _ h1 (fun x hx => b.same (DataW.trod_lt n _ _ _ h1 x hx))⟩, ih h2, e⟩
  exact up h1

/-! ### Rows that are handed in -/

def Hx (bs : List Blk) : Hp := ⟨Tr.ofList bs, bs.length⟩
def rx (pls : List Pl) : Rho := ⟨fun i => pls.getD i ⟨0, 0, 0⟩, fun i => i < pls.length, pls.length⟩

theorem Hx_get (bs : List Blk) (i : Nat) : (Hx bs).tr.get i = bs[i]? := Tr.get_ofList bs i

theorem Hx_hr {bs : List Blk} {pls : List Pl} (hlen : pls.length = bs.length) (hro : ∀ b ∈ bs, b.isOwn = false) (hbr : ∀ i b, bs[i]? = some b → BR (rx pls) W (pls.getD i ⟨0, 0, 0⟩) b) : HR (rx pls) (Hx bs) W := by
  refine ⟨hlen.symm, fun i hi => hi, fun i b hb => ?_, fun i b hb => ?_, fun i j b c hij hb hc hown hth => ?_⟩
  · rw [Hx_get] at hb
    exact (List.getElem?_eq_some_iff.1 hb).1
  · rw [Hx_get] at hb
    exact hbr i b hb
  · rw [Hx_get] at hb
    rw [hro b (List.mem_of_getElem? hb)] at hown; simp at hown

theorem CallOk.callsX {f : FuncId} {xs : List V} {v : V} {s' : S} {ys : Array Value} {bs : List Blk} {pls : List Pl} (h : CallOk P f xs (St (Hx bs)) v s') (hlen : pls.length = bs.length) (hro : ∀ b ∈ bs, b.isOwn = false)
    (hbr : ∀ i b, bs[i]? = some b → BR (rx pls) W (pls.getD i ⟨0, 0, 0⟩) b) (hx : VRs (rx pls) xs ys.toList) :
    Calls P f ys W fun e W' => ∃ y r', e = .returned y ∧ VR r' v y ∧ RowKit.Below W.heap.size W W' := by
  refine (h _ W ys (Hx_hr hlen hro hbr) hx).mono ?_
  rintro e W' ⟨y, r', rfl, hv, hf⟩
  refine ⟨y, r', rfl, hv, hf.kept.os, hf.kept.tape, hf.kept.output, hf.kept.size, fun k hk => hf.kept.block k hk ?_⟩
  rintro ⟨i, b, hb, hw, _⟩
  have hb : bs[i]? = some b := by rw [← Hx_get]; exact hb
  have := hro b (List.mem_of_getElem? hb)
  rw [Blk.isOwn_of_writable hw] at this; simp at this

open ChangeShapes in
/-- A row of whole numbers. -/
theorem open_row {t e : TypeId} {v : Value} {d : DataW H} {ps : List MemPlace} (ht : P.underlying t = some (.slice e)) (he : P.underlying e = some (.int .i64)) (hc : P.cellsOf e = 1)
    (hval : Value.okWide P W .any 0 t v) (h : DataW.Trod enc P W 0 (fun _ => true) true t v d ps) :
    v = .slice none 0 0 ∨ ∃ (f : Nat → Int) (len : Nat) (pl : Pl), (∀ i, i < len → -9223372036854775808 ≤ f i ∧ f i ≤ 9223372036854775807) ∧ len ≤ maxLen ∧ BR ⟨fun _ => pl, fun _ => True, 0⟩ W pl (.ext f (.s len)) ∧
      ∀ (r : Rho) (i : Nat), r.ok i → r.pl i = pl → VR r (.slice i (.c 0) (.s len) 1 (.s len)) v := by
  obtain ⟨a0, l0, c0, rfl⟩ := Go.WideShapes.okWide_slice ht hval
  obtain ⟨n, hn⟩ := h
  rcases open_ints ht he hc hn with ⟨hcs, _⟩ | ⟨a, len, cap, zs, hcs, _, hl, hm, hz, _, hcell, hwf⟩
  · left
    simpa [Value.cells] using hcs
  · right
    simp only [Value.cells, List.cons.injEq, and_true] at hcs
    rw [hcs]
    have hz : zs.length = cap := by simpa using hz
    refine ⟨fun i => zs.getD i 0, len, ⟨a.block, a.off, cap⟩, fun i hi => ?_, by omega, fun o ho => ?_, fun r i hi hpl => ?_⟩
    · have := Go.range_i64 hwf i
      simpa [List.getD_eq_getElem?_getD] using this
    · have ho : o < len := ho
      have hsp := World.cell?_spot (hcell 0 (by omega))
      have h1 := hcell o (by omega)
      obtain ⟨ab, ao, asp⟩ := a
      have hsp : asp = none := by simpa [Addr.add] using hsp
      subst hsp
      rw [addr_add] at h1
      exact h1
    · simp only [VR]
      refine ⟨hi, some a, cap, rfl, hl, hl, ?_⟩
      by_cases h0 : cap = 0
      · exact .inr h0
      · left
        have hsp := World.cell?_spot (hcell 0 (by omega))
        obtain ⟨ab, ao, asp⟩ := a
        have hsp : asp = none := by simpa [Addr.add] using hsp
        subst hsp
        rw [hpl]
        exact ⟨rfl, by simp [N.val]⟩

end
end Go.Ideal
