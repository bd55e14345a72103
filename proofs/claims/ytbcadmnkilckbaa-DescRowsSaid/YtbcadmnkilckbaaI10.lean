/- The ideal machine: append. The block that is appended to dies; its cells, and the new ones, live on under a new number. Own text; nothing here is trusted. -/
import Derived.Test.YtbcadmnkilckbaaI9
namespace Go.Ideal
set_option linter.unusedSimpArgs false
set_option linter.unusedVariables false

theorem N.val_c (n : Nat) : (N.c n).val = n := rfl

theorem HR.kill {r : Rho} {H : Hp} {w : World} (h : HR r H w) (b : Nat) : HR r (H.put b none) w := by
  have hget : ∀ j d, (H.put b none).tr.get j = some d → H.tr.get j = some d := by
    intro j d hj
    simp only [Hp.put, Tr.get_set] at hj
    by_cases e : j = b
    · rw [if_pos e] at hj; simp at hj
    · rw [if_neg e] at hj; exact hj
  exact ⟨h.n, h.okn, fun i d hi => h.bound i d (hget i d hi), fun i d hi => h.live i d (hget i d hi), fun i j d e hij hi hj => h.apart i j d e hij (hget i d hi) (hget j e hj)⟩

theorem there_of_own {c : Blk} (h : c.isOwn = true) : c.there := by cases c <;> first | trivial | simp [Blk.isOwn] at h

/-- A block moves to a new number, where it lay. -/
theorem HR.move {r : Rho} {H : Hp} {w w' : World} {b : Nat} {bl nb : Blk} (h : HR r H w) (hg : H.tr.get b = some bl) (ho : bl.isOwn = true) (hk : Kept (fun k => k = (r.pl b).blk) w w') (hn : nb.isOwn = true)
    (hb : BR (r.push (r.pl b)) w' (r.pl b) nb) : HR (r.push (r.pl b)) ((H.put b none).push nb) w' := by
  have hne : ∀ i c, (H.put b none).tr.get i = some c → (c.there ∨ c.isOwn = true) → (r.pl i).blk ≠ (r.pl b).blk := by
    intro i c hi hc
    simp only [Hp.put, Tr.get_set] at hi
    by_cases e : i = b
    · rw [if_pos e] at hi; simp at hi
    · rw [if_neg e] at hi
      have ht : c.there := hc.elim id there_of_own
      exact fun e2 => h.apart b i bl c (fun e3 => e e3.symm) hg hi ho ht e2.symm
  exact (h.kill b).push hk (fun i c hi hc => hne i c hi (.inl hc)) hb hn hne

theorem Mine.of {r : Rho} {H : Hp} {b : Nat} {bl : Blk} (hg : H.tr.get b = some bl) (hw : bl.writable = true) : Mine r H (r.pl b).blk := ⟨b, bl, hg, hw, rfl⟩

theorem Mine.kill {r : Rho} {H : Hp} {b k : Nat} (h : Mine r (H.put b none) k) : Mine r H k := by
  obtain ⟨j, d, hj, hd, hk⟩ := h
  simp only [Hp.put, Tr.get_set] at hj
  by_cases e : j = b
  · rw [if_pos e] at hj; simp at hj
  · rw [if_neg e] at hj; exact ⟨j, d, hj, hd, hk⟩
theorem Mine.move {r : Rho} {H : Hp} {w : World} {b : Nat} {bl nb : Blk} (hH : HR r H w) (hg : H.tr.get b = some bl) (hw : bl.writable = true) : ∀ k, k < w.heap.size → Mine (r.push (r.pl b)) ((H.put b none).push nb) k → Mine r H k := by
  intro k _ h
  rcases Mine.push (hH.kill b) h with ⟨h1, _⟩ | h1
  · exact h1 ▸ Mine.of hg hw
  · exact h1.kill

theorem run_append_zero {P : Program} {w : World} {t ty e : TypeId} {i : TypeInfo} (hu : P.underlying t = some (.slice e)) (hi : P.info? e = some i) (base : Option Addr) (l cap : Nat) (hl : l ≤ cap) (x : Option Addr) (c : Nat) :
    (Builtin.append_ #[t, t] ty #[.slice base l cap, .slice x 0 c]).run P w = .ok (.slice base l cap) w := by
  cases base <;> cases x <;> simp [Builtin.append_, run_underlying hu, sizeOf, typeInfo, hi, Builtin.lenOf, hl, Builtin.firstCells, loadCells, loadCellsFrom, storeCells]

/-- The cells that are there and the ones that are new, as a block. -/
structure Joined (r : Rho) (olds news : List Value) (f : Nat → Int) (n : Nat) (rest : List V) : Prop where
  len : n + rest.length = (olds ++ news).length
  ints : ∀ o, o < n → (olds ++ news)[o]? = some (.int .i64 (f o))
  rest : ∀ (j : Nat) (v : V), rest[j]? = some v → ∃ y, (olds ++ news)[n + j]? = some y ∧ VR r v y

theorem Joined.block {r r' : Rho} {w : World} {olds news tail : List Value} {f : Nat → Int} {n : Nat} {rest : List V} {p : Pl} {e : TypeId} (h : Joined r olds news f n rest) (he : Ext r r')
    (hw : w.heap[p.blk]? = some (.cells (olds ++ news ++ tail).toArray e (0, 0))) (hs : p.sh = 0) (hc : p.cap = (olds ++ news ++ tail).length) : BR r' w p (.own false e f n rest) := by
  refine BR.row hw hs (by simpa using hc) (fun o ho => ?_) (fun j v hj => ?_) (by have := h.len; simp only [List.size_toArray, List.length_append] at this ⊢; omega)
  · have hy := h.ints o ho
    simp only [List.getElem?_toArray]
    rw [List.getElem?_append_left (List.getElem?_eq_some_iff.1 hy).1]
    exact hy
  · obtain ⟨y, hy, hv⟩ := h.rest j v hj
    refine ⟨y, ?_, VR.ext he _ _ hv⟩
    simp only [List.getElem?_toArray]
    rw [List.getElem?_append_left (List.getElem?_eq_some_iff.1 hy).1]
    exact hy

theorem append_move {P : Program} {w : World} {r : Rho} {H : Hp} {t ty e : TypeId} {i : TypeInfo} {Z : Value} (hH : HR r H w) (hu : P.underlying t = some (.slice e)) (hi : P.info? e = some i) (hz : i.zero = some Z)
    (hzs : Z.cells.size = i.size) {b : Nat} {f : Nat → Int} {n : Nat} {rest : List V} (hg : H.tr.get b = some (.own false e f n rest)) {len mc : N} {S : Value} (hS : VR r (.slice b (.c 0) len i.size mc) S)
    (hK : n + rest.length = len.val * i.size) {x : Addr} {m c : Nat} {news : List Value} (hl : news.length = m * i.size) (hnews : ∀ j u, news[j]? = some u → w.cell? (x.add j) = some u)
    (h1 : ∀ u ∈ news, u.oneCell' = true) (h63 : len.val + m ≤ maxLen) (hby : (len.val + m) * i.bytes ≤ 140737488355328) {f' : Nat → Int} {n' : Nat} {rest' : List V}
    (hj : ∀ olds : List Value, olds.length = len.val * i.size → (∀ o, o < n → olds[o]? = some (.int .i64 (f o))) → (∀ (j : Nat) (v : V), rest[j]? = some v → ∃ y, olds[n + j]? = some y ∧ VR r v y) → Joined r olds news f' n' rest')
    {len' mc' : N} (hlen' : len'.val = len.val + m) (hmc' : mc'.val = len.val + m) :
    Does P w r H (Builtin.append_ #[t, t] ty #[S, .slice (some x) m c]) (.slice H.n (.c 0) len' i.size mc') ((H.put b none).push (.own false e f' n' rest')) := by
  have hB := hH.live b _ hg
  obtain ⟨cur, hcur, hsh, hcap, hle, hf, hr⟩ := hB
  simp only [VR, N.val_c] at hS
  obtain ⟨hbn, a, cap, rfl, hlc, hmc, ha⟩ := hS
  have hsmall : len.val + m ≤ 9223372036854775807 := by simp only [maxLen] at h63; omega
  -- the cells that are there
  have holds : (cur.toList.take (len.val * i.size)).length = len.val * i.size := by simp only [List.length_take, Array.length_toList]; omega
  have hJ := hj (cur.toList.take (len.val * i.size)) holds (fun o ho => by rw [List.getElem?_take, if_pos (by omega)]; simpa using hf o ho)
    (fun j v hjv => by
      obtain ⟨y, hy, hv⟩ := hr j v hjv
      have hjl : j < rest.length := (List.getElem?_eq_some_iff.1 hjv).1
      exact ⟨y, by rw [List.getElem?_take, if_pos (by omega)]; simpa using hy, hv⟩)
  by_cases hroom : len.val + m ≤ cap
  · rcases ha with ⟨rfl, hcb⟩ | hc0
    · -- in its place
      rw [Nat.zero_add] at hcb
      have hsa : (⟨(r.pl b).blk, (r.pl b).sh + 0, none⟩ : Addr) = ⟨(r.pl b).blk, 0, none⟩ := by rw [hsh]
      rw [hsa] at *
      have hfit : len.val * i.size + news.length ≤ cur.size := by
        rw [hl, ← Nat.add_mul]
        exact Nat.le_trans (Nat.mul_le_mul_right _ hroom) (by rw [← hcap]; exact hcb)
      have hrun := run_append_room (P := P) w t ty e i hu hi (r.pl b).blk len.val cap cur hcur x m c news hl hnews h1 hroom hfit
      refine ⟨_, _, r.push (r.pl b), hrun, Ext.push hH _, ?_, ?_, ?_, Mine.move hH hg rfl⟩
      · simp only [VR, N.val_c]
        rw [hH.n, Rho.push_new, hlen', hmc']
        exact ⟨Rho.push_ok _ _, _, cap, rfl, hroom, hroom, .inl ⟨by rw [hsh], by rw [Nat.zero_add]; exact hcb⟩⟩
      · refine hH.move hg rfl ⟨rfl, rfl, rfl, by simp, fun k _ hk => setRow_other w _ k _ hk⟩ rfl ?_
        exact hJ.block (Ext.push hH _) (setRow_heap w _ cur _ e _ hcur) hsh (by
          rw [hcap]
          simp only [List.length_append, List.length_take, List.length_drop, Array.length_toList]
          omega)
      · exact ⟨rfl, rfl, rfl, by simp, fun k _ hk => setRow_other w _ k _ (fun e2 => hk (e2 ▸ Mine.of hg rfl))⟩
    · -- nothing is there, nothing comes
      have hl0 : len.val = 0 := by omega
      have hm0 : m = 0 := by omega
      subst hm0
      have hrun := run_append_zero (P := P) (w := w) (ty := ty) hu hi a len.val cap hlc (some x) c
      refine ⟨_, _, r.push (r.pl b), hrun, Ext.push hH _, ?_, ?_, Kept.refl _ _, Mine.move hH hg rfl⟩
      · simp only [VR, N.val_c]
        rw [hH.n, Rho.push_new, hlen', hmc']
        exact ⟨Rho.push_ok _ _, a, cap, rfl, by omega, by omega, .inr hc0⟩
      · refine hH.move hg rfl (Kept.refl _ _) rfl ?_
        have hn0 : news = [] := List.eq_nil_of_length_eq_zero (by rw [hl]; omega)
        subst hn0
        exact hJ.block (tail := cur.toList.drop (len.val * i.size)) (Ext.push hH _) (by
          rw [List.append_nil, List.take_append_drop]; simpa using hcur) hsh (by rw [hcap, List.append_nil, List.take_append_drop]; simp)
  · -- in a new place
    cases a with
    | none =>
      have hc0 : cap = 0 := by rcases ha with ⟨h, _⟩ | h; · simp at h
                               · exact h
      subst hc0
      have hl0 : len.val = 0 := Nat.le_zero.1 hlc
      generalize len.val = lv at *
      subst hl0
      simp only [Nat.zero_add] at hby h63 hsmall
      have hrun := run_append_nil (P := P) w t ty e i Z hu hi hz x m c news hl hnews (by omega) (by omega) (by omega)
      have hge := grownCap_ge w m 0 e
      refine ⟨_, _, r.push ⟨w.heap.size, 0, grownCap w m 0 e * i.size⟩, hrun, Ext.push hH _, ?_, ?_, ?_, fun k hk h => (Mine.new (hH.kill b) _ _ k hk h).kill⟩
      · have := VR.newSlice (r := r) (H := H) hH.n w.heap.size (grownCap w m 0 e * i.size) len' mc' (grownCap w m 0 e) i.size (by omega) (by omega) (Nat.le_refl _)
        rw [hlen'] at this
        simpa only [Nat.zero_add] using this
      · have hsz : (cur.toList.take (0 * i.size) ++ news ++ (Builtin.zeroCells Z.cells (grownCap w m 0 e - m)).toList).length = grownCap w m 0 e * i.size := by
          simp only [List.length_append, holds, hl, Array.length_toList, size_zeroCells, hzs, ← Nat.add_mul]
          congr 1; omega
        refine (hH.kill b).push (S := fun _ => False) ⟨rfl, rfl, rfl, (Kept.alloc w.drew _ (fun _ => False)).size, fun k hk _ => (Kept.alloc w.drew _ (fun _ => False)).block k hk (fun h => h)⟩ (fun _ _ _ _ hh => hh) ?_ rfl (fun j d hjd hd => Nat.ne_of_lt ((hH.kill b).lt hjd hd))
        refine hJ.block (Ext.push hH _) (tail := (Builtin.zeroCells Z.cells (grownCap w m 0 e - m)).toList) ?_ rfl hsz.symm
        rw [show (w.drew.alloc _).heap[w.heap.size]? = _ from heap_alloc_new w.drew _]
        simp
      · exact ⟨rfl, rfl, rfl, (Kept.alloc w.drew _ (fun _ => False)).size, fun k hk _ => (Kept.alloc w.drew _ (fun _ => False)).block k hk (fun h => h)⟩
    | some a =>
    have ha : (a = ⟨(r.pl b).blk, (r.pl b).sh + 0, none⟩ ∧ 0 + cap * i.size ≤ (r.pl b).cap) ∨ cap = 0 := by
      rcases ha with ⟨h, h'⟩ | h
      · simp only [Option.some.injEq] at h; exact .inl ⟨h, h'⟩
      · exact .inr h
    have hcells : ∀ j v, (cur.toList.take (len.val * i.size))[j]? = some v → w.cell? (a.add j) = some v := by
      intro j v hjv
      have hjl := (List.getElem?_eq_some_iff.1 hjv).1
      rw [holds] at hjl
      rcases ha with ⟨rfl, hcb⟩ | hc0
      · rw [addr_add, hsh, Nat.zero_add, cell_of_row w _ j cur e (0, 0) hcur]
        rw [List.getElem?_take, if_pos hjl] at hjv
        simpa using hjv
      · have h0 : len.val = 0 := Nat.le_zero.1 (hc0 ▸ hlc)
        rw [h0, Nat.zero_mul] at hjl
        exact absurd hjl (Nat.not_lt_zero _)
    have hrun := run_append_grow (P := P) w t ty e i Z hu hi hz a len.val cap (cur.toList.take (len.val * i.size)) holds hcells x m c news hl hnews (by omega) (by omega) (growslice_fits (by omega) hby)
    have hge := grownCap_ge w (len.val + m) cap e
    refine ⟨_, _, r.push ⟨w.heap.size, 0, grownCap w (len.val + m) cap e * i.size⟩, hrun, Ext.push hH _, ?_, ?_, ?_, fun k hk h => (Mine.new (hH.kill b) _ _ k hk h).kill⟩
    · have := VR.newSlice (r := r) (H := H) hH.n w.heap.size (grownCap w (len.val + m) cap e * i.size) len' mc' (grownCap w (len.val + m) cap e) i.size (by omega) (by omega) (Nat.le_refl _)
      rw [hlen'] at this
      exact this
    · have hsz : (cur.toList.take (len.val * i.size) ++ news ++ (Builtin.zeroCells Z.cells (grownCap w (len.val + m) cap e - (len.val + m))).toList).length = grownCap w (len.val + m) cap e * i.size := by
        simp only [List.length_append, holds, hl, Array.length_toList, size_zeroCells, hzs, ← Nat.add_mul]
        congr 1; omega
      refine (hH.kill b).push (S := fun _ => False) ⟨rfl, rfl, rfl, (Kept.alloc w.drew _ (fun _ => False)).size, fun k hk _ => (Kept.alloc w.drew _ (fun _ => False)).block k hk (fun h => h)⟩ (fun _ _ _ _ hh => hh) ?_ rfl (fun j d hjd hd => Nat.ne_of_lt ((hH.kill b).lt hjd hd))
      refine hJ.block (Ext.push hH _) (tail := (Builtin.zeroCells Z.cells (grownCap w (len.val + m) cap e - (len.val + m))).toList) ?_ rfl hsz.symm
      rw [show (w.drew.alloc _).heap[w.heap.size]? = _ from heap_alloc_new w.drew _]
      simp
    · exact ⟨rfl, rfl, rfl, (Kept.alloc w.drew _ (fun _ => False)).size, fun k hk _ => (Kept.alloc w.drew _ (fun _ => False)).block k hk (fun h => h)⟩

end Go.Ideal
