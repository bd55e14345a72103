/- The ideal machine: operations that make or write memory. Own text; nothing here is trusted. -/
import Derived.Test.YtbcadmnkilckbaaI7
namespace Go.Ideal
set_option linter.unusedSimpArgs false
set_option linter.unusedVariables false

def Hp.push (H : Hp) (b : Blk) : Hp := ⟨H.tr.set H.n (some b), H.n + 1⟩
def Hp.put (H : Hp) (i : Nat) (b : Option Blk) : Hp := ⟨H.tr.set i b, H.n⟩
def Rho.push (r : Rho) (p : Pl) : Rho := ⟨fun i => if i = r.n then p else r.pl i, fun i => r.ok i ∨ i = r.n, r.n + 1⟩

theorem Ext.push {r : Rho} {H : Hp} {w : World} (hH : HR r H w) (p : Pl) : Ext r (r.push p) :=
  ⟨Nat.le_succ _, fun i hi => .inl hi, fun i hi => by have := hH.okn i hi; simp only [Rho.push]; rw [if_neg (by omega)], fun i hi => hi.elim .inl fun e => .inr (Nat.le_of_eq e.symm)⟩
theorem Rho.push_new (r : Rho) (p : Pl) : (r.push p).pl r.n = p := by simp only [Rho.push, if_true]
theorem Rho.push_n (r : Rho) (p : Pl) : (r.push p).n = r.n + 1 := rfl
theorem Rho.push_ok (r : Rho) (p : Pl) : (r.push p).ok r.n := .inr rfl

/-- What an operation that may write does. -/
structure Does (P : Program) (w : World) (r : Rho) (H : Hp) (s : Sem Value) (v : V) (H' : Hp) : Prop where
  out : ∃ y w' r', s.run P w = .ok y w' ∧ Ext r r' ∧ VR r' v y ∧ HR r' H' w' ∧ Kept (Mine r H) w w' ∧ (∀ k, k < w.heap.size → Mine r' H' k → Mine r H k)

/-- A block is put behind the others. -/
theorem HR.push {r : Rho} {H : Hp} {w w' : World} {b : Blk} {p : Pl} {S : Nat → Prop} (h : HR r H w) (hk : Kept S w w') (hs : ∀ i c, H.tr.get i = some c → c.there → ¬ S (r.pl i).blk)
    (hb : BR (r.push p) w' p b) (ho : b.isOwn = true) (ha : ∀ i c, H.tr.get i = some c → (c.there ∨ c.isOwn = true) → (r.pl i).blk ≠ p.blk) : HR (r.push p) (H.push b) w' := by
  have hn := h.n
  have hget : ∀ i, (H.push b).tr.get i = if i = H.n then some b else H.tr.get i := fun i => Tr.get_set _ _ _ _
  have hpl : ∀ i, i ≠ H.n → (r.push p).pl i = r.pl i := fun i hi => by simp only [Rho.push]; rw [if_neg (by omega)]
  have hpn : (r.push p).pl H.n = p := by rw [hn]; exact Rho.push_new r p
  refine ⟨by simp only [Hp.push, Rho.push, hn], fun i hi => hi.elim (fun hi => Nat.lt_succ_of_lt (h.okn i hi)) (fun e => by rw [e]; exact Nat.lt_succ_self _), fun i c hi => ?_, fun i c hi => ?_, fun i j c d hij hi hj hc hd => ?_⟩
  · rw [hget] at hi
    by_cases e : i = H.n
    · simp only [Hp.push]; omega
    · rw [if_neg e] at hi
      have := h.bound i c hi
      simp only [Hp.push]; omega
  · rw [hget] at hi
    by_cases e : i = H.n
    · rw [if_pos e, Option.some.injEq] at hi
      subst hi; subst e
      rw [hpn]; exact hb
    · rw [if_neg e] at hi
      rw [hpl i e]
      exact ((h.live i c hi).of_block fun ht => hk.block _ ((h.live i c hi).lt ht) (hs i c hi ht)).ext (Ext.push h p)
  · rw [hget] at hi hj
    by_cases ei : i = H.n
    · rw [if_pos ei, Option.some.injEq] at hi
      subst hi
      have ej : j ≠ H.n := fun e => hij (ei.trans e.symm)
      rw [if_neg ej] at hj
      rw [ei, hpn, hpl j ej]
      exact fun e => ha j d hj (.inl hd) e.symm
    · rw [if_neg ei] at hi
      by_cases ej : j = H.n
      · rw [ej, hpn, hpl i ei]
        exact ha i c hi (.inr hc)
      · rw [if_neg ej] at hj
        rw [hpl i ei, hpl j ej]
        exact h.apart i j c d hij hi hj hc hd

theorem HR.lt {r : Rho} {H : Hp} {w : World} (h : HR r H w) {i : Nat} {c : Blk} (hi : H.tr.get i = some c) (hc : c.there ∨ c.isOwn = true) : (r.pl i).blk < w.heap.size := by
  refine (h.live i c hi).lt ?_
  rcases hc with hc | hc
  · exact hc
  · cases c <;> first | trivial | simp [Blk.isOwn] at hc

/-- A row of cells of one's own. -/
theorem BR.row {r : Rho} {w : World} {p : Pl} {c : Array Value} {e : TypeId} {ro : Bool} {f : Nat → Int} {n : Nat} {rest : List V} (hw : w.heap[p.blk]? = some (.cells c e (0, 0))) (hs : p.sh = 0) (hc : p.cap = c.size)
    (hf : ∀ o, o < n → c[o]? = some (.int .i64 (f o))) (hr : ∀ (j : Nat) (v : V), rest[j]? = some v → ∃ y, c[n + j]? = some y ∧ VR r v y) (hl : n + rest.length ≤ c.size) : BR r w p (.own ro e f n rest) :=
  ⟨c, hw, hs, hc, hl, hf, hr⟩

theorem Kept.alloc (w : World) (o : Obj) (S : Nat → Prop) : Kept S w (w.alloc o) :=
  ⟨rfl, rfl, rfl, by show w.heap.size ≤ (w.heap.push o).size; simp, fun k hk _ => by show (w.heap.push o)[k]? = _; rw [Array.getElem?_push, if_neg (by omega)]⟩

/-- A new row: what it begins with is told by the ideal cells. -/
theorem HR.alloc {r : Rho} {H : Hp} {w : World} (h : HR r H w) {vs : List V} {ys : List Value} (tail : List Value) (e : TypeId) (hv : VRs r vs ys) :
    HR (r.push ⟨w.heap.size, 0, (ys ++ tail).length⟩) (H.push (.own false e (fun _ => 0) 0 vs)) (w.alloc (.cells (ys ++ tail).toArray e)) := by
  refine h.push (S := fun _ => False) (Kept.alloc w _ _) (fun _ _ _ _ hh => hh) ?_ rfl (fun i c hi hc => Nat.ne_of_lt (h.lt hi hc))
  have hl := VRs.length vs ys hv
  refine BR.row (heap_alloc_new w _) rfl (by simp) (fun o ho => absurd ho (Nat.not_lt_zero _)) (fun j v hj => ?_) (by simp; omega)
  obtain ⟨y, hy, hvy⟩ := VRs.get vs ys hv j v hj
  refine ⟨y, ?_, VR.ext (Ext.push h _) _ _ hvy⟩
  rw [Nat.zero_add]
  simp only [List.getElem?_toArray]
  rw [List.getElem?_append_left (List.getElem?_eq_some_iff.1 hy).1]
  exact hy

/-- The same, whole numbers told by a function. -/
theorem HR.allocF {r : Rho} {H : Hp} {w : World} (h : HR r H w) {ys : List Value} (tail : List Value) (e : TypeId) {f : Nat → Int} {n : Nat} {vs : List V} (hf : ∀ o, o < n → ys[o]? = some (.int .i64 (f o)))
    (hv : ∀ (j : Nat) (v : V), vs[j]? = some v → ∃ y, ys[n + j]? = some y ∧ VR r v y) (hl : n + vs.length ≤ ys.length) :
    HR (r.push ⟨w.heap.size, 0, (ys ++ tail).length⟩) (H.push (.own false e f n vs)) (w.alloc (.cells (ys ++ tail).toArray e)) := by
  refine h.push (S := fun _ => False) (Kept.alloc w _ _) (fun _ _ _ _ hh => hh) ?_ rfl (fun i c hi hc => Nat.ne_of_lt (h.lt hi hc))
  refine BR.row (heap_alloc_new w _) rfl (by simp) (fun o ho => ?_) (fun j v hj => ?_) (by simp; omega)
  · have hy := hf o ho
    simp only [List.getElem?_toArray]
    rw [List.getElem?_append_left (List.getElem?_eq_some_iff.1 hy).1]
    exact hy
  · obtain ⟨y, hy, hvy⟩ := hv j v hj
    refine ⟨y, ?_, VR.ext (Ext.push h _) _ _ hvy⟩
    simp only [List.getElem?_toArray]
    rw [List.getElem?_append_left (List.getElem?_eq_some_iff.1 hy).1]
    exact hy

/-- What may be written behind a push: the new block, or what might be written before. -/
theorem Mine.push {r : Rho} {H : Hp} {w : World} {b : Blk} {p : Pl} {k : Nat} (hH : HR r H w) (h : Mine (r.push p) (H.push b) k) : (k = p.blk ∧ b.writable = true) ∨ Mine r H k := by
  obtain ⟨i, c, hi, hc, hk⟩ := h
  simp only [Hp.push, Tr.get_set] at hi
  by_cases e : i = H.n
  · rw [if_pos e, Option.some.injEq] at hi
    subst hi
    rw [e, hH.n, Rho.push_new] at hk
    exact .inl ⟨hk.symm, hc⟩
  · rw [if_neg e] at hi
    refine .inr ⟨i, c, hi, hc, ?_⟩
    rw [← hk]
    simp only [Rho.push]
    rw [if_neg (by have := hH.n; omega)]
theorem Mine.new {r : Rho} {H : Hp} {w : World} (hH : HR r H w) (b : Blk) (c : Nat) : ∀ k, k < w.heap.size → Mine (r.push ⟨w.heap.size, 0, c⟩) (H.push b) k → Mine r H k := by
  intro k hk h
  rcases Mine.push hH h with ⟨h1, _⟩ | h1
  · simp only at h1; omega
  · exact h1
theorem Mine.putOwn {r : Rho} {H : Hp} {b c : Blk} {i k : Nat} (hi : H.tr.get i = some b) (hb : b.writable = true) (h : Mine r (H.put i (some c)) k) : Mine r H k := by
  obtain ⟨j, d, hj, hd, hk⟩ := h
  simp only [Hp.put, Tr.get_set] at hj
  by_cases e : j = i
  · subst e; exact ⟨j, b, hi, hb, hk⟩
  · rw [if_neg e] at hj; exact ⟨j, d, hj, hd, hk⟩

theorem VR.newPtr {r : Rho} {H : Hp} (hn : H.n = r.n) (g c : Nat) : VR (r.push ⟨g, 0, c⟩) (.ptr H.n (.c 0)) (.pointer (some ⟨g, 0, none⟩)) := by
  simp only [VR, N.val]
  rw [hn, Rho.push_new]
  exact ⟨Rho.push_ok _ _, rfl⟩

theorem VR.newSlice {r : Rho} {H : Hp} (hn : H.n = r.n) (g c : Nat) (len mc : N) (cap sz : Nat) (h1 : len.val ≤ cap) (h2 : mc.val ≤ cap) (h3 : cap * sz ≤ c) :
    VR (r.push ⟨g, 0, c⟩) (.slice H.n (.c 0) len sz mc) (.slice (some ⟨g, 0, none⟩) len.val cap) := by
  simp only [VR, N.val]
  rw [hn, Rho.push_new]
  exact ⟨Rho.push_ok _ _, _, cap, rfl, h1, h2, .inl ⟨rfl, by rw [Nat.zero_add]; exact h3⟩⟩

/-! ### A new variable -/

def allocV (P : Program) (H : Hp) (t : TypeId) : Option (V × Hp × List Prop) :=
  match zeroT P t with
  | some z => if z.fits then some (.ptr H.n (.c 0), H.push (.own false t (fun _ => 0) 0 z.cells), []) else none
  | none => none

theorem VR.fits {r : Rho} {v : V} {y : Value} (h : VR r v y) (hf : v.fits = true) : VRs r v.cells y.cells.toList :=
  VR.cells h (by cases v <;> first | exact .inr ⟨_, rfl⟩ | exact .inl hf)

theorem newVar_does {P : Program} {w : World} {r : Rho} {H : Hp} {t : TypeId} {v : V} {y : Value} (hH : HR r H w) (hv : VR r v y) (hf : v.fits = true) :
    Does P w r H (do pure (.pointer (some (← newVar t y)))) (.ptr H.n (.c 0)) (H.push (.own false t (fun _ => 0) 0 v.cells)) := by
  have hcs := VR.fits hv hf
  refine ⟨.pointer (some ⟨w.heap.size, 0, none⟩), w.alloc (.cells y.cells t), r.push ⟨w.heap.size, 0, y.cells.size⟩, ?_, Ext.push hH _, VR.newPtr hH.n _ _, ?_, Kept.alloc _ _ _, Mine.new hH _ _⟩
  · simp only [newVar, newRow, Sem.run_bind, newObj, Sem.run, Result.andThen_ok, Sem.run_pure]; rfl
  · have := hH.alloc [] t hcs
    simpa using this

theorem allocV_ok {P : Program} {w : World} {r : Rho} {H H' : Hp} {t : TypeId} {v : V} {cs : List Prop} (hH : HR r H w) (h : allocV P H t = some (v, H', cs)) : Does P w r H (Instr.alloc t true (.tuple #[])) v H' := by
  unfold allocV at h
  split at h
  · rename_i z hz
    split at h
    · rename_i hf
      simp only [Option.some.injEq, Prod.mk.injEq] at h
      obtain ⟨rfl, rfl, rfl⟩ := h
      obtain ⟨Z, hZ, hv⟩ := run_zeroT (P := P) (w := w) (r := r) hz
      obtain ⟨y, w', r', hr, rest⟩ := (newVar_does (P := P) (t := t) hH hv hf).out
      refine ⟨y, w', r', ?_, rest⟩
      simp only [Instr.alloc, Sem.run_bind, hZ, Result.andThen_ok]
      simpa using hr
    · simp at h
  · simp at h

def boxV (H : Hp) (t : TypeId) (x : V) : Option (V × Hp × List Prop) := x.force fun x =>
  if x.fits then some (.ptr H.n (.c 0), H.push (.own false t (fun _ => 0) 0 x.cells), []) else none
theorem boxV_ok {P : Program} {w : World} {r : Rho} {H H' : Hp} {t : TypeId} {x v : V} {X : Value} {cs : List Prop} (hH : HR r H w) (h : boxV H t x = some (v, H', cs)) (hx : VR r x X) : Does P w r H (Instr.box t X) v H' := by
  unfold boxV at h
  rw [V.force_eq] at h
  split at h
  · rename_i hf
    simp only [Option.some.injEq, Prod.mk.injEq] at h
    obtain ⟨rfl, rfl, rfl⟩ := h
    exact newVar_does hH hx hf
  · simp at h

/-! ### A store -/

def storeV (P : Program) (H : Hp) (t : TypeId) (x v : V) : Option (Hp × List Prop) := x.force fun x => v.force fun v =>
  match x with
  | .ptr b o => match H.tr.get b, sizeT P t with
    | some bl, some n => if v.fits && v.cells.length == n then match bl.puts o v.cells with
        | some (bl', cs) => some (H.put b (some bl'), cs)
        | none => none
      else none
    | _, _ => none
  | _ => none

/-- One's own block has turned. -/
theorem HR.put {r : Rho} {H : Hp} {w w' : World} {b c : Blk} {i : Nat} (h : HR r H w) (hi : H.tr.get i = some b) (hb : b.isOwn = true) (hc : c.there) (hk : Kept (fun k => k = (r.pl i).blk) w w') (hbr : BR r w' (r.pl i) c) :
    HR r (H.put i (some c)) w' := by
  have hget : ∀ j, (H.put i (some c)).tr.get j = if j = i then some c else H.tr.get j := fun j => Tr.get_set _ _ _ _
  refine ⟨h.n, h.okn, fun j d hj => ?_, fun j d hj => ?_, fun j k d e hjk hj hk' hd he => ?_⟩
  · rw [hget] at hj
    by_cases e : j = i
    · subst e; exact h.bound j b hi
    · rw [if_neg e] at hj; exact h.bound j d hj
  · rw [hget] at hj
    by_cases e : j = i
    · subst e
      rw [if_pos rfl, Option.some.injEq] at hj
      subst hj; exact hbr
    · rw [if_neg e] at hj
      exact (h.live j d hj).of_block fun ht => hk.block _ ((h.live j d hj).lt ht) fun e2 => h.apart i j b d (fun e3 => e e3.symm) hi hj hb ht e2.symm
  · rw [hget] at hj hk'
    have hbt : b.there := by cases b <;> first | trivial | simp [Blk.isOwn] at hb
    by_cases ej : j = i
    · have ek : k ≠ i := fun e => hjk (ej.trans e.symm)
      rw [if_neg ek] at hk'
      subst ej
      exact h.apart j k b e hjk hi hk' hb he
    · rw [if_neg ej] at hj
      by_cases ek : k = i
      · subst ek
        exact h.apart j k d b hjk hj hi hd hbt
      · rw [if_neg ek] at hk'
        exact h.apart j k d e hjk hj hk' hd he

theorem Blk.put_own {b b' : Blk} {o : N} {v : V} {cs : List Prop} (h : b.put o v = some (b', cs)) : b.isOwn = true ∧ b.writable = true ∧ b'.isOwn = true ∧ b'.writable = true ∧ b'.there := by
  cases b with
  | own ro e f n rest =>
    cases ro <;> cases o <;> simp only [Blk.put, reduceCtorEq] at h
    · split at h
      · split at h
        · simp only [Option.some.injEq, Prod.mk.injEq] at h; obtain ⟨rfl, _⟩ := h; exact ⟨rfl, rfl, rfl, rfl, trivial⟩
        · simp at h
      · split at h
        · split at h
          · simp only [Option.some.injEq, Prod.mk.injEq] at h; obtain ⟨rfl, _⟩ := h; exact ⟨rfl, rfl, rfl, rfl, trivial⟩
          · simp at h
        · simp at h
    · split at h
      · split at h
        · simp only [Option.some.injEq, Prod.mk.injEq] at h; obtain ⟨rfl, _⟩ := h; exact ⟨rfl, rfl, rfl, rfl, trivial⟩
        · simp at h
      · simp at h
  | ext f n => simp [Blk.put] at h
  | mp es => simp [Blk.put] at h

theorem Blk.puts_own : ∀ (vs : List V) (b b' : Blk) (o : N) (cs : List Prop), vs ≠ [] → b.puts o vs = some (b', cs) → b.isOwn = true ∧ b.writable = true ∧ b'.there
  | [], _, _, _, _, h, _ => absurd rfl h
  | v :: vs, b, b', o, cs, _, h => by
    simp only [Blk.puts] at h
    split at h
    · rename_i b1 c1 h1
      have k1 := Blk.put_own h1
      split at h
      · rename_i b2 c2 h2
        simp only [Option.some.injEq, Prod.mk.injEq] at h
        obtain ⟨rfl, _⟩ := h
        refine ⟨k1.1, k1.2.1, ?_⟩
        cases vs with
        | nil => simp only [Blk.puts, Option.some.injEq, Prod.mk.injEq] at h2; rw [← h2.1]; exact k1.2.2.2.2
        | cons u us => exact (Blk.puts_own (u :: us) b1 b2 _ _ (by simp) h2).2.2
      · simp at h
    · simp at h

theorem storeV_ok {P : Program} {w : World} {r : Rho} {H H' : Hp} {t : TypeId} {x v : V} {X Y : Value} {cs : List Prop} (hH : HR r H w) (h : storeV P H t x v = some (H', cs)) (hcs : ∀ q, q ∈ cs → q) (hx : VR r x X) (hv : VR r v Y) :
    ∃ w', (Instr.storeAt t X Y).run P w = .ok () w' ∧ HR r H' w' ∧ Kept (Mine r H) w w' ∧ (∀ k, k < w.heap.size → Mine r H' k → Mine r H k) := by
  unfold storeV at h
  rw [V.force_eq, V.force_eq] at h
  split at h
  · rename_i b o
    simp only [VR] at hx
    obtain ⟨hb, rfl⟩ := hx
    split at h
    · rename_i bl n hg hs
      split at h
      · rename_i hcond
        simp only [Bool.and_eq_true, beq_iff_eq] at hcond
        split at h
        · rename_i bl' ds hp
          simp only [Option.some.injEq, Prod.mk.injEq] at h
          obtain ⟨rfl, rfl⟩ := h
          have hvs := VR.fits hv hcond.1
          have hlen := VRs.length _ _ hvs
          have hsz : Y.cells.size = n := by rw [← hcond.2, ← hlen]; simp
          obtain ⟨w', hrun, hbr, hk, hz⟩ := BR.puts (P := P) (a := ⟨(r.pl b).blk, (r.pl b).sh + o.val, none⟩) v.cells Y.cells.toList 0 w bl bl' o ds (hH.live b bl hg) hp hcs hvs (by simp [Addr.add]) rfl
          refine ⟨w', ?_, ?_, ?_, ?_⟩
          · simp only [Instr.storeAt, Instr.sureAddr, storeVar, Sem.run_bind, Sem.run_pure, Result.andThen_ok, run_sizeT hs, Sem.run_ite]
            rw [if_neg (fun hne => hne hsz)]
            exact hrun
          · by_cases hnil : v.cells = []
            · rw [hnil] at hp
              simp only [Blk.puts, Option.some.injEq, Prod.mk.injEq] at hp
              obtain ⟨rfl, _⟩ := hp
              rw [hnil] at hvs
              simp only [VRs] at hvs
              rw [hvs] at hrun
              simp only [storeCells, Sem.run_pure, Result.ok.injEq, true_and] at hrun
              subst hrun
              refine ⟨hH.n, hH.okn, fun j d hj => ?_, fun j d hj => ?_, fun j k d e hjk hj hk' hd he => ?_⟩
              all_goals simp only [Hp.put, Tr.get_set] at *
              · by_cases e : j = b
                · subst e; exact hH.bound j bl hg
                · rw [if_neg e] at hj; exact hH.bound j d hj
              · by_cases e : j = b
                · subst e; rw [if_pos rfl, Option.some.injEq] at hj; subst hj; exact hH.live j bl hg
                · rw [if_neg e] at hj; exact hH.live j d hj
              · have g1 : ∀ q z, (if q = b then some bl else H.tr.get q) = some z → H.tr.get q = some z := by
                  intro q z hq
                  by_cases e : q = b
                  · subst e; rw [if_pos rfl] at hq; rw [hg]; exact hq
                  · rw [if_neg e] at hq; exact hq
                exact hH.apart j k d e hjk (g1 _ _ hj) (g1 _ _ hk') hd he
            · have hown := Blk.puts_own v.cells bl bl' o ds hnil hp
              exact hH.put hg hown.1 hown.2.2 hk hbr
          · by_cases hnil : v.cells = []
            · rw [hnil] at hvs
              simp only [VRs] at hvs
              rw [hvs] at hrun
              simp only [storeCells, Sem.run_pure, Result.ok.injEq, true_and] at hrun
              subst hrun
              exact Kept.refl _ _
            · have hown := Blk.puts_own v.cells bl bl' o ds hnil hp
              exact hk.mono fun k _ e => ⟨b, bl, hg, hown.2.1, e.symm⟩
          · intro k _ hm
            by_cases hnil : v.cells = []
            · rw [hnil] at hp
              simp only [Blk.puts, Option.some.injEq, Prod.mk.injEq] at hp
              obtain ⟨rfl, _⟩ := hp
              obtain ⟨j, d, hj, hd, hk2⟩ := hm
              simp only [Hp.put, Tr.get_set] at hj
              by_cases e : j = b
              · subst e; rw [if_pos rfl, Option.some.injEq] at hj; subst hj; exact ⟨j, bl, hg, hd, hk2⟩
              · rw [if_neg e] at hj; exact ⟨j, d, hj, hd, hk2⟩
            · exact Mine.putOwn hg (Blk.puts_own v.cells bl bl' o ds hnil hp).2.1 hm
        · simp at h
      · simp at h
    · simp at h
  · simp at h

end Go.Ideal
