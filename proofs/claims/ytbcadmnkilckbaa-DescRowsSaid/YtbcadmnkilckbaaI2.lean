/- The ideal machine's memory, and the worlds that hold it: reading a cell, writing one, a new block. Own text; nothing here is trusted. -/
import Derived.Test.YtbcadmnkilckbaaI1
namespace Go.Ideal

/-- A block: cells of the machine's own (first n whole numbers of kind int, told by a function, then the rest; there may be more cells behind); n whole numbers that can be read alone; a map over whole numbers. ro: it may not be written. -/
inductive Blk where
  | own (ro : Bool) (elem : TypeId) (f : Nat → Int) (n : Nat) (rest : List V) : Blk
  | ext (f : Nat → Int) (n : N) : Blk
  | mp (es : List (Int × V)) : Blk

def Blk.writable : Blk → Bool
  | .own ro _ _ _ _ => !ro
  | .ext _ _ => false
  | .mp _ => true
def Blk.isOwn : Blk → Bool
  | .ext _ _ => false
  | _ => true
/-- Does it bear a cell? -/
def Blk.there : Blk → Prop
  | .ext _ n => 0 < n.val
  | _ => True

/-- The memory: blocks by number; n: the next number. -/
structure Hp where
  tr : Tr Blk
  n : Nat

/-- The world's block holds the ideal one. -/
def BR (r : Rho) (w : World) (p : Pl) : Blk → Prop
  | .own _ elem f n rest => ∃ c : Array Value, w.heap[p.blk]? = some (.cells c elem (0, 0)) ∧ p.sh = 0 ∧ p.cap = c.size ∧ n + rest.length ≤ c.size ∧
      (∀ o, o < n → c[o]? = some (.int .i64 (f o))) ∧ (∀ (j : Nat) (v : V), rest[j]? = some v → ∃ y, c[n + j]? = some y ∧ VR r v y)
  | .ext f n => ∀ o, o < n.val → w.cell? ⟨p.blk, p.sh + o, none⟩ = some (.int .i64 (f o))
  | .mp es => ∃ (ms : Array MapEntry) (clock : Nat), w.heap[p.blk]? = some (.map ms clock) ∧ ms.size = es.length ∧
      ∀ (j : Nat) (k : Int) (v : V), es[j]? = some (k, v) → ∃ m y, ms[j]? = some m ∧ m.key = .int .i64 k ∧ m.val = y ∧ VR r v y

/-- The world holds the memory. -/
structure HR (r : Rho) (H : Hp) (w : World) : Prop where
  n : H.n = r.n
  okn : ∀ i, r.ok i → i < r.n
  bound : ∀ i b, H.tr.get i = some b → i < H.n
  live : ∀ i b, H.tr.get i = some b → BR r w (r.pl i) b
  apart : ∀ i j b c, i ≠ j → H.tr.get i = some b → H.tr.get j = some c → b.isOwn = true → c.there → (r.pl i).blk ≠ (r.pl j).blk

/-- But for the blocks S the world is as it was, and it may have grown. -/
structure Kept (S : Nat → Prop) (w w' : World) : Prop where
  os : w'.os = w.os
  tape : w'.tape = w.tape
  output : w'.output = w.output
  size : w.heap.size ≤ w'.heap.size
  block : ∀ k, k < w.heap.size → ¬ S k → w'.heap[k]? = w.heap[k]?

/-- The model's blocks that the memory may write. -/
def Mine (r : Rho) (H : Hp) (k : Nat) : Prop := ∃ i b, H.tr.get i = some b ∧ b.writable = true ∧ (r.pl i).blk = k

theorem Kept.refl (S : Nat → Prop) (w : World) : Kept S w w := ⟨rfl, rfl, rfl, Nat.le_refl _, fun _ _ _ => rfl⟩
theorem Kept.trans {S S' : Nat → Prop} {a b c : World} (h : Kept S a b) (k : Kept S' b c) (hs : ∀ i, i < a.heap.size → S' i → S i) : Kept S a c :=
  ⟨k.os.trans h.os, k.tape.trans h.tape, k.output.trans h.output, Nat.le_trans h.size k.size, fun i hi hn =>
    (k.block i (Nat.lt_of_lt_of_le hi h.size) fun hs' => hn (hs i hi hs')).trans (h.block i hi hn)⟩
theorem Kept.mono {S S' : Nat → Prop} {a b : World} (h : Kept S a b) (hs : ∀ i, i < a.heap.size → S i → S' i) : Kept S' a b :=
  ⟨h.os, h.tape, h.output, h.size, fun i hi hn => h.block i hi fun hs' => hn (hs i hi hs')⟩
theorem Kept.drawn {S : Nat → Prop} (w : World) (n : Nat) : Kept S w { w with drawn := n } := ⟨rfl, rfl, rfl, Nat.le_refl _, fun _ _ _ => rfl⟩

theorem BR.of_block {r : Rho} {w w' : World} {p : Pl} {b : Blk} (h : BR r w p b) (hb : b.there → w'.heap[p.blk]? = w.heap[p.blk]?) : BR r w' p b := by
  cases b with
  | own ro elem f n rest =>
    obtain ⟨c, hc, rest'⟩ := h
    exact ⟨c, (hb trivial).trans hc, rest'⟩
  | ext f n =>
    intro o ho
    have h1 := h o ho
    have h2 : w'.heap[p.blk]? = w.heap[p.blk]? := hb (Nat.lt_of_le_of_lt (Nat.zero_le _) ho)
    rw [← h1]
    exact World.cell?_of_block (w := w) (a := ⟨p.blk, p.sh + o, none⟩) h2
  | mp es =>
    obtain ⟨ms, cl, hm, rest'⟩ := h
    exact ⟨ms, cl, (hb trivial).trans hm, rest'⟩

theorem BR.sub {r r' : Rho} {w : World} {p : Pl} {b : Blk} (h : BR r w p b) (he : Sub r r') : BR r' w p b := by
  cases b with
  | own ro elem f n rest =>
    obtain ⟨c, hc, h1, h2, h3, h4, h5⟩ := h
    exact ⟨c, hc, h1, h2, h3, h4, fun j v hj => let ⟨y, hy, hv⟩ := h5 j v hj; ⟨y, hy, VR.sub he _ _ hv⟩⟩
  | ext f n => exact h
  | mp es =>
    obtain ⟨ms, cl, hm, h1, h2⟩ := h
    exact ⟨ms, cl, hm, h1, fun j k v hj => let ⟨m, y, a, b, c, d⟩ := h2 j k v hj; ⟨m, y, a, b, c, VR.sub he _ _ d⟩⟩

theorem BR.ext {r r' : Rho} {w : World} {p : Pl} {b : Blk} (h : BR r w p b) (he : Ext r r') : BR r' w p b := h.sub he.sub

theorem lt_of_cell {w : World} {a : Addr} {v : Value} (h : w.cell? a = some v) : a.block < w.heap.size := by
  rcases Nat.lt_or_ge a.block w.heap.size with h' | h'
  · exact h'
  · simp [World.cell?, Array.getElem?_eq_none h'] at h

theorem BR.lt {r : Rho} {w : World} {p : Pl} {b : Blk} (h : BR r w p b) (ht : b.there) : p.blk < w.heap.size := by
  cases b with
  | own ro elem f n rest =>
    obtain ⟨c, hc, _⟩ := h
    exact (Array.getElem?_eq_some_iff.1 hc).1
  | ext f n =>
    have := lt_of_cell (h 0 ht)
    exact this
  | mp es =>
    obtain ⟨ms, cl, hm, _⟩ := h
    exact (Array.getElem?_eq_some_iff.1 hm).1

/-- The memory is held on where only other blocks have turned. -/
theorem HR.kept {r : Rho} {H : Hp} {S : Nat → Prop} {w w' : World} (h : HR r H w) (k : Kept S w w') (hs : ∀ i b, H.tr.get i = some b → b.there → ¬ S (r.pl i).blk) : HR r H w' :=
  ⟨h.n, h.okn, h.bound, fun i b hi => (h.live i b hi).of_block fun ht => k.block _ ((h.live i b hi).lt ht) (hs i b hi ht), h.apart⟩

theorem HR.drawn {r : Rho} {H : Hp} {w : World} (h : HR r H w) (n : Nat) : HR r H { w with drawn := n } :=
  h.kept (S := fun _ => False) (Kept.drawn w n) (fun _ _ _ _ h => h)

/-! ### A cell -/

/-- The whole numbers at the head of a row of values. -/
def intsOf : List V → List Int
  | .int .i64 e :: vs => e.val :: intsOf vs
  | _ => []

theorem intsOf_get : ∀ (vs : List V) (j : Nat), j < (intsOf vs).length → ∃ e, vs[j]? = some (.int .i64 e) ∧ (intsOf vs).getD j 0 = e.val
  | [], j, h => by simp [intsOf] at h
  | v :: vs, j, h => by
    unfold intsOf at h ⊢
    split at h
    · rename_i e us heq
      simp only [List.cons.injEq] at heq
      obtain ⟨rfl, rfl⟩ := heq
      cases j with
      | zero => exact ⟨e, by simp, by simp⟩
      | succ j =>
        obtain ⟨e', h1, h2⟩ := intsOf_get vs j (by simpa using h)
        exact ⟨e', by simpa using h1, by simpa using h2⟩
    · simp at h
theorem intsOf_le (vs : List V) : (intsOf vs).length ≤ vs.length := by
  induction vs with
  | nil => simp [intsOf]
  | cons v vs ih =>
    unfold intsOf
    split
    · rename_i heq
      simp only [List.cons.injEq] at heq
      obtain ⟨rfl, rfl⟩ := heq
      simpa using ih
    · simp

/-- .. worked out at once. -/
def intsK {α : Type} : List V → (List Int → α) → α
  | .int .i64 e :: vs, k => e.force fun e => intsK vs fun zs => k (e.val :: zs)
  | _, k => k []
theorem intsK_eq {α : Type} : ∀ (vs : List V) (k : List Int → α), intsK vs k = k (intsOf vs)
  | [], k => rfl
  | v :: vs, k => by
    unfold intsK intsOf
    split
    · rename_i e us heq
      simp only [List.cons.injEq] at heq
      obtain ⟨rfl, rfl⟩ := heq
      simp only [E.force_eq]
      exact intsK_eq vs _
    · rename_i hne
      split
      · rename_i e us heq
        simp only [List.cons.injEq] at heq
        obtain ⟨rfl, rfl⟩ := heq
        exact absurd rfl (hne e vs)
      · rfl

/-- The block with the whole numbers at its head told by a function. -/
def Blk.flat : Blk → Blk
  | .own ro e f n rest => intsK rest fun zs => match zs with
    | [] => .own ro e f n rest
    | z :: zs => .own ro e (match n with | 0 => fun k => (z :: zs).getD k 0 | n => fun k => if k < n then f k else (z :: zs).getD (k - n) 0) (n + (zs.length + 1)) (rest.drop (zs.length + 1))
  | b => b
/-- .. unless some are told so already. -/
def Blk.flatS : Blk → Blk
  | .own ro e f n rest => match rest with
    | [] => .own ro e f n []
    | r :: rs => match n with
      | 0 => (Blk.own ro e f 0 (r :: rs)).flat
      | n + 1 => .own ro e f (n + 1) (r :: rs)
  | b => b
theorem Blk.flatS_or (b : Blk) : b.flatS = b.flat ∨ b.flatS = b := by
  cases b with
  | own ro e f n rest => cases rest <;> cases n <;> simp [Blk.flatS]
  | ext f n => exact .inr rfl
  | mp es => exact .inr rfl

theorem BR.flat {r : Rho} {w : World} {p : Pl} {b : Blk} (h : BR r w p b) : BR r w p b.flat := by
  cases b with
  | own ro e f n rest =>
    unfold Blk.flat
    simp only [intsK_eq]
    split
    · exact h
    · rename_i z zs hz
      obtain ⟨c, h1, h2, h3, h4, h5, h6⟩ := h
      have hl : (zs.length + 1) = (intsOf rest).length := by rw [hz]; rfl
      have hle := intsOf_le rest
      refine ⟨c, h1, h2, h3, by rw [List.length_drop]; omega, fun o ho => ?_, fun j v hj => ?_⟩
      · have hf : (match n with | 0 => fun k => (z :: zs).getD k 0 | n => fun k => if k < n then f k else (z :: zs).getD (k - n) 0) o = if o < n then f o else (z :: zs).getD (o - n) 0 := by
          cases n <;> simp
        rw [hf]
        by_cases hon : o < n
        · rw [if_pos hon]; exact h5 o hon
        · rw [if_neg hon]
          obtain ⟨x, hx1, hx2⟩ := intsOf_get rest (o - n) (by omega)
          obtain ⟨y, hy, hv⟩ := h6 _ _ hx1
          simp only [VR] at hv
          have : n + (o - n) = o := by omega
          rw [this, hv] at hy
          rw [hy, ← hx2, hz]
      · rw [List.getElem?_drop] at hj
        obtain ⟨y, hy, hv⟩ := h6 _ _ hj
        exact ⟨y, by rw [Nat.add_assoc]; exact hy, hv⟩
  | ext f n => exact h
  | mp es => exact h

theorem BR.flatS {r : Rho} {w : World} {p : Pl} {b : Blk} (h : BR r w p b) : BR r w p b.flatS := by
  rcases Blk.flatS_or b with e | e <;> rw [e]
  · exact h.flat
  · exact h

/-- Known to lie below. -/
def N.sure : N → N → Bool
  | .c a, .c b => decide (a < b)
  | _, _ => false
theorem N.sure_ok {o n : N} (h : ∀ q, q ∈ (if N.sure o n then [] else [o.val < n.val]) → q) : o.val < n.val := by
  cases hs : N.sure o n with
  | true =>
    cases o <;> cases n <;> simp [N.sure] at hs
    exact hs
  | false =>
    rw [hs] at h
    exact h _ (by simp)

/-- The cell at a known place, or at one that is not looked into (then it is one of the whole numbers at the head; p: what must hold). -/
def Blk.cell : Blk → N → Option (V × List Prop)
  | .own _ _ f n rest, .c o => if o < n then some (.int .i64 (.s (f o)), []) else match rest[o - n]? with
    | some v => some (v, [])
    | none => none
  | .own ro e f n rest, .s o => match (Blk.own ro e f n rest).flatS with
    | .own _ _ f n _ => some (.int .i64 (.s (f o)), [o < n])
    | _ => none
  | .ext f n, o => some (.int .i64 (.s (f o.val)), if N.sure o n then [] else [o.val < n.val])
  | .mp _, _ => none

theorem BR.cell {r : Rho} {w : World} {p : Pl} {b : Blk} (h : BR r w p b) {o : N} {v : V} {cs : List Prop} (hc : b.cell o = some (v, cs)) (hcs : ∀ q, q ∈ cs → q) :
    ∃ y, w.cell? ⟨p.blk, p.sh + o.val, none⟩ = some y ∧ VR r v y := by
  cases b with
  | own ro elem f n rest =>
    obtain ⟨c, hc', h1, h2, h3, h4, h5⟩ := h
    have hcell : ∀ k, w.cell? ⟨p.blk, p.sh + k, none⟩ = c[k]? := by
      intro k; rw [h1, Nat.zero_add]; exact cell_of_row w p.blk k c elem (0, 0) hc'
    cases o with
    | c o =>
      simp only [Blk.cell] at hc
      by_cases ho : o < n
      · rw [if_pos ho] at hc
        simp only [Option.some.injEq, Prod.mk.injEq] at hc
        obtain ⟨rfl, rfl⟩ := hc
        exact ⟨_, (hcell o).trans (h4 o ho), by simp only [VR, E.val]⟩
      · rw [if_neg ho] at hc
        cases hr : rest[o - n]? with
        | none => rw [hr] at hc; simp at hc
        | some x =>
          rw [hr] at hc
          simp only [Option.some.injEq, Prod.mk.injEq] at hc
          obtain ⟨rfl, rfl⟩ := hc
          obtain ⟨y, hy, hv⟩ := h5 _ _ hr
          have : n + (o - n) = o := by omega
          rw [this] at hy
          exact ⟨y, (hcell o).trans hy, hv⟩
    | s o =>
      simp only [Blk.cell] at hc
      have hflat := BR.flatS (r := r) (w := w) (p := p) (b := .own ro elem f n rest) ⟨c, hc', h1, h2, h3, h4, h5⟩
      split at hc
      · rename_i ro' e' f' n' rest' hfl
        rw [hfl] at hflat
        simp only [Option.some.injEq, Prod.mk.injEq] at hc
        obtain ⟨rfl, rfl⟩ := hc
        have ho : o < n' := hcs _ (by simp)
        obtain ⟨c', hc2, _, _, _, g4, _⟩ := hflat
        rw [hc'] at hc2
        simp only [Option.some.injEq, Obj.cells.injEq] at hc2
        obtain ⟨rfl, _⟩ := hc2
        exact ⟨_, (hcell o).trans (g4 o ho), by simp only [VR, E.val]⟩
      · simp at hc
  | ext f n =>
    have hlt : ∀ x : N, (∀ q, q ∈ (if N.sure x n then [] else [x.val < n.val]) → q) → x.val < n.val := fun x h => N.sure_ok h
    cases o <;> simp only [Blk.cell, Option.some.injEq, Prod.mk.injEq] at hc <;> obtain ⟨rfl, rfl⟩ := hc
    · exact ⟨_, h _ (hlt _ hcs), by simp only [VR, E.val, N.val]⟩
    · exact ⟨_, h _ (hlt _ hcs), by simp only [VR, E.val, N.val]⟩
  | mp es => cases o <;> simp [Blk.cell] at hc

/-- A row of n cells from a place on. -/
def N.add : N → Nat → N
  | .c a, k => .c (a + k)
  | .s a, k => .s (a + k)
theorem N.add_val (a : N) (k : Nat) : (a.add k).val = a.val + k := by cases a <;> rfl

def Blk.cells (b : Blk) (o : N) : Nat → Option (List V × List Prop)
  | 0 => some ([], [])
  | k + 1 => match b.cell o with
    | some (v, cs) => match b.cells (o.add 1) k with
      | some (vs, ds) => some (v :: vs, cs ++ ds)
      | none => none
    | none => none

/-- May the value lie in one cell? -/
def V.one : V → Bool
  | .any => false
  | .agg _ => false
  | .tuple _ => false
  | _ => true

theorem VR.one {r : Rho} {v : V} {y : Value} (h : VR r v y) (ho : v.one = true) : y.oneCell' = true := by
  cases v <;> simp only [V.one, Bool.false_eq_true] at ho <;> simp only [VR] at h
  case ptr => rw [h.2]; rfl
  case slice => obtain ⟨_, a, c, rfl, _⟩ := h; rfl
  case map => rw [h.2]; rfl
  case func => obtain ⟨ys, zs, rfl, _⟩ := h; rfl
  case iface => obtain ⟨z, rfl, _⟩ := h; rfl
  all_goals (rw [h]; rfl)

/-- A cell that may be written: the block behind it. -/
def Blk.put : Blk → N → V → Option (Blk × List Prop)
  | .own false e f n rest, .c o, v =>
    if o < n then match v with
      | .int .i64 x => some (.own false e (fun k => if k = o then x.val else f k) n rest, [])
      | _ => none
    else if o - n < rest.length then
      if v.one then some (.own false e f n (rest.set (o - n) v), []) else none
    else none
  | .own false e f n rest, .s o, v => match v with
    | .int .i64 x => match (Blk.own false e f n rest).flatS with
      | .own _ e f n rest => some (.own false e (fun k => if k = o then x.val else f k) n rest, [o < n])
      | _ => none
    | _ => none
  | _, _, _ => none

theorem Blk.flat_own (ro : Bool) (e : TypeId) (f : Nat → Int) (n : Nat) (rest : List V) : ∃ f' n' rest', (Blk.own ro e f n rest).flat = .own ro e f' n' rest' := by
  unfold Blk.flat
  simp only [intsK_eq]
  split <;> exact ⟨_, _, _, rfl⟩
theorem Blk.flatS_own (ro : Bool) (e : TypeId) (f : Nat → Int) (n : Nat) (rest : List V) : ∃ f' n' rest', (Blk.own ro e f n rest).flatS = .own ro e f' n' rest' := by
  cases rest with
  | nil => exact ⟨_, _, _, rfl⟩
  | cons r rs => cases n with
    | zero => exact Blk.flat_own ro e f 0 (r :: rs)
    | succ n => exact ⟨_, _, _, rfl⟩

theorem Blk.put_spec {b b' : Blk} {o : N} {v : V} {cs : List Prop} (h : b.put o v = some (b', cs)) (hcs : ∀ q, q ∈ cs → q) :
    v.one = true ∧ ∃ b0 e f n rest, (b0 = b ∨ b0 = b.flatS) ∧ b0 = .own false e f n rest ∧ ((o.val < n ∧ ∃ x, v = .int .i64 x ∧ b' = .own false e (fun k => if k = o.val then x.val else f k) n rest) ∨
      (¬ o.val < n ∧ o.val - n < rest.length ∧ b' = .own false e f n (rest.set (o.val - n) v))) := by
  cases b with
  | own ro e f n rest =>
    cases ro
    · cases o with
      | c o =>
        simp only [Blk.put] at h
        by_cases ho : o < n
        · rw [if_pos ho] at h
          cases v with
          | int k x =>
            cases k <;> simp only [Option.some.injEq, Prod.mk.injEq, reduceCtorEq] at h
            obtain ⟨rfl, rfl⟩ := h
            exact ⟨rfl, _, e, f, n, rest, .inl rfl, rfl, .inl ⟨ho, x, rfl, rfl⟩⟩
          | _ => simp at h
        · rw [if_neg ho] at h
          by_cases hl : o - n < rest.length
          · rw [if_pos hl] at h
            by_cases h1 : v.one = true
            · rw [if_pos h1] at h
              simp only [Option.some.injEq, Prod.mk.injEq] at h
              obtain ⟨rfl, rfl⟩ := h
              exact ⟨h1, _, e, f, n, rest, .inl rfl, rfl, .inr ⟨ho, hl, rfl⟩⟩
            · rw [if_neg h1] at h; simp at h
          · rw [if_neg hl] at h; simp at h
      | s o =>
        cases v with
        | int k x =>
          obtain ⟨f', n', rest', hfl⟩ := Blk.flatS_own false e f n rest
          cases k <;> simp only [Blk.put, hfl, Option.some.injEq, Prod.mk.injEq, reduceCtorEq] at h
          obtain ⟨rfl, rfl⟩ := h
          have ho : o < n' := hcs _ (List.mem_singleton.2 rfl)
          exact ⟨rfl, _, e, f', n', rest', .inr rfl, hfl, .inl ⟨ho, x, rfl, rfl⟩⟩
        | _ => simp [Blk.put] at h
    · cases o <;> simp [Blk.put] at h
  | ext f n => simp [Blk.put] at h
  | mp es => simp [Blk.put] at h

theorem BR.put {r : Rho} {P : Program} {w : World} {p : Pl} {b b' : Blk} {o : N} {v : V} {y : Value} {cs : List Prop} (h : BR r w p b)
    (hp : b.put o v = some (b', cs)) (hcs : ∀ q, q ∈ cs → q) (hv : VR r v y) :
    (store ⟨p.blk, p.sh + o.val, none⟩ y).run P w = .ok () (w.setCell ⟨p.blk, p.sh + o.val, none⟩ y) ∧ BR r (w.setCell ⟨p.blk, p.sh + o.val, none⟩ y) p b' ∧
    Kept (fun k => k = p.blk) w (w.setCell ⟨p.blk, p.sh + o.val, none⟩ y) ∧ (w.setCell ⟨p.blk, p.sh + o.val, none⟩ y).heap.size = w.heap.size := by
  obtain ⟨h1, b0, e, f, n, rest, hb0, hb1, hcase⟩ := Blk.put_spec hp hcs
  have hbr : BR r w p b0 := by
    rcases hb0 with rfl | rfl
    · exact h
    · exact h.flatS
  rw [hb1] at hbr
  obtain ⟨c, hc, hsh, hcap, hle, hf, hr⟩ := hbr
  have hsz : (w.setCell ⟨p.blk, p.sh + o.val, none⟩ y).heap.size = w.heap.size := by simp [World.setCell]
  have ho : o.val < c.size := by rcases hcase with ⟨ho, _⟩ | ⟨_, hl, _⟩ <;> omega
  have hrow : (w.setCell ⟨p.blk, p.sh + o.val, none⟩ y).heap[p.blk]? = some (.cells (c.setIfInBounds o.val y) e (0, 0)) := by
    rw [hsh, Nat.zero_add]; exact heap_setCell_same w p.blk o.val c e y hc
  refine ⟨?_, ?_, ⟨rfl, rfl, rfl, Nat.le_of_eq hsz.symm, fun k _ hk => heap_setCell_other w _ k y hk⟩, hsz⟩
  · have hcell : w.cell? ⟨p.blk, p.sh + o.val, none⟩ = some c[o.val] := by
      rw [hsh, Nat.zero_add, cell_of_row w p.blk o.val c e (0, 0) hc]; simp [ho]
    have hfro : w.frozen? ⟨p.blk, p.sh + o.val, none⟩ = false := frozen_of_row w p.blk _ c e hc
    rw [run_store P w _ y _ (VR.one hv h1), hcell]
    simp [hfro]
  · rcases hcase with ⟨hon, x, rfl, rfl⟩ | ⟨hon, hl, rfl⟩
    · refine ⟨c.setIfInBounds o.val y, hrow, hsh, by rw [hcap, Array.size_setIfInBounds], by rw [Array.size_setIfInBounds]; exact hle, fun k hk => ?_, fun j u hj => ?_⟩
      · simp only [VR] at hv
        show _ = some (Value.int IntKind.i64 (if k = o.val then x.val else f k))
        by_cases hko : k = o.val
        · rw [if_pos hko, hko, Array.getElem?_setIfInBounds_self_of_lt ho, hv]
        · rw [if_neg hko, Array.getElem?_setIfInBounds_ne (fun e => hko e.symm)]; exact hf k hk
      · rw [Array.getElem?_setIfInBounds_ne (by omega)]; exact hr j u hj
    · refine ⟨c.setIfInBounds o.val y, hrow, hsh, by rw [hcap, Array.size_setIfInBounds], by rw [Array.size_setIfInBounds, List.length_set]; exact hle, fun k hk => ?_, fun j u hj => ?_⟩
      · rw [Array.getElem?_setIfInBounds_ne (by omega)]; exact hf k hk
      · rw [List.getElem?_set] at hj
        by_cases hjo : o.val - n = j
        · rw [if_pos hjo, if_pos hl] at hj
          simp only [Option.some.injEq] at hj
          subst hj
          have : n + j = o.val := by omega
          rw [this, Array.getElem?_setIfInBounds_self_of_lt ho]
          exact ⟨y, rfl, hv⟩
        · rw [if_neg hjo] at hj
          rw [Array.getElem?_setIfInBounds_ne (by omega)]
          exact hr j u hj

def Blk.puts : Blk → N → List V → Option (Blk × List Prop)
  | b, _, [] => some (b, [])
  | b, o, v :: vs => match b.put o v with
    | some (b', cs) => match b'.puts (o.add 1) vs with
      | some (b'', ds) => some (b'', cs ++ ds)
      | none => none
    | none => none

theorem addr_add (b o i : Nat) : (⟨b, o, none⟩ : Addr).add i = ⟨b, o + i, none⟩ := by
  unfold Addr.add; split
  · rename_i h; subst h; rfl
  · rfl

theorem BR.puts {r : Rho} {P : Program} {p : Pl} {a : Addr} : ∀ (vs : List V) (ys : List Value) (i : Nat) (w : World) (b b' : Blk) (o : N) (cs : List Prop), BR r w p b →
    b.puts o vs = some (b', cs) → (∀ q, q ∈ cs → q) → VRs r vs ys → a.add i = ⟨p.blk, p.sh + o.val, none⟩ → a.spot = none →
    ∃ w', (storeCells a ys i).run P w = .ok () w' ∧ BR r w' p b' ∧ Kept (fun k => k = p.blk) w w' ∧ w'.heap.size = w.heap.size
  | [], ys, i, w, b, b', o, cs, h, hp, hcs, hv, _, _ => by
    simp only [Blk.puts, Option.some.injEq, Prod.mk.injEq] at hp
    obtain ⟨rfl, rfl⟩ := hp
    simp only [VRs] at hv
    subst hv
    exact ⟨w, by simp [storeCells], h, Kept.refl _ _, rfl⟩
  | v :: vs, ys, i, w, b, b', o, cs, h, hp, hcs, hv, ha, hsp => by
    simp only [Blk.puts] at hp
    cases hput : b.put o v with
    | none => rw [hput] at hp; simp at hp
    | some x =>
      obtain ⟨b1, c1⟩ := x
      rw [hput] at hp
      simp only at hp
      cases hputs : b1.puts (o.add 1) vs with
      | none => rw [hputs] at hp; simp at hp
      | some x =>
        obtain ⟨b2, c2⟩ := x
        rw [hputs] at hp
        simp only [Option.some.injEq, Prod.mk.injEq] at hp
        obtain ⟨rfl, rfl⟩ := hp
        simp only [VRs] at hv
        obtain ⟨z, zs, rfl, hv1, hv2⟩ := hv
        obtain ⟨hs, hb, hk, hz⟩ := BR.put (P := P) h hput (fun q hq => hcs q (List.mem_append_left _ hq)) hv1
        have ha' : a.add (i + 1) = ⟨p.blk, p.sh + (o.add 1).val, none⟩ := by
          obtain ⟨ab, ao, asp⟩ := a
          simp only at hsp; subst hsp
          rw [addr_add] at ha ⊢
          simp only [Addr.mk.injEq, and_true] at ha
          rw [N.add_val, ← ha.1]
          congr 1
          omega
        obtain ⟨w', hs', hb', hk', hz'⟩ := BR.puts vs zs (i + 1) _ b1 b2 (o.add 1) c2 hb hputs (fun q hq => hcs q (List.mem_append_right _ hq)) hv2 ha' hsp
        refine ⟨w', ?_, hb', hk.trans hk' (fun _ _ h => h), hz'.trans hz⟩
        simp only [storeCells, Sem.run_bind]
        rw [ha, hs]
        exact hs'

theorem BR.cells {r : Rho} {w : World} {p : Pl} {b : Blk} (h : BR r w p b) : ∀ (n : Nat) (o : N) (vs : List V) (cs : List Prop), b.cells o n = some (vs, cs) → (∀ q, q ∈ cs → q) →
    vs.length = n ∧ ∃ ys, VRs r vs ys ∧ ∀ (j : Nat) (y : Value), ys[j]? = some y → w.cell? ⟨p.blk, p.sh + o.val + j, none⟩ = some y
  | 0, o, vs, cs, hc, _ => by
    simp only [Blk.cells, Option.some.injEq, Prod.mk.injEq] at hc
    obtain ⟨rfl, rfl⟩ := hc
    exact ⟨rfl, [], by simp only [VRs], fun j y hj => by simp at hj⟩
  | n + 1, o, vs, cs, hc, hcs => by
    simp only [Blk.cells] at hc
    cases h1 : b.cell o with
    | none => rw [h1] at hc; simp at hc
    | some x =>
      obtain ⟨v, c1⟩ := x
      rw [h1] at hc
      simp only at hc
      cases h2 : b.cells (o.add 1) n with
      | none => rw [h2] at hc; simp at hc
      | some x =>
        obtain ⟨us, c2⟩ := x
        rw [h2] at hc
        simp only [Option.some.injEq, Prod.mk.injEq] at hc
        obtain ⟨rfl, rfl⟩ := hc
        obtain ⟨y, hy, hv⟩ := h.cell h1 (fun q hq => hcs q (List.mem_append_left _ hq))
        obtain ⟨hl, ys, hvs, hys⟩ := BR.cells h n (o.add 1) us c2 h2 (fun q hq => hcs q (List.mem_append_right _ hq))
        refine ⟨by simp [hl], y :: ys, by simp only [VRs]; exact ⟨y, ys, rfl, hv, hvs⟩, fun j z hj => ?_⟩
        rcases j with _ | j
        · simp only [List.getElem?_cons_zero, Option.some.injEq] at hj
          subst hj; exact hy
        · simp only [List.getElem?_cons_succ] at hj
          have := hys j z hj
          rw [N.add_val] at this
          rw [← this]
          congr 2
          omega

end Go.Ideal
