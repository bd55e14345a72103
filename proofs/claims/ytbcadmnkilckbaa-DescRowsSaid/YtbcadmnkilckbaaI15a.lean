/- The ideal machine: regions that draw their order. Own text; nothing here is trusted. -/
import Derived.Test.YtbcadmnkilckbaaI14
namespace Go.Ideal
set_option linter.unusedSimpArgs false
set_option linter.unusedVariables false

/-! ### Parts of tries -/

def Tr.only {α : Type} (l : List Nat) (t : Tr α) : Tr α := l.foldl (fun u i => u.set i (t.get i)) .nil
def Tr.patch {α : Type} (l : List Nat) (s t : Tr α) : Tr α := l.foldl (fun u i => u.set i (s.get i)) t

theorem Tr.get_patch {α : Type} (s : Tr α) : ∀ (l : List Nat) (t : Tr α) (i : Nat), (Tr.patch l s t).get i = if i ∈ l then s.get i else t.get i
  | [], t, i => by simp [Tr.patch]
  | x :: l, t, i => by
    have h := Tr.get_patch s l (t.set x (s.get x)) i
    simp only [Tr.patch, List.foldl_cons] at h ⊢
    rw [h, Tr.get_set]
    by_cases hi : i ∈ l
    · simp [hi]
    · by_cases hx : i = x
      · subst hx; simp [hi]
      · simp [hi, hx]
theorem Tr.get_only {α : Type} (t : Tr α) (l : List Nat) (i : Nat) : (Tr.only l t).get i = if i ∈ l then t.get i else none := by
  have := Tr.get_patch t l .nil i
  rw [Tr.get_nil] at this
  exact this

def Blk.lock : Blk → Option Blk
  | .own _ e f n rest => some (.own true e f n rest)
  | .ext f n => some (.ext f n)
  | .mp _ => none

/-- The blocks F of a memory, those beyond U locked. -/
def part (F U : List Nat) (t : Tr Blk) : Tr Blk := F.foldl (fun u i => u.set i ((t.get i).bind fun b => if U.contains i then some b else b.lock)) .nil

theorem get_part (U : List Nat) (t : Tr Blk) (F : List Nat) (i : Nat) : (part F U t).get i = if i ∈ F then ((t.get i).bind fun b => if U.contains i then some b else b.lock) else none := by
  have key : ∀ (F : List Nat) (u : Tr Blk), (F.foldl (fun u i => u.set i ((t.get i).bind fun b => if U.contains i then some b else b.lock)) u).get i = if i ∈ F then ((t.get i).bind fun b => if U.contains i then some b else b.lock) else u.get i := by
    intro F
    induction F with
    | nil => intro u; simp
    | cons x F ih =>
      intro u
      simp only [List.foldl_cons]
      rw [ih, Tr.get_set]
      by_cases hi : i ∈ F
      · simp [hi]
      · by_cases hx : i = x
        · subst hx; simp [hi]
        · simp [hi, hx]
  have := key F .nil
  rw [Tr.get_nil] at this
  exact this

/-! ### Footprints (a guess: nothing rests on it) -/

mutual
def V.ids : V → List Nat
  | .ptr b _ => [b]
  | .slice b _ _ _ _ => [b]
  | .map b => [b]
  | .func _ xs ys => V.idsL xs ++ V.idsL ys
  | .iface _ v => v.ids
  | .agg vs => V.idsL vs
  | .tuple vs => V.idsL vs
  | _ => []
def V.idsL : List V → List Nat
  | [] => []
  | v :: vs => v.ids ++ V.idsL vs
end

def Blk.ids : Blk → List Nat
  | .own _ _ _ _ rest => V.idsL rest
  | .ext _ _ => []
  | .mp es => V.idsL (es.map (·.2))

def reach (t : Tr Blk) : Nat → List Nat → List Nat → List Nat
  | 0, _, acc => acc
  | _, [], acc => acc
  | n + 1, i :: is, acc => if acc.contains i then reach t n is acc else match t.get i with
    | some b => reach t n (b.ids ++ is) (i :: acc)
    | none => reach t n is acc

def canTurn (t : Tr Blk) (l : List Nat) : List Nat := l.filter fun i => match t.get i with | some b => b.writable | none => false

/-- The blocks that an operation may look into, those that it may turn. -/
def feet (H : Hp) (T : Tr V) (op : Op) : List Nat × List Nat :=
  let at1 (x : Operand) : List Nat := match ev T x with | .ptr b _ => [b] | .slice b _ _ _ _ => [b] | .map b => [b] | _ => []
  match op with
  | .load _ x => (at1 x, [])
  | .store _ x _ => (at1 x, canTurn H.tr (at1 x))
  | .slice _ x _ _ _ => (at1 x, [])
  | .lookup _ x _ _ => (at1 x, canTurn H.tr (at1 x))
  | .insert _ x _ _ => (at1 x, canTurn H.tr (at1 x))
  | .mapUpdate _ x _ _ => (at1 x, canTurn H.tr (at1 x))
  | .call { callee := .builtin .len, args := xs, argTypes := _ } => let l := (xs.toList.map at1).flatten; (l, canTurn H.tr l)
  | .call { callee := .builtin _, args := xs, argTypes := _ } => let l := (xs.toList.map at1).flatten; (l, canTurn H.tr l)
  | .call c => let l := reach H.tr 1000 (V.idsL (c.operands.toList.map (ev T))) []; (l, canTurn H.tr l)
  | _ => ([], [])

/-! ### The operations in the order of the text, each with what it touches -/

structure D where
  dst : Option Tmp
  reads : List Tmp
  F : List Nat
  up : List Nat
  lo : Nat
  hi : Nat
  v : V
  after : Tr Blk

def planOps (P : Program) (cf : CallF) (ops : Array Oper) (nt : Nat) : List Oper → Tr V → S → Option (List D × Tr V × S)
  | [], T, s => some ([], T, s)
  | o :: os, T, s =>
    let rd := o.looksAt ops
    match wantedV ops o (Tr.only rd T) s with
    | some (true, T2, s1) =>
      match feet s1.H T2 o.op with
      | (F, U) =>
        if U.all (fun i => F.contains i && decide (i < s1.H.n)) then
          match stepV P cf T2 o.op ⟨⟨part F U s1.H.tr, s1.H.n⟩, s1.hs, s1.cs⟩ with
          | some (v, s2) =>
            let up := U ++ List.range' s1.H.n (s2.H.n - s1.H.n)
            if decide (s1.H.n ≤ s2.H.n) && up.all (fun i => match s2.H.tr.get i with | some b => b.writable | none => true) then
              match putT nt (Tr.patch rd T2 T) o.dst v with
              | some T3 => match planOps P cf ops nt os T3 ⟨⟨Tr.patch up s2.H.tr s1.H.tr, s2.H.n⟩, s2.hs, s2.cs⟩ with
                | some (ds, T', s') => some (⟨o.dst, rd, F, up, s1.H.n, s2.H.n, v, s2.H.tr⟩ :: ds, T', s')
                | none => none
              | none => none
            else none
          | none => none
        else none
    | some (false, T2, s1) =>
      match putT nt (Tr.patch rd T2 T) o.dst (.tuple []) with
      | some T3 => match planOps P cf ops nt os T3 s1 with
        | some (ds, T', s') => some (⟨o.dst, rd, [], [], s1.H.n, s1.H.n, .tuple [], .nil⟩ :: ds, T', s')
        | none => none
      | none => none
    | none => none

def D.apart (x y : D) : Bool :=
  x.up.all (fun i => !y.F.contains i && !y.up.contains i) && y.up.all (fun i => !x.F.contains i) &&
  (match x.dst with | some t => !y.reads.contains t && y.dst != some t | none => true) &&
  (match y.dst with | some t => !x.reads.contains t | none => true)

/-- Those that come before, in each order: a row of bits. -/
def ancAt (M : Tr Nat) (k : Nat) : List Edge → Option Nat
  | [] => some 0
  | e :: es => match ancAt M k es with
    | some m => if Region.binds .any e then if e.on < k then some (m ||| 2 ^ e.on ||| (M.get e.on).getD 0) else none else some m
    | none => none

def okPairs : Nat → Tr Nat → List (Nat × D) → List Oper → List D → Bool
  | _, _, _, [], [] => true
  | k, M, pre, o :: os, d :: ds => match ancAt M k o.after.toList with
    | some m => pre.all (fun p => m.testBit p.1 || p.2.apart d) && okPairs (k + 1) (M.set k (some m)) ((k, d) :: pre) os ds
    | none => false
  | _, _, _, _, _ => false

def drawOps (P : Program) (cf : CallF) (ops : Array Oper) (nt : Nat) (T : Tr V) (s : S) : Option (Tr V × S) :=
  match planOps P cf ops nt ops.toList T s with
  | some (ds, T', s') => if okPairs 0 .nil [] ops.toList ds then some (T', s') else none
  | none => none

/-! ### What comes before -/

def Down (ops : Array Oper) (S : Nat → Bool) : Prop := ∀ (k : Nat) (o : Oper), ops[k]? = some o → S k = true → ∀ e ∈ o.after, Region.binds .any e = true → S e.on = true
def Open (ops : Array Oper) (S : Nat → Bool) (k : Nat) : Prop := ∃ o, ops[k]? = some o ∧ ∀ e ∈ o.after, Region.binds .any e = true → S e.on = true
def Before (ops : Array Oper) (j k : Nat) : Prop := ∀ S, Down ops S → Open ops S k → S j = true

theorem ancAt_ok {ops : Array Oper} {M : Tr Nat} (hM : ∀ i m j, M.get i = some m → m.testBit j = true → Before ops j i) {k : Nat} : ∀ (es : List Edge) (m : Nat), ancAt M k es = some m →
    (∀ e ∈ es, Region.binds .any e = true → e.on < k) ∧ ∀ j, m.testBit j = true → ∃ e ∈ es, Region.binds .any e = true ∧ (j = e.on ∨ Before ops j e.on)
  | [], m, h => by
    simp only [ancAt, Option.some.injEq] at h
    subst h
    exact ⟨by simp, by simp⟩
  | e :: es, m, h => by
    simp only [ancAt] at h
    split at h
    · rename_i m' hm'
      obtain ⟨h1, h2⟩ := ancAt_ok hM es m' hm'
      by_cases hb : Region.binds .any e = true
      · rw [if_pos hb] at h
        by_cases hk : e.on < k
        · rw [if_pos hk] at h
          simp only [Option.some.injEq] at h
          subst h
          refine ⟨fun e' he' hb' => ?_, fun j hj => ?_⟩
          · rcases List.mem_cons.1 he' with rfl | he'
            · exact hk
            · exact h1 e' he' hb'
          · simp only [Nat.testBit_or, Bool.or_eq_true, Nat.testBit_two_pow, decide_eq_true_eq] at hj
            rcases hj with (hj | hj) | hj
            · obtain ⟨e', he', hb', hj'⟩ := h2 j hj
              exact ⟨e', List.mem_cons_of_mem _ he', hb', hj'⟩
            · exact ⟨e, List.mem_cons_self .., hb, .inl hj.symm⟩
            · cases hg : M.get e.on with
              | none => rw [hg] at hj; simp at hj
              | some x => rw [hg] at hj; exact ⟨e, List.mem_cons_self .., hb, .inr (hM _ _ _ hg hj)⟩
        · rw [if_neg hk] at h; simp at h
      · rw [if_neg hb] at h
        simp only [Option.some.injEq] at h
        subst h
        refine ⟨fun e' he' hb' => ?_, fun j hj => ?_⟩
        · rcases List.mem_cons.1 he' with rfl | he'
          · exact absurd hb' hb
          · exact h1 e' he' hb'
        · obtain ⟨e', he', hb', hj'⟩ := h2 j hj
          exact ⟨e', List.mem_cons_of_mem _ he', hb', hj'⟩
    · simp at h

theorem okPairs_ok {ops : Array Oper} {dt : List D} : ∀ (os : List Oper) (ds : List D) (k : Nat) (M : Tr Nat) (pre : List (Nat × D)),
    (∀ j, os[j]? = ops[k + j]?) → (∀ j, ds[j]? = dt[k + j]?) → (∀ i m j, M.get i = some m → m.testBit j = true → Before ops j i) → (∀ j d, j < k → dt[j]? = some d → (j, d) ∈ pre) →
    okPairs k M pre os ds = true →
    (∀ i o, k ≤ i → ops[i]? = some o → ∀ e ∈ o.after, Region.binds .any e = true → e.on < i) ∧
    ∀ i j x y, k ≤ i → j < i → dt[j]? = some x → dt[i]? = some y → Before ops j i ∨ x.apart y = true
  | [], [], k, M, pre, ho, hd, _, _, _ => by
    refine ⟨fun i o hi hio => ?_, fun i j x y hi _ _ hy => ?_⟩
    · have := ho (i - k); rw [Nat.add_sub_cancel' hi, hio] at this; simp at this
    · have := hd (i - k); rw [Nat.add_sub_cancel' hi, hy] at this; simp at this
  | o :: os, d :: ds, k, M, pre, ho, hd, hM, hpre, h => by
    have ho0 : ops[k]? = some o := by have := ho 0; simpa using this.symm
    have hd0 : dt[k]? = some d := by have := hd 0; simpa using this.symm
    have ho' : ∀ j, os[j]? = ops[k + 1 + j]? := fun j => by have := ho (j + 1); rw [List.getElem?_cons_succ] at this; rw [this]; congr 1; omega
    have hd' : ∀ j, ds[j]? = dt[k + 1 + j]? := fun j => by have := hd (j + 1); rw [List.getElem?_cons_succ] at this; rw [this]; congr 1; omega
    simp only [okPairs] at h
    split at h
    · rename_i m hm
      simp only [Bool.and_eq_true, List.all_eq_true, Bool.or_eq_true] at h
      obtain ⟨h1, h2⟩ := ancAt_ok hM _ _ hm
      have hbef : ∀ j, m.testBit j = true → Before ops j k := by
        intro j hj S hS hO
        obtain ⟨e, he, hb, hje⟩ := h2 j hj
        obtain ⟨o', ho', hO⟩ := hO
        rw [ho0] at ho'
        simp only [Option.some.injEq] at ho'
        subst ho'
        have hS' := hO e (Array.mem_toList_iff.1 he) hb
        rcases hje with rfl | hje
        · exact hS'
        · refine hje S hS ?_
          cases hx : ops[e.on]? with
          | none =>
            have h3 := h1 e he hb
            have hlt : e.on < ops.size := by
              have := (Array.getElem?_eq_some_iff.1 ho0).1
              omega
            rw [Array.getElem?_eq_getElem hlt] at hx
            simp at hx
          | some ox => exact ⟨ox, hx, hS e.on ox hx hS'⟩
      obtain ⟨h3, h4⟩ := okPairs_ok os ds (k + 1) (M.set k (some m)) ((k, d) :: pre) ho' hd'
        (fun i m' j hi hj => by
          rw [Tr.get_set] at hi
          by_cases e : i = k
          · rw [if_pos e] at hi
            simp only [Option.some.injEq] at hi
            subst hi; subst e; exact hbef j hj
          · rw [if_neg e] at hi; exact hM _ _ _ hi hj)
        (fun j x hj hx => by
          by_cases e : j = k
          · subst e; rw [hd0] at hx; simp only [Option.some.injEq] at hx; subst hx; exact List.mem_cons_self ..
          · exact List.mem_cons_of_mem _ (hpre j x (by omega) hx)) h.2
      refine ⟨fun i o' hi hio => ?_, fun i j x y hi hj hx hy => ?_⟩
      · by_cases e : i = k
        · subst e
          rw [ho0] at hio
          simp only [Option.some.injEq] at hio
          subst hio
          exact fun e he => h1 e (Array.mem_toList_iff.2 he)
        · exact h3 i o' (by omega) hio
      · by_cases e : i = k
        · subst e
          rw [hd0] at hy
          simp only [Option.some.injEq] at hy
          subst hy
          rcases h.1 _ (hpre j x hj hx) with hb | hap
          · exact .inl (hbef j hb)
          · exact .inr hap
        · exact h4 i j x y (by omega) hj hx hy
    · simp at h
  | [], _ :: _, _, _, _, _, _, _, _, h => by simp [okPairs] at h
  | _ :: _, [], _, _, _, _, _, _, _, h => by simp [okPairs] at h

end Go.Ideal
