/- The ideal machine: maps over whole numbers; every operation under one name. Own text; nothing here is trusted. -/
import Derived.Test.YtbcadmnkilckbaaI11
namespace Go.Ideal
set_option linter.unusedSimpArgs false
set_option linter.unusedVariables false

/-! ### Maps -/

/-- Does the type's key lie in whole numbers? -/
def intMap (P : Program) (t : TypeId) : Option (TypeId × TypeId) :=
  match P.underlying t with
  | some (.map k e) => match P.underlying k with
    | some (.int _) => some (k, e)
    | _ => none
  | _ => none

theorem intMap_ok {P : Program} {t k e : TypeId} (h : intMap P t = some (k, e)) : P.underlying t = some (.map k e) ∧ ∃ kk, P.underlying k = some (.int kk) := by
  unfold intMap at h
  split at h
  · rename_i k' e' hu
    split at h
    · rename_i kk hk
      simp only [Option.some.injEq, Prod.mk.injEq] at h
      obtain ⟨rfl, rfl⟩ := h
      exact ⟨hu, kk, hk⟩
    · simp at h
  · simp at h

def makeMapV (H : Hp) (res : Option Operand) : Option (V × Hp × List Prop) :=
  match res with
  | none => some (.map H.n, H.push (.mp []), [])
  | some _ => none

theorem makeMapV_ok {P : Program} {w : World} {r : Rho} {H H' : Hp} {t : TypeId} {v : V} {cs : List Prop} (hH : HR r H w) (h : makeMapV H none = some (v, H', cs)) : Does P w r H (Instr.makeMap t none) v H' := by
  simp only [makeMapV, Option.some.injEq, Prod.mk.injEq] at h
  obtain ⟨rfl, rfl, rfl⟩ := h
  refine ⟨.map (some w.heap.size), w.alloc (.map #[] 0), r.push ⟨w.heap.size, 0, 0⟩, ?_, Ext.push hH _, ?_, ?_, Kept.alloc _ _ _, Mine.new hH _ _⟩
  · simp only [Instr.makeMap, newObj, Sem.run, Sem.run_bind, Sem.run_pure, Result.andThen_ok]; rfl
  · simp only [VR]; rw [hH.n, Rho.push_new]; exact ⟨Rho.push_ok _ _, rfl⟩
  · exact hH.push (S := fun _ => False) (Kept.alloc w _ _) (fun _ _ _ _ hh => hh) ⟨#[], 0, heap_alloc_new w _, rfl, fun j k v hj => by simp at hj⟩ rfl (fun i c hi hc => Nat.ne_of_lt (hH.lt hi hc))

def insertV (P : Program) (H : Hp) (t : TypeId) (m k v : V) : Option (Hp × List Prop) :=
  match intMap P t, m, k with
  | some _, .map b, .int .i64 (.c n) => match H.tr.get b with
    | some (.mp es) => if es.all fun e => e.1 != n then some (H.put b (some (.mp (es ++ [(n, v)]))), []) else none
    | _ => none
  | _, _, _ => none

/-- The entries of the model's map are the ideal ones. -/
def MapR (r : Rho) (ms : List MapEntry) (es : List (Int × V)) : Prop :=
  ms.length = es.length ∧ ∀ (j : Nat) (k : Int) (v : V), es[j]? = some (k, v) → ∃ m, ms[j]? = some m ∧ m.key = .int .i64 k ∧ VR r v m.val

theorem findNow_none {r : Rho} {kk : IntKind} {n : Int} : ∀ (ms : List MapEntry) (es : List (Int × V)) (i : Nat), MapR r ms es → (es.all fun e => e.1 != n) = true → Instr.findNow (.int kk) (.int .i64 n) ms i = some none
  | [], es, i, _, _ => rfl
  | m :: ms, [], i, h, _ => by simp [MapR] at h
  | m :: ms, (k, v) :: es, i, h, hall => by
    simp only [List.all_cons, Bool.and_eq_true, bne_iff_ne] at hall
    obtain ⟨m', hm, hk, _⟩ := h.2 0 k v rfl
    simp only [List.getElem?_cons_zero, Option.some.injEq] at hm
    subst hm
    have ih := findNow_none (kk := kk) (n := n) ms es (i + 1) ⟨by simpa using h.1, fun j k v hj => h.2 (j + 1) k v (by simpa using hj)⟩ hall.2
    have hne : (n == k) = false := beq_eq_false_iff_ne.2 fun e => hall.1 e.symm
    simp only [Instr.findNow, Instr.sameNow, hk, if_true, hne]
    exact ih

theorem findNow_some {r : Rho} {kk : IntKind} {n : Int} {v : V} : ∀ (ms : List MapEntry) (es : List (Int × V)) (i : Nat), MapR r ms es → (es.find? fun e => e.1 == n) = some (n, v) → ∃ j y, Instr.findNow (.int kk) (.int .i64 n) ms i = some (some (j, y)) ∧ VR r v y
  | ms, [], i, _, hf => by simp at hf
  | [], e :: es, i, h, _ => by simp [MapR] at h
  | m :: ms, (k, u) :: es, i, h, hf => by
    obtain ⟨m', hm, hk, hv⟩ := h.2 0 k u rfl
    simp only [List.getElem?_cons_zero, Option.some.injEq] at hm
    subst hm
    by_cases e : k = n
    · subst e
      simp only [List.find?_cons, beq_self_eq_true, Option.some.injEq, Prod.mk.injEq, true_and] at hf
      subst hf
      exact ⟨i, _, by simp [Instr.findNow, Instr.sameNow, hk], hv⟩
    · have h1 : (k == n) = false := beq_eq_false_iff_ne.2 e
      simp only [List.find?_cons, h1] at hf
      obtain ⟨j, y, hj, hy⟩ := findNow_some (kk := kk) ms es (i + 1) ⟨by simpa using h.1, fun j k v hj => h.2 (j + 1) k v (by simpa using hj)⟩ hf
      have h2 : (n == k) = false := beq_eq_false_iff_ne.2 fun e2 => e e2.symm
      exact ⟨j, y, by simp [Instr.findNow, Instr.sameNow, hk, h2, hj], hy⟩

theorem BR.mapR {r : Rho} {w : World} {p : Pl} {es : List (Int × V)} (h : BR r w p (.mp es)) : ∃ (ms : Array MapEntry) (clock : Nat), w.heap[p.blk]? = some (.map ms clock) ∧ MapR r ms.toList es := by
  obtain ⟨ms, cl, hm, hl, he⟩ := h
  refine ⟨ms, cl, hm, by simpa using hl, fun j k v hj => ?_⟩
  obtain ⟨m, y, h1, h2, h3, h4⟩ := he j k v hj
  exact ⟨m, by simpa using h1, h2, by rw [h3]; exact h4⟩

theorem run_checkKey_int {P : Program} {w : World} {k : TypeId} {kk : IntKind} (hk : P.underlying k = some (.int kk)) (b : Bool) (n : Int) : (Instr.checkKey b 10000 k (.int .i64 n)).run P w = .ok () w := by
  have key : ∀ d, (Instr.checkKey b (d + 1) k (.int .i64 n)).run P w = .ok () w := fun d => by simp [Instr.checkKey, run_underlying hk]
  exact key 9999

theorem insertV_ok {P : Program} {w : World} {r : Rho} {H H' : Hp} {t : TypeId} {m k v : V} {M K Y : Value} {cs : List Prop} (hH : HR r H w) (h : insertV P H t m k v = some (H', cs)) (hm : VR r m M) (hk : VR r k K) (hv : VR r v Y) :
    ∃ w', (Instr.mapUpdate t M K Y).run P w = .ok () w' ∧ HR r H' w' ∧ Kept (Mine r H) w w' ∧ (∀ k, k < w.heap.size → Mine r H' k → Mine r H k) := by
  unfold insertV at h
  split at h
  · rename_i kt b n hmap
    split at h
    · rename_i es hg
      split at h
      · rename_i hall
        simp only [Option.some.injEq, Prod.mk.injEq] at h
        obtain ⟨rfl, rfl⟩ := h
        obtain ⟨hu, kk, hkk⟩ := intMap_ok (k := kt.1) (e := kt.2) hmap
        simp only [VR, E.val] at hm hk
        obtain ⟨hb, rfl⟩ := hm
        subst hk
        have hB := hH.live b _ hg
        obtain ⟨ms, cl, hms, hR⟩ := hB.mapR
        obtain ⟨_, _, hms', hsz, hent⟩ := hB
        rw [hms] at hms'
        simp only [Option.some.injEq, Obj.map.injEq] at hms'
        obtain ⟨rfl, rfl⟩ := hms'
        have hlt : (r.pl b).blk < w.heap.size := (Array.getElem?_eq_some_iff.1 hms).1
        have hfind := findNow_none (kk := kk) ms.toList es 0 hR hall
        refine ⟨{ w with heap := w.heap.setIfInBounds (r.pl b).blk (.map (ms.push { key := .int .i64 n, val := Y, born := cl }) (cl + 1)) }, ?_, ?_, ?_, fun _ _ h => Mine.putOwn hg rfl h⟩
        · have hget : (getObj (r.pl b).blk).run P w = .ok (.map ms cl) w := by simp [getObj, Sem.run, hms]
          simp only [Instr.mapUpdate, Sem.run_bind, run_underlying hu, Result.andThen_ok, hget, run_checkKey_int hkk, Instr.findKey, run_underlying hkk, hfind, Sem.run_pure]
          simp [setObj, Sem.run, hms]
        · refine hH.put hg rfl trivial ⟨rfl, rfl, rfl, by simp, fun k hk hne => by simp [Array.getElem?_setIfInBounds_ne (fun e => hne e.symm)]⟩ ?_
          refine ⟨ms.push { key := .int .i64 n, val := Y, born := cl }, cl + 1, by simp [hlt], by simp [hsz], fun j k u hj => ?_⟩
          rcases Nat.lt_or_ge j es.length with hjl | hjl
          · rw [List.getElem?_append_left hjl] at hj
            obtain ⟨q, y, h1, h2, h3, h4⟩ := hent j k u hj
            have hjm : j < ms.size := by omega
            exact ⟨q, y, by rw [Array.getElem?_push, if_neg (by omega)]; exact h1, h2, h3, h4⟩
          · rw [List.getElem?_append_right hjl] at hj
            have hj0 : j - es.length = 0 := by
              rcases Nat.eq_zero_or_pos (j - es.length) with h0 | h0
              · exact h0
              · obtain ⟨q, hq⟩ : ∃ q, j - es.length = q + 1 := ⟨j - es.length - 1, by omega⟩
                rw [hq] at hj; simp at hj
            rw [hj0] at hj
            simp only [List.getElem?_cons_zero, Option.some.injEq, Prod.mk.injEq] at hj
            obtain ⟨rfl, rfl⟩ := hj
            exact ⟨{ key := .int .i64 n, val := Y, born := cl }, Y, by rw [Array.getElem?_push, if_pos (by omega)], rfl, rfl, hv⟩
        · exact ⟨rfl, rfl, rfl, by simp, fun k hk hne => by
            have : k ≠ (r.pl b).blk := fun e => hne (e ▸ Mine.of hg rfl)
            simp [Array.getElem?_setIfInBounds_ne (fun e => this e.symm)]⟩
      · simp at h
    · simp at h
  · simp at h

def lookupV (P : Program) (H : Hp) (t : TypeId) (m k : V) (ok : Bool) : Ans :=
  match intMap P t, m, k with
  | some _, .map b, .int .i64 (.c n) => match H.tr.get b with
    | some (.mp es) => match es.find? fun e => e.1 == n with
      | some (_, v) => some (if ok then .tuple [v, .bool (.c true)] else v, [])
      | none => none
    | _ => none
  | _, _, _ => none

theorem lookupV_ok {P : Program} {w : World} {r : Rho} {H : Hp} {t : TypeId} {m k v : V} {M K : Value} {ok : Bool} {cs : List Prop} (hH : HR r H w) (h : lookupV P H t m k ok = some (v, cs)) (hm : VR r m M) (hk : VR r k K) :
    Gives P w r (Instr.lookup t M K ok) v := by
  unfold lookupV at h
  split at h
  · rename_i kt b n hmap
    split at h
    · rename_i es hg
      split at h
      · rename_i n' u hfind
        simp only [Option.some.injEq, Prod.mk.injEq] at h
        obtain ⟨rfl, rfl⟩ := h
        have hn : n' = n := by
          have := List.find?_some hfind
          simpa using this
        subst hn
        obtain ⟨hu, kk, hkk⟩ := intMap_ok (k := kt.1) (e := kt.2) hmap
        simp only [VR, E.val] at hm hk
        obtain ⟨hb, rfl⟩ := hm
        subst hk
        obtain ⟨ms, cl, hms, hR⟩ := (hH.live b _ hg).mapR
        obtain ⟨j, y, hj, hy⟩ := findNow_some (kk := kk) ms.toList es 0 hR hfind
        have hget : (getObj (r.pl b).blk).run P w = .ok (.map ms cl) w := by simp [getObj, Sem.run, hms]
        cases ok
        · refine ⟨y, ?_, hy⟩
          simp only [Instr.lookup, Sem.run_bind, run_underlying hu, Result.andThen_ok, hget, Sem.run_pure, run_checkKey_int hkk, Instr.findKey, run_underlying hkk, hj]
          rfl
        · refine ⟨.tuple #[y, .bool true], ?_, ?_⟩
          · simp only [Instr.lookup, Sem.run_bind, run_underlying hu, Result.andThen_ok, hget, Sem.run_pure, run_checkKey_int hkk, Instr.findKey, run_underlying hkk, hj]
            rfl
          · simp only [if_true, VR, VRs]
            exact ⟨[y, .bool true], rfl, y, [.bool true], rfl, hy, .bool true, [], rfl, rfl, rfl⟩
      · simp at h
    · simp at h
  · simp at h

/-! ### All operations -/

/-- What an operation comes to: a value and the memory behind it, or a call. -/
inductive Res where
  | val (v : V) (H : Hp) : Res
  | call (f : FuncId) (args : List V) : Res

/-- A function that is entered as the text says. -/
def okFn (P : Program) (g : FuncId) : Bool :=
  match P.funcs[g]? with
  | some fn => fn.name != "runtime.NumGoroutine" && fn.body.isSome
  | none => false

theorem run_callFunc {P : Program} {w : World} {g : FuncId} (h : okFn P g = true) (args : Array Value) : (callFunc g args).run P w = .ok (.enter g args) w := by
  unfold okFn at h
  split at h
  · rename_i fn hf
    simp only [Bool.and_eq_true, bne_iff_ne] at h
    have hb : ¬ fn.body = none := by intro e; rw [e] at h; simp at h
    simp [callFunc, hf, h.1, hb]
  · simp at h

def methodV (P : Program) (x : V) (name : String) : Option (FuncId × V) :=
  match x with
  | .iface t v => match P.info? t with
    | some i => match i.methods.find? (fun m => m.name == name) with
      | some m => match m.func, m.path.toList, P.underlying t with
        | some (f, true), [], some (.pointer _) => some (f, v)
        | some (f, false), [], some (.pointer _) => none
        | some (f, false), [], some _ => some (f, v)
        | _, _, _ => none
      | none => none
    | none => none
  | _ => none

theorem methodV_ok {P : Program} {w : World} {r : Rho} {x v : V} {X : Value} {f : FuncId} {name : String} (h : methodV P x name = some (f, v)) (hx : VR r x X) :
    ∃ t y, X = .iface t y ∧ VR r v y ∧ ∀ d, (method (d + 1) t y name).run P w = .ok (f, y) w := by
  unfold methodV at h
  split at h
  · rename_i t u
    simp only [VR] at hx
    obtain ⟨z, rfl, hz⟩ := hx
    split at h
    · rename_i i hi
      split at h
      · rename_i m hm
        have hti : (typeInfo t).run P w = .ok i w := by simp [typeInfo, hi]
        split at h
        · rename_i g e hf hp hu
          simp only [Option.some.injEq, Prod.mk.injEq] at h
          obtain ⟨rfl, rfl⟩ := h
          refine ⟨t, z, rfl, hz, fun d => ?_⟩
          have hpe : m.path = #[] := by simpa using hp
          simp [method, hti, hm, hpe, follow, hf, receiverAt, run_underlying hu, Place.get]
        · simp at h
        · rename_i g dd hnp hf hp hu
          simp only [Option.some.injEq, Prod.mk.injEq] at h
          obtain ⟨rfl, rfl⟩ := h
          refine ⟨t, z, rfl, hz, fun d => ?_⟩
          have hpe : m.path = #[] := by simpa using hp
          cases dd <;> first | exact absurd rfl (hnp _) | simp [method, hti, hm, hpe, follow, hf, receiverAt, run_underlying hu, Place.get]
        · simp at h
      · simp at h
    · simp at h
  · simp at h

def args (T : Tr V) (xs : Array Operand) : List V := xs.toList.map (ev T)
theorem args_ok {r : Rho} {nt : Nat} {T : Tr V} {a : Act} (h : AR r nt T a) (xs : Array Operand) : VRs r (args T xs) (xs.map a.eval).toList := by
  rw [Array.toList_map]
  unfold args
  induction xs.toList with
  | nil => simp [VRs]
  | cons x xs ih =>
    simp only [List.map_cons, VRs]
    exact ⟨_, _, rfl, ev_ok h x, ih⟩

def parts (T : Tr V) (ps : Array (Nat × Operand)) : List (Nat × V) := ps.toList.map fun p => (p.1, ev T p.2)
theorem parts_ok {r : Rho} {nt : Nat} {T : Tr V} {a : Act} (h : AR r nt T a) (ps : Array (Nat × Operand)) : VRps r (parts T ps) (ps.map fun (i, x) => (i, a.eval x)).toList := by
  rw [Array.toList_map]
  unfold parts
  induction ps.toList with
  | nil => simp [VRps]
  | cons p ps ih =>
    obtain ⟨i, x⟩ := p
    simp only [List.map_cons, VRps]
    exact ⟨_, _, rfl, ev_ok h x, ih⟩

def rd (H : Hp) (x : Ans) : Option (Res × List Prop) :=
  match x with
  | some (v, cs) => some (.val v H, cs)
  | none => none
def wr (x : Option (V × Hp × List Prop)) : Option (Res × List Prop) :=
  match x with
  | some (v, H, cs) => some (.val v H, cs)
  | none => none
def st (x : Option (Hp × List Prop)) : Option (Res × List Prop) :=
  match x with
  | some (H, cs) => some (.val (.tuple []) H, cs)
  | none => none

def sameOperand : Operand → Operand → Bool
  | .tmp a, .tmp b => a == b
  | .const (.int k a), .const (.int l b) => k == l && a == b
  | _, _ => false

def builtinV (P : Program) (T : Tr V) (H : Hp) (b : Builtin) (xs : Array Operand) (ats : Array TypeId) : Option (Res × List Prop) :=
  match b, xs.toList, ats.toList with
  | .len, [x], [t] => rd H (lenV P t (ev T x))
  | .max, _, _ => rd H (maxV (args T xs))
  | .min, _, _ => rd H (minV (args T xs))
  | .append, [s, x], [t, u] => if t == u then wr (appendV P H t (ev T s) (ev T x)) else none
  | _, _, _ => none

def opV (P : Program) (T : Tr V) (H : Hp) (op : Op) : Option (Res × List Prop) :=
  match op with
  | .move x => some (.val (ev T x) H, [])
  | .assign x => some (.val (ev T x) H, [])
  | .pick c a b => rd H (pickV (ev T c) (ev T a) (ev T b))
  | .alloc t => wr (allocV P H t)
  | .box t x => wr (boxV H t (ev T x))
  | .build t ps => rd H (buildV P t (parts T ps))
  | .buildSlice t n ps => wr (buildSliceV P H t n (parts T ps))
  | .load t x => rd H (loadV P H t (ev T x))
  | .store t x y => st (storeV P H t (ev T x) (ev T y))
  | .nilCheck x => rd H (nilV (ev T x))
  | .binOp o t x y _ => rd H (binV P o t (isConst x) (isConst y) (ev T x) (ev T y))
  | .unOp o _ x => rd H (unV o (ev T x))
  | .convert s d x => rd H (convV P s d (ev T x))
  | .makeInterface t x => rd H (ifaceV P t (ev T x))
  | .makeFunc fn a b => some (.val (.func fn (args T a) (args T b)) H, [])
  | .makeMap _ x => wr (makeMapV H x)
  | .makeSlice t l c => wr (makeSliceV P H t (sameOperand l c) (ev T l))
  | .slice t x lo hi mx => rd H (sliceV P H t (ev T x) (lo.map (ev T)) (hi.map (ev T)) (mx.map (ev T)))
  | .fieldAddr t x f => rd H (fieldAddrV P t (ev T x) f)
  | .field t x f => rd H (fieldV P t (ev T x) f)
  | .indexAddr t x i => rd H (indexAddrV P t (ev T x) (ev T i))
  | .index t x i => rd H (indexV P t (ev T x) (ev T i))
  | .lookup t x i ok => rd H (lookupV P H t (ev T x) (ev T i) ok)
  | .insert t m k x => st (insertV P H t (ev T m) (ev T k) (ev T x))
  | .mapUpdate t m k x => st (insertV P H t (ev T m) (ev T k) (ev T x))
  | .typeAssert x _ t ok => rd H (assertV P (ev T x) t ok)
  | .extract x i => rd H (extractV (ev T x) i)
  | .call { callee := .builtin b, args := xs, argTypes := ats } => builtinV P T H b xs ats
  | .call { callee := .value f, args := xs, argTypes := _ } => match ev T f with
    | .func (.func g) first captured => if okFn P g then some (.call g (first ++ args T xs ++ captured), []) else none
    | _ => none
  | .call { callee := .invoke x name, args := xs, argTypes := _ } => match methodV P (ev T x) name with
    | some (g, v) => if okFn P g then some (.call g (v :: args T xs), []) else none
    | none => none
  | _ => none

/-- What an operation does, in the model. -/
inductive OpDoes (P : Program) (w : World) (r : Rho) (H : Hp) (s : Sem Next) : Res → Prop where
  | val {v : V} {H' : Hp} (nx : Next) (y : Value) (w' : World) (r' : Rho) (run : s.run P w = .ok nx w') (nxt : nx = .value y ∨ (nx = .skip ∧ y = undef)) (ext : Ext r r') (vr : VR r' v y) (hr : HR r' H' w') (kept : Kept (Mine r H) w w') (mine : ∀ k, k < w.heap.size → Mine r' H' k → Mine r H k) :
      OpDoes P w r H s (.val v H')
  | call {f : FuncId} {xs : List V} (ys : Array Value) (run : s.run P w = .ok (.enter f ys) w) (vrs : VRs r xs ys.toList) : OpDoes P w r H s (.call f xs)

theorem OpDoes.rd {P : Program} {w : World} {r : Rho} {H : Hp} {s : Sem Value} {v : V} (hH : HR r H w) (h : Gives P w r s v) : OpDoes P w r H (do pure (.value (← s))) (.val v H) := by
  obtain ⟨y, hr, hv⟩ := h
  exact .val (.value y) y w r (by simp [hr]) (.inl rfl) (Ext.refl _) hv hH (Kept.refl _ _) (fun _ _ h => h)
theorem OpDoes.wr {P : Program} {w : World} {r : Rho} {H H' : Hp} {s : Sem Value} {v : V} (h : Does P w r H s v H') : OpDoes P w r H (do pure (.value (← s))) (.val v H') := by
  obtain ⟨y, w', r', hr, he, hv, hh, hk, hm⟩ := h.out
  exact .val (.value y) y w' r' (by simp [hr]) (.inl rfl) he hv hh hk hm
theorem OpDoes.st {P : Program} {w : World} {r : Rho} {H H' : Hp} {s : Sem Unit} (h : ∃ w', s.run P w = .ok () w' ∧ HR r H' w' ∧ Kept (Mine r H) w w' ∧ (∀ k, k < w.heap.size → Mine r H' k → Mine r H k)) : OpDoes P w r H (do s; pure .skip) (.val (.tuple []) H') := by
  obtain ⟨w', hr, hh, hk, hm⟩ := h
  exact .val .skip undef w' r (by simp [hr]) (.inr ⟨rfl, rfl⟩) (Ext.refl _) (by simp only [VR, VRs]; exact ⟨[], rfl, rfl⟩) hh hk hm

theorem opt_ok {r : Rho} {nt : Nat} {T : Tr V} {a : Act} (h : AR r nt T a) (x : Option Operand) : VRo r (x.map (ev T)) (x.map a.eval) := by
  cases x with
  | none => simp [VRo]
  | some x => simp only [Option.map_some, VRo]; exact ⟨_, rfl, ev_ok h x⟩

theorem nilV_ok {P : Program} {w : World} {r : Rho} {H : Hp} {x v : V} {X : Value} {cs : List Prop} {o : Oper} {y : Operand} {ρ : Operand → Value} (hH : HR r H w) (ho : o.op = .nilCheck y) (hρ : ρ y = X) (h : nilV x = some (v, cs)) (hx : VR r x X) :
    OpDoes P w r H (execOp ρ o) (.val v H) := by
  have key : execOp ρ o = (pure (.value X) : Sem Next) ∧ v = x := by
    unfold nilV at h
    obtain ⟨dst, op, type, pos, after, guard⟩ := o
    simp only at ho
    subst ho
    subst hρ
    split at h <;> simp only [Option.some.injEq, Prod.mk.injEq, reduceCtorEq] at h <;> obtain ⟨rfl, _⟩ := h <;> simp only [VR] at hx
    · obtain ⟨_, hx⟩ := hx; simp [execOp, hx]
    · obtain ⟨z, hx, _⟩ := hx; simp [execOp, hx]
    · obtain ⟨ys, zs, hx, _⟩ := hx; simp [execOp, hx]
    · obtain ⟨ys, zs, hx, _⟩ := hx; simp [execOp, hx]
  rw [key.1, key.2]
  exact .val (.value X) X w r rfl (.inl rfl) (Ext.refl _) hx hH (Kept.refl _ _) (fun _ _ h => h)

end Go.Ideal
