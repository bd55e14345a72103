/- The ideal machine: loads, assertions, parts, conversions, literals; all reading operations under one name. Own text; nothing here is trusted. -/
import Derived.Test.YtbcadmnkilckbaaI6
import Derived.Laws.Tables
import Derived.WalkSpells
namespace Go.Ideal
set_option linter.unusedSimpArgs false
set_option linter.unusedVariables false

/-! ### Loads -/

def loadV (P : Program) (H : Hp) (t : TypeId) (x : V) : Ans :=
  match x with
  | .ptr b o => match H.tr.get b, aggT P t with
    | some bl, some true => match sizeT P t with
      | some n => match bl.cells o n with
        | some (vs, cs) => some (.agg vs, cs)
        | none => none
      | none => none
    | some bl, some false => bl.cell o
    | _, _ => none
  | _ => none

theorem run_loadCells_V {P : Program} {w : World} (a : Addr) (n : Nat) (ys : List Value) (hl : ys.length = n) (h : ∀ (j : Nat) (y : Value), ys[j]? = some y → w.cell? (a.add j) = some y) :
    (loadCells a n).run P w = .ok ys.toArray w := by
  subst hl; exact run_loadCells_list w a ys h

theorem loadV_ok {P : Program} {w : World} {r : Rho} {H : Hp} {t : TypeId} {x v : V} {X : Value} {cs : List Prop} (hH : HR r H w) (h : loadV P H t x = some (v, cs)) (hcs : ∀ q, q ∈ cs → q) (hx : VR r x X) :
    Gives P w r (Instr.loadAt t X) v := by
  unfold loadV at h
  split at h
  · rename_i b o
    simp only [VR] at hx
    obtain ⟨hb, rfl⟩ := hx
    split at h
    · rename_i bl hg ha
      have hB := hH.live b bl hg
      split at h
      · rename_i n hs
        split at h
        · rename_i vs ds hcells
          simp only [Option.some.injEq, Prod.mk.injEq] at h
          obtain ⟨rfl, rfl⟩ := h
          obtain ⟨hl, ys, hvs, hys⟩ := hB.cells n o vs ds hcells hcs
          refine ⟨.agg ys.toArray, ?_, by simp only [VR]; exact ⟨ys, rfl, hvs⟩⟩
          have hlen := VRs.length vs ys hvs
          simp only [Instr.loadAt, Instr.sureAddr, loadVar, Sem.run_bind, Sem.run_pure, Result.andThen_ok, run_isAgg ha, if_true, run_sizeT hs]
          rw [run_loadCells_V _ n ys (hlen.trans hl) (fun j y hj => by rw [addr_add]; exact hys j y hj)]
          rfl
        · simp at h
      · simp at h
    · rename_i bl hg ha
      have hB := hH.live b bl hg
      obtain ⟨y, hy, hv⟩ := hB.cell h hcs
      refine ⟨y, ?_, hv⟩
      simp only [Instr.loadAt, Instr.sureAddr, loadVar, Sem.run_bind, Sem.run_pure, Result.andThen_ok, run_isAgg ha, Bool.false_eq_true, if_false, run_load, hy]
    · simp at h
  · simp at h

/-! ### Nil, assertions, parts -/

def nilV (x : V) : Ans :=
  match x with
  | .ptr b o => some (.ptr b o, [])
  | .iface t v => some (.iface t v, [])
  | .func (.func f) first captured => some (.func (.func f) first captured, [])
  | .func (.via t p f q) first captured => some (.func (.via t p f q) first captured, [])
  | _ => none

def zeroT (P : Program) (t : TypeId) : Option V := ((P.info? t).bind (·.zero)).bind ofValue
theorem run_zeroT {P : Program} {w : World} {t : TypeId} {v : V} {r : Rho} (h : zeroT P t = some v) : Gives P w r (zeroValue t) v := by
  unfold zeroT at h
  cases hi : P.info? t with
  | none => rw [hi] at h; simp at h
  | some i =>
    rw [hi] at h
    simp only [Option.bind_some] at h
    cases hz : i.zero with
    | none => rw [hz] at h; simp at h
    | some z =>
      rw [hz] at h
      simp only [Option.bind_some] at h
      exact ⟨z, by simp [zeroValue, typeInfo, hi, hz], ofValue_ok h⟩

def plainT (P : Program) (t : TypeId) : Bool :=
  match P.underlying t with
  | some (.interface _) => false
  | some _ => true
  | none => false

def assertV (P : Program) (x : V) (asserted : TypeId) (ok : Bool) : Ans :=
  if plainT P asserted then
    match x with
    | .iface t v =>
      if t = asserted then some (if ok then .tuple [v, .bool (.c true)] else v, [])
      else if ok then (zeroT P asserted).map fun z => (.tuple [z, .bool (.c false)], []) else none
    | .nili => if ok then (zeroT P asserted).map fun z => (.tuple [z, .bool (.c false)], []) else none
    | _ => none
  else none

theorem assertV_ok {P : Program} {w : World} {r : Rho} {x v : V} {X : Value} {xt t : TypeId} {ok : Bool} {cs : List Prop} (h : assertV P x t ok = some (v, cs)) (hx : VR r x X) :
    Gives P w r (Instr.typeAssert X xt t ok) v := by
  unfold assertV at h
  split at h
  · rename_i hp
    obtain ⟨d, hu, hni⟩ : ∃ d, P.underlying t = some d ∧ ∀ ms, d ≠ .interface ms := by
      unfold plainT at hp
      split at hp
      · simp at hp
      · rename_i d hne hd
        exact ⟨d, hd, fun ms e => hne ms (by rw [e])⟩
      · simp at hp
    have fails : ∀ (X : Value) z, (X = .nilIface ∨ ∃ u y, X = .iface u y ∧ u ≠ t) → ok = true → zeroT P t = some z → Gives P w r (Instr.typeAssert X xt t ok) (.tuple [z, .bool (.c false)]) := by
      intro X z hX hok hz
      obtain ⟨Z, hZ, hv⟩ := run_zeroT (P := P) (w := w) (r := r) hz
      refine ⟨.tuple #[Z, .bool false], ?_, ?_⟩
      · rcases hX with rfl | ⟨u, y, rfl, hne⟩
        · cases d <;> first | exact absurd rfl (hni _) | simp [Instr.typeAssert, run_underlying hu, hok, hZ]
        · cases d <;> first | exact absurd rfl (hni _) | simp [Instr.typeAssert, run_underlying hu, hok, hZ, hne]
      · simp only [VR, VRs]
        exact ⟨[Z, .bool false], rfl, Z, [.bool false], rfl, hv, .bool false, [], rfl, rfl, rfl⟩
    split at h
    · rename_i u x'
      simp only [VR] at hx
      obtain ⟨X', rfl, hX'⟩ := hx
      split at h
      · rename_i he
        subst he
        simp only [Option.some.injEq, Prod.mk.injEq] at h
        obtain ⟨rfl, rfl⟩ := h
        cases ok
        · exact ⟨X', by cases d <;> first | exact absurd rfl (hni _) | simp [Instr.typeAssert, run_underlying hu], hX'⟩
        · refine ⟨.tuple #[X', .bool true], by cases d <;> first | exact absurd rfl (hni _) | simp [Instr.typeAssert, run_underlying hu], ?_⟩
          simp only [if_true, VR, VRs]
          exact ⟨[X', .bool true], rfl, X', [.bool true], rfl, hX', .bool true, [], rfl, rfl, rfl⟩
      · rename_i hne
        split at h
        · rename_i hok
          simp only [Option.map_eq_some_iff, Prod.mk.injEq] at h
          obtain ⟨z, hz, rfl, rfl⟩ := h
          exact fails _ z (.inr ⟨u, X', rfl, hne⟩) hok hz
        · simp at h
    · simp only [VR] at hx
      subst hx
      split at h
      · rename_i hok
        simp only [Option.map_eq_some_iff, Prod.mk.injEq] at h
        obtain ⟨z, hz, rfl, rfl⟩ := h
        exact fails _ z (.inl rfl) hok hz
      · simp at h
    · simp at h
  · simp at h

def extractV (x : V) (i : Nat) : Ans :=
  match x with
  | .tuple vs => match vs[i]? with
    | some v => some (v, [])
    | none => none
  | _ => none
theorem extractV_ok {P : Program} {w : World} {r : Rho} {x v : V} {X : Value} {i : Nat} {cs : List Prop} (h : extractV x i = some (v, cs)) (hx : VR r x X) : Gives P w r (Instr.extract X i) v := by
  unfold extractV at h
  split at h
  · rename_i vs
    split at h
    · rename_i u hu
      simp only [Option.some.injEq, Prod.mk.injEq] at h
      obtain ⟨rfl, rfl⟩ := h
      simp only [VR] at hx
      obtain ⟨ys, rfl, hys⟩ := hx
      obtain ⟨y, hy, hv⟩ := VRs.get vs ys hys i u hu
      exact ⟨y, by simp [Instr.extract, hy], hv⟩
    · simp at h
  · simp at h

def fieldV (P : Program) (t : TypeId) (x : V) (f : Nat) : Ans :=
  match x, P.underlying t with
  | .agg cs, some (.struct fs) => match fs[f]? with
    | some fd => (partV P fd.type cs fd.offset).map fun v => (v, [])
    | none => none
  | _, _ => none
theorem fieldV_ok {P : Program} {w : World} {r : Rho} {t : TypeId} {x v : V} {X : Value} {f : Nat} {cs : List Prop} (h : fieldV P t x f = some (v, cs)) (hx : VR r x X) : Gives P w r (Instr.field t X f) v := by
  unfold fieldV at h
  split at h
  · rename_i ws fs hu
    split at h
    · rename_i fd hfd
      simp only [Option.map_eq_some_iff, Prod.mk.injEq] at h
      obtain ⟨u, hp, rfl, rfl⟩ := h
      simp only [VR] at hx
      obtain ⟨ys, rfl, hys⟩ := hx
      obtain ⟨y, hy, hv⟩ := partV_ok (P := P) (w := w) hp hys
      exact ⟨y, by simp [Instr.field, run_underlying hu, hfd, asAgg, hy], hv⟩
    · simp at h
  · simp at h

def indexV (P : Program) (t : TypeId) (x i : V) : Ans :=
  match P.underlying t, x, i with
  | some (.array n e), .agg cs, .int _ (.c j) => match sizeT P e with
    | some sz => if 0 ≤ j ∧ j < (n : Int) then (partV P e cs (j.toNat * sz)).map fun v => (v, []) else none
    | none => none
  | some .string, .str kn s, .int _ j => match idxLt j (if kn then .c s.size else .s s.size) with
    | some (.c m, ds) => some (.int .u8 (if kn then .c ((s[m]?).getD 0).toNat else .s ((s[m]?).getD 0).toNat), ds)
    | some (.s m, ds) => some (.int .u8 (.s ((s[m]?).getD 0).toNat), ds)
    | none => none
  | _, _, _ => none
theorem indexV_ok {P : Program} {w : World} {r : Rho} {t : TypeId} {x i v : V} {X I : Value} {cs : List Prop} (h : indexV P t x i = some (v, cs)) (hcs : ∀ q, q ∈ cs → q) (hx : VR r x X) (hi : VR r i I) :
    Gives P w r (Instr.index t X I) v := by
  unfold indexV at h
  split at h
  · rename_i n e ws k j hu
    split at h
    · rename_i sz hs
      split at h
      · rename_i hb
        simp only [Option.map_eq_some_iff, Prod.mk.injEq] at h
        obtain ⟨u, hp, rfl, rfl⟩ := h
        simp only [VR, E.val] at hx hi
        obtain ⟨ys, rfl, hys⟩ := hx
        subst hi
        obtain ⟨y, hy, hv⟩ := partV_ok (P := P) (w := w) hp hys
        refine ⟨y, ?_, hv⟩
        simp [Instr.index, asIntOf, run_underlying hu, hb.1, hb.2, run_sizeT hs, hy]
      · simp at h
    · simp at h
  · rename_i kn s k j hu
    have hn : (if kn then (N.c s.size) else N.s s.size).val = s.size := by cases kn <;> rfl
    simp only [VR] at hx hi
    subst hx; subst hi
    have fin : ∀ m ds e, idxLt j (if kn then (N.c s.size) else N.s s.size) = some (m, ds) → (∀ q, q ∈ ds → q) → e.val = (((s[m.val]?).getD 0).toNat : Int) →
        Gives P w r (Instr.index t (.string s) (.int k j.val)) (.int .u8 e) := by
      intro m ds e hm hds he
      obtain ⟨h0, h1, h2⟩ := idxLt_ok hm hds
      rw [hn] at h1
      have hlt : j.val.toNat < s.size := by omega
      refine .int ?_
      rw [he, h2]
      simp [Instr.index, asIntOf, run_underlying hu, h0, hlt]
    split at h
    · rename_i m ds hm
      simp only [Option.some.injEq, Prod.mk.injEq] at h
      obtain ⟨rfl, rfl⟩ := h
      exact fin _ _ _ hm hcs (by cases kn <;> rfl)
    · rename_i m ds hm
      simp only [Option.some.injEq, Prod.mk.injEq] at h
      obtain ⟨rfl, rfl⟩ := h
      exact fin _ _ _ hm hcs rfl
    · simp at h
  · simp at h

def ifaceV (P : Program) (t : TypeId) (x : V) : Ans := if plainT P t then some (.iface t x, []) else none
theorem ifaceV_ok {P : Program} {w : World} {r : Rho} {t : TypeId} {x v : V} {X : Value} {cs : List Prop} (h : ifaceV P t x = some (v, cs)) (hx : VR r x X) : Gives P w r (Instr.makeInterface t X) v := by
  unfold ifaceV at h
  split at h
  · rename_i hp
    simp only [Option.some.injEq, Prod.mk.injEq] at h
    obtain ⟨rfl, rfl⟩ := h
    refine ⟨.iface t X, ?_, by simp only [VR]; exact ⟨X, rfl, hx⟩⟩
    unfold plainT at hp
    split at hp
    · simp at hp
    · rename_i d hne hd
      cases d <;> first | exact absurd rfl (hne _) | simp [Instr.makeInterface, run_underlying hd]
    · simp at hp
  · simp at h

def convV (P : Program) (src dst : TypeId) (x : V) : Ans :=
  match x, P.underlying src, P.underlying dst with
  | .int _ e, some _, some (.int k) => some (.int k (E.op1 k.wrap e), [])
  | .str kn s, some .string, some .string => some (.str kn s, [])
  | _, _, _ => none
theorem convV_ok {P : Program} {w : World} {r : Rho} {src dst : TypeId} {x v : V} {X : Value} {cs : List Prop} (h : convV P src dst x = some (v, cs)) (hx : VR r x X) : Gives P w r (convert src dst X) v := by
  unfold convV at h
  split at h
  · rename_i k0 e d k hs hd
    simp only [Option.some.injEq, Prod.mk.injEq] at h
    obtain ⟨rfl, rfl⟩ := h
    simp only [VR] at hx
    subst hx
    have hk : P.intKind dst = k := by simp [Program.intKind, hd]
    refine .int ?_
    rw [run_convert_int w src dst k0 e.val (by rw [hs]; rfl) (by rw [hk]; exact hd), hk, E.op1_val]
  · rename_i kn s hs hd
    simp only [Option.some.injEq, Prod.mk.injEq] at h
    obtain ⟨rfl, rfl⟩ := h
    simp only [VR] at hx
    subst hx
    exact ⟨.string s, by simp [convert, run_underlying hs, run_underlying hd], by simp only [VR]⟩
  · simp at h

/-! ### Builtins that read -/

def lenV (P : Program) (t : TypeId) (x : V) : Ans :=
  match P.underlying t, x with
  | some (.slice _), .slice _ _ len _ _ => some (.int .i64 len.toE, [])
  | some (.slice _), .nils => some (.int .i64 (.c 0), [])
  | some .string, .str kn s => some (.int .i64 (if kn then .c (s.size : Int) else .s (s.size : Int)), [])
  | some (.array n _), x => match x with
    | .any => none
    | _ => some (.int .i64 (.c (n : Int)), [])
  | _, _ => none
theorem lenV_ok {P : Program} {w : World} {r : Rho} {t ty : TypeId} {ats : Array TypeId} {args : Array Value} {x v : V} {X : Value} {cs : List Prop} (ht : ats[0]? = some t) (ha : args[0]? = some X)
    (h : lenV P t x = some (v, cs)) (hx : VR r x X) : Gives P w r (Builtin.len_ ats ty args) v := by
  unfold lenV at h
  split at h
  · rename_i e b o len sz mc hu
    simp only [Option.some.injEq, Prod.mk.injEq] at h
    obtain ⟨rfl, rfl⟩ := h
    simp only [VR] at hx
    obtain ⟨_, a, c, rfl, _⟩ := hx
    exact .int (by simp [Builtin.len_, ht, ha, run_underlying hu, goInt, N.toE_val])
  · rename_i e hu
    simp only [Option.some.injEq, Prod.mk.injEq] at h
    obtain ⟨rfl, rfl⟩ := h
    simp only [VR] at hx
    subst hx
    exact .int (by simp [Builtin.len_, ht, ha, run_underlying hu, goInt, E.val])
  · rename_i kn s hu
    simp only [Option.some.injEq, Prod.mk.injEq] at h
    obtain ⟨rfl, rfl⟩ := h
    simp only [VR] at hx
    subst hx
    refine .int ?_
    cases kn <;> simp [Builtin.len_, ht, ha, run_underlying hu, goInt, E.val]
  · rename_i n e hu
    split at h
    · simp at h
    · simp only [Option.some.injEq, Prod.mk.injEq] at h
      obtain ⟨rfl, rfl⟩ := h
      exact .int (by simp [Builtin.len_, ht, ha, run_underlying hu, goInt, E.val])
  · simp at h

def imax (a b : Int) : Int := if b > a then b else a
def imin (a b : Int) : Int := if b < a then b else a
def foldIV (f : Int → Int → Int) (k : IntKind) : E → List V → Option E
  | e, [] => some e
  | e, .int k' e' :: vs => if k = k' then foldIV f k (E.op2 f e e') vs else none
  | _, _ :: _ => none
def maxV (xs : List V) : Ans :=
  match xs with
  | .int k e :: vs => (foldIV imax k e vs).map fun e => (.int k e, [])
  | _ => none
def minV (xs : List V) : Ans :=
  match xs with
  | .int k e :: vs => (foldIV imin k e vs).map fun e => (.int k e, [])
  | _ => none
theorem foldIV_ok {P : Program} {w : World} {r : Rho} {k : IntKind} {f : Int → Int → Int} {g : Value → Value → Sem Value} (hg : ∀ a b, g (.int k a) (.int k b) = pure (.int k (f a b))) : ∀ (vs : List V) (ys : List Value) (e e' : E),
    foldIV f k e vs = some e' → VRs r vs ys → (ys.foldlM g (.int k e.val)).run P w = .ok (.int k e'.val) w
  | [], ys, e, e', h, hv => by
    simp only [foldIV, Option.some.injEq] at h
    simp only [VRs] at hv
    subst h; subst hv
    simp
  | v :: vs, ys, e, e', h, hv => by
    simp only [VRs] at hv
    obtain ⟨z, zs, rfl, h1, h2⟩ := hv
    cases v <;> simp only [foldIV, reduceCtorEq] at h
    rename_i k' e2
    split at h
    · rename_i hk
      subst hk
      simp only [VR] at h1
      subst h1
      have := foldIV_ok (P := P) (w := w) hg vs zs _ e' h h2
      rw [E.op2_val] at this
      simp only [List.foldlM_cons, hg, Sem.run_bind, Sem.run_pure, Result.andThen_ok]
      exact this
    · simp at h
theorem maxV_ok {P : Program} {w : World} {r : Rho} {xs : List V} {ats : Array TypeId} {ty : TypeId} {args : Array Value} {v : V} {cs : List Prop} (h : maxV xs = some (v, cs)) (hx : VRs r xs args.toList) :
    Gives P w r (Builtin.max_ ats ty args) v := by
  unfold maxV at h
  split at h
  · rename_i k e vs
    simp only [Option.map_eq_some_iff, Prod.mk.injEq] at h
    obtain ⟨e', he, rfl, rfl⟩ := h
    simp only [VRs] at hx
    obtain ⟨z, zs, hz, h1, h2⟩ := hx
    simp only [VR] at h1
    subst h1
    refine .int ?_
    simp only [Builtin.max_, hz]
    exact foldIV_ok (fun a b => by simp [Builtin.max2, imax]) vs zs e e' he h2
  · simp at h
theorem minV_ok {P : Program} {w : World} {r : Rho} {xs : List V} {ats : Array TypeId} {ty : TypeId} {args : Array Value} {v : V} {cs : List Prop} (h : minV xs = some (v, cs)) (hx : VRs r xs args.toList) :
    Gives P w r (Builtin.min_ ats ty args) v := by
  unfold minV at h
  split at h
  · rename_i k e vs
    simp only [Option.map_eq_some_iff, Prod.mk.injEq] at h
    obtain ⟨e', he, rfl, rfl⟩ := h
    simp only [VRs] at hx
    obtain ⟨z, zs, hz, h1, h2⟩ := hx
    simp only [VR] at h1
    subst h1
    refine .int ?_
    simp only [Builtin.min_, hz]
    exact foldIV_ok (fun a b => by simp [Builtin.min2, imin]) vs zs e e' he h2
  · simp at h

/-! ### Literals of structs and arrays -/

def setAll {α : Type} (cs : List α) (off : Nat) : List α → List α
  | [] => cs
  | v :: vs => setAll (cs.set off v) (off + 1) vs
theorem setAll_length {α : Type} : ∀ (vs : List α) (cs : List α) (off : Nat), (setAll cs off vs).length = cs.length
  | [], _, _ => rfl
  | v :: vs, cs, off => by rw [setAll, setAll_length vs, List.length_set]
theorem VRs.setAll {r : Rho} : ∀ (vs : List V) (ys : List Value) (cs : List V) (zs : List Value) (off : Nat), VRs r vs ys → VRs r cs zs → VRs r (Ideal.setAll cs off vs) (Ideal.setAll zs off ys)
  | [], ys, cs, zs, off, h, k => by simp only [VRs] at h; subst h; exact k
  | v :: vs, ys, cs, zs, off, h, k => by
    simp only [VRs] at h
    obtain ⟨y, ys', rfl, h1, h2⟩ := h
    exact VRs.setAll vs ys' _ _ (off + 1) h2 (VRs.set cs zs off v y k h1)
theorem foldl_setAll (off : Nat) : ∀ (l : List Value) (j : Nat) (cells : Array Value),
    ((l.zipIdx j).foldl (fun cs (p : Value × Nat) => cs.setIfInBounds (off + p.2) p.1) cells).toList = setAll cells.toList (off + j) l
  | [], j, cells => rfl
  | v :: l, j, cells => by
    simp only [List.zipIdx_cons, List.foldl_cons, setAll]
    rw [foldl_setAll off l (j + 1)]
    simp [Nat.add_assoc]

def V.fits : V → Bool
  | .agg _ => true
  | v => v.one

def fillV (place : Nat → Option (Nat × Nat)) (cells : List V) : List (Nat × V) → Option (List V)
  | [] => some cells
  | (i, v) :: rest => match place i with
    | none => none
    | some (off, size) => if v.fits && v.cells.length == size && decide (off + v.cells.length ≤ cells.length) then fillV place (setAll cells off v.cells) rest else none

/-- The parts of a literal, as they are and as the model has them. -/
def VRps (r : Rho) : List (Nat × V) → List (Nat × Value) → Prop
  | [], ps => ps = []
  | (i, v) :: vs, ps => ∃ y ys, ps = (i, y) :: ys ∧ VR r v y ∧ VRps r vs ys

theorem fillV_ok {r : Rho} {place : Nat → Option (Nat × Nat)} : ∀ (parts : List (Nat × V)) (ps : List (Nat × Value)) (cells out : List V) (ys : Array Value), fillV place cells parts = some out → VRps r parts ps →
    VRs r cells ys.toList → ∃ zs : Array Value, Instr.fill place ys ps = some zs ∧ VRs r out zs.toList
  | [], ps, cells, out, ys, h, hp, hc => by
    simp only [fillV, Option.some.injEq] at h
    simp only [VRps] at hp
    subst h; subst hp
    exact ⟨ys, rfl, hc⟩
  | (i, v) :: parts, ps, cells, out, ys, h, hp, hc => by
    simp only [VRps] at hp
    obtain ⟨y, ys', rfl, hv, hps⟩ := hp
    simp only [fillV] at h
    split at h
    · simp at h
    · rename_i off size hpl
      split at h
      · rename_i hcond
        simp only [Bool.and_eq_true, beq_iff_eq, decide_eq_true_eq] at hcond
        obtain ⟨⟨hfit, hsz⟩, hle⟩ := hcond
        have hvc := VR.cells hv (by cases v <;> first | exact .inr ⟨_, rfl⟩ | exact .inl hfit)
        have hl1 := VRs.length _ _ hvc
        have hl2 := VRs.length _ _ hc
        have hl3 : y.cells.size = v.cells.length := by simpa using hl1
        have hl4 : ys.size = cells.length := by simpa using hl2
        have key : (y.cells.zipIdx.foldl (fun cs (p : Value × Nat) => cs.setIfInBounds (off + p.2) p.1) ys).toList = setAll ys.toList off y.cells.toList := by
          rw [← Array.foldl_toList, Array.toList_zipIdx]
          exact foldl_setAll off y.cells.toList 0 ys
        obtain ⟨zs, hz, hzs⟩ := fillV_ok parts ys' _ out (y.cells.zipIdx.foldl (fun cs (p : Value × Nat) => cs.setIfInBounds (off + p.2) p.1) ys) h hps (by rw [key]; exact VRs.setAll _ _ _ _ off hvc hc)
        refine ⟨zs, ?_, hzs⟩
        simp only [Instr.fill, hpl]
        rw [if_neg (by simp; omega)]
        exact hz
      · simp at h

def placesOf (P : Program) (t : TypeId) : Option (Nat → Option (Nat × Nat)) :=
  match P.underlying t with
  | some (.array _ e) => match sizeT P e with
    | some n => some fun i => some (i * n, n)
    | none => none
  | some (.struct fs) => match fs.toList.mapM (fun f => (P.info? f.type).map fun i => (f.offset, i.size)) with
    | some ps => some fun i => ps[i]?
    | none => none
  | _ => none

def buildV (P : Program) (t : TypeId) (parts : List (Nat × V)) : Ans :=
  match placesOf P t, zeroT P t with
  | some pl, some z => match z with
    | .agg cells => (fillV pl cells parts).map fun cs => (.agg cs, [])
    | _ => none
  | _, _ => none

theorem buildV_ok {P : Program} {w : World} {r : Rho} {t : TypeId} {parts : List (Nat × V)} {ps : Array (Nat × Value)} {v : V} {cs : List Prop} (h : buildV P t parts = some (v, cs)) (hp : VRps r parts ps.toList) :
    Gives P w r (Instr.build t ps) v := by
  unfold buildV at h
  split at h
  · rename_i pl z hpl hz
    split at h
    · rename_i cells
      simp only [Option.map_eq_some_iff, Prod.mk.injEq] at h
      obtain ⟨out, hfill, rfl, rfl⟩ := h
      unfold zeroT at hz
      cases hi : P.info? t with
      | none => rw [hi] at hz; simp at hz
      | some it =>
        rw [hi] at hz
        simp only [Option.bind_some] at hz
        cases hzz : it.zero with
        | none => rw [hzz] at hz; simp at hz
        | some Z =>
          rw [hzz] at hz
          simp only [Option.bind_some] at hz
          have hzr := ofValue_ok (r := r) hz
          simp only [VR] at hzr
          obtain ⟨zs, rfl, hzs⟩ := hzr
          obtain ⟨os, ho, hos⟩ := fillV_ok parts ps.toList cells out zs.toArray hfill hp (by simpa using hzs)
          refine ⟨.agg os, run_build w t ps os ?_, by simp only [VR]; exact ⟨os.toList, by simp, hos⟩⟩
          unfold placesOf at hpl
          unfold Program.built
          split at hpl
          · rename_i n e hu
            cases hie : P.info? e with
            | none => simp [sizeT, hie] at hpl
            | some ie =>
              simp only [sizeT, hie, Option.map_some, Option.some.injEq] at hpl
              subst hpl
              simp only [hi, hu, hzz, hie]
              exact ho
          · rename_i fs hu
            split at hpl
            · rename_i places hps
              simp only [Option.some.injEq] at hpl
              subst hpl
              simp only [hi, hu, hzz, hps]
              simpa [Value.cells] using ho
            · simp at hpl
          · simp at hpl
    · simp at h
  · simp at h

end Go.Ideal
