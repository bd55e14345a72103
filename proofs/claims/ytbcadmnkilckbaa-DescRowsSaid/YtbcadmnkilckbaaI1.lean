/- An ideal machine beside the model: its values and its memory, and what it means that a world of the model holds them. Own text; nothing here is trusted. -/
import Derived.WalkKit
import Derived.KernelRfl
namespace Go.Ideal

/-! ### Tries over numbers -/

/-- A trie of things by number. -/
inductive Tr (α : Type) where
  | nil : Tr α
  | node (l : Tr α) (v : Option α) (r : Tr α) : Tr α

def Tr.get {α : Type} : Tr α → Nat → Option α
  | .nil, _ => none
  | .node l v r, n => match n with
    | 0 => v
    | k + 1 => match k % 2 with
      | 0 => l.get (k / 2)
      | _ => r.get (k / 2)

def Tr.setF {α : Type} : Nat → Tr α → Nat → Option α → Tr α
  | 0, t, _, _ => t
  | f + 1, t, n, a =>
    match t, n with
    | .nil, 0 => .node .nil a .nil
    | .nil, k + 1 => match k % 2 with
      | 0 => .node (Tr.setF f .nil (k / 2) a) none .nil
      | _ => .node .nil none (Tr.setF f .nil (k / 2) a)
    | .node l _ r, 0 => .node l a r
    | .node l v r, k + 1 => match k % 2 with
      | 0 => .node (Tr.setF f l (k / 2) a) v r
      | _ => .node l v (Tr.setF f r (k / 2) a)

/-- One place is set (or struck, by none). -/
def Tr.set {α : Type} (t : Tr α) (n : Nat) (a : Option α) : Tr α := Tr.setF (n + 1) t n a

theorem Tr.get_nil {α : Type} (n : Nat) : (Tr.nil : Tr α).get n = none := by unfold Tr.get; rfl

theorem Tr.get_setF {α : Type} : ∀ (f : Nat) (t : Tr α) (n : Nat) (a : Option α) (m : Nat), n < f → (Tr.setF f t n a).get m = if m = n then a else t.get m
  | 0, _, _, _, _, h => absurd h (Nat.not_lt_zero _)
  | f + 1, t, n, a, m, h => by
    have ih := fun (t : Tr α) (n m : Nat) (h : n < f) => Tr.get_setF f t n a m h
    have step : ∀ (l : Tr α) (v : Option α) (r : Tr α) (k : Nat), k + 1 < f + 1 →
        ((match k % 2 with
          | 0 => .node (Tr.setF f l (k / 2) a) v r
          | _ => .node l v (Tr.setF f r (k / 2) a)) : Tr α).get m = if m = k + 1 then a else (Tr.node l v r).get m := by
      intro l v r k hk
      have hd : k / 2 < f := by omega
      rcases m with _ | j
      · rw [if_neg (by omega)]
        rcases Nat.mod_two_eq_zero_or_one k with e | e <;> simp only [e, Tr.get]
      · rcases Nat.mod_two_eq_zero_or_one k with e | e <;> rcases Nat.mod_two_eq_zero_or_one j with e' | e' <;> simp only [e, Tr.get, e']
        · rw [ih l (k / 2) (j / 2) hd]
          by_cases hjk : j = k
          · subst hjk; simp
          · rw [if_neg (by omega), if_neg (by omega)]
        · rw [if_neg (by omega)]
        · rw [if_neg (by omega)]
        · rw [ih r (k / 2) (j / 2) hd]
          by_cases hjk : j = k
          · subst hjk; simp
          · rw [if_neg (by omega), if_neg (by omega)]
    have hnil : ∀ m, ((Tr.node .nil none .nil : Tr α)).get m = (Tr.nil : Tr α).get m := by
      intro m
      rw [Tr.get_nil]
      rcases m with _ | j
      · simp only [Tr.get]
      · rcases Nat.mod_two_eq_zero_or_one j with e' | e' <;> simp only [Tr.get, e']
    rcases t with _ | ⟨l, v, r⟩
    · rcases n with _ | k
      · rcases m with _ | j
        · simp only [Tr.setF, Tr.get, if_true]
        · rw [if_neg (by omega)]
          rcases Nat.mod_two_eq_zero_or_one j with e' | e' <;> simp only [Tr.setF, Tr.get, e']
      · have := step .nil none .nil k h
        rw [hnil] at this
        simpa only [Tr.setF] using this
    · rcases n with _ | k
      · rcases m with _ | j
        · simp only [Tr.setF, Tr.get, if_true]
        · rw [if_neg (by omega)]
          rcases Nat.mod_two_eq_zero_or_one j with e' | e' <;> simp only [Tr.setF, Tr.get, e']
      · simpa only [Tr.setF] using step l v r k h

theorem Tr.get_set {α : Type} (t : Tr α) (n : Nat) (a : Option α) (m : Nat) : (t.set n a).get m = if m = n then a else t.get m :=
  Tr.get_setF _ t n a m (Nat.lt_succ_self n)
theorem Tr.get_set_same {α : Type} (t : Tr α) (n : Nat) (a : Option α) : (t.set n a).get n = a := by rw [Tr.get_set, if_pos rfl]
theorem Tr.get_set_ne {α : Type} (t : Tr α) (n : Nat) (a : Option α) (m : Nat) (h : m ≠ n) : (t.set n a).get m = t.get m := by rw [Tr.get_set, if_neg h]

def Tr.ofListFrom {α : Type} : Nat → List α → Tr α → Tr α
  | _, [], t => t
  | i, a :: as, t => Tr.ofListFrom (i + 1) as (t.set i (some a))
/-- A row of things, numbered from 0 on. -/
def Tr.ofList {α : Type} (as : List α) : Tr α := Tr.ofListFrom 0 as .nil

theorem Tr.get_ofListFrom {α : Type} : ∀ (as : List α) (i : Nat) (t : Tr α) (m : Nat),
    (Tr.ofListFrom i as t).get m = if i ≤ m ∧ m < i + as.length then as[m - i]? else t.get m
  | [], i, t, m => by
    rw [if_neg (by intro h; have h2 := h.2; simp only [List.length_nil, Nat.add_zero] at h2; omega)]; rfl
  | a :: as, i, t, m => by
    rw [Tr.ofListFrom, Tr.get_ofListFrom as (i + 1)]
    by_cases h : i + 1 ≤ m ∧ m < i + 1 + as.length
    · rw [if_pos h, if_pos (by simp; omega)]
      have : m - i = (m - (i + 1)) + 1 := by omega
      rw [this, List.getElem?_cons_succ]
    · rw [if_neg h, Tr.get_set]
      by_cases e : m = i
      · subst e; simp
      · rw [if_neg e, if_neg (by simp; omega)]
theorem Tr.get_ofList {α : Type} (as : List α) (m : Nat) : (Tr.ofList as).get m = as[m]? := by
  rw [Tr.ofList, Tr.get_ofListFrom]
  by_cases h : m < as.length
  · rw [if_pos (by omega)]; simp
  · rw [if_neg (by omega), Tr.get_nil]; rw [List.getElem?_eq_none (by omega)]

/-! ### Values -/

/-- A whole number: known (c), or a term that is not looked into (s). -/
inductive E where
  | c (n : Int) : E
  | s (n : Int) : E
def E.val : E → Int
  | .c n => n
  | .s n => n
/-- A bool. -/
inductive B where
  | c (b : Bool) : B
  | s (b : Bool) : B
def B.val : B → Bool
  | .c b => b
  | .s b => b
/-- A count, or a place. -/
inductive N where
  | c (n : Nat) : N
  | s (n : Nat) : N
def N.val : N → Nat
  | .c n => n
  | .s n => n

/-- The values: addresses are numbers of blocks of the ideal memory. -/
inductive V where
  | any : V
  | bool (b : B) : V
  | int (k : IntKind) (e : E) : V
  | str (known : Bool) (s : ByteArray) : V
  | nilp : V
  | ptr (b : Nat) (o : N) : V
  | nils : V
  | slice (b : Nat) (o len : N) (sz : Nat) (mc : N) : V
  | nilm : V
  | map (b : Nat) : V
  | nilf : V
  | func (fn : Fn) (first captured : List V) : V
  | nili : V
  | iface (t : TypeId) (v : V) : V
  | agg (cs : List V) : V
  | tuple (vs : List V) : V

/-! Values worked out at once (the kernel would put it off). -/
def Nat.forced {α : Type} (n : Nat) (k : Nat → α) : α := match n with
  | 0 => k 0
  | n + 1 => k (n + 1)
def E.force {α : Type} (e : E) (k : E → α) : α := match e with
  | .c n => match n with
    | .ofNat m => Nat.forced m fun m => k (.c (.ofNat m))
    | .negSucc m => Nat.forced m fun m => k (.c (.negSucc m))
  | .s n => k (.s n)
def B.force {α : Type} (b : B) (k : B → α) : α := match b with
  | .c b => match b with
    | true => k (.c true)
    | false => k (.c false)
  | .s b => k (.s b)
def N.force {α : Type} (n : N) (k : N → α) : α := match n with
  | .c n => Nat.forced n fun n => k (.c n)
  | .s n => k (.s n)
theorem Nat.forced_eq {α : Type} (n : Nat) (k : Nat → α) : Nat.forced n k = k n := by cases n <;> rfl
theorem E.force_eq {α : Type} (e : E) (k : E → α) : e.force k = k e := by
  cases e with
  | c n => cases n <;> simp only [E.force, Nat.forced_eq]
  | s n => rfl
theorem B.force_eq {α : Type} (b : B) (k : B → α) : b.force k = k b := by
  cases b with
  | c b => cases b <;> rfl
  | s b => rfl
theorem N.force_eq {α : Type} (n : N) (k : N → α) : n.force k = k n := by
  cases n with
  | c n => simp only [N.force, Nat.forced_eq]
  | s n => rfl
mutual
def V.force {α : Type} : V → (V → α) → α
  | .any, k => k .any
  | .bool b, k => b.force fun b => k (.bool b)
  | .int kd e, k => e.force fun e => k (.int kd e)
  | .str kn s, k => k (.str kn s)
  | .nilp, k => k .nilp
  | .ptr b o, k => Nat.forced b fun b => o.force fun o => k (.ptr b o)
  | .nils, k => k .nils
  | .slice b o len sz mc, k => Nat.forced b fun b => o.force fun o => len.force fun len => Nat.forced sz fun sz => mc.force fun mc => k (.slice b o len sz mc)
  | .nilm, k => k .nilm
  | .map b, k => Nat.forced b fun b => k (.map b)
  | .nilf, k => k .nilf
  | .func fn xs ys, k => V.forceL xs fun xs => V.forceL ys fun ys => k (.func fn xs ys)
  | .nili, k => k .nili
  | .iface t v, k => V.force v fun v => k (.iface t v)
  | .agg vs, k => V.forceL vs fun vs => k (.agg vs)
  | .tuple vs, k => V.forceL vs fun vs => k (.tuple vs)
def V.forceL {α : Type} : List V → (List V → α) → α
  | [], k => k []
  | v :: vs, k => V.force v fun v => V.forceL vs fun vs => k (v :: vs)
end
mutual
theorem V.force_eq {α : Type} : ∀ (v : V) (k : V → α), v.force k = k v
  | .any, _ => by simp only [V.force]
  | .bool _, _ => by simp only [V.force, B.force_eq]
  | .int _ _, _ => by simp only [V.force, E.force_eq]
  | .str _ _, _ => by simp only [V.force]
  | .nilp, _ => by simp only [V.force]
  | .ptr _ _, _ => by simp only [V.force, Nat.forced_eq, N.force_eq]
  | .nils, _ => by simp only [V.force]
  | .slice _ _ _ _ _, _ => by simp only [V.force, Nat.forced_eq, N.force_eq]
  | .nilm, _ => by simp only [V.force]
  | .map _, _ => by simp only [V.force, Nat.forced_eq]
  | .nilf, _ => by simp only [V.force]
  | .func _ xs ys, k => by simp only [V.force, V.forceL_eq xs, V.forceL_eq ys]
  | .nili, _ => by simp only [V.force]
  | .iface _ v, _ => by simp only [V.force, V.force_eq v]
  | .agg vs, _ => by simp only [V.force, V.forceL_eq vs]
  | .tuple vs, _ => by simp only [V.force, V.forceL_eq vs]
theorem V.forceL_eq {α : Type} : ∀ (vs : List V) (k : List V → α), V.forceL vs k = k vs
  | [], _ => by simp only [V.forceL]
  | v :: vs, k => by simp only [V.forceL, V.force_eq v, V.forceL_eq vs]
end

/-- Where a block lies: the model's block, the cell with which it begins there, how many cells there are from the block's head on. -/
structure Pl where
  blk : Nat
  sh : Nat
  cap : Nat

/-- Where the blocks lie that there are (ok), n: the next number. -/
structure Rho where
  pl : Nat → Pl
  ok : Nat → Prop
  n : Nat

mutual
/-- The model's value 'y' is the ideal value. -/
def VR (r : Rho) : V → Value → Prop
  | .any, _ => True
  | .bool b, y => y = .bool b.val
  | .int k e, y => y = .int k e.val
  | .str _ s, y => y = .string s
  | .nilp, y => y = .pointer none
  | .ptr b o, y => r.ok b ∧ y = .pointer (some ⟨(r.pl b).blk, (r.pl b).sh + o.val, none⟩)
  | .nils, y => y = .slice none 0 0
  | .slice b o len sz mc, y => r.ok b ∧ ∃ (a : Option Addr) (cap : Nat), y = .slice a len.val cap ∧ len.val ≤ cap ∧ mc.val ≤ cap ∧
      ((a = some ⟨(r.pl b).blk, (r.pl b).sh + o.val, none⟩ ∧ o.val + cap * sz ≤ (r.pl b).cap) ∨ cap = 0)
  | .nilm, y => y = .map none
  | .map b, y => r.ok b ∧ y = .map (some (r.pl b).blk)
  | .nilf, y => y = .nilFunc
  | .func fn first captured, y => ∃ ys zs : List Value, y = .func fn ys.toArray zs.toArray ∧ VRs r first ys ∧ VRs r captured zs
  | .nili, y => y = .nilIface
  | .iface t v, y => ∃ z, y = .iface t z ∧ VR r v z
  | .agg cs, y => ∃ ys : List Value, y = .agg ys.toArray ∧ VRs r cs ys
  | .tuple vs, y => ∃ ys : List Value, y = .tuple ys.toArray ∧ VRs r vs ys
def VRs (r : Rho) : List V → List Value → Prop
  | [], ys => ys = []
  | v :: vs, ys => ∃ z zs, ys = z :: zs ∧ VR r v z ∧ VRs r vs zs
end

/-- What lay there lies there still (that is all that values ask). -/
structure Sub (r r' : Rho) : Prop where
  ok : ∀ i, r.ok i → r'.ok i
  pl : ∀ i, r.ok i → r'.pl i = r.pl i

mutual
theorem VR.sub {r r' : Rho} (h : Sub r r') : ∀ (v : V) (y : Value), VR r v y → VR r' v y
  | .any, _, _ => by simp only [VR]
  | .bool _, _, hv => by simp only [VR] at hv ⊢; exact hv
  | .int _ _, _, hv => by simp only [VR] at hv ⊢; exact hv
  | .str _ _, _, hv => by simp only [VR] at hv ⊢; exact hv
  | .nilp, _, hv => by simp only [VR] at hv ⊢; exact hv
  | .ptr b o, _, hv => by simp only [VR] at hv ⊢; rw [h.pl b hv.1]; exact ⟨h.ok b hv.1, hv.2⟩
  | .nils, _, hv => by simp only [VR] at hv ⊢; exact hv
  | .slice b o len sz mc, _, hv => by simp only [VR] at hv ⊢; rw [h.pl b hv.1]; exact ⟨h.ok b hv.1, hv.2⟩
  | .nilm, _, hv => by simp only [VR] at hv ⊢; exact hv
  | .map b, _, hv => by simp only [VR] at hv ⊢; rw [h.pl b hv.1]; exact ⟨h.ok b hv.1, hv.2⟩
  | .nilf, _, hv => by simp only [VR] at hv ⊢; exact hv
  | .func fn first captured, _, hv => by
    simp only [VR] at hv ⊢
    obtain ⟨ys, zs, e, h1, h2⟩ := hv
    exact ⟨ys, zs, e, VRs.sub h first ys h1, VRs.sub h captured zs h2⟩
  | .nili, _, hv => by simp only [VR] at hv ⊢; exact hv
  | .iface t v, _, hv => by
    simp only [VR] at hv ⊢
    obtain ⟨z, e, h1⟩ := hv
    exact ⟨z, e, VR.sub h v z h1⟩
  | .agg cs, _, hv => by
    simp only [VR] at hv ⊢
    obtain ⟨ys, e, h1⟩ := hv
    exact ⟨ys, e, VRs.sub h cs ys h1⟩
  | .tuple cs, _, hv => by
    simp only [VR] at hv ⊢
    obtain ⟨ys, e, h1⟩ := hv
    exact ⟨ys, e, VRs.sub h cs ys h1⟩
theorem VRs.sub {r r' : Rho} (h : Sub r r') : ∀ (vs : List V) (ys : List Value), VRs r vs ys → VRs r' vs ys
  | [], _, hv => by simp only [VRs] at hv ⊢; exact hv
  | v :: vs, _, hv => by
    simp only [VRs] at hv ⊢
    obtain ⟨z, zs, e, h1, h2⟩ := hv
    exact ⟨z, zs, e, VR.sub h v z h1, VRs.sub h vs zs h2⟩
end

/-- Later on the blocks lie where they lay; there may be more. -/
structure Ext (r r' : Rho) : Prop where
  n : r.n ≤ r'.n
  ok : ∀ i, r.ok i → r'.ok i
  pl : ∀ i, r.ok i → r'.pl i = r.pl i
  old : ∀ i, r'.ok i → r.ok i ∨ r.n ≤ i

theorem Ext.refl (r : Rho) : Ext r r := ⟨Nat.le_refl _, fun _ h => h, fun _ _ => rfl, fun _ h => .inl h⟩
theorem Ext.trans {a b c : Rho} (h : Ext a b) (k : Ext b c) : Ext a c :=
  ⟨Nat.le_trans h.n k.n, fun i hi => k.ok i (h.ok i hi), fun i hi => (k.pl i (h.ok i hi)).trans (h.pl i hi), fun i hi =>
    (k.old i hi).elim (fun hb => h.old i hb) (fun hb => .inr (Nat.le_trans h.n hb))⟩

theorem Ext.sub {r r' : Rho} (h : Ext r r') : Sub r r' := ⟨h.ok, h.pl⟩
theorem VR.ext {r r' : Rho} (h : Ext r r') (v : V) (y : Value) (hv : VR r v y) : VR r' v y := VR.sub h.sub v y hv
theorem VRs.ext {r r' : Rho} (h : Ext r r') (vs : List V) (ys : List Value) (hv : VRs r vs ys) : VRs r' vs ys := VRs.sub h.sub vs ys hv

theorem VRs.length {r : Rho} : ∀ (vs : List V) (ys : List Value), VRs r vs ys → ys.length = vs.length
  | [], _, h => by simp only [VRs] at h; subst h; rfl
  | _ :: vs, _, h => by
    simp only [VRs] at h
    obtain ⟨z, zs, rfl, _, h2⟩ := h
    simp [VRs.length vs zs h2]
theorem VRs.get {r : Rho} : ∀ (vs : List V) (ys : List Value), VRs r vs ys → ∀ (i : Nat) (v : V), vs[i]? = some v → ∃ y, ys[i]? = some y ∧ VR r v y
  | [], _, _, _, _, hi => by simp at hi
  | x :: vs, _, h, i, v, hi => by
    simp only [VRs] at h
    obtain ⟨z, zs, rfl, h1, h2⟩ := h
    rcases i with _ | i
    · simp only [List.getElem?_cons_zero, Option.some.injEq] at hi
      subst hi; exact ⟨z, by simp, h1⟩
    · simp only [List.getElem?_cons_succ] at hi ⊢
      exact VRs.get vs zs h2 i v hi
theorem VRs.append {r : Rho} : ∀ (vs us : List V) (ys zs : List Value), VRs r vs ys → VRs r us zs → VRs r (vs ++ us) (ys ++ zs)
  | [], _, _, _, h, k => by simp only [VRs] at h; subst h; exact k
  | v :: vs, us, _, zs, h, k => by
    simp only [VRs] at h
    obtain ⟨z, ys', rfl, h1, h2⟩ := h
    simp only [List.cons_append, VRs]
    exact ⟨z, ys' ++ zs, rfl, h1, VRs.append vs us ys' zs h2 k⟩
theorem VRs.mk {r : Rho} : ∀ (vs : List V) (ys : List Value), ys.length = vs.length → (∀ (i : Nat) (v : V), vs[i]? = some v → ∃ y, ys[i]? = some y ∧ VR r v y) → VRs r vs ys
  | [], ys, hl, _ => by simp only [VRs]; exact List.eq_nil_of_length_eq_zero hl
  | v :: vs, [], hl, _ => by simp at hl
  | v :: vs, y :: ys, hl, h => by
    simp only [VRs]
    obtain ⟨z, hz, hv⟩ := h 0 v rfl
    simp only [List.getElem?_cons_zero, Option.some.injEq] at hz
    subst hz
    exact ⟨y, ys, rfl, hv, VRs.mk vs ys (by simpa using hl) fun i w hi => h (i + 1) w (by simpa using hi)⟩

end Go.Ideal
