/- The ideal machine: each operation does in the model what it does here. Own text; nothing here is trusted. -/
import Derived.Test.YtbcadmnkilckbaaI12
namespace Go.Ideal
set_option linter.unusedSimpArgs false
set_option linter.unusedVariables false

theorem rd_some {H : Hp} {x : Ans} {res : Res} {cs : List Prop} (h : rd H x = some (res, cs)) : ∃ v, x = some (v, cs) ∧ res = .val v H := by
  unfold rd at h
  split at h
  · simp only [Option.some.injEq, Prod.mk.injEq] at h
    obtain ⟨rfl, rfl⟩ := h
    exact ⟨_, rfl, rfl⟩
  · simp at h
theorem wr_some {x : Option (V × Hp × List Prop)} {res : Res} {cs : List Prop} (h : wr x = some (res, cs)) : ∃ v H', x = some (v, H', cs) ∧ res = .val v H' := by
  unfold wr at h
  split at h
  · simp only [Option.some.injEq, Prod.mk.injEq] at h
    obtain ⟨rfl, rfl⟩ := h
    exact ⟨_, _, rfl, rfl⟩
  · simp at h
theorem st_some {x : Option (Hp × List Prop)} {res : Res} {cs : List Prop} (h : st x = some (res, cs)) : ∃ H', x = some (H', cs) ∧ res = .val (.tuple []) H' := by
  unfold st at h
  split at h
  · simp only [Option.some.injEq, Prod.mk.injEq] at h
    obtain ⟨rfl, rfl⟩ := h
    exact ⟨_, rfl, rfl⟩
  · simp at h

section
variable {P : Program} {w : World} {r : Rho} {H : Hp} {nt : Nat} {T : Tr V} {a : Act} {cs : List Prop} {res : Res} {dst : Option Tmp} {type : TypeId} {pos : String} {after : Array Edge} {guard : Option (Nat × Bool)}

theorem OpDoes.same {v : V} {y : Value} (hH : HR r H w) (hv : VR r v y) : OpDoes P w r H (pure (.value y)) (.val v H) :=
  .val (.value y) y w r rfl (.inl rfl) (Ext.refl _) hv hH (Kept.refl _ _) (fun _ _ h => h)

theorem sameOperand_ok {x y : Operand} (h : sameOperand x y = true) : a.eval y = a.eval x := by
  unfold sameOperand at h
  split at h
  · have : _ = _ := beq_iff_eq.1 h
    rw [this]
  · simp only [Bool.and_eq_true, beq_iff_eq] at h
    obtain ⟨rfl, rfl⟩ := h
    rfl
  · simp at h

theorem builtinV_ok {b : Builtin} {xs : Array Operand} {ats : Array TypeId} (hH : HR r H w) (hA : AR r nt T a) (h : builtinV P T H b xs ats = some (res, cs)) (hcs : ∀ q, q ∈ cs → q) :
    OpDoes P w r H (execOp a.eval { dst, op := .call { callee := .builtin b, args := xs, argTypes := ats }, type, pos, after, guard }) res := by
  unfold builtinV at h
  split at h
  · rename_i x t hx ht
    obtain ⟨v, hv, rfl⟩ := rd_some h
    have e1 : xs = #[x] := by apply Array.ext'; simpa using hx
    have e2 : ats = #[t] := by apply Array.ext'; simpa using ht
    subst e1; subst e2
    exact OpDoes.rd hH (lenV_ok (args := (#[x] : Array Operand).map a.eval) (t := t) (X := a.eval x) rfl (by simp) hv (ev_ok hA x))
  · obtain ⟨v, hv, rfl⟩ := rd_some h
    exact OpDoes.rd hH (maxV_ok hv (args_ok hA xs))
  · obtain ⟨v, hv, rfl⟩ := rd_some h
    exact OpDoes.rd hH (minV_ok hv (args_ok hA xs))
  · rename_i s x t u hx ht
    split at h
    · rename_i htu
      have htu : t = u := beq_iff_eq.1 htu
      subst htu
      obtain ⟨v, H', hv, rfl⟩ := wr_some h
      have e1 : xs = #[s, x] := by apply Array.ext'; simpa using hx
      have e2 : ats = #[t, t] := by apply Array.ext'; simpa using ht
      subst e1; subst e2
      have e3 : (#[s, x] : Array Operand).map a.eval = #[a.eval s, a.eval x] := by simp
      have := OpDoes.wr (appendV_ok (ty := type) hH hv hcs (ev_ok hA s) (ev_ok hA x))
      rw [← e3] at this
      exact this
    · simp at h
  · simp at h

theorem execOp_value {f : Operand} {xs : Array Operand} {ats : Array TypeId} {g : FuncId} {ys zs : List Value} (hf : a.eval f = .func (.func g) ys.toArray zs.toArray) :
    execOp a.eval { dst, op := .call { callee := .value f, args := xs, argTypes := ats }, type, pos, after, guard } = callFunc g (ys.toArray ++ xs.map a.eval ++ zs.toArray) := by
  simp [execOp, resolve, hf, Deferred.ofValue, invoke]

theorem execOp_invoke {x : Operand} {name : String} {xs : Array Operand} {ats : Array TypeId} {t : TypeId} {y : Value} (hx : a.eval x = .iface t y) :
    execOp a.eval { dst, op := .call { callee := .invoke x name, args := xs, argTypes := ats }, type, pos, after, guard } = callMethod (.iface t y) name (xs.map a.eval) := by
  have e : (#[Value.iface t y] ++ xs.map a.eval).extract 1 (#[Value.iface t y] ++ xs.map a.eval).size = xs.map a.eval := by
    apply Array.ext'
    simp [List.take_of_length_le]
  have e2 : (#[Value.iface t y] ++ xs.map a.eval)[0]? = some (.iface t y) := by rw [Array.getElem?_append_left (by simp)]; rfl
  have e3 : execOp a.eval { dst, op := .call { callee := .invoke x name, args := xs, argTypes := ats }, type, pos, after, guard } = invoke (.fn (.method name) #[]) (#[a.eval x] ++ xs.map a.eval) := rfl
  rw [e3, hx]
  simp only [invoke, e2, e]

theorem opV_ok {op : Op} (hH : HR r H w) (hA : AR r nt T a) (h : opV P T H op = some (res, cs)) (hcs : ∀ q, q ∈ cs → q) : OpDoes P w r H (execOp a.eval { dst, op, type, pos, after, guard }) res := by
  cases op <;> simp only [opV, reduceCtorEq] at h
  case move x =>
    simp only [Option.some.injEq, Prod.mk.injEq] at h; obtain ⟨rfl, rfl⟩ := h
    exact .same hH (ev_ok hA x)
  case assign x =>
    simp only [Option.some.injEq, Prod.mk.injEq] at h; obtain ⟨rfl, rfl⟩ := h
    exact .same hH (ev_ok hA x)
  case pick c x y =>
    obtain ⟨v, hv, rfl⟩ := rd_some h
    obtain ⟨z, hz, hzv⟩ := pickV_ok (P := P) (w := w) hv (ev_ok hA c) (ev_ok hA x) (ev_ok hA y)
    refine .val (.value z) z w r ?_ (.inl rfl) (Ext.refl _) hzv hH (Kept.refl _ _) (fun _ _ h => h)
    simp only [execOp, Sem.run_bind] at hz ⊢
    cases hb : (asBool (a.eval c)).run P w with
    | ok t w1 => rw [hb] at hz; simp only [Result.andThen_ok, Sem.run_pure, Result.ok.injEq] at hz ⊢; obtain ⟨rfl, rfl⟩ := hz; exact ⟨rfl, rfl⟩
    | halt e w1 => rw [hb] at hz; simp at hz
  case alloc t => obtain ⟨v, H', hv, rfl⟩ := wr_some h; exact .wr (allocV_ok hH hv)
  case box t x => obtain ⟨v, H', hv, rfl⟩ := wr_some h; exact .wr (boxV_ok hH hv (ev_ok hA x))
  case build t ps => obtain ⟨v, hv, rfl⟩ := rd_some h; exact .rd hH (buildV_ok hv (parts_ok hA ps))
  case buildSlice t n ps => obtain ⟨v, H', hv, rfl⟩ := wr_some h; exact .wr (buildSliceV_ok hH hv (parts_ok hA ps))
  case load t x => obtain ⟨v, hv, rfl⟩ := rd_some h; exact .rd hH (loadV_ok hH hv hcs (ev_ok hA x))
  case store t x y => obtain ⟨H', hv, rfl⟩ := st_some h; exact .st (storeV_ok hH hv hcs (ev_ok hA x) (ev_ok hA y))
  case nilCheck x => obtain ⟨v, hv, rfl⟩ := rd_some h; exact nilV_ok hH rfl rfl hv (ev_ok hA x)
  case binOp o t x y _ => obtain ⟨v, hv, rfl⟩ := rd_some h; exact .rd hH (binV_ok hv hcs (ev_ok hA x) (ev_ok hA y))
  case unOp o _ x => obtain ⟨v, hv, rfl⟩ := rd_some h; exact .rd hH (unV_ok hv (ev_ok hA x))
  case convert s d x => obtain ⟨v, hv, rfl⟩ := rd_some h; exact .rd hH (convV_ok hv (ev_ok hA x))
  case makeInterface t x => obtain ⟨v, hv, rfl⟩ := rd_some h; exact .rd hH (ifaceV_ok hv (ev_ok hA x))
  case makeFunc fn x y =>
    simp only [Option.some.injEq, Prod.mk.injEq] at h; obtain ⟨rfl, rfl⟩ := h
    refine .rd hH ⟨.func fn (x.map a.eval) (y.map a.eval), rfl, ?_⟩
    simp only [VR]
    exact ⟨(x.map a.eval).toList, (y.map a.eval).toList, by rw [Array.toArray_toList, Array.toArray_toList], args_ok hA x, args_ok hA y⟩
  case makeMap t x =>
    obtain ⟨v, H', hv, rfl⟩ := wr_some h
    cases x with
    | none => exact .wr (makeMapV_ok hH hv)
    | some x => simp [makeMapV] at hv
  case makeSlice t l c => obtain ⟨v, H', hv, rfl⟩ := wr_some h; exact .wr (makeSliceV_ok hH hv hcs (ev_ok hA l) sameOperand_ok)
  case slice t x lo hi mx => obtain ⟨v, hv, rfl⟩ := rd_some h; exact .rd hH (sliceV_ok hH hv hcs (ev_ok hA x) (opt_ok hA lo) (opt_ok hA hi) (opt_ok hA mx))
  case fieldAddr t x f => obtain ⟨v, hv, rfl⟩ := rd_some h; exact .rd hH (fieldAddrV_ok hv (ev_ok hA x))
  case field t x f => obtain ⟨v, hv, rfl⟩ := rd_some h; exact .rd hH (fieldV_ok hv (ev_ok hA x))
  case indexAddr t x i => obtain ⟨v, hv, rfl⟩ := rd_some h; exact .rd hH (indexAddrV_ok hv hcs (ev_ok hA x) (ev_ok hA i))
  case index t x i => obtain ⟨v, hv, rfl⟩ := rd_some h; exact .rd hH (indexV_ok hv hcs (ev_ok hA x) (ev_ok hA i))
  case lookup t x i ok => obtain ⟨v, hv, rfl⟩ := rd_some h; exact .rd hH (lookupV_ok hH hv (ev_ok hA x) (ev_ok hA i))
  case insert t m k x => obtain ⟨H', hv, rfl⟩ := st_some h; exact .st (insertV_ok hH hv (ev_ok hA m) (ev_ok hA k) (ev_ok hA x))
  case mapUpdate t m k x => obtain ⟨H', hv, rfl⟩ := st_some h; exact .st (insertV_ok hH hv (ev_ok hA m) (ev_ok hA k) (ev_ok hA x))
  case typeAssert x xt t ok => obtain ⟨v, hv, rfl⟩ := rd_some h; exact .rd hH (assertV_ok hv (ev_ok hA x))
  case extract x i => obtain ⟨v, hv, rfl⟩ := rd_some h; exact .rd hH (extractV_ok hv (ev_ok hA x))
  case call c =>
    obtain ⟨callee, xs, ats⟩ := c
    cases callee
    case builtin b => exact builtinV_ok hH hA h hcs
    case value f =>
      simp only at h
      split at h
      · rename_i g first captured hf
        split at h
        · rename_i hok
          simp only [Option.some.injEq, Prod.mk.injEq] at h
          obtain ⟨rfl, rfl⟩ := h
          have hev := ev_ok hA f
          rw [hf] at hev
          simp only [VR] at hev
          obtain ⟨ys, zs, he, h1, h2⟩ := hev
          refine .call (ys.toArray ++ xs.map a.eval ++ zs.toArray) ?_ ?_
          · rw [execOp_value he]; exact run_callFunc hok _
          · simp only [Array.toList_append]
            exact VRs.append _ _ _ _ (VRs.append _ _ _ _ h1 (args_ok hA xs)) h2
        · simp at h
      · simp at h
    case invoke x name =>
      simp only at h
      split at h
      · rename_i g v hm
        split at h
        · rename_i hok
          simp only [Option.some.injEq, Prod.mk.injEq] at h
          obtain ⟨rfl, rfl⟩ := h
          obtain ⟨t, y, he, hv, hrun⟩ := methodV_ok (P := P) (w := w) hm (ev_ok hA x)
          refine .call (#[y] ++ xs.map a.eval) ?_ ?_
          · rw [execOp_invoke he]
            have h1 := hrun (P.types.size + 99)
            have e : P.types.size + Made.depth = P.types.size + 99 + 1 := rfl
            simp only [callMethod, Sem.run_bind, run_program, Result.andThen_ok, e, h1]
            exact run_callFunc hok _
          · simp only [Array.toList_append, List.cons_append, List.nil_append, VRs]
            exact ⟨y, _, rfl, hv, args_ok hA xs⟩
        · simp at h
      · simp at h
end

end Go.Ideal
