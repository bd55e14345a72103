/- Put together of: K6b K6. Own text; nothing here is trusted. -/
import Derived.Test.YtpmgdkldhimofaaKD
import Derived.Test.YtpmgdkldhimofaaKE
import Derived.Test.YtpmgdkldhimofaaKF
import Derived.Test.YtpmgdkldhimofaaKG
import Derived.Test.YtpmgdkldhimofaaKB
namespace Go.Ideal.K6
section
open Go.Proofs Go.Ideal Go.Ideal.L1
set_option linter.unusedSimpArgs false
set_option linter.unusedVariables false
set_option maxRecDepth 100000
set_option maxHeartbeats 80000000
theorem skx (bb : Nat → Bool) (zz : Nat → Int) (k a b x:Int) (h : skMay (zl zz) k a b x = false) :
    ∃ hh, vcOf (runCall Try.prog doS noL 6000 13 [.agg (viewOf (bl bb) (zl zz)), .agg [.int .i64 (.s k), .int .i64 (.s a), .int .i64 (.s b), .int .i64 (.s x)]] H0 hh) (fun v H1 => retP 0 (lastBlk v) v H1 (badAsk 600) [] 0) := by
  simp only [skMay, Bool.and_eq_false_iff] at h

  rcases eb (!B1.allMay (zl zz)) with h0 | h0
  ·
   refine vcIntro [true] (an (an h0 tt) (an (an (an tt (an tt (an tt (an tt (an tt (an tt (an tt (an tt (an tt (an tt (an tt (an tt (an tt (an tt (an tt (an tt (an tt (an tt (an tt (an tt (an tt (an tt (an tt (an tt (an tt (an tt (an tt (an tt (an tt (an tt (an tt (an tt (an tt (an tt (an tt (an tt (an tt (an tt (an tt (an tt (an tt (an tt (an tt (an tt (an tt (an tt (an tt (an tt (an tt tt))))))))))))))))))))))))))))))))))))))))))))))))) tt) tt)) ?_
   kernel_rfl
  ·
   rcases eb (!B1.opMayL [k, a, b, x]) with h1 | h1
   ·
    refine vcIntro (hx2 2 2) (an (u2 h1 h0) (an (an (an tt (an tt (an tt (an tt (an tt (an tt (an tt (an tt (an tt (an tt (an tt (an tt (an tt (an tt (an tt (an tt (an tt (an tt (an tt (an tt (an tt (an tt (an tt (an tt (an tt (an tt (an tt (an tt (an tt (an tt (an tt (an tt (an tt (an tt (an tt (an tt (an tt (an tt (an tt (an tt (an tt (an tt (an tt (an tt (an tt (an tt (an tt (an tt (an tt tt))))))))))))))))))))))))))))))))))))))))))))))))) tt) tt)) ?_
    kernel_rfl
   ·
    rcases eb (decide (k ≥ (0:Int))) with h2 | h2
    ·
     rcases eb (decide (k ≤ (5:Int))) with h3 | h3
     ·
      refine vcIntro (hx2 4 12) (an (u4 h3 h2 h1 h0) (an (an (an tt (an tt (an tt (an tt (an tt (an tt (an tt (an tt (an tt (an tt (an tt (an tt (an tt (an tt (an tt (an tt (an tt (an tt (an tt (an tt (an tt (an tt (an tt (an tt (an tt (an tt (an tt (an tt (an tt (an tt (an tt (an tt (an tt (an tt (an tt (an tt (an tt (an tt (an tt (an tt (an tt (an tt (an tt (an tt (an tt (an tt (an tt (an tt (an tt tt))))))))))))))))))))))))))))))))))))))))))))))))) tt) tt)) ?_
      kernel_rfl
     · exact ff (by simp [B1.opMayL, B1.opMay] at *; simp_all; omega)
    · exact ff (by simp [B1.opMayL, B1.opMay] at *; simp_all; omega)
end
end Go.Ideal.K6

namespace Go.Ideal.K6
section
open Go.Proofs Go.Ideal Go.Ideal.L1
set_option linter.unusedSimpArgs false
set_option linter.unusedVariables false
set_option maxRecDepth 100000
set_option maxHeartbeats 80000000

def skSh (bs : List Bool) (zs : List Int) (k a b x:Int) : List (Bool × Sh) × Sh :=
  ([(!skMay zs k a b x, ⟨badAsk 600, []⟩), (!(skN bs zs k a b x == -1), ⟨needAsk (skN bs zs k a b x) bs zs, []⟩)], ⟨doneAsk bs (skZs bs zs k a x), ansB (skCode bs zs k a) (skNum bs zs k a b)⟩)
theorem skMay_of {zs : List Int} {k a b x : Int} (h : skMay zs k a b x = true) : B1.allMay zs = true ∧ B1.opMay k a b x = true ∧ 0 ≤ a ∧ (k = 6 ∨ k = 7 ∨ k = 8 ∨ k = 9 ∨ k = 10) := by
  simp only [skMay, Bool.and_eq_true, decide_eq_true_eq] at h
  refine ⟨h.1.1, h.1.2, ?_⟩
  have := h.1.2
  simp [B1.opMay] at this
  omega
theorem ansW (c n:Int) (j:Nat) (b : Blk) (hj : (ansB c n)[j]? = some (some b)) : b.writable = true := by
  match j with
  | 0 => simp only [ansB, List.getElem?_cons_zero, Option.some.injEq] at hj; subst hj; rfl
  | j + 1 => simp [ansB] at hj
section
variable (bb : Nat → Bool) (zz : Nat → Int) (a b x:Int)
theorem zs_same (k:Int) (h : skZ (bl bb) (zl zz) k a x = (zl zz)) : skZs (bl bb) (zl zz) k a x = (zl zz) := by
  unfold skZs skC; rw [h]; rfl
theorem zs_ins (k:Int) (w : List Int) (c v lv:Int) (hw : w = (zl zz) ∨ ∃ c' v' lv', w = insZ (zl zz) c' v' lv') (h : skZ (bl bb) (zl zz) k a x = insZ w c v lv) : skZs (bl bb) (zl zz) k a x = insZ w c v lv := by
  unfold skZs skC; rw [h]
  rcases hw with rfl | ⟨c', v', lv', rfl⟩ <;> rfl
theorem zs_del (k:Int) (w : List Int) (c v lv:Int) (hw : w = (zl zz) ∨ ∃ c' v' lv', w = delZ (zl zz) c' v' lv') (h : skZ (bl bb) (zl zz) k a x = delZ w c v lv) : skZs (bl bb) (zl zz) k a x = delZ w c v lv := by
  unfold skZs skC; rw [h]
  rcases hw with rfl | ⟨c', v', lv', rfl⟩ <;> rfl
end
theorem skS_ok : SpecOk Try.prog (spC 13 (B1.viewG skSh)) := spC_ok fun xs cl z h => by
  obtain ⟨vs, os, bs, zs, k, a, b, x, rfl, hbs, hzs, hle, e⟩ := B1.viewG_some h
  obtain ⟨bb, rfl⟩ := bl_of hbs
  obtain ⟨zz, rfl⟩ := zl_of hzs
  obtain ⟨rfl, rfl⟩ : cl = _ ∧ z = _ := by simpa [Prod.ext_iff, eq_comm] using e
  refine ⟨fun h1 => ?_, fun h1 => ?_⟩
  · exact ShOk.run lastBlk doS_ok (by simp) rfl hle (skx bb zz k a b x ((Bool.not_eq_true' _).mp h1))
  · obtain ⟨hv, ho, hA, hk⟩ := skMay_of ((Bool.not_eq_false' ..).mp h1)
    clear h h1 e
    have args : ∀ (k':Int), k = k' → ∀ r ys, VRs r [.agg vs, .agg os] ys → VRs r [.agg (viewOf (bl bb) (zl zz)), .agg [.int .i64 (.c k'), .int .i64 (.s a), .int .i64 (.s b), .int .i64 (.s x)]] ys := fun k' e r ys hy => by
      subst e
      have h := hle r ys hy
      change VRs r [.agg (viewOf (bl bb) (zl zz)), .agg [.int .i64 (.s k), .int .i64 (.s a), .int .i64 (.s b), .int .i64 (.s x)]] ys at h
      simpa only [VRs, VR, E.val] using h
    rcases hk with rfl | rfl | rfl | rfl | rfl
    · refine ⟨fun h2 => ?_, fun h2 => ?_⟩
      · have hn : ¬ skN (bl bb) (zl zz) 6 a b x = -1 := by simpa using h2
        exact ShOk.run lastBlk doS_ok (by simp) rfl (args 6 rfl) (sn6 bb zz a b x hv ho hn)
      · have hn : skN (bl bb) (zl zz) 6 a b x = -1 := by simpa using h2
        by_cases ha : skAt (bl bb) (zl zz) a = a
        · have e1 : skCode (bl bb) (zl zz) 6 a = 1 := by simp [skCode, ha]
          have e2 : skNum (bl bb) (zl zz) 6 a b = 0 := by simp [skNum, ha]
          have e3 : skZs (bl bb) (zl zz) 6 a x = (zl zz) := zs_same bb zz a x 6 (by simp [skZ, ha])
          show ShOk _ _ _ ⟨doneAsk (bl bb) (skZs (bl bb) (zl zz) 6 a x), ansB (skCode (bl bb) (zl zz) 6 a) (skNum (bl bb) (zl zz) 6 a b)⟩
          rw [e1, e2, e3]
          exact ShOk.run lastBlk doS_ok (ansW _ _) rfl (args 6 rfl) (sd6a bb zz a b x hv ho hn ha)
        · have e1 : skCode (bl bb) (zl zz) 6 a = 0 := by simp [skCode, ha]
          have e2 : skNum (bl bb) (zl zz) 6 a b = a := by simp [skNum, ha]
          by_cases hx : x = 1
          · have e3 : skZs (bl bb) (zl zz) 6 a x = insZ (insZ (zl zz) a ((skLo (bl bb) (zl zz) a).2) 0) a ((skHi (bl bb) (zl zz) a).2) 1 := zs_ins bb zz a x 6 _ _ _ _ (.inr ⟨_, _, _, rfl⟩) (by simp [skZ, ha, hx])
            show ShOk _ _ _ ⟨doneAsk (bl bb) (skZs (bl bb) (zl zz) 6 a x), ansB (skCode (bl bb) (zl zz) 6 a) (skNum (bl bb) (zl zz) 6 a b)⟩
            rw [e1, e2, e3]
            exact ShOk.run lastBlk doS_ok (ansW _ _) rfl (args 6 rfl) (sd6c bb zz a b x hv ho hn ha hx)
          · have e3 : skZs (bl bb) (zl zz) 6 a x = insZ (zl zz) a ((skLo (bl bb) (zl zz) a).2) 0 := zs_ins bb zz a x 6 _ _ _ _ (.inl rfl) (by simp [skZ, ha, hx])
            show ShOk _ _ _ ⟨doneAsk (bl bb) (skZs (bl bb) (zl zz) 6 a x), ansB (skCode (bl bb) (zl zz) 6 a) (skNum (bl bb) (zl zz) 6 a b)⟩
            rw [e1, e2, e3]
            exact ShOk.run lastBlk doS_ok (ansW _ _) rfl (args 6 rfl) (sd6b bb zz a b x hv ho hn ha hx)
    · by_cases hu : skUp (bl bb) (zl zz) a
      · have hu' : (nxV ((skHi (bl bb) (zl zz) a).2) (nw (delZ (zl zz) a ((skLo (bl bb) (zl zz) a).2) 0) (lk ((skHi (bl bb) (zl zz) a).2) 1)) == a) = true := by simpa [skUp] using hu
        refine ⟨fun h2 => ?_, fun h2 => ?_⟩
        · have hn : ¬ skN (bl bb) (zl zz) 7 a b x = -1 := by simpa using h2
          exact ShOk.run lastBlk doS_ok (by simp) rfl (args 7 rfl) (sn7u bb zz a b x hv ho hn hu' hu')
        · have hn : skN (bl bb) (zl zz) 7 a b x = -1 := by simpa using h2
          by_cases ha : skAt (bl bb) (zl zz) a = a
          · have e1 : skCode (bl bb) (zl zz) 7 a = 0 := by simp [skCode, ha]
            have e2 : skNum (bl bb) (zl zz) 7 a b = a := by simp [skNum, ha]
            have e3 : skZs (bl bb) (zl zz) 7 a x = delZ (delZ (zl zz) a ((skLo (bl bb) (zl zz) a).2) 0) a ((skHi (bl bb) (zl zz) a).2) 1 := zs_del bb zz a x 7 _ _ _ _ (.inr ⟨_, _, _, rfl⟩) (by simp [skZ, ha, hu])
            show ShOk _ _ _ ⟨doneAsk (bl bb) (skZs (bl bb) (zl zz) 7 a x), ansB (skCode (bl bb) (zl zz) 7 a) (skNum (bl bb) (zl zz) 7 a b)⟩
            rw [e1, e2, e3]
            exact ShOk.run lastBlk doS_ok (ansW _ _) rfl (args 7 rfl) (sd7c bb zz a b x hv ho hn ha hu' hu')
          · have e1 : skCode (bl bb) (zl zz) 7 a = 2 := by simp [skCode, ha]
            have e2 : skNum (bl bb) (zl zz) 7 a b = 0 := by simp [skNum, ha]
            have e3 : skZs (bl bb) (zl zz) 7 a x = (zl zz) := zs_same bb zz a x 7 (by simp [skZ, ha])
            show ShOk _ _ _ ⟨doneAsk (bl bb) (skZs (bl bb) (zl zz) 7 a x), ansB (skCode (bl bb) (zl zz) 7 a) (skNum (bl bb) (zl zz) 7 a b)⟩
            rw [e1, e2, e3]
            exact ShOk.run lastBlk doS_ok (ansW _ _) rfl (args 7 rfl) (sd7a bb zz a b x hv ho hn ha)
      · have hu' : (nxV ((skHi (bl bb) (zl zz) a).2) (nw (delZ (zl zz) a ((skLo (bl bb) (zl zz) a).2) 0) (lk ((skHi (bl bb) (zl zz) a).2) 1)) == a) = false := by simpa [skUp] using hu
        refine ⟨fun h2 => ?_, fun h2 => ?_⟩
        · have hn : ¬ skN (bl bb) (zl zz) 7 a b x = -1 := by simpa using h2
          exact ShOk.run lastBlk doS_ok (by simp) rfl (args 7 rfl) (sn7v bb zz a b x hv ho hn hu' hu')
        · have hn : skN (bl bb) (zl zz) 7 a b x = -1 := by simpa using h2
          by_cases ha : skAt (bl bb) (zl zz) a = a
          · have e1 : skCode (bl bb) (zl zz) 7 a = 0 := by simp [skCode, ha]
            have e2 : skNum (bl bb) (zl zz) 7 a b = a := by simp [skNum, ha]
            have e3 : skZs (bl bb) (zl zz) 7 a x = delZ (zl zz) a ((skLo (bl bb) (zl zz) a).2) 0 := zs_del bb zz a x 7 _ _ _ _ (.inl rfl) (by simp [skZ, ha, hu])
            show ShOk _ _ _ ⟨doneAsk (bl bb) (skZs (bl bb) (zl zz) 7 a x), ansB (skCode (bl bb) (zl zz) 7 a) (skNum (bl bb) (zl zz) 7 a b)⟩
            rw [e1, e2, e3]
            exact ShOk.run lastBlk doS_ok (ansW _ _) rfl (args 7 rfl) (sd7b bb zz a b x hv ho hn ha hu' hu')
          · have e1 : skCode (bl bb) (zl zz) 7 a = 2 := by simp [skCode, ha]
            have e2 : skNum (bl bb) (zl zz) 7 a b = 0 := by simp [skNum, ha]
            have e3 : skZs (bl bb) (zl zz) 7 a x = (zl zz) := zs_same bb zz a x 7 (by simp [skZ, ha])
            show ShOk _ _ _ ⟨doneAsk (bl bb) (skZs (bl bb) (zl zz) 7 a x), ansB (skCode (bl bb) (zl zz) 7 a) (skNum (bl bb) (zl zz) 7 a b)⟩
            rw [e1, e2, e3]
            exact ShOk.run lastBlk doS_ok (ansW _ _) rfl (args 7 rfl) (sd7a bb zz a b x hv ho hn ha)
    · refine ⟨fun h2 => ?_, fun h2 => ?_⟩
      · have hn : ¬ skN (bl bb) (zl zz) 8 a b x = -1 := by simpa using h2
        exact ShOk.run lastBlk doS_ok (by simp) rfl (args 8 rfl) (sn8 bb zz a b x hv ho hn)
      · have hn : skN (bl bb) (zl zz) 8 a b x = -1 := by simpa using h2
        have e1 : skCode (bl bb) (zl zz) 8 a = 0 := by simp [skCode]
        have e2 : skNum (bl bb) (zl zz) 8 a b = (if skAt (bl bb) (zl zz) a = a then 1 else 0) := by simp [skNum]
        have e3 : skZs (bl bb) (zl zz) 8 a x = (zl zz) := zs_same bb zz a x 8 (by simp [skZ])
        show ShOk _ _ _ ⟨doneAsk (bl bb) (skZs (bl bb) (zl zz) 8 a x), ansB (skCode (bl bb) (zl zz) 8 a) (skNum (bl bb) (zl zz) 8 a b)⟩
        rw [e1, e2, e3]
        exact ShOk.run lastBlk doS_ok (ansW _ _) rfl (args 8 rfl) (sd8 bb zz a b x hv ho hn)
    · have e0 : skN (bl bb) (zl zz) 9 a b x = (if (bb 4) = true then -1 else 4) := rfl
      refine ⟨fun h2 => ?_, fun h2 => ?_⟩
      · have hb : (bb 4) = false := by cases hb : (bb 4) with
          | false => rfl
          | true => rw [e0, hb] at h2; simp at h2
        have e1 : skN (bl bb) (zl zz) 9 a b x = 4 := by rw [e0, hb]; rfl
        show ShOk _ _ _ ⟨needAsk (skN (bl bb) (zl zz) 9 a b x) (bl bb) (zl zz), []⟩
        rw [e1]
        exact ShOk.run lastBlk doS_ok (by simp) rfl (args 9 rfl) (sn9 bb zz a b x hv ho hb)
      · have hb : (bb 4) = true := by cases hb : (bb 4) with
          | true => rfl
          | false => rw [e0, hb] at h2; simp at h2
        have e1 : skCode (bl bb) (zl zz) 9 a = (if nxV (-1) (nw (zl zz) 4) = -1 then 2 else 0) := rfl
        have e2 : skNum (bl bb) (zl zz) 9 a b = (if nxV (-1) (nw (zl zz) 4) = -1 then 0 else nxV (-1) (nw (zl zz) 4)) := rfl
        have e3 : skZs (bl bb) (zl zz) 9 a x = (zl zz) := zs_same bb zz a x 9 (by simp [skZ])
        show ShOk _ _ _ ⟨doneAsk (bl bb) (skZs (bl bb) (zl zz) 9 a x), ansB (skCode (bl bb) (zl zz) 9 a) (skNum (bl bb) (zl zz) 9 a b)⟩
        rw [e1, e2, e3]
        exact ShOk.run lastBlk doS_ok (ansW _ _) rfl (args 9 rfl) (sd9 bb zz a b x hv ho hb)
    · refine ⟨fun h2 => ?_, fun h2 => ?_⟩
      · have hn : ¬ skN (bl bb) (zl zz) 10 a b x = -1 := by simpa using h2
        exact ShOk.run lastBlk doT_ok (by simp) rfl (args 10 rfl) (sn10 bb zz a b x hv ho hn)
      · have hn : skN (bl bb) (zl zz) 10 a b x = -1 := by simpa using h2
        have e1 : skCode (bl bb) (zl zz) 10 a = 0 := by simp [skCode]
        have e2 : skNum (bl bb) (zl zz) 10 a b = (btG (bl bb) (zl zz) b 6 (skAt (bl bb) (zl zz) a) 0).2 := by simp [skNum]
        have e3 : skZs (bl bb) (zl zz) 10 a x = (zl zz) := zs_same bb zz a x 10 (by simp [skZ])
        show ShOk _ _ _ ⟨doneAsk (bl bb) (skZs (bl bb) (zl zz) 10 a x), ansB (skCode (bl bb) (zl zz) 10 a) (skNum (bl bb) (zl zz) 10 a b)⟩
        rw [e1, e2, e3]
        exact ShOk.run lastBlk doT_ok (ansW _ _) rfl (args 10 rfl) (sd10 bb zz a b x hv ho hn)
def skipS : Spec := spC 13 (B1.viewG skSh)
end
end Go.Ideal.K6
