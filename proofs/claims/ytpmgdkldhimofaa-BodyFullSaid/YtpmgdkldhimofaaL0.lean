/- Contracts of what all laws use. Own text. -/
import Derived.Test.YtpmgdkldhimofaaI25
import Derived.Test.YtpmgdkldhimofaaRows
import Derived.KernelRfl
namespace Go.Ideal.L1
open Go.Proofs Go.Ideal
set_option linter.unusedSimpArgs false
set_option linter.unusedVariables false
set_option maxRecDepth 100000
set_option maxHeartbeats 4000000

theorem _root_.Go.Ideal.an {a b : Prop} (x : a) (y : b) : a ∧ b := ⟨x, y⟩
theorem _root_.Go.Ideal.rb (b : Bool) : b = b := rfl
theorem _root_.Go.Ideal.ri (b : Int) : b = b := rfl
theorem _root_.Go.Ideal.tt : True := True.intro
theorem _root_.Go.Ideal.ff {p : Prop} (h : False) : p := h.elim
theorem _root_.Go.Ideal.zo {p : Prop} (h : p) : (0 : Nat) = 0 ∧ ((∀ (k : Nat), k < (0 : Nat) → (0 : Int) = (0 : Int)) ∧ p) := ⟨rfl, fun _ _ => rfl, h⟩
theorem _root_.Go.Ideal.eb (b : Bool) : b = true ∨ b = false := Bool.eq_false_or_eq_true b
def _root_.Go.Ideal.hx2 : Nat → Nat → List Bool
  | 0, _ => []
  | n + 1, k => Nat.beq (k % 2) 1 :: hx2 n (k / 2)
theorem _root_.Go.Ideal.u2 {p0 p1 : Prop} (h0 : p0) (h1 : p1) : p0 ∧ (p1 ∧ True) := ⟨h0, h1, trivial⟩
theorem _root_.Go.Ideal.u3 {p0 p1 p2 : Prop} (h0 : p0) (h1 : p1) (h2 : p2) : p0 ∧ (p1 ∧ (p2 ∧ True)) := ⟨h0, h1, h2, trivial⟩
theorem _root_.Go.Ideal.u4 {p0 p1 p2 p3 : Prop} (h0 : p0) (h1 : p1) (h2 : p2) (h3 : p3) : p0 ∧ (p1 ∧ (p2 ∧ (p3 ∧ True))) := ⟨h0, h1, h2, h3, trivial⟩
theorem _root_.Go.Ideal.u5 {p0 p1 p2 p3 p4 : Prop} (h0 : p0) (h1 : p1) (h2 : p2) (h3 : p3) (h4 : p4) : p0 ∧ (p1 ∧ (p2 ∧ (p3 ∧ (p4 ∧ True)))) := ⟨h0, h1, h2, h3, h4, trivial⟩
theorem _root_.Go.Ideal.u6 {p0 p1 p2 p3 p4 p5 : Prop} (h0 : p0) (h1 : p1) (h2 : p2) (h3 : p3) (h4 : p4) (h5 : p5) : p0 ∧ (p1 ∧ (p2 ∧ (p3 ∧ (p4 ∧ (p5 ∧ True))))) := ⟨h0, h1, h2, h3, h4, h5, trivial⟩
theorem _root_.Go.Ideal.u7 {p0 p1 p2 p3 p4 p5 p6 : Prop} (h0 : p0) (h1 : p1) (h2 : p2) (h3 : p3) (h4 : p4) (h5 : p5) (h6 : p6) : p0 ∧ (p1 ∧ (p2 ∧ (p3 ∧ (p4 ∧ (p5 ∧ (p6 ∧ True)))))) := ⟨h0, h1, h2, h3, h4, h5, h6, trivial⟩
theorem _root_.Go.Ideal.u8 {p0 p1 p2 p3 p4 p5 p6 p7 : Prop} (h0 : p0) (h1 : p1) (h2 : p2) (h3 : p3) (h4 : p4) (h5 : p5) (h6 : p6) (h7 : p7) : p0 ∧ (p1 ∧ (p2 ∧ (p3 ∧ (p4 ∧ (p5 ∧ (p6 ∧ (p7 ∧ True))))))) := ⟨h0, h1, h2, h3, h4, h5, h6, h7, trivial⟩
theorem _root_.Go.Ideal.u9 {p0 p1 p2 p3 p4 p5 p6 p7 p8 : Prop} (h0 : p0) (h1 : p1) (h2 : p2) (h3 : p3) (h4 : p4) (h5 : p5) (h6 : p6) (h7 : p7) (h8 : p8) : p0 ∧ (p1 ∧ (p2 ∧ (p3 ∧ (p4 ∧ (p5 ∧ (p6 ∧ (p7 ∧ (p8 ∧ True)))))))) := ⟨h0, h1, h2, h3, h4, h5, h6, h7, h8, trivial⟩
theorem _root_.Go.Ideal.u10 {p0 p1 p2 p3 p4 p5 p6 p7 p8 p9 : Prop} (h0 : p0) (h1 : p1) (h2 : p2) (h3 : p3) (h4 : p4) (h5 : p5) (h6 : p6) (h7 : p7) (h8 : p8) (h9 : p9) : p0 ∧ (p1 ∧ (p2 ∧ (p3 ∧ (p4 ∧ (p5 ∧ (p6 ∧ (p7 ∧ (p8 ∧ (p9 ∧ True))))))))) := ⟨h0, h1, h2, h3, h4, h5, h6, h7, h8, h9, trivial⟩
theorem _root_.Go.Ideal.u11 {p0 p1 p2 p3 p4 p5 p6 p7 p8 p9 p10 : Prop} (h0 : p0) (h1 : p1) (h2 : p2) (h3 : p3) (h4 : p4) (h5 : p5) (h6 : p6) (h7 : p7) (h8 : p8) (h9 : p9) (h10 : p10) : p0 ∧ (p1 ∧ (p2 ∧ (p3 ∧ (p4 ∧ (p5 ∧ (p6 ∧ (p7 ∧ (p8 ∧ (p9 ∧ (p10 ∧ True)))))))))) := ⟨h0, h1, h2, h3, h4, h5, h6, h7, h8, h9, h10, trivial⟩
theorem _root_.Go.Ideal.u12 {p0 p1 p2 p3 p4 p5 p6 p7 p8 p9 p10 p11 : Prop} (h0 : p0) (h1 : p1) (h2 : p2) (h3 : p3) (h4 : p4) (h5 : p5) (h6 : p6) (h7 : p7) (h8 : p8) (h9 : p9) (h10 : p10) (h11 : p11) : p0 ∧ (p1 ∧ (p2 ∧ (p3 ∧ (p4 ∧ (p5 ∧ (p6 ∧ (p7 ∧ (p8 ∧ (p9 ∧ (p10 ∧ (p11 ∧ True))))))))))) := ⟨h0, h1, h2, h3, h4, h5, h6, h7, h8, h9, h10, h11, trivial⟩
theorem _root_.Go.Ideal.u13 {p0 p1 p2 p3 p4 p5 p6 p7 p8 p9 p10 p11 p12 : Prop} (h0 : p0) (h1 : p1) (h2 : p2) (h3 : p3) (h4 : p4) (h5 : p5) (h6 : p6) (h7 : p7) (h8 : p8) (h9 : p9) (h10 : p10) (h11 : p11) (h12 : p12) : p0 ∧ (p1 ∧ (p2 ∧ (p3 ∧ (p4 ∧ (p5 ∧ (p6 ∧ (p7 ∧ (p8 ∧ (p9 ∧ (p10 ∧ (p11 ∧ (p12 ∧ True)))))))))))) := ⟨h0, h1, h2, h3, h4, h5, h6, h7, h8, h9, h10, h11, h12, trivial⟩
theorem _root_.Go.Ideal.u14 {p0 p1 p2 p3 p4 p5 p6 p7 p8 p9 p10 p11 p12 p13 : Prop} (h0 : p0) (h1 : p1) (h2 : p2) (h3 : p3) (h4 : p4) (h5 : p5) (h6 : p6) (h7 : p7) (h8 : p8) (h9 : p9) (h10 : p10) (h11 : p11) (h12 : p12) (h13 : p13) : p0 ∧ (p1 ∧ (p2 ∧ (p3 ∧ (p4 ∧ (p5 ∧ (p6 ∧ (p7 ∧ (p8 ∧ (p9 ∧ (p10 ∧ (p11 ∧ (p12 ∧ (p13 ∧ True))))))))))))) := ⟨h0, h1, h2, h3, h4, h5, h6, h7, h8, h9, h10, h11, h12, h13, trivial⟩
theorem _root_.Go.Ideal.u15 {p0 p1 p2 p3 p4 p5 p6 p7 p8 p9 p10 p11 p12 p13 p14 : Prop} (h0 : p0) (h1 : p1) (h2 : p2) (h3 : p3) (h4 : p4) (h5 : p5) (h6 : p6) (h7 : p7) (h8 : p8) (h9 : p9) (h10 : p10) (h11 : p11) (h12 : p12) (h13 : p13) (h14 : p14) : p0 ∧ (p1 ∧ (p2 ∧ (p3 ∧ (p4 ∧ (p5 ∧ (p6 ∧ (p7 ∧ (p8 ∧ (p9 ∧ (p10 ∧ (p11 ∧ (p12 ∧ (p13 ∧ (p14 ∧ True)))))))))))))) := ⟨h0, h1, h2, h3, h4, h5, h6, h7, h8, h9, h10, h11, h12, h13, h14, trivial⟩
theorem _root_.Go.Ideal.u16 {p0 p1 p2 p3 p4 p5 p6 p7 p8 p9 p10 p11 p12 p13 p14 p15 : Prop} (h0 : p0) (h1 : p1) (h2 : p2) (h3 : p3) (h4 : p4) (h5 : p5) (h6 : p6) (h7 : p7) (h8 : p8) (h9 : p9) (h10 : p10) (h11 : p11) (h12 : p12) (h13 : p13) (h14 : p14) (h15 : p15) : p0 ∧ (p1 ∧ (p2 ∧ (p3 ∧ (p4 ∧ (p5 ∧ (p6 ∧ (p7 ∧ (p8 ∧ (p9 ∧ (p10 ∧ (p11 ∧ (p12 ∧ (p13 ∧ (p14 ∧ (p15 ∧ True))))))))))))))) := ⟨h0, h1, h2, h3, h4, h5, h6, h7, h8, h9, h10, h11, h12, h13, h14, h15, trivial⟩
theorem _root_.Go.Ideal.u17 {p0 p1 p2 p3 p4 p5 p6 p7 p8 p9 p10 p11 p12 p13 p14 p15 p16 : Prop} (h0 : p0) (h1 : p1) (h2 : p2) (h3 : p3) (h4 : p4) (h5 : p5) (h6 : p6) (h7 : p7) (h8 : p8) (h9 : p9) (h10 : p10) (h11 : p11) (h12 : p12) (h13 : p13) (h14 : p14) (h15 : p15) (h16 : p16) : p0 ∧ (p1 ∧ (p2 ∧ (p3 ∧ (p4 ∧ (p5 ∧ (p6 ∧ (p7 ∧ (p8 ∧ (p9 ∧ (p10 ∧ (p11 ∧ (p12 ∧ (p13 ∧ (p14 ∧ (p15 ∧ (p16 ∧ True)))))))))))))))) := ⟨h0, h1, h2, h3, h4, h5, h6, h7, h8, h9, h10, h11, h12, h13, h14, h15, h16, trivial⟩
theorem _root_.Go.Ideal.u18 {p0 p1 p2 p3 p4 p5 p6 p7 p8 p9 p10 p11 p12 p13 p14 p15 p16 p17 : Prop} (h0 : p0) (h1 : p1) (h2 : p2) (h3 : p3) (h4 : p4) (h5 : p5) (h6 : p6) (h7 : p7) (h8 : p8) (h9 : p9) (h10 : p10) (h11 : p11) (h12 : p12) (h13 : p13) (h14 : p14) (h15 : p15) (h16 : p16) (h17 : p17) : p0 ∧ (p1 ∧ (p2 ∧ (p3 ∧ (p4 ∧ (p5 ∧ (p6 ∧ (p7 ∧ (p8 ∧ (p9 ∧ (p10 ∧ (p11 ∧ (p12 ∧ (p13 ∧ (p14 ∧ (p15 ∧ (p16 ∧ (p17 ∧ True))))))))))))))))) := ⟨h0, h1, h2, h3, h4, h5, h6, h7, h8, h9, h10, h11, h12, h13, h14, h15, h16, h17, trivial⟩
theorem _root_.Go.Ideal.u19 {p0 p1 p2 p3 p4 p5 p6 p7 p8 p9 p10 p11 p12 p13 p14 p15 p16 p17 p18 : Prop} (h0 : p0) (h1 : p1) (h2 : p2) (h3 : p3) (h4 : p4) (h5 : p5) (h6 : p6) (h7 : p7) (h8 : p8) (h9 : p9) (h10 : p10) (h11 : p11) (h12 : p12) (h13 : p13) (h14 : p14) (h15 : p15) (h16 : p16) (h17 : p17) (h18 : p18) : p0 ∧ (p1 ∧ (p2 ∧ (p3 ∧ (p4 ∧ (p5 ∧ (p6 ∧ (p7 ∧ (p8 ∧ (p9 ∧ (p10 ∧ (p11 ∧ (p12 ∧ (p13 ∧ (p14 ∧ (p15 ∧ (p16 ∧ (p17 ∧ (p18 ∧ True)))))))))))))))))) := ⟨h0, h1, h2, h3, h4, h5, h6, h7, h8, h9, h10, h11, h12, h13, h14, h15, h16, h17, h18, trivial⟩
theorem _root_.Go.Ideal.u20 {p0 p1 p2 p3 p4 p5 p6 p7 p8 p9 p10 p11 p12 p13 p14 p15 p16 p17 p18 p19 : Prop} (h0 : p0) (h1 : p1) (h2 : p2) (h3 : p3) (h4 : p4) (h5 : p5) (h6 : p6) (h7 : p7) (h8 : p8) (h9 : p9) (h10 : p10) (h11 : p11) (h12 : p12) (h13 : p13) (h14 : p14) (h15 : p15) (h16 : p16) (h17 : p17) (h18 : p18) (h19 : p19) : p0 ∧ (p1 ∧ (p2 ∧ (p3 ∧ (p4 ∧ (p5 ∧ (p6 ∧ (p7 ∧ (p8 ∧ (p9 ∧ (p10 ∧ (p11 ∧ (p12 ∧ (p13 ∧ (p14 ∧ (p15 ∧ (p16 ∧ (p17 ∧ (p18 ∧ (p19 ∧ True))))))))))))))))))) := ⟨h0, h1, h2, h3, h4, h5, h6, h7, h8, h9, h10, h11, h12, h13, h14, h15, h16, h17, h18, h19, trivial⟩
theorem _root_.Go.Ideal.u21 {p0 p1 p2 p3 p4 p5 p6 p7 p8 p9 p10 p11 p12 p13 p14 p15 p16 p17 p18 p19 p20 : Prop} (h0 : p0) (h1 : p1) (h2 : p2) (h3 : p3) (h4 : p4) (h5 : p5) (h6 : p6) (h7 : p7) (h8 : p8) (h9 : p9) (h10 : p10) (h11 : p11) (h12 : p12) (h13 : p13) (h14 : p14) (h15 : p15) (h16 : p16) (h17 : p17) (h18 : p18) (h19 : p19) (h20 : p20) : p0 ∧ (p1 ∧ (p2 ∧ (p3 ∧ (p4 ∧ (p5 ∧ (p6 ∧ (p7 ∧ (p8 ∧ (p9 ∧ (p10 ∧ (p11 ∧ (p12 ∧ (p13 ∧ (p14 ∧ (p15 ∧ (p16 ∧ (p17 ∧ (p18 ∧ (p19 ∧ (p20 ∧ True)))))))))))))))))))) := ⟨h0, h1, h2, h3, h4, h5, h6, h7, h8, h9, h10, h11, h12, h13, h14, h15, h16, h17, h18, h19, h20, trivial⟩
theorem _root_.Go.Ideal.u22 {p0 p1 p2 p3 p4 p5 p6 p7 p8 p9 p10 p11 p12 p13 p14 p15 p16 p17 p18 p19 p20 p21 : Prop} (h0 : p0) (h1 : p1) (h2 : p2) (h3 : p3) (h4 : p4) (h5 : p5) (h6 : p6) (h7 : p7) (h8 : p8) (h9 : p9) (h10 : p10) (h11 : p11) (h12 : p12) (h13 : p13) (h14 : p14) (h15 : p15) (h16 : p16) (h17 : p17) (h18 : p18) (h19 : p19) (h20 : p20) (h21 : p21) : p0 ∧ (p1 ∧ (p2 ∧ (p3 ∧ (p4 ∧ (p5 ∧ (p6 ∧ (p7 ∧ (p8 ∧ (p9 ∧ (p10 ∧ (p11 ∧ (p12 ∧ (p13 ∧ (p14 ∧ (p15 ∧ (p16 ∧ (p17 ∧ (p18 ∧ (p19 ∧ (p20 ∧ (p21 ∧ True))))))))))))))))))))) := ⟨h0, h1, h2, h3, h4, h5, h6, h7, h8, h9, h10, h11, h12, h13, h14, h15, h16, h17, h18, h19, h20, h21, trivial⟩
theorem _root_.Go.Ideal.u23 {p0 p1 p2 p3 p4 p5 p6 p7 p8 p9 p10 p11 p12 p13 p14 p15 p16 p17 p18 p19 p20 p21 p22 : Prop} (h0 : p0) (h1 : p1) (h2 : p2) (h3 : p3) (h4 : p4) (h5 : p5) (h6 : p6) (h7 : p7) (h8 : p8) (h9 : p9) (h10 : p10) (h11 : p11) (h12 : p12) (h13 : p13) (h14 : p14) (h15 : p15) (h16 : p16) (h17 : p17) (h18 : p18) (h19 : p19) (h20 : p20) (h21 : p21) (h22 : p22) : p0 ∧ (p1 ∧ (p2 ∧ (p3 ∧ (p4 ∧ (p5 ∧ (p6 ∧ (p7 ∧ (p8 ∧ (p9 ∧ (p10 ∧ (p11 ∧ (p12 ∧ (p13 ∧ (p14 ∧ (p15 ∧ (p16 ∧ (p17 ∧ (p18 ∧ (p19 ∧ (p20 ∧ (p21 ∧ (p22 ∧ True)))))))))))))))))))))) := ⟨h0, h1, h2, h3, h4, h5, h6, h7, h8, h9, h10, h11, h12, h13, h14, h15, h16, h17, h18, h19, h20, h21, h22, trivial⟩
theorem _root_.Go.Ideal.u24 {p0 p1 p2 p3 p4 p5 p6 p7 p8 p9 p10 p11 p12 p13 p14 p15 p16 p17 p18 p19 p20 p21 p22 p23 : Prop} (h0 : p0) (h1 : p1) (h2 : p2) (h3 : p3) (h4 : p4) (h5 : p5) (h6 : p6) (h7 : p7) (h8 : p8) (h9 : p9) (h10 : p10) (h11 : p11) (h12 : p12) (h13 : p13) (h14 : p14) (h15 : p15) (h16 : p16) (h17 : p17) (h18 : p18) (h19 : p19) (h20 : p20) (h21 : p21) (h22 : p22) (h23 : p23) : p0 ∧ (p1 ∧ (p2 ∧ (p3 ∧ (p4 ∧ (p5 ∧ (p6 ∧ (p7 ∧ (p8 ∧ (p9 ∧ (p10 ∧ (p11 ∧ (p12 ∧ (p13 ∧ (p14 ∧ (p15 ∧ (p16 ∧ (p17 ∧ (p18 ∧ (p19 ∧ (p20 ∧ (p21 ∧ (p22 ∧ (p23 ∧ True))))))))))))))))))))))) := ⟨h0, h1, h2, h3, h4, h5, h6, h7, h8, h9, h10, h11, h12, h13, h14, h15, h16, h17, h18, h19, h20, h21, h22, h23, trivial⟩
theorem _root_.Go.Ideal.u25 {p0 p1 p2 p3 p4 p5 p6 p7 p8 p9 p10 p11 p12 p13 p14 p15 p16 p17 p18 p19 p20 p21 p22 p23 p24 : Prop} (h0 : p0) (h1 : p1) (h2 : p2) (h3 : p3) (h4 : p4) (h5 : p5) (h6 : p6) (h7 : p7) (h8 : p8) (h9 : p9) (h10 : p10) (h11 : p11) (h12 : p12) (h13 : p13) (h14 : p14) (h15 : p15) (h16 : p16) (h17 : p17) (h18 : p18) (h19 : p19) (h20 : p20) (h21 : p21) (h22 : p22) (h23 : p23) (h24 : p24) : p0 ∧ (p1 ∧ (p2 ∧ (p3 ∧ (p4 ∧ (p5 ∧ (p6 ∧ (p7 ∧ (p8 ∧ (p9 ∧ (p10 ∧ (p11 ∧ (p12 ∧ (p13 ∧ (p14 ∧ (p15 ∧ (p16 ∧ (p17 ∧ (p18 ∧ (p19 ∧ (p20 ∧ (p21 ∧ (p22 ∧ (p23 ∧ (p24 ∧ True)))))))))))))))))))))))) := ⟨h0, h1, h2, h3, h4, h5, h6, h7, h8, h9, h10, h11, h12, h13, h14, h15, h16, h17, h18, h19, h20, h21, h22, h23, h24, trivial⟩
theorem _root_.Go.Ideal.u26 {p0 p1 p2 p3 p4 p5 p6 p7 p8 p9 p10 p11 p12 p13 p14 p15 p16 p17 p18 p19 p20 p21 p22 p23 p24 p25 : Prop} (h0 : p0) (h1 : p1) (h2 : p2) (h3 : p3) (h4 : p4) (h5 : p5) (h6 : p6) (h7 : p7) (h8 : p8) (h9 : p9) (h10 : p10) (h11 : p11) (h12 : p12) (h13 : p13) (h14 : p14) (h15 : p15) (h16 : p16) (h17 : p17) (h18 : p18) (h19 : p19) (h20 : p20) (h21 : p21) (h22 : p22) (h23 : p23) (h24 : p24) (h25 : p25) : p0 ∧ (p1 ∧ (p2 ∧ (p3 ∧ (p4 ∧ (p5 ∧ (p6 ∧ (p7 ∧ (p8 ∧ (p9 ∧ (p10 ∧ (p11 ∧ (p12 ∧ (p13 ∧ (p14 ∧ (p15 ∧ (p16 ∧ (p17 ∧ (p18 ∧ (p19 ∧ (p20 ∧ (p21 ∧ (p22 ∧ (p23 ∧ (p24 ∧ (p25 ∧ True))))))))))))))))))))))))) := ⟨h0, h1, h2, h3, h4, h5, h6, h7, h8, h9, h10, h11, h12, h13, h14, h15, h16, h17, h18, h19, h20, h21, h22, h23, h24, h25, trivial⟩
theorem _root_.Go.Ideal.u27 {p0 p1 p2 p3 p4 p5 p6 p7 p8 p9 p10 p11 p12 p13 p14 p15 p16 p17 p18 p19 p20 p21 p22 p23 p24 p25 p26 : Prop} (h0 : p0) (h1 : p1) (h2 : p2) (h3 : p3) (h4 : p4) (h5 : p5) (h6 : p6) (h7 : p7) (h8 : p8) (h9 : p9) (h10 : p10) (h11 : p11) (h12 : p12) (h13 : p13) (h14 : p14) (h15 : p15) (h16 : p16) (h17 : p17) (h18 : p18) (h19 : p19) (h20 : p20) (h21 : p21) (h22 : p22) (h23 : p23) (h24 : p24) (h25 : p25) (h26 : p26) : p0 ∧ (p1 ∧ (p2 ∧ (p3 ∧ (p4 ∧ (p5 ∧ (p6 ∧ (p7 ∧ (p8 ∧ (p9 ∧ (p10 ∧ (p11 ∧ (p12 ∧ (p13 ∧ (p14 ∧ (p15 ∧ (p16 ∧ (p17 ∧ (p18 ∧ (p19 ∧ (p20 ∧ (p21 ∧ (p22 ∧ (p23 ∧ (p24 ∧ (p25 ∧ (p26 ∧ True)))))))))))))))))))))))))) := ⟨h0, h1, h2, h3, h4, h5, h6, h7, h8, h9, h10, h11, h12, h13, h14, h15, h16, h17, h18, h19, h20, h21, h22, h23, h24, h25, h26, trivial⟩
theorem _root_.Go.Ideal.u28 {p0 p1 p2 p3 p4 p5 p6 p7 p8 p9 p10 p11 p12 p13 p14 p15 p16 p17 p18 p19 p20 p21 p22 p23 p24 p25 p26 p27 : Prop} (h0 : p0) (h1 : p1) (h2 : p2) (h3 : p3) (h4 : p4) (h5 : p5) (h6 : p6) (h7 : p7) (h8 : p8) (h9 : p9) (h10 : p10) (h11 : p11) (h12 : p12) (h13 : p13) (h14 : p14) (h15 : p15) (h16 : p16) (h17 : p17) (h18 : p18) (h19 : p19) (h20 : p20) (h21 : p21) (h22 : p22) (h23 : p23) (h24 : p24) (h25 : p25) (h26 : p26) (h27 : p27) : p0 ∧ (p1 ∧ (p2 ∧ (p3 ∧ (p4 ∧ (p5 ∧ (p6 ∧ (p7 ∧ (p8 ∧ (p9 ∧ (p10 ∧ (p11 ∧ (p12 ∧ (p13 ∧ (p14 ∧ (p15 ∧ (p16 ∧ (p17 ∧ (p18 ∧ (p19 ∧ (p20 ∧ (p21 ∧ (p22 ∧ (p23 ∧ (p24 ∧ (p25 ∧ (p26 ∧ (p27 ∧ True))))))))))))))))))))))))))) := ⟨h0, h1, h2, h3, h4, h5, h6, h7, h8, h9, h10, h11, h12, h13, h14, h15, h16, h17, h18, h19, h20, h21, h22, h23, h24, h25, h26, h27, trivial⟩
theorem _root_.Go.Ideal.u29 {p0 p1 p2 p3 p4 p5 p6 p7 p8 p9 p10 p11 p12 p13 p14 p15 p16 p17 p18 p19 p20 p21 p22 p23 p24 p25 p26 p27 p28 : Prop} (h0 : p0) (h1 : p1) (h2 : p2) (h3 : p3) (h4 : p4) (h5 : p5) (h6 : p6) (h7 : p7) (h8 : p8) (h9 : p9) (h10 : p10) (h11 : p11) (h12 : p12) (h13 : p13) (h14 : p14) (h15 : p15) (h16 : p16) (h17 : p17) (h18 : p18) (h19 : p19) (h20 : p20) (h21 : p21) (h22 : p22) (h23 : p23) (h24 : p24) (h25 : p25) (h26 : p26) (h27 : p27) (h28 : p28) : p0 ∧ (p1 ∧ (p2 ∧ (p3 ∧ (p4 ∧ (p5 ∧ (p6 ∧ (p7 ∧ (p8 ∧ (p9 ∧ (p10 ∧ (p11 ∧ (p12 ∧ (p13 ∧ (p14 ∧ (p15 ∧ (p16 ∧ (p17 ∧ (p18 ∧ (p19 ∧ (p20 ∧ (p21 ∧ (p22 ∧ (p23 ∧ (p24 ∧ (p25 ∧ (p26 ∧ (p27 ∧ (p28 ∧ True)))))))))))))))))))))))))))) := ⟨h0, h1, h2, h3, h4, h5, h6, h7, h8, h9, h10, h11, h12, h13, h14, h15, h16, h17, h18, h19, h20, h21, h22, h23, h24, h25, h26, h27, h28, trivial⟩
theorem _root_.Go.Ideal.u30 {p0 p1 p2 p3 p4 p5 p6 p7 p8 p9 p10 p11 p12 p13 p14 p15 p16 p17 p18 p19 p20 p21 p22 p23 p24 p25 p26 p27 p28 p29 : Prop} (h0 : p0) (h1 : p1) (h2 : p2) (h3 : p3) (h4 : p4) (h5 : p5) (h6 : p6) (h7 : p7) (h8 : p8) (h9 : p9) (h10 : p10) (h11 : p11) (h12 : p12) (h13 : p13) (h14 : p14) (h15 : p15) (h16 : p16) (h17 : p17) (h18 : p18) (h19 : p19) (h20 : p20) (h21 : p21) (h22 : p22) (h23 : p23) (h24 : p24) (h25 : p25) (h26 : p26) (h27 : p27) (h28 : p28) (h29 : p29) : p0 ∧ (p1 ∧ (p2 ∧ (p3 ∧ (p4 ∧ (p5 ∧ (p6 ∧ (p7 ∧ (p8 ∧ (p9 ∧ (p10 ∧ (p11 ∧ (p12 ∧ (p13 ∧ (p14 ∧ (p15 ∧ (p16 ∧ (p17 ∧ (p18 ∧ (p19 ∧ (p20 ∧ (p21 ∧ (p22 ∧ (p23 ∧ (p24 ∧ (p25 ∧ (p26 ∧ (p27 ∧ (p28 ∧ (p29 ∧ True))))))))))))))))))))))))))))) := ⟨h0, h1, h2, h3, h4, h5, h6, h7, h8, h9, h10, h11, h12, h13, h14, h15, h16, h17, h18, h19, h20, h21, h22, h23, h24, h25, h26, h27, h28, h29, trivial⟩
theorem mixed : Try.prog.follows .mixedOrders = true := by kernel_rfl

/-- The first n are the same. -/
def sameF (n : Nat) (f g : Nat → Int) : Bool := decide (∀ k, k < n → f k = g k)
theorem sameF_iff {n : Nat} {f g : Nat → Int} : sameF n f g = true ↔ ∀ k, k < n → f k = g k := by simp [sameF]
def sameN (l1 l2 : N) (f g : Nat → Int) : B := match l1, l2 with
  | .c a, .c b => if Nat.beq a b then .s (sameF a f g) else .c false
  | a, b => .s (decide (a.val = b.val) && sameF a.val f g)
theorem sameN_val (l1 l2 : N) (f g : Nat → Int) : (sameN l1 l2 f g).val = (decide (l1.val = l2.val) && sameF l1.val f g) := by
  unfold sameN
  split
  · rename_i a b
    by_cases e : a = b
    · subst e; simp [B.val, N.val]
    · have : ¬ Nat.beq a b = true := fun h => e (Nat.eq_of_beq_eq_true h)
      simp [this, B.val, N.val, e]
  · rfl
def lenOk (l : N) : List Prop := match l with
  | .c a => if Nat.blt a 9223372036854775807 then [] else [False]
  | .s a => [a < 9223372036854775807]
theorem lenOk_ok {l : N} (h : ∀ q, q ∈ lenOk l → q) : l.val < 9223372036854775807 := by
  cases l with
  | c a =>
    simp only [lenOk] at h
    by_cases e : Nat.blt a 9223372036854775807 = true
    · exact Nat.le_of_ble_eq_true e
    · rw [if_neg e] at h; exact (h False (by simp)).elim
  | s a => exact h (a < 9223372036854775807) (by simp [lenOk])

theorem callKeep {f : FuncId} {xs : List V} {H : Hp} {v2 : V} {bs : List (Option Blk)} {n2 : Nat} {l : List Nat} {spec : Spec} (hs : SpecOk Try.prog spec) {n : Nat} (h : ∃ hh, vcOf (runCall Try.prog spec noL n f xs H hh) fun v H' => retP H.n l v H' v2 bs n2) : CallOk Try.prog f xs (St H) v2 (St (Hm bs n2)) := by
  obtain ⟨hh, hb⟩ := h
  exact CallQ.keep (CallQ.run hs noL_ok mixed ⟨hh, vcOf_mono hb fun v H' hv => ⟨_, hv⟩⟩)

theorem CtOk.val {P : Program} {f : FuncId} {xs : List V} {H : Hp} {l up : List Nat} {v v' : V} {bs : List (Option Blk)} {n2 : Nat} {cs : List Prop} {xs0 : List V} {bs0 : List (Option Blk)} (h : CtOk P f xs H ⟨l, up, v, bs, n2, cs⟩ xs0 bs0) (hv : ∀ r y, VR r v y → VR r v' y) : CtOk P f xs H ⟨l, up, v', bs, n2, cs⟩ xs0 bs0 :=
  ⟨h.nodup, h.lt, h.up, h.n, h.n', h.pre, h.ro, h.wr, h.args, h.call.to rfl rfl hv⟩

theorem blt_of {a b : Nat} (h : a < b) : Nat.blt a b = true := Nat.ble_eq_true_of_le h

/-! ### Below -/

theorem below1 (a b : Int) : ∃ hh, vcOf (runCall Try.prog noSpec noL 100 49 [.int .i64 (.s a), .int .i64 (.s b)] H0 hh) (fun v _ => V.leP (.bool (.s (decide (0 ≤ a) && decide (a < b)))) v) := by

  rcases Bool.eq_false_or_eq_true (Decidable.decide (a ≥ (0 : Int))) with h0 | h0
  ·
    have k1 : (Decidable.decide ((0 : Int) ≤ a) && Decidable.decide (a < b)) = Decidable.decide (a < b) := by (simp_all; done)
    refine vcIntro [true] (And.intro (And.intro h0 True.intro) k1) ?_
    kernel_rfl
  ·
    have k2 : (Decidable.decide ((0 : Int) ≤ a) && Decidable.decide (a < b)) = Bool.false := by (simp at *; intros; omega)
    refine vcIntro [false] (And.intro (And.intro h0 True.intro) k2) ?_
    kernel_rfl
def below : Spec := spU 49 fun xs => match xs with
  | [.int .i64 (.s a), .int .i64 (.s b)] => some (.bool (.s (decide (0 ≤ a) && decide (a < b))))
  | _ => none
theorem below_ok : SpecOk Try.prog below := spU_ok fun xs v h => by
  split at h
  · simp only [Option.some.injEq] at h; subst h
    exact ⟨rfl, rfl, (CallQ.run noSpec_ok noL_ok mixed (below1 _ _)).ok rfl⟩
  · simp at h

end Go.Ideal.L1
