/- The law FnExactFaultsBest: the program's function returns what the reference's returns, and shares no memory. -/
import Derived.Test.YtagemgimccocdaaWalkN
import Derived.Test.YtagemgimccocdaaWalkB
namespace Go.Proofs.Ytagemgimccocdaa
open Go.RowKit

set_option maxHeartbeats 1000000 in
set_option maxRecDepth 100000 in
theorem FnExactFaultsBest_c (a0 : Option Addr) (len0 cap0 : Nat) (z0 : List Int) (n1 : Int) (w : World) (h0 : IsRow .i64 w a0 len0 cap0 z0) (_h1 : (Lit.int .i64 n1).wf = true) :
    Calls Try.prog 8 #[.slice a0 len0 cap0, .int .i64 n1] w fun e w' => e = .returned (.bool true) ∧ Below w.heap.size w w' := by
  by_cases hs : len0 ≤ 1048576
  · have hl0 := hs
    obtain ⟨xs0, hx0, r0⟩ := h0.ri hl0
    have hI0 : ¬ (1048576 : Int) < (len0 : Int) := by omega
    have hb0 : xs0.length ≤ 1048576 := by omega
    clear h0 hx0
    have H0 := Lib.hid r0; clear r0
    clear hs
    generalize hh : faultsBest xs0 n1 = t
    have Gt := Lib.hid hh; clear hh
    go_enter Try.func8, Try.ntmps8
    go_wp2_with fail
    refine (toIntS_c xs0 _ _ (H0.out.below (Below.refl _ _))).mono ?_; rintro e w1 ⟨u1, rfl, o, b⟩
    have B_w_w1 := Lib.hid b
    have O_u1 := Lib.hid o; clear o b
    go_wp2_with fail
    refine (specFaultsBest_c xs0 n1 _ _ O_u1.out.ri).mono ?_; rintro e w2 ⟨rfl, b⟩
    try rw [Gt.out]
    have O_u1_2 := Lib.hid (O_u1.out.below b)
    have B_w_w2 := Lib.hid (B_w_w1.out.trans (b.mono B_w_w1.out.size))
    have B_w1_w2 := Lib.hid b
    clear b
    go_wp2_with fail
    refine (toIntS_c xs0 _ _ (H0.out.below B_w_w2.out)).mono ?_; rintro e w3 ⟨u3, rfl, o, b⟩
    have B_w_w3 := Lib.hid (B_w_w2.out.trans (b.mono B_w_w2.out.size))
    have B_w1_w3 := Lib.hid (B_w1_w2.out.trans (b.mono B_w1_w2.out.size))
    have O_u3 := Lib.hid o; clear o b
    go_wp2_with fail
    refine (implFaultsBest_c xs0 n1 _ _ O_u3.out.ri O_u3.out.capOk).mono ?_; rintro e w4 ⟨rfl, b⟩
    try rw [Gt.out]
    have O_u3_4 := Lib.hid (O_u3.out.below b)
    have B_w_w4 := Lib.hid (B_w_w3.out.trans (b.mono B_w_w3.out.size))
    have B_w1_w4 := Lib.hid (B_w1_w3.out.trans (b.mono B_w1_w3.out.size))
    have B_w3_w4 := Lib.hid b
    clear b
    go_wp2_with fail
    refine (toIntS_c xs0 _ _ (H0.out.below B_w_w4.out)).mono ?_; rintro e w5 ⟨u5, rfl, o, b⟩
    have O_u3_5 := Lib.hid (O_u3_4.out.below b)
    have B_w_w5 := Lib.hid (B_w_w4.out.trans (b.mono B_w_w4.out.size))
    have B_w1_w5 := Lib.hid (B_w1_w4.out.trans (b.mono B_w1_w4.out.size))
    have B_w3_w5 := Lib.hid (B_w3_w4.out.trans (b.mono B_w3_w4.out.size))
    have O_u5 := Lib.hid o; clear o b
    go_wp2_with fail
    refine (eqIntS_c xs0 xs0 _ _ _ (O_u3_5.out.ri) (O_u5.out.ri)).mono ?_; rintro e w6 ⟨rfl, b⟩
    rw [decide_eq_true (rfl : xs0 = xs0)]
    have O_u3_6 := Lib.hid (O_u3_5.out.below b)
    have O_u5_6 := Lib.hid (O_u5.out.below b)
    have B_w_w6 := Lib.hid (B_w_w5.out.trans (b.mono B_w_w5.out.size))
    have B_w1_w6 := Lib.hid (B_w1_w5.out.trans (b.mono B_w1_w5.out.size))
    have B_w3_w6 := Lib.hid (B_w3_w5.out.trans (b.mono B_w3_w5.out.size))
    have B_w5_w6 := Lib.hid b
    clear b
    go_wp2_with fail
    go_ret
    exact ⟨rfl, B_w_w6.out⟩
  · clear h0
    have hI : (1048576 : Int) < (len0 : Int) := by omega
    go_enter Try.func8, Try.ntmps8
    go_wp2_with fail
    go_ret
    exact ⟨rfl, Below.refl _ _⟩
end Go.Proofs.Ytagemgimccocdaa
