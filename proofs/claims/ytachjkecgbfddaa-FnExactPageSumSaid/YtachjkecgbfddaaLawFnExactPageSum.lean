/- The law FnExactPageSum: the program's function returns what the reference's returns, and shares no memory. -/
import Derived.Test.YtachjkecgbfddaaWalkA
namespace Go.Proofs.Ytachjkecgbfddaa
open Go.RowKit

set_option maxHeartbeats 1000000 in
set_option maxRecDepth 100000 in
theorem FnExactPageSum_c (a0 : Option Addr) (len0 cap0 : Nat) (z0 : List Int) (w : World) (h0 : IsRow .i64 w a0 len0 cap0 z0) :
    Calls Try.prog 4 #[.slice a0 len0 cap0] w fun e w' => e = .returned (.bool true) ∧ Below w.heap.size w w' := by
  by_cases hs : len0 ≤ 1048576
  · have hl0 := hs
    obtain ⟨xs0, hx0, r0⟩ := h0.ri hl0
    have hI0 : ¬ (1048576 : Int) < (len0 : Int) := by omega
    have hb0 : xs0.length ≤ 1048576 := by omega
    clear h0 hx0
    have H0 := Lib.hid r0; clear r0
    clear hs
    generalize hh : pageSum xs0 = t
    have Gt := Lib.hid hh; clear hh
    go_enter Try.func4, Try.ntmps4
    go_wp2_with fail
    refine (toIntS_c xs0 _ _ (H0.out.below (Below.refl _ _))).mono ?_; rintro e w1 ⟨u1, rfl, o, b⟩
    have B_w_w1 := Lib.hid b
    have O_u1 := Lib.hid o; clear o b
    go_wp2_with fail
    refine (specPageSum_c xs0 _ _ O_u1.out.ri).mono ?_; rintro e _ ⟨rfl, rfl⟩
    try rw [Gt.out]
    go_wp2_with fail
    refine (toIntS_c xs0 _ _ (H0.out.below B_w_w1.out)).mono ?_; rintro e w2 ⟨u3, rfl, o, b⟩
    have B_w_w2 := Lib.hid (B_w_w1.out.trans (b.mono B_w_w1.out.size))
    have B_w1_w2 := Lib.hid b
    have O_u3 := Lib.hid o; clear o b
    go_wp2_with fail
    refine (implPageSum_c xs0 _ _ O_u3.out.ri).mono ?_; rintro e w3 ⟨rfl, b⟩
    try rw [Gt.out]
    have O_u3_3 := Lib.hid (O_u3.out.below b)
    have B_w_w3 := Lib.hid (B_w_w2.out.trans (b.mono B_w_w2.out.size))
    have B_w1_w3 := Lib.hid (B_w1_w2.out.trans (b.mono B_w1_w2.out.size))
    have B_w2_w3 := Lib.hid b
    clear b
    go_wp2_with fail
    refine (toIntS_c xs0 _ _ (H0.out.below B_w_w3.out)).mono ?_; rintro e w4 ⟨u5, rfl, o, b⟩
    have O_u3_4 := Lib.hid (O_u3_3.out.below b)
    have B_w_w4 := Lib.hid (B_w_w3.out.trans (b.mono B_w_w3.out.size))
    have B_w1_w4 := Lib.hid (B_w1_w3.out.trans (b.mono B_w1_w3.out.size))
    have B_w2_w4 := Lib.hid (B_w2_w3.out.trans (b.mono B_w2_w3.out.size))
    have O_u5 := Lib.hid o; clear o b
    go_wp2_with fail
    refine (eqIntS_c xs0 xs0 _ _ _ (O_u3_4.out.ri) (O_u5.out.ri)).mono ?_; rintro e w5 ⟨rfl, b⟩
    rw [decide_eq_true (rfl : xs0 = xs0)]
    have O_u3_5 := Lib.hid (O_u3_4.out.below b)
    have O_u5_5 := Lib.hid (O_u5.out.below b)
    have B_w_w5 := Lib.hid (B_w_w4.out.trans (b.mono B_w_w4.out.size))
    have B_w1_w5 := Lib.hid (B_w1_w4.out.trans (b.mono B_w1_w4.out.size))
    have B_w2_w5 := Lib.hid (B_w2_w4.out.trans (b.mono B_w2_w4.out.size))
    have B_w4_w5 := Lib.hid b
    clear b
    go_wp2_with fail
    go_ret
    exact ⟨rfl, B_w_w5.out⟩
  · clear h0
    have hI : (1048576 : Int) < (len0 : Int) := by omega
    go_enter Try.func4, Try.ntmps4
    go_wp2_with fail
    go_ret
    exact ⟨rfl, Below.refl _ _⟩
end Go.Proofs.Ytachjkecgbfddaa
