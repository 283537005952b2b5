/- The law FnExactTraceSpans: the program's function returns what the reference's returns, and shares no memory. -/
import Derived.Test.YtagemgimccocdaaWalkB
import Derived.Test.YtagemgimccocdaaWalkW
namespace Go.Proofs.Ytagemgimccocdaa
open Go.RowKit

set_option maxHeartbeats 1000000 in
set_option maxRecDepth 100000 in
theorem FnExactTraceSpans_c (a0 : Option Addr) (len0 cap0 : Nat) (z0 : List Int) (w : World) (h0 : IsRow .i64 w a0 len0 cap0 z0) :
    Calls Try.prog 4 #[.slice a0 len0 cap0] w fun e w' => e = .returned (.bool true) ∧ Below w.heap.size w w' := by
  by_cases hs : len0 ≤ 1048576
  · have hl0 := hs
    obtain ⟨xs0, hx0, r0⟩ := h0.ri hl0
    have hI0 : ¬ (1048576 : Int) < (len0 : Int) := by omega
    have hb0 : xs0.length ≤ 1048576 := by omega
    clear h0 hx0
    have H0 := Lib.hid r0; clear r0
    clear hs
    generalize hh : spansL xs0 = d
    have Gd := Lib.hid hh; clear hh
    go_enter Try.func4, Try.ntmps4
    go_wp2_with fail
    refine (toIntS_c xs0 _ _ (H0.out.below (Below.refl _ _))).mono ?_; rintro e w1 ⟨u1, rfl, o, b⟩
    have B_w_w1 := Lib.hid b
    have O_u1 := Lib.hid o; clear o b
    go_wp2_with fail
    refine (specTraceSpans_c xs0 _ _ O_u1.out.ri).mono ?_; rintro e w2 ⟨u2, rfl, o, b⟩
    try rw [Gd.out]
    try rw [Gd.out] at o
    have O_u1_2 := Lib.hid (O_u1.out.below b)
    have B_w_w2 := Lib.hid (B_w_w1.out.trans (b.mono B_w_w1.out.size))
    have B_w1_w2 := Lib.hid b
    have O_u2 := Lib.hid o; clear o b
    have W0 := Lib.hid O_u2.out.ri
    go_wp2_with fail
    refine (toIntS_c xs0 _ _ (H0.out.below B_w_w2.out)).mono ?_; rintro e w3 ⟨u3, rfl, o, b⟩
    have B_w_w3 := Lib.hid (B_w_w2.out.trans (b.mono B_w_w2.out.size))
    have B_w1_w3 := Lib.hid (B_w1_w2.out.trans (b.mono B_w1_w2.out.size))
    have B_w2_w3 := Lib.hid b
    have O_u3 := Lib.hid o; clear o b
    go_wp2_with fail
    refine (implTraceSpans_c xs0 _ _ O_u3.out.ri).mono ?_; rintro e w4 ⟨u4, rfl, o, b⟩
    try rw [Gd.out]
    try rw [Gd.out] at o
    have O_u3_4 := Lib.hid (O_u3.out.below b)
    have B_w_w4 := Lib.hid (B_w_w3.out.trans (b.mono B_w_w3.out.size))
    have B_w1_w4 := Lib.hid (B_w1_w3.out.trans (b.mono B_w1_w3.out.size))
    have B_w2_w4 := Lib.hid (B_w2_w3.out.trans (b.mono B_w2_w3.out.size))
    have B_w3_w4 := Lib.hid b
    have O_u4 := Lib.hid o; clear o b
    go_wp2_with fail
    refine (eqIntS_c d d _ _ _ (O_u4.out.ri) (W0.out.below B_w2_w4.out)).mono ?_; rintro e w5 ⟨rfl, b⟩
    rw [decide_eq_true (rfl : d = d)]
    have O_u3_5 := Lib.hid (O_u3_4.out.below b)
    have O_u4_5 := Lib.hid (O_u4.out.below b)
    have B_w_w5 := Lib.hid (B_w_w4.out.trans (b.mono B_w_w4.out.size))
    have B_w1_w5 := Lib.hid (B_w1_w4.out.trans (b.mono B_w1_w4.out.size))
    have B_w2_w5 := Lib.hid (B_w2_w4.out.trans (b.mono B_w2_w4.out.size))
    have B_w3_w5 := Lib.hid (B_w3_w4.out.trans (b.mono B_w3_w4.out.size))
    have B_w4_w5 := Lib.hid b
    clear b
    go_wp2_with fail
    refine (toIntS_c xs0 _ _ (H0.out.below B_w_w5.out)).mono ?_; rintro e w6 ⟨u5, rfl, o, b⟩
    have O_u3_6 := Lib.hid (O_u3_5.out.below b)
    have O_u4_6 := Lib.hid (O_u4_5.out.below b)
    have B_w_w6 := Lib.hid (B_w_w5.out.trans (b.mono B_w_w5.out.size))
    have B_w1_w6 := Lib.hid (B_w1_w5.out.trans (b.mono B_w1_w5.out.size))
    have B_w2_w6 := Lib.hid (B_w2_w5.out.trans (b.mono B_w2_w5.out.size))
    have B_w3_w6 := Lib.hid (B_w3_w5.out.trans (b.mono B_w3_w5.out.size))
    have B_w4_w6 := Lib.hid (B_w4_w5.out.trans (b.mono B_w4_w5.out.size))
    have O_u5 := Lib.hid o; clear o b
    go_wp2_with fail
    refine (eqIntS_c xs0 xs0 _ _ _ (O_u3_6.out.ri) (O_u5.out.ri)).mono ?_; rintro e w7 ⟨rfl, b⟩
    rw [decide_eq_true (rfl : xs0 = xs0)]
    have O_u3_7 := Lib.hid (O_u3_6.out.below b)
    have O_u4_7 := Lib.hid (O_u4_6.out.below b)
    have O_u5_7 := Lib.hid (O_u5.out.below b)
    have B_w_w7 := Lib.hid (B_w_w6.out.trans (b.mono B_w_w6.out.size))
    have B_w1_w7 := Lib.hid (B_w1_w6.out.trans (b.mono B_w1_w6.out.size))
    have B_w2_w7 := Lib.hid (B_w2_w6.out.trans (b.mono B_w2_w6.out.size))
    have B_w3_w7 := Lib.hid (B_w3_w6.out.trans (b.mono B_w3_w6.out.size))
    have B_w4_w7 := Lib.hid (B_w4_w6.out.trans (b.mono B_w4_w6.out.size))
    have B_w6_w7 := Lib.hid b
    clear b
    go_wp2_with fail
    refine (markIntS_c xs0 (1) _ _ _ O_u3_7.out (by omega) (by omega)).mono ?_; rintro e w8 ⟨rfl, o, gr⟩
    have O_u4_8 := Lib.hid (O_u4_7.out.later (fun k hk => (O_u3.out.lt k hk).2) (Nat.le_refl _) gr)
    have B_w_w8 := Lib.hid (Below.mark B_w_w7.out O_u3_7.out gr B_w_w2.out.size B_w_w7.out.size)
    have B_w1_w8 := Lib.hid (Below.mark B_w1_w7.out O_u3_7.out gr B_w1_w2.out.size B_w1_w7.out.size)
    have B_w2_w8 := Lib.hid (Below.mark B_w2_w7.out O_u3_7.out gr (Nat.le_refl _) B_w2_w7.out.size)
    have O_u3_m := Lib.hid o; clear o gr
    go_wp2_with fail
    refine (eqIntS_c d d _ _ _ (O_u4_8.out.ri) (W0.out.below B_w2_w8.out)).mono ?_; rintro e w9 ⟨rfl, b⟩
    rw [decide_eq_true (rfl : d = d)]
    have O_u4_9 := Lib.hid (O_u4_8.out.below b)
    have B_w_w9 := Lib.hid (B_w_w8.out.trans (b.mono B_w_w8.out.size))
    have B_w1_w9 := Lib.hid (B_w1_w8.out.trans (b.mono B_w1_w8.out.size))
    have B_w2_w9 := Lib.hid (B_w2_w8.out.trans (b.mono B_w2_w8.out.size))
    clear b
    have hL : d.length ≤ 1099511627776 := O_u4_9.out.2
    go_wp2_with fail
    refine (markIntS_c d (1) _ _ _ O_u4_9.out (by omega) (by omega)).mono ?_; rintro e w10 ⟨rfl, o, gr⟩
    have B_w_w10 := Lib.hid (Below.mark B_w_w9.out O_u4_9.out gr B_w_w3.out.size B_w_w9.out.size)
    have B_w1_w10 := Lib.hid (Below.mark B_w1_w9.out O_u4_9.out gr B_w1_w3.out.size B_w1_w9.out.size)
    have B_w2_w10 := Lib.hid (Below.mark B_w2_w9.out O_u4_9.out gr B_w2_w3.out.size B_w2_w9.out.size)
    have O_u4_m := Lib.hid o; clear o gr
    go_wp2_with fail
    refine (heldIntS_c d.length 1 _ _ O_u4_m.out.ri (by omega) (by omega)).mono ?_; rintro e _ ⟨rfl, rfl⟩
    go_wp2_with fail
    refine (toIntS_c xs0 _ _ (H0.out.below B_w_w10.out)).mono ?_; rintro e w11 ⟨u6, rfl, o, b⟩
    have O_u4_11 := Lib.hid (O_u4_m.out.below b)
    have B_w_w11 := Lib.hid (B_w_w10.out.trans (b.mono B_w_w10.out.size))
    have B_w1_w11 := Lib.hid (B_w1_w10.out.trans (b.mono B_w1_w10.out.size))
    have B_w2_w11 := Lib.hid (B_w2_w10.out.trans (b.mono B_w2_w10.out.size))
    have O_u6 := Lib.hid o; clear o b
    go_wp2_with fail
    refine (implTraceSpans_c xs0 _ _ O_u6.out.ri).mono ?_; rintro e w12 ⟨u7, rfl, o, b⟩
    try rw [Gd.out]
    try rw [Gd.out] at o
    have O_u4_12 := Lib.hid (O_u4_11.out.below b)
    have O_u6_12 := Lib.hid (O_u6.out.below b)
    have B_w_w12 := Lib.hid (B_w_w11.out.trans (b.mono B_w_w11.out.size))
    have B_w1_w12 := Lib.hid (B_w1_w11.out.trans (b.mono B_w1_w11.out.size))
    have B_w2_w12 := Lib.hid (B_w2_w11.out.trans (b.mono B_w2_w11.out.size))
    have B_w11_w12 := Lib.hid b
    have O_u7 := Lib.hid o; clear o b
    go_wp2_with fail
    refine (eqIntS_c d d _ _ _ (O_u7.out.ri) (W0.out.below B_w2_w12.out)).mono ?_; rintro e w13 ⟨rfl, b⟩
    rw [decide_eq_true (rfl : d = d)]
    have O_u4_13 := Lib.hid (O_u4_12.out.below b)
    have O_u7_13 := Lib.hid (O_u7.out.below b)
    have B_w_w13 := Lib.hid (B_w_w12.out.trans (b.mono B_w_w12.out.size))
    have B_w1_w13 := Lib.hid (B_w1_w12.out.trans (b.mono B_w1_w12.out.size))
    have B_w2_w13 := Lib.hid (B_w2_w12.out.trans (b.mono B_w2_w12.out.size))
    have B_w11_w13 := Lib.hid (B_w11_w12.out.trans (b.mono B_w11_w12.out.size))
    have B_w12_w13 := Lib.hid b
    clear b
    go_wp2_with fail
    refine (heldIntS_c d.length 1 _ _ O_u4_13.out.ri (by omega) (by omega)).mono ?_; rintro e _ ⟨rfl, rfl⟩
    go_wp2_with fail
    go_ret
    exact ⟨rfl, B_w_w13.out⟩
  · clear h0
    have hI : (1048576 : Int) < (len0 : Int) := by omega
    go_enter Try.func4, Try.ntmps4
    go_wp2_with fail
    go_ret
    exact ⟨rfl, Below.refl _ _⟩
end Go.Proofs.Ytagemgimccocdaa
