/- The law FnExactPageApply: the program's function returns what the reference's returns, and shares no memory. -/
import Derived.Test.YtnohlcffmikecaaWalkB
import Derived.Test.YtnohlcffmikecaaWalkJ
import Derived.Test.YtnohlcffmikecaaWalkK
namespace Go.Proofs.Ytnohlcffmikecaa
open Go.RowKit

set_option maxHeartbeats 1000000 in
set_option maxRecDepth 100000 in
theorem FnExactPageApply_c (a0 : Option Addr) (len0 cap0 : Nat) (z0 : List Int) (a1 : Option Addr) (len1 cap1 : Nat) (z1 : List Int) (w : World) (h0 : IsRow .i64 w a0 len0 cap0 z0) (h1 : IsRow .i64 w a1 len1 cap1 z1) :
    Calls Try.prog 4 #[.slice a0 len0 cap0, .slice a1 len1 cap1] w fun e w' => e = .returned (.bool true) ∧ Below w.heap.size w w' := by
  by_cases hs : len0 ≤ 1048576 ∧ len1 ≤ 1048576
  · obtain ⟨hl0, hl1⟩ := hs
    obtain ⟨xs0, hx0, r0⟩ := h0.ri hl0
    have hI0 : ¬ (1048576 : Int) < (len0 : Int) := by omega
    have hb0 : xs0.length ≤ 1048576 := by omega
    clear h0 hx0
    have H0 := Lib.hid r0; clear r0
    obtain ⟨xs1, hx1, r1⟩ := h1.ri hl1
    have hI1 : ¬ (1048576 : Int) < (len1 : Int) := by omega
    have hb1 : xs1.length ≤ 1048576 := by omega
    clear h1 hx1
    have H1 := Lib.hid r1; clear r1
    generalize hh : applyL xs0 xs1 = d
    have Gd := Lib.hid hh; clear hh
    generalize hh : applyOk xs0 xs1 = t
    have Gt := Lib.hid hh; clear hh
    go_enter Try.func4, Try.ntmps4
    go_wp2_with fail
    refine (toIntS_c xs0 _ _ (H0.out.below (Below.refl _ _))).mono ?_; rintro e w1 ⟨u1, rfl, o, b⟩
    have B_w_w1 := Lib.hid b
    have O_u1 := Lib.hid o; clear o b
    go_wp2_with fail
    refine (toIntS_c xs1 _ _ (H1.out.below B_w_w1.out)).mono ?_; rintro e w2 ⟨u2, rfl, o, b⟩
    have O_u1_2 := Lib.hid (O_u1.out.below b)
    have B_w_w2 := Lib.hid (B_w_w1.out.trans (b.mono B_w_w1.out.size))
    have B_w1_w2 := Lib.hid b
    have O_u2 := Lib.hid o; clear o b
    go_wp2_with fail
    refine (specPageApply_c xs0 xs1 _ _ _ O_u1_2.out.ri O_u2.out.ri).mono ?_; rintro e w3 ⟨u3, rfl, o, b⟩
    try rw [Gd.out]
    try rw [Gt.out]
    try rw [Gd.out] at o
    try rw [Gt.out] at o
    have O_u1_3 := Lib.hid (O_u1_2.out.below b)
    have O_u2_3 := Lib.hid (O_u2.out.below b)
    have B_w_w3 := Lib.hid (B_w_w2.out.trans (b.mono B_w_w2.out.size))
    have B_w1_w3 := Lib.hid (B_w1_w2.out.trans (b.mono B_w1_w2.out.size))
    have B_w2_w3 := Lib.hid b
    have O_u3 := Lib.hid o; clear o b
    have W0 := Lib.hid O_u3.out.ri
    go_wp2_with fail
    refine (toIntS_c xs0 _ _ (H0.out.below B_w_w3.out)).mono ?_; rintro e w4 ⟨u4, rfl, o, b⟩
    have B_w_w4 := Lib.hid (B_w_w3.out.trans (b.mono B_w_w3.out.size))
    have B_w1_w4 := Lib.hid (B_w1_w3.out.trans (b.mono B_w1_w3.out.size))
    have B_w2_w4 := Lib.hid (B_w2_w3.out.trans (b.mono B_w2_w3.out.size))
    have B_w3_w4 := Lib.hid b
    have O_u4 := Lib.hid o; clear o b
    go_wp2_with fail
    refine (toIntS_c xs1 _ _ (H1.out.below B_w_w4.out)).mono ?_; rintro e w5 ⟨u5, rfl, o, b⟩
    have O_u4_5 := Lib.hid (O_u4.out.below b)
    have B_w_w5 := Lib.hid (B_w_w4.out.trans (b.mono B_w_w4.out.size))
    have B_w1_w5 := Lib.hid (B_w1_w4.out.trans (b.mono B_w1_w4.out.size))
    have B_w2_w5 := Lib.hid (B_w2_w4.out.trans (b.mono B_w2_w4.out.size))
    have B_w3_w5 := Lib.hid (B_w3_w4.out.trans (b.mono B_w3_w4.out.size))
    have B_w4_w5 := Lib.hid b
    have O_u5 := Lib.hid o; clear o b
    go_wp2_with fail
    refine (implPageApply_c xs0 xs1 _ _ _ O_u4_5.out.ri O_u5.out.ri).mono ?_; rintro e w6 ⟨u6, rfl, o, b⟩
    try rw [Gd.out]
    try rw [Gt.out]
    try rw [Gd.out] at o
    try rw [Gt.out] at o
    have O_u4_6 := Lib.hid (O_u4_5.out.below b)
    have O_u5_6 := Lib.hid (O_u5.out.below b)
    have B_w_w6 := Lib.hid (B_w_w5.out.trans (b.mono B_w_w5.out.size))
    have B_w1_w6 := Lib.hid (B_w1_w5.out.trans (b.mono B_w1_w5.out.size))
    have B_w2_w6 := Lib.hid (B_w2_w5.out.trans (b.mono B_w2_w5.out.size))
    have B_w3_w6 := Lib.hid (B_w3_w5.out.trans (b.mono B_w3_w5.out.size))
    have B_w4_w6 := Lib.hid (B_w4_w5.out.trans (b.mono B_w4_w5.out.size))
    have B_w5_w6 := Lib.hid b
    have O_u6 := Lib.hid o; clear o b
    go_wp2_with fail
    refine (eqIntS_c d d _ _ _ (O_u6.out.ri) (W0.out.below B_w3_w6.out)).mono ?_; rintro e w7 ⟨rfl, b⟩
    rw [decide_eq_true (rfl : d = d)]
    have O_u4_7 := Lib.hid (O_u4_6.out.below b)
    have O_u5_7 := Lib.hid (O_u5_6.out.below b)
    have O_u6_7 := Lib.hid (O_u6.out.below b)
    have B_w_w7 := Lib.hid (B_w_w6.out.trans (b.mono B_w_w6.out.size))
    have B_w1_w7 := Lib.hid (B_w1_w6.out.trans (b.mono B_w1_w6.out.size))
    have B_w2_w7 := Lib.hid (B_w2_w6.out.trans (b.mono B_w2_w6.out.size))
    have B_w3_w7 := Lib.hid (B_w3_w6.out.trans (b.mono B_w3_w6.out.size))
    have B_w4_w7 := Lib.hid (B_w4_w6.out.trans (b.mono B_w4_w6.out.size))
    have B_w5_w7 := Lib.hid (B_w5_w6.out.trans (b.mono B_w5_w6.out.size))
    have B_w6_w7 := Lib.hid b
    clear b
    go_wp2_with fail
    refine (toIntS_c xs0 _ _ (H0.out.below B_w_w7.out)).mono ?_; rintro e w8 ⟨u7, rfl, o, b⟩
    have O_u4_8 := Lib.hid (O_u4_7.out.below b)
    have O_u5_8 := Lib.hid (O_u5_7.out.below b)
    have O_u6_8 := Lib.hid (O_u6_7.out.below b)
    have B_w_w8 := Lib.hid (B_w_w7.out.trans (b.mono B_w_w7.out.size))
    have B_w1_w8 := Lib.hid (B_w1_w7.out.trans (b.mono B_w1_w7.out.size))
    have B_w2_w8 := Lib.hid (B_w2_w7.out.trans (b.mono B_w2_w7.out.size))
    have B_w3_w8 := Lib.hid (B_w3_w7.out.trans (b.mono B_w3_w7.out.size))
    have B_w4_w8 := Lib.hid (B_w4_w7.out.trans (b.mono B_w4_w7.out.size))
    have B_w5_w8 := Lib.hid (B_w5_w7.out.trans (b.mono B_w5_w7.out.size))
    have B_w6_w8 := Lib.hid (B_w6_w7.out.trans (b.mono B_w6_w7.out.size))
    have O_u7 := Lib.hid o; clear o b
    go_wp2_with fail
    refine (eqIntS_c xs0 xs0 _ _ _ (O_u4_8.out.ri) (O_u7.out.ri)).mono ?_; rintro e w9 ⟨rfl, b⟩
    rw [decide_eq_true (rfl : xs0 = xs0)]
    have O_u4_9 := Lib.hid (O_u4_8.out.below b)
    have O_u5_9 := Lib.hid (O_u5_8.out.below b)
    have O_u6_9 := Lib.hid (O_u6_8.out.below b)
    have O_u7_9 := Lib.hid (O_u7.out.below b)
    have B_w_w9 := Lib.hid (B_w_w8.out.trans (b.mono B_w_w8.out.size))
    have B_w1_w9 := Lib.hid (B_w1_w8.out.trans (b.mono B_w1_w8.out.size))
    have B_w2_w9 := Lib.hid (B_w2_w8.out.trans (b.mono B_w2_w8.out.size))
    have B_w3_w9 := Lib.hid (B_w3_w8.out.trans (b.mono B_w3_w8.out.size))
    have B_w4_w9 := Lib.hid (B_w4_w8.out.trans (b.mono B_w4_w8.out.size))
    have B_w5_w9 := Lib.hid (B_w5_w8.out.trans (b.mono B_w5_w8.out.size))
    have B_w6_w9 := Lib.hid (B_w6_w8.out.trans (b.mono B_w6_w8.out.size))
    have B_w8_w9 := Lib.hid b
    clear b
    go_wp2_with fail
    refine (toIntS_c xs1 _ _ (H1.out.below B_w_w9.out)).mono ?_; rintro e w10 ⟨u8, rfl, o, b⟩
    have O_u4_10 := Lib.hid (O_u4_9.out.below b)
    have O_u5_10 := Lib.hid (O_u5_9.out.below b)
    have O_u6_10 := Lib.hid (O_u6_9.out.below b)
    have B_w_w10 := Lib.hid (B_w_w9.out.trans (b.mono B_w_w9.out.size))
    have B_w1_w10 := Lib.hid (B_w1_w9.out.trans (b.mono B_w1_w9.out.size))
    have B_w2_w10 := Lib.hid (B_w2_w9.out.trans (b.mono B_w2_w9.out.size))
    have B_w3_w10 := Lib.hid (B_w3_w9.out.trans (b.mono B_w3_w9.out.size))
    have B_w4_w10 := Lib.hid (B_w4_w9.out.trans (b.mono B_w4_w9.out.size))
    have B_w5_w10 := Lib.hid (B_w5_w9.out.trans (b.mono B_w5_w9.out.size))
    have B_w6_w10 := Lib.hid (B_w6_w9.out.trans (b.mono B_w6_w9.out.size))
    have B_w8_w10 := Lib.hid (B_w8_w9.out.trans (b.mono B_w8_w9.out.size))
    have O_u8 := Lib.hid o; clear o b
    go_wp2_with fail
    refine (eqIntS_c xs1 xs1 _ _ _ (O_u5_10.out.ri) (O_u8.out.ri)).mono ?_; rintro e w11 ⟨rfl, b⟩
    rw [decide_eq_true (rfl : xs1 = xs1)]
    have O_u4_11 := Lib.hid (O_u4_10.out.below b)
    have O_u5_11 := Lib.hid (O_u5_10.out.below b)
    have O_u6_11 := Lib.hid (O_u6_10.out.below b)
    have O_u8_11 := Lib.hid (O_u8.out.below b)
    have B_w_w11 := Lib.hid (B_w_w10.out.trans (b.mono B_w_w10.out.size))
    have B_w1_w11 := Lib.hid (B_w1_w10.out.trans (b.mono B_w1_w10.out.size))
    have B_w2_w11 := Lib.hid (B_w2_w10.out.trans (b.mono B_w2_w10.out.size))
    have B_w3_w11 := Lib.hid (B_w3_w10.out.trans (b.mono B_w3_w10.out.size))
    have B_w4_w11 := Lib.hid (B_w4_w10.out.trans (b.mono B_w4_w10.out.size))
    have B_w5_w11 := Lib.hid (B_w5_w10.out.trans (b.mono B_w5_w10.out.size))
    have B_w6_w11 := Lib.hid (B_w6_w10.out.trans (b.mono B_w6_w10.out.size))
    have B_w8_w11 := Lib.hid (B_w8_w10.out.trans (b.mono B_w8_w10.out.size))
    have B_w10_w11 := Lib.hid b
    clear b
    go_wp2_with fail
    refine (markIntS_c xs0 (1) _ _ _ O_u4_11.out (by omega) (by omega)).mono ?_; rintro e w12 ⟨rfl, o, gr⟩
    have O_u5_12 := Lib.hid (O_u5_11.out.later (fun k hk => (O_u4.out.lt k hk).2) (Nat.le_refl _) gr)
    have O_u6_12 := Lib.hid (O_u6_11.out.later (fun k hk => (O_u4.out.lt k hk).2) B_w4_w5.out.size gr)
    have B_w_w12 := Lib.hid (Below.mark B_w_w11.out O_u4_11.out gr B_w_w3.out.size B_w_w11.out.size)
    have B_w1_w12 := Lib.hid (Below.mark B_w1_w11.out O_u4_11.out gr B_w1_w3.out.size B_w1_w11.out.size)
    have B_w2_w12 := Lib.hid (Below.mark B_w2_w11.out O_u4_11.out gr B_w2_w3.out.size B_w2_w11.out.size)
    have B_w3_w12 := Lib.hid (Below.mark B_w3_w11.out O_u4_11.out gr (Nat.le_refl _) B_w3_w11.out.size)
    have O_u4_m := Lib.hid o; clear o gr
    go_wp2_with fail
    refine (markIntS_c xs1 (1 + (xs0.length : Int)) _ _ _ O_u5_12.out (by omega) (by omega)).mono ?_; rintro e w13 ⟨rfl, o, gr⟩
    have O_u6_13 := Lib.hid (O_u6_12.out.later (fun k hk => (O_u5.out.lt k hk).2) (Nat.le_refl _) gr)
    have B_w_w13 := Lib.hid (Below.mark B_w_w12.out O_u5_12.out gr B_w_w4.out.size B_w_w12.out.size)
    have B_w1_w13 := Lib.hid (Below.mark B_w1_w12.out O_u5_12.out gr B_w1_w4.out.size B_w1_w12.out.size)
    have B_w2_w13 := Lib.hid (Below.mark B_w2_w12.out O_u5_12.out gr B_w2_w4.out.size B_w2_w12.out.size)
    have B_w3_w13 := Lib.hid (Below.mark B_w3_w12.out O_u5_12.out gr B_w3_w4.out.size B_w3_w12.out.size)
    have O_u5_m := Lib.hid o; clear o gr
    go_wp2_with fail
    refine (eqIntS_c d d _ _ _ (O_u6_13.out.ri) (W0.out.below B_w3_w13.out)).mono ?_; rintro e w14 ⟨rfl, b⟩
    rw [decide_eq_true (rfl : d = d)]
    have O_u6_14 := Lib.hid (O_u6_13.out.below b)
    have B_w_w14 := Lib.hid (B_w_w13.out.trans (b.mono B_w_w13.out.size))
    have B_w1_w14 := Lib.hid (B_w1_w13.out.trans (b.mono B_w1_w13.out.size))
    have B_w2_w14 := Lib.hid (B_w2_w13.out.trans (b.mono B_w2_w13.out.size))
    have B_w3_w14 := Lib.hid (B_w3_w13.out.trans (b.mono B_w3_w13.out.size))
    clear b
    have hL : d.length ≤ 1099511627776 := O_u6_14.out.2
    go_wp2_with fail
    refine (markIntS_c d (1) _ _ _ O_u6_14.out (by omega) (by omega)).mono ?_; rintro e w15 ⟨rfl, o, gr⟩
    have B_w_w15 := Lib.hid (Below.mark B_w_w14.out O_u6_14.out gr B_w_w5.out.size B_w_w14.out.size)
    have B_w1_w15 := Lib.hid (Below.mark B_w1_w14.out O_u6_14.out gr B_w1_w5.out.size B_w1_w14.out.size)
    have B_w2_w15 := Lib.hid (Below.mark B_w2_w14.out O_u6_14.out gr B_w2_w5.out.size B_w2_w14.out.size)
    have B_w3_w15 := Lib.hid (Below.mark B_w3_w14.out O_u6_14.out gr B_w3_w5.out.size B_w3_w14.out.size)
    have O_u6_m := Lib.hid o; clear o gr
    go_wp2_with fail
    refine (heldIntS_c d.length 1 _ _ O_u6_m.out.ri (by omega) (by omega)).mono ?_; rintro e _ ⟨rfl, rfl⟩
    go_wp2_with fail
    refine (toIntS_c xs0 _ _ (H0.out.below B_w_w15.out)).mono ?_; rintro e w16 ⟨u9, rfl, o, b⟩
    have O_u6_16 := Lib.hid (O_u6_m.out.below b)
    have B_w_w16 := Lib.hid (B_w_w15.out.trans (b.mono B_w_w15.out.size))
    have B_w1_w16 := Lib.hid (B_w1_w15.out.trans (b.mono B_w1_w15.out.size))
    have B_w2_w16 := Lib.hid (B_w2_w15.out.trans (b.mono B_w2_w15.out.size))
    have B_w3_w16 := Lib.hid (B_w3_w15.out.trans (b.mono B_w3_w15.out.size))
    have O_u9 := Lib.hid o; clear o b
    go_wp2_with fail
    refine (toIntS_c xs1 _ _ (H1.out.below B_w_w16.out)).mono ?_; rintro e w17 ⟨u10, rfl, o, b⟩
    have O_u6_17 := Lib.hid (O_u6_16.out.below b)
    have O_u9_17 := Lib.hid (O_u9.out.below b)
    have B_w_w17 := Lib.hid (B_w_w16.out.trans (b.mono B_w_w16.out.size))
    have B_w1_w17 := Lib.hid (B_w1_w16.out.trans (b.mono B_w1_w16.out.size))
    have B_w2_w17 := Lib.hid (B_w2_w16.out.trans (b.mono B_w2_w16.out.size))
    have B_w3_w17 := Lib.hid (B_w3_w16.out.trans (b.mono B_w3_w16.out.size))
    have B_w16_w17 := Lib.hid b
    have O_u10 := Lib.hid o; clear o b
    go_wp2_with fail
    refine (implPageApply_c xs0 xs1 _ _ _ O_u9_17.out.ri O_u10.out.ri).mono ?_; rintro e w18 ⟨u11, rfl, o, b⟩
    try rw [Gd.out]
    try rw [Gt.out]
    try rw [Gd.out] at o
    try rw [Gt.out] at o
    have O_u6_18 := Lib.hid (O_u6_17.out.below b)
    have O_u9_18 := Lib.hid (O_u9_17.out.below b)
    have O_u10_18 := Lib.hid (O_u10.out.below b)
    have B_w_w18 := Lib.hid (B_w_w17.out.trans (b.mono B_w_w17.out.size))
    have B_w1_w18 := Lib.hid (B_w1_w17.out.trans (b.mono B_w1_w17.out.size))
    have B_w2_w18 := Lib.hid (B_w2_w17.out.trans (b.mono B_w2_w17.out.size))
    have B_w3_w18 := Lib.hid (B_w3_w17.out.trans (b.mono B_w3_w17.out.size))
    have B_w16_w18 := Lib.hid (B_w16_w17.out.trans (b.mono B_w16_w17.out.size))
    have B_w17_w18 := Lib.hid b
    have O_u11 := Lib.hid o; clear o b
    go_wp2_with fail
    refine (eqIntS_c d d _ _ _ (O_u11.out.ri) (W0.out.below B_w3_w18.out)).mono ?_; rintro e w19 ⟨rfl, b⟩
    rw [decide_eq_true (rfl : d = d)]
    have O_u6_19 := Lib.hid (O_u6_18.out.below b)
    have O_u11_19 := Lib.hid (O_u11.out.below b)
    have B_w_w19 := Lib.hid (B_w_w18.out.trans (b.mono B_w_w18.out.size))
    have B_w1_w19 := Lib.hid (B_w1_w18.out.trans (b.mono B_w1_w18.out.size))
    have B_w2_w19 := Lib.hid (B_w2_w18.out.trans (b.mono B_w2_w18.out.size))
    have B_w3_w19 := Lib.hid (B_w3_w18.out.trans (b.mono B_w3_w18.out.size))
    have B_w16_w19 := Lib.hid (B_w16_w18.out.trans (b.mono B_w16_w18.out.size))
    have B_w17_w19 := Lib.hid (B_w17_w18.out.trans (b.mono B_w17_w18.out.size))
    have B_w18_w19 := Lib.hid b
    clear b
    go_wp2_with fail
    refine (heldIntS_c d.length 1 _ _ O_u6_19.out.ri (by omega) (by omega)).mono ?_; rintro e _ ⟨rfl, rfl⟩
    go_wp2_with fail
    go_ret
    exact ⟨rfl, B_w_w19.out⟩
  · clear h0 h1
    by_cases hl : len0 ≤ 1048576
    · have hI : ¬ (1048576 : Int) < (len0 : Int) := by omega
      have hI2 : (1048576 : Int) < (len1 : Int) := by omega
      go_enter Try.func4, Try.ntmps4
      go_wp2_with fail
      go_ret
      exact ⟨rfl, Below.refl _ _⟩
    · have hI : (1048576 : Int) < (len0 : Int) := by omega
      go_enter Try.func4, Try.ntmps4
      go_wp2_with fail
      go_ret
      exact ⟨rfl, Below.refl _ _⟩
end Go.Proofs.Ytnohlcffmikecaa
