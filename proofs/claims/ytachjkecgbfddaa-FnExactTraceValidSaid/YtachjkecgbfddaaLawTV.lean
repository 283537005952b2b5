/- The law: the program's TraceValid returns what the reference's returns. -/
import Derived.Test.YtachjkecgbfddaaWalkA
namespace Go.Proofs.Ytachjkecgbfddaa
open Go.RowKit

set_option maxHeartbeats 400000 in
theorem FnExactTraceValid_c (a : Option Addr) (len cap : Nat) (z : List Int) (w : World) (h : IsRow .i64 w a len cap z) :
    Calls Try.prog 3 #[.slice a len cap] w fun e w' => e = .returned (.bool true) ∧ Below w.heap.size w w' := by
  by_cases hl : len ≤ 1048576
  · obtain ⟨xs, hx, h0⟩ := h.ri hl
    have hI : ¬ (1048576 : Int) < (len : Int) := by omega
    have Hx := Lib.hid hx
    clear hx h
    have H0 := Lib.hid h0; clear h0
    generalize hT : (xs.all (fun x => inR x 0 15) && decide (xs.length ≤ 24)) = t
    have HT := Lib.hid hT; clear hT
    go_enter Try.func3, Try.ntmps3
    go_wp2_with fail
    refine (toIntS_c xs _ _ H0.out).mono ?_; rintro e w1 ⟨u1, rfl, o1, b1⟩
    have B1 := Lib.hid b1; clear b1; have O1 := Lib.hid o1; clear o1
    go_wp2_with fail
    refine (specTraceValid_c xs _ _ O1.out.ri).mono ?_; rintro e w' ⟨rfl, rfl⟩
    rw [HT.out]
    go_wp2_with fail
    refine (toIntS_c xs _ _ (H0.out.below B1.out)).mono ?_; rintro e w2 ⟨u2, rfl, o2, b2⟩
    have B2 := Lib.hid (B1.out.trans (b2.mono B1.out.size)); clear b2; have O2 := Lib.hid o2; clear o2
    go_wp2_with fail
    refine (implTraceValid_c xs _ _ O2.out.ri).mono ?_; rintro e w3 ⟨rfl, b3⟩
    rw [HT.out]
    have B3 := Lib.hid (B2.out.trans (b3.mono B2.out.size)); have O3 := Lib.hid (O2.out.below b3); clear b3
    go_wp2_with fail
    refine (toIntS_c xs _ _ (H0.out.below B3.out)).mono ?_; rintro e w4 ⟨u4, rfl, o4, b4⟩
    have B4 := Lib.hid (B3.out.trans (b4.mono B3.out.size)); have O4 := Lib.hid (O3.out.below b4); clear b4; have P4 := Lib.hid o4; clear o4
    go_wp2_with fail
    refine (eqIntS_c xs xs _ _ _ O4.out.ri P4.out.ri).mono ?_; rintro e w5 ⟨rfl, b5⟩
    have B5 := Lib.hid (B4.out.trans (b5.mono B4.out.size)); clear b5
    rw [decide_eq_true (rfl : xs = xs)]
    go_wp2_with fail
    go_ret
    exact ⟨rfl, B5.out⟩
  · have hI : (1048576 : Int) < (len : Int) := by omega
    go_enter Try.func3, Try.ntmps3
    go_wp2_with fail
    go_ret
    exact ⟨rfl, Below.refl _ _⟩
end Go.Proofs.Ytachjkecgbfddaa
