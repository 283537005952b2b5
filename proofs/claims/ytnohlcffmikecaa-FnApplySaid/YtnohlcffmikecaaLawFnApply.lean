/- The law FnApply: changes are those that were made. -/
import Derived.Test.YtnohlcffmikecaaWalkM
import Derived.Test.YtnohlcffmikecaaWalkJ
import Derived.Test.YtnohlcffmikecaaWalkK
namespace Go.Proofs.Ytnohlcffmikecaa
open Go.RowKit

set_option maxHeartbeats 1000000 in
set_option maxRecDepth 100000 in
theorem FnApply_c (a0 : Option Addr) (len0 cap0 : Nat) (z0 : List Int) (w : World) (h0 : IsRow .u8 w a0 len0 cap0 z0) :
    Calls Try.prog 8 #[.slice a0 len0 cap0] w fun e w' => e = .returned (.bool true) ∧ Below w.heap.size w w' := by
  by_cases hl0 : len0 ≤ 1048576
  · have hI0 : ¬ (1048576 : Int) < (len0 : Int) := by omega
    have Hr := Lib.hid (IsRow.rb h0)
    clear h0
    go_enter Try.func8, Try.ntmps8
    go_wp2_with fail
    refine (DrawPageApply_c _ _ _ Hr.out).mono ?_; rintro e w1 ⟨u, v, xs, ys, rfl, hx, hy, hxl, hyl, hb⟩
    have Hx := Lib.hid hx; have Hy := Lib.hid hy; have Hb := Lib.hid hb; clear hx hy hb hxl hyl
    obtain ⟨l, hl⟩ : ∃ l, applyL xs ys = l := ⟨_, rfl⟩
    cases hp : applyOk xs ys
    · have Hp := Lib.hid hp; have Hl := Lib.hid hl; clear hp hl
      go_wp2_with fail
      refine (implPageApply_c xs ys _ _ _ Hx.out Hy.out).mono ?_; rintro e w2 ⟨u2, rfl, o, hb⟩; rw [Hl.out] at o; rw [Hp.out]
      have Hx2 := Lib.hid (Hx.out.below hb); have Hy2 := Lib.hid (Hy.out.below hb); have Hb2 := Lib.hid (Hb.out.trans (hb.mono Hb.out.size)); have O2 := Lib.hid o; clear hb o
      go_wp2_with fail
      refine (specPageApply_c xs ys _ _ _ Hx2.out Hy2.out).mono ?_; rintro e w3 ⟨u3, rfl, o, hb⟩; rw [Hl.out] at o; rw [Hp.out]
      have Hx3 := Lib.hid (Hx2.out.below hb); have Hy3 := Lib.hid (Hy2.out.below hb); have Hb3 := Lib.hid (Hb2.out.trans (hb.mono Hb2.out.size)); have O3 := Lib.hid o; have O23 := Lib.hid (O2.out.below hb); clear hb o
      go_wp2_with fail
      refine (sameInts_c l l _ _ _ O23.out.ri O3.out.ri).mono ?_; rintro e w4 ⟨rfl, hb⟩
      rw [decide_eq_true (rfl : l = l)]
      have Hx4 := Lib.hid (Hx3.out.below hb); have Hy4 := Lib.hid (Hy3.out.below hb); have B := Lib.hid (Hb3.out.trans (hb.mono Hb3.out.size)); have O := Lib.hid (O23.out.below hb); have O34 := Lib.hid (O3.out.below hb); clear hb
      go_wp2_with fail
      refine (sameInts_c l l _ _ _ O.out.ri O34.out.ri).mono ?_; rintro e w5 ⟨rfl, hb⟩
      rw [decide_eq_true (rfl : l = l)]
      have Hb5 := Lib.hid (B.out.trans (hb.mono B.out.size)); clear hb
      go_wp2_with fail
      go_ret
      exact ⟨rfl, Hb5.out⟩
    · have hD : diffOk xs l = true ∧ diffL xs l = ys := by
        have h := hp
        simp only [applyOk, Bool.and_eq_true, decide_eq_true_eq] at h
        have e : l = applyTo xs ys := by rw [← hl, applyL, if_pos hp]
        rw [e]; exact h.2.2.2
      have HD := Lib.hid hD; clear hD
      have Hp := Lib.hid hp; have Hl := Lib.hid hl; clear hp hl
      go_wp2_with fail
      refine (implPageApply_c xs ys _ _ _ Hx.out Hy.out).mono ?_; rintro e w2 ⟨u2, rfl, o, hb⟩; rw [Hl.out] at o; rw [Hp.out]
      have Hx2 := Lib.hid (Hx.out.below hb); have Hy2 := Lib.hid (Hy.out.below hb); have Hb2 := Lib.hid (Hb.out.trans (hb.mono Hb.out.size)); have O2 := Lib.hid o; clear hb o
      go_wp2_with fail
      refine (specPageApply_c xs ys _ _ _ Hx2.out Hy2.out).mono ?_; rintro e w3 ⟨u3, rfl, o, hb⟩; rw [Hl.out] at o; rw [Hp.out]
      have Hx3 := Lib.hid (Hx2.out.below hb); have Hy3 := Lib.hid (Hy2.out.below hb); have Hb3 := Lib.hid (Hb2.out.trans (hb.mono Hb2.out.size)); have O3 := Lib.hid o; have O23 := Lib.hid (O2.out.below hb); clear hb o
      go_wp2_with fail
      refine (sameInts_c l l _ _ _ O23.out.ri O3.out.ri).mono ?_; rintro e w4 ⟨rfl, hb⟩
      rw [decide_eq_true (rfl : l = l)]
      have Hx4 := Lib.hid (Hx3.out.below hb); have Hy4 := Lib.hid (Hy3.out.below hb); have B := Lib.hid (Hb3.out.trans (hb.mono Hb3.out.size)); have O := Lib.hid (O23.out.below hb); have O34 := Lib.hid (O3.out.below hb); clear hb
      go_wp2_with fail
      refine (implPageDiff_c xs l _ _ _ Hx4.out O.out.ri).mono ?_; rintro e w5 ⟨u5, rfl, o, hb⟩; rw [HD.out.2] at o; rw [HD.out.1]
      have Hy5 := Lib.hid (Hy4.out.below hb); have B5 := Lib.hid (B.out.trans (hb.mono B.out.size)); have O5 := Lib.hid o; clear hb o
      go_wp2_with fail
      refine (sameInts_c ys ys _ _ _ O5.out.ri Hy5.out).mono ?_; rintro e w6 ⟨rfl, hb⟩
      rw [decide_eq_true (rfl : ys = ys)]
      have B6 := Lib.hid (B5.out.trans (hb.mono B5.out.size)); clear hb
      go_wp2_with fail
      go_ret
      exact ⟨rfl, B6.out⟩
  · have hI0 : (1048576 : Int) < (len0 : Int) := by omega
    clear h0
    go_enter Try.func8, Try.ntmps8
    go_wp2_with fail
    go_ret
    exact ⟨rfl, Below.refl _ _⟩
end Go.Proofs.Ytnohlcffmikecaa
