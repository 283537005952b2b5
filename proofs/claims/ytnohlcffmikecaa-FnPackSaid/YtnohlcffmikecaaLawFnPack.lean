/- The law FnPack: a packed page is unpacked. -/
import Derived.Test.YtnohlcffmikecaaWalkF
import Derived.Test.YtnohlcffmikecaaWalkH
namespace Go.Proofs.Ytnohlcffmikecaa
open Go.RowKit

set_option maxHeartbeats 1000000 in
set_option maxRecDepth 100000 in
theorem FnPack_c (a0 : Option Addr) (len0 cap0 : Nat) (z0 : List Int) (w : World) (h0 : IsRow .u8 w a0 len0 cap0 z0) :
    Calls Try.prog 5 #[.slice a0 len0 cap0] w fun e w' => e = .returned (.bool true) ∧ Below w.heap.size w w' := by
  by_cases hl0 : len0 ≤ 1048576
  · have hI0 : ¬ (1048576 : Int) < (len0 : Int) := by omega
    have Hr := Lib.hid (IsRow.rb h0)
    clear h0
    go_enter Try.func5, Try.ntmps5
    go_wp2_with fail
    refine (DrawPagePack_c _ _ _ Hr.out).mono ?_; rintro e w1 ⟨u, xs, rfl, hx, hxl, hb⟩
    have Hx := Lib.hid hx; have Hb := Lib.hid hb; clear hx hb hxl
    obtain ⟨l, hl⟩ : ∃ l, packL xs = l := ⟨_, rfl⟩
    cases hp : pageOk xs
    · have Hp := Lib.hid hp; have Hl := Lib.hid hl; clear hp hl
      go_wp2_with fail
      refine (implPagePack_c xs _ _ Hx.out).mono ?_; rintro e w2 ⟨u2, rfl, o, hb⟩; rw [Hl.out] at o; rw [Hp.out]
      have Hx2 := Lib.hid (Hx.out.below hb); have Hb2 := Lib.hid (Hb.out.trans (hb.mono Hb.out.size)); have O2 := Lib.hid o; clear hb o
      go_wp2_with fail
      refine (specPagePack_c xs _ _ Hx2.out).mono ?_; rintro e w3 ⟨u3, rfl, o, hb⟩; rw [Hl.out] at o; rw [Hp.out]
      have Hx3 := Lib.hid (Hx2.out.below hb); have Hb3 := Lib.hid (Hb2.out.trans (hb.mono Hb2.out.size)); have O3 := Lib.hid o; have O23 := Lib.hid (O2.out.below hb); clear hb o
      go_wp2_with fail
      refine (sameInts_c l l _ _ _ O23.out.ri O3.out.ri).mono ?_; rintro e w4 ⟨rfl, hb⟩
      rw [decide_eq_true (rfl : l = l)]
      have Hx4 := Lib.hid (Hx3.out.below hb); have B := Lib.hid (Hb3.out.trans (hb.mono Hb3.out.size)); have O := Lib.hid (O23.out.below hb); have O34 := Lib.hid (O3.out.below hb); clear hb
      go_wp2_with fail
      refine (sameInts_c l l _ _ _ O.out.ri O34.out.ri).mono ?_; rintro e w5 ⟨rfl, hb⟩
      rw [decide_eq_true (rfl : l = l)]
      have Hb5 := Lib.hid (B.out.trans (hb.mono B.out.size)); clear hb
      go_wp2_with fail
      go_ret
      exact ⟨rfl, Hb5.out⟩
    · have hu := unpack_pack xs hp
      have hU : unpackOk l = true ∧ unpackL l = xs := by
        rw [hl] at hu
        obtain ⟨h1, h2, h3, h4⟩ := hu
        have : unpackOk l = true := by
          simp only [unpackOk, Bool.and_eq_true, decide_eq_true_eq]
          exact ⟨⟨h3, h4⟩, h2, by rw [h1]; exact hp, by rw [h1]; exact hl⟩
        exact ⟨this, by rw [unpackL, if_pos this]; exact h1⟩
      have HU := Lib.hid hU; clear hu hU
      have Hp := Lib.hid hp; have Hl := Lib.hid hl; clear hp hl
      go_wp2_with fail
      refine (implPagePack_c xs _ _ Hx.out).mono ?_; rintro e w2 ⟨u2, rfl, o, hb⟩; rw [Hl.out] at o; rw [Hp.out]
      have Hx2 := Lib.hid (Hx.out.below hb); have Hb2 := Lib.hid (Hb.out.trans (hb.mono Hb.out.size)); have O2 := Lib.hid o; clear hb o
      go_wp2_with fail
      refine (specPagePack_c xs _ _ Hx2.out).mono ?_; rintro e w3 ⟨u3, rfl, o, hb⟩; rw [Hl.out] at o; rw [Hp.out]
      have Hx3 := Lib.hid (Hx2.out.below hb); have Hb3 := Lib.hid (Hb2.out.trans (hb.mono Hb2.out.size)); have O3 := Lib.hid o; have O23 := Lib.hid (O2.out.below hb); clear hb o
      go_wp2_with fail
      refine (sameInts_c l l _ _ _ O23.out.ri O3.out.ri).mono ?_; rintro e w4 ⟨rfl, hb⟩
      rw [decide_eq_true (rfl : l = l)]
      have Hx4 := Lib.hid (Hx3.out.below hb); have B := Lib.hid (Hb3.out.trans (hb.mono Hb3.out.size)); have O := Lib.hid (O23.out.below hb); have O34 := Lib.hid (O3.out.below hb); clear hb
      go_wp2_with fail
      refine (implPageUnpack_c l _ _ O.out.ri).mono ?_; rintro e w5 ⟨u5, rfl, o, hb⟩; rw [HU.out.2] at o; rw [HU.out.1]
      have Hx5 := Lib.hid (Hx4.out.below hb); have B5 := Lib.hid (B.out.trans (hb.mono B.out.size)); have O5 := Lib.hid o; clear hb o
      go_wp2_with fail
      refine (sameInts_c xs xs _ _ _ O5.out.ri Hx5.out).mono ?_; rintro e w6 ⟨rfl, hb⟩
      rw [decide_eq_true (rfl : xs = xs)]
      have B6 := Lib.hid (B5.out.trans (hb.mono B5.out.size)); clear hb
      go_wp2_with fail
      go_ret
      exact ⟨rfl, B6.out⟩
  · have hI0 : (1048576 : Int) < (len0 : Int) := by omega
    clear h0
    go_enter Try.func5, Try.ntmps5
    go_wp2_with fail
    go_ret
    exact ⟨rfl, Below.refl _ _⟩
end Go.Proofs.Ytnohlcffmikecaa
