/- The law FnDiffNone: equal pages have no changes. -/
import Derived.Test.YtnohlcffmikecaaWalkL
namespace Go.Proofs.Ytnohlcffmikecaa
open Go.RowKit

theorem diff_self (xs : List Int) : ∀ k, diffUpto xs xs k = []
  | 0 => rfl
  | k + 1 => by rw [diffUpto, diff_self xs k, if_pos rfl]; rfl

set_option maxHeartbeats 1000000 in
set_option maxRecDepth 100000 in
theorem FnDiffNone_c (a0 : Option Addr) (len0 cap0 : Nat) (z0 : List Int) (w : World) (h0 : IsRow .u8 w a0 len0 cap0 z0) :
    Calls Try.prog 3 #[.slice a0 len0 cap0] w fun e w' => e = .returned (.bool true) ∧ Below w.heap.size w w' := by
  by_cases hl0 : len0 ≤ 1048576
  · have hI0 : ¬ (1048576 : Int) < (len0 : Int) := by omega
    have Hr := Lib.hid (IsRow.rb h0)
    clear h0
    go_enter Try.func3, Try.ntmps3
    go_wp2_with fail
    refine (DrawPageDiff_c _ _ _ Hr.out).mono ?_; rintro e w1 ⟨u, v, xs, ys, rfl, hx, hy, hxl, hyl, hb⟩
    have Hx := Lib.hid hx; have Hy := Lib.hid hy; have Hb := Lib.hid hb; clear hx hy hb hxl hyl
    obtain ⟨l, hl⟩ : ∃ l, diffL xs ys = l := ⟨_, rfl⟩
    cases hp : diffOk xs ys
    · have Hp := Lib.hid hp; have Hl := Lib.hid hl; clear hp hl
      go_wp2_with fail
      refine (implPageDiff_c xs ys _ _ _ Hx.out Hy.out).mono ?_; rintro e w2 ⟨u2, rfl, o, hb⟩; rw [Hl.out] at o; rw [Hp.out]
      have Hx2 := Lib.hid (Hx.out.below hb); have Hy2 := Lib.hid (Hy.out.below hb); have Hb2 := Lib.hid (Hb.out.trans (hb.mono Hb.out.size)); have O2 := Lib.hid o; clear hb o
      go_wp2_with fail
      refine (specPageDiff_c xs ys _ _ _ Hx2.out Hy2.out).mono ?_; rintro e w3 ⟨u3, rfl, o, hb⟩; rw [Hl.out] at o; rw [Hp.out]
      have Hb3 := Lib.hid (Hb2.out.trans (hb.mono Hb2.out.size)); have O3 := Lib.hid o; have O23 := Lib.hid (O2.out.below hb); clear hb o
      go_wp2_with fail
      refine (sameInts_c l l _ _ _ O23.out.ri O3.out.ri).mono ?_; rintro e w4 ⟨rfl, hb⟩
      rw [decide_eq_true (rfl : l = l)]
      have B := Lib.hid (Hb3.out.trans (hb.mono Hb3.out.size)); have O := Lib.hid (O23.out.below hb); have O34 := Lib.hid (O3.out.below hb); clear hb
      go_wp2_with fail
      refine (sameInts_c l l _ _ _ O.out.ri O34.out.ri).mono ?_; rintro e w5 ⟨rfl, hb⟩
      rw [decide_eq_true (rfl : l = l)]
      have Hb5 := Lib.hid (B.out.trans (hb.mono B.out.size)); clear hb
      go_wp2_with fail
      go_ret
      exact ⟨rfl, Hb5.out⟩
    · have hq : pageOk xs = true ∧ pageOk ys = true := by simpa [diffOk] using hp
      have hd : l = diffUpto xs ys 4 := by rw [← hl, diffL, if_pos hp]
      have hself : diffOk xs xs = true ∧ diffL xs xs = [] := by
        have h : diffOk xs xs = true := by simp [diffOk, hq.1]
        exact ⟨h, by rw [diffL, if_pos h, diff_self]⟩
      have Hself := Lib.hid hself; have Hd := Lib.hid hd
      have Hlx := Lib.hid (pageOk_iff.1 hq.1).2; have Hly := Lib.hid (pageOk_iff.1 hq.2).2
      have Hp := Lib.hid hp; have Hl := Lib.hid hl; clear hp hl hq hd hself
      go_wp2_with fail
      refine (implPageDiff_c xs ys _ _ _ Hx.out Hy.out).mono ?_; rintro e w2 ⟨u2, rfl, o, hb⟩; rw [Hl.out] at o; rw [Hp.out]
      have Hx2 := Lib.hid (Hx.out.below hb); have Hy2 := Lib.hid (Hy.out.below hb); have Hb2 := Lib.hid (Hb.out.trans (hb.mono Hb.out.size)); have O2 := Lib.hid o; clear hb o
      go_wp2_with fail
      refine (specPageDiff_c xs ys _ _ _ Hx2.out Hy2.out).mono ?_; rintro e w3 ⟨u3, rfl, o, hb⟩; rw [Hl.out] at o; rw [Hp.out]
      have Hx3 := Lib.hid (Hx2.out.below hb); have Hy3 := Lib.hid (Hy2.out.below hb); have Hb3 := Lib.hid (Hb2.out.trans (hb.mono Hb2.out.size)); have O3 := Lib.hid o; have O23 := Lib.hid (O2.out.below hb); clear hb o
      go_wp2_with fail
      refine (sameInts_c l l _ _ _ O23.out.ri O3.out.ri).mono ?_; rintro e w4 ⟨rfl, hb⟩
      rw [decide_eq_true (rfl : l = l)]
      have Hx4 := Lib.hid (Hx3.out.below hb); have Hy4 := Lib.hid (Hy3.out.below hb); have B := Lib.hid (Hb3.out.trans (hb.mono Hb3.out.size)); have O := Lib.hid (O23.out.below hb).ri; clear hb
      clear Hx Hy Hb Hx2 Hy2 Hb2 Hx3 Hy3 Hb3 O2 O3 O23
      obtain ⟨ax, cx, rfl⟩ := Hx4.out.val
      obtain ⟨ay, cy, rfl⟩ := Hy4.out.val
      obtain ⟨al, cl, rfl⟩ := O.out.val
      rw [Hlx.out] at Hx4 ⊢
      rw [Hly.out] at Hy4 ⊢
      go_wp2_with fail
      go_loopw [9, 10] (fun n i wr => ∃ (k c : Nat), i = .int .i64 k ∧ k ≤ 4 ∧ n = .int .i64 c ∧ c ≤ k ∧ Hid (2 * c = (diffUpto xs ys k).length) ∧ Hid (Below w4.heap.size w4 wr)) (fun _ i _ => 4 - (intOf i).toNat)
      case atStart => exact ⟨0, 0, rfl, Nat.zero_le _, rfl, Nat.zero_le _, rfl, Below.refl _ _⟩
      case round =>
        obtain ⟨k, c, rfl, hk, rfl, hck, hc, hb⟩ := hrel
        by_cases hlt : k < 4
        · have hkx : k < xs.length := by rw [Hlx.out]; exact hlt
          have hky : k < ys.length := by rw [Hly.out]; exact hlt
          obtain ⟨b, off, cp, e, _, hc1⟩ := (Hx4.out.below hb.out).at hkx
          simp only [Value.slice.injEq] at e
          obtain ⟨rfl, h', rfl⟩ := e
          clear h'
          obtain ⟨b', off', cp', e, _, hc2⟩ := (Hy4.out.below hb.out).at hky
          simp only [Value.slice.injEq] at e
          obtain ⟨rfl, h', rfl⟩ := e
          clear h'
          have hkI : (k : Int) < 4 := by omega
          have hd : diffUpto xs ys (k + 1) = diffUpto xs ys k ++ (if xs[k] = ys[k] then [] else [(k : Int), ys[k]]) := by
            simp only [diffUpto, List.getElem?_eq_getElem hkx, List.getElem?_eq_getElem hky, Option.getD_some]
          have Hd2 := Lib.hid hd; clear hd
          generalize xs[k] = x at hc1 Hd2
          generalize ys[k] = y at hc2 Hd2
          by_cases hxy : x = y
          · have Hc2 : Hid (2 * c = (diffUpto xs ys (k + 1)).length) := by rw [Hid, Hd2.out, if_pos hxy, List.append_nil]; exact hc.out
            subst hxy
            clear Hd2
            go_wp2_with fail
            go_quiet (fail)
            go_wp2_with fail
            go_roundw
            case rel => exact ⟨k + 1, c, by go_num, by omega, rfl, by omega, Hc2.out, below_drewN hb.out _⟩
            case measure => simp [intOf]; omega
          · have Hc2 : Hid (2 * (c + 1) = (diffUpto xs ys (k + 1)).length) := by rw [Hid, Hd2.out, if_neg hxy, List.length_append, ← hc.out]; rfl
            have hxb : (x != y) = true := by simpa using hxy
            clear Hd2 hxy
            go_wp2_with fail
            go_quiet (fail)
            go_wp2_with fail
            go_roundw
            case rel => exact ⟨k + 1, c + 1, by go_num, by omega, by go_num, by omega, Hc2.out, below_drewN hb.out _⟩
            case measure => simp [intOf]; omega
        · have hk4 : k = 4 := by omega
          subst hk4
          have hll : Hid (l.length = 2 * c) := by rw [Hid, Hd.out, hc.out]
          have Hx5 := Lib.hid (Hx4.out.below hb.out)
          have Hb5 := Lib.hid (B.out.trans (hb.out.mono B.out.size))
          clear hc
          go_wp2_with fail
          refine (implPageDiff_c xs xs _ _ _ Hx5.out Hx5.out).mono ?_; rintro e w6 ⟨u6, rfl, o, hb6⟩; rw [Hself.out.2] at o; rw [Hself.out.1]
          obtain ⟨a6, c6, rfl⟩ := o.ri.val
          have Hb6 := Lib.hid (Hb5.out.trans (hb6.mono Hb5.out.size))
          clear o hb6
          rw [hll.out]
          have h2c : ((2 * c : Nat) : Int) = 2 * (c : Int) := by omega
          have hfin : (2 * (c : Int) == 2 * (c : Int)) = true := by simp
          clear h2c
          go_wp2_with fail
          go_ret
          exact ⟨rfl, Hb6.out⟩
  · have hI0 : (1048576 : Int) < (len0 : Int) := by omega
    clear h0
    go_enter Try.func3, Try.ntmps3
    go_wp2_with fail
    go_ret
    exact ⟨rfl, Below.refl _ _⟩
end Go.Proofs.Ytnohlcffmikecaa
