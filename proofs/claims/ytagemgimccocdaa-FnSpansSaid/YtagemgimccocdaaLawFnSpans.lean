/- The law FnSpans: a span counts other pages. -/
import Derived.Test.YtagemgimccocdaaWalkW
import Derived.Test.YtagemgimccocdaaWalkY
import Derived.Test.YtagemgimccocdaaWalkZZ
namespace Go.Proofs.Ytagemgimccocdaa
open Go.RowKit

set_option maxHeartbeats 2000000 in
set_option maxRecDepth 100000 in
theorem FnSpans_c (a0 : Option Addr) (len0 cap0 : Nat) (z0 : List Int) (w : World) (h0 : IsRow .u8 w a0 len0 cap0 z0) :
    Calls Try.prog 7 #[.slice a0 len0 cap0] w fun e w' => e = .returned (.bool true) ∧ Below w.heap.size w w' := by
  by_cases hl0 : len0 ≤ 1048576
  · have hI0 : ¬ (1048576 : Int) < (len0 : Int) := by omega
    have Hr := Lib.hid (IsRow.rb h0)
    clear h0
    go_enter Try.func7, Try.ntmps7
    go_wp2_with fail
    refine (DrawTraceSpans_c _ _ _ Hr.out).mono ?_; rintro e w1 ⟨u, xs, rfl, hx, hxl, hco, hb⟩
    have Hx := Lib.hid hx; have Hb := Lib.hid hb; have Hco := Lib.hid hco; have Hxl := Lib.hid hxl; clear hx hb hxl hco
    obtain ⟨l, hl⟩ : ∃ l, spansL xs = l := ⟨_, rfl⟩
    cases ht : traceOk xs
    · have Ht := Lib.hid ht; have Hl := Lib.hid hl; clear ht hl
      go_wp2_with fail
      refine (implTraceSpans_c xs _ _ Hx.out).mono ?_; rintro e w2 ⟨u2, rfl, o, hb⟩; rw [Hl.out] at o
      have Hx2 := Lib.hid (Hx.out.below hb); have Hb2 := Lib.hid (Hb.out.trans (hb.mono Hb.out.size)); have O2 := Lib.hid o; clear hb o
      go_wp2_with fail
      refine (specTraceSpans_c xs _ _ Hx2.out).mono ?_; rintro e w3 ⟨u3, rfl, o, hb⟩; rw [Hl.out] at o
      have Hx3 := Lib.hid (Hx2.out.below hb); have Hb3 := Lib.hid (Hb2.out.trans (hb.mono Hb2.out.size)); have O3 := Lib.hid o; have O23 := Lib.hid (O2.out.below hb); clear hb o
      go_wp2_with fail
      refine (sameInts_c l l _ _ _ O23.out.ri O3.out.ri).mono ?_; rintro e w4 ⟨rfl, hb⟩
      rw [decide_eq_true (rfl : l = l)]
      have Hx4 := Lib.hid (Hx3.out.below hb); have B := Lib.hid (Hb3.out.trans (hb.mono Hb3.out.size)); have O := Lib.hid (O23.out.below hb); have O34 := Lib.hid (O3.out.below hb); clear hb
      go_wp2_with fail
      refine (specTraceOk_c xs _ _ Hx4.out).mono ?_; rintro e _ ⟨rfl, rfl⟩; rw [Ht.out]
      go_wp2_with fail
      refine (sameInts_c l l _ _ _ O.out.ri O34.out.ri).mono ?_; rintro e w5 ⟨rfl, hb⟩
      rw [decide_eq_true (rfl : l = l)]
      have Hb5 := Lib.hid (B.out.trans (hb.mono B.out.size)); clear hb
      go_wp2_with fail
      go_ret
      exact ⟨rfl, Hb5.out⟩
    · have hll : l = (List.range xs.length).map (spanAt xs) := by rw [← hl]; simp [spansL, ht, spans]
      have Hll := Lib.hid hll; have Hlen := Lib.hid (show l.length = xs.length by rw [hll]; simp)
      have Ht := Lib.hid ht; have Hl := Lib.hid hl; clear ht hl hll
      go_wp2_with fail
      refine (implTraceSpans_c xs _ _ Hx.out).mono ?_; rintro e w2 ⟨u2, rfl, o, hb⟩; rw [Hl.out] at o
      have Hx2 := Lib.hid (Hx.out.below hb); have Hb2 := Lib.hid (Hb.out.trans (hb.mono Hb.out.size)); have O2 := Lib.hid o; clear hb o
      go_wp2_with fail
      refine (specTraceSpans_c xs _ _ Hx2.out).mono ?_; rintro e w3 ⟨u3, rfl, o, hb⟩; rw [Hl.out] at o
      have Hx3 := Lib.hid (Hx2.out.below hb); have Hb3 := Lib.hid (Hb2.out.trans (hb.mono Hb2.out.size)); have O3 := Lib.hid o; have O23 := Lib.hid (O2.out.below hb); clear hb o
      go_wp2_with fail
      refine (sameInts_c l l _ _ _ O23.out.ri O3.out.ri).mono ?_; rintro e w4 ⟨rfl, hb⟩
      rw [decide_eq_true (rfl : l = l)]
      have Hx4 := Lib.hid (Hx3.out.below hb); have B := Lib.hid (Hb3.out.trans (hb.mono Hb3.out.size)); have O := Lib.hid (O23.out.below hb).ri; clear hb
      go_wp2_with fail
      refine (specTraceOk_c xs _ _ Hx4.out).mono ?_; rintro e _ ⟨rfl, rfl⟩; rw [Ht.out]
      clear Hx Hb Hx2 Hb2 Hx3 Hb3 O2 O3 O23
      obtain ⟨ax, cx, rfl⟩ := Hx4.out.val
      obtain ⟨al, cl, rfl⟩ := O.out.val
      obtain ⟨hcx, hcm⟩ := Hco.out _ _ _ rfl
      clear Hco
      rw [Hlen.out] at O ⊢
      go_wp2_with fail
      go_loopw [6] (fun i wr => ∃ k : Nat, i = .int .i64 k ∧ k ≤ xs.length ∧ Hid (Below w4.heap.size w4 wr)) (fun i _ => xs.length - (intOf i).toNat)
      case atStart => exact ⟨0, rfl, Nat.zero_le _, Below.refl _ _⟩
      case round =>
        obtain ⟨k, rfl, hk, hb⟩ := hrel
        rename World => wo
        by_cases hlt : k < xs.length
        · have hlI : (k : Int) < (xs.length : Int) := by omega
          have hcells : Hid (∀ wz, Below w4.heap.size w4 wz → ∀ i (hi : i < xs.length), ∃ b off, ax = some ⟨b, off, none⟩ ∧ b < wz.heap.size ∧ wz.cell? ⟨b, off + i, none⟩ = some (.int .i64 xs[i])) := fun wz hz i hi => by
            obtain ⟨b, off, cp2, e, hbb, hc⟩ := (Hx4.out.below hz).at hi
            simp only [Value.slice.injEq] at e
            exact ⟨b, off, e.1, hbb, hc⟩
          have hout : Hid (∀ wz, Below w4.heap.size w4 wz → ∃ b off, al = some ⟨b, off, none⟩ ∧ wz.cell? ⟨b, off + k, none⟩ = some (.int .i64 (spanAt xs k))) := fun wz hz => by
            obtain ⟨b, off, cp2, e, hbb, hc⟩ := (O.out.below hz).at (k := k) (by rw [Hlen.out]; exact hlt)
            simp only [Value.slice.injEq] at e
            refine ⟨b, off, e.1, hc.trans ?_⟩
            have := Hll.out
            subst this
            simp
          have hsp := Lib.hid (spanAt_last xs k hlt)
          obtain ⟨p, hp⟩ : ∃ p, xs[k] = p := ⟨_, rfl⟩
          have hsp2 := hsp.out
          rw [hp] at hsp2
          have Hsp := Lib.hid hsp2; have Hp := Lib.hid hp
          clear hsp hsp2 hp
          have hla : Hid (∀ j (hj : j < xs.length), lastIn xs p (j + 1) = if xs[j] = p then (j : Int) else lastIn xs p j) := fun j hj => by rw [lastIn, List.getElem?_eq_getElem hj]; rfl
          go_wp2_with fail
          go_loopw [7, 8] (fun la j wi => ∃ (m : Nat) (q : Int), j = .int .i64 m ∧ m ≤ k ∧ la = .int .i64 q ∧ -1 ≤ q ∧ q < m ∧ Hid (q = lastIn xs p m) ∧ Hid (Below w4.heap.size w4 wi)) (fun _ j _ => k - (intOf j).toNat)
          case atStart => exact ⟨0, -1, rfl, Nat.zero_le _, rfl, by omega, by omega, rfl, hb.out⟩
          case round =>
            clear hb
            obtain ⟨m, q, rfl, hm, rfl, hq0, hq1, hq, hb⟩ := hrel
            rename World => wi
            by_cases hmk : m < k
            · have hmx : m < xs.length := by omega
              have hmkI : (m : Int) < (k : Int) := by omega
              have hmI : (m : Int) < (xs.length : Int) := by omega
              have hstep := Lib.hid (hla.out m hmx)
              obtain ⟨b0, off0, rfl, _, hc1⟩ := hcells.out _ hb.out m hmx
              obtain ⟨b1, off1, e, _, hc2⟩ := hcells.out _ hb.out k hlt
              simp only [Option.some.injEq, Addr.mk.injEq] at e
              obtain ⟨rfl, rfl, _⟩ := e
              rw [Hp.out] at hc2
              generalize xs[m] = x at hc1 hstep
              by_cases hx : x = p
              · subst hx
                have Hst := Lib.hid (hstep.out.trans (if_pos rfl))
                clear hstep
                go_wp2_with fail
                go_quiet (fail)
                go_wp2_with fail
                go_roundw
                case rel => exact ⟨m + 1, m, by go_num, by omega, rfl, by omega, by omega, Hst.out.symm, below_drewN hb.out _⟩
                case measure => simp [intOf]; omega
              · have hxb : (x == p) = false := by simpa using hx
                have Hst := Lib.hid (hstep.out.trans (if_neg hx))
                clear hstep hx
                go_wp2_with fail
                go_quiet (fail)
                go_wp2_with fail
                go_roundw
                case rel => exact ⟨m + 1, q, by go_num, by omega, rfl, by omega, by omega, by show _ = _; rw [Hst.out]; exact hq.out, below_drewN hb.out _⟩
                case measure => simp [intOf]; omega
            · have hmk2 : m = k := by omega
              subst hmk2
              obtain ⟨b1, off1, rfl, hco⟩ := hout.out _ hb.out
              have hmI : (m : Int) < (xs.length : Int) := hlI
              by_cases hqn : q < 0
              · have e1 : spanAt xs m = -1 := by rw [Hsp.out, ← hq.out, if_pos hqn]
                rw [e1] at hco
                clear e1
                have hqd : decide (q < 0) = true := by simpa using hqn
                have hqd2 : decide (0 ≤ q) = false := by simpa using hqn
                go_wp2_with fail
                go_quiet (fail)
                go_wp2_with fail
                go_roundw
                case rel => exact ⟨m + 1, by go_num, by omega, below_drewN hb.out _⟩
                case measure => simp [intOf]; omega
              · obtain ⟨n, rfl⟩ := Int.eq_ofNat_of_zero_le (show 0 ≤ q by omega)
                have hnm : n + 1 ≤ m := by omega
                have e1 : spanAt xs m = ((dn ((xs.take m).drop (n + 1)) (m - (n + 1)) : Nat) : Int) := by rw [Hsp.out, ← hq.out, if_neg hqn]; simp
                rw [e1] at hco
                clear e1
                obtain ⟨b0, off0, rfl, hbb, _⟩ := hcells.out _ hb.out m hlt
                have hsub : RI wi (.slice (some ⟨b0, off0 + (n + 1), none⟩) (m - (n + 1)) (cx - (n + 1))) ((xs.take m).drop (n + 1)) := by
                  have e2 : ((xs.take m).drop (n + 1)).length = m - (n + 1) := by rw [List.length_drop, List.length_take, Nat.min_eq_left (by omega)]
                  refine ⟨by rw [e2]; have := Hx4.out.1; omega, .inr ⟨b0, off0 + (n + 1), cx - (n + 1), by rw [e2], hbb, fun i hi => ?_⟩⟩
                  obtain ⟨b2, off2, e, _, hc⟩ := hcells.out _ hb.out (n + 1 + i) (by omega)
                  simp only [Option.some.injEq, Addr.mk.injEq] at e
                  obtain ⟨rfl, rfl, _⟩ := e
                  rw [show off0 + (n + 1) + i = off0 + (n + 1 + i) by omega, hc]
                  simp
                have hcall : ∀ nn, Hid (Calls Try.prog 24 #[.slice (some ⟨b0, off0 + (n + 1), none⟩) (m - (n + 1)) (cx - (n + 1))] (wi.drewN nn) fun e w' => e = .returned (.int .i64 (dn ((xs.take m).drop (n + 1)) (m - (n + 1)) : Nat)) ∧ ∃ k, w' = (wi.drewN nn).drewN k) := fun nn => by
                  have := differentPages_c _ _ _ (hsub.below (below_drewN (Below.refl _ _) nn)) (by intro a n c e; simp only [Value.slice.injEq] at e; omega)
                  rwa [show ((xs.take m).drop (n + 1)).length = m - (n + 1) by rw [List.length_drop, List.length_take, Nat.min_eq_left (by omega)]] at this
                clear hsub
                generalize dn ((xs.take m).drop (n + 1)) (m - (n + 1)) = d at hco hcall
                have hne : ¬ cx = n + 1 := by omega
                have hmc : m ≤ cx := by omega
                have hqd : decide ((n : Int) < 0) = false := by simp
                have hqd2 : decide (0 ≤ (n : Int)) = true := by simp
                go_wp2_with fail
                go_quiet ((go_at_call 24; exact Calls.quiet_of (hcall _).out))
                go_wp2_with fail
                go_roundw
                case rel => exact ⟨m + 1, by go_num, by omega, below_drewN hb.out _⟩
                case measure => simp [intOf]; omega
        · have hke : k = xs.length := by omega
          subst hke
          go_wp2_with fail
          go_ret
          exact ⟨rfl, B.out.trans (hb.out.mono B.out.size)⟩
  · clear h0
    have hI : (1048576 : Int) < (len0 : Int) := by omega
    go_enter Try.func7, Try.ntmps7
    go_wp2_with fail
    go_ret
    exact ⟨rfl, Below.refl _ _⟩
end Go.Proofs.Ytagemgimccocdaa
