/- The law FnFaultsLast: spans tell faults for all sizes. -/
import Derived.Test.YtdmjpikkgfedmaaWalkFP
import Derived.Test.YtdmjpikkgfedmaaWalkYF
import Derived.Test.YtdmjpikkgfedmaaWalkW
namespace Go.Proofs.Ytdmjpikkgfedmaa
open Go.RowKit

set_option maxHeartbeats 2000000 in
set_option maxRecDepth 100000 in
theorem FnFaultsLast_c (a0 : Option Addr) (len0 cap0 : Nat) (z0 : List Int) (w : World) (h0 : IsRow .u8 w a0 len0 cap0 z0) :
    Calls Try.prog 8 #[.slice a0 len0 cap0] w fun e w' => e = .returned (.bool true) ∧ Below w.heap.size w w' := by
  by_cases hl0 : len0 ≤ 1048576
  · have hI0 : ¬ (1048576 : Int) < (len0 : Int) := by omega
    have Hr := Lib.hid (IsRow.rb h0)
    clear h0
    go_enter Try.func8, Try.ntmps8
    go_wp2_with fail
    refine (DrawFaultsLast_c _ _ _ Hr.out).mono ?_; rintro e w1 ⟨u, xs, f, rfl, hx, hxl, hco, hf0, hf1, hb⟩
    have Hx1 := Lib.hid hx; have Hb1 := Lib.hid hb; have Hco := Lib.hid hco; clear hx hb hco
    cases hp : okF xs f
    · have hv : faultsLast xs f = -1 := faultsR_bad hp
      have Hv := Lib.hid hv; clear hv hp
      go_wp2_with fail
      refine (implFaultsLast_c xs f _ _ (Hx1.out)).mono ?_; rintro e w2 ⟨rfl, hb⟩; rw [Hv.out]
      have Hx2 := Lib.hid (Hx1.out.below hb); have Hb2 := Lib.hid (Hb1.out.trans (hb.mono Hb1.out.size)); clear hb
      go_wp2_with fail
      refine (specFaultsLast2_c xs f _ _ (Hx2.out)).mono ?_; rintro e w3 ⟨rfl, hb⟩; rw [Hv.out]
      have Hx3 := Lib.hid (Hx2.out.below hb); have Hb3 := Lib.hid (Hb2.out.trans (hb.mono Hb2.out.size)); clear hb
      go_wp2_with fail
      go_ret
      exact ⟨rfl, Hb3.out⟩
    · obtain ⟨htr, hfl, hfh⟩ := okF_parts hp
      obtain ⟨hxo, hx24⟩ := traceOk_iff.1 htr
      obtain ⟨c, hv⟩ : ∃ c : Nat, faultsLast xs f = c := ⟨_, faultsR_ok hp⟩
      have hc0 : ¬ (c : Int) < 0 := by omega
      have hcn : (lastCnt xs f xs.length : Nat) = c := by
        have h1 := faultsLast_eq xs f
        rw [hv] at h1
        have h2 : faultsL xs f = (lastCnt xs f xs.length : Nat) := by unfold faultsL; unfold okF at hp; rw [hp]; rfl
        rw [h2] at h1
        omega
      have hsl : spansL xs = (List.range xs.length).map (spanAt xs) := by simp [spansL, htr, spans]
      obtain ⟨l, hl⟩ : ∃ l, spansL xs = l := ⟨_, rfl⟩
      have hll : l.length = xs.length := by rw [← hl, hsl]; simp
      have hlg : Hid (∀ k (hk : k < l.length), l[k] = spanAt xs k) := fun k hk => by
        subst hl
        simp [hsl]
      have Hv := Lib.hid hv; have Hl := Lib.hid hl; have Hcn := Lib.hid hcn; have Hll := Lib.hid hll; clear hv hl hcn hll
      clear hp htr hxo hsl
      go_wp2_with fail
      refine (implFaultsLast_c xs f _ _ (Hx1.out)).mono ?_; rintro e w2 ⟨rfl, hb⟩; rw [Hv.out]
      have Hx2 := Lib.hid (Hx1.out.below hb); have Hb2 := Lib.hid (Hb1.out.trans (hb.mono Hb1.out.size)); clear hb
      go_wp2_with fail
      refine (specFaultsLast2_c xs f _ _ (Hx2.out)).mono ?_; rintro e w3 ⟨rfl, hb⟩; rw [Hv.out]
      have Hx3 := Lib.hid (Hx2.out.below hb); have Hb3 := Lib.hid (Hb2.out.trans (hb.mono Hb2.out.size)); clear hb
      go_wp2_with fail
      refine (implTraceSpans_c xs _ _ Hx3.out).mono ?_; rintro e w4 ⟨u2, rfl, o, hb⟩; rw [Hl.out] at o
      have O4 := Lib.hid o.ri; have Hb4 := Lib.hid (Hb3.out.trans (hb.mono Hb3.out.size)); clear o hb
      obtain ⟨al, cl, rfl⟩ := O4.out.val
      have hlx : l.length ≤ 24 := by rw [Hll.out]; exact hx24
      obtain ⟨n, hn⟩ : ∃ n, l.length = n := ⟨_, rfl⟩
      have Hn := Lib.hid hn
      rw [hn] at hlx O4 ⊢
      clear hn
      go_wp2_with fail
      go_loop [8, 9] (fun nv i => ∃ (k d : Nat), i = .int .i64 k ∧ k ≤ n ∧ nv = .int .i64 d ∧ d ≤ k ∧ Hid (d = lastCnt xs f k)) (fun _ i => n - (intOf i).toNat)
      case atStart => exact ⟨0, 0, rfl, Nat.zero_le _, rfl, Nat.le_refl _, rfl⟩
      case round =>
        obtain ⟨k, d, rfl, hk, rfl, hdk, hd⟩ := hrel
        by_cases hlt : k < n
        · have hlI : (k : Int) < (n : Int) := by omega
          obtain ⟨b, off, cap', e, _, hcell⟩ := O4.out.at (k := k) (by rw [Hn.out]; exact hlt)
          rw [Hn.out] at e
          simp only [Value.slice.injEq] at e
          obtain ⟨rfl, _, rfl⟩ := e
          rw [hlg.out k (by rw [Hn.out]; exact hlt)] at hcell
          have hst : Hid (lastCnt xs f (k + 1) = lastCnt xs f k + if spanAt xs k < 0 ∨ f ≤ spanAt xs k then 1 else 0) := rfl
          generalize spanAt xs k = s at hst hcell
          by_cases h1 : s < 0
          · have Hst := Lib.hid (hst.out.trans (by rw [if_pos (.inl h1)]))
            clear hst
            go_wp2_with fail
            go_round
            case rel => exact ⟨k + 1, d + 1, by go_num, by omega, by go_num, by omega, by show _ = _; rw [Hst.out, hd.out]⟩
            case measure => simp [intOf]; omega
          · by_cases h2 : f ≤ s
            · have Hst := Lib.hid (hst.out.trans (by rw [if_pos (.inr h2)]))
              clear hst
              go_wp2_with fail
              go_round
              case rel => exact ⟨k + 1, d + 1, by go_num, by omega, by go_num, by omega, by show _ = _; rw [Hst.out, hd.out]⟩
              case measure => simp [intOf]; omega
            · have Hst := Lib.hid (hst.out.trans (by rw [if_neg (by omega), Nat.add_zero]))
              clear hst
              go_wp2_with fail
              go_round
              case rel => exact ⟨k + 1, d, by go_num, by omega, rfl, by omega, by show _ = _; rw [Hst.out, hd.out]⟩
              case measure => simp [intOf]; omega
        · have hdc : d = c := by
            have hkn : k = xs.length := by have := Hll.out; have := Hn.out; omega
            rw [hd.out, hkn]; exact Hcn.out
          subst hdc
          go_wp2_with fail
          go_ret
          exact ⟨rfl, Hb4.out⟩
  · have hI0 : (1048576 : Int) < (len0 : Int) := by omega
    clear h0
    go_enter Try.func8, Try.ntmps8
    go_wp2_with fail
    go_ret
    exact ⟨rfl, Below.refl _ _⟩
end Go.Proofs.Ytdmjpikkgfedmaa
