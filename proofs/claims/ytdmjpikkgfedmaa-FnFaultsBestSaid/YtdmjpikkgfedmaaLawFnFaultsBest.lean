/- The law FnFaultsBest: nothing has fewer faults than what knows the future. -/
import Derived.Test.YtdmjpikkgfedmaaWalkFP
import Derived.Test.YtdmjpikkgfedmaaWalkYF
namespace Go.Proofs.Ytdmjpikkgfedmaa
open Go.RowKit

set_option maxHeartbeats 2000000 in
set_option maxRecDepth 100000 in
theorem FnFaultsBest_c (a0 : Option Addr) (len0 cap0 : Nat) (z0 : List Int) (w : World) (h0 : IsRow .u8 w a0 len0 cap0 z0) :
    Calls Try.prog 9 #[.slice a0 len0 cap0] w fun e w' => e = .returned (.bool true) ∧ Below w.heap.size w w' := by
  by_cases hl0 : len0 ≤ 1048576
  · have hI0 : ¬ (1048576 : Int) < (len0 : Int) := by omega
    have Hr := Lib.hid (IsRow.rb h0)
    clear h0
    go_enter Try.func9, Try.ntmps9
    go_wp2_with fail
    refine (DrawFaultsBest_c _ _ _ Hr.out).mono ?_; rintro e w1 ⟨u, xs, f, rfl, hx, hxl, hco, hf0, hf1, hb⟩
    have Hx1 := Lib.hid hx; have Hb1 := Lib.hid hb; have Hco := Lib.hid hco; clear hx hb hco
    cases hp : okF xs f
    · have hv : faultsBest xs f = -1 := faultsR_bad hp
      have Hv := Lib.hid hv; clear hv hp
      go_wp2_with fail
      refine (implFaultsBest_c xs f _ _ (Hx1.out) Hco.out).mono ?_; rintro e w2 ⟨rfl, hb⟩; rw [Hv.out]
      have Hx2 := Lib.hid (Hx1.out.below hb); have Hb2 := Lib.hid (Hb1.out.trans (hb.mono Hb1.out.size)); clear hb
      go_wp2_with fail
      refine (specFaultsBest_c xs f _ _ (Hx2.out)).mono ?_; rintro e w3 ⟨rfl, hb⟩; rw [Hv.out]
      have Hx3 := Lib.hid (Hx2.out.below hb); have Hb3 := Lib.hid (Hb2.out.trans (hb.mono Hb2.out.size)); clear hb
      go_wp2_with fail
      go_ret
      exact ⟨rfl, Hb3.out⟩
    · obtain ⟨htr, hfl, hfh⟩ := okF_parts hp
      obtain ⟨hxo, hx24⟩ := traceOk_iff.1 htr
      obtain ⟨c, hv⟩ : ∃ c : Nat, faultsBest xs f = c := ⟨_, faultsR_ok hp⟩
      have hc0 : ¬ (c : Int) < 0 := by omega
      obtain ⟨hba, hbb⟩ := best_least hp
      obtain ⟨a, ha⟩ : ∃ a, faultsLast xs f = a := ⟨_, rfl⟩
      obtain ⟨b, hb⟩ : ∃ b, faultsFirst xs f = b := ⟨_, rfl⟩
      rw [ha, hv] at hba; rw [hb, hv] at hbb
      have Ha := Lib.hid ha; have Hb := Lib.hid hb; have Hv := Lib.hid hv; clear ha hb hv
      clear hp htr hxo
      go_wp2_with fail
      refine (implFaultsBest_c xs f _ _ (Hx1.out) Hco.out).mono ?_; rintro e w2 ⟨rfl, hb⟩; rw [Hv.out]
      have Hx2 := Lib.hid (Hx1.out.below hb); have Hb2 := Lib.hid (Hb1.out.trans (hb.mono Hb1.out.size)); clear hb
      go_wp2_with fail
      refine (specFaultsBest_c xs f _ _ (Hx2.out)).mono ?_; rintro e w3 ⟨rfl, hb⟩; rw [Hv.out]
      have Hx3 := Lib.hid (Hx2.out.below hb); have Hb3 := Lib.hid (Hb2.out.trans (hb.mono Hb2.out.size)); clear hb
      go_wp2_with fail
      refine (implFaultsLast_c xs f _ _ (Hx3.out)).mono ?_; rintro e w4 ⟨rfl, hb⟩; rw [Ha.out]
      have Hx4 := Lib.hid (Hx3.out.below hb); have Hb4 := Lib.hid (Hb3.out.trans (hb.mono Hb3.out.size)); clear hb
      go_wp2_with fail
      refine (implFaultsFirst_c xs f _ _ (Hx4.out)).mono ?_; rintro e w5 ⟨rfl, hb⟩; rw [Hb.out]
      have Hx5 := Lib.hid (Hx4.out.below hb); have Hb5 := Lib.hid (Hb4.out.trans (hb.mono Hb4.out.size)); clear hb
      go_wp2_with fail
      go_ret
      exact ⟨rfl, Hb5.out⟩
  · have hI0 : (1048576 : Int) < (len0 : Int) := by omega
    clear h0
    go_enter Try.func9, Try.ntmps9
    go_wp2_with fail
    go_ret
    exact ⟨rfl, Below.refl _ _⟩
end Go.Proofs.Ytdmjpikkgfedmaa
