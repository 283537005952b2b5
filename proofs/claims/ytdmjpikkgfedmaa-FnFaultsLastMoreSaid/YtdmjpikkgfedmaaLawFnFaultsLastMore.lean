/- The law FnFaultsLastMore: more frames have no more faults. -/
import Derived.Test.YtdmjpikkgfedmaaWalkFP
import Derived.Test.YtdmjpikkgfedmaaWalkYF
namespace Go.Proofs.Ytdmjpikkgfedmaa
open Go.RowKit

set_option maxHeartbeats 2000000 in
set_option maxRecDepth 100000 in
theorem FnFaultsLastMore_c (a0 : Option Addr) (len0 cap0 : Nat) (z0 : List Int) (w : World) (h0 : IsRow .u8 w a0 len0 cap0 z0) :
    Calls Try.prog 7 #[.slice a0 len0 cap0] w fun e w' => e = .returned (.bool true) ∧ Below w.heap.size w w' := by
  by_cases hl0 : len0 ≤ 1048576
  · have hI0 : ¬ (1048576 : Int) < (len0 : Int) := by omega
    have Hr := Lib.hid (IsRow.rb h0)
    clear h0
    go_enter Try.func7, Try.ntmps7
    go_wp2_with fail
    refine (DrawFaultsLast_c _ _ _ Hr.out).mono ?_; rintro e w1 ⟨u, xs, f, rfl, hx, hxl, hco, hf0, hf1, hb⟩
    have Hx1 := Lib.hid hx; have Hb1 := Lib.hid hb; have Hco := Lib.hid hco; clear hx hb hco
    cases hp : okF xs f
    · have hv : faultsLast xs f = -1 := faultsR_bad hp
      have Hv := Lib.hid hv; clear hv hp
      go_wp2_with fail
      refine (implFaultsLast_c xs f _ _ (Hx1.out)).mono ?_; rintro e w2 ⟨rfl, hb⟩; rw [Hv.out]
      have Hx2 := Lib.hid (Hx1.out.below hb); have Hb2 := Lib.hid (Hb1.out.trans (hb.mono Hb1.out.size)); clear hb
      go_wp2_with fail
      refine (specFaultsLast2_c xs f _ _ (Hx2.out)).mono ?_; rintro e w3 ⟨rfl, hb⟩; rw [Hv.out]
      have Hx3 := Lib.hid (Hx2.out.below hb); have Hb3 := Lib.hid (Hb2.out.trans (hb.mono Hb2.out.size)); clear hb
      go_wp2_with fail
      go_ret
      exact ⟨rfl, Hb3.out⟩
    · obtain ⟨htr, hfl, hfh⟩ := okF_parts hp
      obtain ⟨hxo, hx24⟩ := traceOk_iff.1 htr
      obtain ⟨c, hv⟩ : ∃ c : Nat, faultsLast xs f = c := ⟨_, faultsR_ok hp⟩
      have hc0 : ¬ (c : Int) < 0 := by omega
      by_cases h12 : f = 12
      · subst h12
        have Hv := Lib.hid hv; clear hv
        clear hp htr hxo
        go_wp2_with fail
        refine (implFaultsLast_c xs 12 _ _ (Hx1.out)).mono ?_; rintro e w2 ⟨rfl, hb⟩; rw [Hv.out]
        have Hx2 := Lib.hid (Hx1.out.below hb); have Hb2 := Lib.hid (Hb1.out.trans (hb.mono Hb1.out.size)); clear hb
        go_wp2_with fail
        refine (specFaultsLast2_c xs 12 _ _ (Hx2.out)).mono ?_; rintro e w3 ⟨rfl, hb⟩; rw [Hv.out]
        have Hx3 := Lib.hid (Hx2.out.below hb); have Hb3 := Lib.hid (Hb2.out.trans (hb.mono Hb2.out.size)); clear hb
        go_wp2_with fail
        go_ret
        exact ⟨rfl, Hb3.out⟩
      · have h12b : (f == 12) = false := by rw [beq_eq_false_iff_ne]; exact h12
        obtain ⟨hm1, hm2⟩ := last_more hp (by omega)
        obtain ⟨a, ha⟩ : ∃ a, faultsLast xs (f + 1) = a := ⟨_, rfl⟩
        obtain ⟨b, hb⟩ : ∃ b, faultsBest xs (f + 1) = b := ⟨_, rfl⟩
        obtain ⟨d, hd⟩ : ∃ d, faultsBest xs f = d := ⟨_, rfl⟩
        rw [ha, hv] at hm1; rw [hb, hd] at hm2
        have Ha := Lib.hid ha; have Hb := Lib.hid hb; have Hd := Lib.hid hd; have Hv := Lib.hid hv; clear ha hb hd hv
        clear hp htr hxo h12
        go_wp2_with fail
        refine (implFaultsLast_c xs f _ _ (Hx1.out)).mono ?_; rintro e w2 ⟨rfl, hb⟩; rw [Hv.out]
        have Hx2 := Lib.hid (Hx1.out.below hb); have Hb2 := Lib.hid (Hb1.out.trans (hb.mono Hb1.out.size)); clear hb
        go_wp2_with fail
        refine (specFaultsLast2_c xs f _ _ (Hx2.out)).mono ?_; rintro e w3 ⟨rfl, hb⟩; rw [Hv.out]
        have Hx3 := Lib.hid (Hx2.out.below hb); have Hb3 := Lib.hid (Hb2.out.trans (hb.mono Hb2.out.size)); clear hb
        go_wp2_with fail
        refine (implFaultsLast_c xs (f + 1) _ _ (Hx3.out)).mono ?_; rintro e w4 ⟨rfl, hb⟩; rw [Ha.out]
        have Hx4 := Lib.hid (Hx3.out.below hb); have Hb4 := Lib.hid (Hb3.out.trans (hb.mono Hb3.out.size)); clear hb
        go_wp2_with fail
        refine (implFaultsBest_c xs (f + 1) _ _ (Hx4.out) Hco.out).mono ?_; rintro e w5 ⟨rfl, hb⟩; rw [Hb.out]
        have Hx5 := Lib.hid (Hx4.out.below hb); have Hb5 := Lib.hid (Hb4.out.trans (hb.mono Hb4.out.size)); clear hb
        go_wp2_with fail
        refine (implFaultsBest_c xs f _ _ (Hx5.out) Hco.out).mono ?_; rintro e w6 ⟨rfl, hb⟩; rw [Hd.out]
        have Hx6 := Lib.hid (Hx5.out.below hb); have Hb6 := Lib.hid (Hb5.out.trans (hb.mono Hb5.out.size)); clear hb
        go_wp2_with fail
        go_ret
        exact ⟨rfl, Hb6.out⟩
  · have hI0 : (1048576 : Int) < (len0 : Int) := by omega
    clear h0
    go_enter Try.func7, Try.ntmps7
    go_wp2_with fail
    go_ret
    exact ⟨rfl, Below.refl _ _⟩
end Go.Proofs.Ytdmjpikkgfedmaa
