/- The law FnFaultsBegin: a longer trace has no fewer faults. -/
import Derived.Test.YtdmjpikkgfedmaaWalkFP
import Derived.Test.YtdmjpikkgfedmaaWalkYF
namespace Go.Proofs.Ytdmjpikkgfedmaa
open Go.RowKit

set_option maxHeartbeats 2000000 in
set_option maxRecDepth 100000 in
theorem FnFaultsBegin_c (a0 : Option Addr) (len0 cap0 : Nat) (z0 : List Int) (a1 : Option Addr) (len1 cap1 : Nat) (z1 : List Int) (w : World) (h0 : IsRow .u8 w a0 len0 cap0 z0) (_h1 : IsRow .u8 w a1 len1 cap1 z1) :
    Calls Try.prog 4 #[.slice a0 len0 cap0, .slice a1 len1 cap1] w fun e w' => e = .returned (.bool true) ∧ Below w.heap.size w w' := by
  by_cases hl0 : len0 ≤ 1048576
  · by_cases hl1 : len1 ≤ 1048576
    · have hI0 : ¬ (1048576 : Int) < (len0 : Int) := by omega
      have hI1 : ¬ (1048576 : Int) < (len1 : Int) := by omega
      have Hr := Lib.hid (IsRow.rb h0)
      clear h0
      go_enter Try.func4, Try.ntmps4
      go_wp2_with fail
      refine (DrawFaultsFirst_c _ _ _ Hr.out).mono ?_; rintro e w1 ⟨u, xs, f, rfl, hx, hxl, hco, hf0, hf1, hb⟩
      have Hx1 := Lib.hid hx; have Hb1 := Lib.hid hb; have Hco := Lib.hid hco; clear hx hb hco
      cases hp : okF xs f
      · have hv : faultsFirst xs f = -1 := faultsR_bad hp
        have Hv := Lib.hid hv; clear hv hp
        go_wp2_with fail
        refine (implFaultsFirst_c xs f _ _ (Hx1.out)).mono ?_; rintro e w2 ⟨rfl, hb⟩; rw [Hv.out]
        have Hx2 := Lib.hid (Hx1.out.below hb); have Hb2 := Lib.hid (Hb1.out.trans (hb.mono Hb1.out.size)); clear hb
        go_wp2_with fail
        refine (specFaultsFirst_c xs f _ _ (Hx2.out)).mono ?_; rintro e w3 ⟨rfl, hb⟩; rw [Hv.out]
        have Hx3 := Lib.hid (Hx2.out.below hb); have Hb3 := Lib.hid (Hb2.out.trans (hb.mono Hb2.out.size)); clear hb
        go_wp2_with fail
        go_ret
        exact ⟨rfl, Hb3.out⟩
      · obtain ⟨htr, hfl, hfh⟩ := okF_parts hp
        obtain ⟨hxo, hx24⟩ := traceOk_iff.1 htr
        obtain ⟨c, hv⟩ : ∃ c : Nat, faultsFirst xs f = c := ⟨_, faultsR_ok hp⟩
        have hc0 : ¬ (c : Int) < 0 := by omega
        obtain ⟨k, hk⟩ : ∃ k, len1 % (xs.length + 1) = k := ⟨_, rfl⟩
        have hkx : k ≤ xs.length := by have := Nat.mod_lt len1 (show 0 < xs.length + 1 by omega); omega
        have hkI : (len1 : Int) % ((xs.length : Int) + 1) = (k : Int) := by rw [← hk]; exact (Int.natCast_emod _ _).symm
        have hkl : (k : Int) ≤ (xs.length : Int) := by omega
        have hk0 : (0 : Int) ≤ (k : Int) := by omega
        have hnz : ¬ (xs.length : Int) + 1 = 0 := by omega
        obtain ⟨hb1, hb2, hb3⟩ := begin_le hp k
        obtain ⟨a, ha⟩ : ∃ a, faultsFirst (xs.take k) f = a := ⟨_, rfl⟩
        obtain ⟨b, hb⟩ : ∃ b, faultsLast (xs.take k) f = b := ⟨_, rfl⟩
        obtain ⟨d, hd⟩ : ∃ d, faultsLast xs f = d := ⟨_, rfl⟩
        obtain ⟨g, hg⟩ : ∃ g, faultsBest (xs.take k) f = g := ⟨_, rfl⟩
        obtain ⟨j, hj⟩ : ∃ j, faultsBest xs f = j := ⟨_, rfl⟩
        rw [ha, hv] at hb1; rw [hb, hd] at hb2; rw [hg, hj] at hb3
        have Ha := Lib.hid ha; have Hb := Lib.hid hb; have Hd := Lib.hid hd; have Hg := Lib.hid hg; have Hj := Lib.hid hj; have Hv := Lib.hid hv; clear ha hb hd hg hj hv
        clear hp htr hxo hk
        obtain ⟨ax, cx, rfl⟩ := Hx1.out.val
        obtain ⟨hxc, hcm⟩ := Hco.out _ _ _ rfl
        have Hcy : Hid (CapOk (.slice ax k cx)) := by
          intro a n c e
          simp only [Value.slice.injEq] at e
          obtain ⟨_, rfl, rfl⟩ := e
          omega
        have Hy1 := Lib.hid (Hx1.out.take k hkx)
        have hkc : k ≤ cx := by omega
        go_wp2_with fail
        refine (implFaultsFirst_c xs f _ _ (Hx1.out)).mono ?_; rintro e w2 ⟨rfl, hb⟩; rw [Hv.out]
        have Hx2 := Lib.hid (Hx1.out.below hb); have Hy2 := Lib.hid (Hy1.out.below hb); have Hb2 := Lib.hid (Hb1.out.trans (hb.mono Hb1.out.size)); clear hb
        go_wp2_with fail
        refine (specFaultsFirst_c xs f _ _ (Hx2.out)).mono ?_; rintro e w3 ⟨rfl, hb⟩; rw [Hv.out]
        have Hx3 := Lib.hid (Hx2.out.below hb); have Hy3 := Lib.hid (Hy2.out.below hb); have Hb3 := Lib.hid (Hb2.out.trans (hb.mono Hb2.out.size)); clear hb
        go_wp2_with fail
        refine (implFaultsFirst_c (xs.take k) f _ _ (Hy3.out)).mono ?_; rintro e w4 ⟨rfl, hb⟩; rw [Ha.out]
        have Hx4 := Lib.hid (Hx3.out.below hb); have Hy4 := Lib.hid (Hy3.out.below hb); have Hb4 := Lib.hid (Hb3.out.trans (hb.mono Hb3.out.size)); clear hb
        go_wp2_with fail
        refine (implFaultsLast_c (xs.take k) f _ _ (Hy4.out)).mono ?_; rintro e w5 ⟨rfl, hb⟩; rw [Hb.out]
        have Hx5 := Lib.hid (Hx4.out.below hb); have Hy5 := Lib.hid (Hy4.out.below hb); have Hb5 := Lib.hid (Hb4.out.trans (hb.mono Hb4.out.size)); clear hb
        go_wp2_with fail
        refine (implFaultsLast_c xs f _ _ (Hx5.out)).mono ?_; rintro e w6 ⟨rfl, hb⟩; rw [Hd.out]
        have Hx6 := Lib.hid (Hx5.out.below hb); have Hy6 := Lib.hid (Hy5.out.below hb); have Hb6 := Lib.hid (Hb5.out.trans (hb.mono Hb5.out.size)); clear hb
        go_wp2_with fail
        refine (implFaultsBest_c (xs.take k) f _ _ (Hy6.out) Hcy.out).mono ?_; rintro e w7 ⟨rfl, hb⟩; rw [Hg.out]
        have Hx7 := Lib.hid (Hx6.out.below hb); have Hy7 := Lib.hid (Hy6.out.below hb); have Hb7 := Lib.hid (Hb6.out.trans (hb.mono Hb6.out.size)); clear hb
        go_wp2_with fail
        refine (implFaultsBest_c xs f _ _ (Hx7.out) Hco.out).mono ?_; rintro e w8 ⟨rfl, hb⟩; rw [Hj.out]
        have Hx8 := Lib.hid (Hx7.out.below hb); have Hy8 := Lib.hid (Hy7.out.below hb); have Hb8 := Lib.hid (Hb7.out.trans (hb.mono Hb7.out.size)); clear hb
        go_wp2_with fail
        go_ret
        exact ⟨rfl, Hb8.out⟩
    · have hI0 : ¬ (1048576 : Int) < (len0 : Int) := by omega
      have hI1 : (1048576 : Int) < (len1 : Int) := by omega
      clear h0
      go_enter Try.func4, Try.ntmps4
      go_wp2_with fail
      go_ret
      exact ⟨rfl, Below.refl _ _⟩
  · have hI0 : (1048576 : Int) < (len0 : Int) := by omega
    clear h0
    go_enter Try.func4, Try.ntmps4
    go_wp2_with fail
    go_ret
    exact ⟨rfl, Below.refl _ _⟩
end Go.Proofs.Ytdmjpikkgfedmaa
