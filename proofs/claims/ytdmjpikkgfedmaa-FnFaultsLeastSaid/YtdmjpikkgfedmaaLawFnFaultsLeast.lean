/- The law FnFaultsLeast: each page comes once at least. -/
import Derived.Test.YtdmjpikkgfedmaaWalkFP
import Derived.Test.YtdmjpikkgfedmaaWalkYF
import Derived.Test.YtdmjpikkgfedmaaWalkZZ
namespace Go.Proofs.Ytdmjpikkgfedmaa
open Go.RowKit

set_option maxHeartbeats 2000000 in
set_option maxRecDepth 100000 in
theorem FnFaultsLeast_c (a0 : Option Addr) (len0 cap0 : Nat) (z0 : List Int) (w : World) (h0 : IsRow .u8 w a0 len0 cap0 z0) :
    Calls Try.prog 10 #[.slice a0 len0 cap0] w fun e w' => e = .returned (.bool true) ∧ Below w.heap.size w w' := by
  by_cases hl0 : len0 ≤ 1048576
  · have hI0 : ¬ (1048576 : Int) < (len0 : Int) := by omega
    have Hr := Lib.hid (IsRow.rb h0)
    clear h0
    go_enter Try.func10, Try.ntmps10
    go_wp2_with fail
    refine (DrawFaultsBest_c _ _ _ Hr.out).mono ?_; rintro e w1 ⟨u, xs, f, rfl, hx, hxl, hco, hf0, hf1, hb⟩
    have Hx1 := Lib.hid hx; have Hb1 := Lib.hid hb; have Hco := Lib.hid hco; clear hx hb hco
    cases hp : okF xs f
    · have hv : faultsBest xs f = -1 := faultsR_bad hp
      have Hv := Lib.hid hv; clear hv hp
      go_wp2_with fail
      refine (implFaultsBest_c xs f _ _ (Hx1.out) Hco.out).mono ?_; rintro e w2 ⟨rfl, hb⟩; rw [Hv.out]
      have Hx2 := Lib.hid (Hx1.out.below hb); have Hb2 := Lib.hid (Hb1.out.trans (hb.mono Hb1.out.size)); clear hb
      go_wp2_with fail
      refine (specFaultsBest_c xs f _ _ (Hx2.out)).mono ?_; rintro e w3 ⟨rfl, hb⟩; rw [Hv.out]
      have Hx3 := Lib.hid (Hx2.out.below hb); have Hb3 := Lib.hid (Hb2.out.trans (hb.mono Hb2.out.size)); clear hb
      go_wp2_with fail
      go_ret
      exact ⟨rfl, Hb3.out⟩
    · obtain ⟨htr, hfl, hfh⟩ := okF_parts hp
      obtain ⟨hxo, hx24⟩ := traceOk_iff.1 htr
      obtain ⟨c, hv⟩ : ∃ c : Nat, faultsBest xs f = c := ⟨_, faultsR_ok hp⟩
      have hc0 : ¬ (c : Int) < 0 := by omega
      obtain ⟨hge, hle⟩ := best_ge hp
      obtain ⟨n, hn⟩ : ∃ n, dn xs xs.length = n := ⟨_, rfl⟩
      have hnc : Xp.newCount xs [] = n := by rw [← hn, ← dn_rev]; exact newCount_same (fun x => by simp)
      rw [hnc, hv] at hge
      rw [hv] at hle
      have hen : Hid (∀ k : Int, 1 ≤ k → k ≤ 12 → (n : Int) ≤ k → faultsBest xs k = n ∧ faultsLast xs k = n ∧ faultsFirst xs k = n) := fun k k1 k2 k3 => by
        have := enough (okF_of htr k1 k2) (by rw [hnc]; exact k3)
        rw [hnc] at this
        exact this
      have Hv := Lib.hid hv; have Hn := Lib.hid hn; clear hv hn
      clear hp htr hxo hnc
      go_wp2_with fail
      refine (implFaultsBest_c xs f _ _ (Hx1.out) Hco.out).mono ?_; rintro e w2 ⟨rfl, hb⟩; rw [Hv.out]
      have Hx2 := Lib.hid (Hx1.out.below hb); have Hb2 := Lib.hid (Hb1.out.trans (hb.mono Hb1.out.size)); clear hb
      go_wp2_with fail
      refine (specFaultsBest_c xs f _ _ (Hx2.out)).mono ?_; rintro e w3 ⟨rfl, hb⟩; rw [Hv.out]
      have Hx3 := Lib.hid (Hx2.out.below hb); have Hb3 := Lib.hid (Hb2.out.trans (hb.mono Hb2.out.size)); clear hb
      go_wp2_with fail
      refine (differentPages_c xs _ _ Hx3.out Hco.out).mono ?_; rintro e w4 ⟨rfl, m, hw⟩; rw [Hn.out]
      have Hx4 : Hid (RI w4 u xs) := by rw [hw]; exact Hx3.out
      have Hb4 : Hid (Below w.heap.size w w4) := by rw [hw]; exact below_drewN Hb3.out _
      clear hw
      obtain ⟨au, cu, rfl⟩ := Hx4.out.val
      have hn24 : (n : Int) ≤ 24 := by omega
      by_cases hn0 : n = 0
      · subst hn0
        obtain ⟨h1, h2, h3⟩ := hen.out 1 (by omega) (by omega) (by omega)
        have H1 := Lib.hid h1; have H2 := Lib.hid h2; have H3 := Lib.hid h3; clear h1 h2 h3
        go_wp2_with fail
        refine (implFaultsBest_c xs 1 _ _ (Hx4.out) Hco.out).mono ?_; rintro e w5 ⟨rfl, hb⟩; rw [H1.out]
        have Hx5 := Lib.hid (Hx4.out.below hb); have Hb5 := Lib.hid (Hb4.out.trans (hb.mono Hb4.out.size)); clear hb
        go_wp2_with fail
        refine (implFaultsLast_c xs 1 _ _ (Hx5.out)).mono ?_; rintro e w6 ⟨rfl, hb⟩; rw [H2.out]
        have Hx6 := Lib.hid (Hx5.out.below hb); have Hb6 := Lib.hid (Hb5.out.trans (hb.mono Hb5.out.size)); clear hb
        go_wp2_with fail
        refine (implFaultsFirst_c xs 1 _ _ (Hx6.out)).mono ?_; rintro e w7 ⟨rfl, hb⟩; rw [H3.out]
        have Hx7 := Lib.hid (Hx6.out.below hb); have Hb7 := Lib.hid (Hb6.out.trans (hb.mono Hb6.out.size)); clear hb
        go_wp2_with fail
        go_ret
        exact ⟨rfl, Hb7.out⟩
      · have hmx : max (n : Int) 1 = (n : Int) := by omega
        have hn1 : (1 : Int) ≤ (n : Int) := by omega
        have hn1b : ¬ (n : Int) < 1 := by omega
        by_cases hn12 : (12 : Int) < (n : Int)
        · clear hn0 hmx
          go_wp2_with fail
          go_ret
          exact ⟨rfl, Hb4.out⟩
        · obtain ⟨h1, h2, h3⟩ := hen.out n (by omega) (by omega) (by omega)
          have H1 := Lib.hid h1; have H2 := Lib.hid h2; have H3 := Lib.hid h3; clear h1 h2 h3 hn0
          go_wp2_with fail
          refine (implFaultsBest_c xs n _ _ (Hx4.out) Hco.out).mono ?_; rintro e w5 ⟨rfl, hb⟩; rw [H1.out]
          have Hx5 := Lib.hid (Hx4.out.below hb); have Hb5 := Lib.hid (Hb4.out.trans (hb.mono Hb4.out.size)); clear hb
          go_wp2_with fail
          refine (implFaultsLast_c xs n _ _ (Hx5.out)).mono ?_; rintro e w6 ⟨rfl, hb⟩; rw [H2.out]
          have Hx6 := Lib.hid (Hx5.out.below hb); have Hb6 := Lib.hid (Hb5.out.trans (hb.mono Hb5.out.size)); clear hb
          go_wp2_with fail
          refine (implFaultsFirst_c xs n _ _ (Hx6.out)).mono ?_; rintro e w7 ⟨rfl, hb⟩; rw [H3.out]
          have Hx7 := Lib.hid (Hx6.out.below hb); have Hb7 := Lib.hid (Hb6.out.trans (hb.mono Hb6.out.size)); clear hb
          go_wp2_with fail
          go_ret
          exact ⟨rfl, Hb7.out⟩
  · have hI0 : (1048576 : Int) < (len0 : Int) := by omega
    clear h0
    go_enter Try.func10, Try.ntmps10
    go_wp2_with fail
    go_ret
    exact ⟨rfl, Below.refl _ _⟩
end Go.Proofs.Ytdmjpikkgfedmaa
