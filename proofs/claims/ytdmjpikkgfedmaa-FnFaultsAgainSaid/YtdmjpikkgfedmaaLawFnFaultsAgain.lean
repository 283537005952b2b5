/- The law FnFaultsAgain: a page that is used again has no fault. -/
import Derived.Test.YtdmjpikkgfedmaaWalkFP
import Derived.Test.YtdmjpikkgfedmaaWalkYF
import Derived.Test.YtdmjpikkgfedmaaWalkR
namespace Go.Proofs.Ytdmjpikkgfedmaa
open Go.RowKit

set_option maxHeartbeats 2000000 in
set_option maxRecDepth 100000 in
theorem FnFaultsAgain_c (a0 : Option Addr) (len0 cap0 : Nat) (z0 : List Int) (a1 : Option Addr) (len1 cap1 : Nat) (z1 : List Int) (w : World) (h0 : IsRow .u8 w a0 len0 cap0 z0) (_h1 : IsRow .u8 w a1 len1 cap1 z1) :
    Calls Try.prog 3 #[.slice a0 len0 cap0, .slice a1 len1 cap1] w fun e w' => e = .returned (.bool true) ∧ Below w.heap.size w w' := by
  by_cases hl0 : len0 ≤ 1048576
  · by_cases hl1 : len1 ≤ 1048576
    · have hI0 : ¬ (1048576 : Int) < (len0 : Int) := by omega
      have hI1 : ¬ (1048576 : Int) < (len1 : Int) := by omega
      have Hr := Lib.hid (IsRow.rb h0)
      clear h0
      go_enter Try.func3, Try.ntmps3
      go_wp2_with fail
      refine (DrawFaultsFirst_c _ _ _ Hr.out).mono ?_; rintro e w1 ⟨u, xs, f, rfl, hx, hxl, hco, hf0, hf1, hb⟩
      have Hx1 := Lib.hid hx; have Hb1 := Lib.hid hb; have Hco := Lib.hid hco; clear hx hb hco
      cases hp : okF xs f
      · have hv : faultsFirst xs f = -1 := faultsR_bad hp
        have Hv := Lib.hid hv; clear hv hp
        go_wp2_with fail
        refine (implFaultsFirst_c xs f _ _ (Hx1.out)).mono ?_; rintro e w2 ⟨rfl, hb⟩; rw [Hv.out]
        have Hx2 := Lib.hid (Hx1.out.below hb); have Hb2 := Lib.hid (Hb1.out.trans (hb.mono Hb1.out.size)); clear hb
        go_wp2_with fail
        refine (specFaultsFirst_c xs f _ _ (Hx2.out)).mono ?_; rintro e w3 ⟨rfl, hb⟩; rw [Hv.out]
        have Hx3 := Lib.hid (Hx2.out.below hb); have Hb3 := Lib.hid (Hb2.out.trans (hb.mono Hb2.out.size)); clear hb
        go_wp2_with fail
        go_ret
        exact ⟨rfl, Hb3.out⟩
      · obtain ⟨htr, hfl, hfh⟩ := okF_parts hp
        obtain ⟨hxo, hx24⟩ := traceOk_iff.1 htr
        obtain ⟨c, hv⟩ : ∃ c : Nat, faultsFirst xs f = c := ⟨_, faultsR_ok hp⟩
        have hc0 : ¬ (c : Int) < 0 := by omega
        obtain ⟨ax, cx, rfl⟩ := Hx1.out.val
        obtain ⟨hxc, hcm⟩ := Hco.out _ _ _ rfl
        by_cases hz : xs.length = 0
        · have hzI : ((xs.length : Int) == 0) = true := by rw [beq_iff_eq]; omega
          clear hz
          have Hv := Lib.hid hv; clear hv
          clear hp htr hxo
          go_wp2_with fail
          refine (implFaultsFirst_c xs f _ _ (Hx1.out)).mono ?_; rintro e w2 ⟨rfl, hb⟩; rw [Hv.out]
          have Hx2 := Lib.hid (Hx1.out.below hb); have Hb2 := Lib.hid (Hb1.out.trans (hb.mono Hb1.out.size)); clear hb
          go_wp2_with fail
          refine (specFaultsFirst_c xs f _ _ (Hx2.out)).mono ?_; rintro e w3 ⟨rfl, hb⟩; rw [Hv.out]
          have Hx3 := Lib.hid (Hx2.out.below hb); have Hb3 := Lib.hid (Hb2.out.trans (hb.mono Hb2.out.size)); clear hb
          go_wp2_with fail
          go_ret
          exact ⟨rfl, Hb3.out⟩
        · have hzI : ((xs.length : Int) == 0) = false := by rw [beq_eq_false_iff_ne]; omega
          by_cases hm : xs.length = 24
          · have hmI : ((xs.length : Int) == 24) = true := by rw [beq_iff_eq]; omega
            clear hz hm
            have Hv := Lib.hid hv; clear hv
            clear hp htr hxo
            go_wp2_with fail
            refine (implFaultsFirst_c xs f _ _ (Hx1.out)).mono ?_; rintro e w2 ⟨rfl, hb⟩; rw [Hv.out]
            have Hx2 := Lib.hid (Hx1.out.below hb); have Hb2 := Lib.hid (Hb1.out.trans (hb.mono Hb1.out.size)); clear hb
            go_wp2_with fail
            refine (specFaultsFirst_c xs f _ _ (Hx2.out)).mono ?_; rintro e w3 ⟨rfl, hb⟩; rw [Hv.out]
            have Hx3 := Lib.hid (Hx2.out.below hb); have Hb3 := Lib.hid (Hb2.out.trans (hb.mono Hb2.out.size)); clear hb
            go_wp2_with fail
            go_ret
            exact ⟨rfl, Hb3.out⟩
          · have hmI : ((xs.length : Int) == 24) = false := by rw [beq_eq_false_iff_ne]; omega
            have hzI2 : ¬ (xs.length : Int) = 0 := by omega
            obtain ⟨k, hk⟩ : ∃ k, len1 % xs.length = k := ⟨_, rfl⟩
            have hkx : k < xs.length := hk ▸ Nat.mod_lt _ (by omega)
            have hkI : (len1 : Int) % (xs.length : Int) = (k : Int) := by rw [← hk]; exact (Int.natCast_emod _ _).symm
            have hkl : (k : Int) < (xs.length : Int) := by omega
            obtain ⟨hb1, hb2, hb3⟩ := again hp hkx (by omega)
            obtain ⟨ys, hys⟩ : ∃ ys, xs.take (k + 1) ++ xs.drop k = ys := ⟨_, rfl⟩
            rw [hys] at hb1 hb2 hb3
            obtain ⟨d, hd⟩ : ∃ d, faultsLast xs f = d := ⟨_, rfl⟩
            obtain ⟨j, hj⟩ : ∃ j, faultsBest xs f = j := ⟨_, rfl⟩
            rw [hv] at hb1; rw [hd] at hb2; rw [hj] at hb3
            have Ha := Lib.hid hb1; have Hb := Lib.hid hb2; have Hg := Lib.hid hb3; clear hb1 hb2 hb3
            have Hd := Lib.hid hd; have Hj := Lib.hid hj; have Hv := Lib.hid hv; have Hys := Lib.hid hys; clear hd hj hv hys
            clear hp htr hxo hk hz hm
            go_wp2_with fail
            refine (implFaultsFirst_c xs f _ _ (Hx1.out)).mono ?_; rintro e w2 ⟨rfl, hb⟩; rw [Hv.out]
            have Hx2 := Lib.hid (Hx1.out.below hb); have Hb2 := Lib.hid (Hb1.out.trans (hb.mono Hb1.out.size)); clear hb
            go_wp2_with fail
            refine (specFaultsFirst_c xs f _ _ (Hx2.out)).mono ?_; rintro e w3 ⟨rfl, hb⟩; rw [Hv.out]
            have Hx3 := Lib.hid (Hx2.out.below hb); have Hb3 := Lib.hid (Hb2.out.trans (hb.mono Hb2.out.size)); clear hb
            obtain ⟨bh, offh, cph, e, _, _⟩ := Hx3.out.at hkx
            simp only [Value.slice.injEq] at e
            obtain ⟨rfl, _, rfl⟩ := e
            have hcxk : ¬ cx = k := by omega
            have hRA := Lib.hid (Hx3.out.drop k hkx)
            have c1 : Below w3.heap.size w3 (w3.alloc (.cells #[] 3)) := (Below.refl _ _).alloc (Nat.le_refl _) _
            have M1 : Hid (OI (w3.alloc (.cells #[] 3)).drew w3.heap.size (.slice (some ⟨w3.heap.size, 0, none⟩) 0 0) []) := (OI.lit0 (Nat.le_refl _)).drew
            have N1 := Lib.hid ((Hx3.out.take (k + 1) (by omega)).below c1).drew
            have C1 := Lib.hid (below_drew c1)
            have hq1 := Lib.hid (show ([] : List Int).length + (xs.take (k + 1)).length ≤ 1099511627776 by rw [List.length_take]; simp; omega)
            have hq2 := Lib.hid (show (xs.take (k + 1)).length + (xs.drop k).length ≤ 1099511627776 by rw [List.length_take, List.length_drop]; omega)
            have hj0 : (0 : Int) ≤ (k : Int) := by omega
            have hj01 : (0 : Int) ≤ (k : Int) + 1 := by omega
            have hjI2 : (k : Int) + 1 ≤ (xs.length : Int) := by omega
            have hjI3 : (k : Int) ≤ (xs.length : Int) := by omega
            have hjc : k ≤ cx := by omega
            have hjc1 : k + 1 ≤ cx := by omega
            have hjcI : (k : Int) ≤ (cx : Int) := by omega
            have hjcI1 : (k : Int) + 1 ≤ (cx : Int) := by omega
            have hw1 : IntKind.i64.wrap ((k : Int) + 1) = (k : Int) + 1 := IntWalk.i64_in _ (by omega)
            have hn1 : ((k : Int) + 1).toNat = k + 1 := by omega
            clear c1
            go_wp2_with fail
            go_region_held3 (fun _ => True)
              (trivial)
              (first
                | (refine step_appR rfl _ _ rfl w3.heap.size _ [] rfl M1.out _ (xs.take (k + 1)) rfl N1.out hq1.out C1.out.size ?_; intro v1 w4 ho1 hg1 _; rw [List.nil_append] at ho1; have hB1 := Below.app C1.out M1.out hg1 (Nat.le_refl _) C1.out.size; have hr1 := hRA.out.below hB1)
                | (refine step_appR rfl _ _ rfl w3.heap.size _ (xs.take (k + 1)) rfl ho1 _ (xs.drop k) rfl hr1 hq2.out hB1.size ?_; intro v2 w5 ho2 hg2 _; have hB2 := Below.app hB1 ho1 hg2 (Nat.le_refl _) hB1.size))
            rw [Hys.out] at ho2
            have Hy5 := Lib.hid ho2.ri
            have Hcy := Lib.hid ho2.capOk
            have Hx5 := Lib.hid (Hx3.out.below hB2)
            have Hb5 := Lib.hid (Hb3.out.trans (hB2.mono Hb3.out.size))
            clear ho1 hg1 hB1 hr1 hg2 hB2 ho2 hw1 hn1 hRA M1 N1 C1
            obtain ⟨ay, cy, rfl⟩ := Hy5.out.val
            go_wp2_with fail
            refine (implFaultsFirst_c ys f _ _ (Hy5.out)).mono ?_; rintro e w6 ⟨rfl, hb⟩; rw [Ha.out]
            have Hx6 := Lib.hid (Hx5.out.below hb); have Hy6 := Lib.hid (Hy5.out.below hb); have Hb6 := Lib.hid (Hb5.out.trans (hb.mono Hb5.out.size)); clear hb
            go_wp2_with fail
            refine (implFaultsLast_c ys f _ _ (Hy6.out)).mono ?_; rintro e w7 ⟨rfl, hb⟩; rw [Hb.out]
            have Hx7 := Lib.hid (Hx6.out.below hb); have Hy7 := Lib.hid (Hy6.out.below hb); have Hb7 := Lib.hid (Hb6.out.trans (hb.mono Hb6.out.size)); clear hb
            go_wp2_with fail
            refine (implFaultsLast_c xs f _ _ (Hx7.out)).mono ?_; rintro e w8 ⟨rfl, hb⟩; rw [Hd.out]
            have Hx8 := Lib.hid (Hx7.out.below hb); have Hy8 := Lib.hid (Hy7.out.below hb); have Hb8 := Lib.hid (Hb7.out.trans (hb.mono Hb7.out.size)); clear hb
            go_wp2_with fail
            refine (implFaultsBest_c ys f _ _ (Hy8.out) Hcy.out).mono ?_; rintro e w9 ⟨rfl, hb⟩; rw [Hg.out]
            have Hx9 := Lib.hid (Hx8.out.below hb); have Hy9 := Lib.hid (Hy8.out.below hb); have Hb9 := Lib.hid (Hb8.out.trans (hb.mono Hb8.out.size)); clear hb
            go_wp2_with fail
            refine (implFaultsBest_c xs f _ _ (Hx9.out) Hco.out).mono ?_; rintro e w10 ⟨rfl, hb⟩; rw [Hj.out]
            have Hx10 := Lib.hid (Hx9.out.below hb); have Hy10 := Lib.hid (Hy9.out.below hb); have Hb10 := Lib.hid (Hb9.out.trans (hb.mono Hb9.out.size)); clear hb
            go_wp2_with fail
            go_ret
            exact ⟨rfl, Hb10.out⟩
    · have hI0 : ¬ (1048576 : Int) < (len0 : Int) := by omega
      have hI1 : (1048576 : Int) < (len1 : Int) := by omega
      clear h0
      go_enter Try.func3, Try.ntmps3
      go_wp2_with fail
      go_ret
      exact ⟨rfl, Below.refl _ _⟩
  · have hI0 : (1048576 : Int) < (len0 : Int) := by omega
    clear h0
    go_enter Try.func3, Try.ntmps3
    go_wp2_with fail
    go_ret
    exact ⟨rfl, Below.refl _ _⟩
end Go.Proofs.Ytdmjpikkgfedmaa
