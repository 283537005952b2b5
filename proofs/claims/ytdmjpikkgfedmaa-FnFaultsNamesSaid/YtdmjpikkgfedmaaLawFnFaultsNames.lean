/- The law FnFaultsNames: the numbers of pages have no influence. -/
import Derived.Test.YtdmjpikkgfedmaaWalkFP
import Derived.Test.YtdmjpikkgfedmaaWalkYF
namespace Go.Proofs.Ytdmjpikkgfedmaa
open Go.RowKit

set_option maxHeartbeats 2000000 in
set_option maxRecDepth 100000 in
theorem FnFaultsNames_c (a0 : Option Addr) (len0 cap0 : Nat) (z0 : List Int) (w : World) (h0 : IsRow .u8 w a0 len0 cap0 z0) :
    Calls Try.prog 5 #[.slice a0 len0 cap0] w fun e w' => e = .returned (.bool true) ∧ Below w.heap.size w w' := by
  by_cases hl0 : len0 ≤ 1048576
  · have hI0 : ¬ (1048576 : Int) < (len0 : Int) := by omega
    have Hr := Lib.hid (IsRow.rb h0)
    clear h0
    go_enter Try.func5, Try.ntmps5
    go_wp2_with fail
    refine (DrawFaultsFirst_c _ _ _ Hr.out).mono ?_; rintro e w1 ⟨u, xs, f, rfl, hx, hxl, hco, hf0, hf1, hb⟩
    have Hx1 := Lib.hid hx; have Hb1 := Lib.hid hb; have Hco := Lib.hid hco; clear hx hb hco
    cases hp : okF xs f
    · have hv : faultsFirst xs f = -1 := faultsR_bad hp
      have Hv := Lib.hid hv; clear hv hp
      go_wp2_with fail
      refine (implFaultsFirst_c xs f _ _ (Hx1.out)).mono ?_; rintro e w2 ⟨rfl, hb⟩; rw [Hv.out]
      have Hx2 := Lib.hid (Hx1.out.below hb); have Hb2 := Lib.hid (Hb1.out.trans (hb.mono Hb1.out.size)); clear hb
      go_wp2_with fail
      refine (specFaultsFirst_c xs f _ _ (Hx2.out)).mono ?_; rintro e w3 ⟨rfl, hb⟩; rw [Hv.out]
      have Hx3 := Lib.hid (Hx2.out.below hb); have Hb3 := Lib.hid (Hb2.out.trans (hb.mono Hb2.out.size)); clear hb
      go_wp2_with fail
      go_ret
      exact ⟨rfl, Hb3.out⟩
    · obtain ⟨htr, hfl, hfh⟩ := okF_parts hp
      obtain ⟨hxo, hx24⟩ := traceOk_iff.1 htr
      obtain ⟨c, hv⟩ : ∃ c : Nat, faultsFirst xs f = c := ⟨_, faultsR_ok hp⟩
      have hc0 : ¬ (c : Int) < 0 := by omega
      obtain ⟨hb1, hb2, hb3⟩ := names hp
      obtain ⟨ys, hys⟩ : ∃ ys, xs.map turn = ys := ⟨_, rfl⟩
      rw [hys] at hb1 hb2 hb3
      have hxr : Hid (∀ k (hk : k < xs.length), 0 ≤ xs[k] ∧ xs[k] ≤ 15) := fun k hk => hxo _ (List.getElem_mem hk)
      obtain ⟨d, hd⟩ : ∃ d, faultsLast xs f = d := ⟨_, rfl⟩
      obtain ⟨j, hj⟩ : ∃ j, faultsBest xs f = j := ⟨_, rfl⟩
      rw [hv] at hb1; rw [hd] at hb2; rw [hj] at hb3
      have Ha := Lib.hid hb1; have Hb := Lib.hid hb2; have Hg := Lib.hid hb3; clear hb1 hb2 hb3
      have Hd := Lib.hid hd; have Hj := Lib.hid hj; have Hv := Lib.hid hv; have Hys := Lib.hid hys; clear hd hj hv hys
      clear hp htr hxo
      go_wp2_with fail
      refine (implFaultsFirst_c xs f _ _ (Hx1.out)).mono ?_; rintro e w2 ⟨rfl, hb⟩; rw [Hv.out]
      have Hx2 := Lib.hid (Hx1.out.below hb); have Hb2 := Lib.hid (Hb1.out.trans (hb.mono Hb1.out.size)); clear hb
      go_wp2_with fail
      refine (specFaultsFirst_c xs f _ _ (Hx2.out)).mono ?_; rintro e w3 ⟨rfl, hb⟩; rw [Hv.out]
      have Hx3 := Lib.hid (Hx2.out.below hb); have Hb3 := Lib.hid (Hb2.out.trans (hb.mono Hb2.out.size)); clear hb
      obtain ⟨ax, cx, rfl⟩ := Hx3.out.val
      have b3 : Below w3.heap.size w3 (w3.alloc (.cells #[] 3)) := (Below.refl _ _).alloc (Nat.le_refl _) _
      have B3 := Lib.hid b3; clear b3
      go_wp2_with fail
      go_loopw [7, 8] (fun xv i wr => ∃ k : Nat, i = .int .i64 k ∧ k ≤ xs.length ∧ Hid (OI wr w3.heap.size xv ((xs.take k).map turn)) ∧ Hid (Below w3.heap.size w3 wr)) (fun _ i _ => xs.length - (intOf i).toNat)
      case atStart => exact ⟨0, rfl, Nat.zero_le _, OI.lit0 (Nat.le_refl _), B3.out⟩
      case round =>
        obtain ⟨k, rfl, hk, ho, hb⟩ := hrel
        rename World => wo
        by_cases hlt : k < xs.length
        · have hlI : (k : Int) < (xs.length : Int) := by omega
          obtain ⟨b0, off0, cp, e, _, hc⟩ := (Hx3.out.below hb.out).at hlt
          simp only [Value.slice.injEq] at e
          obtain ⟨rfl, _, rfl⟩ := e
          obtain ⟨hr0, hr1⟩ := hxr.out k hlt
          have Hst : Hid ((xs.take k).map turn ++ [15 - xs[k]] = (xs.take (k + 1)).map turn) := by
            show _ = _
            rw [List.take_succ_eq_append_getElem hlt, List.map_append]; rfl
          obtain ⟨p, hpp⟩ : ∃ p, xs[k] = p := ⟨_, rfl⟩
          rw [hpp] at hc hr0 hr1 Hst
          clear hpp
          have hsz := Lib.hid hb.out.size
          have hlen := Lib.hid (show ((xs.take k).map turn).length + 1 ≤ 1099511627776 by simp; omega)
          go_wp2_with (at_builtin; refine wpList_app rfl _ _ rfl w3.heap.size _ ((xs.take k).map turn) rfl (ho.out.alloc _) _ 1 1 [15 - p] rfl rfl (cell_one_new _ _ _) hlen.out (by simp; exact Nat.le_succ_of_le hsz.out) ?_; intro v' w4 ho3 hg3; have Ho3 := Lib.hid ho3; have Hg3 := Lib.hid hg3; clear ho3 hg3)
          go_roundw
          case rel => exact ⟨k + 1, by go_num, by omega, by show OI _ _ _ _; rw [← Hst.out]; exact Ho3.out, Below.app (hb.out.alloc hsz.out _) (ho.out.alloc _) Hg3.out (Nat.le_refl _) (by have := hsz.out; simp; omega)⟩
          case measure => simp [intOf]; omega
        · have hke : k = xs.length := by omega
          have ho2 := ho.out
          rw [hke, List.take_length, Hys.out] at ho2
          have Hy4 := Lib.hid ho2.ri
          have Hcy := Lib.hid ho2.capOk
          have Hx4 := Lib.hid (Hx3.out.below hb.out)
          have Hb4 := Lib.hid (Hb3.out.trans (hb.out.mono Hb3.out.size))
          clear ho ho2 hb hke
          go_wp2_with fail
          refine (implFaultsFirst_c ys f _ _ (Hy4.out)).mono ?_; rintro e w5 ⟨rfl, hb⟩; rw [Ha.out]
          have Hx5 := Lib.hid (Hx4.out.below hb); have Hy5 := Lib.hid (Hy4.out.below hb); have Hb5 := Lib.hid (Hb4.out.trans (hb.mono Hb4.out.size)); clear hb
          go_wp2_with fail
          refine (implFaultsLast_c ys f _ _ (Hy5.out)).mono ?_; rintro e w6 ⟨rfl, hb⟩; rw [Hb.out]
          have Hx6 := Lib.hid (Hx5.out.below hb); have Hy6 := Lib.hid (Hy5.out.below hb); have Hb6 := Lib.hid (Hb5.out.trans (hb.mono Hb5.out.size)); clear hb
          go_wp2_with fail
          refine (implFaultsLast_c xs f _ _ (Hx6.out)).mono ?_; rintro e w7 ⟨rfl, hb⟩; rw [Hd.out]
          have Hx7 := Lib.hid (Hx6.out.below hb); have Hy7 := Lib.hid (Hy6.out.below hb); have Hb7 := Lib.hid (Hb6.out.trans (hb.mono Hb6.out.size)); clear hb
          go_wp2_with fail
          refine (implFaultsBest_c ys f _ _ (Hy7.out) Hcy.out).mono ?_; rintro e w8 ⟨rfl, hb⟩; rw [Hg.out]
          have Hx8 := Lib.hid (Hx7.out.below hb); have Hy8 := Lib.hid (Hy7.out.below hb); have Hb8 := Lib.hid (Hb7.out.trans (hb.mono Hb7.out.size)); clear hb
          go_wp2_with fail
          refine (implFaultsBest_c xs f _ _ (Hx8.out) Hco.out).mono ?_; rintro e w9 ⟨rfl, hb⟩; rw [Hj.out]
          have Hx9 := Lib.hid (Hx8.out.below hb); have Hy9 := Lib.hid (Hy8.out.below hb); have Hb9 := Lib.hid (Hb8.out.trans (hb.mono Hb8.out.size)); clear hb
          go_wp2_with fail
          go_ret
          exact ⟨rfl, Hb9.out⟩
  · have hI0 : (1048576 : Int) < (len0 : Int) := by omega
    clear h0
    go_enter Try.func5, Try.ntmps5
    go_wp2_with fail
    go_ret
    exact ⟨rfl, Below.refl _ _⟩
end Go.Proofs.Ytdmjpikkgfedmaa
