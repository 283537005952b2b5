/- The law FnFaultsOne: one frame keeps one page. -/
import Derived.Test.YtdmjpikkgfedmaaWalkFP
import Derived.Test.YtdmjpikkgfedmaaWalkYF
namespace Go.Proofs.Ytdmjpikkgfedmaa
open Go.RowKit
/-- the uses among the first k that are the first one or follow another page -/
def chCnt (xs : List Int) : Nat → Nat
  | 0 => 0
  | k + 1 => chCnt xs k + if (xs.take k).getLast? = xs[k]? then 0 else 1
theorem chCnt_go (xs : List Int) : ∀ k, k ≤ xs.length → chCnt xs k + Xp.changes (xs.take k).getLast? (xs.drop k) = Xp.changes none xs
  | 0, _ => by simp [chCnt]
  | k + 1, h => by
    have ih := chCnt_go xs k (by omega)
    have hk : k < xs.length := by omega
    rw [List.drop_eq_getElem_cons hk] at ih
    simp only [Xp.changes] at ih
    have e : (xs.take (k + 1)).getLast? = some xs[k] := by rw [List.take_succ_eq_append_getElem hk, List.getLast?_concat]
    rw [e]
    simp only [chCnt]
    rw [List.getElem?_eq_getElem hk]
    omega
theorem chCnt_step (xs : List Int) (k : Nat) (hk : k + 1 < xs.length) : chCnt xs (k + 1 + 1) = chCnt xs (k + 1) + if xs[k] = xs[k + 1] then 0 else 1 := by
  have e : (xs.take (k + 1)).getLast? = some xs[k] := by rw [List.take_succ_eq_append_getElem (by omega), List.getLast?_concat]
  conv => lhs; unfold chCnt
  rw [e, List.getElem?_eq_getElem hk]
  simp only [Option.some.injEq]
theorem chCnt_le (xs : List Int) : ∀ k, chCnt xs k ≤ k
  | 0 => Nat.le_refl _
  | k + 1 => by have := chCnt_le xs k; simp only [chCnt]; split <;> omega

set_option maxHeartbeats 2000000 in
set_option maxRecDepth 100000 in
theorem FnFaultsOne_c (a0 : Option Addr) (len0 cap0 : Nat) (z0 : List Int) (w : World) (h0 : IsRow .u8 w a0 len0 cap0 z0) :
    Calls Try.prog 6 #[.slice a0 len0 cap0] w fun e w' => e = .returned (.bool true) ∧ Below w.heap.size w w' := by
  by_cases hl0 : len0 ≤ 1048576
  · have hI0 : ¬ (1048576 : Int) < (len0 : Int) := by omega
    have Hr := Lib.hid (IsRow.rb h0)
    clear h0
    go_enter Try.func6, Try.ntmps6
    go_wp2_with fail
    refine (DrawFaultsFirst_c _ _ _ Hr.out).mono ?_; rintro e w1 ⟨u, xs, f, rfl, hx, hxl, hco, hf0, hf1, hb⟩
    have Hx1 := Lib.hid hx; have Hb1 := Lib.hid hb; have Hco := Lib.hid hco; clear hx hb hco
    cases hp : okF xs f
    · have hv : faultsFirst xs f = -1 := faultsR_bad hp
      have Hv := Lib.hid hv; clear hv hp
      go_wp2_with fail
      refine (implFaultsFirst_c xs f _ _ (Hx1.out)).mono ?_; rintro e w2 ⟨rfl, hb⟩; rw [Hv.out]
      have Hx2 := Lib.hid (Hx1.out.below hb); have Hb2 := Lib.hid (Hb1.out.trans (hb.mono Hb1.out.size)); clear hb
      go_wp2_with fail
      refine (specFaultsFirst_c xs f _ _ (Hx2.out)).mono ?_; rintro e w3 ⟨rfl, hb⟩; rw [Hv.out]
      have Hx3 := Lib.hid (Hx2.out.below hb); have Hb3 := Lib.hid (Hb2.out.trans (hb.mono Hb2.out.size)); clear hb
      go_wp2_with fail
      go_ret
      exact ⟨rfl, Hb3.out⟩
    · obtain ⟨htr, hfl, hfh⟩ := okF_parts hp
      obtain ⟨hxo, hx24⟩ := traceOk_iff.1 htr
      obtain ⟨c, hv⟩ : ∃ c : Nat, faultsFirst xs f = c := ⟨_, faultsR_ok hp⟩
      have hc0 : ¬ (c : Int) < 0 := by omega
      obtain ⟨h1, h2, h3⟩ := one_frame htr
      obtain ⟨n, hn⟩ : ∃ n, Xp.changes none xs = n := ⟨_, rfl⟩
      have hcc : chCnt xs xs.length = n := by
        have := chCnt_go xs xs.length (Nat.le_refl _)
        rw [List.drop_length] at this
        simpa [Xp.changes, hn] using this
      rw [hn] at h1 h2 h3
      have Hv := Lib.hid hv; have H1 := Lib.hid h1; have H2 := Lib.hid h2; have H3 := Lib.hid h3; have Hcc := Lib.hid hcc; clear hv h1 h2 h3 hcc
      clear hp htr hxo hn
      go_wp2_with fail
      refine (implFaultsFirst_c xs f _ _ (Hx1.out)).mono ?_; rintro e w2 ⟨rfl, hb⟩; rw [Hv.out]
      have Hx2 := Lib.hid (Hx1.out.below hb); have Hb2 := Lib.hid (Hb1.out.trans (hb.mono Hb1.out.size)); clear hb
      go_wp2_with fail
      refine (specFaultsFirst_c xs f _ _ (Hx2.out)).mono ?_; rintro e w3 ⟨rfl, hb⟩; rw [Hv.out]
      have Hx3 := Lib.hid (Hx2.out.below hb); have Hb3 := Lib.hid (Hb2.out.trans (hb.mono Hb2.out.size)); clear hb
      obtain ⟨ax, cx, rfl⟩ := Hx3.out.val
      go_wp2_with fail
      go_loopw [7, 8] (fun nv i wr => ∃ (k d m : Nat), i = .int .i64 k ∧ k ≤ xs.length ∧ nv = .int .i64 d ∧ d ≤ k ∧ Hid (d = chCnt xs k) ∧ Hid (wr = w3.drewN m)) (fun _ i _ => xs.length - (intOf i).toNat)
      case atStart => exact ⟨0, 0, 0, rfl, Nat.zero_le _, rfl, Nat.le_refl _, rfl, rfl⟩
      case round =>
        obtain ⟨k, d, m, rfl, hk, rfl, hdk, hd, hw⟩ := hrel
        rename World => wr
        by_cases hlt : k < xs.length
        · have hlI : (k : Int) < (xs.length : Int) := by omega
          have XR : Hid (RI wr (.slice ax xs.length cx) xs) := by rw [hw.out]; exact Hx3.out
          by_cases hk0 : k = 0
          · subst hk0
            have Hst : Hid (chCnt xs 1 = chCnt xs 0 + 1) := by
              show _ = _
              simp only [chCnt, List.take_zero, List.getLast?_nil]
              rw [List.getElem?_eq_getElem hlt]; simp
            have hkb : (((0 : Nat) : Int) == 0) = true := by rfl
            go_wp2_with fail
            go_quiet (fail)
            go_wp2_with fail
            go_roundw
            case rel => exact ⟨1, d + 1, m + nq, by go_num, by omega, by go_num, by omega, by show _ = _; rw [Hst.out, hd.out], by show _ = _; rw [hw.out, World.drewN_drewN]⟩
            case measure => simp [intOf]; omega
          · obtain ⟨j, rfl⟩ : ∃ j, k = j + 1 := ⟨k - 1, by omega⟩
            obtain ⟨b, off, cap', e, _, hcell⟩ := XR.out.at hlt
            simp only [Value.slice.injEq] at e
            obtain ⟨rfl, _, rfl⟩ := e
            obtain ⟨b2, off2, cap2, e, _, hcell2⟩ := XR.out.at (k := j) (by omega)
            simp only [Value.slice.injEq, Option.some.injEq, Addr.mk.injEq, and_true] at e
            obtain ⟨⟨rfl, rfl⟩, _, rfl⟩ := e
            have hst := Lib.hid (chCnt_step xs j hlt)
            have hjl : j < xs.length := by omega
            obtain ⟨x, hx⟩ : ∃ x, xs[j] = x := ⟨_, rfl⟩
            obtain ⟨y, hy⟩ : ∃ y, xs[j + 1] = y := ⟨_, rfl⟩
            rw [hx] at hcell2 hst; rw [hy] at hcell hst
            have hkb : (((j + 1 : Nat) : Int) == 0) = false := by rw [beq_eq_false_iff_ne]; omega
            have hkb2 : ((j : Int) + 1 == 0) = false := by rw [beq_eq_false_iff_ne]; omega
            have hw1 : IntKind.i64.wrap (((j + 1 : Nat) : Int) - 1) = (j : Int) := by rw [show ((j + 1 : Nat) : Int) - 1 = (j : Int) by omega]; exact IntWalk.i64_in _ (by omega)
            have hw2 : IntKind.i64.wrap ((j : Int) + 1 - 1) = (j : Int) := by rw [show (j : Int) + 1 - 1 = (j : Int) by omega]; exact IntWalk.i64_in _ (by omega)
            have hj0 : (0 : Int) ≤ (j : Int) := by omega
            have hjI : (j : Int) < (xs.length : Int) := by omega
            have hj1 : (0 : Int) ≤ (j : Int) + 1 := by omega
            have hj2 : (j : Int) + 1 < (xs.length : Int) := by omega
            have hj3 : ((j : Int) + 1).toNat = j + 1 := by omega
            clear hx hy hk0
            by_cases hxy : x = y
            · subst hxy
              have Hst := Lib.hid (hst.out.trans (by rw [if_pos rfl, Nat.add_zero]))
              have hne : (x != x) = false := by simp
              clear hst
              go_wp2_with fail
              go_quiet (fail)
              clear hw1 hw2 hj3
              go_wp2_with fail
              go_roundw
              case rel => exact ⟨j + 1 + 1, d, m + nq, by go_num, by omega, rfl, by omega, by show _ = _; rw [Hst.out, hd.out], by show _ = _; rw [hw.out, World.drewN_drewN]⟩
              case measure => simp [intOf]; omega
            · have Hst := Lib.hid (hst.out.trans (by rw [if_neg hxy]))
              have hne : (y != x) = true := by rw [bne_iff_ne]; exact fun e => hxy e.symm
              clear hst hxy
              go_wp2_with fail
              go_quiet (fail)
              clear hw1 hw2 hj3
              go_wp2_with fail
              go_roundw
              case rel => exact ⟨j + 1 + 1, d + 1, m + nq, by go_num, by omega, by go_num, by omega, by show _ = _; rw [Hst.out, hd.out], by show _ = _; rw [hw.out, World.drewN_drewN]⟩
              case measure => simp [intOf]; omega
        · have hdc : d = n := by
            have hkn : k = xs.length := by omega
            rw [hd.out, hkn]; exact Hcc.out
          subst hdc
          have Hx4 : Hid (RI wr (.slice ax xs.length cx) xs) := by rw [hw.out]; exact Hx3.out
          have Hb4 : Hid (Below w.heap.size w wr) := by rw [hw.out]; exact below_drewN Hb3.out _
          clear hd hw
          go_wp2_with fail
          refine (implFaultsFirst_c xs 1 _ _ (Hx4.out)).mono ?_; rintro e w5 ⟨rfl, hb⟩; rw [H1.out]
          have Hx5 := Lib.hid (Hx4.out.below hb); have Hb5 := Lib.hid (Hb4.out.trans (hb.mono Hb4.out.size)); clear hb
          go_wp2_with fail
          refine (implFaultsLast_c xs 1 _ _ (Hx5.out)).mono ?_; rintro e w6 ⟨rfl, hb⟩; rw [H2.out]
          have Hx6 := Lib.hid (Hx5.out.below hb); have Hb6 := Lib.hid (Hb5.out.trans (hb.mono Hb5.out.size)); clear hb
          go_wp2_with fail
          refine (implFaultsBest_c xs 1 _ _ (Hx6.out) Hco.out).mono ?_; rintro e w7 ⟨rfl, hb⟩; rw [H3.out]
          have Hx7 := Lib.hid (Hx6.out.below hb); have Hb7 := Lib.hid (Hb6.out.trans (hb.mono Hb6.out.size)); clear hb
          go_wp2_with fail
          go_ret
          exact ⟨rfl, Hb7.out⟩
  · have hI0 : (1048576 : Int) < (len0 : Int) := by omega
    clear h0
    go_enter Try.func6, Try.ntmps6
    go_wp2_with fail
    go_ret
    exact ⟨rfl, Below.refl _ _⟩
end Go.Proofs.Ytdmjpikkgfedmaa
