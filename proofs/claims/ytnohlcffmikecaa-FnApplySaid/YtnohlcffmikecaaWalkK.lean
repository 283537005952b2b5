/- Contract: PageApply of the reference. -/
import Derived.Test.YtnohlcffmikecaaWalkI
namespace Go.Proofs.Ytnohlcffmikecaa
open Go.RowKit

theorem l6In_q (n lo hi : Int) (r : Bool) (h : inR n lo hi = r) (w : World) : Calls Try.prog 30 #[.int .i64 n, .int .i64 lo, .int .i64 hi] w fun e w' => e = .returned (.bool r) ∧ w' = w :=
  (l6In_c n lo hi w).mono fun _ _ ⟨he, hw⟩ => ⟨by rw [he, h], hw.symm⟩

set_option maxHeartbeats 400000 in
theorem specPageApply_c (xs ds : List Int) (v u : Value) (w : World) (hx : RI w v xs) (hy : RI w u ds) : Calls Try.prog 13 #[v, u] w (MadeIB w (applyL xs ds) (applyOk xs ds)) := by
  obtain ⟨a, cap, rfl⟩ := hx.val
  obtain ⟨a', cap', rfl⟩ := hy.val
  have hl := hx.1
  have hl' := hy.1
  cases hp : pageOk xs
  · have hF : applyOk xs ds = false := by simp [applyOk, hp]
    have hL : applyL xs ds = [] := by simp [applyL, hF]
    rw [hF, hL]
    have Hx := Lib.hid hx; have Hp := Lib.hid hp; clear hx hy hp hF hL
    go_enter Try.func13, Try.ntmps13
    go_wp2_with (go_at_call 29; refine (l34Page_c xs _ _ Hx.out).mono ?_; rintro e _ ⟨rfl, rfl⟩; rw [Hp.out])
    go_ret2
    exact ⟨_, rfl, OI.lit0 (Nat.le_refl _), (Below.refl _ _).alloc (Nat.le_refl _) _⟩
  · have hlx := (pageOk_iff.1 hp).2
    by_cases hev : ds.length % 2 = 0
    · have hevb : ((ds.length : Int) % 2 != 0) = false := by simp; omega
      have hS := sRun_apply xs ds hp hev
      obtain ⟨m, hm⟩ : ∃ m, ds.length = 2 * m := ⟨ds.length / 2, by omega⟩
      obtain ⟨b0, off0, cp0, e, hb0, h00⟩ := hx.at (k := 0) (by omega)
      simp only [Value.slice.injEq] at e
      obtain ⟨rfl, h', rfl⟩ := e
      clear h' h00
      have hsrc := Lib.hid (hx.below ((Below.refl _ _).alloc (Nat.le_refl _) (.cells #[] 3))).src
      have HS := Lib.hid hS; have Hx := Lib.hid hx; have Hy := Lib.hid hy; have Hp := Lib.hid hp; have Hlx := Lib.hid hlx; have Hm := Lib.hid hm; have Hlm := Lib.hid hl'
      rw [hm] at hevb Hy ⊢
      have hmb : m ≤ 1099511627776 := by omega
      clear hS hx hy hp hlx hm hev hl hl'
      go_enter Try.func13, Try.ntmps13
      go_wp2_with fail
      refine (l34Page_c xs _ _ Hx.out).mono ?_; rintro e _ ⟨rfl, rfl⟩; rw [Hp.out]
      go_wp2_with (at_builtin; refine wpList_app rfl _ _ rfl w.heap.size _ [] rfl (OI.lit0 (Nat.le_refl _)) _ _ cap xs rfl rfl hsrc.out (by simp; rw [Hlx.out]; omega) (by simp) ?_; intro v' w3 ho3 hg3; rw [List.nil_append] at ho3; have Ho3 := Lib.hid ho3; have Hb3 := Lib.hid (Below.app ((Below.refl w.heap.size w).alloc (Nat.le_refl _) _) (OI.lit0 (Nat.le_refl _)) hg3 (Nat.le_refl _) (by simp)); clear ho3 hg3)
      obtain ⟨ao, co, rfl⟩ := Ho3.out.ri.val
      go_loopw [7, 8] (fun lst i wr => ∃ (j : Nat) (cur : List Int) (last : Int), lst = .int .i64 last ∧ -1 ≤ last ∧ last ≤ 3 ∧ i = .int .i64 (2 * (j : Int)) ∧ j ≤ m ∧ Hid (cur.length = xs.length) ∧ Hid (sRun xs xs (-1) ds = sRun xs cur last (ds.drop (2 * j))) ∧ Hid (OI wr w.heap.size (.slice ao xs.length co) cur) ∧ Hid (Below w.heap.size w wr)) (fun _ i _ => 2 * m - (intOf i).toNat)
      case atStart => exact ⟨0, xs, -1, rfl, by omega, by omega, rfl, Nat.zero_le _, rfl, rfl, Ho3.out, Hb3.out⟩
      case round =>
        clear Ho3 Hb3
        obtain ⟨j, cur, last, rfl, hl1, hl2, rfl, hj, hcl, hex, ho, hb⟩ := hrel
        by_cases hlt : j < m
        · have hk1 : 2 * j < ds.length := by rw [Hm.out]; omega
          have hk2 : 2 * j + 1 < ds.length := by rw [Hm.out]; omega
          have hd := drop_two hk2
          obtain ⟨b, off, cp, e, _, hc1⟩ := (Hy.out.below hb.out).at hk1
          simp only [Value.slice.injEq] at e
          obtain ⟨rfl, h', rfl⟩ := e
          clear h'
          obtain ⟨b2, off2, cp2, e, _, hc2⟩ := (Hy.out.below hb.out).at hk2
          simp only [Value.slice.injEq, Option.some.injEq, Addr.mk.injEq] at e
          obtain ⟨⟨rfl, rfl, h0'⟩, h', h''⟩ := e
          clear h0' h' h''
          have hi1 : 2 * (j : Int) < 2 * (m : Int) := by omega
          have hi2 : 2 * (j : Int) + 1 < 2 * (m : Int) := by omega
          have hex2 := hex.out
          rw [hd, sRun] at hex2
          have Hex := Lib.hid hex2
          clear hex hex2 hd
          generalize ds[2 * j] = y at hc1 Hex
          generalize ds[2 * j + 1] = x at hc2 Hex
          have hsz := Lib.hid hb.out.size
          have fail : Hid ((inR y (last + 1) 3 = true ∧ inR x 0 9999 = true ∧ xs[y.toNat]?.getD 0 ≠ x → False) → applyOk xs ds = false ∧ applyL xs ds = []) := by
            intro hno
            have h1 := HS.out
            rw [Hex.out, if_neg hno] at h1
            have h2 : applyOk xs ds = false := by
              cases h3 : applyOk xs ds with
              | false => rfl
              | true => rw [h3] at h1; simp at h1
            exact ⟨h2, by simp [applyL, h2]⟩
          cases hin1 : inR y (last + 1) 3
          · have hq1 := Lib.hid (l6In_q y (last + 1) 3 false hin1)
            have HF := Lib.hid (fail.out (fun h => by rw [hin1] at h; cases h.1))
            clear fail hin1
            go_wp2_with fail
            go_quiet ((go_at_call 30; exact Calls.quiet_of_same (hq1.out _)))
            go_wp2_with fail
            go_ret2
            rw [HF.out.1, HF.out.2]
            exact ⟨_, rfl, OI.lit0 (by simpa using hsz.out), (below_drewN hb.out _).alloc (by simpa using hsz.out) _⟩
          · obtain ⟨hy1, hy3⟩ := inR_true.1 hin1
            obtain ⟨n, rfl⟩ := Int.eq_ofNat_of_zero_le (show 0 ≤ y by omega)
            have hq1 := Lib.hid (l6In_q n (last + 1) 3 true hin1)
            cases hin2 : inR x 0 9999
            · have hq2 := Lib.hid (l6In_q x 0 9999 false hin2)
              have HF := Lib.hid (fail.out (fun h => by rw [hin2] at h; cases h.2.1))
              clear fail hin1 hin2
              go_wp2_with fail
              go_quiet ((first | (go_at_call 30; with_reducible exact Calls.quiet_of_same (hq1.out _)) | (go_at_call 30; with_reducible exact Calls.quiet_of_same (hq2.out _))))
              go_wp2_with fail
              go_ret2
              rw [HF.out.1, HF.out.2]
              exact ⟨_, rfl, OI.lit0 (by simpa using hsz.out), (below_drewN hb.out _).alloc (by simpa using hsz.out) _⟩
            · have hq2 := Lib.hid (l6In_q x 0 9999 true hin2)
              have hnx : n < xs.length := by rw [Hlx.out]; omega
              have hnI : (n : Int) < (xs.length : Int) := by omega
              obtain ⟨b3, off3, cp3, e, _, hc3⟩ := (Hx.out.below hb.out).at hnx
              simp only [Value.slice.injEq, Option.some.injEq, Addr.mk.injEq] at e
              obtain ⟨⟨rfl, rfl, h0'⟩, h', h''⟩ := e
              clear h0' h' h''
              have e3 : xs[n] = xs[n]?.getD 0 := by rw [List.getElem?_eq_getElem hnx]; rfl
              rw [e3] at hc3
              clear e3
              have hstep : Hid (xs[n]?.getD 0 ≠ x → sRun xs xs (-1) ds = sRun xs (cur.set n x) n (ds.drop (2 * (j + 1)))) := by
                intro hne
                rw [Hex.out, if_pos ⟨hin1, hin2, by rw [Int.toNat_natCast]; exact hne⟩, Int.toNat_natCast]; rfl
              have fail2 : Hid (xs[n]?.getD 0 = x → applyOk xs ds = false ∧ applyL xs ds = []) := fun he => fail.out (fun h => h.2.2 (by rw [Int.toNat_natCast]; exact he))
              clear fail hin1 hin2 Hex
              generalize xs[n]?.getD 0 = z at hc3 hstep fail2
              by_cases hzx : z = x
              · have HF := Lib.hid (fail2.out hzx)
                subst hzx
                clear fail2 hstep
                go_wp2_with fail
                go_quiet ((first | (go_at_call 30; with_reducible exact Calls.quiet_of_same (hq1.out _)) | (go_at_call 30; with_reducible exact Calls.quiet_of_same (hq2.out _))))
                go_wp2_with fail
                go_ret2
                rw [HF.out.1, HF.out.2]
                exact ⟨_, rfl, OI.lit0 (by simpa using hsz.out), (below_drewN hb.out _).alloc (by simpa using hsz.out) _⟩
              · have Hst := Lib.hid (hstep.out hzx)
                have hzb : (z == x) = false := by simpa using hzx
                clear hstep fail2 hzx
                obtain ⟨g, cap1, e, hbg, hcg, hf⟩ := ho.out.at (k := n) (by rw [hcl.out]; exact hnx)
                simp only [Value.slice.injEq] at e
                obtain ⟨rfl, h', rfl⟩ := e
                clear h'
                obtain ⟨ho2, hg2⟩ := ho.out.stored hcl.out n x
                have Ho2 := Lib.hid ho2; have Hbb := Lib.hid (Below.app hb.out ho.out hg2 (Nat.le_refl _) hb.out.size)
                obtain ⟨zz, hzz⟩ : ∃ zz, wr.cell? ⟨g, n, none⟩ = some zz := ⟨_, hcg⟩
                have hcl2 : Hid ((cur.set n x).length = xs.length) := by rw [Hid, List.length_set]; exact hcl.out
                clear ho2 hg2 hcg ho
                go_wp2_with fail
                go_quiet ((first | (go_at_call 30; with_reducible exact Calls.quiet_of_same (hq1.out _)) | (go_at_call 30; with_reducible exact Calls.quiet_of_same (hq2.out _))))
                go_wp2_with fail
                go_roundw
                case rel =>
                  first
                    | exact ⟨j + 1, _, n, rfl, by omega, by omega, by go_num, by omega, hcl2.out, Hst.out, Ho2.out.drewN _, below_drewN Hbb.out _⟩
                    | ((repeat apply Exists.intro); exact ⟨⟨j + 1, _, n, rfl, by omega, by omega, by go_num, by omega, hcl2.out, Hst.out, Ho2.out.drewN _, below_drewN Hbb.out _⟩, rfl⟩)
                case measure => simp [intOf]; omega
        · have hjm : j = m := by omega
          subst hjm
          have hi3 : ¬ 2 * (j : Int) < 2 * (j : Int) := by omega
          have hdr : ds.drop (2 * j) = [] := by rw [List.drop_eq_nil_iff, Hm.out]; omega
          have hex2 := hex.out
          rw [hdr, HS.out, show sRun xs cur last [] = some cur from rfl] at hex2
          have hfin : applyOk xs ds = true ∧ applyL xs ds = cur := by
            cases h3 : applyOk xs ds with
            | false => rw [h3] at hex2; simp at hex2
            | true => rw [h3] at hex2; simp at hex2; exact ⟨rfl, by rw [applyL, h3, if_pos rfl]; exact hex2⟩
          have Hfin := Lib.hid hfin
          clear hdr hex hex2 hfin
          go_wp2_with fail
          go_ret2
          rw [Hfin.out.1, Hfin.out.2]
          exact ⟨_, rfl, ho.out, hb.out⟩
    · have hevb : ((ds.length : Int) % 2 != 0) = true := by simp; omega
      have hF : applyOk xs ds = false := by rw [applyOk, hp, decide_eq_false (fun h => hev h.1)]; rfl
      have hL : applyL xs ds = [] := by simp [applyL, hF]
      rw [hF, hL]
      have Hx := Lib.hid hx; have Hp := Lib.hid hp; have Hev := Lib.hid hev; clear hx hy hp hF hL hlx hev
      go_enter Try.func13, Try.ntmps13
      go_wp2_with (go_at_call 29; refine (l34Page_c xs _ _ Hx.out).mono ?_; rintro e _ ⟨rfl, rfl⟩; rw [Hp.out])
      go_ret2
      exact ⟨_, rfl, OI.lit0 (Nat.le_refl _), (Below.refl _ _).alloc (Nat.le_refl _) _⟩
end Go.Proofs.Ytnohlcffmikecaa
