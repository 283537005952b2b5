/- Contracts: PageApply of the program and of the reference. -/
import Derived.Test.YtnohlcffmikecaaWalkI
namespace Go.Proofs.Ytnohlcffmikecaa
open Go.RowKit

set_option maxHeartbeats 400000 in
theorem implPageApply_c (xs ds : List Int) (v u : Value) (w : World) (hx : RI w v xs) (hy : RI w u ds) : Calls Try.prog 15 #[v, u] w (MadeIB w (applyL xs ds) (applyOk xs ds)) := by
  obtain ⟨a, cap, rfl⟩ := hx.val
  obtain ⟨a', cap', rfl⟩ := hy.val
  have hl := hx.1
  have hl' := hy.1
  cases hp : pageOk xs
  · have hF : applyOk xs ds = false := by simp [applyOk, hp]
    have hL : applyL xs ds = [] := by simp [applyL, hF]
    rw [hF, hL]
    have Hx := Lib.hid hx; have Hp := Lib.hid hp; clear hx hy hp hF hL
    go_enter Try.func15, Try.ntmps15
    go_wp2_with (go_at_call 28; refine (isWords_c xs _ _ Hx.out).mono ?_; rintro e w1 ⟨rfl, hb⟩; rw [Hp.out]; have Hb := Lib.hid hb; clear hb)
    go_ret2
    exact ⟨_, rfl, OI.nil _ _, Hb.out⟩
  · have hlx := (pageOk_iff.1 hp).2
    by_cases hev : ds.length % 2 = 0
    · have hevb : ((ds.length : Int) % 2 != 0) = false := by simp; omega
      by_cases h8 : ds.length ≤ 8
      · have hU : applyOk xs ds = (placesOk ds && (diffOk xs (applyTo xs ds) && decide (diffL xs (applyTo xs ds) = ds))) := by
          rw [applyOk, hp, decide_eq_true ⟨hev, h8⟩, Bool.true_and, Bool.true_and]
        obtain ⟨m, hm⟩ : ∃ m, ds.length = 2 * m := ⟨ds.length / 2, by omega⟩
        have hm4 : m ≤ 4 := by omega
        have HU := Lib.hid hU; have Hx := Lib.hid hx; have Hy := Lib.hid hy; have Hp := Lib.hid hp; have Hlx := Lib.hid hlx; have Hm := Lib.hid hm
        rw [hm] at hevb Hy ⊢
        clear hU hx hy hp hlx hm hev h8 hl hl'
        go_enter Try.func15, Try.ntmps15
        go_wp2_with fail
        refine (isWords_c xs _ _ Hx.out).mono ?_; rintro e w1 ⟨rfl, hb⟩; rw [Hp.out]; have Hb := Lib.hid hb; clear hb
        go_wp2_with fail
        refine (Clone_c xs _ _ (Hx.out.below Hb.out)).mono ?_; rintro e w2 ⟨uo, rfl, o, hb⟩
        have Ho := Lib.hid (o.mono Hb.out.size); have Hb2 := Lib.hid (Hb.out.trans (hb.mono Hb.out.size)); clear hb o
        obtain ⟨ao, co, rfl⟩ := Ho.out.ri.val
        go_wp2_with fail
        go_loopw [7] (fun i wr => ∃ (j : Nat) (cur : List Int), i = .int .i64 (2 * (j : Int)) ∧ j ≤ m ∧ Hid (cur.length = xs.length) ∧ Hid (applyTo xs ds = applyTo cur (ds.drop (2 * j))) ∧ Hid (placesOk ds = placesOk (ds.drop (2 * j))) ∧ Hid (OI wr w.heap.size (.slice ao xs.length co) cur) ∧ Hid (Below w.heap.size w wr)) (fun i _ => 8 - (intOf i).toNat)
        case atStart => exact ⟨0, xs, rfl, Nat.zero_le _, rfl, rfl, rfl, Ho.out, Hb2.out⟩
        case round =>
          clear Ho Hb Hb2
          obtain ⟨j, cur, rfl, hj, hcl, hex, hct, ho, hb⟩ := hrel
          by_cases hlt : j < m
          · have hk1 : 2 * j < ds.length := by rw [Hm.out]; omega
            have hk2 : 2 * j + 1 < ds.length := by rw [Hm.out]; omega
            have hd := drop_two hk2
            obtain ⟨b, off, cp, e, _, hc1⟩ := (Hy.out.below hb.out).at hk1
            simp only [Value.slice.injEq] at e
            obtain ⟨rfl, h', rfl⟩ := e
            clear h'
            obtain ⟨b2, off2, cp2, e, _, hc2⟩ := (Hy.out.below hb.out).at hk2
            simp only [Value.slice.injEq, Option.some.injEq, Addr.mk.injEq] at e
            obtain ⟨⟨rfl, rfl, h0'⟩, h', h''⟩ := e
            clear h0' h' h''
            have hi1 : 2 * (j : Int) < 2 * (m : Int) := by omega
            have hi2 : 2 * (j : Int) + 1 < 2 * (m : Int) := by omega
            have hex2 := hex.out
            have hct2 := hct.out
            rw [hd] at hex2 hct2
            have Hex := Lib.hid hex2; have Hct := Lib.hid hct2
            clear hex hct hex2 hct2 hd
            generalize ds[2 * j] = y at hc1 Hex Hct
            generalize ds[2 * j + 1] = x at hc2 Hex
            cases hin : inR y 0 3
            · have hF : applyOk xs ds = false := by rw [HU.out, Hct.out]; simp [placesOk, hin]
              have hL : applyL xs ds = [] := by simp [applyL, hF]
              have Hin := Lib.hid hin; have HF := Lib.hid hF; have HL := Lib.hid hL; clear hin hF hL
              go_wp2_with (go_at_call 32; refine (isPlace_c _ _).mono ?_; rintro e w' ⟨rfl, rfl⟩; rw [Hin.out])
              go_ret2
              rw [HF.out, HL.out]
              exact ⟨_, rfl, OI.nil _ _, hb.out⟩
            · obtain ⟨hy1, hy4⟩ := inR_true.1 hin
              have Hin := Lib.hid hin; clear hin
              obtain ⟨n, rfl⟩ := Int.eq_ofNat_of_zero_le hy1
              obtain ⟨g, cap1, e, hbg, hcg, hf⟩ := ho.out.at (k := n) (by rw [hcl.out, Hlx.out]; omega)
              simp only [Value.slice.injEq] at e
              obtain ⟨rfl, h', rfl⟩ := e
              clear h'
              obtain ⟨ho2, hg2⟩ := ho.out.stored hcl.out n x
              have Ho2 := Lib.hid ho2; have Hbb := Lib.hid (Below.app hb.out ho.out hg2 (Nat.le_refl _) hb.out.size)
              have hnl : (n : Int) < (xs.length : Int) := by rw [Hlx.out]; omega
              obtain ⟨z, hz⟩ : ∃ z, wr.cell? ⟨g, n, none⟩ = some z := ⟨_, hcg⟩
              have Hex2 : Hid (applyTo xs ds = applyTo (cur.set n x) (ds.drop (2 * (j + 1)))) := by rw [Hid, Hex.out, applyTo]; rfl
              have Hct2 : Hid (placesOk ds = placesOk (ds.drop (2 * (j + 1)))) := by rw [Hid, Hct.out, placesOk, Hin.out]; rfl
              have hcl2 : Hid ((cur.set n x).length = xs.length) := by rw [Hid, List.length_set]; exact hcl.out
              clear ho2 hg2 hcg ho Hex Hct
              go_wp2_with (go_at_call 32; refine (isPlace_c _ _).mono ?_; rintro e w' ⟨rfl, rfl⟩; rw [Hin.out])
              go_region
              go_wp2_with fail
              go_roundw
              case rel =>
                first
                  | exact ⟨j + 1, _, by go_num, by omega, hcl2.out, Hex2.out, Hct2.out, ⟨Ho2.out.1, Ho2.out.2⟩, Hbb.out.drew⟩
                  | ((repeat apply Exists.intro); exact ⟨⟨j + 1, _, by go_num, by omega, hcl2.out, Hex2.out, Hct2.out, ⟨Ho2.out.1, Ho2.out.2⟩, Hbb.out.drew⟩, rfl⟩)
              case measure => simp [intOf]; omega
          · have hjm : j = m := by omega
            subst hjm
            have hi3 : ¬ 2 * (j : Int) < 2 * (j : Int) := by omega
            have hdr : ds.drop (2 * j) = [] := by rw [List.drop_eq_nil_iff, Hm.out]; omega
            have hex2 := hex.out
            have hct2 := hct.out
            rw [hdr] at hex2 hct2
            rw [show applyTo cur [] = cur from rfl] at hex2
            have hU2 := HU.out
            rw [hct2, hex2, show placesOk [] = true from rfl, Bool.true_and] at hU2
            have hL2 : applyL xs ds = if (diffOk xs cur && decide (diffL xs cur = ds)) = true then cur else [] := by rw [applyL, hU2, hex2]
            have HU2 := Lib.hid hU2; have HL2 := Lib.hid hL2
            clear hdr hex hct hex2 hct2 hU2 hL2
            obtain ⟨pk, hpk⟩ : ∃ pk, diffL xs cur = pk := ⟨_, rfl⟩
            rw [hpk] at HU2 HL2
            have Hpk := Lib.hid hpk; clear hpk
            go_wp2_with fail
            refine (implPageDiff_c xs cur _ _ _ (Hx.out.below hb.out) ho.out.ri).mono ?_; rintro e w3 ⟨u3, rfl, o3, hb3⟩; rw [Hpk.out] at o3
            have Ho := Lib.hid (ho.out.below hb3); have Hb3 := Lib.hid (hb.out.trans (hb3.mono hb.out.size)); have O3 := Lib.hid o3; clear hb3 o3
            cases hq : diffOk xs cur
            · have Hq := Lib.hid hq; clear hq
              go_wp2_with fail
              go_ret2
              have fu : applyOk xs ds = false := by rw [HU2.out, Hq.out]; rfl
              have fl : applyL xs ds = [] := by rw [HL2.out, Hq.out]; rfl
              rw [fu, fl]
              exact ⟨_, rfl, OI.nil _ _, Hb3.out⟩
            · have Hq := Lib.hid hq; clear hq
              go_wp2_with fail
              refine (Equal_c pk ds _ _ _ O3.out.ri (Hy.out.below Hb3.out)).mono ?_; rintro e w4 ⟨rfl, hb4⟩
              have Ho4 := Lib.hid (Ho.out.below hb4); have Hb4 := Lib.hid (Hb3.out.trans (hb4.mono Hb3.out.size)); clear hb4
              by_cases heq : pk = ds
              · have he := decide_eq_true heq
                rw [he]
                have He := Lib.hid heq; clear heq he
                go_wp2_with fail
                go_ret2
                have fu : applyOk xs ds = true := by rw [HU2.out, Hq.out, decide_eq_true He.out]; rfl
                have fl : applyL xs ds = cur := by rw [HL2.out, Hq.out, decide_eq_true He.out]; rfl
                rw [fu, fl]
                exact ⟨_, rfl, Ho4.out, Hb4.out⟩
              · have he := decide_eq_false heq
                rw [he]
                have He := Lib.hid heq; clear heq he
                go_wp2_with fail
                go_ret2
                have fu : applyOk xs ds = false := by rw [HU2.out, Hq.out, decide_eq_false He.out]; rfl
                have fl : applyL xs ds = [] := by rw [HL2.out, Hq.out, decide_eq_false He.out]; rfl
                rw [fu, fl]
                exact ⟨_, rfl, OI.nil _ _, Hb4.out⟩
      · have hF : applyOk xs ds = false := by rw [applyOk, hp, decide_eq_false (fun h => h8 h.2)]; rfl
        have hL : applyL xs ds = [] := by simp [applyL, hF]
        rw [hF, hL]
        have Hx := Lib.hid hx; have Hp := Lib.hid hp; have Hev := Lib.hid hev; clear hx hy hp hF hL hlx hev
        go_enter Try.func15, Try.ntmps15
        go_wp2_with (go_at_call 28; refine (isWords_c xs _ _ Hx.out).mono ?_; rintro e w1 ⟨rfl, hb⟩; rw [Hp.out]; have Hb := Lib.hid hb; clear hb)
        go_ret2
        exact ⟨_, rfl, OI.nil _ _, Hb.out⟩
    · have hevb : ((ds.length : Int) % 2 != 0) = true := by simp; omega
      have hF : applyOk xs ds = false := by rw [applyOk, hp, decide_eq_false (fun h => hev h.1)]; rfl
      have hL : applyL xs ds = [] := by simp [applyL, hF]
      rw [hF, hL]
      have Hx := Lib.hid hx; have Hp := Lib.hid hp; have Hev := Lib.hid hev; clear hx hy hp hF hL hlx hev
      go_enter Try.func15, Try.ntmps15
      go_wp2_with (go_at_call 28; refine (isWords_c xs _ _ Hx.out).mono ?_; rintro e w1 ⟨rfl, hb⟩; rw [Hp.out]; have Hb := Lib.hid hb; clear hb)
      go_ret2
      exact ⟨_, rfl, OI.nil _ _, Hb.out⟩

end Go.Proofs.Ytnohlcffmikecaa
