/- Contracts: the impl's side: PagerWord. -/
import Derived.Test.YtfnpjdgjceiklaaGreatDoorKI16
namespace Go.Proofs.YtfnpjdgjceiklaaGreatDoor
open Go.RowKit

set_option maxHeartbeats 2000000 in
theorem implPagerWord_c (p : Kx.Pager) (ad : Int) (vm vi ve vc vs vl vp : Value) (w : World) (h : RP w vm vi ve vc vs vl vp p) (hs : SaneK p.k) :
    Calls Tryz.prog 13 #[pagerV vm vi ve vc vs vl vp p.hand p.limit, .int .i64 ad] w fun e w' => e = .returned (.int .i64 (Kx.pagerWord p ad)) ∧ Below w.heap.size w w' := by
  obtain ⟨w0, hw0⟩ : ∃ w0, w.alloc (.cells #[vm, vi, ve, vc, vs, vl, vp, .int .i64 p.hand, .int .i64 p.limit] 41) = w0 := ⟨_, rfl⟩
  have Hw0 := Lib.hid (show Below w.heap.size w w0 from hw0 ▸ (Below.refl w.heap.size w).alloc (Nat.le_refl _) _)
  have Hbx := Lib.hid (show BoxP w0 w.heap.size vm vi ve vc vs vl vp p.hand p.limit from hw0 ▸ BoxP.new w vm vi ve vc vs vl vp p.hand p.limit _)
  have HP := Lib.hid (h.below Hw0.out)
  have Hs := Lib.hid hs
  have HV := Lib.hid (show Kx.pagerWord p ad = if !Kx.pagerOk p || !Kx.inR ad 0 63 then -1 else Kx.wordP p ad.toNat from rfl)
  obtain ⟨⟨m0, m1, m2, m3⟩, ⟨m4, m5, m6, m7, m8⟩, _⟩ := Hbx.out
  have HC := Lib.hid (implPagerValid_c p vm vi ve vc vs vl vp w0 HP.out Hs.out)
  clear h hs
  unfold pagerV at HC ⊢
  go_enter Tryz.func13, Tryz.ntmps13
  go_wp2_with fail
  clear hw0
  refine HC.out.mono ?_; rintro e w1 ⟨rfl, hb1⟩
  have B1 := Lib.hid hb1; clear hb1 m0 m1 m2 m3 m4 m5 m6 m7 m8 HC
  obtain ⟨⟨m0, m1, m2, m3⟩, ⟨m4, m5, m6, m7, m8⟩, _⟩ := Hbx.out.below B1.out
  cases hv : Kx.pagerOk p with
  | false =>
    have HF := Lib.hid (show Kx.pagerWord p ad = -1 by rw [HV.out, hv]; rfl)
    clear hv HV
    go_wp2_with fail
    go_ret
    exact ⟨by rw [HF.out]; rfl, Hw0.out.trans (B1.out.mono Hw0.out.size)⟩
  | true =>
    have V1 := Lib.hid hv
    clear hv
    go_wp2_with fail
    refine (isAddress_c _ _).mono ?_; rintro e w' ⟨rfl, rfl⟩
    cases hv : Kx.inR ad 0 63 with
    | false =>
      have HF := Lib.hid (show Kx.pagerWord p ad = -1 by rw [HV.out, hv]; simp)
      clear hv HV
      go_wp2_with fail
      go_ret
      exact ⟨by rw [HF.out]; rfl, Hw0.out.trans (B1.out.mono Hw0.out.size)⟩
    | true =>
      obtain ⟨h0, h63⟩ := Kx.inR_true.1 hv
      obtain ⟨a, rfl⟩ := Int.eq_ofNat_of_zero_le h0
      have HF := Lib.hid (show Kx.pagerWord p a = Kx.wordP p a by rw [HV.out, V1.out, hv]; simp)
      have OK := Lib.hid (Kx.pok_iff.1 V1.out)
      have Hm := Lib.hid (show Kx.memOk p.k.mem = true from by
        have := V1.out
        unfold Kx.pagerOk at this; simp only [Bool.and_eq_true] at this
        have := this.1.1.1.1.1.1.1.1.1
        unfold Kx.kernelOk at this; simp only [Bool.and_eq_true] at this; exact this.1.1.1.1.1.1)
      obtain ⟨q, hq⟩ : ∃ q, a / 4 = q := ⟨_, rfl⟩
      obtain ⟨r, hr⟩ : ∃ r, a % 4 = r := ⟨_, rfl⟩
      have eq : (a : Int) / 4 = (q : Int) := by omega
      have er : (a : Int) % 4 = (r : Int) := by omega
      have hq16 : q < 16 := by omega
      have hr4 : (r : Int) < 4 := by omega
      have HPg := Lib.hid (show Kx.pageOk p q = true from by
        have := V1.out
        unfold Kx.pagerOk at this; simp only [Bool.and_eq_true, List.all_eq_true] at this
        exact this.1.1.1.2 _ (by simp; omega))
      have HSw := Lib.hid (show p.swap.length = 16 ∧ ∀ i, i < 16 → Kx.row p.swap i = [] ∨ (Kx.row p.swap i).length = 4 from by
        have h2 := OK.out.swap
        rw [sOk_all, Bool.and_eq_true, List.all_eq_true] at h2
        refine ⟨by simpa using h2.2, fun i hi => ?_⟩
        have h3 := h2.1 i (by have := h2.2; simp at this ⊢; omega)
        unfold sOk Kx.wordsOk at h3
        rw [Bool.or_eq_true] at h3
        rcases h3 with h3 | h3
        · exact .inl (by simpa using h3)
        · rw [Bool.and_eq_true] at h3; exact .inr (by simpa using h3.2))
      have HI := Lib.hid (show (Kx.pageAt p.pages q).wh = 1 → 0 ≤ (Kx.pageAt p.pages q).at_ ∧ (Kx.pageAt p.pages q).at_ ≤ 11 from fun e => by
        have := HPg.out
        rw [pageOk_eq, if_neg (by rw [e]; decide), if_pos e] at this
        simp only [Bool.and_eq_true] at this
        exact Kx.inR_true.1 this.1.1.1)
      have HJ := Lib.hid (show (Kx.pageAt p.pages q).wh = 2 → 0 ≤ (Kx.pageAt p.pages q).at_ ∧ (Kx.pageAt p.pages q).at_ ≤ 15 ∧ (Kx.row p.swap (Kx.pageAt p.pages q).at_.toNat).length = 4 from fun e => by
        have := HPg.out
        rw [pageOk_eq, if_neg (by rw [e]; decide), if_neg (by rw [e]; decide), if_pos e] at this
        simp only [Bool.and_eq_true] at this
        obtain ⟨y0, y15⟩ := Kx.inR_true.1 this.1.1.1
        refine ⟨y0, y15, ?_⟩
        rcases HSw.out.2 (Kx.pageAt p.pages q).at_.toNat (by omega) with h | h
        · rw [h] at this; simp at this
        · exact h)
      have HW := Lib.hid (show Kx.pagerWord p a = (if (Kx.pageAt p.pages q).wh = 1 then Kx.word p.k.mem (Kx.pageAt p.pages q).at_.toNat r else if (Kx.pageAt p.pages q).wh = 2 then Kx.word p.swap (Kx.pageAt p.pages q).at_.toNat r else 0) by rw [HF.out, ← hq, ← hr]; rfl)
      have HP1 := Lib.hid (HP.out.below B1.out)
      have hqp : q < p.pages.length := by rw [OK.out.p16]; exact hq16
      have hqI : (q : Int) < (p.pages.length : Int) := by omega
      obtain ⟨bp, op, cap, rfl, hbp, g1, g2, g3⟩ := RPage.at HP1.out.g hqp
      generalize Kx.pageAt p.pages q = pg at HI HJ HW g1 g2 g3
      obtain ⟨x, y, z⟩ := pg
      dsimp only at g1 g2 g3
      have HI := Lib.hid (show x = 1 → 0 ≤ y ∧ y ≤ 11 from HI.out)
      have HJ := Lib.hid (show x = 2 → 0 ≤ y ∧ y ≤ 15 ∧ (Kx.row p.swap y.toNat).length = 4 from HJ.out)
      have HW := Lib.hid (show Kx.pagerWord p a = (if x = 1 then Kx.word p.k.mem y.toNat r else if x = 2 then Kx.word p.swap y.toNat r else 0) from HW.out)
      obtain ⟨W2, hW2⟩ : ∃ W2, w1.alloc (.cells #[.int .i64 x, .int .i64 y, .bool z] 90) = W2 := ⟨_, rfl⟩
      have B2 := Lib.hid (show Below w1.heap.size w1 W2 from hW2 ▸ Below.lit (Below.refl _ _) _)
      obtain ⟨c0, c1, c2⟩ := (show W2.cell? ⟨w1.heap.size, 0, none⟩ = some (.int .i64 x) ∧ W2.cell? ⟨w1.heap.size, 1, none⟩ = some (.int .i64 y) ∧ W2.cell? ⟨w1.heap.size, 2, none⟩ = some (.bool z) from hW2 ▸ Box3.new w1 _ _ _ 90)
      obtain ⟨⟨j0, j1, j2, j3⟩, ⟨j4, j5, j6, j7, j8⟩, _⟩ := (Hbx.out.below B1.out).below B2.out
      have HP2 := Lib.hid (HP1.out.below B2.out)
      have HB := Lib.hid (Hw0.out.trans ((B1.out.trans (B2.out.mono B1.out.size)).mono Hw0.out.size))
      have Hsl := Lib.hid HSw.out.1
      clear hv HV h0 hq hr hbp HPg HSw HF
      by_cases hx1 : x = 1
      · subst hx1
        obtain ⟨y0, y11⟩ := HI.out rfl
        obtain ⟨n, rfl⟩ := Int.eq_ofNat_of_zero_le y0
        obtain ⟨b, off, cap1, b', off', cap2, rfl, e1, e2, _, _⟩ := HP2.out.k.m.word Hm.out (f := n) (a := r) (by omega) (by omega)
        have hnI : (n : Int) < 12 := by omega
        have HF := Lib.hid (show Kx.pagerWord p a = Kx.word p.k.mem n r by rw [HW.out]; rfl)
        clear HI HJ HW y0
        go_wp2_with fail
        go_ret
        exact ⟨by rw [HF.out]; rfl, HB.out⟩
      · have hxa : (x == 1) = false := by simpa using hx1
        by_cases hx2 : x = 2
        · subst hx2
          obtain ⟨y0, y15, hr4⟩ := HJ.out rfl
          obtain ⟨n, rfl⟩ := Int.eq_ofNat_of_zero_le y0
          obtain ⟨b, off, cap1, b', off', cap2, rfl, e1, e2⟩ := HP2.out.s.at4 (f := n) (a := r) (by rw [Hsl.out]; omega) hr4 (by omega)
          have hnI : (n : Int) < (p.swap.length : Int) := by rw [Hsl.out]; omega
          have HF := Lib.hid (show Kx.pagerWord p a = Kx.word p.swap n r by rw [HW.out]; rfl)
          clear HI HJ HW hr4 y0
          go_wp2_with fail
          go_ret
          exact ⟨by rw [HF.out]; rfl, HB.out⟩
        · have hxb : (x == 2) = false := by simpa using hx2
          have HF := Lib.hid (show Kx.pagerWord p a = 0 by rw [HW.out, if_neg hx1, if_neg hx2])
          clear HI HJ HW hx1 hx2
          go_wp2_with fail
          go_ret
          exact ⟨by rw [HF.out]; rfl, HB.out⟩
end Go.Proofs.YtfnpjdgjceiklaaGreatDoor
