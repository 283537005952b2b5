/- Contracts: spec.PagerWord. -/
import Derived.Test.YtfnpjdgjceiklaaGreatDoorKW20
namespace Go.Proofs.YtfnpjdgjceiklaaGreatDoor
open Go.RowKit

set_option maxHeartbeats 2000000 in
theorem specPagerWord_c (p : Kx.Pager) (ad : Int) (vm vi ve vc vs vl vp : Value) (w : World) (h : RP w vm vi ve vc vs vl vp p) (hs : SaneK p.k) :
    Calls Tryz.prog 12 #[pagerV vm vi ve vc vs vl vp p.hand p.limit, .int .i64 ad] w fun e w' => e = .returned (.int .i64 (Kx.pagerWord p ad)) ∧ Below w.heap.size w w' := by
  obtain ⟨w0, hw0⟩ : ∃ w0, w.alloc (.cells #[vm, vi, ve, vc, vs, vl, vp, .int .i64 p.hand, .int .i64 p.limit] 41) = w0 := ⟨_, rfl⟩
  have Hw0 := Lib.hid (show Below w.heap.size w w0 from hw0 ▸ (Below.refl w.heap.size w).alloc (Nat.le_refl _) _)
  have Hbx := Lib.hid (show BoxP w0 w.heap.size vm vi ve vc vs vl vp p.hand p.limit from hw0 ▸ BoxP.new w vm vi ve vc vs vl vp p.hand p.limit _)
  have HP := Lib.hid (h.below Hw0.out)
  have Hs := Lib.hid hs
  have HV := Lib.hid (show Kx.pagerWord p ad = if !Kx.pagerOk p || !Kx.inR ad 0 63 then -1 else Kx.wordP p ad.toNat from rfl)
  obtain ⟨⟨m0, m1, m2, m3⟩, ⟨m4, m5, m6, m7, m8⟩, _⟩ := Hbx.out
  have HC := Lib.hid (specPagerValid_c p vm vi ve vc vs vl vp w0 HP.out Hs.out)
  clear h hs
  unfold pagerV at HC ⊢
  go_enter Tryz.func12, Tryz.ntmps12
  go_wp2_with fail
  clear hw0
  refine HC.out.mono ?_; rintro e w1 ⟨rfl, hb1⟩
  have B1 := Lib.hid hb1; clear hb1 m0 m1 m2 m3 m4 m5 m6 m7 m8 HC
  obtain ⟨⟨m0, m1, m2, m3⟩, ⟨m4, m5, m6, m7, m8⟩, _⟩ := Hbx.out.below B1.out
  cases hv : Kx.pagerOk p with
  | false =>
    have HF := Lib.hid (show Kx.pagerWord p ad = -1 by rw [HV.out, hv]; rfl)
    clear hv HV
    go_wp2_with fail
    go_ret
    exact ⟨by rw [HF.out]; rfl, Hw0.out.trans (B1.out.mono Hw0.out.size)⟩
  | true =>
    have V1 := Lib.hid hv
    clear hv
    go_wp2_with fail
    refine (l1Address_c _ _).mono ?_; rintro e w' ⟨rfl, rfl⟩
    cases hv : Kx.inR ad 0 63 with
    | false =>
      have HF := Lib.hid (show Kx.pagerWord p ad = -1 by rw [HV.out, hv]; simp)
      clear hv HV
      go_wp2_with fail
      go_ret
      exact ⟨by rw [HF.out]; rfl, Hw0.out.trans (B1.out.mono Hw0.out.size)⟩
    | true =>
      obtain ⟨h0, h63⟩ := Kx.inR_true.1 hv
      obtain ⟨a, rfl⟩ := Int.eq_ofNat_of_zero_le h0
      have HF := Lib.hid (show Kx.pagerWord p a = Kx.wordP p a by rw [HV.out, V1.out, hv]; simp)
      have OK := Lib.hid (Kx.pok_iff.1 V1.out)
      have Hm := Lib.hid (show Kx.memOk p.k.mem = true from by
        have := V1.out
        unfold Kx.pagerOk at this; simp only [Bool.and_eq_true] at this
        have := this.1.1.1.1.1.1.1.1.1
        unfold Kx.kernelOk at this; simp only [Bool.and_eq_true] at this; exact this.1.1.1.1.1.1)
      have HPg := Lib.hid (show Kx.pageOk p (a / 4) = true from by
        have := V1.out
        unfold Kx.pagerOk at this; simp only [Bool.and_eq_true, List.all_eq_true] at this
        exact this.1.1.1.2 _ (by simp; omega))
      have HSw := Lib.hid (show p.swap.length = 16 ∧ ∀ i, i < 16 → Kx.row p.swap i = [] ∨ (Kx.row p.swap i).length = 4 from by
        have h2 := OK.out.swap
        rw [sOk_all, Bool.and_eq_true, List.all_eq_true] at h2
        refine ⟨by simpa using h2.2, fun i hi => ?_⟩
        have h3 := h2.1 i (by have := h2.2; simp at this ⊢; omega)
        unfold sOk Kx.wordsOk at h3
        rw [Bool.or_eq_true] at h3
        rcases h3 with h3 | h3
        · exact .inl (by simpa using h3)
        · rw [Bool.and_eq_true] at h3; exact .inr (by simpa using h3.2))
      have HC := Lib.hid (l32Word_c p a vm vi ve vc vs vl vp p.hand p.limit w1 (HP.out.below B1.out) Hm.out OK.out.p16 HSw.out.1 (by omega)
        (fun e => by
          have := HPg.out
          rw [pageOk_eq, if_neg (by rw [e]; decide), if_pos e] at this
          simp only [Bool.and_eq_true] at this
          exact Kx.inR_true.1 this.1.1.1)
        (fun e => by
          have := HPg.out
          rw [pageOk_eq, if_neg (by rw [e]; decide), if_neg (by rw [e]; decide), if_pos e] at this
          simp only [Bool.and_eq_true] at this
          obtain ⟨y0, y15⟩ := Kx.inR_true.1 this.1.1.1
          refine ⟨y0, y15, ?_⟩
          rcases HSw.out.2 (Kx.pageAt p.pages (a / 4)).at_.toNat (by omega) with h | h
          · rw [h] at this; simp at this
          · exact h))
      unfold pagerV at HC
      clear hv HV h0
      go_wp2_with fail
      refine HC.out.mono ?_; rintro e w2 ⟨rfl, hb2⟩
      have B2 := Lib.hid (B1.out.trans (hb2.mono B1.out.size)); clear hb2
      go_wp2_with fail
      go_ret
      exact ⟨by rw [HF.out]; rfl, Hw0.out.trans (B2.out.mono Hw0.out.size)⟩
end Go.Proofs.YtfnpjdgjceiklaaGreatDoor
