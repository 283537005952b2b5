/- Contracts: spec.PagerValid. (printed by kw20.py) -/
import Derived.Test.YtfnpjdgjceiklaaGreatDoorKW19
namespace Go.Proofs.YtfnpjdgjceiklaaGreatDoor
open Go.RowKit

def SS (wz : World) (p : Kx.Pager) (b : Nat) (vm vi ve vc vs vl vp : Value) : Prop := wz.cell? ⟨b, 0, none⟩ = some vm ∧ wz.cell? ⟨b, 1, none⟩ = some vi ∧ wz.cell? ⟨b, 2, none⟩ = some ve ∧ wz.cell? ⟨b, 3, none⟩ = some vc ∧ wz.cell? ⟨b, 4, none⟩ = some vs ∧ wz.cell? ⟨b, 5, none⟩ = some vl ∧ wz.cell? ⟨b, 6, none⟩ = some vp ∧ wz.cell? ⟨b, 7, none⟩ = some (.int .i64 p.hand) ∧ wz.cell? ⟨b, 8, none⟩ = some (.int .i64 p.limit)
set_option maxHeartbeats 4000000 in
theorem specPagerValid_c (p : Kx.Pager) (vm vi ve vc vs vl vp : Value) (w : World) (h : RP w vm vi ve vc vs vl vp p) (hs : SaneK p.k) :
    Calls Tryz.prog 8 #[pagerV vm vi ve vc vs vl vp p.hand p.limit] w fun e w' => e = .returned (.bool (Kx.pagerOk p)) ∧ Below w.heap.size w w' := by
  obtain ⟨w0, hw0⟩ : ∃ w0, w.alloc (.cells #[vm, vi, ve, vc, vs, vl, vp, .int .i64 p.hand, .int .i64 p.limit] 41) = w0 := ⟨_, rfl⟩
  have Hw0 := Lib.hid (show Below w.heap.size w w0 from hw0 ▸ (Below.refl w.heap.size w).alloc (Nat.le_refl _) _)
  have Hbx := Lib.hid (show BoxP w0 w.heap.size vm vi ve vc vs vl vp p.hand p.limit from hw0 ▸ BoxP.new w vm vi ve vc vs vl vp p.hand p.limit _)
  have HP := Lib.hid (h.below Hw0.out)
  have Hs := Lib.hid hs
  obtain ⟨ap, cp, rfl, _, _⟩ := RS.val h.g
  have hpl := h.g.1
  have HV := Lib.hid (show Kx.pagerOk p = (Kx.kernelOk p.k && Kx.swapOk p.swap && Kx.alone p.k && Kx.tablesP p && p.pages.length == 16 && Kx.slotsOk p && (List.range 16).all (Kx.pageOk p) && Kx.inR p.hand 0 15 && Kx.inR p.limit 1 6 && decide ((Kx.countP p 1 : Int) ≤ p.limit)) from rfl)
  obtain ⟨⟨m0, m1, m2, m3⟩, ⟨m4, m5, m6, m7, m8⟩, _⟩ := Hbx.out
  clear h hs
  unfold pagerV
  go_enter Tryz.func8, Tryz.ntmps8
  go_wp2_with fail
  clear hw0
  refine (specKernelValid_c p.k vm vi ve vc _ HP.out.k Hs.out).mono ?_; rintro e w1 ⟨rfl, hb1⟩
  have B1 := Lib.hid (hb1); clear hb1 m0 m1 m2 m3 m4 m5 m6 m7 m8
  obtain ⟨⟨m0, m1, m2, m3⟩, ⟨m4, m5, m6, m7, m8⟩, _⟩ := Hbx.out.below B1.out
  cases hv : Kx.kernelOk p.k
  · have HF := Lib.hid (show Kx.pagerOk p = false by rw [HV.out, hv]; simp)
    clear hv HV
    go_wp2_with fail
    go_ret
    exact ⟨ret_bool HF.out.symm, Hw0.out.trans (B1.out.mono Hw0.out.size)⟩
  have V1 := Lib.hid hv; clear hv
  have OK := Lib.hid (Kx.ok_iff.1 V1.out)
  have Hm := Lib.hid (show Kx.memOk p.k.mem = true from by have := V1.out; unfold Kx.kernelOk at this; simp only [Bool.and_eq_true] at this; exact this.1.1.1.1.1.1)
  have Hi := Lib.hid (show p.k.infos.length = 12 from by
    have := V1.out; unfold Kx.kernelOk at this; simp only [Bool.and_eq_true] at this
    have := this.1.1.1.1.1.2; unfold Kx.infosOk at this; simp only [Bool.and_eq_true] at this; simpa using this.2)
  have HEo := Lib.hid (show Kx.envsOk p.k = true from by have := V1.out; unfold Kx.kernelOk at this; simp only [Bool.and_eq_true] at this; exact this.1.1.1.2)
  have He := Lib.hid (show p.k.envs.length = 3 from by have := HEo.out; unfold Kx.envsOk at this; simp only [Bool.and_eq_true] at this; simpa using this.2)
  have Hro := Lib.hid (show (Kx.envAt p.k.envs 0).root ≤ 11 from by
    have := HEo.out
    unfold Kx.envsOk at this
    rw [eOk_all] at this
    simp only [Bool.and_eq_true, List.all_eq_true] at this
    have h2 := this.1 0 (by rw [He.out]; simp)
    unfold eOk Kx.envOk at h2
    simp only [Bool.and_eq_true] at h2
    exact (Kx.inR_true.1 h2.1.1.2).2)
  go_wp2_with fail
  refine (specSwapValid_c p.swap _ _ (HP.out.s.below B1.out)).mono ?_; rintro e w2 ⟨rfl, rfl⟩
  cases hv : Kx.swapOk p.swap
  · have HF := Lib.hid (show Kx.pagerOk p = false by rw [HV.out, hv]; simp)
    clear hv HV
    go_wp2_with fail
    go_ret
    exact ⟨ret_bool HF.out.symm, Hw0.out.trans (B1.out.mono Hw0.out.size)⟩
  have V2 := Lib.hid hv; clear hv
  go_wp2_with fail
  refine (l32Alone_c p.k vm vi ve vc _ (HP.out.k.below B1.out) He.out).mono ?_; rintro e w3 ⟨rfl, hb3⟩
  have B3 := Lib.hid (B1.out.trans (hb3.mono B1.out.size)); clear hb3 m0 m1 m2 m3 m4 m5 m6 m7 m8
  obtain ⟨⟨m0, m1, m2, m3⟩, ⟨m4, m5, m6, m7, m8⟩, _⟩ := Hbx.out.below B3.out
  cases hv : Kx.alone p.k
  · have HF := Lib.hid (show Kx.pagerOk p = false by rw [HV.out, hv]; simp)
    clear hv HV
    go_wp2_with fail
    go_ret
    exact ⟨ret_bool HF.out.symm, Hw0.out.trans (B3.out.mono Hw0.out.size)⟩
  have V3 := Lib.hid hv; clear hv
  go_wp2_with fail
  refine (l32Tables_c p vm vi ve vc vs vl _ p.hand p.limit _ (HP.out.below B3.out) Hm.out Hi.out He.out Hro.out).mono ?_; rintro e w4 ⟨rfl, hb4⟩
  have B4 := Lib.hid (B3.out.trans (hb4.mono B3.out.size)); clear hb4 m0 m1 m2 m3 m4 m5 m6 m7 m8
  obtain ⟨⟨m0, m1, m2, m3⟩, ⟨m4, m5, m6, m7, m8⟩, _⟩ := Hbx.out.below B4.out
  cases hv : Kx.tablesP p
  · have HF := Lib.hid (show Kx.pagerOk p = false by rw [HV.out, hv]; simp)
    clear hv HV
    go_wp2_with fail
    go_ret
    exact ⟨ret_bool HF.out.symm, Hw0.out.trans (B4.out.mono Hw0.out.size)⟩
  have V4 := Lib.hid hv; clear hv
  have Hlow := Lib.hid (show p.low.length = 4 ∧ ∀ i, i < 4 → 0 ≤ p.low.getD i 0 ∧ p.low.getD i 0 ≤ 11 from by
    have := V4.out
    unfold Kx.tablesP at this
    simp only [Bool.and_eq_true, List.all_eq_true] at this
    refine ⟨by simpa using this.1.1.1.2, fun i hi => ?_⟩
    have h2 := this.2 i (by simpa using hi)
    rw [lowOk_eq] at h2
    simp only [Bool.and_eq_true] at h2
    exact Kx.inR_true.1 h2.1.1.1)
  by_cases h16 : p.pages.length = 16
  case neg =>
    have HF := Lib.hid (show Kx.pagerOk p = false by rw [HV.out, show (p.pages.length == 16) = false from by simpa using h16]; simp)
    have hlb : ((p.pages.length : Int) != 16) = true := by simp; omega
    have hlc : ((p.pages.length : Int) == 16) = false := by simp; omega
    clear HV h16
    go_wp2_with fail
    go_ret
    exact ⟨ret_bool HF.out.symm, Hw0.out.trans (B4.out.mono Hw0.out.size)⟩
  have H16 := Lib.hid h16
  have hlb : ((p.pages.length : Int) != 16) = false := by simp; omega
  have hlc : ((p.pages.length : Int) == 16) = true := by simp; omega
  clear h16
  go_wp2_with fail
  refine (l32Slots_c p vm vi ve vc vs vl _ p.hand p.limit _ (RS.below HP.out.g B4.out) (HP.out.s.below B4.out)).mono ?_; rintro e w5 ⟨rfl, hb5⟩
  have B5 := Lib.hid (B4.out.trans (hb5.mono B4.out.size)); clear hb5 m0 m1 m2 m3 m4 m5 m6 m7 m8
  obtain ⟨⟨m0, m1, m2, m3⟩, ⟨m4, m5, m6, m7, m8⟩, _⟩ := Hbx.out.below B5.out
  cases hv : Kx.slotsOk p
  · have HF := Lib.hid (show Kx.pagerOk p = false by rw [HV.out, hv]; simp)
    clear hv HV
    go_wp2_with fail
    go_ret
    exact ⟨ret_bool HF.out.symm, Hw0.out.trans (B5.out.mono Hw0.out.size)⟩
  have V5 := Lib.hid hv; clear hv
  go_wp2_with fail
  go_loopw [3] (fun i wr => ∃ q : Nat, i = .int .i64 q ∧ q ≤ p.pages.length ∧ Hid (∀ j, j < q → Kx.pageOk p j = true) ∧ Hid (Below w0.heap.size w0 wr)) (fun i _ => p.pages.length - (intOf i).toNat)
  case atStart => exact ⟨0, rfl, Nat.zero_le _, fun j hj => absurd hj (Nat.not_lt_zero _), B5.out⟩
  case round =>
    clear m0 m1 m2 m3 m4 m5 m6 m7 m8
    obtain ⟨q, rfl, hq, hall, hb⟩ := hrel
    obtain ⟨⟨m0, m1, m2, m3⟩, ⟨m4, m5, m6, m7, m8⟩, hbl⟩ := Hbx.out.below hb.out
    by_cases hlt : q < p.pages.length
    · have hlI : (q : Int) < (p.pages.length : Int) := by omega
      have HC := Lib.hid (l32Page_c p q vm vi ve vc vs vl _ p.hand p.limit wr (HP.out.below hb.out) Hm.out Hi.out H16.out Hlow.out.1 V2.out Hlow.out.2 (by rw [← H16.out]; exact hlt))
      cases hv : Kx.pageOk p q with
      | false =>
        have HF := Lib.hid (show Kx.pagerOk p = false by
          rw [HV.out, show (List.range 16).all (Kx.pageOk p) = false from by
            rw [List.all_eq_false]; exact ⟨q, by rw [← H16.out]; simpa using hlt, by rw [hv]; simp⟩]; simp)
        have Hv := Lib.hid hv
        clear hv HV
        go_wp2_with fail
        refine HC.out.mono ?_; rintro e w6 ⟨rfl, hb6⟩; rw [Hv.out]
        have B6 := Lib.hid (hb.out.trans (hb6.mono hb.out.size)); clear hb6
        go_wp2_with fail
        go_ret
        exact ⟨ret_bool HF.out.symm, Hw0.out.trans (B6.out.mono Hw0.out.size)⟩
      | true =>
        have HN := Lib.hid (show ∀ j, j < q + 1 → Kx.pageOk p j = true from scan_step hall.out hv)
        have Hv := Lib.hid hv
        clear hv HV
        go_wp2_with fail
        refine HC.out.mono ?_; rintro e w6 ⟨rfl, hb6⟩; rw [Hv.out]
        have B6 := Lib.hid (hb.out.trans (hb6.mono hb.out.size)); clear hb6
        go_wp2_with fail
        go_roundw
        case rel => exact ⟨q + 1, by go_num, by omega, HN.out, B6.out⟩
        case measure => simp [intOf]; omega
    · have HA := Lib.hid (show (List.range 16).all (Kx.pageOk p) = true by
        rw [List.all_eq_true]
        intro j hj
        have hj2 : j < 16 := by simpa using hj
        have h6 := H16.out
        exact hall.out j (by omega))
      have HV2 := Lib.hid (show Kx.pagerOk p = (Kx.inR p.hand 0 15 && Kx.inR p.limit 1 6 && decide ((Kx.countP p 1 : Int) ≤ p.limit)) by
        rw [HV.out, V1.out, V2.out, V3.out, V4.out, V5.out, HA.out, show (p.pages.length == 16) = true from by simpa using H16.out]; simp)
      have Hb0 := Lib.hid hb.out
      have Hcl := Lib.hid (show ∀ wz, Below wr.heap.size wr wz → SS wz p w.heap.size vm vi ve vc vs vl (.slice ap p.pages.length cp) from fun wz hz => by
        obtain ⟨⟨n0, n1, n2, n3⟩, ⟨n4, n5, n6, n7, n8⟩, _⟩ := Hbx.out.below (hb.out.trans (hz.mono hb.out.size))
        exact ⟨n0, n1, n2, n3, n4, n5, n6, n7, n8⟩)
      unfold SS at Hcl
      clear HV
      cases h1 : Kx.inR p.hand 0 15 with
      | false =>
        have HF := Lib.hid (show Kx.pagerOk p = false by rw [HV2.out, h1]; rfl)
        have Hh := Lib.hid h1
        clear h1 HV2
        go_wp2_with fail
        refine wp_region_held_drew (S := (fun wz => wz.cell? ⟨w.heap.size, 0, none⟩ = some vm ∧ wz.cell? ⟨w.heap.size, 1, none⟩ = some vi ∧ wz.cell? ⟨w.heap.size, 2, none⟩ = some ve ∧ wz.cell? ⟨w.heap.size, 3, none⟩ = some vc ∧ wz.cell? ⟨w.heap.size, 4, none⟩ = some vs ∧ wz.cell? ⟨w.heap.size, 5, none⟩ = some vl ∧ wz.cell? ⟨w.heap.size, 6, none⟩ = some (.slice ap p.pages.length cp) ∧ wz.cell? ⟨w.heap.size, 7, none⟩ = some (.int .i64 p.hand) ∧ wz.cell? ⟨w.heap.size, 8, none⟩ = some (.int .i64 p.limit))) (by kernel_rfl) (by first | assumption | go_keep) (fun hHeld => ?_)
        refine wpAnyH_take (i := 0) (v := ?_) rfl (by kernel_rfl) (by kernel_rfl) (by kernel_rfl) (fun _ _ _ h => h) (Or.inl ⟨by rfl, ?_⟩) (by assumption) ?_
        rotate_left
        · intro w hSw; (try dsimp only at hSw); go_simp; try with_reducible rfl
        try simp only [Act.put, List.getElem_toArray, List.getElem_cons_zero, List.setIfInBounds_toArray, List.set_cons_zero, List.set_cons_succ]
        refine wpAnyH_take (i := 1) (v := ?_) rfl (by kernel_rfl) (by kernel_rfl) (by kernel_rfl) (fun _ _ _ h => h) (Or.inl ⟨by rfl, ?_⟩) (by assumption) ?_
        rotate_left
        · intro w hSw; (try dsimp only at hSw); go_simp; try with_reducible rfl
        try simp only [Act.put, List.getElem_toArray, List.getElem_cons_zero, List.getElem_cons_succ, List.setIfInBounds_toArray, List.set_cons_zero, List.set_cons_succ]
        refine wpAnyH_ready (rs := [2]) (by kernel_rfl) (by simp) ?_
        refine AllReadyH.cons rfl (fun K hK => ?_) AllReadyH.nil
        (rw [if_pos (by rfl)]; go_simp; go_at_call 41; refine (l6InK_c _ _ _ _).mono ?_; rintro e w' ⟨rfl, rfl⟩; rw [Hh.out]; go_wp2_with fail)
        refine hK.out _ _ ?_ (fun hHeld => ?_)
        · first | assumption | go_keep
        clear hK K
        try simp only [Act.put, List.getElem_toArray, List.getElem_cons_zero, List.getElem_cons_succ, List.setIfInBounds_toArray, List.set_cons_zero, List.set_cons_succ]
        refine wpAnyH_take (i := 3) (v := ?_) rfl (by kernel_rfl) (by kernel_rfl) (by kernel_rfl) (fun _ _ _ h => h) (Or.inl ⟨by rfl, ?_⟩) (by assumption) ?_
        rotate_left
        · intro w hSw; (try dsimp only at hSw); go_simp; try with_reducible rfl
        try simp only [Act.put, List.getElem_toArray, List.getElem_cons_zero, List.getElem_cons_succ, List.setIfInBounds_toArray, List.set_cons_zero, List.set_cons_succ]
        refine wpAnyH_take (i := 4) (v := undef) rfl (by kernel_rfl) (by kernel_rfl) (by kernel_rfl) (fun _ _ _ h => h) (Or.inr ⟨by rfl, rfl⟩) (by assumption) ?_
        try simp only [Act.put, List.getElem_toArray, List.getElem_cons_zero, List.getElem_cons_succ, List.setIfInBounds_toArray, List.set_cons_zero, List.set_cons_succ]
        refine wpAnyH_take (i := 5) (v := undef) rfl (by kernel_rfl) (by kernel_rfl) (by kernel_rfl) (fun _ _ _ h => h) (Or.inr ⟨by rfl, rfl⟩) (by assumption) ?_
        try simp only [Act.put, List.getElem_toArray, List.getElem_cons_zero, List.getElem_cons_succ, List.setIfInBounds_toArray, List.set_cons_zero, List.set_cons_succ]
        refine wpAnyH_take (i := 6) (v := undef) rfl (by kernel_rfl) (by kernel_rfl) (by kernel_rfl) (fun _ _ _ h => h) (Or.inr ⟨by rfl, rfl⟩) (by assumption) ?_
        try simp only [Act.put, List.getElem_toArray, List.getElem_cons_zero, List.getElem_cons_succ, List.setIfInBounds_toArray, List.set_cons_zero, List.set_cons_succ]
        refine wpAnyH_take (i := 7) (v := ?_) rfl (by kernel_rfl) (by kernel_rfl) (by kernel_rfl) (fun _ _ _ h => h) (Or.inl ⟨by rfl, ?_⟩) (by assumption) ?_
        rotate_left
        · intro w hSw; (try dsimp only at hSw); go_simp; try with_reducible rfl
        try simp only [Act.put, List.getElem_toArray, List.getElem_cons_zero, List.getElem_cons_succ, List.setIfInBounds_toArray, List.set_cons_zero, List.set_cons_succ]
        refine wpAnyH_take (i := 8) (v := ?_) rfl (by kernel_rfl) (by kernel_rfl) (by kernel_rfl) (fun _ _ _ h => h) (Or.inl ⟨by rfl, ?_⟩) (by assumption) ?_
        rotate_left
        · intro w hSw; (try dsimp only at hSw); go_simp; try with_reducible rfl
        try simp only [Act.put, List.getElem_toArray, List.getElem_cons_zero, List.getElem_cons_succ, List.setIfInBounds_toArray, List.set_cons_zero, List.set_cons_succ]
        refine wpAnyH_take (i := 9) (v := undef) rfl (by kernel_rfl) (by kernel_rfl) (by kernel_rfl) (fun _ _ _ h => h) (Or.inr ⟨by rfl, rfl⟩) (by assumption) ?_
        try simp only [Act.put, List.getElem_toArray, List.getElem_cons_zero, List.getElem_cons_succ, List.setIfInBounds_toArray, List.set_cons_zero, List.set_cons_succ]
        refine wpAnyH_take (i := 10) (v := undef) rfl (by kernel_rfl) (by kernel_rfl) (by kernel_rfl) (fun _ _ _ h => h) (Or.inr ⟨by rfl, rfl⟩) (by assumption) ?_
        try simp only [Act.put, List.getElem_toArray, List.getElem_cons_zero, List.getElem_cons_succ, List.setIfInBounds_toArray, List.set_cons_zero, List.set_cons_succ]
        refine wpAnyH_take (i := 11) (v := undef) rfl (by kernel_rfl) (by kernel_rfl) (by kernel_rfl) (fun _ _ _ h => h) (Or.inr ⟨by rfl, rfl⟩) (by assumption) ?_
        try simp only [Act.put, List.getElem_toArray, List.getElem_cons_zero, List.getElem_cons_succ, List.setIfInBounds_toArray, List.set_cons_zero, List.set_cons_succ]
        refine wpAnyH_take (i := 12) (v := undef) rfl (by kernel_rfl) (by kernel_rfl) (by kernel_rfl) (fun _ _ _ h => h) (Or.inr ⟨by rfl, rfl⟩) (by assumption) ?_
        try simp only [Act.put, List.getElem_toArray, List.getElem_cons_zero, List.getElem_cons_succ, List.setIfInBounds_toArray, List.set_cons_zero, List.set_cons_succ]
        refine wpAnyH_take (i := 13) (v := undef) rfl (by kernel_rfl) (by kernel_rfl) (by kernel_rfl) (fun _ _ _ h => h) (Or.inr ⟨by rfl, rfl⟩) (by assumption) ?_
        try simp only [Act.put, List.getElem_toArray, List.getElem_cons_zero, List.getElem_cons_succ, List.setIfInBounds_toArray, List.set_cons_zero, List.set_cons_succ]
        refine wpAnyH_take (i := 14) (v := ?_) rfl (by kernel_rfl) (by kernel_rfl) (by kernel_rfl) (fun _ _ _ h => h) (Or.inl ⟨by rfl, ?_⟩) (by assumption) ?_
        rotate_left
        · intro w hSw; (try dsimp only at hSw); go_simp; try with_reducible rfl
        try simp only [Act.put, List.getElem_toArray, List.getElem_cons_zero, List.getElem_cons_succ, List.setIfInBounds_toArray, List.set_cons_zero, List.set_cons_succ]
        refine wpAnyH_take (i := 15) (v := ?_) rfl (by kernel_rfl) (by kernel_rfl) (by kernel_rfl) (fun _ _ _ h => h) (Or.inl ⟨by rfl, ?_⟩) (by assumption) ?_
        rotate_left
        · intro w hSw; (try dsimp only at hSw); go_simp; try with_reducible rfl
        try simp only [Act.put, List.getElem_toArray, List.getElem_cons_zero, List.getElem_cons_succ, List.setIfInBounds_toArray, List.set_cons_zero, List.set_cons_succ]
        refine wpAnyH_done (by kernel_rfl) ?_ _
        go_wp2_with fail
        go_ret
        exact ⟨ret_bool HF.out.symm, Hw0.out.trans ((Below.drewB Hb0.out).mono Hw0.out.size)⟩
      | true =>
        have Hh := Lib.hid h1
        cases h2 : Kx.inR p.limit 1 6 with
        | false =>
          have HF := Lib.hid (show Kx.pagerOk p = false by rw [HV2.out, h1, h2]; rfl)
          have Hl := Lib.hid h2
          clear h1 h2 HV2
          go_wp2_with fail
          refine wp_region_held_drew (S := (fun wz => wz.cell? ⟨w.heap.size, 0, none⟩ = some vm ∧ wz.cell? ⟨w.heap.size, 1, none⟩ = some vi ∧ wz.cell? ⟨w.heap.size, 2, none⟩ = some ve ∧ wz.cell? ⟨w.heap.size, 3, none⟩ = some vc ∧ wz.cell? ⟨w.heap.size, 4, none⟩ = some vs ∧ wz.cell? ⟨w.heap.size, 5, none⟩ = some vl ∧ wz.cell? ⟨w.heap.size, 6, none⟩ = some (.slice ap p.pages.length cp) ∧ wz.cell? ⟨w.heap.size, 7, none⟩ = some (.int .i64 p.hand) ∧ wz.cell? ⟨w.heap.size, 8, none⟩ = some (.int .i64 p.limit))) (by kernel_rfl) (by first | assumption | go_keep) (fun hHeld => ?_)
          refine wpAnyH_take (i := 0) (v := ?_) rfl (by kernel_rfl) (by kernel_rfl) (by kernel_rfl) (fun _ _ _ h => h) (Or.inl ⟨by rfl, ?_⟩) (by assumption) ?_
          rotate_left
          · intro w hSw; (try dsimp only at hSw); go_simp; try with_reducible rfl
          try simp only [Act.put, List.getElem_toArray, List.getElem_cons_zero, List.setIfInBounds_toArray, List.set_cons_zero, List.set_cons_succ]
          refine wpAnyH_take (i := 1) (v := ?_) rfl (by kernel_rfl) (by kernel_rfl) (by kernel_rfl) (fun _ _ _ h => h) (Or.inl ⟨by rfl, ?_⟩) (by assumption) ?_
          rotate_left
          · intro w hSw; (try dsimp only at hSw); go_simp; try with_reducible rfl
          try simp only [Act.put, List.getElem_toArray, List.getElem_cons_zero, List.getElem_cons_succ, List.setIfInBounds_toArray, List.set_cons_zero, List.set_cons_succ]
          refine wpAnyH_ready (rs := [2]) (by kernel_rfl) (by simp) ?_
          refine AllReadyH.cons rfl (fun K hK => ?_) AllReadyH.nil
          (rw [if_pos (by rfl)]; go_simp; go_at_call 41; refine (l6InK_c _ _ _ _).mono ?_; rintro e w' ⟨rfl, rfl⟩; rw [Hh.out]; go_wp2_with fail)
          refine hK.out _ _ ?_ (fun hHeld => ?_)
          · first | assumption | go_keep
          clear hK K
          try simp only [Act.put, List.getElem_toArray, List.getElem_cons_zero, List.getElem_cons_succ, List.setIfInBounds_toArray, List.set_cons_zero, List.set_cons_succ]
          refine wpAnyH_take (i := 3) (v := ?_) rfl (by kernel_rfl) (by kernel_rfl) (by kernel_rfl) (fun _ _ _ h => h) (Or.inl ⟨by rfl, ?_⟩) (by assumption) ?_
          rotate_left
          · intro w hSw; (try dsimp only at hSw); go_simp; try with_reducible rfl
          try simp only [Act.put, List.getElem_toArray, List.getElem_cons_zero, List.getElem_cons_succ, List.setIfInBounds_toArray, List.set_cons_zero, List.set_cons_succ]
          refine wpAnyH_take (i := 4) (v := ?_) rfl (by kernel_rfl) (by kernel_rfl) (by kernel_rfl) (fun _ _ _ h => h) (Or.inl ⟨by rfl, ?_⟩) (by assumption) ?_
          rotate_left
          · intro w hSw; (try dsimp only at hSw); go_simp; try with_reducible rfl
          try simp only [Act.put, List.getElem_toArray, List.getElem_cons_zero, List.getElem_cons_succ, List.setIfInBounds_toArray, List.set_cons_zero, List.set_cons_succ]
          refine wpAnyH_take (i := 5) (v := ?_) rfl (by kernel_rfl) (by kernel_rfl) (by kernel_rfl) (fun _ _ _ h => h) (Or.inl ⟨by rfl, ?_⟩) (by assumption) ?_
          rotate_left
          · intro w hSw; (try dsimp only at hSw); go_simp; try with_reducible rfl
          try simp only [Act.put, List.getElem_toArray, List.getElem_cons_zero, List.getElem_cons_succ, List.setIfInBounds_toArray, List.set_cons_zero, List.set_cons_succ]
          refine wpAnyH_ready (rs := [6]) (by kernel_rfl) (by simp) ?_
          refine AllReadyH.cons rfl (fun K hK => ?_) AllReadyH.nil
          (rw [if_pos (by rfl)]; go_simp; go_at_call 41; refine (l6InK_c _ _ _ _).mono ?_; rintro e w' ⟨rfl, rfl⟩; rw [Hl.out]; go_wp2_with fail)
          refine hK.out _ _ ?_ (fun hHeld => ?_)
          · first | assumption | go_keep
          clear hK K
          try simp only [Act.put, List.getElem_toArray, List.getElem_cons_zero, List.getElem_cons_succ, List.setIfInBounds_toArray, List.set_cons_zero, List.set_cons_succ]
          refine wpAnyH_take (i := 7) (v := ?_) rfl (by kernel_rfl) (by kernel_rfl) (by kernel_rfl) (fun _ _ _ h => h) (Or.inl ⟨by rfl, ?_⟩) (by assumption) ?_
          rotate_left
          · intro w hSw; (try dsimp only at hSw); go_simp; try with_reducible rfl
          try simp only [Act.put, List.getElem_toArray, List.getElem_cons_zero, List.getElem_cons_succ, List.setIfInBounds_toArray, List.set_cons_zero, List.set_cons_succ]
          refine wpAnyH_take (i := 8) (v := ?_) rfl (by kernel_rfl) (by kernel_rfl) (by kernel_rfl) (fun _ _ _ h => h) (Or.inl ⟨by rfl, ?_⟩) (by assumption) ?_
          rotate_left
          · intro w hSw; (try dsimp only at hSw); go_simp; try with_reducible rfl
          try simp only [Act.put, List.getElem_toArray, List.getElem_cons_zero, List.getElem_cons_succ, List.setIfInBounds_toArray, List.set_cons_zero, List.set_cons_succ]
          refine wpAnyH_take (i := 9) (v := undef) rfl (by kernel_rfl) (by kernel_rfl) (by kernel_rfl) (fun _ _ _ h => h) (Or.inr ⟨by rfl, rfl⟩) (by assumption) ?_
          try simp only [Act.put, List.getElem_toArray, List.getElem_cons_zero, List.getElem_cons_succ, List.setIfInBounds_toArray, List.set_cons_zero, List.set_cons_succ]
          refine wpAnyH_take (i := 10) (v := undef) rfl (by kernel_rfl) (by kernel_rfl) (by kernel_rfl) (fun _ _ _ h => h) (Or.inr ⟨by rfl, rfl⟩) (by assumption) ?_
          try simp only [Act.put, List.getElem_toArray, List.getElem_cons_zero, List.getElem_cons_succ, List.setIfInBounds_toArray, List.set_cons_zero, List.set_cons_succ]
          refine wpAnyH_take (i := 11) (v := undef) rfl (by kernel_rfl) (by kernel_rfl) (by kernel_rfl) (fun _ _ _ h => h) (Or.inr ⟨by rfl, rfl⟩) (by assumption) ?_
          try simp only [Act.put, List.getElem_toArray, List.getElem_cons_zero, List.getElem_cons_succ, List.setIfInBounds_toArray, List.set_cons_zero, List.set_cons_succ]
          refine wpAnyH_take (i := 12) (v := undef) rfl (by kernel_rfl) (by kernel_rfl) (by kernel_rfl) (fun _ _ _ h => h) (Or.inr ⟨by rfl, rfl⟩) (by assumption) ?_
          try simp only [Act.put, List.getElem_toArray, List.getElem_cons_zero, List.getElem_cons_succ, List.setIfInBounds_toArray, List.set_cons_zero, List.set_cons_succ]
          refine wpAnyH_take (i := 13) (v := undef) rfl (by kernel_rfl) (by kernel_rfl) (by kernel_rfl) (fun _ _ _ h => h) (Or.inr ⟨by rfl, rfl⟩) (by assumption) ?_
          try simp only [Act.put, List.getElem_toArray, List.getElem_cons_zero, List.getElem_cons_succ, List.setIfInBounds_toArray, List.set_cons_zero, List.set_cons_succ]
          refine wpAnyH_take (i := 14) (v := ?_) rfl (by kernel_rfl) (by kernel_rfl) (by kernel_rfl) (fun _ _ _ h => h) (Or.inl ⟨by rfl, ?_⟩) (by assumption) ?_
          rotate_left
          · intro w hSw; (try dsimp only at hSw); go_simp; try with_reducible rfl
          try simp only [Act.put, List.getElem_toArray, List.getElem_cons_zero, List.getElem_cons_succ, List.setIfInBounds_toArray, List.set_cons_zero, List.set_cons_succ]
          refine wpAnyH_take (i := 15) (v := ?_) rfl (by kernel_rfl) (by kernel_rfl) (by kernel_rfl) (fun _ _ _ h => h) (Or.inl ⟨by rfl, ?_⟩) (by assumption) ?_
          rotate_left
          · intro w hSw; (try dsimp only at hSw); go_simp; try with_reducible rfl
          try simp only [Act.put, List.getElem_toArray, List.getElem_cons_zero, List.getElem_cons_succ, List.setIfInBounds_toArray, List.set_cons_zero, List.set_cons_succ]
          refine wpAnyH_done (by kernel_rfl) ?_ _
          go_wp2_with fail
          go_ret
          exact ⟨ret_bool HF.out.symm, Hw0.out.trans ((Below.drewB Hb0.out).mono Hw0.out.size)⟩
        | true =>
          have HF := Lib.hid (show Kx.pagerOk p = decide ((Kx.countP p 1 : Int) ≤ p.limit) by rw [HV2.out, h1, h2]; rfl)
          have Hl := Lib.hid h2
          clear h1 h2 HV2
          go_wp2_with fail
          refine wp_region_held_drew (S := (fun wz => wz.cell? ⟨w.heap.size, 0, none⟩ = some vm ∧ wz.cell? ⟨w.heap.size, 1, none⟩ = some vi ∧ wz.cell? ⟨w.heap.size, 2, none⟩ = some ve ∧ wz.cell? ⟨w.heap.size, 3, none⟩ = some vc ∧ wz.cell? ⟨w.heap.size, 4, none⟩ = some vs ∧ wz.cell? ⟨w.heap.size, 5, none⟩ = some vl ∧ wz.cell? ⟨w.heap.size, 6, none⟩ = some (.slice ap p.pages.length cp) ∧ wz.cell? ⟨w.heap.size, 7, none⟩ = some (.int .i64 p.hand) ∧ wz.cell? ⟨w.heap.size, 8, none⟩ = some (.int .i64 p.limit))) (by kernel_rfl) (by first | assumption | go_keep) (fun hHeld => ?_)
          refine wpAnyH_take (i := 0) (v := ?_) rfl (by kernel_rfl) (by kernel_rfl) (by kernel_rfl) (fun _ _ _ h => h) (Or.inl ⟨by rfl, ?_⟩) (by assumption) ?_
          rotate_left
          · intro w hSw; (try dsimp only at hSw); go_simp; try with_reducible rfl
          try simp only [Act.put, List.getElem_toArray, List.getElem_cons_zero, List.setIfInBounds_toArray, List.set_cons_zero, List.set_cons_succ]
          refine wpAnyH_take (i := 1) (v := ?_) rfl (by kernel_rfl) (by kernel_rfl) (by kernel_rfl) (fun _ _ _ h => h) (Or.inl ⟨by rfl, ?_⟩) (by assumption) ?_
          rotate_left
          · intro w hSw; (try dsimp only at hSw); go_simp; try with_reducible rfl
          try simp only [Act.put, List.getElem_toArray, List.getElem_cons_zero, List.getElem_cons_succ, List.setIfInBounds_toArray, List.set_cons_zero, List.set_cons_succ]
          refine wpAnyH_ready (rs := [2]) (by kernel_rfl) (by simp) ?_
          refine AllReadyH.cons rfl (fun K hK => ?_) AllReadyH.nil
          (rw [if_pos (by rfl)]; go_simp; go_at_call 41; refine (l6InK_c _ _ _ _).mono ?_; rintro e w' ⟨rfl, rfl⟩; rw [Hh.out]; go_wp2_with fail)
          refine hK.out _ _ ?_ (fun hHeld => ?_)
          · first | assumption | go_keep
          clear hK K
          try simp only [Act.put, List.getElem_toArray, List.getElem_cons_zero, List.getElem_cons_succ, List.setIfInBounds_toArray, List.set_cons_zero, List.set_cons_succ]
          refine wpAnyH_take (i := 3) (v := ?_) rfl (by kernel_rfl) (by kernel_rfl) (by kernel_rfl) (fun _ _ _ h => h) (Or.inl ⟨by rfl, ?_⟩) (by assumption) ?_
          rotate_left
          · intro w hSw; (try dsimp only at hSw); go_simp; try with_reducible rfl
          try simp only [Act.put, List.getElem_toArray, List.getElem_cons_zero, List.getElem_cons_succ, List.setIfInBounds_toArray, List.set_cons_zero, List.set_cons_succ]
          refine wpAnyH_take (i := 4) (v := ?_) rfl (by kernel_rfl) (by kernel_rfl) (by kernel_rfl) (fun _ _ _ h => h) (Or.inl ⟨by rfl, ?_⟩) (by assumption) ?_
          rotate_left
          · intro w hSw; (try dsimp only at hSw); go_simp; try with_reducible rfl
          try simp only [Act.put, List.getElem_toArray, List.getElem_cons_zero, List.getElem_cons_succ, List.setIfInBounds_toArray, List.set_cons_zero, List.set_cons_succ]
          refine wpAnyH_take (i := 5) (v := ?_) rfl (by kernel_rfl) (by kernel_rfl) (by kernel_rfl) (fun _ _ _ h => h) (Or.inl ⟨by rfl, ?_⟩) (by assumption) ?_
          rotate_left
          · intro w hSw; (try dsimp only at hSw); go_simp; try with_reducible rfl
          try simp only [Act.put, List.getElem_toArray, List.getElem_cons_zero, List.getElem_cons_succ, List.setIfInBounds_toArray, List.set_cons_zero, List.set_cons_succ]
          refine wpAnyH_ready (rs := [6]) (by kernel_rfl) (by simp) ?_
          refine AllReadyH.cons rfl (fun K hK => ?_) AllReadyH.nil
          (rw [if_pos (by rfl)]; go_simp; go_at_call 41; refine (l6InK_c _ _ _ _).mono ?_; rintro e w' ⟨rfl, rfl⟩; rw [Hl.out]; go_wp2_with fail)
          refine hK.out _ _ ?_ (fun hHeld => ?_)
          · first | assumption | go_keep
          clear hK K
          try simp only [Act.put, List.getElem_toArray, List.getElem_cons_zero, List.getElem_cons_succ, List.setIfInBounds_toArray, List.set_cons_zero, List.set_cons_succ]
          refine wpAnyH_take (i := 7) (v := ?_) rfl (by kernel_rfl) (by kernel_rfl) (by kernel_rfl) (fun _ _ _ h => h) (Or.inl ⟨by rfl, ?_⟩) (by assumption) ?_
          rotate_left
          · intro w hSw; (try dsimp only at hSw); go_simp; try with_reducible rfl
          try simp only [Act.put, List.getElem_toArray, List.getElem_cons_zero, List.getElem_cons_succ, List.setIfInBounds_toArray, List.set_cons_zero, List.set_cons_succ]
          refine wpAnyH_take (i := 8) (v := ?_) rfl (by kernel_rfl) (by kernel_rfl) (by kernel_rfl) (fun _ _ _ h => h) (Or.inl ⟨by rfl, ?_⟩) (by assumption) ?_
          rotate_left
          · intro w hSw; (try dsimp only at hSw); go_simp; try with_reducible rfl
          try simp only [Act.put, List.getElem_toArray, List.getElem_cons_zero, List.getElem_cons_succ, List.setIfInBounds_toArray, List.set_cons_zero, List.set_cons_succ]
          refine wpAnyH_take (i := 9) (v := ?_) rfl (by kernel_rfl) (by kernel_rfl) (by kernel_rfl) (fun _ _ _ h => h) (Or.inl ⟨by rfl, ?_⟩) (by assumption) ?_
          rotate_left
          · intro w hSw; (try dsimp only at hSw); go_simp; try with_reducible rfl
          try simp only [Act.put, List.getElem_toArray, List.getElem_cons_zero, List.getElem_cons_succ, List.setIfInBounds_toArray, List.set_cons_zero, List.set_cons_succ]
          refine wpAnyH_take (i := 11) (v := ?_) rfl (by kernel_rfl) (by kernel_rfl) (by kernel_rfl) (fun _ _ _ h => h) (Or.inl ⟨by rfl, ?_⟩) (by assumption) ?_
          rotate_left
          · intro w hSw; (try dsimp only at hSw); go_simp; try with_reducible rfl
          try simp only [Act.put, List.getElem_toArray, List.getElem_cons_zero, List.getElem_cons_succ, List.setIfInBounds_toArray, List.set_cons_zero, List.set_cons_succ]
          refine wpAnyH_take (i := 12) (v := ?_) rfl (by kernel_rfl) (by kernel_rfl) (by kernel_rfl) (fun _ _ _ h => h) (Or.inl ⟨by rfl, ?_⟩) (by assumption) ?_
          rotate_left
          · intro w hSw; (try dsimp only at hSw); go_simp; try with_reducible rfl
          try simp only [Act.put, List.getElem_toArray, List.getElem_cons_zero, List.getElem_cons_succ, List.setIfInBounds_toArray, List.set_cons_zero, List.set_cons_succ]
          refine wpAnyH_ready (rs := [10]) (by kernel_rfl) (by simp) ?_
          refine AllReadyH.cons rfl (fun K hK => ?_) AllReadyH.nil
          (rw [if_pos (by rfl)]; go_simp; go_at_call 42; refine (l32Count_c p 1 vm vi ve vc vs vl _ p.hand p.limit wr.drew (RS.below HP.out.g (Below.drewB Hb0.out))).mono ?_; rintro e w6 ⟨rfl, hb6⟩; have hb7 := Below.undrew hb6; have hc7 := Hcl.out w6 hb7; go_wp2_with fail)
          refine hK.out _ _ ?_ (fun hHeld => ?_)
          · first | assumption | go_keep
          clear hK K
          try simp only [Act.put, List.getElem_toArray, List.getElem_cons_zero, List.getElem_cons_succ, List.setIfInBounds_toArray, List.set_cons_zero, List.set_cons_succ]
          refine wpAnyH_take (i := 13) (v := ?_) rfl (by kernel_rfl) (by kernel_rfl) (by kernel_rfl) (fun _ _ _ h => h) (Or.inl ⟨by rfl, ?_⟩) (by assumption) ?_
          rotate_left
          · intro w hSw; (try dsimp only at hSw); go_simp; try with_reducible rfl
          try simp only [Act.put, List.getElem_toArray, List.getElem_cons_zero, List.getElem_cons_succ, List.setIfInBounds_toArray, List.set_cons_zero, List.set_cons_succ]
          refine wpAnyH_take (i := 14) (v := ?_) rfl (by kernel_rfl) (by kernel_rfl) (by kernel_rfl) (fun _ _ _ h => h) (Or.inl ⟨by rfl, ?_⟩) (by assumption) ?_
          rotate_left
          · intro w hSw; (try dsimp only at hSw); go_simp; try with_reducible rfl
          try simp only [Act.put, List.getElem_toArray, List.getElem_cons_zero, List.getElem_cons_succ, List.setIfInBounds_toArray, List.set_cons_zero, List.set_cons_succ]
          refine wpAnyH_take (i := 15) (v := ?_) rfl (by kernel_rfl) (by kernel_rfl) (by kernel_rfl) (fun _ _ _ h => h) (Or.inl ⟨by rfl, ?_⟩) (by assumption) ?_
          rotate_left
          · intro w hSw; (try dsimp only at hSw); go_simp; try with_reducible rfl
          try simp only [Act.put, List.getElem_toArray, List.getElem_cons_zero, List.getElem_cons_succ, List.setIfInBounds_toArray, List.set_cons_zero, List.set_cons_succ]
          refine wpAnyH_done (by kernel_rfl) ?_ _
          have Hb7 := Lib.hid (Hb0.out.trans (hb7.mono Hb0.out.size))
          go_wp2_with fail
          go_ret
          exact ⟨ret_bool HF.out.symm, Hw0.out.trans (Hb7.out.mono Hw0.out.size)⟩
end Go.Proofs.YtfnpjdgjceiklaaGreatDoor
