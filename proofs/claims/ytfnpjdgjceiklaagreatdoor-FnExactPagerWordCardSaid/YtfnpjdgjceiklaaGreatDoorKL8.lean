/- Contracts: the law of PagerWord. (printed by kl6.py) -/
import Derived.Test.YtfnpjdgjceiklaaGreatDoorKL6
import Derived.Test.YtfnpjdgjceiklaaGreatDoorKW21
import Derived.Test.YtfnpjdgjceiklaaGreatDoorKI17
namespace Go.Proofs.YtfnpjdgjceiklaaGreatDoor
open Go.RowKit

set_option maxHeartbeats 4000000 in
theorem FnExactPagerWord_c (p : Kx.Pager) (ad : Int) (vm vi ve vc vs vl vp : Value) (w : World) (h : RWP w vm vi ve vc vs vl vp p) (hs : SaneK2 p.k) : Calls Tryz.prog 4 #[pagerV vm vi ve vc vs vl vp p.hand p.limit, .int .i64 ad] w (Yes w) := by
  obtain ⟨w0, hw0⟩ : ∃ w0, w.alloc (.cells #[vm, vi, ve, vc, vs, vl, vp, .int .i64 p.hand, .int .i64 p.limit] 31) = w0 := ⟨_, rfl⟩
  have Bw := Lib.hid (show Below w.heap.size w w0 from hw0 ▸ Below.lit (Below.refl _ _) _)
  have X0 := Lib.hid (show BX w0 w.heap.size 31 [vm, vi, ve, vc, vs, vl, vp, .int .i64 p.hand, .int .i64 p.limit] from hw0 ▸ BX.new w _ _)
  have H := Lib.hid h; have Hs := Lib.hid hs
  clear h hs
  have HC := Lib.hid (show Calls Tryz.prog 7 #[.agg #[vm, vi, ve, vc, vs, vl, vp, .int .i64 p.hand, .int .i64 p.limit], .int .i64 (1048576 : Nat)] w0 (Sz 1048576 (tPager p) w0) from szPager_c p vm vi ve vc vs vl vp w0 (H.out.below Bw.out) Hs.out 1048576 (Nat.le_refl _))
  have HC := Lib.hid (show Calls Tryz.prog 7 #[.agg #[vm, vi, ve, vc, vs, vl, vp, .int .i64 p.hand, .int .i64 p.limit], .int .i64 1048576] w0 (Sz 1048576 (tPager p) w0) from HC.out)
  have p0 : w0.cell? ⟨w.heap.size, 0, none⟩ = some (vm) := X0.out.cell 0
  have p1 : w0.cell? ⟨w.heap.size, 1, none⟩ = some (vi) := X0.out.cell 1
  have p2 : w0.cell? ⟨w.heap.size, 2, none⟩ = some (ve) := X0.out.cell 2
  have p3 : w0.cell? ⟨w.heap.size, 3, none⟩ = some (vc) := X0.out.cell 3
  have p4 : w0.cell? ⟨w.heap.size, 4, none⟩ = some (vs) := X0.out.cell 4
  have p5 : w0.cell? ⟨w.heap.size, 5, none⟩ = some (vl) := X0.out.cell 5
  have p6 : w0.cell? ⟨w.heap.size, 6, none⟩ = some (vp) := X0.out.cell 6
  have p7 : w0.cell? ⟨w.heap.size, 7, none⟩ = some (.int .i64 p.hand) := X0.out.cell 7
  have p8 : w0.cell? ⟨w.heap.size, 8, none⟩ = some (.int .i64 p.limit) := X0.out.cell 8
  unfold pagerV
  go_enter Tryz.func4, Tryz.ntmps4
  go_wp2_with fail
  clear p0 p1 p2 p3 p4 p5 p6 p7 p8
  refine HC.out.mono ?_; rintro e w1 ⟨rfl, hb⟩
  clear HC
  replace X0 := Lib.hid (X0.out.below hb)
  replace Bw := Lib.hid (Bw.out.trans (hb.mono Bw.out.size))
  clear hb
  by_cases hlt : 1048576 < tPager p
  · rw [szR_no hlt]
    clear hlt
    go_wp2_with fail
    go_ret
    exact ⟨rfl, Bw.out⟩
  · rw [szR_yes (by omega)]
    obtain ⟨hr, hn, hn5, hn6⟩ := H.out.rp (by omega)
    have HR := Lib.hid hr; have HN := Lib.hid hn; have Hn5 := Lib.hid hn5; have Hn6 := Lib.hid hn6; have Hsk := Lib.hid Hs.out.sane
    have hc0 : ¬ ((1048576 - tPager p : Nat) : Int) < 0 := by omega
    generalize 1048576 - tPager p = left at hc0 ⊢
    clear hr hn hn5 hn6 hlt H Hs
    have p0 : w1.cell? ⟨w.heap.size, 0, none⟩ = some (vm) := X0.out.cell 0
    have p1 : w1.cell? ⟨w.heap.size, 1, none⟩ = some (vi) := X0.out.cell 1
    have p2 : w1.cell? ⟨w.heap.size, 2, none⟩ = some (ve) := X0.out.cell 2
    have p3 : w1.cell? ⟨w.heap.size, 3, none⟩ = some (vc) := X0.out.cell 3
    have p4 : w1.cell? ⟨w.heap.size, 4, none⟩ = some (vs) := X0.out.cell 4
    have p5 : w1.cell? ⟨w.heap.size, 5, none⟩ = some (vl) := X0.out.cell 5
    have p6 : w1.cell? ⟨w.heap.size, 6, none⟩ = some (vp) := X0.out.cell 6
    have p7 : w1.cell? ⟨w.heap.size, 7, none⟩ = some (.int .i64 p.hand) := X0.out.cell 7
    have p8 : w1.cell? ⟨w.heap.size, 8, none⟩ = some (.int .i64 p.limit) := X0.out.cell 8
    have HC := Lib.hid (toPager_c p vm vi ve vc vs vl vp p.hand p.limit w1 (HR.out.below Bw.out) HN.out.m HN.out.i HN.out.e HN.out.r HN.out.c Hn5.out Hn6.out)
    go_wp2_with fail
    clear p0 p1 p2 p3 p4 p5 p6 p7 p8 hc0
    refine HC.out.mono ?_; rintro e w2 ⟨um, ui, ue, uc, us, ul, up, rfl, ho, hb⟩
    clear HC
    replace X0 := Lib.hid (X0.out.below hb)
    replace Bw := Lib.hid (Bw.out.trans (hb.mono Bw.out.size))
    have HC := Lib.hid (show Calls Tryz.prog 12 #[.agg #[um, ui, ue, uc, us, ul, up, .int .i64 p.hand, .int .i64 p.limit], .int .i64 ad] w2 _ from specPagerWord_c p ad um ui ue uc us ul up w2 ho.rp Hsk.out)
    clear ho hb
    go_wp2_with fail
    refine HC.out.mono ?_; rintro e w3 ⟨rfl, hb⟩
    clear HC
    replace X0 := Lib.hid (X0.out.below hb)
    replace Bw := Lib.hid (Bw.out.trans (hb.mono Bw.out.size))
    clear hb
    have p0 : w3.cell? ⟨w.heap.size, 0, none⟩ = some (vm) := X0.out.cell 0
    have p1 : w3.cell? ⟨w.heap.size, 1, none⟩ = some (vi) := X0.out.cell 1
    have p2 : w3.cell? ⟨w.heap.size, 2, none⟩ = some (ve) := X0.out.cell 2
    have p3 : w3.cell? ⟨w.heap.size, 3, none⟩ = some (vc) := X0.out.cell 3
    have p4 : w3.cell? ⟨w.heap.size, 4, none⟩ = some (vs) := X0.out.cell 4
    have p5 : w3.cell? ⟨w.heap.size, 5, none⟩ = some (vl) := X0.out.cell 5
    have p6 : w3.cell? ⟨w.heap.size, 6, none⟩ = some (vp) := X0.out.cell 6
    have p7 : w3.cell? ⟨w.heap.size, 7, none⟩ = some (.int .i64 p.hand) := X0.out.cell 7
    have p8 : w3.cell? ⟨w.heap.size, 8, none⟩ = some (.int .i64 p.limit) := X0.out.cell 8
    have HC := Lib.hid (toPager_c p vm vi ve vc vs vl vp p.hand p.limit w3 (HR.out.below Bw.out) HN.out.m HN.out.i HN.out.e HN.out.r HN.out.c Hn5.out Hn6.out)
    go_wp2_with fail
    clear p0 p1 p2 p3 p4 p5 p6 p7 p8
    refine HC.out.mono ?_; rintro e w4 ⟨um, ui, ue, uc, us, ul, up, rfl, ho, hb⟩
    clear HC
    replace X0 := Lib.hid (X0.out.below hb)
    replace Bw := Lib.hid (Bw.out.trans (hb.mono Bw.out.size))
    obtain ⟨_, avm, cvm, rfl, _, _⟩ := ho.rp.k.m.len
    obtain ⟨avi, cvi, rfl, _, _⟩ := RS.val ho.rp.k.i
    obtain ⟨_, ave, cve, rfl, _, _⟩ := ho.rp.k.e.len
    obtain ⟨avc, cvc, rfl, _, _⟩ := RS.val ho.rp.k.c
    obtain ⟨_, avs, cvs, rfl, _, _⟩ := ho.rp.s.len
    obtain ⟨avl, cvl, rfl⟩ := ho.rp.l.val
    obtain ⟨avp, cvp, rfl, _, _⟩ := RS.val ho.rp.g
    have HO := Lib.hid ho.rp
    clear ho hb
    obtain ⟨w5, hw5⟩ : ∃ w5, w4.alloc (.cells #[.slice avm p.k.mem.length cvm, .slice avi p.k.infos.length cvi, .slice ave p.k.envs.length cve, .slice avc p.k.cache.length cvc, .slice avs p.swap.length cvs, .slice avl p.low.length cvl, .slice avp p.pages.length cvp, .int .i64 p.hand, .int .i64 p.limit] 41) = w5 := ⟨_, rfl⟩
    have s4 : w.heap.size < w4.heap.size := Nat.lt_of_lt_of_le X0.out.lt (Nat.le_refl _)
    have X1 := Lib.hid (show BX w5 w4.heap.size 41 [.slice avm p.k.mem.length cvm, .slice avi p.k.infos.length cvi, .slice ave p.k.envs.length cve, .slice avc p.k.cache.length cvc, .slice avs p.swap.length cvs, .slice avl p.low.length cvl, .slice avp p.pages.length cvp, .int .i64 p.hand, .int .i64 p.limit] from hw5 ▸ BX.new w4 _ _)
    have hb := Lib.hid (show Below w4.heap.size w4 w5 from hw5 ▸ Below.lit (Below.refl _ _) _)
    replace X0 := Lib.hid (X0.out.below hb.out)
    replace Bw := Lib.hid (Bw.out.trans (hb.out.mono Bw.out.size))
    replace HO := Lib.hid (HO.out.below hb.out)
    clear hb
    have HC := Lib.hid (show Calls Tryz.prog 13 #[.agg #[.slice avm p.k.mem.length cvm, .slice avi p.k.infos.length cvi, .slice ave p.k.envs.length cve, .slice avc p.k.cache.length cvc, .slice avs p.swap.length cvs, .slice avl p.low.length cvl, .slice avp p.pages.length cvp, .int .i64 p.hand, .int .i64 p.limit], .int .i64 ad] w5 _ from implPagerWord_c p ad _ _ _ _ _ _ _ w5 HO.out Hsk.out)
    have q0 : w5.cell? ⟨w4.heap.size, 0, none⟩ = some (.slice avm p.k.mem.length cvm) := X1.out.cell 0
    have q1 : w5.cell? ⟨w4.heap.size, 1, none⟩ = some (.slice avi p.k.infos.length cvi) := X1.out.cell 1
    have q2 : w5.cell? ⟨w4.heap.size, 2, none⟩ = some (.slice ave p.k.envs.length cve) := X1.out.cell 2
    have q3 : w5.cell? ⟨w4.heap.size, 3, none⟩ = some (.slice avc p.k.cache.length cvc) := X1.out.cell 3
    have q4 : w5.cell? ⟨w4.heap.size, 4, none⟩ = some (.slice avs p.swap.length cvs) := X1.out.cell 4
    have q5 : w5.cell? ⟨w4.heap.size, 5, none⟩ = some (.slice avl p.low.length cvl) := X1.out.cell 5
    have q6 : w5.cell? ⟨w4.heap.size, 6, none⟩ = some (.slice avp p.pages.length cvp) := X1.out.cell 6
    have q7 : w5.cell? ⟨w4.heap.size, 7, none⟩ = some (.int .i64 p.hand) := X1.out.cell 7
    have q8 : w5.cell? ⟨w4.heap.size, 8, none⟩ = some (.int .i64 p.limit) := X1.out.cell 8
    go_wp2_with fail
    clear q0 q1 q2 q3 q4 q5 q6 q7 q8
    refine HC.out.mono ?_; rintro e w6 ⟨rfl, hb⟩
    clear HC
    replace X0 := Lib.hid (X0.out.below hb)
    replace X1 := Lib.hid (X1.out.below hb)
    replace Bw := Lib.hid (Bw.out.trans (hb.mono Bw.out.size))
    replace HO := Lib.hid (HO.out.below hb)
    clear hb
    have Hcl := Lib.hid (show ∀ wz, Below w6.heap.size w6 wz → (wz.cell? ⟨w4.heap.size, 0, none⟩ = some (.slice avm p.k.mem.length cvm) ∧ wz.cell? ⟨w4.heap.size, 1, none⟩ = some (.slice avi p.k.infos.length cvi) ∧ wz.cell? ⟨w4.heap.size, 2, none⟩ = some (.slice ave p.k.envs.length cve) ∧ wz.cell? ⟨w4.heap.size, 3, none⟩ = some (.slice avc p.k.cache.length cvc) ∧ wz.cell? ⟨w4.heap.size, 4, none⟩ = some (.slice avs p.swap.length cvs) ∧ wz.cell? ⟨w4.heap.size, 5, none⟩ = some (.slice avl p.low.length cvl) ∧ wz.cell? ⟨w4.heap.size, 6, none⟩ = some (.slice avp p.pages.length cvp) ∧ wz.cell? ⟨w4.heap.size, 7, none⟩ = some (.int .i64 p.hand) ∧ wz.cell? ⟨w4.heap.size, 8, none⟩ = some (.int .i64 p.limit) ∧ wz.cell? ⟨w.heap.size, 0, none⟩ = some (vm) ∧ wz.cell? ⟨w.heap.size, 1, none⟩ = some (vi) ∧ wz.cell? ⟨w.heap.size, 2, none⟩ = some (ve) ∧ wz.cell? ⟨w.heap.size, 3, none⟩ = some (vc) ∧ wz.cell? ⟨w.heap.size, 4, none⟩ = some (vs) ∧ wz.cell? ⟨w.heap.size, 5, none⟩ = some (vl) ∧ wz.cell? ⟨w.heap.size, 6, none⟩ = some (vp) ∧ wz.cell? ⟨w.heap.size, 7, none⟩ = some (.int .i64 p.hand) ∧ wz.cell? ⟨w.heap.size, 8, none⟩ = some (.int .i64 p.limit)) from fun wz hz => by have X0z := X0.out.below hz; have X1z := X1.out.below hz; exact ⟨X1z.cell 0, X1z.cell 1, X1z.cell 2, X1z.cell 3, X1z.cell 4, X1z.cell 5, X1z.cell 6, X1z.cell 7, X1z.cell 8, X0z.cell 0, X0z.cell 1, X0z.cell 2, X0z.cell 3, X0z.cell 4, X0z.cell 5, X0z.cell 6, X0z.cell 7, X0z.cell 8⟩)
    have S1 := Hcl.out w6 (Below.refl _ _)
    have Bd := Lib.hid (Below.drewB (Below.refl w6.heap.size w6))
    have HC := Lib.hid (toPager_c p vm vi ve vc vs vl vp p.hand p.limit w6.drew ((HR.out.below Bw.out).below Bd.out) HN.out.m HN.out.i HN.out.e HN.out.r HN.out.c Hn5.out Hn6.out)
    clear X0 X1
    go_wp2_with fail
    refine wp_region_held_drew (S := (fun wz => wz.cell? ⟨w4.heap.size, 0, none⟩ = some (.slice avm p.k.mem.length cvm) ∧ wz.cell? ⟨w4.heap.size, 1, none⟩ = some (.slice avi p.k.infos.length cvi) ∧ wz.cell? ⟨w4.heap.size, 2, none⟩ = some (.slice ave p.k.envs.length cve) ∧ wz.cell? ⟨w4.heap.size, 3, none⟩ = some (.slice avc p.k.cache.length cvc) ∧ wz.cell? ⟨w4.heap.size, 4, none⟩ = some (.slice avs p.swap.length cvs) ∧ wz.cell? ⟨w4.heap.size, 5, none⟩ = some (.slice avl p.low.length cvl) ∧ wz.cell? ⟨w4.heap.size, 6, none⟩ = some (.slice avp p.pages.length cvp) ∧ wz.cell? ⟨w4.heap.size, 7, none⟩ = some (.int .i64 p.hand) ∧ wz.cell? ⟨w4.heap.size, 8, none⟩ = some (.int .i64 p.limit) ∧ wz.cell? ⟨w.heap.size, 0, none⟩ = some (vm) ∧ wz.cell? ⟨w.heap.size, 1, none⟩ = some (vi) ∧ wz.cell? ⟨w.heap.size, 2, none⟩ = some (ve) ∧ wz.cell? ⟨w.heap.size, 3, none⟩ = some (vc) ∧ wz.cell? ⟨w.heap.size, 4, none⟩ = some (vs) ∧ wz.cell? ⟨w.heap.size, 5, none⟩ = some (vl) ∧ wz.cell? ⟨w.heap.size, 6, none⟩ = some (vp) ∧ wz.cell? ⟨w.heap.size, 7, none⟩ = some (.int .i64 p.hand) ∧ wz.cell? ⟨w.heap.size, 8, none⟩ = some (.int .i64 p.limit))) (by kernel_rfl) (by first | assumption | go_keep) (fun hHeld => ?_)
    refine wpAnyH_take (i := 0) (v := ?_) rfl (by kernel_rfl) (by kernel_rfl) (by kernel_rfl) (fun _ _ _ h => h) (Or.inl ⟨by rfl, ?_⟩) (by assumption) ?_
    rotate_left
    · intro w hSw; (try dsimp only at hSw); go_simp; try with_reducible rfl
    try simp only [Act.put, List.getElem_toArray, List.getElem_cons_zero, List.setIfInBounds_toArray, List.set_cons_zero, List.set_cons_succ]
    refine wpAnyH_take (i := 1) (v := ?_) rfl (by kernel_rfl) (by kernel_rfl) (by kernel_rfl) (fun _ _ _ h => h) (Or.inl ⟨by rfl, ?_⟩) (by assumption) ?_
    rotate_left
    · intro w hSw; (try dsimp only at hSw); go_simp; try with_reducible rfl
    try simp only [Act.put, List.getElem_toArray, List.getElem_cons_zero, List.getElem_cons_succ, List.setIfInBounds_toArray, List.set_cons_zero, List.set_cons_succ]
    refine wpAnyH_ready (rs := [2]) (by kernel_rfl) (by simp) ?_
    refine AllReadyH.cons rfl (fun K hK => ?_) AllReadyH.nil
    (rw [if_pos (by rfl)]; go_simp; go_at_call 9; refine HC.out.mono ?_; rintro e w7 ⟨um, ui, ue, uc, us, ul, up, rfl, ho, hb⟩; have hb7 := Below.undrew hb; have S2 := Hcl.out w7 hb7; have HE := Lib.hid (eqPager_c p _ _ _ _ _ _ _ um ui ue uc us ul up p.hand p.limit w7 (HO.out.below hb7) ho.rp); clear ho hb HC; go_wp2_with fail)
    refine hK.out _ _ ?_ (fun hHeld => ?_)
    · first | assumption | go_keep
    clear hK K
    try simp only [Act.put, List.getElem_toArray, List.getElem_cons_zero, List.getElem_cons_succ, List.setIfInBounds_toArray, List.set_cons_zero, List.set_cons_succ]
    refine wpAnyH_ready (rs := [3]) (by kernel_rfl) (by simp) ?_
    refine AllReadyH.cons rfl (fun K hK => ?_) AllReadyH.nil
    (rw [if_pos (by rfl)]; go_simp; go_at_call 11; refine HE.out.mono ?_; rintro e w8 ⟨rfl, hb8⟩; have hb9 := hb7.trans (hb8.mono hb7.size); have S3 := Hcl.out w8 hb9; clear HE; go_wp2_with fail)
    refine hK.out _ _ ?_ (fun hHeld => ?_)
    · first | assumption | go_keep
    clear hK K
    try simp only [Act.put, List.getElem_toArray, List.getElem_cons_zero, List.getElem_cons_succ, List.setIfInBounds_toArray, List.set_cons_zero, List.set_cons_succ]
    refine wpAnyH_take (i := 4) (v := ?_) rfl (by kernel_rfl) (by kernel_rfl) (by kernel_rfl) (fun _ _ _ h => h) (Or.inl ⟨by rfl, ?_⟩) (by assumption) ?_
    rotate_left
    · intro w hSw; (try dsimp only at hSw); go_simp; try with_reducible rfl
    try simp only [Act.put, List.getElem_toArray, List.getElem_cons_zero, List.getElem_cons_succ, List.setIfInBounds_toArray, List.set_cons_zero, List.set_cons_succ]
    refine wpAnyH_done (by kernel_rfl) ?_ _
    go_wp2_with fail
    go_ret
    exact ⟨rfl, Bw.out.trans (hb9.mono Bw.out.size)⟩
end Go.Proofs.YtfnpjdgjceiklaaGreatDoor
