/- Contracts: the impl's side: PagerValid. (printed by ki16.py) -/
import Derived.Test.YtfnpjdgjceiklaaGreatDoorKI12
import Derived.Test.YtfnpjdgjceiklaaGreatDoorKI14
import Derived.Test.YtfnpjdgjceiklaaGreatDoorKI15
namespace Go.Proofs.YtfnpjdgjceiklaaGreatDoor
open Go.RowKit

theorem pageOk_pI (p : Kx.Pager) (n : Nat) : Kx.pageOk p n = (pI p n && (if (Kx.pageAt p.pages n).wh = 2 then !(Kx.row p.swap (Kx.pageAt p.pages n).at_.toNat).isEmpty else true)) := by
  rw [pageOk_eq, pI_eq]
  unfold mine
  by_cases h0 : (Kx.pageAt p.pages n).wh = 0
  · rw [if_pos h0, if_pos h0, if_neg (by omega), Bool.and_true]
  · rw [if_neg h0, if_neg h0]
    by_cases h1 : (Kx.pageAt p.pages n).wh = 1
    · rw [if_pos h1, if_pos h1, if_neg (by omega), Bool.and_true]; simp only [Bool.and_assoc]
    · rw [if_neg h1, if_neg h1]
      by_cases h2 : (Kx.pageAt p.pages n).wh = 2
      · rw [if_pos h2, if_pos h2, if_pos h2]
        generalize Kx.inR (Kx.pageAt p.pages n).at_ 0 15 = a
        generalize (Kx.row p.swap (Kx.pageAt p.pages n).at_.toNat).isEmpty = b
        generalize (Kx.pageAt p.pages n).used = c
        generalize (Kx.word p.k.mem (p.low.getD (n / 4) 0).toNat (n % 4) == 0) = d
        cases a <;> cases b <;> cases c <;> cases d <;> rfl
      · rw [if_neg h2, if_neg h2, if_neg h2]; rfl
/-- the i-th environment may reach the pager's frames just where it is the first one -/
def cE (k : Kx.Kernel) (i : Nat) : Bool := Kx.may (Kx.envAt k.envs i).rights Kx.sA == (i == 0)
theorem alone_cE {k : Kx.Kernel} (h : k.envs.length = 3) : Kx.alone k = (cE k 0 && cE k 1 && cE k 2) := by
  rw [alone_all h]
  unfold aOk cE
  generalize Kx.may (Kx.envAt k.envs 0).rights Kx.sA = a
  generalize Kx.may (Kx.envAt k.envs 1).rights Kx.sA = b
  generalize Kx.may (Kx.envAt k.envs 2).rights Kx.sA = c
  cases a <;> cases b <;> cases c <;> rfl
theorem slotN_pos {p : Kx.Pager} {n : Nat} (hn : n < p.pages.length) (hw : (Kx.pageAt p.pages n).wh = 2) (ha : 0 ≤ (Kx.pageAt p.pages n).at_) : 0 < Kx.slotN p (Kx.pageAt p.pages n).at_.toNat := by
  unfold Kx.slotN
  rw [List.countP_pos_iff]
  have e : Kx.pageAt p.pages n = p.pages[n] := by simp [Kx.pageAt, hn]
  refine ⟨p.pages[n], List.getElem_mem hn, ?_⟩
  rw [← e, hw, Int.toNat_of_nonneg ha]; simp
theorem pagerOk_eq (p : Kx.Pager) : Kx.pagerOk p = (Kx.kernelOk p.k && Kx.swapOk p.swap && Kx.alone p.k && Kx.tablesP p && p.pages.length == 16 && (List.range p.swap.length).all (slOk p) && (List.range 16).all (Kx.pageOk p) &&
    Kx.inR p.hand 0 15 && Kx.inR p.limit 1 6 && decide ((Kx.countP p 1 : Int) ≤ p.limit)) := by
  rw [← slOk_all]; rfl
theorem PF1 {p : Kx.Pager} (he : p.k.envs.length = 3) {i : Nat} (hi : i < 3) (h : cE p.k i = false) : Kx.pagerOk p = false := by
  have : Kx.alone p.k = false := by
    rw [alone_cE he]
    have : i = 0 ∨ i = 1 ∨ i = 2 := by omega
    rcases this with rfl | rfl | rfl <;> rw [h] <;> simp
  rw [pagerOk_eq, this]; simp
theorem PF2 {p : Kx.Pager} {n : Nat} (hn : n < 16) (h : pI p n = false) : Kx.pagerOk p = false := by
  have : (List.range 16).all (Kx.pageOk p) = false := by
    rw [List.all_eq_false]; exact ⟨n, by simpa using hn, by rw [pageOk_pI, h]; simp⟩
  rw [pagerOk_eq, this]; simp
theorem PF3 {p : Kx.Pager} {s : Nat} (hs : s < p.swap.length) (h : slOk p s = false) : Kx.pagerOk p = false := by
  have : (List.range p.swap.length).all (slOk p) = false := by
    rw [List.all_eq_false]; exact ⟨s, by simpa using hs, by rw [h]; simp⟩
  rw [pagerOk_eq, this]; simp
theorem PT {p : Kx.Pager} (h1 : Kx.kernelOk p.k = true) (h2 : Kx.swapOk p.swap = true) (h3 : p.pages.length = 16) (h4 : Kx.tablesP p = true) (h5 : ∀ i, i < 3 → cE p.k i = true) (h6 : ∀ n, n < 16 → pI p n = true) (h7 : ∀ s, s < 16 → slOk p s = true) :
    Kx.pagerOk p = (Kx.inR p.hand 0 15 && Kx.inR p.limit 1 6 && decide ((Kx.countP p 1 : Int) ≤ p.limit)) := by
  have hsl : p.swap.length = 16 := by unfold Kx.swapOk at h2; simp only [Bool.and_eq_true] at h2; simpa using h2.2
  have he := (kernelOk_parts h1).2.2.2.2.1
  have e1 : Kx.alone p.k = true := by rw [alone_cE he, h5 0 (by omega), h5 1 (by omega), h5 2 (by omega)]; rfl
  have e2 : (List.range p.swap.length).all (slOk p) = true := by rw [List.all_eq_true, hsl]; exact fun s hs => h7 s (by simpa using hs)
  have e3 : (List.range 16).all (Kx.pageOk p) = true := by
    rw [List.all_eq_true]
    intro n hn
    have hn : n < 16 := by simpa using hn
    rw [pageOk_pI, h6 n hn, Bool.true_and]
    split
    · rename_i hw
      have hp := h6 n hn
      rw [pI_eq, if_neg (by omega), if_neg (by omega), if_pos hw] at hp
      simp only [Bool.and_eq_true] at hp
      obtain ⟨a0, a15⟩ := Kx.inR_true.1 hp.1.1
      have hs := h7 (Kx.pageAt p.pages n).at_.toNat (by omega)
      have hpos := slotN_pos (by omega) hw a0
      unfold slOk at hs
      cases hq : (Kx.row p.swap (Kx.pageAt p.pages n).at_.toNat).isEmpty
      · rfl
      · rw [hq] at hs
        have : Kx.slotN p (Kx.pageAt p.pages n).at_.toNat = 0 := by simpa using hs
        omega
    · rfl
  rw [pagerOk_eq, h1, h2, e1, h4, e2, e3, show (p.pages.length == 16) = true from by simpa using h3]; simp only [Bool.true_and]
set_option maxRecDepth 100000 in
set_option maxHeartbeats 8000000 in
theorem implPagerValid_c (p : Kx.Pager) (vm vi ve vc vs vl vp : Value) (w : World) (h : RP w vm vi ve vc vs vl vp p) (hs : SaneK p.k) :
    Calls Tryz.prog 10 #[pagerV vm vi ve vc vs vl vp p.hand p.limit] w fun e w' => e = .returned (.bool (Kx.pagerOk p)) ∧ Below w.heap.size w w' := by
  obtain ⟨hand, hhand⟩ : ∃ x, p.hand = x := ⟨_, rfl⟩
  obtain ⟨limit, hlim⟩ : ∃ x, p.limit = x := ⟨_, rfl⟩
  have Hhand := Lib.hid hhand; have Hlim := Lib.hid hlim
  rw [hhand, hlim]
  clear hhand hlim
  obtain ⟨w0, hw0⟩ : ∃ w0, w.alloc (.cells #[vm, vi, ve, vc, vs, vl, vp, .int .i64 hand, .int .i64 limit] 41) = w0 := ⟨_, rfl⟩
  have Hw0 := Lib.hid (show Below w.heap.size w w0 from hw0 ▸ (Below.refl w.heap.size w).alloc (Nat.le_refl _) _)
  have Hbx := Lib.hid (show BoxP w0 w.heap.size vm vi ve vc vs vl vp hand limit from hw0 ▸ BoxP.new w vm vi ve vc vs vl vp hand limit _)
  have HP := Lib.hid (h.below Hw0.out)
  have Hs := Lib.hid hs
  have HV := Lib.hid (pagerOk_eq p)
  obtain ⟨ap, cp, rfl, _, _⟩ := RS.val h.g
  obtain ⟨_, ae, ce, rfl, _, _⟩ := h.k.e.len
  obtain ⟨_, as0, cs0, rfl, _, _⟩ := h.s.len
  have hpl0 := h.g.1
  obtain ⟨⟨k0, k1, k2, k3⟩, ⟨k4, k5, k6, k7, k8⟩, hbl⟩ := Hbx.out
  clear h hs hbl
  unfold pagerV
  go_enter Tryz.func10, Tryz.ntmps10
  go_wp2_with fail
  clear hw0
  refine (implKernelValid_c p.k _ _ _ _ _ HP.out.k Hs.out).mono ?_; rintro e w1 ⟨rfl, hb1⟩
  have B1 := Lib.hid hb1; clear hb1
  obtain ⟨⟨a0, a1, a2, a3⟩, ⟨a4, a5, a6, a7, a8⟩, _⟩ := Hbx.out.below B1.out
  clear k0 k1 k2 k3 k4 k5 k6 k7 k8
  cases hm : Kx.kernelOk p.k
  · have HF := Lib.hid (show Kx.pagerOk p = false by rw [HV.out, hm]; rfl)
    clear hm HV
    go_wp2_with fail
    go_ret
    exact ⟨ret_bool HF.out.symm, Hw0.out.trans (B1.out.mono Hw0.out.size)⟩
  have Hm := Lib.hid hm; clear hm
  go_wp2_with fail
  refine (implSwapValid_c p.swap _ _ (HP.out.s.below B1.out)).mono ?_; rintro e w2 ⟨rfl, hb2⟩
  have B2 := Lib.hid (B1.out.trans (hb2.mono B1.out.size)); clear hb2
  obtain ⟨⟨k0, k1, k2, k3⟩, ⟨k4, k5, k6, k7, k8⟩, _⟩ := Hbx.out.below B2.out
  clear a0 a1 a2 a3 a4 a5 a6 a7 a8
  cases hm : Kx.swapOk p.swap
  · have HF := Lib.hid (show Kx.pagerOk p = false by rw [HV.out, hm]; simp)
    clear hm HV
    go_wp2_with fail
    go_ret
    exact ⟨ret_bool HF.out.symm, Hw0.out.trans (B2.out.mono Hw0.out.size)⟩
  have Hsw := Lib.hid hm; clear hm
  by_cases h16 : p.pages.length = 16
  case neg =>
    have HF := Lib.hid (show Kx.pagerOk p = false by rw [HV.out, show (p.pages.length == 16) = false from by simpa using h16]; simp)
    have hne : ((p.pages.length : Int) != 16) = true := by rw [bne_iff_ne]; omega
    clear HV h16
    go_wp2_with fail
    go_ret
    exact ⟨ret_bool HF.out.symm, Hw0.out.trans (B2.out.mono Hw0.out.size)⟩
  have hne : ((p.pages.length : Int) != 16) = false := by rw [bne_eq_false_iff_eq]; omega
  have Hpl := Lib.hid h16; clear h16
  go_wp2_with fail
  refine (tablesOk_c p w.heap.size _ _ _ _ _ _ _ hand limit w2 (HP.out.below B2.out) (Hbx.out.below B2.out) Hm.out).mono ?_; rintro e w3 ⟨rfl, hb3⟩
  have B3 := Lib.hid (B2.out.trans (hb3.mono B2.out.size)); clear hb3
  obtain ⟨⟨a0, a1, a2, a3⟩, ⟨a4, a5, a6, a7, a8⟩, _⟩ := Hbx.out.below B3.out
  clear k0 k1 k2 k3 k4 k5 k6 k7 k8
  cases hm : Kx.tablesP p
  · have HF := Lib.hid (show Kx.pagerOk p = false by rw [HV.out, hm]; simp)
    clear hm HV
    go_wp2_with fail
    go_ret
    exact ⟨ret_bool HF.out.symm, Hw0.out.trans (B3.out.mono Hw0.out.size)⟩
  have Ht := Lib.hid hm; clear hm
  obtain ⟨hmo, hio, h12, hco, hen, hro⟩ := kernelOk_parts Hm.out
  have Hmo := Lib.hid hmo; have Hio := Lib.hid hio; have Hen := Lib.hid hen
  have Hll := Lib.hid (show p.low.length = 4 ∧ ∀ i, i < 4 → 0 ≤ p.low.getD i 0 ∧ p.low.getD i 0 ≤ 11 by
    have := Ht.out
    rw [tablesP_eq] at this
    simp only [Bool.and_eq_true, List.all_eq_true] at this
    refine ⟨by simpa using this.1.1.2, fun i hi => ?_⟩
    have h2 := this.2 i (by simpa using hi)
    rw [lowOk_mine] at h2
    simp only [Bool.and_eq_true] at h2
    exact Kx.inR_true.1 h2.1.1)
  have Hsl := Lib.hid (show p.swap.length = 16 by have := Hsw.out; unfold Kx.swapOk at this; simp only [Bool.and_eq_true] at this; simpa using this.2)
  clear hmo hio h12 hco hen hro HV
  go_wp2_with fail
  go_loopw [33] (fun i wr => ∃ q : Nat, i = .int .i64 q ∧ q ≤ p.k.envs.length ∧ Hid (∀ j, j < q → cE p.k j = true) ∧ Hid (Below w0.heap.size w0 wr)) (fun i _ => p.k.envs.length - (intOf i).toNat)
  case atStart => exact ⟨0, rfl, Nat.zero_le _, fun j hj => absurd hj (Nat.not_lt_zero _), B3.out⟩
  case round =>
    clear a0 a1 a2 a3 a4 a5 a6 a7 a8 B3 B2 B1
    obtain ⟨q, rfl, hq, hall, hb⟩ := hrel
    by_cases hlt : q < p.k.envs.length
    · obtain ⟨b, off, cap, u, ev, hbb, h1, h2, hR⟩ := (HP.out.k.e.below hb.out).at hlt
      simp only [Value.slice.injEq] at ev
      obtain ⟨rfl, _, rfl⟩ := ev
      have hlI : (q : Int) < (p.k.envs.length : Int) := by omega
      have hq3 : q < 3 := by have := Hen.out; omega
      have HB := Lib.hid (show cE p.k q = false → Kx.pagerOk p = false from fun h => PF1 Hen.out hq3 h)
      have HN := Lib.hid (show cE p.k q = true → ∀ j, j < q + 1 → cE p.k j = true from fun h => scan_step hall.out h)
      have Hok := Lib.hid (show cE p.k q = (Kx.may (Kx.envAt p.k.envs q).rights Kx.sA == (q == 0)) from rfl)
      have HR := Lib.hid hR; clear hR
      generalize (Kx.envAt p.k.envs q).root = r at h2
      generalize (Kx.envAt p.k.envs q).rights = l at HR Hok
      obtain ⟨W1, hW1⟩ : ∃ W1, wr.alloc (.cells #[u, .int .i64 r] 82) = W1 := ⟨_, rfl⟩
      have B1 := Lib.hid (show Below wr.heap.size wr W1 from hW1 ▸ Below.lit (Below.refl _ _) _)
      obtain ⟨c0, c1, _⟩ := (show W1.cell? ⟨wr.heap.size, 0, none⟩ = some u ∧ W1.cell? ⟨wr.heap.size, 1, none⟩ = some (.int .i64 r) ∧ wr.heap.size < W1.heap.size from hW1 ▸ Box2.new wr u (.int .i64 r) 82)
      have B01 := Lib.hid (hb.out.trans (B1.out.mono hb.out.size))
      have HM := Lib.hid (implMay_c l Kx.sA u W1 (RS.below HR.out B1.out))
      unfold Kx.sA at HM
      obtain ⟨x, y, hx, _, _⟩ := RS.val HR.out
      subst hx
      have hqz : ((q : Int) == 0) = (q == 0) := by rw [Bool.eq_iff_iff]; simp
      generalize hz : (q == 0) = z at hqz Hok
      have hm0 : Kx.may l ⟨#[97]⟩ = Kx.may l Kx.sA := rfl
      rw [hm0] at HM
      clear hm0 hz
      generalize Kx.may l Kx.sA = my at HM Hok
      cases hc : (my == z) with
      | false =>
        have HF := Lib.hid (HB.out (by rw [Hok.out, hc]))
        have hcn : (my != z) = true := by cases my <;> cases z <;> simp_all
        have hcm : (!my == z) = true := by cases my <;> cases z <;> simp_all
        clear HB HN Hok hc
        go_wp2_with fail
        refine HM.out.mono ?_; rintro e w4 ⟨rfl, hb4⟩
        have B4 := Lib.hid (B01.out.trans (hb4.mono B01.out.size)); clear hb4
        go_wp2_with fail
        go_ret
        exact ⟨ret_bool HF.out.symm, Hw0.out.trans (B4.out.mono Hw0.out.size)⟩
      | true =>
        have HN2 := Lib.hid (HN.out (by rw [Hok.out, hc]))
        have hcn : (my != z) = false := by cases my <;> cases z <;> simp_all
        have hcm : (!my == z) = false := by cases my <;> cases z <;> simp_all
        clear HB HN Hok hc
        go_wp2_with fail
        refine HM.out.mono ?_; rintro e w4 ⟨rfl, hb4⟩
        have B4 := Lib.hid (B01.out.trans (hb4.mono B01.out.size)); clear hb4
        go_wp2_with fail
        go_roundw
        case rel => exact ⟨q + 1, by go_num, by omega, HN2.out, B4.out⟩
        case measure => simp [intOf]; omega
    · have HE := Lib.hid (show ∀ i, i < 3 → cE p.k i = true from fun i hi => hall.out i (by have := Hen.out; omega))
      obtain ⟨⟨a0, a1, a2, a3⟩, ⟨a4, a5, a6, a7, a8⟩, _⟩ := Hbx.out.below hb.out
      have hmk : ∀ w : World, (Instr.makeSlice 28 (.int .i64 16) (.int .i64 16)).run Tryz.prog w = .ok (.slice (some ⟨w.heap.size, 0, none⟩) 16 16) (w.alloc (.cells #[.int .i64 0, .int .i64 0, .int .i64 0, .int .i64 0, .int .i64 0, .int .i64 0, .int .i64 0, .int .i64 0, .int .i64 0, .int .i64 0, .int .i64 0, .int .i64 0, .int .i64 0, .int .i64 0, .int .i64 0, .int .i64 0] 3)) := fun _ => by kernel_rfl
      obtain ⟨g, hg⟩ : ∃ g, wr.heap.size = g := ⟨_, rfl⟩
      obtain ⟨W2, hW2⟩ : ∃ W2, wr.alloc (.cells #[.int .i64 0, .int .i64 0, .int .i64 0, .int .i64 0, .int .i64 0, .int .i64 0, .int .i64 0, .int .i64 0, .int .i64 0, .int .i64 0, .int .i64 0, .int .i64 0, .int .i64 0, .int .i64 0, .int .i64 0, .int .i64 0] 3) = W2 := ⟨_, rfl⟩
      have K0 := Lib.hid (show OS intC 1 3 W2 g (.slice (some ⟨g, 0, none⟩) 16 16) (tabN 16 fun s => cntS p s 0) from by
        rw [show (tabN 16 fun s => cntS p s 0) = [0, 0, 0, 0, 0, 0, 0, 0, 0, 0, 0, 0, 0, 0, 0, 0] from by rw [tabN_congr (F' := fun _ => 0) (fun s _ => cntS_zero p s)]; rfl, ← hW2, ← hg]
        exact OS.lit (l := [0, 0, 0, 0, 0, 0, 0, 0, 0, 0, 0, 0, 0, 0, 0, 0]) (Nat.le_refl _) _ rfl rfl (by simp))
      have Hg := Lib.hid (show w0.heap.size ≤ g by rw [← hg]; exact hb.out.size)
      have BW := Lib.hid (show Below w0.heap.size w0 W2 from hW2 ▸ hb.out.alloc hb.out.size _)
      have a6' := (Hbx.out.below BW.out).2.1.2.2.1
      clear hall
      go_wp2_with fail
      clear hmk hW2 hg
      go_loopw [49] (fun i wi => ∃ n : Nat, i = .int .i64 n ∧ n ≤ p.pages.length ∧ Hid (∀ j, j < n → pI p j = true) ∧ Hid (OS intC 1 3 wi g (.slice (some ⟨g, 0, none⟩) 16 16) (tabN 16 fun s => cntS p s n)) ∧ Hid (Below w0.heap.size w0 wi)) (fun i _ => p.pages.length - (intOf i).toNat)
      case atStart => exact ⟨0, rfl, Nat.zero_le _, fun j hj => absurd hj (Nat.not_lt_zero _), K0.out, BW.out⟩
      case round =>
        clear a0 a1 a2 a3 a4 a5 a6 a7 a8 a6' K0 BW hb
        obtain ⟨n, rfl, hn, hall, hk, hb⟩ := hrel
        by_cases hlt : n < p.pages.length
        · have hn16 : n < 16 := by have := Hpl.out; omega
          have hlI : (n : Int) < (p.pages.length : Int) := by omega
          have HC := Lib.hid (pageOkI_c p n w.heap.size g g 16 _ _ _ _ _ _ _ hand limit wr (HP.out.below hb.out) (Hbx.out.below hb.out) Hmo.out Hio.out Hpl.out Hll.out.1 Hll.out.2 hn16 hk.out)
          go_wp2_with fail
          refine HC.out.mono ?_; rintro e w4 ⟨rfl, hgr, hk4⟩
          have B4 := Lib.hid (hb.out.grown hgr hb.out.size (fun j hj => by cases hj; exact Hg.out))
          have Hk4 := Lib.hid hk4
          clear hgr hk4 HC
          cases hp : pI p n with
          | false =>
            have HF := Lib.hid (PF2 hn16 hp)
            clear hp
            go_wp2_with fail
            go_ret
            exact ⟨ret_bool HF.out.symm, Hw0.out.trans (B4.out.mono Hw0.out.size)⟩
          | true =>
            have HN2 := Lib.hid (scan_step (P := fun j => pI p j) hall.out hp)
            have Hk5 := Lib.hid (Hk4.out hp)
            clear hp
            go_wp2_with fail
            go_roundw
            case rel => exact ⟨n + 1, by go_num, by omega, HN2.out, Hk5.out, B4.out⟩
            case measure => simp [intOf]; omega
        · have HI := Lib.hid (show ∀ n, n < 16 → pI p n = true from fun i hi => hall.out i (by have := Hpl.out; omega))
          have hk16 : n = 16 := by have := Hpl.out; omega
          have K16 := Lib.hid (show OS intC 1 3 wr g (.slice (some ⟨g, 0, none⟩) 16 16) (tabN 16 fun s => Kx.slotN p s) from by
            have h9 := hk.out
            rw [show (tabN 16 fun s => cntS p s n) = tabN 16 fun s => Kx.slotN p s from tabN_congr fun s _ => by rw [hk16, ← Hpl.out, cntS_all]] at h9
            exact h9)
          obtain ⟨⟨a0, a1, a2, a3⟩, ⟨a4, a5, a6, a7, a8⟩, _⟩ := Hbx.out.below hb.out
          clear hall hk hk16
          go_wp2_with fail
          go_loopw [59] (fun i wi => ∃ s : Nat, i = .int .i64 s ∧ s ≤ 16 ∧ Hid (∀ j, j < s → slOk p j = true) ∧ Hid (wi = wr)) (fun i _ => 16 - (intOf i).toNat)
          case atStart => exact ⟨0, rfl, Nat.zero_le _, fun j hj => absurd hj (Nat.not_lt_zero _), rfl⟩
          case round =>
            obtain ⟨s, rfl, hs, hall, hwq⟩ := hrel
            obtain rfl := hwq.out
            by_cases hlt : s < 16
            · have hsI : (s : Int) < 16 := by omega
              obtain ⟨b6, cap6, e, _, hcg, _⟩ := K16.out.oi.at (k := s) (by rw [tabN_length]; exact hlt)
              simp only [Value.slice.injEq, Option.some.injEq, Addr.mk.injEq] at e
              obtain ⟨⟨rfl, _, _⟩, he12, rfl⟩ := e
              clear he12
              rw [tabN_get] at hcg
              have hss : s < p.swap.length := by rw [Hsl.out]; exact hlt
              have hssI : (s : Int) < (p.swap.length : Int) := by omega
              obtain ⟨b7, off7, cap7, u7, e, _, hc7, hr7⟩ := (HP.out.s.below hb.out).at hss
              simp only [Value.slice.injEq] at e
              obtain ⟨rfl, _, rfl⟩ := e
              obtain ⟨a9, c9, rfl⟩ := hr7.val
              have hrl := hr7.1
              have HB := Lib.hid (show slOk p s = false → Kx.pagerOk p = false from fun h => PF3 hss h)
              have HN := Lib.hid (show slOk p s = true → ∀ j, j < s + 1 → slOk p j = true from fun h => scan_step hall.out h)
              have Hok := Lib.hid (show slOk p s = (Kx.slotN p s == if (Kx.row p.swap s).isEmpty then 0 else 1) from rfl)
              clear hr7
              generalize Kx.slotN p s = n0 at hcg Hok
              generalize Kx.row p.swap s = ws at hc7 Hok hrl
              by_cases hws : ws = []
              · subst hws
                by_cases hn0 : n0 = 0
                · subst hn0
                  have HN2 := Lib.hid (HN.out (by rw [Hok.out]; rfl))
                  clear HB HN Hok
                  go_wp2_with fail
                  go_roundw
                  case rel => exact ⟨s + 1, by go_num, by omega, HN2.out, by first | exact rfl | exact Lib.hid trivial⟩
                  case measure => simp [intOf]; omega
                · have HF := Lib.hid (HB.out (by rw [Hok.out]; simpa using hn0))
                  have hne0 : ((n0 : Int) != 0) = true := by rw [bne_iff_ne]; omega
                  clear HB HN Hok hn0
                  go_wp2_with fail
                  go_ret
                  exact ⟨ret_bool HF.out.symm, Hw0.out.trans (hb.out.mono Hw0.out.size)⟩
              · have hpos : decide (0 < ws.length) = true := by simpa using List.length_pos_iff.2 hws
                have hz0 : ((ws.length : Int) == 0) = false := by rw [beq_eq_false_iff_ne]; have := List.length_pos_iff.2 hws; omega
                have hem : ws.isEmpty = false := by cases ws with | nil => exact absurd rfl hws | cons => rfl
                rw [hem] at Hok
                clear hws hem
                by_cases hn1 : n0 = 1
                · subst hn1
                  have HN2 := Lib.hid (HN.out (by rw [Hok.out]; rfl))
                  clear HB HN Hok
                  go_wp2_with fail
                  go_roundw
                  case rel => exact ⟨s + 1, by go_num, by omega, HN2.out, by first | exact rfl | exact Lib.hid trivial⟩
                  case measure => simp [intOf]; omega
                · have HF := Lib.hid (HB.out (by rw [Hok.out]; simpa using hn1))
                  have hne0 : ((n0 : Int) != 1) = true := by rw [bne_iff_ne]; omega
                  clear HB HN Hok hn1
                  go_wp2_with fail
                  go_ret
                  exact ⟨ret_bool HF.out.symm, Hw0.out.trans (hb.out.mono Hw0.out.size)⟩
            · have HV := Lib.hid (PT Hm.out Hsw.out Hpl.out Ht.out HE.out HI.out (fun j hj => hall.out j (by omega)))
              rw [Hhand.out, Hlim.out] at HV
              have HC := Lib.hid (show ∀ wz, Below wr.heap.size wr wz → Calls Tryz.prog 52 #[.pointer (some ⟨w.heap.size, 0, none⟩), .int .i64 1] wz fun e w' => e = .returned (.int .i64 (Kx.countP p 1)) ∧ Below wz.heap.size wz w' from fun wz hz =>
                implCount_c p 1 w.heap.size _ wz (RS.below HP.out.g (hb.out.trans (hz.mono hb.out.size))) (Hbx.out.below (hb.out.trans (hz.mono hb.out.size))).2.1.2.2.1)
              have Hbw := Lib.hid (Hbx.out.below hb.out).2.2
              generalize Kx.countP p 1 = cn at HV HC
              have Hcl := Lib.hid (show ∀ wz, Below wr.heap.size wr wz → (wz.cell? ⟨w.heap.size, 7, none⟩ = some (.int .i64 hand) ∧ wz.cell? ⟨w.heap.size, 8, none⟩ = some (.int .i64 limit)) from fun wz hz => ⟨(hz.cell (p := ⟨w.heap.size, 7, none⟩) Hbw.out).trans a7, (hz.cell (p := ⟨w.heap.size, 8, none⟩) Hbw.out).trans a8⟩)
              have S1 := Hcl.out wr (Below.refl _ _)
              clear a0 a1 a2 a3 a4 a5 a6 hall
              cases hh : Kx.inR hand 0 15 with
              | false =>
                have HF := Lib.hid (show Kx.pagerOk p = false by rw [HV.out, hh]; rfl)
                have Hh := Lib.hid hh
                clear hh HV
                go_wp2_with fail
                refine wp_region_held_drew (S := (fun wz => wz.cell? ⟨w.heap.size, 7, none⟩ = some (.int .i64 hand) ∧ wz.cell? ⟨w.heap.size, 8, none⟩ = some (.int .i64 limit))) (by kernel_rfl) (by first | assumption | go_keep) (fun hHeld => ?_)
                refine wpAnyH_take (i := 0) (v := ?_) rfl (by kernel_rfl) (by kernel_rfl) (by kernel_rfl) (fun _ _ _ h => h) (Or.inl ⟨by rfl, ?_⟩) (by assumption) ?_
                rotate_left
                · intro w hSw; (try dsimp only at hSw); go_simp; try with_reducible rfl
                try simp only [Act.put, List.getElem_toArray, List.getElem_cons_zero, List.setIfInBounds_toArray, List.set_cons_zero, List.set_cons_succ]
                refine wpAnyH_take (i := 1) (v := ?_) rfl (by kernel_rfl) (by kernel_rfl) (by kernel_rfl) (fun _ _ _ h => h) (Or.inl ⟨by rfl, ?_⟩) (by assumption) ?_
                rotate_left
                · intro w hSw; (try dsimp only at hSw); go_simp; try with_reducible rfl
                try simp only [Act.put, List.getElem_toArray, List.getElem_cons_zero, List.getElem_cons_succ, List.setIfInBounds_toArray, List.set_cons_zero, List.set_cons_succ]
                refine wpAnyH_ready (rs := [2]) (by kernel_rfl) (by simp) ?_
                refine AllReadyH.cons rfl (fun K hK => ?_) AllReadyH.nil
                (rw [if_pos (by rfl)]; go_simp; go_at_call 51; refine (withinK_c _ _ _ _).mono ?_; rintro e w' ⟨rfl, rfl⟩; rw [Hh.out]; go_wp2_with fail)
                refine hK.out _ _ ?_ (fun hHeld => ?_)
                · first | assumption | go_keep
                clear hK K
                try simp only [Act.put, List.getElem_toArray, List.getElem_cons_zero, List.getElem_cons_succ, List.setIfInBounds_toArray, List.set_cons_zero, List.set_cons_succ]
                refine wpAnyH_take (i := 3) (v := ?_) rfl (by kernel_rfl) (by kernel_rfl) (by kernel_rfl) (fun _ _ _ h => h) (Or.inl ⟨by rfl, ?_⟩) (by assumption) ?_
                rotate_left
                · intro w hSw; (try dsimp only at hSw); go_simp; try with_reducible rfl
                try simp only [Act.put, List.getElem_toArray, List.getElem_cons_zero, List.getElem_cons_succ, List.setIfInBounds_toArray, List.set_cons_zero, List.set_cons_succ]
                refine wpAnyH_take (i := 4) (v := undef) rfl (by kernel_rfl) (by kernel_rfl) (by kernel_rfl) (fun _ _ _ h => h) (Or.inr ⟨by rfl, rfl⟩) (by assumption) ?_
                try simp only [Act.put, List.getElem_toArray, List.getElem_cons_zero, List.getElem_cons_succ, List.setIfInBounds_toArray, List.set_cons_zero, List.set_cons_succ]
                refine wpAnyH_take (i := 5) (v := undef) rfl (by kernel_rfl) (by kernel_rfl) (by kernel_rfl) (fun _ _ _ h => h) (Or.inr ⟨by rfl, rfl⟩) (by assumption) ?_
                try simp only [Act.put, List.getElem_toArray, List.getElem_cons_zero, List.getElem_cons_succ, List.setIfInBounds_toArray, List.set_cons_zero, List.set_cons_succ]
                refine wpAnyH_take (i := 6) (v := undef) rfl (by kernel_rfl) (by kernel_rfl) (by kernel_rfl) (fun _ _ _ h => h) (Or.inr ⟨by rfl, rfl⟩) (by assumption) ?_
                try simp only [Act.put, List.getElem_toArray, List.getElem_cons_zero, List.getElem_cons_succ, List.setIfInBounds_toArray, List.set_cons_zero, List.set_cons_succ]
                refine wpAnyH_take (i := 7) (v := ?_) rfl (by kernel_rfl) (by kernel_rfl) (by kernel_rfl) (fun _ _ _ h => h) (Or.inl ⟨by rfl, ?_⟩) (by assumption) ?_
                rotate_left
                · intro w hSw; (try dsimp only at hSw); go_simp; try with_reducible rfl
                try simp only [Act.put, List.getElem_toArray, List.getElem_cons_zero, List.getElem_cons_succ, List.setIfInBounds_toArray, List.set_cons_zero, List.set_cons_succ]
                refine wpAnyH_take (i := 8) (v := ?_) rfl (by kernel_rfl) (by kernel_rfl) (by kernel_rfl) (fun _ _ _ h => h) (Or.inl ⟨by rfl, ?_⟩) (by assumption) ?_
                rotate_left
                · intro w hSw; (try dsimp only at hSw); go_simp; try with_reducible rfl
                try simp only [Act.put, List.getElem_toArray, List.getElem_cons_zero, List.getElem_cons_succ, List.setIfInBounds_toArray, List.set_cons_zero, List.set_cons_succ]
                refine wpAnyH_take (i := 9) (v := undef) rfl (by kernel_rfl) (by kernel_rfl) (by kernel_rfl) (fun _ _ _ h => h) (Or.inr ⟨by rfl, rfl⟩) (by assumption) ?_
                try simp only [Act.put, List.getElem_toArray, List.getElem_cons_zero, List.getElem_cons_succ, List.setIfInBounds_toArray, List.set_cons_zero, List.set_cons_succ]
                refine wpAnyH_take (i := 10) (v := undef) rfl (by kernel_rfl) (by kernel_rfl) (by kernel_rfl) (fun _ _ _ h => h) (Or.inr ⟨by rfl, rfl⟩) (by assumption) ?_
                try simp only [Act.put, List.getElem_toArray, List.getElem_cons_zero, List.getElem_cons_succ, List.setIfInBounds_toArray, List.set_cons_zero, List.set_cons_succ]
                refine wpAnyH_take (i := 11) (v := undef) rfl (by kernel_rfl) (by kernel_rfl) (by kernel_rfl) (fun _ _ _ h => h) (Or.inr ⟨by rfl, rfl⟩) (by assumption) ?_
                try simp only [Act.put, List.getElem_toArray, List.getElem_cons_zero, List.getElem_cons_succ, List.setIfInBounds_toArray, List.set_cons_zero, List.set_cons_succ]
                refine wpAnyH_take (i := 12) (v := undef) rfl (by kernel_rfl) (by kernel_rfl) (by kernel_rfl) (fun _ _ _ h => h) (Or.inr ⟨by rfl, rfl⟩) (by assumption) ?_
                try simp only [Act.put, List.getElem_toArray, List.getElem_cons_zero, List.getElem_cons_succ, List.setIfInBounds_toArray, List.set_cons_zero, List.set_cons_succ]
                refine wpAnyH_take (i := 13) (v := ?_) rfl (by kernel_rfl) (by kernel_rfl) (by kernel_rfl) (fun _ _ _ h => h) (Or.inl ⟨by rfl, ?_⟩) (by assumption) ?_
                rotate_left
                · intro w hSw; (try dsimp only at hSw); go_simp; try with_reducible rfl
                try simp only [Act.put, List.getElem_toArray, List.getElem_cons_zero, List.getElem_cons_succ, List.setIfInBounds_toArray, List.set_cons_zero, List.set_cons_succ]
                refine wpAnyH_take (i := 14) (v := ?_) rfl (by kernel_rfl) (by kernel_rfl) (by kernel_rfl) (fun _ _ _ h => h) (Or.inl ⟨by rfl, ?_⟩) (by assumption) ?_
                rotate_left
                · intro w hSw; (try dsimp only at hSw); go_simp; try with_reducible rfl
                try simp only [Act.put, List.getElem_toArray, List.getElem_cons_zero, List.getElem_cons_succ, List.setIfInBounds_toArray, List.set_cons_zero, List.set_cons_succ]
                refine wpAnyH_done (by kernel_rfl) ?_ _
                go_wp2_with fail
                go_ret
                exact ⟨ret_bool HF.out.symm, Hw0.out.trans ((hb.out.trans ((show Below wr.heap.size wr wr.drew from ⟨rfl, rfl, rfl, Nat.le_refl _, fun _ _ => rfl⟩).mono hb.out.size)).mono Hw0.out.size)⟩
              | true =>
                cases hl : Kx.inR limit 1 6 with
                | false =>
                  have HF := Lib.hid (show Kx.pagerOk p = false by rw [HV.out, hh, hl]; rfl)
                  have Hh := Lib.hid hh
                  have Hl := Lib.hid hl
                  clear hh hl HV
                  go_wp2_with fail
                  refine wp_region_held_drew (S := (fun wz => wz.cell? ⟨w.heap.size, 7, none⟩ = some (.int .i64 hand) ∧ wz.cell? ⟨w.heap.size, 8, none⟩ = some (.int .i64 limit))) (by kernel_rfl) (by first | assumption | go_keep) (fun hHeld => ?_)
                  refine wpAnyH_take (i := 0) (v := ?_) rfl (by kernel_rfl) (by kernel_rfl) (by kernel_rfl) (fun _ _ _ h => h) (Or.inl ⟨by rfl, ?_⟩) (by assumption) ?_
                  rotate_left
                  · intro w hSw; (try dsimp only at hSw); go_simp; try with_reducible rfl
                  try simp only [Act.put, List.getElem_toArray, List.getElem_cons_zero, List.setIfInBounds_toArray, List.set_cons_zero, List.set_cons_succ]
                  refine wpAnyH_take (i := 1) (v := ?_) rfl (by kernel_rfl) (by kernel_rfl) (by kernel_rfl) (fun _ _ _ h => h) (Or.inl ⟨by rfl, ?_⟩) (by assumption) ?_
                  rotate_left
                  · intro w hSw; (try dsimp only at hSw); go_simp; try with_reducible rfl
                  try simp only [Act.put, List.getElem_toArray, List.getElem_cons_zero, List.getElem_cons_succ, List.setIfInBounds_toArray, List.set_cons_zero, List.set_cons_succ]
                  refine wpAnyH_ready (rs := [2]) (by kernel_rfl) (by simp) ?_
                  refine AllReadyH.cons rfl (fun K hK => ?_) AllReadyH.nil
                  (rw [if_pos (by rfl)]; go_simp; go_at_call 51; refine (withinK_c _ _ _ _).mono ?_; rintro e w' ⟨rfl, rfl⟩; rw [Hh.out]; go_wp2_with fail)
                  refine hK.out _ _ ?_ (fun hHeld => ?_)
                  · first | assumption | go_keep
                  clear hK K
                  try simp only [Act.put, List.getElem_toArray, List.getElem_cons_zero, List.getElem_cons_succ, List.setIfInBounds_toArray, List.set_cons_zero, List.set_cons_succ]
                  refine wpAnyH_take (i := 3) (v := ?_) rfl (by kernel_rfl) (by kernel_rfl) (by kernel_rfl) (fun _ _ _ h => h) (Or.inl ⟨by rfl, ?_⟩) (by assumption) ?_
                  rotate_left
                  · intro w hSw; (try dsimp only at hSw); go_simp; try with_reducible rfl
                  try simp only [Act.put, List.getElem_toArray, List.getElem_cons_zero, List.getElem_cons_succ, List.setIfInBounds_toArray, List.set_cons_zero, List.set_cons_succ]
                  refine wpAnyH_take (i := 4) (v := ?_) rfl (by kernel_rfl) (by kernel_rfl) (by kernel_rfl) (fun _ _ _ h => h) (Or.inl ⟨by rfl, ?_⟩) (by assumption) ?_
                  rotate_left
                  · intro w hSw; (try dsimp only at hSw); go_simp; try with_reducible rfl
                  try simp only [Act.put, List.getElem_toArray, List.getElem_cons_zero, List.getElem_cons_succ, List.setIfInBounds_toArray, List.set_cons_zero, List.set_cons_succ]
                  refine wpAnyH_take (i := 5) (v := ?_) rfl (by kernel_rfl) (by kernel_rfl) (by kernel_rfl) (fun _ _ _ h => h) (Or.inl ⟨by rfl, ?_⟩) (by assumption) ?_
                  rotate_left
                  · intro w hSw; (try dsimp only at hSw); go_simp; try with_reducible rfl
                  try simp only [Act.put, List.getElem_toArray, List.getElem_cons_zero, List.getElem_cons_succ, List.setIfInBounds_toArray, List.set_cons_zero, List.set_cons_succ]
                  refine wpAnyH_ready (rs := [6]) (by kernel_rfl) (by simp) ?_
                  refine AllReadyH.cons rfl (fun K hK => ?_) AllReadyH.nil
                  (rw [if_pos (by rfl)]; go_simp; go_at_call 51; refine (withinK_c _ _ _ _).mono ?_; rintro e w' ⟨rfl, rfl⟩; rw [Hl.out]; go_wp2_with fail)
                  refine hK.out _ _ ?_ (fun hHeld => ?_)
                  · first | assumption | go_keep
                  clear hK K
                  try simp only [Act.put, List.getElem_toArray, List.getElem_cons_zero, List.getElem_cons_succ, List.setIfInBounds_toArray, List.set_cons_zero, List.set_cons_succ]
                  refine wpAnyH_take (i := 7) (v := ?_) rfl (by kernel_rfl) (by kernel_rfl) (by kernel_rfl) (fun _ _ _ h => h) (Or.inl ⟨by rfl, ?_⟩) (by assumption) ?_
                  rotate_left
                  · intro w hSw; (try dsimp only at hSw); go_simp; try with_reducible rfl
                  try simp only [Act.put, List.getElem_toArray, List.getElem_cons_zero, List.getElem_cons_succ, List.setIfInBounds_toArray, List.set_cons_zero, List.set_cons_succ]
                  refine wpAnyH_take (i := 8) (v := ?_) rfl (by kernel_rfl) (by kernel_rfl) (by kernel_rfl) (fun _ _ _ h => h) (Or.inl ⟨by rfl, ?_⟩) (by assumption) ?_
                  rotate_left
                  · intro w hSw; (try dsimp only at hSw); go_simp; try with_reducible rfl
                  try simp only [Act.put, List.getElem_toArray, List.getElem_cons_zero, List.getElem_cons_succ, List.setIfInBounds_toArray, List.set_cons_zero, List.set_cons_succ]
                  refine wpAnyH_take (i := 9) (v := undef) rfl (by kernel_rfl) (by kernel_rfl) (by kernel_rfl) (fun _ _ _ h => h) (Or.inr ⟨by rfl, rfl⟩) (by assumption) ?_
                  try simp only [Act.put, List.getElem_toArray, List.getElem_cons_zero, List.getElem_cons_succ, List.setIfInBounds_toArray, List.set_cons_zero, List.set_cons_succ]
                  refine wpAnyH_take (i := 10) (v := undef) rfl (by kernel_rfl) (by kernel_rfl) (by kernel_rfl) (fun _ _ _ h => h) (Or.inr ⟨by rfl, rfl⟩) (by assumption) ?_
                  try simp only [Act.put, List.getElem_toArray, List.getElem_cons_zero, List.getElem_cons_succ, List.setIfInBounds_toArray, List.set_cons_zero, List.set_cons_succ]
                  refine wpAnyH_take (i := 11) (v := undef) rfl (by kernel_rfl) (by kernel_rfl) (by kernel_rfl) (fun _ _ _ h => h) (Or.inr ⟨by rfl, rfl⟩) (by assumption) ?_
                  try simp only [Act.put, List.getElem_toArray, List.getElem_cons_zero, List.getElem_cons_succ, List.setIfInBounds_toArray, List.set_cons_zero, List.set_cons_succ]
                  refine wpAnyH_take (i := 12) (v := undef) rfl (by kernel_rfl) (by kernel_rfl) (by kernel_rfl) (fun _ _ _ h => h) (Or.inr ⟨by rfl, rfl⟩) (by assumption) ?_
                  try simp only [Act.put, List.getElem_toArray, List.getElem_cons_zero, List.getElem_cons_succ, List.setIfInBounds_toArray, List.set_cons_zero, List.set_cons_succ]
                  refine wpAnyH_take (i := 13) (v := ?_) rfl (by kernel_rfl) (by kernel_rfl) (by kernel_rfl) (fun _ _ _ h => h) (Or.inl ⟨by rfl, ?_⟩) (by assumption) ?_
                  rotate_left
                  · intro w hSw; (try dsimp only at hSw); go_simp; try with_reducible rfl
                  try simp only [Act.put, List.getElem_toArray, List.getElem_cons_zero, List.getElem_cons_succ, List.setIfInBounds_toArray, List.set_cons_zero, List.set_cons_succ]
                  refine wpAnyH_take (i := 14) (v := ?_) rfl (by kernel_rfl) (by kernel_rfl) (by kernel_rfl) (fun _ _ _ h => h) (Or.inl ⟨by rfl, ?_⟩) (by assumption) ?_
                  rotate_left
                  · intro w hSw; (try dsimp only at hSw); go_simp; try with_reducible rfl
                  try simp only [Act.put, List.getElem_toArray, List.getElem_cons_zero, List.getElem_cons_succ, List.setIfInBounds_toArray, List.set_cons_zero, List.set_cons_succ]
                  refine wpAnyH_done (by kernel_rfl) ?_ _
                  go_wp2_with fail
                  go_ret
                  exact ⟨ret_bool HF.out.symm, Hw0.out.trans ((hb.out.trans ((show Below wr.heap.size wr wr.drew from ⟨rfl, rfl, rfl, Nat.le_refl _, fun _ _ => rfl⟩).mono hb.out.size)).mono Hw0.out.size)⟩
                | true =>
                  have HF := Lib.hid (show Kx.pagerOk p = decide ((cn : Int) ≤ limit) by rw [HV.out, hh, hl]; rfl)
                  have Hh := Lib.hid hh
                  have Hl := Lib.hid hl
                  clear hh hl HV
                  go_wp2_with fail
                  refine wp_region_held_drew (S := (fun wz => wz.cell? ⟨w.heap.size, 7, none⟩ = some (.int .i64 hand) ∧ wz.cell? ⟨w.heap.size, 8, none⟩ = some (.int .i64 limit))) (by kernel_rfl) (by first | assumption | go_keep) (fun hHeld => ?_)
                  refine wpAnyH_take (i := 0) (v := ?_) rfl (by kernel_rfl) (by kernel_rfl) (by kernel_rfl) (fun _ _ _ h => h) (Or.inl ⟨by rfl, ?_⟩) (by assumption) ?_
                  rotate_left
                  · intro w hSw; (try dsimp only at hSw); go_simp; try with_reducible rfl
                  try simp only [Act.put, List.getElem_toArray, List.getElem_cons_zero, List.setIfInBounds_toArray, List.set_cons_zero, List.set_cons_succ]
                  refine wpAnyH_take (i := 1) (v := ?_) rfl (by kernel_rfl) (by kernel_rfl) (by kernel_rfl) (fun _ _ _ h => h) (Or.inl ⟨by rfl, ?_⟩) (by assumption) ?_
                  rotate_left
                  · intro w hSw; (try dsimp only at hSw); go_simp; try with_reducible rfl
                  try simp only [Act.put, List.getElem_toArray, List.getElem_cons_zero, List.getElem_cons_succ, List.setIfInBounds_toArray, List.set_cons_zero, List.set_cons_succ]
                  refine wpAnyH_ready (rs := [2]) (by kernel_rfl) (by simp) ?_
                  refine AllReadyH.cons rfl (fun K hK => ?_) AllReadyH.nil
                  (rw [if_pos (by rfl)]; go_simp; go_at_call 51; refine (withinK_c _ _ _ _).mono ?_; rintro e w' ⟨rfl, rfl⟩; rw [Hh.out]; go_wp2_with fail)
                  refine hK.out _ _ ?_ (fun hHeld => ?_)
                  · first | assumption | go_keep
                  clear hK K
                  try simp only [Act.put, List.getElem_toArray, List.getElem_cons_zero, List.getElem_cons_succ, List.setIfInBounds_toArray, List.set_cons_zero, List.set_cons_succ]
                  refine wpAnyH_take (i := 3) (v := ?_) rfl (by kernel_rfl) (by kernel_rfl) (by kernel_rfl) (fun _ _ _ h => h) (Or.inl ⟨by rfl, ?_⟩) (by assumption) ?_
                  rotate_left
                  · intro w hSw; (try dsimp only at hSw); go_simp; try with_reducible rfl
                  try simp only [Act.put, List.getElem_toArray, List.getElem_cons_zero, List.getElem_cons_succ, List.setIfInBounds_toArray, List.set_cons_zero, List.set_cons_succ]
                  refine wpAnyH_take (i := 4) (v := ?_) rfl (by kernel_rfl) (by kernel_rfl) (by kernel_rfl) (fun _ _ _ h => h) (Or.inl ⟨by rfl, ?_⟩) (by assumption) ?_
                  rotate_left
                  · intro w hSw; (try dsimp only at hSw); go_simp; try with_reducible rfl
                  try simp only [Act.put, List.getElem_toArray, List.getElem_cons_zero, List.getElem_cons_succ, List.setIfInBounds_toArray, List.set_cons_zero, List.set_cons_succ]
                  refine wpAnyH_take (i := 5) (v := ?_) rfl (by kernel_rfl) (by kernel_rfl) (by kernel_rfl) (fun _ _ _ h => h) (Or.inl ⟨by rfl, ?_⟩) (by assumption) ?_
                  rotate_left
                  · intro w hSw; (try dsimp only at hSw); go_simp; try with_reducible rfl
                  try simp only [Act.put, List.getElem_toArray, List.getElem_cons_zero, List.getElem_cons_succ, List.setIfInBounds_toArray, List.set_cons_zero, List.set_cons_succ]
                  refine wpAnyH_ready (rs := [6]) (by kernel_rfl) (by simp) ?_
                  refine AllReadyH.cons rfl (fun K hK => ?_) AllReadyH.nil
                  (rw [if_pos (by rfl)]; go_simp; go_at_call 51; refine (withinK_c _ _ _ _).mono ?_; rintro e w' ⟨rfl, rfl⟩; rw [Hl.out]; go_wp2_with fail)
                  refine hK.out _ _ ?_ (fun hHeld => ?_)
                  · first | assumption | go_keep
                  clear hK K
                  try simp only [Act.put, List.getElem_toArray, List.getElem_cons_zero, List.getElem_cons_succ, List.setIfInBounds_toArray, List.set_cons_zero, List.set_cons_succ]
                  refine wpAnyH_take (i := 7) (v := ?_) rfl (by kernel_rfl) (by kernel_rfl) (by kernel_rfl) (fun _ _ _ h => h) (Or.inl ⟨by rfl, ?_⟩) (by assumption) ?_
                  rotate_left
                  · intro w hSw; (try dsimp only at hSw); go_simp; try with_reducible rfl
                  try simp only [Act.put, List.getElem_toArray, List.getElem_cons_zero, List.getElem_cons_succ, List.setIfInBounds_toArray, List.set_cons_zero, List.set_cons_succ]
                  refine wpAnyH_take (i := 8) (v := ?_) rfl (by kernel_rfl) (by kernel_rfl) (by kernel_rfl) (fun _ _ _ h => h) (Or.inl ⟨by rfl, ?_⟩) (by assumption) ?_
                  rotate_left
                  · intro w hSw; (try dsimp only at hSw); go_simp; try with_reducible rfl
                  try simp only [Act.put, List.getElem_toArray, List.getElem_cons_zero, List.getElem_cons_succ, List.setIfInBounds_toArray, List.set_cons_zero, List.set_cons_succ]
                  refine wpAnyH_take (i := 10) (v := ?_) rfl (by kernel_rfl) (by kernel_rfl) (by kernel_rfl) (fun _ _ _ h => h) (Or.inl ⟨by rfl, ?_⟩) (by assumption) ?_
                  rotate_left
                  · intro w hSw; (try dsimp only at hSw); go_simp; try with_reducible rfl
                  try simp only [Act.put, List.getElem_toArray, List.getElem_cons_zero, List.getElem_cons_succ, List.setIfInBounds_toArray, List.set_cons_zero, List.set_cons_succ]
                  refine wpAnyH_take (i := 11) (v := ?_) rfl (by kernel_rfl) (by kernel_rfl) (by kernel_rfl) (fun _ _ _ h => h) (Or.inl ⟨by rfl, ?_⟩) (by assumption) ?_
                  rotate_left
                  · intro w hSw; (try dsimp only at hSw); go_simp; try with_reducible rfl
                  try simp only [Act.put, List.getElem_toArray, List.getElem_cons_zero, List.getElem_cons_succ, List.setIfInBounds_toArray, List.set_cons_zero, List.set_cons_succ]
                  refine wpAnyH_ready (rs := [9]) (by kernel_rfl) (by simp) ?_
                  refine AllReadyH.cons rfl (fun K hK => ?_) AllReadyH.nil
                  (rw [if_pos (by rfl)]; go_simp; go_at_call 52; refine (HC.out _ (by first | exact Below.refl _ _ | exact ⟨rfl, rfl, rfl, Nat.le_refl _, fun _ _ => rfl⟩)).mono ?_; rintro e w5 ⟨rfl, hb5⟩; have hb6 : Below wr.heap.size wr w5 := ⟨hb5.os, hb5.tape, hb5.output, hb5.size, hb5.block⟩; have hc6 := Hcl.out w5 hb6; go_wp2_with fail)
                  refine hK.out _ _ ?_ (fun hHeld => ?_)
                  · first | assumption | go_keep
                  clear hK K
                  try simp only [Act.put, List.getElem_toArray, List.getElem_cons_zero, List.getElem_cons_succ, List.setIfInBounds_toArray, List.set_cons_zero, List.set_cons_succ]
                  refine wpAnyH_take (i := 12) (v := ?_) rfl (by kernel_rfl) (by kernel_rfl) (by kernel_rfl) (fun _ _ _ h => h) (Or.inl ⟨by rfl, ?_⟩) (by assumption) ?_
                  rotate_left
                  · intro w hSw; (try dsimp only at hSw); go_simp; try with_reducible rfl
                  try simp only [Act.put, List.getElem_toArray, List.getElem_cons_zero, List.getElem_cons_succ, List.setIfInBounds_toArray, List.set_cons_zero, List.set_cons_succ]
                  refine wpAnyH_take (i := 13) (v := ?_) rfl (by kernel_rfl) (by kernel_rfl) (by kernel_rfl) (fun _ _ _ h => h) (Or.inl ⟨by rfl, ?_⟩) (by assumption) ?_
                  rotate_left
                  · intro w hSw; (try dsimp only at hSw); go_simp; try with_reducible rfl
                  try simp only [Act.put, List.getElem_toArray, List.getElem_cons_zero, List.getElem_cons_succ, List.setIfInBounds_toArray, List.set_cons_zero, List.set_cons_succ]
                  refine wpAnyH_take (i := 14) (v := ?_) rfl (by kernel_rfl) (by kernel_rfl) (by kernel_rfl) (fun _ _ _ h => h) (Or.inl ⟨by rfl, ?_⟩) (by assumption) ?_
                  rotate_left
                  · intro w hSw; (try dsimp only at hSw); go_simp; try with_reducible rfl
                  try simp only [Act.put, List.getElem_toArray, List.getElem_cons_zero, List.getElem_cons_succ, List.setIfInBounds_toArray, List.set_cons_zero, List.set_cons_succ]
                  refine wpAnyH_done (by kernel_rfl) ?_ _
                  go_wp2_with fail
                  go_ret
                  exact ⟨ret_bool HF.out.symm, Hw0.out.trans ((hb.out.trans (hb6.mono hb.out.size)).mono Hw0.out.size)⟩
end Go.Proofs.YtfnpjdgjceiklaaGreatDoor
