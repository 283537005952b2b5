/- Contracts: the impl's side: tablesOk, pageOk. (printed by ki14.py) -/
import Derived.Test.YtfnpjdgjceiklaaGreatDoorKI13
namespace Go.Proofs.YtfnpjdgjceiklaaGreatDoor
open Go.RowKit

theorem kernelOk_parts {k : Kx.Kernel} (h : Kx.kernelOk k = true) : Kx.memOk k.mem = true ∧ Kx.infosOk k.infos = true ∧ k.infos.length = 12 ∧ Kx.cacheOk k.cache = true ∧ k.envs.length = 3 ∧ ∀ e, e < 3 → (Kx.envAt k.envs e).root ≤ 11 := by
  unfold Kx.kernelOk at h
  simp only [Bool.and_eq_true] at h
  obtain ⟨⟨⟨⟨⟨⟨h1, h2⟩, h3⟩, h4⟩, _⟩, _⟩, _⟩ := h
  have h12 : k.infos.length = 12 := by unfold Kx.infosOk at h2; simp only [Bool.and_eq_true] at h2; simpa using h2.2
  unfold Kx.envsOk at h4
  rw [eOk_all] at h4
  simp only [Bool.and_eq_true, List.all_eq_true] at h4
  have he : k.envs.length = 3 := by simpa using h4.2
  refine ⟨h1, h2, h12, h3, he, fun e hlt => ?_⟩
  have h5 := h4.1 e (by rw [he]; simpa using hlt)
  unfold eOk Kx.envOk at h5
  simp only [Bool.and_eq_true] at h5
  exact (Kx.inR_true.1 h5.1.1.2).2
theorem tablesP_eq (p : Kx.Pager) : Kx.tablesP p = (!decide ((Kx.envAt p.k.envs 0).root < 0) && p.low.length == 4 && mine p.k.infos (Kx.envAt p.k.envs 0).root.toNat && (List.range 4).all (Kx.lowOk p (Kx.envAt p.k.envs 0).root.toNat)) := by
  unfold Kx.tablesP mine; simp only [Bool.and_assoc]
theorem lowOk_mine (p : Kx.Pager) (root i : Nat) : Kx.lowOk p root i = (Kx.inR (p.low.getD i 0) 0 11 && (Kx.word p.k.mem root i == Kx.put (p.low.getD i 0).toNat true) && mine p.k.infos (p.low.getD i 0).toNat) := by
  rw [lowOk_eq]; unfold mine; simp only [Bool.and_assoc]
set_option maxHeartbeats 4000000 in
theorem tablesOk_c (p : Kx.Pager) (pb : Nat) (vm vi ve vc vs vl vp : Value) (hand limit : Int) (w : World) (h : RP w vm vi ve vc vs vl vp p) (hbx : BoxP w pb vm vi ve vc vs vl vp hand limit) (hk : Kx.kernelOk p.k = true) :
    Calls Tryz.prog 48 #[.pointer (some ⟨pb, 0, none⟩)] w fun e w' => e = .returned (.bool (Kx.tablesP p)) ∧ Below w.heap.size w w' := by
  obtain ⟨hmo, hio, h12, _, hen, hro⟩ := kernelOk_parts hk
  have hr11 := hro 0 (by omega)
  have Hmo := Lib.hid hmo; have Hio := Lib.hid hio; have Hbx := Lib.hid hbx; have HP := Lib.hid h
  have HV := Lib.hid (tablesP_eq p)
  have HL := Lib.hid (lowOk_mine p)
  obtain ⟨be, oe, ce, _, e, _, _, hroot, _⟩ := h.k.e.at (k := 0) (by omega)
  rw [hen] at e
  subst e
  rw [Nat.zero_mul, Nat.add_zero] at hroot
  obtain ⟨al, cl, rfl⟩ := h.l.val
  obtain ⟨ai, ci, rfl, _, _⟩ := RS.val h.k.i
  obtain ⟨_, am, cm, rfl, _, _⟩ := h.k.m.len
  obtain ⟨⟨k0, k1, k2, k3⟩, ⟨k4, k5, k6, k7, k8⟩, hbl⟩ := hbx
  have hll0 := h.l.1
  generalize (Kx.envAt p.k.envs 0).root = root at hroot hr11 HV
  clear h hro hk hen hmo hio h12 hbl
  by_cases hneg : root < 0
  · have HF := Lib.hid (show Kx.tablesP p = false by rw [HV.out, show decide (root < 0) = true from by simpa using hneg]; rfl)
    clear HV
    go_enter Tryz.func48, Tryz.ntmps48
    go_wp2_with fail
    go_ret
    exact ⟨ret_bool HF.out.symm, Below.refl _ _⟩
  obtain ⟨r, rfl⟩ := Int.eq_ofNat_of_zero_le (Int.not_lt.1 hneg)
  rw [Int.toNat_natCast, show decide ((r : Int) < 0) = false from by simp, Bool.not_false, Bool.true_and] at HV
  have hr12 : r < 12 := by omega
  clear hneg
  by_cases h4 : p.low.length = 4
  case neg =>
    have HF := Lib.hid (show Kx.tablesP p = false by rw [HV.out, show (p.low.length == 4) = false from by simpa using h4]; rfl)
    have hne : ((p.low.length : Int) != 4) = true := by rw [bne_iff_ne]; omega
    clear HV h4
    go_enter Tryz.func48, Tryz.ntmps48
    go_wp2_with fail
    go_ret
    exact ⟨ret_bool HF.out.symm, Below.refl _ _⟩
  have hne : ((p.low.length : Int) != 4) = false := by rw [bne_eq_false_iff_eq]; omega
  rw [show (p.low.length == 4) = true from by simpa using h4, Bool.true_and] at HV
  have H4 := Lib.hid h4; clear h4
  have HC := Lib.hid (isMine_c p.k.infos r pb (.slice ai p.k.infos.length ci) w HP.out.k.i Hio.out hr12 k1)
  go_enter Tryz.func48, Tryz.ntmps48
  go_wp2_with fail
  refine HC.out.mono ?_; rintro e w1 ⟨rfl, hb1⟩
  have B1 := Lib.hid hb1; clear hb1 HC
  cases hmi : mine p.k.infos r with
  | false =>
    have HF := Lib.hid (show Kx.tablesP p = false by rw [HV.out, hmi]; rfl)
    clear HV hmi
    go_wp2_with fail
    go_ret
    exact ⟨ret_bool HF.out.symm, B1.out⟩
  | true =>
    rw [hmi, Bool.true_and] at HV
    obtain ⟨⟨j0, j1, j2, j3⟩, ⟨j4, j5, j6, j7, j8⟩, _⟩ := Hbx.out.below B1.out
    clear hmi k0 k1 k2 k3 k4 k5 k6 k7 k8 hroot
    go_wp2_with fail
    go_loopw [37] (fun i wr => ∃ q : Nat, i = .int .i64 q ∧ q ≤ p.low.length ∧ Hid (∀ j, j < q → Kx.lowOk p r j = true) ∧ Hid (Below w.heap.size w wr)) (fun i _ => p.low.length - (intOf i).toNat)
    case atStart => exact ⟨0, rfl, Nat.zero_le _, fun j hj => absurd hj (Nat.not_lt_zero _), B1.out⟩
    case round =>
      clear j0 j1 j2 j3 j4 j5 j6 j7 j8 B1
      obtain ⟨q, rfl, hq, hall, hb⟩ := hrel
      by_cases hlt : q < p.low.length
      · obtain ⟨⟨k0, k1, k2, k3⟩, ⟨k4, k5, k6, k7, k8⟩, _⟩ := Hbx.out.below hb.out
        have HPr := Lib.hid (HP.out.below hb.out)
        obtain ⟨bl, ol, cl', ev, _, hc⟩ := HPr.out.l.at hlt
        simp only [Value.slice.injEq] at ev
        obtain ⟨rfl, _, rfl⟩ := ev
        have hq4 : q < 4 := by have := H4.out; omega
        have hq4I : (q : Int) < 4 := by omega
        have hlI : (q : Int) < (p.low.length : Int) := by omega
        have HB := Lib.hid (show Kx.lowOk p r q = false → Kx.tablesP p = false from fun h => by
          rw [HV.out, List.all_eq_false]; exact ⟨q, by simpa using hq4, by rw [h]; simp⟩)
        have HN := Lib.hid (show Kx.lowOk p r q = true → ∀ j, j < q + 1 → Kx.lowOk p r j = true from fun h => scan_step hall.out h)
        have Hok := Lib.hid (HL.out r q)
        obtain ⟨bm, om, cm', bq, oq, cq, ev, n1, n2, _, _⟩ := HPr.out.k.m.word Hmo.out (f := r) (a := q) hr12 hq4
        have hm12 := (Kx.memOk_iff.1 Hmo.out).1
        rw [← hm12] at ev
        simp only [Value.slice.injEq] at ev
        obtain ⟨rfl, _, rfl⟩ := ev
        have hrm : (r : Int) < (p.k.mem.length : Int) := by rw [hm12]; omega
        have hget : p.low[q] = p.low.getD q 0 := by simp [hlt]
        rw [hget] at hc
        clear hget hm12
        generalize Kx.word p.k.mem r q = wd at n2 Hok
        generalize p.low.getD q 0 = f at hc Hok
        cases hin : Kx.inR f 0 11 with
        | false =>
          have HF := Lib.hid (HB.out (by rw [Hok.out, hin]; rfl))
          have Hin := Lib.hid hin
          clear HB HN Hok hin
          go_wp2_with fail
          refine (EntryPutF_c _ _ Hin.out).mono ?_; rintro e w' ⟨rfl, rfl⟩
          go_wp2_with fail
          go_ret
          exact ⟨ret_bool HF.out.symm, hb.out⟩
        | true =>
          obtain ⟨f0, f11⟩ := Kx.inR_true.1 hin
          obtain ⟨g, rfl⟩ := Int.eq_ofNat_of_zero_le f0
          rw [hin, Bool.true_and, Int.toNat_natCast] at Hok
          have hg12 : g < 12 := by omega
          clear hin f0
          generalize hpw : Kx.put g true = pw at Hok
          have Hpw := Lib.hid hpw; clear hpw
          by_cases hw : wd = pw
          case neg =>
            have hwb : (wd != pw) = true := by simpa using hw
            have HF := Lib.hid (HB.out (by rw [Hok.out, show (wd == pw) = false from by simpa using hw]; rfl))
            clear HB HN Hok hw
            go_wp2_with fail
            refine (EntryPutT_c g _ hg12).mono ?_; rintro e w' ⟨rfl, rfl⟩; rw [Hpw.out]
            go_wp2_with fail
            go_ret
            exact ⟨ret_bool HF.out.symm, hb.out⟩
          have hwb : (wd != pw) = false := by simpa using hw
          rw [show (wd == pw) = true from by simpa using hw, Bool.true_and] at Hok
          have HC := Lib.hid (isMine_c p.k.infos g pb _ wr HPr.out.k.i Hio.out hg12 k1)
          clear hw
          go_wp2_with fail
          refine (EntryPutT_c g _ hg12).mono ?_; rintro e w' ⟨rfl, rfl⟩; rw [Hpw.out]
          go_wp2_with fail
          refine HC.out.mono ?_; rintro e w2 ⟨rfl, hb2⟩
          have B2 := Lib.hid (hb.out.trans (hb2.mono hb.out.size))
          clear hb2 HC
          cases hmi : mine p.k.infos g with
          | false =>
            have HF := Lib.hid (HB.out (by rw [Hok.out, hmi]))
            clear HB HN Hok hmi
            go_wp2_with fail
            go_ret
            exact ⟨ret_bool HF.out.symm, B2.out⟩
          | true =>
            have HN2 := Lib.hid (HN.out (by rw [Hok.out, hmi]))
            clear HB HN Hok hmi
            go_wp2_with fail
            go_roundw
            case rel => exact ⟨q + 1, by go_num, by omega, HN2.out, B2.out⟩
            case measure => simp [intOf]; omega
      · have HF := Lib.hid (show Kx.tablesP p = true by
          rw [HV.out, List.all_eq_true]
          intro j hj
          have h9 := H4.out
          have h8 : j < 4 := by simpa using hj
          exact hall.out j (by omega))
        go_wp2_with fail
        go_ret
        exact ⟨ret_bool HF.out.symm, hb.out⟩
end Go.Proofs.YtfnpjdgjceiklaaGreatDoor
