/- Contracts: spec.l1Put, l32Word. -/
import Derived.Test.YtfnpjdgjceiklaaGreatDoorKW16
namespace Go.Proofs.YtfnpjdgjceiklaaGreatDoor
open Go.RowKit

/-- a word of a list of rows of four -/
theorem RM.at4 {w : World} {v : Value} {m : List (List Int)} (h : RM w v m) {f a : Nat} (hf : f < m.length) (h4 : (Kx.row m f).length = 4) (ha : a < 4) :
    ∃ b off cap b' off' cap', v = .slice (some ⟨b, off, none⟩) m.length cap ∧ w.cell? ⟨b, off + f, none⟩ = some (.slice (some ⟨b', off', none⟩) 4 cap') ∧ w.cell? ⟨b', off' + a, none⟩ = some (.int .i64 (Kx.word m f a)) := by
  obtain ⟨b, off, cap, u, rfl, _, hc, hr⟩ := h.at (k := f) hf
  obtain ⟨b', off', cap', rfl, _, hc'⟩ := hr.at (k := a) (by omega)
  rw [h4] at hc
  have e : Kx.word m f a = (Kx.row m f)[a]'(by omega) := by simp [Kx.word, show a < (Kx.row m f).length by omega]
  rw [e]
  exact ⟨b, off, cap, b', off', cap', rfl, hc, hc'⟩
theorem l1Put_c (f : Nat) (b : Bool) (w : World) (hf : f < 12) : Calls Tryz.prog 93 #[.int .i64 f, .bool b] w fun e w' => e = .returned (.int .i64 (Kx.put f b)) ∧ w = w' := by
  have hfI : (f : Int) < 12 := by omega
  have HP := Lib.hid (show Kx.put f b = 4 * (f : Int) + if b then 3 else 1 from rfl)
  cases b
  · go_enter Tryz.func93, Tryz.ntmps93
    go_wp2_with fail
    go_ret
    exact ⟨ret_int (by rw [HP.out]; simp; try omega), rfl⟩
  · go_enter Tryz.func93, Tryz.ntmps93
    go_wp2_with fail
    go_ret
    exact ⟨ret_int (by rw [HP.out]; simp; try omega), rfl⟩

set_option maxHeartbeats 2000000 in
theorem l32Word_c (p : Kx.Pager) (ad : Nat) (vm vi ve vc vs vl vp : Value) (hand limit : Int) (w : World) (h : RP w vm vi ve vc vs vl vp p) (hm : Kx.memOk p.k.mem = true) (hpl : p.pages.length = 16) (hsl : p.swap.length = 16)
    (hA : ad < 64) (h1 : (Kx.pageAt p.pages (ad / 4)).wh = 1 → 0 ≤ (Kx.pageAt p.pages (ad / 4)).at_ ∧ (Kx.pageAt p.pages (ad / 4)).at_ ≤ 11)
    (h2 : (Kx.pageAt p.pages (ad / 4)).wh = 2 → 0 ≤ (Kx.pageAt p.pages (ad / 4)).at_ ∧ (Kx.pageAt p.pages (ad / 4)).at_ ≤ 15 ∧ (Kx.row p.swap (Kx.pageAt p.pages (ad / 4)).at_.toNat).length = 4) :
    Calls Tryz.prog 56 #[pagerV vm vi ve vc vs vl vp hand limit, .int .i64 ad] w fun e w' => e = .returned (.int .i64 (Kx.wordP p ad)) ∧ Below w.heap.size w w' := by
  obtain ⟨w0, hw0⟩ : ∃ w0, w.alloc (.cells #[vm, vi, ve, vc, vs, vl, vp, .int .i64 hand, .int .i64 limit] 41) = w0 := ⟨_, rfl⟩
  have Hw0 := Lib.hid (show Below w.heap.size w w0 from hw0 ▸ (Below.refl w.heap.size w).alloc (Nat.le_refl _) _)
  have Hbx := Lib.hid (show BoxP w0 w.heap.size vm vi ve vc vs vl vp hand limit from hw0 ▸ BoxP.new w vm vi ve vc vs vl vp hand limit _)
  have HP := Lib.hid (h.below Hw0.out)
  obtain ⟨q, hq⟩ : ∃ q, ad / 4 = q := ⟨_, rfl⟩
  obtain ⟨r, hr⟩ : ∃ r, ad % 4 = r := ⟨_, rfl⟩
  have eq : (ad : Int) / 4 = (q : Int) := by omega
  have er : (ad : Int) % 4 = (r : Int) := by omega
  have hq16 : (q : Int) < 16 := by omega
  have hr4 : (r : Int) < 4 := by omega
  obtain ⟨bp, op, cap, rfl, hbp, g1, g2, g3⟩ := RPage.at HP.out.g (k := q) (by omega)
  have HW := Lib.hid (show Kx.wordP p ad = (if (Kx.pageAt p.pages q).wh = 1 then Kx.word p.k.mem (Kx.pageAt p.pages q).at_.toNat r else if (Kx.pageAt p.pages q).wh = 2 then Kx.word p.swap (Kx.pageAt p.pages q).at_.toNat r else 0) by rw [← hq, ← hr]; rfl)
  rw [hq] at h1 h2
  obtain ⟨pg, hx⟩ : ∃ pg, Kx.pageAt p.pages q = pg := ⟨_, rfl⟩
  rw [hx] at h1 h2 g1 g2 g3 HW
  clear hx
  obtain ⟨x, y, z⟩ := pg
  dsimp only at h1 h2 g1 g2 g3 HW
  obtain ⟨w1, hw1⟩ : ∃ w1, w0.alloc (.cells #[.int .i64 x, .int .i64 y, .bool z] 90) = w1 := ⟨_, rfl⟩
  have B1 := Lib.hid (show Below w0.heap.size w0 w1 from hw1 ▸ Below.lit (Below.refl _ _) _)
  obtain ⟨c0, c1, c2⟩ := (show w1.cell? ⟨w0.heap.size, 0, none⟩ = some (.int .i64 x) ∧ w1.cell? ⟨w0.heap.size, 1, none⟩ = some (.int .i64 y) ∧ w1.cell? ⟨w0.heap.size, 2, none⟩ = some (.bool z) from hw1 ▸ Box3.new w0 _ _ _ 90)
  obtain ⟨⟨m0, m1, m2, m3⟩, ⟨m4, m5, m6, m7, m8⟩, _⟩ := Hbx.out.below B1.out
  have k6 := Hbx.out.2.1.2.2.1
  have HP1 := Lib.hid (HP.out.below B1.out)
  have HB := Lib.hid (Hw0.out.trans (B1.out.mono Hw0.out.size))
  have HI := Lib.hid h1; have HJ := Lib.hid h2
  have hAI : (ad : Int) < 64 := by omega
  have Hsl := Lib.hid hsl; have Hm := Lib.hid hm
  rw [hpl] at m6 k6 hw0 ⊢
  clear Hbx h hbp hq hr h1 h2 hsl hm
  clear hpl
  by_cases hx1 : x = 1
  · subst hx1
    obtain ⟨y0, y11⟩ := HI.out rfl
    obtain ⟨n, rfl⟩ := Int.eq_ofNat_of_zero_le y0
    obtain ⟨b, off, cap1, b', off', cap2, rfl, e1, e2, _, _⟩ := HP1.out.k.m.word Hm.out (f := n) (a := r) (by omega) (by omega)
    have hnI : (n : Int) < 12 := by omega
    have HF := Lib.hid (show Kx.wordP p ad = Kx.word p.k.mem n r by rw [HW.out]; rfl)
    clear HI HJ HW
    unfold pagerV
    go_enter Tryz.func56, Tryz.ntmps56
    go_wp2_with fail
    go_ret
    exact ⟨by rw [HF.out]; rfl, HB.out⟩
  · by_cases hx2 : x = 2
    · subst hx2
      obtain ⟨y0, y15, hr4⟩ := HJ.out rfl
      obtain ⟨n, rfl⟩ := Int.eq_ofNat_of_zero_le y0
      obtain ⟨b, off, cap1, b', off', cap2, rfl, e1, e2⟩ := HP1.out.s.at4 (f := n) (a := r) (by rw [Hsl.out]; omega) hr4 (by omega)
      have hnI : (n : Int) < (p.swap.length : Int) := by rw [Hsl.out]; omega
      have HF := Lib.hid (show Kx.wordP p ad = Kx.word p.swap n r by rw [HW.out]; rfl)
      clear HI HJ HW hr4
      unfold pagerV
      go_enter Tryz.func56, Tryz.ntmps56
      go_wp2_with fail
      go_ret
      exact ⟨by rw [HF.out]; rfl, HB.out⟩
    · have hxa : (x == 1) = false := by simpa using hx1
      have hxb : (x == 2) = false := by simpa using hx2
      have HF := Lib.hid (show Kx.wordP p ad = 0 by rw [HW.out, if_neg hx1, if_neg hx2])
      clear HI HJ HW hx1 hx2
      unfold pagerV
      go_enter Tryz.func56, Tryz.ntmps56
      go_wp2_with fail
      go_ret
      exact ⟨by rw [HF.out]; rfl, HB.out⟩
end Go.Proofs.YtfnpjdgjceiklaaGreatDoor
